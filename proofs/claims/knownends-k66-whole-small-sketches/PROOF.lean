import PyProof.Rows.All
import Wide.All
import OpenK.AllK
import Wide.FinOn
import HandS.ForMost
import HandS.More
import HandS.TupAny
import HandS.Style
import HandS.IsInst
import HandS.DictComp
import HandS.SortKw
import HandS.NoneIn
import HandS.Wide
import HandS.Small
import HandS.SortInts
import KE.SortData
import HandS.Codes
import KE.KDictPairs
import HandS.Defaults
import PySem.Challenge.RW_knownends_k66_whole_small_sketches_by_al
import HandS.Set
import HandS.SetFor
import HandS.Strs
import KE.KStateDown
import Lean
import HandS.Base
import HandS.Call
import HandS.Ends
import HandS.Words
import HandS.WordsExc
import HandS.EndBits
import HandS.Head0
import HandS.Head1
import HandS.Head2
import HandS.HeadEnd
import HandS.HeadHook1
import HandS.HeadHook2
import HandS.HeadHook3
import HandS.HeadHook4
set_option Elab.async false
set_option linter.all false
set_option maxRecDepth 100000
set_option maxHeartbeats 2000000
/-! KD1: plain data over the hand layer: what a value is as data, what an expression hands back as data. -/
namespace KD
open PySem PySem.Spec PyProof.Rows L2
/-! ### data -/
inductive D where
  | non | bl (b : Bool) | int (i : Int) | str (x : Str)
  | tup (xs : List D) | lst (xs : List D)
  | dct (kvs : List (Str × Int))
  | dset (ks : List Str)
  | adr (a : Addr)
def kvI (kvs : List (Str × Int)) : List (Key × V) := kvs.map fun q => (Sum.inr q.1, V.int q.2)
def kvB (ks : List Str) : List (Key × V) := ks.map fun k => (Sum.inr k, V.bl true)
mutual
def Rep (F : Hp) : V → D → Prop
  | v, .non => v = .non
  | v, .bl b => v = .bl b
  | v, .int i => v = .int i
  | v, .str x => v = .str x
  | v, .tup ds => ∃ p xs o, v = .ref p ∧ F p = some (.frz o (.tup xs)) ∧ o.dict = none ∧ Reps F xs ds
  | v, .lst ds => ∃ p xs, v = .ref p ∧ F p = some (.lst xs) ∧ Reps F xs ds
  | v, .dct kvs => ∃ p, v = .ref p ∧ F p = some (.dK (kvI kvs))
  | v, .dset ks => ∃ p, v = .ref p ∧ F p = some (.dK (kvB ks))
  | v, .adr a => v = .ref a
def Reps (F : Hp) : List V → List D → Prop
  | xs, [] => xs = []
  | xs, d :: ds => ∃ x r, xs = x :: r ∧ Rep F x d ∧ Reps F r ds
end
/-- an object's content as data, its items as data over F -/
def IsO (F : Hp) : HO → D → Prop
  | .lst xs, .lst ds => Reps F xs ds
  | .dK ys, .dct kvs => ys = kvI kvs
  | .dK ys, .dset ks => ys = kvB ks
  | _, _ => False
def Sub (F F' : Hp) : Prop := ∀ a o, F a = some o → F' a = some o
mutual
theorem Rep.mono {F F' : Hp} (s : Sub F F') : ∀ (d : D) {v : V}, Rep F v d → Rep F' v d
  | .non, _, h => h
  | .bl _, _, h => h
  | .int _, _, h => h
  | .str _, _, h => h
  | .tup ds, _, h => by
    obtain ⟨p, xs, o, e, hp, ho, hr⟩ := h
    exact ⟨p, xs, o, e, s _ _ hp, ho, Reps.mono s ds hr⟩
  | .lst ds, _, h => by
    obtain ⟨p, xs, e, hp, hr⟩ := h
    exact ⟨p, xs, e, s _ _ hp, Reps.mono s ds hr⟩
  | .dct _, _, h => by
    obtain ⟨p, e, hp⟩ := h
    exact ⟨p, e, s _ _ hp⟩
  | .dset _, _, h => by
    obtain ⟨p, e, hp⟩ := h
    exact ⟨p, e, s _ _ hp⟩
  | .adr _, _, h => h
theorem Reps.mono {F F' : Hp} (s : Sub F F') : ∀ (ds : List D) {xs : List V}, Reps F xs ds → Reps F' xs ds
  | [], _, h => h
  | d :: ds, _, h => by
    obtain ⟨x, r, e, h1, h2⟩ := h
    exact ⟨x, r, e, Rep.mono s d h1, Reps.mono s ds h2⟩
end
theorem IsO.mono {F F' : Hp} (s : Sub F F') : ∀ {o : HO} {d : D}, IsO F o d → IsO F' o d := fun {o d} h => by
  cases o <;> cases d <;> first | exact h | exact Reps.mono s _ h
/-! ### lists of data -/
section
variable {F : Hp}
theorem Reps.nil : Reps F [] [] := rfl
theorem Reps.cons {x : V} {d : D} {xs : List V} {ds : List D} (h : Rep F x d) (t : Reps F xs ds) : Reps F (x :: xs) (d :: ds) := ⟨x, xs, rfl, h, t⟩
theorem Reps.len : ∀ {ds : List D} {xs : List V}, Reps F xs ds → xs.length = ds.length
  | [], _, h => by
    rw [show _ = [] from h]
    rfl
  | d :: ds, _, h => by
    obtain ⟨x, r, e, _, h2⟩ := h
    rw [e, List.length_cons, List.length_cons, Reps.len h2]
theorem Reps.get : ∀ {ds : List D} {xs : List V} {i : Nat} {d : D}, Reps F xs ds → ds[i]? = some d → ∃ x, xs[i]? = some x ∧ Rep F x d
  | [], _, _, _, _, e => by simp at e
  | d :: ds, _, 0, d', h, e => by
    obtain ⟨x, r, ex, h1, _⟩ := h
    have e' : d = d' := Option.some.inj e
    subst e' ex
    exact ⟨x, rfl, h1⟩
  | d :: ds, _, i + 1, d', h, e => by
    obtain ⟨x, r, ex, _, h2⟩ := h
    subst ex
    exact Reps.get (i := i) h2 e
theorem Reps.getX : ∀ {ds : List D} {xs : List V} {i : Nat} {x : V}, Reps F xs ds → xs[i]? = some x → ∃ d, ds[i]? = some d ∧ Rep F x d
  | [], _, _, _, h, e => by
    rw [show _ = [] from h] at e
    simp at e
  | d :: ds, _, 0, x', h, e => by
    obtain ⟨x, r, ex, h1, _⟩ := h
    subst ex
    have e' : x = x' := Option.some.inj e
    subst e'
    exact ⟨d, rfl, h1⟩
  | d :: ds, _, i + 1, x', h, e => by
    obtain ⟨x, r, ex, _, h2⟩ := h
    subst ex
    exact Reps.getX (i := i) h2 e
theorem Reps.append : ∀ {ds es : List D} {xs ys : List V}, Reps F xs ds → Reps F ys es → Reps F (xs ++ ys) (ds ++ es)
  | [], _, _, _, h, t => by
    rw [show _ = [] from h]
    exact t
  | d :: ds, _, _, _, h, t => by
    obtain ⟨x, r, e, h1, h2⟩ := h
    subst e
    exact ⟨x, _, rfl, h1, Reps.append h2 t⟩
theorem Reps.snoc {x : V} {d : D} {xs : List V} {ds : List D} (t : Reps F xs ds) (h : Rep F x d) : Reps F (xs ++ [x]) (ds ++ [d]) := t.append (Reps.cons h Reps.nil)
theorem Reps.take : ∀ {ds : List D} {xs : List V} (n : Nat), Reps F xs ds → Reps F (xs.take n) (ds.take n)
  | _, _, 0, _ => by simp; exact Reps.nil
  | [], _, n + 1, h => by
    rw [show _ = [] from h]
    exact Reps.nil
  | d :: ds, _, n + 1, h => by
    obtain ⟨x, r, e, h1, h2⟩ := h
    subst e
    exact ⟨x, _, rfl, h1, Reps.take n h2⟩
theorem Reps.drop : ∀ {ds : List D} {xs : List V} (n : Nat), Reps F xs ds → Reps F (xs.drop n) (ds.drop n)
  | _, _, 0, h => h
  | [], _, n + 1, h => by
    rw [show _ = [] from h]
    exact Reps.nil
  | d :: ds, _, n + 1, h => by
    obtain ⟨x, r, e, h1, h2⟩ := h
    subst e
    exact Reps.drop n h2
theorem Reps.reverse : ∀ {ds : List D} {xs : List V}, Reps F xs ds → Reps F xs.reverse ds.reverse
  | [], _, h => by
    rw [show _ = [] from h]
    exact Reps.nil
  | d :: ds, _, h => by
    obtain ⟨x, r, e, h1, h2⟩ := h
    subst e
    rw [List.reverse_cons, List.reverse_cons]
    exact (Reps.reverse h2).snoc h1
theorem Reps.dropLast {ds : List D} {xs : List V} (h : Reps F xs ds) : Reps F xs.dropLast ds.dropLast := by
  rw [List.dropLast_eq_take, List.dropLast_eq_take, h.len]
  exact h.take _
theorem Reps.set : ∀ {ds : List D} {xs : List V} {x : V} {d : D} (i : Nat), Reps F xs ds → Rep F x d → Reps F (xs.set i x) (ds.set i d)
  | [], _, _, _, _, h, _ => by
    rw [show _ = [] from h]
    exact Reps.nil
  | d :: ds, _, _, _, 0, h, hx => by
    obtain ⟨x, r, e, h1, h2⟩ := h
    subst e
    exact ⟨_, _, rfl, hx, h2⟩
  | d :: ds, _, _, _, i + 1, h, hx => by
    obtain ⟨x, r, e, h1, h2⟩ := h
    subst e
    exact ⟨_, _, rfl, h1, Reps.set i h2 hx⟩
/-- data whose values are fixed -/
theorem Reps.scal {α : Type} {f : α → D} {g : α → V} (hg : ∀ a v, Rep F v (f a) → v = g a) : ∀ {as : List α} {xs : List V}, Reps F xs (as.map f) → xs = as.map g
  | [], _, h => h
  | a :: as, _, h => by
    obtain ⟨x, r, e, h1, h2⟩ := h
    rw [e, hg a x h1, Reps.scal hg h2]
    rfl
theorem Reps.mk {α : Type} {f : α → D} {g : α → V} (hg : ∀ a, Rep F (g a) (f a)) : ∀ (as : List α), Reps F (as.map g) (as.map f)
  | [] => rfl
  | a :: as => ⟨_, _, rfl, hg a, Reps.mk hg as⟩
theorem Reps.ints {ns : List Int} {xs : List V} (h : Reps F xs (ns.map D.int)) : xs = ns.map V.int := Reps.scal (fun _ _ h => by simpa only [Rep] using h) h
theorem Reps.bls {ns : List Bool} {xs : List V} (h : Reps F xs (ns.map D.bl)) : xs = ns.map V.bl := Reps.scal (fun _ _ h => by simpa only [Rep] using h) h
theorem Reps.strs {ns : List Str} {xs : List V} (h : Reps F xs (ns.map D.str)) : xs = ns.map V.str := Reps.scal (fun _ _ h => by simpa only [Rep] using h) h
end
/-! ### heaps: F what is frozen, H what stands -/
/-- lists that may change under a call, and what is known of them -/
class Vol where
  vol : Addr → Prop
  inv : Hp → Prop
  ls : ∀ {H : Hp} {a : Addr}, inv H → vol a → ∃ xs, H a = some (.lst xs)
  kp : ∀ {H H' : Hp}, inv H → (∀ a o, vol a → H a = some o → H' a = some o) → inv H'
@[reducible] def volNone : Vol := ⟨fun _ => False, fun _ => True, fun _ h => h.elim, fun _ _ => trivial⟩
def Lk : HO → Prop
  | .dK _ => True
  | _ => False
section
variable [Vol]
/-- it stands so, or is locked by a loop -/
def RM (H : Hp) (a : Addr) (o : HO) : Prop := (H a = some o ∨ (Lk o ∧ ∃ ob, H a = some (.frz ob o))) ∧ ¬ Vol.vol a
structure Fz (F H : Hp) : Prop where
  rm : ∀ a o, F a = some o → RM H a o
  iv : Vol.inv H
instance {F H : Hp} : CoeFun (Fz F H) (fun _ => ∀ a o, F a = some o → RM H a o) := ⟨Fz.rm⟩
theorem RM.rd {H : Hp} {a : Addr} {o : HO} (h : RM H a o) : Rd H a o := h.1.elim .inl fun z => .inr z.2
structure Step (F H F' H' : Hp) : Prop where
  ex : Sub F F'
  fz : Fz F' H'
  hh : ∀ a o, ¬ Vol.vol a → H a = some o → H' a = some o
  off : ∀ a, F a = none → H a ≠ none → F' a = none
  iv0 : Vol.inv H
theorem vol_some {H : Hp} {a : Addr} (i : Vol.inv H) (v : Vol.vol a) : H a ≠ none := by
  obtain ⟨xs, e⟩ := Vol.ls i v
  rw [e]
  exact fun z => nomatch z
theorem Fz.new {F H : Hp} (f : Fz F H) {p : Addr} (h : H p = none) : ¬ Vol.vol p := fun v => vol_some f.iv v h
theorem nv_frz {H : Hp} {a : Addr} {ob : Obj} {o : HO} (i : Vol.inv H) (h : H a = some (.frz ob o)) : ¬ Vol.vol a := fun v => by
  obtain ⟨xs, e⟩ := Vol.ls i v
  rw [h] at e
  cases e
theorem nv_dK {H : Hp} {a : Addr} {ys : List (Key × V)} (i : Vol.inv H) (h : Rd H a (.dK ys)) : ¬ Vol.vol a := fun v => by
  obtain ⟨xs, e⟩ := Vol.ls i v
  rcases h with h | ⟨ob, h⟩
  · rw [h] at e
    cases e
  · rw [h] at e
    cases e
theorem Step.al {F H F' H' : Hp} (t : Step F H F' H') {a : Addr} (h : H a ≠ none) : H' a ≠ none := by
  by_cases v : Vol.vol a
  · exact vol_some t.fz.iv v
  · cases e : H a with
    | none => exact absurd e h
    | some o =>
      rw [t.hh a o v e]
      exact fun z => nomatch z
theorem Rd.st {F H F' H' : Hp} (t : Step F H F' H') {a : Addr} {o : HO} (nv : ¬ Vol.vol a) (h : Rd H a o) : Rd H' a o := by
  rcases h with h | ⟨ob, h⟩
  · exact .inl (t.hh _ _ nv h)
  · exact .inr ⟨ob, t.hh _ _ nv h⟩
theorem RM.st {F H F' H' : Hp} (t : Step F H F' H') {a : Addr} {o : HO} (h : RM H a o) : RM H' a o := by
  obtain ⟨h, nv⟩ := h
  rcases h with h | ⟨m, ob, h⟩
  · exact ⟨.inl (t.hh _ _ nv h), nv⟩
  · exact ⟨.inr ⟨m, ob, t.hh _ _ nv h⟩, nv⟩
theorem RM.sub {H H' : Hp} {a : Addr} {o : HO} (h : RM H a o) (s : Sub H H') : RM H' a o := by
  obtain ⟨h, nv⟩ := h
  rcases h with h | ⟨m, ob, h⟩
  · exact ⟨.inl (s _ _ h), nv⟩
  · exact ⟨.inr ⟨m, ob, s _ _ h⟩, nv⟩
theorem Step.refl {F H : Hp} (f : Fz F H) : Step F H F H := ⟨fun _ _ h => h, f, fun _ _ _ h => h, fun _ h _ => h, f.iv⟩
theorem Step.trans {F H F1 H1 F2 H2 : Hp} (a : Step F H F1 H1) (b : Step F1 H1 F2 H2) : Step F H F2 H2 :=
  ⟨fun c o h => b.ex c o (a.ex c o h), b.fz, fun c o v h => b.hh c o v (a.hh c o v h), fun c h1 h2 => b.off c (a.off c h1 h2) (a.al h2), a.iv0⟩
theorem Fz.none {F H : Hp} (f : Fz F H) {p : Addr} (h : H p = none) : F p = none := by
  cases q : F p with
  | none => rfl
  | some o =>
    rcases (f p o q).1 with z | ⟨_, ob, z⟩
    · rw [h] at z
      cases z
    · rw [h] at z
      cases z
theorem sub_upd {F : Hp} {p : Addr} {o : HO} (h : F p = none) : Sub F (upd F p o) := fun a u e => by
  rw [upd_ne (ne_of_none e h)]
  exact e
theorem Step.back {F H F' H' : Hp} (s : Step F H F' H') {p : Addr} (h : H' p = none) : H p = none := by
  cases q : H p with
  | none => rfl
  | some o => exact absurd h (s.al (by rw [q]; exact fun z => nomatch z))
theorem inv_upd {H : Hp} {p : Addr} {o : HO} (i : Vol.inv H) (h : ¬ Vol.vol p) : Vol.inv (upd H p o) := Vol.kp i fun a u v e => by
  have n : a ≠ p := fun z => h (by rw [← z]; exact v)
  rw [upd_ne n]
  exact e
/-- a new object, frozen at once -/
theorem Step.new {F H : Hp} (f : Fz F H) {p : Addr} {o : HO} (h : H p = none) : Step F H (upd F p o) (upd H p o) := by
  refine ⟨sub_upd (f.none h), ⟨fun a u e => ?_, inv_upd f.iv (f.new h)⟩, fun a u _ => sub_upd h a u, fun a h1 h2 => ?_, f.iv⟩
  · by_cases q : a = p
    · subst q
      rw [upd_same] at e
      cases e
      exact ⟨.inl upd_same, f.new h⟩
    · rw [upd_ne q] at e
      exact RM.sub (f a u e) (sub_upd h)
  · have q : a ≠ p := fun z => h2 (z ▸ h)
    rw [upd_ne q]
    exact h1
/-- a new object, not frozen -/
theorem Step.fresh {F H : Hp} (f : Fz F H) {p : Addr} {o : HO} (h : H p = none) : Step F H F (upd H p o) :=
  ⟨fun _ _ e => e, ⟨fun a u e => RM.sub (f a u e) (sub_upd h), inv_upd f.iv (f.new h)⟩, fun a u _ => sub_upd h a u, fun _ h1 _ => h1, f.iv⟩
/-- a fresh object is frozen -/
theorem Step.freeze {F H F' H' : Hp} (f : Fz F H) (s : Step F H F' H') {p : Addr} {o : HO} (h0 : H p = none) (h1 : H' p = some o) : Step F H (upd F' p o) H' := by
  have hF : F p = none := f.none h0
  refine ⟨fun a u e => ?_, ⟨fun a u e => ?_, s.fz.iv⟩, s.hh, fun a q1 q2 => ?_, s.iv0⟩
  · rw [upd_ne (ne_of_none e hF)]
    exact s.ex a u e
  · by_cases q : a = p
    · subst q
      rw [upd_same] at e
      cases e
      exact ⟨.inl h1, f.new h0⟩
    · rw [upd_ne q] at e
      exact s.fz a u e
  · have q : a ≠ p := fun z => q2 (z ▸ h0)
    rw [upd_ne q]
    exact s.off a q1 q2
end
end KD

set_option Elab.async false
set_option linter.all false
set_option maxRecDepth 100000
set_option maxHeartbeats 2000000
/-! KD2: what an expression hands back, as data; names, constants, arithmetic, comparisons, displays. -/
namespace KD
open PySem PySem.Spec PyProof.Rows L2
variable [Vol]
/-! ### slots -/
inductive SV where
  | un | fz (d : D) | ow (d : D)
structure SOk (ρ : List SV) (σ : L2.St) (F H : Hp) : Prop where
  len : σ.length = ρ.length
  ex : ∃ ad : Nat → Addr,
    (∀ (i : Nat) (d : D), ρ[i]? = some (.fz d) → ∃ v, σ[i]? = some (some v) ∧ Rep F v d) ∧
    (∀ (i : Nat) (d : D), ρ[i]? = some (.ow d) → ∃ o, σ[i]? = some (some (.ref (ad i))) ∧ RM H (ad i) o ∧ F (ad i) = none ∧ IsO F o d) ∧
    (∀ (i j : Nat) (d d' : D), ρ[i]? = some (.ow d) → ρ[j]? = some (.ow d') → ad i = ad j → i = j)
theorem SOk.step {ρ : List SV} {σ : L2.St} {F H F' H' : Hp} (s : SOk ρ σ F H) (t : Step F H F' H') : SOk ρ σ F' H' := by
  obtain ⟨ad, h1, h2, h3⟩ := s.ex
  refine ⟨s.len, ad, fun i d e => ?_, fun i d e => ?_, h3⟩
  · obtain ⟨v, a, b⟩ := h1 i d e
    exact ⟨v, a, Rep.mono t.ex d b⟩
  · obtain ⟨o, a, b, c, q⟩ := h2 i d e
    refine ⟨o, a, RM.st t b, t.off _ c ?_, IsO.mono t.ex q⟩
    rcases b.1 with b | ⟨_, ob, b⟩
    · rw [b]
      exact fun z => nomatch z
    · rw [b]
      exact fun z => nomatch z
/-! ### what is handed back -/
abbrev tS (X : Cx) (e : Expr) : TE := fun σ H Q => ∀ (pins : List (Addr × Obj)) (s : Shared), Inv X pins σ H s → wpAny (model X.prog X.w) X.A (eval e X.env) (EP X pins σ Q) X.xe s
abbrev tST (X : Cx) (e : Expr) : TT := fun σ H Q => ∀ (pins : List (Addr × Obj)) (s : Shared), Inv X pins σ H s → wpAny (model X.prog X.w) X.A (isTrue e X.env (eval e X.env)) (TP X pins σ Q) X.xe s
theorem peS {X : Cx} {e : Expr} : PE X e (tS X e) := ⟨fun pins s _ _ _ I h => h pins s I⟩
theorem ptS {X : Cx} {e : Expr} : PT X e (tST X e) := ⟨fun pins s _ _ _ I h => h pins s I⟩
theorem peR {X : Cx} {e : Expr} {t : TE} (h : PE X e t) {σ : L2.St} {H : Hp} {Q : VK} (q : t σ H Q) : tS X e σ H Q := fun pins s I => h.run pins s σ H Q I q
theorem ptR {X : Cx} {e : Expr} {t : TT} (h : PT X e t) {σ : L2.St} {H : Hp} {Q : Bool → Hp → Prop} (q : t σ H Q) : tST X e σ H Q := fun pins s I => h.run pins s σ H Q I q
/-- a value that may be read as d -/
def Vl (F H : Hp) (v : V) : D → Prop
  | .non => v = .non
  | .bl b => v = .bl b
  | .int i => v = .int i
  | .str x => v = .str x
  | .tup ds => ∃ p xs o, v = .ref p ∧ H p = some (.frz o (.tup xs)) ∧ o.dict = none ∧ Reps F xs ds
  | .lst ds => ∃ p xs, v = .ref p ∧ (Rd H p (.lst xs) ∧ ¬ Vol.vol p) ∧ Reps F xs ds
  | .dct kvs => ∃ p, v = .ref p ∧ Rd H p (.dK (kvI kvs))
  | .dset ks => ∃ p, v = .ref p ∧ Rd H p (.dK (kvB ks))
  | .adr a => v = .ref a
theorem Vl.step {F H F' H' : Hp} (t : Step F H F' H') {v : V} {d : D} (h : Vl F H v d) : Vl F' H' v d := by
  cases d with
  | tup ds =>
    obtain ⟨p, xs, o, e, r, ho, q⟩ := h
    exact ⟨p, xs, o, e, t.hh _ _ (nv_frz t.iv0 r) r, ho, Reps.mono t.ex ds q⟩
  | lst ds =>
    obtain ⟨p, xs, e, r, q⟩ := h
    exact ⟨p, xs, e, ⟨Rd.st t r.2 r.1, r.2⟩, Reps.mono t.ex ds q⟩
  | dct kvs =>
    obtain ⟨p, e, r⟩ := h
    exact ⟨p, e, Rd.st t (nv_dK t.iv0 r) r⟩
  | dset ks =>
    obtain ⟨p, e, r⟩ := h
    exact ⟨p, e, Rd.st t (nv_dK t.iv0 r) r⟩
  | _ => exact h
theorem Rep.vl {F H : Hp} (f : Fz F H) {v : V} {d : D} (h : Rep F v d) : Vl F H v d := by
  cases d with
  | tup ds =>
    obtain ⟨p, xs, o, e, r, ho, q⟩ := h
    refine ⟨p, xs, o, e, ?_, ho, q⟩
    rcases (f _ _ r).1 with z | ⟨z, _⟩
    · exact z
    · exact z.elim
  | lst ds =>
    obtain ⟨p, xs, e, r, q⟩ := h
    exact ⟨p, xs, e, ⟨(f _ _ r).rd, (f _ _ r).2⟩, q⟩
  | dct kvs =>
    obtain ⟨p, e, r⟩ := h
    exact ⟨p, e, (f _ _ r).rd⟩
  | dset ks =>
    obtain ⟨p, e, r⟩ := h
    exact ⟨p, e, (f _ _ r).rd⟩
  | _ => exact h
theorem IsO.vlR {F H : Hp} {p : Addr} {o : HO} {d : D} (nv : ¬ Vol.vol p) (h : Rd H p o) (q : IsO F o d) : Vl F H (.ref p) d := by
  cases o <;> cases d <;> first
    | exact False.elim q
    | exact ⟨p, _, rfl, ⟨h, nv⟩, q⟩
    | exact ⟨p, rfl, by rw [← show _ = _ from q]; exact h⟩
theorem IsO.vl {F H : Hp} {p : Addr} {o : HO} {d : D} (nv : ¬ Vol.vol p) (h : H p = some o) (q : IsO F o d) : Vl F H (.ref p) d := IsO.vlR nv (.inl h) q
theorem IsO.rep {F : Hp} {p : Addr} {o : HO} {d : D} (h : F p = some o) (q : IsO F o d) : Rep F (.ref p) d := by
  cases o <;> cases d <;> first
    | exact False.elim q
    | exact ⟨p, _, rfl, h, q⟩
    | exact ⟨p, rfl, by rw [h, show _ = _ from q]⟩
/-- storable: frozen data (or a scalar) -/
def SemF (X : Cx) (e : Expr) (ρ : List SV) (d : D) : Prop := ∀ (σ : L2.St) (F H : Hp) (Q : VK), Fz F H → SOk ρ σ F H → (∀ v F' H', Step F H F' H' → Rep F' v d → Q v H') → tS X e σ H Q
/-- a new object -/
def SemN (X : Cx) (e : Expr) (ρ : List SV) (d : D) : Prop := ∀ (σ : L2.St) (F H : Hp) (Q : VK), Fz F H → SOk ρ σ F H →
  (∀ p o F' H', Step F H F' H' → H p = none → F' p = none → H' p = some o → IsO F' o d → Q (.ref p) H') → tS X e σ H Q
/-- readable -/
def SemV (X : Cx) (e : Expr) (ρ : List SV) (d : D) : Prop := ∀ (σ : L2.St) (F H : Hp) (Q : VK), Fz F H → SOk ρ σ F H → (∀ v F' H', Step F H F' H' → Vl F' H' v d → Q v H') → tS X e σ H Q
def SemT (X : Cx) (e : Expr) (ρ : List SV) (b : Bool) : Prop := ∀ (σ : L2.St) (F H : Hp) (Q : Bool → Hp → Prop), Fz F H → SOk ρ σ F H → (∀ F' H', Step F H F' H' → Q b H') → tST X e σ H Q
section
variable {X : Cx} {e : Expr} {ρ : List SV} {d : D}
theorem SemF.v (h : SemF X e ρ d) : SemV X e ρ d := fun σ F H Q f s k => h σ F H Q f s fun v F' H' t r => k v F' H' t (r.vl t.fz)
theorem SemN.v (h : SemN X e ρ d) : SemV X e ρ d := fun σ F H Q f s k => h σ F H Q f s fun p o F' H' t h1 _ h3 q => k _ F' H' t (IsO.vl (f.new h1) h3 q)
theorem SemN.f (h : SemN X e ρ d) : SemF X e ρ d := fun σ F H Q f s k => h σ F H Q f s fun p o F' H' t h1 h2 h3 q =>
  k _ (upd F' p o) H' (t.freeze f h1 h3) (IsO.rep upd_same (IsO.mono (sub_upd h2) q))
theorem SemF.is {d' : D} (h : SemF X e ρ d) (q : d = d') : SemF X e ρ d' := q ▸ h
theorem SemV.is {d' : D} (h : SemV X e ρ d) (q : d = d') : SemV X e ρ d' := q ▸ h
theorem SemN.is {d' : D} (h : SemN X e ρ d) (q : d = d') : SemN X e ρ d' := q ▸ h
theorem SemT.is {b b' : Bool} (h : SemT X e ρ b) (q : b = b') : SemT X e ρ b' := q ▸ h
/-- scalars: readable is storable -/
def scl : D → Bool
  | .non => true
  | .bl _ => true
  | .int _ => true
  | .str _ => true
  | _ => false
theorem Vl.rep {F H : Hp} {v : V} (hs : scl d = true) (h : Vl F H v d) : Rep F v d := by
  cases d <;> first | exact h | cases hs
theorem SemV.f (h : SemV X e ρ d) (hs : scl d = true) : SemF X e ρ d := fun σ F H Q f s k => h σ F H Q f s fun v F' H' t r => k v F' H' t (r.rep hs)
end
/-! ### the context -/
structure Gd (X : Cx) (N : List Str) (sc : Scope) (k : Nat) : Prop where
  hN : X.N = N
  nd : N.Nodup
  hsc : X.env.scope = sc
  calm : X.calm = true
  rm : Room k X.A
  xe : X.xe = fun _ _ => False
theorem Gd.hu {X : Cx} {N : List Str} {sc : Scope} {k : Nat} (g : Gd X N sc k) : X.A.units + 1 < cLine := hu_of g.rm
theorem Gd.hu64 {X : Cx} {N : List Str} {sc : Scope} {k : Nat} (g : Gd X N sc k) : X.A.units + 65 < cLine := by
  have := g.rm.un
  omega
theorem Gd.ndX {X : Cx} {N : List Str} {sc : Scope} {k : Nat} (g : Gd X N sc k) : X.N.Nodup := by
  rw [g.hN]
  exact g.nd
/-- a comprehension's block -/
abbrev BX (X : Cx) (scope : Scope) (s : Shared) (H : Hp) (C : Addr) (cl : List (Str × Addr)) (fp : List Addr) : Cx := X.blk s H scope (compEnvC scope cl C X.env) fp
theorem Gd.blk {X : Cx} {N : List Str} {sc : Scope} {k : Nat} (g : Gd X N sc k) (scope : Scope) (s : Shared) (H : Hp) (C : Addr) (cl : List (Str × Addr)) (fp : List Addr) :
    Gd (BX X scope s H C cl fp) N (relS scope sc) k :=
  ⟨g.hN, g.nd, by rw [← g.hsc]; rfl, g.calm, g.rm, rfl⟩
def visB (sc : Scope) (x : Str) : Bool := match sc.names.lookup x with
  | some .local => true
  | some .cell => true
  | some .free => true
  | _ => false
theorem vis_of {sc : Scope} {x : Str} (h : visB sc x = true) : Vis sc x := by
  unfold visB at h
  split at h
  · exact .inl (by assumption)
  · exact .inr (.inl (by assumption))
  · exact .inr (.inr (by assumption))
  · cases h
def glB (sc : Scope) (x : Str) : Bool := match sc.names.lookup x with
  | some .globalImplicit => true
  | _ => false
theorem gl_of {X : Cx} {N : List Str} {sc : Scope} {k : Nat} (g : Gd X N sc k) {x : Str} (h : glB sc x = true) : Gl X x := by
  unfold glB at h
  split at h
  · show X.env.scope.names.lookup x = _
    rw [g.hsc]
    assumption
  · cases h
/-! ### names and constants -/
section
variable {X : Cx} {N : List Str} {sc : Scope} {k : Nat} {ρ : List SV} {pos : Pos} {x : Str} {d : D}
theorem pe_nm (g : Gd X N sc k) {i : Nat} (hi : N[i]? = some x) (hv : visB sc x = true) (hd : (x == ("__debug__" : Str)) = false) (hcd : (x == ("__classdict__" : Str)) = false) : PE X (.Name x pos) (tVar i) :=
  pe_var (by rw [g.hN]; exact hi) (by rw [g.hsc]; exact vis_of hv) hd hcd
theorem f_name (g : Gd X N sc k) (i : Nat) (hi : N[i]? = some x := by rfl) (hρ : ρ[i]? = some (.fz d) := by rfl) (hv : visB sc x = true := by rfl) (hd : (x == ("__debug__" : Str)) = false := by decide) (hcd : (x == ("__classdict__" : Str)) = false := by decide) :
    SemF X (.Name x pos) ρ d := fun σ F H Q f s q => by
  obtain ⟨ad, h1, _, _⟩ := s.ex
  obtain ⟨v, e, r⟩ := h1 i d hρ
  exact peR (pe_nm g hi hv hd hcd) ⟨v, e, q v F H (.refl f) r⟩
theorem v_own (g : Gd X N sc k) (i : Nat) (hi : N[i]? = some x := by rfl) (hρ : ρ[i]? = some (.ow d) := by rfl) (hv : visB sc x = true := by rfl) (hd : (x == ("__debug__" : Str)) = false := by decide) (hcd : (x == ("__classdict__" : Str)) = false := by decide) :
    SemV X (.Name x pos) ρ d := fun σ F H Q f s q => by
  obtain ⟨ad, _, h2, _⟩ := s.ex
  obtain ⟨o, e, hH, hF, r⟩ := h2 i d hρ
  exact peR (pe_nm g hi hv hd hcd) ⟨_, e, q _ F H (.refl f) (IsO.vlR hH.2 hH.rd r)⟩
theorem f_int {i : Int} {j : Nat} : SemF X (.Constant (.int i) j pos) ρ (.int i) := fun σ F H Q f s q => peR pe_int (q _ F H (.refl f) rfl)
theorem f_bl {b : Bool} {j : Nat} : SemF X (.Constant (.bool b) j pos) ρ (.bl b) := fun σ F H Q f s q => peR pe_bl (q _ F H (.refl f) rfl)
theorem f_non {j : Nat} : SemF X (.Constant .none j pos) ρ .non := fun σ F H Q f s q => peR pe_non (q _ F H (.refl f) rfl)
theorem f_str {z : Str} {j : Nat} : SemF X (.Constant (.str z) j pos) ρ (.str z) := fun σ F H Q f s q => peR pe_str (q _ F H (.refl f) rfl)
theorem f_gint (g : Gd X N sc k) {i : Int} (hm : ∃ t, X.mg x = some (.int i t)) (hg : glB sc x = true := by rfl) (hd : (x == ("__debug__" : Str)) = false := by decide) : SemF X (.Name x pos) ρ (.int i) := fun σ F H Q f s q => by
  obtain ⟨t, hm⟩ := hm
  exact peR (pe_glob (gl_of g hg) hm (v := .int i) ⟨t, rfl⟩ hd) (q _ F H (.refl f) rfl)
theorem f_gstr (g : Gd X N sc k) {z : Str} (hm : ∃ t, X.mg x = some (.str z t)) (hg : glB sc x = true := by rfl) (hd : (x == ("__debug__" : Str)) = false := by decide) : SemF X (.Name x pos) ρ (.str z) := fun σ F H Q f s q => by
  obtain ⟨t, hm⟩ := hm
  exact peR (pe_glob (gl_of g hg) hm (v := .str z) ⟨t, rfl⟩ hd) (q _ F H (.refl f) rfl)
end
/-! ### two-place operations -/
/-- an operation on readable values that hands back a storable one -/
def Op2 (X : Cx) (f : Value → Value → Sem Value) (x y z : D) : Prop := ∃ r : R2, OpR X f r ∧ ∀ (F H : Hp) (vx vy : V) (Q : VK), Fz F H → Vl F H vx x → Vl F H vy y → (∀ v F' H', Step F H F' H' → Rep F' v z → Q v H') → r vx vy H Q
section
variable {X : Cx} {ρ : List SV} {pos : Pos} {a b : Expr} {x y z : D}
theorem f_op {op : Operator} (o : Op2 X (binaryOp op) x y z) (ha : SemV X a ρ x) (hb : SemV X b ρ y) : SemF X (.BinOp a op b pos) ρ z := fun σ F H Q f s q => by
  obtain ⟨r, ho, hr⟩ := o
  refine peR (pe_op ho peS peS) (ha σ F H _ f s fun vx F1 H1 t1 r1 => hb σ F1 H1 _ t1.fz (s.step t1) fun vy F2 H2 t2 r2 => hr F2 H2 vx vy Q t2.fz (r1.step t2) r2 fun v F3 H3 t3 r3 => q v F3 H3 ((t1.trans t2).trans t3) r3)
theorem f_cmp {op : CmpOp} (o : Op2 X (compareOp op) x y z) (ha : SemV X a ρ x) (hb : SemV X b ρ y) (hm : behindInMarks op b = false := by with_unfolding_all rfl) : SemF X (.Compare a [op] [b] pos) ρ z := fun σ F H Q f s q => by
  obtain ⟨r, ho, hr⟩ := o
  refine peR (pe_cmpR ho peS peS hm) (ha σ F H _ f s fun vx F1 H1 t1 r1 => hb σ F1 H1 _ t1.fz (s.step t1) fun vy F2 H2 t2 r2 => hr F2 H2 vx vy Q t2.fz (r1.step t2) r2 fun v F3 H3 t3 r3 => q v F3 H3 ((t1.trans t2).trans t3) r3)
theorem t_cmp {op : CmpOp} {c : Bool} (o : Op2 X (compareOp op) x y (.bl c)) (ha : SemV X a ρ x) (hb : SemV X b ρ y) (hm : behindInMarks op b = false := by with_unfolding_all rfl) : SemT X (.Compare a [op] [b] pos) ρ c := fun σ F H Q f s q => by
  obtain ⟨r, ho, hr⟩ := o
  refine ptR (pt_cmpR ho peS peS hm) (ha σ F H _ f s fun vx F1 H1 t1 r1 => hb σ F1 H1 _ t1.fz (s.step t1) fun vy F2 H2 t2 r2 => hr F2 H2 vx vy _ t2.fz (r1.step t2) r2 fun v F3 H3 t3 r3 => ⟨c, r3, q F3 H3 ((t1.trans t2).trans t3)⟩)
/-- a op1 b op2 c -/
theorem f_chain {op op' : CmpOp} {c : Expr} {w : D} {k l : Bool} (o : Op2 X (compareOp op) x y (.bl k)) (o' : k = true → Op2 X (compareOp op') y w (.bl l)) (ha : SemV X a ρ x) (hb : SemV X b ρ y) (hc : SemV X c ρ w)
    (hm : lastMarks [op, op'] [b, c] = false := by with_unfolding_all rfl) (d' : ∃ r, OpR X (compareOp op') r := by exact ⟨_, op_le⟩) : SemF X (.Compare a [op, op'] [b, c] pos) ρ (.bl (k && l)) := fun σ F H Q f s q => by
  obtain ⟨r, ho, hr⟩ := o
  cases k with
  | false =>
    obtain ⟨r', ho'⟩ := d'
    refine peR (pe_chain ho ho' peS peS peS hm) (ha σ F H _ f s fun vx F1 H1 t1 r1 => hb σ F1 H1 _ t1.fz (s.step t1) fun vy F2 H2 t2 r2 => hr F2 H2 vx vy _ t2.fz (r1.step t2) r2 fun v F3 H3 t3 r3 => ⟨false, r3, ?_⟩)
    rw [if_neg Bool.false_ne_true]
    exact q _ F3 H3 ((t1.trans t2).trans t3) rfl
  | true =>
    obtain ⟨r', ho', hr'⟩ := o' rfl
    refine peR (pe_chain ho ho' peS peS peS hm) (ha σ F H _ f s fun vx F1 H1 t1 r1 => hb σ F1 H1 _ t1.fz (s.step t1) fun vy F2 H2 t2 r2 => hr F2 H2 vx vy _ t2.fz (r1.step t2) r2 fun v F3 H3 t3 r3 => ⟨true, r3, ?_⟩)
    rw [if_pos rfl]
    have t13 := (t1.trans t2).trans t3
    exact hc σ F3 H3 _ t3.fz (s.step t13) fun vw F4 H4 t4 r4 => hr' F4 H4 vy vw Q t4.fz (r2.step (t3.trans t4)) r4 fun v F5 H5 t5 r5 => q v F5 H5 (t13.trans (t4.trans t5)) r5
/-- a value's reading as a test -/
theorem t_val {e : Expr} {c : Bool} (h : SemF X e ρ (.bl c)) (he : ∀ whole, isTrue e X.env whole = (do let v ← whole; standAt e.pos; holding [v] (truthy v)) := by intro _; rfl) : SemT X e ρ c := fun σ F H Q f s q =>
  ptR (pt_val peS he) (h σ F H _ f s fun v F' H' t r => ⟨c, r, q F' H' t⟩)
theorem t_chain {op op' : CmpOp} {c : Expr} {w : D} {k l : Bool} (o : Op2 X (compareOp op) x y (.bl k)) (o' : k = true → Op2 X (compareOp op') y w (.bl l)) (ha : SemV X a ρ x) (hb : SemV X b ρ y) (hc : SemV X c ρ w)
    (hm : lastMarks [op, op'] [b, c] = false := by with_unfolding_all rfl) (d' : ∃ r, OpR X (compareOp op') r := by exact ⟨_, op_le⟩) : SemT X (.Compare a [op, op'] [b, c] pos) ρ (k && l) := fun σ F H Q f s q => by
  obtain ⟨r, ho, hr⟩ := o
  cases k with
  | false =>
    obtain ⟨r', ho'⟩ := d'
    refine ptR (pt_chain ho ho' peS peS peS hm) (ha σ F H _ f s fun vx F1 H1 t1 r1 => hb σ F1 H1 _ t1.fz (s.step t1) fun vy F2 H2 t2 r2 => hr F2 H2 vx vy _ t2.fz (r1.step t2) r2 fun v F3 H3 t3 r3 => ⟨false, r3, ?_⟩)
    rw [if_neg Bool.false_ne_true]
    exact ⟨false, rfl, q F3 H3 ((t1.trans t2).trans t3)⟩
  | true =>
    obtain ⟨r', ho', hr'⟩ := o' rfl
    refine ptR (pt_chain ho ho' peS peS peS hm) (ha σ F H _ f s fun vx F1 H1 t1 r1 => hb σ F1 H1 _ t1.fz (s.step t1) fun vy F2 H2 t2 r2 => hr F2 H2 vx vy _ t2.fz (r1.step t2) r2 fun v F3 H3 t3 r3 => ⟨true, r3, ?_⟩)
    rw [if_pos rfl]
    have t13 := (t1.trans t2).trans t3
    exact hc σ F3 H3 _ t3.fz (s.step t13) fun vw F4 H4 t4 r4 => hr' F4 H4 vy vw _ t4.fz (r2.step (t3.trans t4)) r4 fun v F5 H5 t5 r5 => ⟨l, r5, q F5 H5 (t13.trans (t4.trans t5))⟩
end
section
variable {X : Cx} {i j : Int}
theorem o_I0 {f : Value → Value → Sem Value} {h : Int → Int → V} {z : D} (o : OpR X f (rI0 h)) (hz : ∀ F, Rep F (h i j) z) : Op2 X f (.int i) (.int j) z :=
  ⟨_, o, fun F H vx vy Q f rx ry q => ⟨i, j, rx, ry, q _ F H (.refl f) (hz F)⟩⟩
theorem o_I {f : Value → Value → Sem Value} {C : Int → Int → Prop} {h : Int → Int → V} {z : D} (o : OpR X f (rI C h)) (hc : C i j) (hz : ∀ F, Rep F (h i j) z) : Op2 X f (.int i) (.int j) z :=
  ⟨_, o, fun F H vx vy Q f rx ry q => ⟨i, j, rx, ry, hc, q _ F H (.refl f) (hz F)⟩⟩
theorem o_add : Op2 X (binaryOp .Add) (.int i) (.int j) (.int (i + j)) := o_I0 op_add fun _ => rfl
theorem o_sub : Op2 X (binaryOp .Sub) (.int i) (.int j) (.int (i - j)) := o_I0 op_sub fun _ => rfl
theorem o_mul (h : CMul i j) : Op2 X (binaryOp .Mult) (.int i) (.int j) (.int (i * j)) := o_I op_mul h fun _ => rfl
theorem o_fdiv (h : CDiv i j) : Op2 X (binaryOp .FloorDiv) (.int i) (.int j) (.int (i / j)) := o_I op_fdiv h fun _ => rfl
theorem o_mod (h : 0 < j) : Op2 X (binaryOp .Mod) (.int i) (.int j) (.int (i % j)) := o_I op_mod h fun _ => rfl
theorem o_pow (h : CPow i j) : Op2 X (binaryOp .Pow) (.int i) (.int j) (.int (i ^ j.toNat)) := o_I op_pow h fun _ => rfl
theorem o_lt : Op2 X (compareOp .Lt) (.int i) (.int j) (.bl (decide (i < j))) := o_I0 op_lt fun _ => rfl
theorem o_le : Op2 X (compareOp .LtE) (.int i) (.int j) (.bl (decide (i ≤ j))) := o_I0 op_le fun _ => rfl
theorem o_gt : Op2 X (compareOp .Gt) (.int i) (.int j) (.bl (decide (j < i))) := o_I0 op_gt fun _ => rfl
theorem o_ge : Op2 X (compareOp .GtE) (.int i) (.int j) (.bl (decide (j ≤ i))) := o_I0 op_ge fun _ => rfl
theorem o_eqI : Op2 X (compareOp .Eq) (.int i) (.int j) (.bl (decide (i = j))) := ⟨_, op_eq, fun F H vx vy Q f rx ry q => by
  have rx : vx = .int i := rx
  have ry : vy = .int j := ry
  subst rx ry
  refine ⟨rfl, q _ F H (.refl f) ?_⟩
  have e : decide (V.int i = V.int j) = decide (i = j) := by
    rw [dec_int]
    exact Bool.beq_eq_decide_eq _ _
  rw [e]
  rfl⟩
theorem o_neI : Op2 X (compareOp .NotEq) (.int i) (.int j) (.bl (!decide (i = j))) := ⟨_, op_ne, fun F H vx vy Q f rx ry q => by
  have rx : vx = .int i := rx
  have ry : vy = .int j := ry
  subst rx ry
  refine ⟨rfl, q _ F H (.refl f) ?_⟩
  have e : decide (V.int i = V.int j) = decide (i = j) := by
    rw [dec_int]
    exact Bool.beq_eq_decide_eq _ _
  rw [e]
  rfl⟩
variable {u w : Str}
theorem o_eqS : Op2 X (compareOp .Eq) (.str u) (.str w) (.bl (decide (u = w))) := ⟨_, op_eq, fun F H vx vy Q f rx ry q => by
  have rx : vx = .str u := rx
  have ry : vy = .str w := ry
  subst rx ry
  refine ⟨rfl, q _ F H (.refl f) ?_⟩
  have e : decide (V.str u = V.str w) = decide (u = w) := by
    by_cases z : u = w
    · rw [z, decide_eq_true rfl, decide_eq_true rfl]
    · rw [decide_eq_false z, decide_eq_false fun y => z (V.str.inj y)]
  rw [e]
  rfl⟩
theorem o_neS : Op2 X (compareOp .NotEq) (.str u) (.str w) (.bl (!decide (u = w))) := ⟨_, op_ne, fun F H vx vy Q f rx ry q => by
  have rx : vx = .str u := rx
  have ry : vy = .str w := ry
  subst rx ry
  refine ⟨rfl, q _ F H (.refl f) ?_⟩
  have e : decide (V.str u = V.str w) = decide (u = w) := by
    by_cases z : u = w
    · rw [z, decide_eq_true rfl, decide_eq_true rfl]
    · rw [decide_eq_false z, decide_eq_false fun y => z (V.str.inj y)]
  rw [e]
  rfl⟩
def strLt (u w : Str) : Bool := decide (u.cps.toList < w.cps.toList)
theorem o_ltS : Op2 X (compareOp .Lt) (.str u) (.str w) (.bl (strLt u w)) := ⟨_, op_lt_str, fun F H vx vy Q f rx ry q => ⟨u, w, rx, ry, q _ F H (.refl f) rfl⟩⟩
theorem o_addS (h : u.length + w.length ≤ sizeLine) : Op2 X (binaryOp .Add) (.str u) (.str w) (.str (u ++ w)) := ⟨_, op_add_str, fun F H vx vy Q f rx ry q => ⟨u, w, rx, ry, h, q _ F H (.refl f) rfl⟩⟩
theorem o_inSign {c : Nat} : Op2 X (compareOp .In) (.str ⟨#[c]⟩) (.str w) (.bl (decide (c ∈ w.cps.toList))) := ⟨_, op_in_sign, fun F H vx vy Q f rx ry q => ⟨c, w, rx, ry, q _ F H (.refl f) rfl⟩⟩
variable {b c : Bool}
theorem o_isB : Op2 X (compareOp .Is) (.bl b) (.bl c) (.bl (decide (b = c))) := ⟨_, op_isBl, fun F H vx vy Q f rx ry q => ⟨b, c, rx, ry, q _ F H (.refl f) rfl⟩⟩
theorem o_notB : Op2 X (compareOp .IsNot) (.bl b) (.bl c) (.bl (!decide (b = c))) := ⟨_, op_notBl, fun F H vx vy Q f rx ry q => ⟨b, c, rx, ry, q _ F H (.refl f) rfl⟩⟩
theorem o_eqB : Op2 X (compareOp .Eq) (.bl b) (.bl c) (.bl (decide (b = c))) := ⟨_, op_eq, fun F H vx vy Q f rx ry q => by
  have rx : vx = .bl b := rx
  have ry : vy = .bl c := ry
  subst rx ry
  refine ⟨rfl, q _ F H (.refl f) ?_⟩
  cases b <;> cases c <;> rfl⟩
theorem o_neB : Op2 X (compareOp .NotEq) (.bl b) (.bl c) (.bl (!decide (b = c))) := ⟨_, op_ne, fun F H vx vy Q f rx ry q => by
  have rx : vx = .bl b := rx
  have ry : vy = .bl c := ry
  subst rx ry
  refine ⟨rfl, q _ F H (.refl f) ?_⟩
  cases b <;> cases c <;> rfl⟩
end
/-! ### and, or, not, if else -/
section
variable {X : Cx} {ρ : List SV} {pos : Pos} {a b : Expr} {rest : List Expr} {k l : Bool}
theorem f_one {op} {d : D} (h : SemF X a ρ d) : SemF X (.BoolOp op [a] pos) ρ d := fun σ F H Q f s q => peR (pe_one peS) (h σ F H Q f s q)
theorem f_and (ha : SemF X a ρ (.bl k)) (hb : k = true → SemF X (.BoolOp .And (b :: rest) pos) ρ (.bl l)) : SemF X (.BoolOp .And (a :: b :: rest) pos) ρ (.bl (k && l)) := fun σ F H Q f s q =>
  peR (pe_and peS peS) (ha σ F H _ f s fun v F1 H1 t1 r1 => ⟨k, r1, by
    cases k with
    | true =>
      rw [if_pos rfl]
      exact hb rfl σ F1 H1 _ t1.fz (s.step t1) fun v F2 H2 t2 r2 => q v F2 H2 (t1.trans t2) r2
    | false =>
      rw [if_neg Bool.false_ne_true]
      exact q _ F1 H1 t1 rfl⟩)
theorem f_or (ha : SemF X a ρ (.bl k)) (hb : k = false → SemF X (.BoolOp .Or (b :: rest) pos) ρ (.bl l)) : SemF X (.BoolOp .Or (a :: b :: rest) pos) ρ (.bl (k || l)) := fun σ F H Q f s q =>
  peR (pe_or peS peS) (ha σ F H _ f s fun v F1 H1 t1 r1 => ⟨k, r1, by
    cases k with
    | false =>
      rw [if_neg Bool.false_ne_true]
      exact hb rfl σ F1 H1 _ t1.fz (s.step t1) fun v F2 H2 t2 r2 => q v F2 H2 (t1.trans t2) r2
    | true =>
      rw [if_pos rfl]
      exact q _ F1 H1 t1 rfl⟩)
theorem f_not (ha : SemF X a ρ (.bl k)) : SemF X (.UnaryOp .Not a pos) ρ (.bl (!k)) := fun σ F H Q f s q => peR (pe_not peS) (ha σ F H _ f s fun v F1 H1 t1 r1 => ⟨k, r1, q _ F1 H1 t1 rfl⟩)
theorem f_neg {i : Int} (ha : SemV X a ρ (.int i)) : SemF X (.UnaryOp .USub a pos) ρ (.int (-i)) := fun σ F H Q f s q => peR (pe_un un_neg peS) (ha σ F H _ f s fun v F1 H1 t1 r1 => ⟨i, r1, q _ F1 H1 t1 rfl⟩)
/-- tests, whatever the whole is -/
def SemW (X : Cx) (e : Expr) (ρ : List SV) (b : Bool) : Prop := ∀ (whole : Sem Value) (σ : L2.St) (F H : Hp) (Q : Bool → Hp → Prop), Fz F H → SOk ρ σ F H → (∀ F' H', Step F H F' H' → Q b H') →
  ∀ (pins : List (Addr × Obj)) (s : Shared), Inv X pins σ H s → wpAny (model X.prog X.w) X.A (isTrue e X.env whole) (TP X pins σ Q) X.xe s
theorem SemW.t {e : Expr} (h : SemW X e ρ k) : SemT X e ρ k := fun σ F H Q f s q pins st I => h _ σ F H Q f s q pins st I
theorem w_and1 (ha : SemT X a ρ k) : SemW X (.BoolOp .And [a] pos) ρ k := fun wh σ F H Q f s q pins st I => (pw_and1 ptS).run wh pins st σ H Q I (ha σ F H Q f s q)
theorem w_or1 (ha : SemT X a ρ k) : SemW X (.BoolOp .Or [a] pos) ρ k := fun wh σ F H Q f s q pins st I => (pw_or1 ptS).run wh pins st σ H Q I (ha σ F H Q f s q)
theorem w_and (ha : SemT X a ρ k) (hb : k = true → SemW X (.BoolOp .And (b :: rest) pos) ρ l) : SemW X (.BoolOp .And (a :: b :: rest) pos) ρ (k && l) := fun wh σ F H Q f s q pins st I => by
  have pb : PW X (.BoolOp .And (b :: rest) pos) (fun σ H Q => ∀ (whole : Sem Value) (pins : List (Addr × Obj)) (s : Shared), Inv X pins σ H s → wpAny (model X.prog X.w) X.A (isTrue (.BoolOp .And (b :: rest) pos) X.env whole) (TP X pins σ Q) X.xe s) :=
    ⟨fun whole pins s σ H Q I h => h whole pins s I⟩
  refine (pw_and ptS pb).run wh pins st σ H Q I (ha σ F H _ f s fun F1 H1 t1 => ?_)
  cases k with
  | true =>
    rw [if_pos rfl]
    exact fun whole pins s' I' => hb rfl whole σ F1 H1 Q t1.fz (s.step t1) (fun F2 H2 t2 => q F2 H2 (t1.trans t2)) pins s' I'
  | false =>
    rw [if_neg Bool.false_ne_true]
    exact q F1 H1 t1
theorem w_or (ha : SemT X a ρ k) (hb : k = false → SemW X (.BoolOp .Or (b :: rest) pos) ρ l) : SemW X (.BoolOp .Or (a :: b :: rest) pos) ρ (k || l) := fun wh σ F H Q f s q pins st I => by
  have pb : PW X (.BoolOp .Or (b :: rest) pos) (fun σ H Q => ∀ (whole : Sem Value) (pins : List (Addr × Obj)) (s : Shared), Inv X pins σ H s → wpAny (model X.prog X.w) X.A (isTrue (.BoolOp .Or (b :: rest) pos) X.env whole) (TP X pins σ Q) X.xe s) :=
    ⟨fun whole pins s σ H Q I h => h whole pins s I⟩
  refine (pw_or ptS pb).run wh pins st σ H Q I (ha σ F H _ f s fun F1 H1 t1 => ?_)
  cases k with
  | false =>
    rw [if_neg Bool.false_ne_true]
    exact fun whole pins s' I' => hb rfl whole σ F1 H1 Q t1.fz (s.step t1) (fun F2 H2 t2 => q F2 H2 (t1.trans t2)) pins s' I'
  | true =>
    rw [if_pos rfl]
    exact q F1 H1 t1
theorem t_not (ha : SemT X a ρ k) : SemT X (.UnaryOp .Not a pos) ρ (!k) := fun σ F H Q f s q => ptR (pt_not ptS) (ha σ F H _ f s fun F1 H1 t1 => q F1 H1 t1)
theorem f_ite {c : Expr} {d : D} (hc : SemT X c ρ k) (ha : k = true → SemF X a ρ d) (hb : k = false → SemF X b ρ d) : SemF X (.IfExp c a b pos) ρ d := fun σ F H Q f s q =>
  peR (pe_ifExp ptS peS peS) (hc σ F H _ f s fun F1 H1 t1 => by
    cases k with
    | true =>
      rw [if_pos rfl]
      exact ha rfl σ F1 H1 _ t1.fz (s.step t1) fun v F2 H2 t2 r2 => q v F2 H2 (t1.trans t2) r2
    | false =>
      rw [if_neg Bool.false_ne_true]
      exact hb rfl σ F1 H1 _ t1.fz (s.step t1) fun v F2 H2 t2 r2 => q v F2 H2 (t1.trans t2) r2)
end
/-! ### argument lists, displays -/
/-- a new tuple's object is known: it has no dict of its own -/
def nT (us : List Value) : Obj := { cls := .type "tuple", data := .seq us.toArray }
def tTupZ (t : TA) : TE := fun σ H Q => t σ H fun xs H1 => xs.length ≤ sizeLine ∧ ∀ p o, H1 p = none → o.dict = none → Q (.ref p) (upd H1 p (.frz o (.tup xs)))
theorem ok_tupZ {P : Program} {w : World} {H : Hp} {h : Heap} {a : Addr} {xs : List V} {us : List Value} (hz : xs.length ≤ sizeLine) (r : Vals xs us) (e : h.get? a = some (nT us)) : ObjOk P w H h a (.frz (nT us) (.tup xs)) :=
  ⟨e, hz, us, r, ⟨_, e, rfl, _, rfl⟩⟩
theorem pe_tupZ {X : Cx} {es : List Expr} {t : TA} {pos : Pos} {x1} (h : PA X es t) : PE X (.Tuple es x1 pos) (tTupZ t) := ⟨fun pins s σ H Q J hq => by
  refine wpAny_Tuple_spliced (thn (h.run pos pins s σ H _ J hq) fun us s1 ⟨xs, H1, J1, r, z, q⟩ => ⟨by rw [← r.length]; exact z, ?_⟩)
  have new := q s1.heap.objs.size (nT us) (J1.hok.fresh (Nat.le_refl _)) rfl
  exact ⟨.ref s1.heap.objs.size, _, J1.laid (t' := s1.toks) (o := .frz (nT us) (.tup xs)) (fun b u e => Heap.get?_push_of_some _ e) (Nat.le_refl _) (ok_tupZ z r (Heap.get?_push_size s1.heap (o := nT us) rfl)), rfl, new⟩⟩
def tSA (X : Cx) (es : List Expr) : TA := fun σ H Q => ∀ (pos : Pos) (pins : List (Addr × Obj)) (s : Shared), Inv X pins σ H s → wpAny (model X.prog X.w) X.A (spliced (backTo pos (starEach es X.env))) (AP X pins σ Q) X.xe s
theorem paS {X : Cx} {es : List Expr} : PA X es (tSA X es) := ⟨fun pos pins s _ _ _ I h => h pos pins s I⟩
def SemA (X : Cx) (es : List Expr) (ρ : List SV) (ds : List D) : Prop := ∀ (σ : L2.St) (F H : Hp) (Q : List V → Hp → Prop), Fz F H → SOk ρ σ F H → (∀ vs F' H', Step F H F' H' → Reps F' vs ds → Q vs H') → tSA X es σ H Q
section
variable {X : Cx} {ρ : List SV} {pos : Pos} {e : Expr} {es : List Expr} {d : D} {ds : List D}
theorem a_nil : SemA X [] ρ [] := fun σ F H Q f s q pos pins st I => pa_nil.run pos pins st σ H Q I (q [] F H (.refl f) rfl)
theorem a_cons (ha : SemF X e ρ d) (hr : SemA X es ρ ds) (hs : starEach (e :: es) X.env = (false, eval e X.env) :: starEach es X.env := by rfl) : SemA X (e :: es) ρ (d :: ds) := fun σ F H Q f s q pos pins st I =>
  (pa_cons peS paS hs).run pos pins st σ H Q I (ha σ F H _ f s fun v F1 H1 t1 r1 => hr σ F1 H1 _ t1.fz (s.step t1) fun vs F2 H2 t2 r2 => q _ F2 H2 (t1.trans t2) ⟨v, vs, rfl, Rep.mono t2.ex d r1, r2⟩)
theorem f_tup {x1} (h : SemA X es ρ ds) (hl : ds.length ≤ 1000) : SemF X (.Tuple es x1 pos) ρ (.tup ds) := fun σ F H Q f s q =>
  peR (pe_tupZ paS) (h σ F H _ f s fun vs F1 H1 t1 r1 => ⟨by rw [r1.len]; exact Nat.le_of_lt (small1000 hl), fun p o hp ho => q _ (upd F1 p (.frz o (.tup vs))) _ (t1.trans (Step.new t1.fz hp)) ⟨p, vs, o, rfl, upd_same, ho, Reps.mono (sub_upd (t1.fz.none hp)) ds r1⟩⟩)
theorem n_lst (h : SemA X es ρ ds) (hl : ds.length ≤ 1000) : SemN X (.List es pos) ρ (.lst ds) := fun σ F H Q f s q =>
  peR (pe_lst paS) (h σ F H _ f s fun vs F1 H1 t1 r1 => ⟨by rw [r1.len]; exact Nat.le_of_lt (small1000 hl), fun p hp => q p _ F1 _ (t1.trans (Step.fresh t1.fz hp)) (t1.back hp) (t1.fz.none hp) upd_same r1⟩)
theorem n_dnew : SemN X (.Dict [] [] pos) ρ (.dct []) := fun σ F H Q f s q =>
  peR pe_dnewK fun p hp => q p _ F _ (Step.fresh f hp) hp (f.none hp) upd_same rfl
end
end KD

set_option Elab.async false
set_option linter.all false
set_option maxRecDepth 100000
set_option maxHeartbeats 2000000
/-! KD3: subscripts, slices, dicts read, built-in calls, calls of defs. -/
namespace KD
open PySem PySem.Spec PyProof.Rows L2
variable [Vol]
/-! ### items -/
theorem Reps.at {F : Hp} {xs : List V} {ds : List D} {i : Int} {d : D} (h : Reps F xs ds) (e : atI ds i = some d) : ∃ v, atI xs i = some v ∧ Rep F v d := by
  unfold atI at e ⊢
  rw [h.len]
  cases q : ixN ds.length i with
  | none =>
    rw [q] at e
    cases e
  | some j =>
    rw [q] at e
    exact h.get (show ds[j]? = some d from e)
section
variable {X : Cx} {ρ : List SV} {pos : Pos} {a b : Expr} {ds : List D} {d : D} {i : Int}
theorem f_ixT (ha : SemV X a ρ (.tup ds)) (hb : SemV X b ρ (.int i)) (hd : atI ds i = some d) (hs : PlainIx b := by exact fun _ _ => rfl) : SemF X (.Subscript a b pos) ρ d := fun σ F H Q f s q =>
  peR (pe_ix ix_tup peS peS hs) (ha σ F H _ f s fun vx F1 H1 t1 r1 => hb σ F1 H1 _ t1.fz (s.step t1) fun vy F2 H2 t2 r2 => by
    obtain ⟨p, xs, o, e, r, _, z⟩ := r1.step t2
    obtain ⟨v, ev, rv⟩ := z.at hd
    exact ⟨p, xs, i, v, e, r2, .inl (.inr ⟨o, r⟩), ev, q v F2 H2 (t1.trans t2) rv⟩)
theorem f_ixL (ha : SemV X a ρ (.lst ds)) (hb : SemV X b ρ (.int i)) (hd : atI ds i = some d) (hs : PlainIx b := by exact fun _ _ => rfl) : SemF X (.Subscript a b pos) ρ d := fun σ F H Q f s q =>
  peR (pe_ix ix_list peS peS hs) (ha σ F H _ f s fun vx F1 H1 t1 r1 => hb σ F1 H1 _ t1.fz (s.step t1) fun vy F2 H2 t2 r2 => by
    obtain ⟨p, xs, e, r, z⟩ := r1.step t2
    obtain ⟨v, ev, rv⟩ := z.at hd
    exact ⟨p, xs, i, v, e, r2, .inl r.1, ev, q v F2 H2 (t1.trans t2) rv⟩)
theorem f_ixS {z : Str} {c : Nat} (ha : SemV X a ρ (.str z)) (hb : SemV X b ρ (.int i)) (hz : z.length ≤ sizeLine) (hd : atI z.cps.toList i = some c) (hs : PlainIx b := by exact fun _ _ => rfl) : SemF X (.Subscript a b pos) ρ (.str ⟨#[c]⟩) := fun σ F H Q f s q =>
  peR (pe_ix ix_str peS peS hs) (ha σ F H _ f s fun vx F1 H1 t1 r1 => hb σ F1 H1 _ t1.fz (s.step t1) fun vy F2 H2 t2 r2 =>
    ⟨z, i, c, r1, r2, hz, hd, q _ F2 H2 (t1.trans t2) rfl⟩)
end
/-! ### dicts read -/
def dgo (kvs : List (Str × Int)) (k : Str) : Option Int := (kvs.find? fun q => decide (q.1 = k)).map (·.2)
theorem dgo_nil {k : Str} : dgo [] k = none := rfl
theorem dgo_cons {q : Str × Int} {r : List (Str × Int)} {k : Str} : dgo (q :: r) k = if q.1 = k then some q.2 else dgo r k := by
  unfold dgo
  by_cases h : q.1 = k
  · rw [List.find?_cons_of_pos (by simpa using h), if_pos h]
    rfl
  · rw [List.find?_cons_of_neg (by simpa using h), if_neg h]
theorem dgo_val (k : Str) : ∀ kvs : List (Str × Int), valV (kvI kvs) (Sum.inr k : Key) = (dgo kvs k).map V.int
  | [] => rfl
  | q :: r => by
    rw [dgo_cons]
    by_cases h : q.1 = k
    · rw [if_pos h]
      exact valV_pos (p := ((Sum.inr q.1 : Key), V.int q.2)) (congrArg Sum.inr h)
    · rw [if_neg h, ← dgo_val k r]
      exact valV_neg (p := ((Sum.inr q.1 : Key), V.int q.2)) fun z => h (Sum.inr.inj z)
theorem ds_val (k : Str) : ∀ ks : List Str, valV (kvB ks) (Sum.inr k : Key) = if k ∈ ks then some (.bl true) else none
  | [] => rfl
  | q :: r => by
    by_cases h : q = k
    · subst h
      rw [if_pos List.mem_cons_self]
      exact valV_pos (p := ((Sum.inr q : Key), V.bl true)) rfl
    · have e := valV_neg (p := ((Sum.inr q : Key), V.bl true)) (r := kvB r) (k := (Sum.inr k : Key)) fun z => h (Sum.inr.inj z)
      show valV ((Sum.inr q, V.bl true) :: kvB r) _ = _
      rw [e, ds_val k r]
      by_cases m : k ∈ r
      · rw [if_pos m, if_pos (List.mem_cons_of_mem _ m)]
      · rw [if_neg m, if_neg fun z => (List.mem_cons.mp z).elim (fun y => h y.symm) m]
theorem dget_of {H : Hp} {p : Addr} {kvs : List (Str × Int)} {k : Str} (h : Rd H p (.dK (kvI kvs))) : DGet H p (.str k) ((dgo kvs k).map V.int) := .inl ⟨kvI kvs, Sum.inr k, h, rfl, (dgo_val k kvs).symm⟩
theorem dgetB_of {H : Hp} {p : Addr} {ks : List Str} {k : Str} (h : Rd H p (.dK (kvB ks))) : DGet H p (.str k) (if k ∈ ks then some (.bl true) else none) := .inl ⟨kvB ks, Sum.inr k, h, rfl, (ds_val k ks).symm⟩
section
variable {X : Cx} {ρ : List SV} {pos apos : Pos} {a b c : Expr} {kvs : List (Str × Int)} {k : Str} {n m : Int} {N : List Str} {sc : Scope} {lv : Nat}
theorem f_ixD (g : Gd X N sc lv) (ha : SemV X a ρ (.dct kvs)) (hb : SemV X b ρ (.str k)) (hk : dgo kvs k = some n) (hs : NoSl b := by exact fun _ _ => rfl) : SemF X (.Subscript a b pos) ρ (.int n) := fun σ F H Q f s q =>
  peR (pe_dget g.hu peS peS hs) (ha σ F H _ f s fun vx F1 H1 t1 r1 => hb σ F1 H1 _ t1.fz (s.step t1) fun vy F2 H2 t2 r2 => by
    obtain ⟨p, e, r⟩ := r1.step t2
    refine ⟨p, .int n, e, ?_, q _ F2 H2 (t1.trans t2) rfl⟩
    have z := dget_of (k := k) r
    rw [hk] at z
    rw [show vy = _ from r2]
    exact z)
theorem f_get (g : Gd X N sc lv) (ha : SemV X a ρ (.dct kvs)) (hb : SemV X b ρ (.str k)) (hc : SemV X c ρ (.int m)) (mm : M2 X a "get" apos b c pos := by exact ⟨rfl, rfl, rfl, rfl⟩) : SemF X (.Call (.Attribute a "get" apos) [b, c] [] pos) ρ (.int ((dgo kvs k).getD m)) := fun σ F H Q f s q =>
  peR (pe_dget2 g.hu peS peS peS mm) (ha σ F H _ f s fun vx F1 H1 t1 r1 => by
    obtain ⟨p, e, r⟩ := r1
    refine ⟨p, e, .inl ⟨_, r⟩, hb σ F1 H1 _ t1.fz (s.step t1) fun vy F2 H2 t2 r2 => hc σ F2 H2 _ t2.fz (s.step (t1.trans t2)) fun vz F3 H3 t3 r3 => ?_⟩
    have z := dget_of (k := k) (Rd.st (t2.trans t3) (nv_dK t1.fz.iv r) r)
    refine ⟨_, by rw [show vy = _ from r2]; exact z, ?_⟩
    refine q _ F3 H3 ((t1.trans t2).trans t3) ?_
    rw [show vz = _ from r3]
    cases dgo kvs k <;> rfl)
theorem f_inD (g : Gd X N sc lv) (hb : SemV X b ρ (.str k)) (ha : SemV X a ρ (.dct kvs)) (hm : behindInMarks .In a = false := by with_unfolding_all rfl) : SemF X (.Compare b [.In] [a] pos) ρ (.bl (dgo kvs k).isSome) := fun σ F H Q f s q =>
  peR (pe_cmp (pc_din g.hu peS peS) hm) (hb σ F H _ f s fun vy F1 H1 t1 r1 => ha σ F1 H1 _ t1.fz (s.step t1) fun vx F2 H2 t2 r2 => by
    obtain ⟨p, e, r⟩ := r2
    refine ⟨p, _, e, by rw [show vy = _ from r1]; exact dget_of r, ?_⟩
    have z := q (.bl (dgo kvs k).isSome) F2 H2 (t1.trans t2) rfl
    rw [Option.isSome_map]
    exact z)
theorem t_inD (g : Gd X N sc lv) (hb : SemV X b ρ (.str k)) (ha : SemV X a ρ (.dct kvs)) (hm : behindInMarks .In a = false := by with_unfolding_all rfl) : SemT X (.Compare b [.In] [a] pos) ρ (dgo kvs k).isSome := fun σ F H Q f s q =>
  ptR (pt_cmp (pc_din g.hu peS peS) hm) (hb σ F H _ f s fun vy F1 H1 t1 r1 => ha σ F1 H1 _ t1.fz (s.step t1) fun vx F2 H2 t2 r2 => by
    obtain ⟨p, e, r⟩ := r2
    refine ⟨p, _, e, by rw [show vy = _ from r1]; exact dget_of r, _, rfl, ?_⟩
    rw [Option.isSome_map]
    exact q F2 H2 (t1.trans t2))
theorem t_notinB (g : Gd X N sc lv) {ks : List Str} (hb : SemV X b ρ (.str k)) (ha : SemV X a ρ (.dset ks)) (hm : behindInMarks .NotIn a = false := by with_unfolding_all rfl) : SemT X (.Compare b [.NotIn] [a] pos) ρ (!decide (k ∈ ks)) := fun σ F H Q f s q =>
  ptR (pt_cmp (pc_dnotin g.hu peS peS) hm) (hb σ F H _ f s fun vy F1 H1 t1 r1 => ha σ F1 H1 _ t1.fz (s.step t1) fun vx F2 H2 t2 r2 => by
    obtain ⟨p, e, r⟩ := r2
    refine ⟨p, _, e, by rw [show vy = _ from r1]; exact dgetB_of r, _, rfl, ?_⟩
    have z := q F2 H2 (t1.trans t2)
    by_cases w : k ∈ ks
    · rw [if_pos w]
      rw [decide_eq_true w] at z
      exact z
    · rw [if_neg w]
      rw [decide_eq_false w] at z
      exact z)
end
/-! ### slices -/
def cutD (xs : List D) (lo hi : Option Int) : List D := (xs.drop (HT.sIx xs.length 0 lo)).take (HT.sIx xs.length xs.length hi - HT.sIx xs.length 0 lo)
theorem Reps.cut {F : Hp} {xs : List V} {ds : List D} (h : Reps F xs ds) (lo hi : Option Int) : Reps F (cutV xs lo hi) (cutD ds lo hi) := by
  unfold cutV cutD
  rw [h.len]
  exact (h.drop _).take _
theorem cutD_whole {ds : List D} {lo hi : Option Int} (h : HT.sIx ds.length 0 lo = 0 ∧ HT.sIx ds.length ds.length hi = ds.length) : cutD ds lo hi = ds := by
  unfold cutD
  rw [h.1, h.2]
  simp
/-- t[lo:hi]: the whole of it is t itself, else a new tuple whose object is known -/
def rSlZ (K : PySem.W.Frag) : V → Option Int → Option Int → Hp → VK → Prop := fun x lo hi H Q => ∃ a xs, x = .ref a ∧ SqT K H a xs ∧
  (HT.sIx xs.length 0 lo = 0 ∧ HT.sIx xs.length xs.length hi = xs.length → Q (.ref a) H) ∧
  (¬ (HT.sIx xs.length 0 lo = 0 ∧ HT.sIx xs.length xs.length hi = xs.length) → ∀ p o, H p = none → o.dict = none → Q (.ref p) (upd H p (.frz o (.tup (cutV xs lo hi)))))
theorem sl_tupZ {X : Cx} : SlR X (rSlZ X.K) := by
  rintro pins s σ H x v vl vu lo hi sl Q J rx hs pl pu ⟨a, xs, rfl, hx, k1, k2⟩
  by_cases hw : HT.sIx xs.length 0 lo = 0 ∧ HT.sIx xs.length xs.length hi = xs.length
  · exact sl_tupA pins s σ H _ v vl vu lo hi sl Q J rx hs pl pu ⟨a, xs, rfl, hx, k1, fun z => absurd hw z⟩
  · cases rx
    obtain ⟨us, r, ht, hz⟩ := J.tuple hx
    have en : us.toArray.size = xs.length := by rw [List.size_toArray]; exact r.length.symm
    refine ⟨_, _, PyProof.Rows.slot_tuple_getitem.lookup, ht.typeIs, HT.getItem_tuple_cut ht hs pl pu (by rw [en]; exact hw) ?_ (by rw [en]; exact hz)⟩
    rw [en]
    have rc := (r.drop (HT.sIx xs.length 0 lo)).take (HT.sIx xs.length xs.length hi - HT.sIx xs.length 0 lo)
    exact ⟨.ref s.heap.objs.size, _, J.laid (t' := s.toks) (o := .frz (nT _) (.tup (cutV xs lo hi))) (fun b u e => Heap.get?_push_of_some _ e) (Nat.le_refl _)
      (ok_tupZ (Nat.le_trans (cutV_length xs lo hi) hz) rc (Heap.get?_push_size s.heap rfl)), rfl, k2 hw _ _ (J.hok.fresh (Nat.le_refl _)) rfl⟩
/-- the lower, the upper part of a slice -/
inductive PtS (X : Cx) (ρ : List SV) : Option Expr → Option Int → Prop where
  | no : PtS X ρ none none
  | yes {e : Expr} {i : Int} (h : SemV X e ρ (.int i)) : PtS X ρ (some e) (some i)
theorem PtS.go {X : Cx} {ρ : List SV} {o : Option Expr} {l : Option Int} (h : PtS X ρ o l) : ∃ t : TO, PO X o t ∧ ∀ (σ : L2.St) (F H : Hp) (Q : Option Int → Hp → Prop), Fz F H → SOk ρ σ F H → (∀ F' H', Step F H F' H' → Q l H') → t σ H Q := by
  cases h with
  | no => exact ⟨_, po_none, fun σ F H Q f s q => q F H (.refl f)⟩
  | yes h => exact ⟨_, po_some peS, fun σ F H Q f s q => h σ F H _ f s fun v F1 H1 t1 r1 => ⟨_, r1, q F1 H1 t1⟩⟩
section
variable {X : Cx} {ρ : List SV} {pos p2 : Pos} {a : Expr} {ds : List D} {lo hi : Option Expr} {l u : Option Int}
theorem n_slL (ha : SemV X a ρ (.lst ds)) (hl : PtS X ρ lo l) (hh : PtS X ρ hi u) : SemN X (.Subscript a (.Slice lo hi none p2) pos) ρ (.lst (cutD ds l u)) := fun σ F H Q f s q => by
  obtain ⟨tl, pl, gl⟩ := hl.go
  obtain ⟨tu, pu, gu⟩ := hh.go
  refine peR (pe_slice sl_list peS pl pu) (ha σ F H _ f s fun vx F1 H1 t1 r1 => gl σ F1 H1 _ t1.fz (s.step t1) fun F2 H2 t2 => gu σ F2 H2 _ t2.fz (s.step (t1.trans t2)) fun F3 H3 t3 => ?_)
  obtain ⟨p, xs, e, r, z⟩ := r1.step (t2.trans t3)
  have t := (t1.trans t2).trans t3
  exact ⟨p, xs, e, .inl r.1, fun c hc => q c _ F3 _ (t.trans (Step.fresh t.fz hc)) (t.back hc) (t.fz.none hc) upd_same (z.cut l u)⟩
theorem f_slT (ha : SemF X a ρ (.tup ds)) (hl : PtS X ρ lo l) (hh : PtS X ρ hi u) : SemF X (.Subscript a (.Slice lo hi none p2) pos) ρ (.tup (cutD ds l u)) := fun σ F H Q f s q => by
  obtain ⟨tl, pl, gl⟩ := hl.go
  obtain ⟨tu, pu, gu⟩ := hh.go
  refine peR (pe_slice sl_tupZ peS pl pu) (ha σ F H _ f s fun vx F1 H1 t1 r1 => gl σ F1 H1 _ t1.fz (s.step t1) fun F2 H2 t2 => gu σ F2 H2 _ t2.fz (s.step (t1.trans t2)) fun F3 H3 t3 => ?_)
  have t := (t1.trans t2).trans t3
  have r3 : Rep F3 vx (.tup ds) := Rep.mono (t2.trans t3).ex _ r1
  obtain ⟨p, xs, o, e, r, ho, z⟩ := id r3
  have r' : H3 p = some (.frz o (.tup xs)) := by
    rcases (t.fz _ _ r).1 with w | ⟨w, _⟩
    · exact w
    · exact w.elim
  refine ⟨p, xs, e, .inl (.inr ⟨o, r'⟩), fun hw => ?_, fun _ c o' hc ho' => ?_⟩
  · refine q _ F3 H3 t ?_
    rw [z.len] at hw
    rw [cutD_whole hw, ← e]
    exact r3
  · exact q _ (upd F3 c _) _ (t.trans (Step.new t.fz hc)) ⟨c, _, o', rfl, upd_same, ho', Reps.mono (sub_upd (t.fz.none hc)) _ (z.cut l u)⟩
theorem n_revL {k : Nat} {p1 p2 p3 : Pos} (ha : SemV X a ρ (.lst ds)) : SemN X (.Subscript a (.Slice none none (some (.UnaryOp .USub (.Constant (.int 1) k p1) p2)) p3) pos) ρ (.lst ds.reverse) := fun σ F H Q f s q =>
  peR (pe_revL peS) (ha σ F H _ f s fun vx F1 H1 t1 r1 => by
    obtain ⟨p, xs, e, r, z⟩ := r1
    exact ⟨p, xs, e, .inl r.1, fun c hc => q c _ F1 _ (t1.trans (Step.fresh t1.fz hc)) (t1.back hc) (t1.fz.none hc) upd_same z.reverse⟩)
/-- two new lists, one behind another -/
theorem n_cat {b : Expr} {es : List D} (ha : SemN X a ρ (.lst ds)) (hb : SemN X b ρ (.lst es)) (hl : ds.length + es.length ≤ 1000000) : SemN X (.BinOp a .Add b pos) ρ (.lst (ds ++ es)) := fun σ F H Q f s q =>
  peR (pe_op op_cat peS peS) (ha σ F H _ f s fun p o F1 H1 t1 h1 h2 h3 r1 => hb σ F1 H1 _ t1.fz (s.step t1) fun p' o' F2 H2 t2 h1' h2' h3' r2 => by
    cases o <;> first | exact False.elim r1 | skip
    cases o' <;> first | exact False.elim r2 | skip
    have t := t1.trans t2
    have r1' := Reps.mono t2.ex _ r1
    exact ⟨p, p', _, _, rfl, rfl, t2.hh _ _ (f.new h1) h3, h3', by rw [r1'.len, Reps.len r2, sizeLine_eq]; omega, fun c hc => q c _ F2 _ (t.trans (Step.fresh t.fz hc)) (t.back hc) (t.fz.none hc) upd_same (r1'.append r2)⟩)
/-- [x] * n -/
theorem n_rep {b : Expr} {d : D} {i : Int} (ha : SemN X a ρ (.lst [d])) (hb : SemV X b ρ (.int i)) (h0 : 0 ≤ i) (h1 : i ≤ 1000000) : SemN X (.BinOp a .Mult b pos) ρ (.lst (List.replicate i.toNat d)) := fun σ F H Q f s q =>
  peR (pe_op op_rep peS peS) (ha σ F H _ f s fun p o F1 H1 t1 h1' h2 h3 r1 => hb σ F1 H1 _ t1.fz (s.step t1) fun vy F2 H2 t2 r2 => by
    cases o <;> first | exact False.elim r1 | skip
    rename_i xs
    have t := t1.trans t2
    have r1' := Reps.mono t2.ex _ r1
    obtain ⟨x, r, ex, rx, er⟩ := id r1'
    have er' : r = [] := er
    subst er'
    subst ex
    have rr : ∀ n : Nat, Reps F2 ((List.replicate n [x]).flatten) (List.replicate n d) := fun n => by
      induction n with
      | zero => exact Reps.nil
      | succ n ih =>
        rw [List.replicate_succ, List.replicate_succ, List.flatten_cons]
        exact Reps.cons rx ih
    exact ⟨p, i, _, rfl, r2, t2.hh _ _ (f.new h1') h3, by omega, by omega, by rw [sizeLine_eq, List.length_singleton]; omega, fun c hc => q c _ F2 _ (t.trans (Step.fresh t.fz hc)) (t.back hc) (t.fz.none hc) upd_same (rr _)⟩)
/-- two tuples, one behind another -/
def rCatZ (K : PySem.W.Frag) : R2 := fun x y H Q => ∃ a b xs ys, x = .ref a ∧ y = .ref b ∧ SqT K H a xs ∧ SqT K H b ys ∧ xs.length + ys.length ≤ sizeLine ∧
  (xs = [] → Q (.ref b) H) ∧ (xs ≠ [] → ys = [] → Q (.ref a) H) ∧ (xs ≠ [] → ys ≠ [] → ∀ p o, H p = none → o.dict = none → Q (.ref p) (upd H p (.frz o (.tup (xs ++ ys)))))
theorem op_catZ {X : Cx} : OpR X (binaryOp .Add) (rCatZ X.K) := by
  rintro pins s σ H x y v u Q J rx ry ⟨a, b, xs, ys, rfl, rfl, ha, hb, hz, k0, k1, k2⟩
  by_cases hx : xs = []
  · exact op_catA pins s σ H _ _ v u Q J rx ry ⟨a, b, xs, ys, rfl, rfl, ha, hb, hz, k0, k1, fun z => absurd hx z⟩
  · by_cases hy : ys = []
    · exact op_catA pins s σ H _ _ v u Q J rx ry ⟨a, b, xs, ys, rfl, rfl, ha, hb, hz, k0, k1, fun _ z => absurd hy z⟩
    · cases rx
      cases ry
      obtain ⟨us, r, p, _⟩ := J.tuple ha
      obtain ⟨ws, r', p', _⟩ := J.tuple hb
      refine HT.cat_tup p p' (fun z => hx (r.nil_iff.mp z)) (fun z => absurd (r'.nil_iff.mp z) hy) (fun _ => ?_) (by rw [← r.length, ← r'.length]; exact hz)
      exact ⟨.ref s.heap.objs.size, _, J.laid (t' := s.toks) (o := .frz (nT _) (.tup (xs ++ ys))) (fun b u e => Heap.get?_push_of_some _ e) (Nat.le_refl _)
        (ok_tupZ (by rw [List.length_append]; exact hz) (r.append r') (Heap.get?_push_size s.heap rfl)), rfl, k2 hx hy _ _ (J.hok.fresh (Nat.le_refl _)) rfl⟩
theorem f_catT {b : Expr} {es : List D} (ha : SemF X a ρ (.tup ds)) (hb : SemF X b ρ (.tup es)) (hl : ds.length + es.length ≤ 1000000) : SemF X (.BinOp a .Add b pos) ρ (.tup (ds ++ es)) := fun σ F H Q f s q =>
  peR (pe_op op_catZ peS peS) (ha σ F H _ f s fun vx F1 H1 t1 r1 => hb σ F1 H1 _ t1.fz (s.step t1) fun vy F2 H2 t2 r2 => by
    have t := t1.trans t2
    have r1' := Rep.mono t2.ex _ r1
    obtain ⟨p, xs, o, e, hp, _, z⟩ := r1'.vl t.fz
    obtain ⟨p', ys, o', e', hp', _, z'⟩ := r2.vl t.fz
    refine ⟨p, p', xs, ys, e, e', .inl (.inr ⟨o, hp⟩), .inl (.inr ⟨o', hp'⟩), by rw [z.len, z'.len, sizeLine_eq]; omega, fun hx => ?_, fun _ hy => ?_, fun _ _ c o2 hc ho2 => ?_⟩
    · have h0 : ds = [] := List.length_eq_zero_iff.mp (by rw [← z.len, hx]; rfl)
      rw [h0, List.nil_append] at q
      exact q _ F2 H2 t (e' ▸ r2)
    · have h0 : es = [] := List.length_eq_zero_iff.mp (by rw [← z'.len, hy]; rfl)
      rw [h0, List.append_nil] at q
      exact q _ F2 H2 t (e ▸ r1')
    · exact q _ (upd F2 c _) _ (t.trans (Step.new t.fz hc)) ⟨c, _, o2, rfl, upd_same, ho2, Reps.mono (sub_upd (t.fz.none hc)) _ (z.append z')⟩)
end
/-! ### built-in calls -/
/-- arguments that are read -/
def SemAV (X : Cx) (es : List Expr) (ρ : List SV) (ds : List D) : Prop := ∀ (σ : L2.St) (F H : Hp) (Q : List V → Hp → Prop), Fz F H → SOk ρ σ F H →
  (∀ vs F' H', Step F H F' H' → Paired (fun v d => Vl F' H' v d) vs ds → Q vs H') → tSA X es σ H Q
theorem Paired.vls {F H F' H' : Hp} (t : Step F H F' H') {vs : List V} {ds : List D} (h : Paired (fun v d => Vl F H v d) vs ds) : Paired (fun v d => Vl F' H' v d) vs ds := by
  induction h with
  | nil => exact .nil
  | cons h _ ih => exact .cons (h.step t) ih
section
variable {X : Cx} {ρ : List SV} {pos : Pos} {e : Expr} {es : List Expr} {d : D} {ds : List D}
theorem av_nil : SemAV X [] ρ [] := fun σ F H Q f s q pos pins st I => pa_nil.run pos pins st σ H Q I (q [] F H (.refl f) .nil)
theorem av_cons (ha : SemV X e ρ d) (hr : SemAV X es ρ ds) (hs : starEach (e :: es) X.env = (false, eval e X.env) :: starEach es X.env := by rfl) : SemAV X (e :: es) ρ (d :: ds) := fun σ F H Q f s q pos pins st I =>
  (pa_cons peS paS hs).run pos pins st σ H Q I (ha σ F H _ f s fun v F1 H1 t1 r1 => hr σ F1 H1 _ t1.fz (s.step t1) fun vs F2 H2 t2 r2 => q _ F2 H2 (t1.trans t2) (.cons (r1.step t2) r2))
end
/-- a built-in's call on read values: a storable value | a new object -/
def CaF (X : Cx) (f : Value) (ds : List D) (z : D) : Prop := ∃ r, CallR X f r ∧ ∀ (F H : Hp) (vs : List V) (Q : VK), Fz F H → Paired (fun v d => Vl F H v d) vs ds → (∀ v F' H', Step F H F' H' → Rep F' v z → Q v H') → r vs H Q
def CaN (X : Cx) (f : Value) (ds : List D) (z : D) : Prop := ∃ r, CallR X f r ∧ ∀ (F H : Hp) (vs : List V) (Q : VK), Fz F H → Paired (fun v d => Vl F H v d) vs ds →
  (∀ p o F' H', Step F H F' H' → H p = none → F' p = none → H' p = some o → IsO F' o z → Q (.ref p) H') → r vs H Q
section
variable {X : Cx} {N : List Str} {sc : Scope} {k : Nat} {ρ : List SV} {pos p : Pos} {e : Expr} {es : List Expr} {x : Str} {ds : List D} {z : D} {id T : String}
theorem f_callB (g : Gd X N sc k) (c : CaF X (.builtin id) ds z) (hm : X.mg x = none) (ha : SemAV X (e :: es) ρ ds) (hg : glB sc x = true := by rfl) (hv : bootBuiltins x = some (.builtin id) := by decide +kernel) (hn : x ≠ "__name__" := by decide) (hdb : (x == ("__debug__" : Str)) = false := by decide)
    (he : starEach (e :: es) X.env = (false, eval e X.env) :: starEach es X.env := by rfl) (hpl : (backTo pos (starEach es X.env)).any (·.1) = false := by rfl) : SemF X (.Call (.Name x p) (e :: es) [] pos) ρ z := fun σ F H Q f s q => by
  obtain ⟨r, hc, hr⟩ := c
  exact peR (pe_callB hc (gl_of g hg) hm hv paS hn hdb he hpl) (ha σ F H _ f s fun vs F1 H1 t1 r1 => hr F1 H1 vs Q t1.fz r1 fun v F2 H2 t2 r2 => q v F2 H2 (t1.trans t2) r2)
theorem n_callB (g : Gd X N sc k) (c : CaN X (.builtin id) ds z) (hm : X.mg x = none) (ha : SemAV X (e :: es) ρ ds) (hg : glB sc x = true := by rfl) (hv : bootBuiltins x = some (.builtin id) := by decide +kernel) (hn : x ≠ "__name__" := by decide) (hdb : (x == ("__debug__" : Str)) = false := by decide)
    (he : starEach (e :: es) X.env = (false, eval e X.env) :: starEach es X.env := by rfl) (hpl : (backTo pos (starEach es X.env)).any (·.1) = false := by rfl) : SemN X (.Call (.Name x p) (e :: es) [] pos) ρ z := fun σ F H Q f s q => by
  obtain ⟨r, hc, hr⟩ := c
  exact peR (pe_callB hc (gl_of g hg) hm hv paS hn hdb he hpl) (ha σ F H _ f s fun vs F1 H1 t1 r1 => hr F1 H1 vs Q t1.fz r1 fun p o F2 H2 t2 a b c d => q p o F2 H2 (t1.trans t2) (t1.back a) b c d)
theorem f_callT (g : Gd X N sc k) (c : CaF X (.type T) ds z) (hm : X.mg x = none) (ha : SemAV X (e :: es) ρ ds) (hg : glB sc x = true := by rfl) (hv : bootBuiltins x = some (.type T) := by decide +kernel) (hn : x ≠ "__name__" := by decide) (hdb : (x == ("__debug__" : Str)) = false := by decide)
    (he : starEach (e :: es) X.env = (false, eval e X.env) :: starEach es X.env := by rfl) (hpl : (backTo pos (starEach es X.env)).any (·.1) = false := by rfl) : SemF X (.Call (.Name x p) (e :: es) [] pos) ρ z := fun σ F H Q f s q => by
  obtain ⟨r, hc, hr⟩ := c
  exact peR (pe_callTy hc (gl_of g hg) hm hv paS hn hdb he hpl) (ha σ F H _ f s fun vs F1 H1 t1 r1 => hr F1 H1 vs Q t1.fz r1 fun v F2 H2 t2 r2 => q v F2 H2 (t1.trans t2) r2)
theorem n_callT (g : Gd X N sc k) (c : CaN X (.type T) ds z) (hm : X.mg x = none) (ha : SemAV X (e :: es) ρ ds) (hg : glB sc x = true := by rfl) (hv : bootBuiltins x = some (.type T) := by decide +kernel) (hn : x ≠ "__name__" := by decide) (hdb : (x == ("__debug__" : Str)) = false := by decide)
    (he : starEach (e :: es) X.env = (false, eval e X.env) :: starEach es X.env := by rfl) (hpl : (backTo pos (starEach es X.env)).any (·.1) = false := by rfl) : SemN X (.Call (.Name x p) (e :: es) [] pos) ρ z := fun σ F H Q f s q => by
  obtain ⟨r, hc, hr⟩ := c
  exact peR (pe_callTy hc (gl_of g hg) hm hv paS hn hdb he hpl) (ha σ F H _ f s fun vs F1 H1 t1 r1 => hr F1 H1 vs Q t1.fz r1 fun p o F2 H2 t2 a b c d => q p o F2 H2 (t1.trans t2) (t1.back a) b c d)
end
end KD

set_option Elab.async false
set_option linter.all false
set_option maxRecDepth 100000
set_option maxHeartbeats 2000000
/-! KD4: what the built-ins hand back; calls of defs; what is walked; comprehensions. -/
namespace KD
open PySem PySem.Spec PyProof.Rows L2
variable [Vol]
/-! ### built-ins -/
theorem pv1 {F H : Hp} {vs : List V} {d : D} (h : Paired (fun v d => Vl F H v d) vs [d]) : ∃ v, vs = [v] ∧ Vl F H v d := by
  cases h with
  | cons a b =>
    cases b
    exact ⟨_, rfl, a⟩
theorem pv2 {F H : Hp} {vs : List V} {d d' : D} (h : Paired (fun v d => Vl F H v d) vs [d, d']) : ∃ v v', vs = [v, v'] ∧ Vl F H v d ∧ Vl F H v' d' := by
  cases h with
  | cons a b =>
    cases b with
    | cons c e =>
      cases e
      exact ⟨_, _, rfl, a, c⟩
section
variable {X : Cx} {N : List Str} {sc : Scope} {k : Nat} {ds : List D} {i j : Int}
theorem c_lenL : CaF X (.builtin "len") [.lst ds] (.int ds.length) := ⟨_, call_len_seq, fun F H vs Q f r q => by
  obtain ⟨v, e, p, xs, ev, h, z⟩ := pv1 r
  subst e ev
  refine ⟨p, xs, rfl, .inl (.inl h.1), ?_⟩
  rw [z.len]
  exact q _ F H (.refl f) rfl⟩
theorem c_lenT : CaF X (.builtin "len") [.tup ds] (.int ds.length) := ⟨_, call_len_seq, fun F H vs Q f r q => by
  obtain ⟨v, e, p, xs, o, ev, h, _, z⟩ := pv1 r
  subst e ev
  refine ⟨p, xs, rfl, .inr (.inl (.inr ⟨o, h⟩)), ?_⟩
  rw [z.len]
  exact q _ F H (.refl f) rfl⟩
theorem c_lenS {z : Str} (hz : z.length ≤ sizeLine) : CaF X (.builtin "len") [.str z] (.int z.length) := ⟨_, call_len_str, fun F H vs Q f r q => by
  obtain ⟨v, e, ev⟩ := pv1 r
  subst e
  exact ⟨z, by rw [show v = _ from ev], hz, q _ F H (.refl f) rfl⟩⟩
theorem kvI_len (kvs : List (Str × Int)) : (kvI kvs).length = kvs.length := List.length_map _
theorem cr_lenD : CallR X (.builtin "len") (fun xs H Q => ∃ p kvs, xs = [V.ref p] ∧ Rd H p (.dK kvs) ∧ Q (.int kvs.length) H) := by
  intro pins s σ H xs us Q I r h
  obtain ⟨p, kvs, rfl, hd, q⟩ := h
  obtain ⟨u, rfl, rx⟩ := vals1 r
  cases rx
  exact d_len I hd fun t s' I' => ⟨.int kvs.length, H, I', ⟨t, rfl⟩, q⟩
theorem c_lenD {kvs : List (Str × Int)} : CaF X (.builtin "len") [.dct kvs] (.int kvs.length) := ⟨_, cr_lenD, fun F H vs Q f r q => by
  obtain ⟨v, e, p, ev, h⟩ := pv1 r
  subst e ev
  refine ⟨p, _, rfl, h, ?_⟩
  rw [kvI_len]
  exact q _ F H (.refl f) rfl⟩
theorem c_int : CaF X (.type "int") [.int i] (.int i) := ⟨_, call_int1, fun F H vs Q f r q => by
  obtain ⟨v, e, ev⟩ := pv1 r
  subst e
  exact .inl ⟨i, by rw [show v = _ from ev], q _ F H (.refl f) rfl⟩⟩
theorem c_max2 (g : Gd X N sc k) : CaF X (.builtin "max") [.int i, .int j] (.int (max i j)) := ⟨_, call_max2 g.calm, fun F H vs Q f r q => by
  obtain ⟨v, v', e, ev, ev'⟩ := pv2 r
  subst e
  refine ⟨i, j, by rw [show v = _ from ev, show v' = _ from ev'], ?_⟩
  have z := q (.int (max i j)) F H (.refl f) rfl
  have e : (if j > i then j else i) = max i j := by
    rw [Int.max_def]
    split <;> split <;> omega
  rw [e]
  exact z⟩
theorem c_min2 (g : Gd X N sc k) : CaF X (.builtin "min") [.int i, .int j] (.int (min i j)) := ⟨_, call_min2 g.calm, fun F H vs Q f r q => by
  obtain ⟨v, v', e, ev, ev'⟩ := pv2 r
  subst e
  refine ⟨i, j, by rw [show v = _ from ev, show v' = _ from ev'], ?_⟩
  have z := q (.int (min i j)) F H (.refl f) rfl
  have e : (if j < i then j else i) = min i j := by
    rw [Int.min_def]
    split <;> split <;> omega
  rw [e]
  exact z⟩
theorem Reps.intsM {F : Hp} {α : Type} {f : α → Int} {as : List α} {xs : List V} (h : Reps F xs (as.map fun a => D.int (f a))) : xs = (as.map f).map V.int := by
  rw [List.map_map]
  exact Reps.scal (g := fun a => V.int (f a)) (fun _ _ h => by simpa only [Rep] using h) h
theorem Reps.blsM {F : Hp} {α : Type} {f : α → Bool} {as : List α} {xs : List V} (h : Reps F xs (as.map fun a => D.bl (f a))) : xs = (as.map f).map V.bl := by
  rw [List.map_map]
  exact Reps.scal (g := fun a => V.bl (f a)) (fun _ _ h => by simpa only [Rep] using h) h
theorem Reps.strsM {F : Hp} {α : Type} {f : α → Str} {as : List α} {xs : List V} (h : Reps F xs (as.map fun a => D.str (f a))) : xs = (as.map f).map V.str := by
  rw [List.map_map]
  exact Reps.scal (g := fun a => V.str (f a)) (fun _ _ h => by simpa only [Rep] using h) h
theorem c_all (g : Gd X N sc k) {α : Type} {as : List α} {f : α → Bool} : CaF X (.builtin "all") [.lst (as.map fun a => .bl (f a))] (.bl (as.all f)) := ⟨_, cr_all g.calm, fun F H vs Q fz r q => by
  obtain ⟨v, e, p, xs, ev, h, z⟩ := pv1 r
  subst e ev
  have ez := z.blsM
  subst ez
  refine ⟨p, _, rfl, .inl h.1, ?_⟩
  rw [List.all_map]
  exact q _ F H (.refl fz) rfl⟩
theorem c_any (g : Gd X N sc k) {α : Type} {as : List α} {f : α → Bool} : CaF X (.builtin "any") [.lst (as.map fun a => .bl (f a))] (.bl (as.any f)) := ⟨_, cr_any g.calm, fun F H vs Q fz r q => by
  obtain ⟨v, e, p, xs, ev, h, z⟩ := pv1 r
  subst e ev
  have ez := z.blsM
  subst ez
  refine ⟨p, _, rfl, .inl h.1, ?_⟩
  rw [List.any_map]
  exact q _ F H (.refl fz) rfl⟩
theorem c_sum (g : Gd X N sc k) {α : Type} {as : List α} {f : α → Int} : CaF X (.builtin "sum") [.lst (as.map fun a => .int (f a))] (.int (as.map f).sum) := ⟨_, cr_sum g.calm, fun F H vs Q fz r q => by
  obtain ⟨v, e, p, xs, ev, h, z⟩ := pv1 r
  subst e ev
  have ez := z.intsM
  subst ez
  exact ⟨p, _, rfl, .inl h.1, q _ F H (.refl fz) rfl⟩⟩
def maxL : List Int → Int
  | [] => 0
  | [a] => a
  | a :: b :: r => max a (maxL (b :: r))
def minL : List Int → Int
  | [] => 0
  | [a] => a
  | a :: b :: r => min a (minL (b :: r))
theorem maxL_is : ∀ (l : List Int) (m : Int), m ∈ l → (∀ y, y ∈ l → y ≤ m) → m = maxL l
  | [], _, h, _ => by cases h
  | [a], m, h, _ => by
    simp at h
    exact h
  | a :: b :: r, m, h, u => by
    show m = max a (maxL (b :: r))
    rcases List.mem_cons.mp h with e | h'
    · subst e
      have hb : ∀ y ∈ b :: r, y ≤ m := fun y hy => u y (List.mem_cons_of_mem _ hy)
      have hle : ∀ (l : List Int), l ≠ [] → (∀ y ∈ l, y ≤ m) → maxL l ≤ m := by
        intro l
        induction l with
        | nil => intro h; exact absurd rfl h
        | cons c t ih =>
          intro _ hc
          cases t with
          | nil => exact hc c List.mem_cons_self
          | cons d t' =>
            show max c (maxL (d :: t')) ≤ m
            have h1 := hc c List.mem_cons_self
            have h2 := ih (List.cons_ne_nil _ _) fun y hy => hc y (List.mem_cons_of_mem _ hy)
            omega
      have := hle (b :: r) (List.cons_ne_nil _ _) hb
      omega
    · have ih := maxL_is (b :: r) m h' fun y hy => u y (List.mem_cons_of_mem _ hy)
      have := u a List.mem_cons_self
      omega
theorem minL_is : ∀ (l : List Int) (m : Int), m ∈ l → (∀ y, y ∈ l → m ≤ y) → m = minL l
  | [], _, h, _ => by cases h
  | [a], m, h, _ => by
    simp at h
    exact h
  | a :: b :: r, m, h, u => by
    show m = min a (minL (b :: r))
    rcases List.mem_cons.mp h with e | h'
    · subst e
      have hb : ∀ y ∈ b :: r, m ≤ y := fun y hy => u y (List.mem_cons_of_mem _ hy)
      have hle : ∀ (l : List Int), l ≠ [] → (∀ y ∈ l, m ≤ y) → m ≤ minL l := by
        intro l
        induction l with
        | nil => intro h; exact absurd rfl h
        | cons c t ih =>
          intro _ hc
          cases t with
          | nil => exact hc c List.mem_cons_self
          | cons d t' =>
            show m ≤ min c (minL (d :: t'))
            have h1 := hc c List.mem_cons_self
            have h2 := ih (List.cons_ne_nil _ _) fun y hy => hc y (List.mem_cons_of_mem _ hy)
            omega
      have := hle (b :: r) (List.cons_ne_nil _ _) hb
      omega
    · have ih := minL_is (b :: r) m h' fun y hy => u y (List.mem_cons_of_mem _ hy)
      have := u a List.mem_cons_self
      omega
theorem c_maxL (g : Gd X N sc k) {ns : List Int} (hn : ns ≠ []) : CaF X (.builtin "max") [.lst (ns.map D.int)] (.int (maxL ns)) := ⟨_, cr_max g.calm, fun F H vs Q fz r q => by
  obtain ⟨v, e, p, xs, ev, h, z⟩ := pv1 r
  subst e ev
  have ez := z.ints
  subst ez
  refine ⟨p, _, rfl, .inl h.1, List.length_pos_iff.mpr hn, fun m h1 h2 => ?_⟩
  rw [maxL_is ns m h1 h2]
  exact q _ F H (.refl fz) rfl⟩
theorem c_minL (g : Gd X N sc k) {ns : List Int} (hn : ns ≠ []) : CaF X (.builtin "min") [.lst (ns.map D.int)] (.int (minL ns)) := ⟨_, cr_min g.calm, fun F H vs Q fz r q => by
  obtain ⟨v, e, p, xs, ev, h, z⟩ := pv1 r
  subst e ev
  have ez := z.ints
  subst ez
  refine ⟨p, _, rfl, .inl h.1, List.length_pos_iff.mpr hn, fun m h1 h2 => ?_⟩
  rw [minL_is ns m h1 h2]
  exact q _ F H (.refl fz) rfl⟩
theorem c_dictD {kvs : List (Str × Int)} : CaN X (.type "dict") [.dct kvs] (.dct kvs) := ⟨_, call_dictD, fun F H vs Q f r q => by
  obtain ⟨v, e, p, ev, h⟩ := pv1 r
  subst e ev
  exact ⟨p, _, rfl, h, fun c hc => q c _ F _ (Step.fresh f hc) hc (f.none hc) upd_same rfl⟩⟩
theorem c_listD (g : Gd X N sc k) {kvs : List (Str × Int)} : CaN X (.type "list") [.dct kvs] (.lst (kvs.map fun q => .str q.1)) := ⟨_, call_listD g.calm, fun F H vs Q f r q => by
  obtain ⟨v, e, p, ev, h⟩ := pv1 r
  subst e ev
  refine ⟨p, _, rfl, h, fun c hc => q c _ F _ (Step.fresh f hc) hc (f.none hc) upd_same ?_⟩
  show Reps F ((kvI kvs).map fun kv => kV kv.1) _
  unfold kvI
  rw [List.map_map]
  exact Reps.mk (f := fun q : Str × Int => D.str q.1) (g := fun q : Str × Int => V.str q.1) (fun a => rfl) kvs⟩
theorem c_listT : CaN X (.type "list") [.tup ds] (.lst ds) := ⟨_, call_list_of, fun F H vs Q f r q => by
  obtain ⟨v, e, p, xs, o, ev, h, _, z⟩ := pv1 r
  subst e ev
  exact ⟨p, xs, rfl, .inr (.inl (.inr ⟨o, h⟩)), fun c hc => q c _ F _ (Step.fresh f hc) hc (f.none hc) upd_same z⟩⟩
/-- tuple(list): a new tuple whose object is known -/
def rTupZ (K : PySem.W.Frag) : List V → Hp → VK → Prop := fun xs H Q => ∃ p ys, xs = [.ref p] ∧ SqL K H p ys ∧ ∀ l o, H l = none → o.dict = none → Q (.ref l) (upd H l (.frz o (.tup ys)))
theorem cr_tupZ : CallR X (.type "tuple") (rTupZ X.K) := by
  rintro pins s σ H xs us Q J r ⟨p, ys, rfl, hq, q⟩
  obtain ⟨u, rfl, rx⟩ := vals1 r
  cases rx
  obtain ⟨ws, r', pl, hz⟩ := J.list hq
  have hn := r'.length
  refine call_tuple_list pl.isList (fun h' kp => ?_) (by simp only [List.size_toArray] <;> omega)
  have J1 : Inv X pins σ H { s with heap := h' } := J.kept (t' := s.toks) kp
  exact ⟨.ref h'.objs.size, _, J1.laid (t' := s.toks) (o := .frz (nT ws) (.tup ys)) (fun b o e => Heap.get?_push_of_some _ e) (Nat.le_refl _) (ok_tupZ hz r' (Heap.get?_push_size h' (o := nT ws) rfl)), rfl, q _ _ (J1.hok.fresh (Nat.le_refl _)) rfl⟩
theorem c_tupleL : CaF X (.type "tuple") [.lst ds] (.tup ds) := ⟨_, cr_tupZ, fun F H vs Q f r q => by
  obtain ⟨v, e, p, xs, ev, h, z⟩ := pv1 r
  subst e ev
  exact ⟨p, xs, rfl, .inl h.1, fun c o hc ho => q _ (upd F c _) _ (Step.new f hc) ⟨c, xs, o, rfl, upd_same, ho, Reps.mono (sub_upd (f.none hc)) _ z⟩⟩⟩
end
/-! ### isinstance -/
def tyD : D → String
  | .non => "NoneType"
  | .bl _ => "bool"
  | .int _ => "int"
  | .str _ => "str"
  | .tup _ => "tuple"
  | .lst _ => "list"
  | .dct _ => "dict"
  | .dset _ => "dict"
  | .adr _ => "?"
theorem Vl.tyX {K : PySem.W.Frag} {F H : Hp} {v : V} {d : D} (hn : ∀ a, d ≠ .adr a) (h : Vl F H v d) : TyX K H v (.type (tyD d)) := by
  cases d with
  | adr a => exact absurd rfl (hn a)
  | non => rw [show v = _ from h]; exact .base .non
  | bl b => rw [show v = _ from h]; exact .base (.bl b)
  | int i => rw [show v = _ from h]; exact .base (.int i)
  | str x => rw [show v = _ from h]; exact .base (.str x)
  | tup ds =>
    obtain ⟨p, xs, o, e, r, _⟩ := h
    subst e
    exact .fTuple r
  | lst ds =>
    obtain ⟨p, xs, e, r, _⟩ := h
    subst e
    rcases r with r | ⟨ob, r⟩
    · exact .base (.lst r)
    · exact .base (.frz r)
  | dct kvs =>
    obtain ⟨p, e, r⟩ := h
    subst e
    rcases r with r | ⟨ob, r⟩
    · exact .base (.dK r)
    · exact .fDict r
  | dset kvs =>
    obtain ⟨p, e, r⟩ := h
    subst e
    rcases r with r | ⟨ob, r⟩
    · exact .base (.dK r)
    · exact .fDict r
section
variable {X : Cx} {N : List Str} {sc : Scope} {k : Nat} {ρ : List SV} {pos p pt : Pos} {e : Expr} {d : D} {T : String} {t : Str} {b : Bool}
theorem f_isi (g : Gd X N sc k) (he : SemV X e ρ d) (hb : kitB (tyD d) T = some b) (hm : X.mg "isinstance" = none) (ht : X.mg t = none) (hg : glB sc "isinstance" = true := by rfl) (hgt : glB sc t = true := by rfl)
    (hvt : bootBuiltins t = some (.type T) := by decide +kernel) (hna : ∀ a, d ≠ .adr a := by intro _ h; cases h) (hnt : t ≠ "__name__" := by decide) (hdt : (t == ("__debug__" : Str)) = false := by decide)
    (hs : starEach [e, .Name t pt] X.env = (false, eval e X.env) :: starEach [.Name t pt] X.env := by rfl) (hs2 : starEach [.Name t pt] X.env = (false, eval (.Name t pt) X.env) :: starEach [] X.env := by rfl) (hpl : (backTo pos (starEach [.Name t pt] X.env)).any (·.1) = false := by rfl) :
    SemF X (.Call (.Name "isinstance" p) [e, .Name t pt] [] pos) ρ (.bl b) := fun σ F H Q f s q =>
  peR (pe_callB call_isi (gl_of g hg) hm (by decide +kernel) (pa_cons peS (pa_cons (pe_bltn (v := .ty T) (gl_of g hgt) ht hvt rfl hnt hdt) pa_nil hs2) hs) (by decide) (by decide) hs hpl)
    (he σ F H _ f s fun v F1 H1 t1 r1 => ⟨v, .ty T, .type (tyD d), .type T, b, rfl, .ty T, (r1.tyX hna), kit_ty hb, q _ F1 H1 t1 rfl⟩)
/-- isinstance(x, (T1, T2)) -/
theorem f_isi2 (g : Gd X N sc k) {T2 : String} {t2 : Str} {b2 : Bool} {pt2 ptup : Pos} {x1 : Nat} (he : SemV X e ρ d) (hb : kitB (tyD d) T = some b) (hb2 : kitB (tyD d) T2 = some b2) (hm : X.mg "isinstance" = none) (ht : X.mg t = none) (ht2 : X.mg t2 = none) (hg : glB sc "isinstance" = true := by rfl) (hgt : glB sc t = true := by rfl) (hgt2 : glB sc t2 = true := by rfl)
    (hvt : bootBuiltins t = some (.type T) := by decide +kernel) (hna : ∀ a, d ≠ .adr a := by intro _ h; cases h) (hvt2 : bootBuiltins t2 = some (.type T2) := by decide +kernel) (hnt : t ≠ "__name__" := by decide) (hdt : (t == ("__debug__" : Str)) = false := by decide) (hnt2 : t2 ≠ "__name__" := by decide) (hdt2 : (t2 == ("__debug__" : Str)) = false := by decide)
    (hs : starEach [e, .Tuple [.Name t pt, .Name t2 pt2] x1 ptup] X.env = (false, eval e X.env) :: starEach [.Tuple [.Name t pt, .Name t2 pt2] x1 ptup] X.env := by rfl)
    (hpl : (backTo pos (starEach [.Tuple [.Name t pt, .Name t2 pt2] x1 ptup] X.env)).any (·.1) = false := by rfl) :
    SemF X (.Call (.Name "isinstance" p) [e, .Tuple [.Name t pt, .Name t2 pt2] x1 ptup] [] pos) ρ (.bl (b || b2)) := fun σ F H Q f s q =>
  peR (pe_callB call_isiT (gl_of g hg) hm (by decide +kernel) (pa_cons peS (pa_cons (pe_tup (pa_cons (pe_bltn (v := .ty T) (gl_of g hgt) ht hvt rfl hnt hdt) (pa_cons (pe_bltn (v := .ty T2) (gl_of g hgt2) ht2 hvt2 rfl hnt2 hdt2) pa_nil (by rfl)) (by rfl))) pa_nil (by rfl)) hs) (by decide) (by decide) hs hpl)
    (he σ F H _ f s fun v F1 H1 t1 r1 => ⟨by show 2 ≤ sizeLine; decide, fun tp htp => ⟨v, tp, [.ty T, .ty T2], .type (tyD d), [.type T, .type T2], b || b2, rfl, upd_same, .cons (.ty T) (.cons (.ty T2) .nil), ((r1.step (Step.new t1.fz htp)).tyX hna), by
      refine kitAny_cons (kit_ty hb) (fun z => ?_) (fun z => by rw [z, Bool.true_or])
      rw [z, Bool.false_or]
      exact kitAny_cons (kit_ty hb2) (fun z => by rw [z]; exact kitAny_nil) (fun z => z), q _ _ _ (t1.trans (Step.new t1.fz htp)) rfl⟩⟩)
end
/-! ### calls of defs -/
/-- a def's promise: data in, data out -/
theorem Fz.plain {F H : Hp} (f : Fz F H) : @Fz volNone F H := @Fz.mk volNone F H (fun a o e => ⟨(f a o e).1, fun z => z⟩) trivial
theorem Step.lift {F H F' H' : Hp} (f : Fz F H) (t : @Step volNone F H F' H') : Step F H F' H' := by
  have hh : ∀ a o, H a = some o → H' a = some o := fun a o e => @Step.hh volNone F H F' H' t a o (fun z => z) e
  refine ⟨@Step.ex volNone F H F' H' t, ⟨fun a o e => ⟨(@Fz.rm volNone F' H' (@Step.fz volNone F H F' H' t) a o e).1, ?_⟩, Vol.kp f.iv fun a o _ e => hh a o e⟩, fun a o _ e => hh a o e, @Step.off volNone F H F' H' t, f.iv⟩
  cases q : F a with
  | some u => exact (f a u q).2
  | none =>
    refine f.new ?_
    cases q2 : H a with
    | none => rfl
    | some u =>
      have := @Step.off volNone F H F' H' t a q (by rw [q2]; exact fun z => nomatch z)
      rw [e] at this
      cases this
def Pr (Rl : List D → D → Prop) : Sp := fun vs H Q _ => ∃ F ds d, @Fz volNone F H ∧ Reps F vs ds ∧ Rl ds d ∧ ∀ v F' H', @Step volNone F H F' H' → Rep F' v d → Q v H'
structure Fn (P : Program) (w : World) (K : PySem.W.Frag) (mg : Str → Option Value) (base : Heap) (x : Str) (k : Nat) (Rl : List D → D → Prop) : Prop where
  ex : ∃ (f : Addr) (fd : FuncData) (ps : List Str), mg x = some (.ref f) ∧ PySem.W.keepIn K (.ref f) = true ∧ Binds K fd ps [] ∧ FnOk P w K mg base CX0 k f fd ps (Pr Rl)
theorem Fn.imp {P : Program} {w : World} {K : PySem.W.Frag} {mg : Str → Option Value} {base : Heap} {x : Str} {k : Nat} {Rl Rl' : List D → D → Prop} (c : Fn P w K mg base x k Rl) (h : ∀ ds d, Rl' ds d → Rl ds d) : Fn P w K mg base x k Rl' := by
  obtain ⟨f, fd, ps, h1, h2, h3, h4⟩ := c.ex
  exact ⟨f, fd, ps, h1, h2, h3, h4.imp fun vs H Q E ⟨F, ds, d, a, b, c, q⟩ => ⟨F, ds, d, a, b, h _ _ c, q⟩⟩
section
variable {X : Cx} {N : List Str} {sc : Scope} {k j : Nat} {ρ : List SV} {pos p : Pos} {e : Expr} {es : List Expr} {ds : List D} {d : D} {x : Str} {Rl : List D → D → Prop}
theorem f_call (g : Gd X N sc k) (c : Fn X.prog X.w X.K X.mg X.base x j Rl) (hj : j ≤ k) (ha : SemA X (e :: es) ρ ds) (hR : Rl ds d) (hg : glB sc x = true := by rfl) (hdb : (x == ("__debug__" : Str)) = false := by decide)
    (he : starEach (e :: es) X.env = (false, eval e X.env) :: starEach es X.env := by rfl) (hpl : (backTo pos (starEach es X.env)).any (·.1) = false := by rfl) : SemF X (.Call (.Name x p) (e :: es) [] pos) ρ d := fun σ F H Q f s q => by
  obtain ⟨fa, fd, ps, h1, h2, h3, h4⟩ := c.ex
  exact peR (pe_call h4 (g.rm.mono hj) (gl_of g hg) h1 h2 h3 .nil pass0 paS hdb he hpl) (ha σ F H _ f s fun vs F1 H1 t1 r1 => by
    rw [List.append_nil]
    exact ⟨F1, ds, d, t1.fz.plain, r1, hR, fun v F2 H2 t2 r2 => q v F2 H2 (t1.trans (Step.lift t1.fz t2)) r2⟩)
end
/-! ### what is walked -/
def Wlk {α : Type} (J : It) (xs : List α) (enc : α → D) (F1 H1 : Hp) : Prop := ∀ F' H', Step F1 H1 F' H' →
  (∀ i x, xs[i]? = some x → J.go i H' ∧ ∀ v H'', J.yld i H' v H'' → H'' = H' ∧ Rep F' v (enc x)) ∧ J.stop xs.length H'
/-- a thing to walk whose turns give these data -/
def ItS {α : Type} (X : Cx) (tg iter : Expr) (ρ : List SV) (xs : List α) (enc : α → D) : Prop :=
  ∃ wi, PI X tg iter wi ∧ ∀ (σ : L2.St) (F H : Hp) (R : It → Hp → Prop), Fz F H → SOk ρ σ F H → (∀ J F1 H1, Step F H F1 H1 → Wlk J xs enc F1 H1 → R J H1) → wi σ H R
section
variable {X : Cx} {N : List Str} {sc : Scope} {k : Nat} {ρ : List SV} {tg iter : Expr} {α : Type} {xs : List α} {enc : α → D}
theorem map_get {β : Type} {l : List α} {f : α → β} {i : Nat} {x : α} (h : l[i]? = some x) : (l.map f)[i]? = some (f x) := by
  rw [List.getElem?_map, h]
  rfl
theorem it_tup (h : SemV X iter ρ (.tup (xs.map enc))) : ItS X tg iter ρ xs enc := ⟨_, pi_tup peS, fun σ F H R f s q => h σ F H _ f s fun v F1 H1 t1 r1 => by
  obtain ⟨p, vs, o, e, r, _, z⟩ := id r1
  refine ⟨p, e, ⟨vs, .inl (.inr ⟨o, r⟩)⟩, q _ F1 H1 t1 fun F' H' t => ?_⟩
  obtain ⟨p', vs', o', e', r', _, z'⟩ := r1.step t
  have ep : p' = p := by
    rw [e] at e'
    exact (V.ref.inj e').symm
  subst ep
  refine ⟨fun i x hx => ?_, ⟨vs', .inl (.inr ⟨o', r'⟩), by rw [z'.len, List.length_map]; exact Nat.le_refl _⟩⟩
  obtain ⟨u, hu, ru⟩ := z'.get (map_get hx)
  refine ⟨⟨vs', u, .inl (.inr ⟨o', r'⟩), hu⟩, fun v' H'' y => ⟨y.1, ?_⟩⟩
  have w := y.2 vs' (.inl (.inr ⟨o', r'⟩))
  rw [hu] at w
  cases w
  exact ru⟩
theorem it_lst (h : SemV X iter ρ (.lst (xs.map enc))) : ItS X tg iter ρ xs enc := ⟨_, pi_list peS, fun σ F H R f s q => h σ F H _ f s fun v F1 H1 t1 r1 => by
  obtain ⟨p, vs, e, r, z⟩ := id r1
  refine ⟨p, e, ⟨vs, .inl r.1⟩, q _ F1 H1 t1 fun F' H' t => ?_⟩
  obtain ⟨p', vs', e', r', z'⟩ := r1.step t
  have ep : p' = p := by
    rw [e] at e'
    exact (V.ref.inj e').symm
  subst ep
  refine ⟨fun i x hx => ?_, ⟨vs', .inl r'.1, by rw [z'.len, List.length_map]; exact Nat.le_refl _⟩⟩
  obtain ⟨u, hu, ru⟩ := z'.get (map_get hx)
  refine ⟨⟨vs', u, .inl r'.1, hu⟩, fun v' H'' y => ⟨y.1, ?_⟩⟩
  have w := y.2 vs' (.inl r'.1)
  rw [hu] at w
  cases w
  exact ru⟩
theorem it_str {z : Str} (h : SemV X iter ρ (.str z)) : ItS X tg iter ρ z.cps.toList (fun c => .str ⟨#[c]⟩) := ⟨_, pi_str peS, fun σ F H R f s q => h σ F H _ f s fun v F1 H1 t1 r1 =>
  ⟨z, r1, q _ F1 H1 t1 fun F' H' t => ⟨fun i x hx => by
    have hx' : z.cps[i]? = some x := by rw [← Array.getElem?_toList]; exact hx
    refine ⟨(Array.getElem?_eq_some_iff.mp hx').1, fun v' H'' y => ⟨y.1, ?_⟩⟩
    obtain ⟨c, hc, e⟩ := y.2
    rw [hx'] at hc
    cases hc
    exact e, by show z.cps.size ≤ _; rw [Array.length_toList]; exact Nat.le_refl _⟩⟩⟩
theorem range_get {n i x : Nat} (h : (List.range n)[i]? = some x) : i = x ∧ i < n := by
  have hi : i < n := by
    have := (List.getElem?_eq_some_iff.mp h).1
    rwa [List.length_range] at this
  rw [List.getElem?_range hi] at h
  exact ⟨Option.some.inj h, hi⟩
theorem it_rng (g : Gd X N sc k) {a : Expr} {i : Int} {p pos : Pos} (ha : SemV X a ρ (.int i)) (h1 : -(2 ^ 62) ≤ i) (h2 : i < 2 ^ 62) (hm : X.mg "range" = none) (hg : glB sc "range" = true := by rfl)
    (hs : starEach [a] X.env = [(false, eval a X.env)] := by rfl) : ItS X tg (.Call (.Name "range" p) [a] [] pos) ρ (List.range i.toNat) (fun n => .int n) := ⟨_, pi_range1 (gl_of g hg) hm paS hs, fun σ F H R f s q => (av_cons ha av_nil hs) σ F H _ f s fun vs F1 H1 t1 r1 => by
  obtain ⟨v, e, ev⟩ := pv1 r1
  subst e
  refine ⟨i, by rw [show v = _ from ev], h1, h2, q _ F1 H1 t1 fun F' H' t => ⟨fun j x hx => ?_, by show _ ≤ _; rw [List.length_range]; exact Nat.le_refl _⟩⟩
  obtain ⟨e1, e2⟩ := range_get hx
  subst e1
  refine ⟨e2, fun v' H'' y => ⟨y.1, ?_⟩⟩
  have e := y.2
  rw [Int.zero_add] at e
  exact e⟩
theorem it_rngDown (g : Gd X N sc k) {a b c : Expr} {i : Int} {p pos : Pos} (ha : SemV X a ρ (.int i)) (hb : SemV X b ρ (.int 0)) (hc : SemV X c ρ (.int (-1))) (h1 : 0 ≤ i) (h2 : i < 2 ^ 62) (hm : X.mg "range" = none) (hg : glB sc "range" = true := by rfl)
    (hs : starEach [a, b, c] X.env = (false, eval a X.env) :: starEach [b, c] X.env := by rfl) (hs2 : starEach [b, c] X.env = (false, eval b X.env) :: starEach [c] X.env := by rfl) (hs3 : starEach [c] X.env = (false, eval c X.env) :: starEach [] X.env := by rfl) (hpl : (backTo pos (starEach [b, c] X.env)).any (·.1) = false := by rfl) :
    ItS X tg (.Call (.Name "range" p) [a, b, c] [] pos) ρ (List.range i.toNat) (fun n => .int (i - n)) := ⟨_, pi_range3 (gl_of g hg) hm paS hs hpl, fun σ F H R f s q => (av_cons ha (av_cons hb (av_cons hc av_nil hs3) hs2) hs) σ F H _ f s fun vs F1 H1 t1 r1 => by
  have hz := RgC.neg (i := i) (j := 0) (by omega) h2 (by omega) (by omega)
  rw [Int.sub_zero] at hz
  cases r1 with
  | cons r1 r2 =>
    cases r2 with
    | cons r2 r3 =>
      cases r3 with
      | cons r3 r4 =>
        cases r4
        have r1 : _ = V.int i := r1
        have r2 : _ = V.int 0 := r2
        have r3 : _ = V.int (-1) := r3
        subst r1 r2 r3
        refine ⟨i, 0, -1, i.toNat, rfl, hz, q _ F1 H1 t1 fun F' H' t => ⟨fun j x hx => ?_, by show _ ≤ _; rw [List.length_range]; exact Nat.le_refl _⟩⟩
        obtain ⟨e1, e2⟩ := range_get hx
        subst e1
        refine ⟨e2, fun v' H'' y => ⟨y.1, ?_⟩⟩
        have e := y.2
        have e3 : i + (j : Nat) * (-1) = i - (j : Int) := by omega
        rw [e3] at e
        exact e⟩
end
end KD

set_option Elab.async false
set_option linter.all false
set_option maxRecDepth 100000
set_option maxHeartbeats 2000000
/-! KD5: dict(pairs), sorted. -/
namespace KD
open PySem PySem.Spec PyProof.Rows L2
variable [Vol]
/-! ### pairs -/
def pD (q : Str × Int) : D := .tup [.str q.1, .int q.2]
def putI (kvs : List (Str × Int)) (k : Str) (v : Int) : List (Str × Int) := if (kvs.any fun q => decide (q.1 = k)) = true then kvs.map (fun q => if q.1 = k then (q.1, v) else q) else kvs ++ [(k, v)]
def mergeI (kvs more : List (Str × Int)) : List (Str × Int) := more.foldl (fun acc q => putI acc q.1 q.2) kvs
theorem kvI_any (k : Str) : ∀ kvs : List (Str × Int), ((kvI kvs).any fun kv => decide (kv.1 = (Sum.inr k : Key))) = kvs.any fun q => decide (q.1 = k)
  | [] => rfl
  | q :: r => by
    have ih := kvI_any k r
    show (decide ((Sum.inr q.1 : Key) = Sum.inr k) || (kvI r).any _) = (decide (q.1 = k) || r.any _)
    rw [ih, key_rr]
theorem kvI_put (kvs : List (Str × Int)) (k : Str) (v : Int) : kvI (putI kvs k v) = putK (kvI kvs) (Sum.inr k : Key) (.int v) := by
  unfold putI putK
  rw [kvI_any]
  by_cases h : (kvs.any fun q => decide (q.1 = k)) = true
  · rw [if_pos h, if_pos h]
    unfold kvI
    rw [List.map_map, List.map_map]
    refine List.map_congr_left fun q _ => ?_
    by_cases e : q.1 = k
    · simp only [Function.comp, if_pos e, e]
      rfl
    · have e' : ¬ (Sum.inr q.1 : Key) = Sum.inr k := fun z => e (Sum.inr.inj z)
      simp only [Function.comp, if_neg e]
      rw [if_neg e']
  · rw [if_neg h, if_neg h]
    unfold kvI
    rw [List.map_append]
    rfl
theorem kvI_merge : ∀ (more kvs : List (Str × Int)), kvI (mergeI kvs more) = mergeK (kvI kvs) (kvI more)
  | [], _ => rfl
  | q :: r, kvs => by
    show kvI (mergeI (putI kvs q.1 q.2) r) = mergeK (putK (kvI kvs) (Sum.inr q.1) (.int q.2)) (kvI r)
    rw [kvI_merge r, kvI_put]
theorem putI_new {kvs : List (Str × Int)} {k : Str} {v : Int} (h : k ∉ kvs.map (·.1)) : putI kvs k v = kvs ++ [(k, v)] := by
  unfold putI
  rw [if_neg]
  intro z
  obtain ⟨q, hq, e⟩ := List.any_eq_true.mp z
  exact h (List.mem_map.mpr ⟨q, hq, of_decide_eq_true e⟩)
theorem mergeI_nodup : ∀ (more kvs : List (Str × Int)), ((kvs ++ more).map (·.1)).Nodup → mergeI kvs more = kvs ++ more
  | [], kvs, _ => by simp [mergeI]
  | q :: r, kvs, h => by
    have hq : q.1 ∉ kvs.map (·.1) := by
      rw [List.map_append, List.nodup_append] at h
      exact fun z => h.2.2 _ z _ (List.mem_map.mpr ⟨q, List.mem_cons_self, rfl⟩) rfl
    show mergeI (putI kvs q.1 q.2) r = _
    rw [putI_new hq, mergeI_nodup r _ (by rw [List.append_assoc]; exact h), List.append_assoc]
    rfl
theorem mergeI_nil {more : List (Str × Int)} (h : (more.map (·.1)).Nodup) : mergeI [] more = more := mergeI_nodup more [] h
theorem reps_pairs {K : PySem.W.Frag} {F H : Hp} (f : Fz F H) : ∀ {kvs : List (Str × Int)} {xs : List V}, Reps F xs (kvs.map pD) → ∃ ps : List Addr, xs = ps.map V.ref ∧ Paired (fun p kv => SqT K H p [kV kv.1, kv.2]) ps (kvI kvs)
  | [], _, h => ⟨[], h, .nil⟩
  | q :: r, _, h => by
    obtain ⟨x, t, e, h1, h2⟩ := h
    obtain ⟨ps, e2, hp⟩ := reps_pairs (K := K) f h2
    obtain ⟨p, ys, o, ex, hF, _, hr⟩ := Rep.vl f (d := pD q) h1
    obtain ⟨a, t1, ea, ha, hr⟩ := hr
    obtain ⟨b, t2, eb, hb, hr⟩ := hr
    have hr : t2 = [] := hr
    subst hr eb ea ex
    have ha : a = .str q.1 := ha
    have hb : b = .int q.2 := hb
    subst ha hb
    exact ⟨p :: ps, by rw [e, e2]; rfl, .cons (.inl (.inr ⟨o, hF⟩)) hp⟩
section
variable {X : Cx} {N : List Str} {sc : Scope} {k : Nat}
theorem c_dictL (g : Gd X N sc k) {kvs : List (Str × Int)} : CaN X (.type "dict") [.lst (kvs.map pD)] (.dct (mergeI [] kvs)) := ⟨_, call_dictP g.calm, fun F H vs Q f r q => by
  obtain ⟨v, e, p, xs, ev, h, z⟩ := pv1 r
  subst e ev
  obtain ⟨ps, ex, hp⟩ := reps_pairs (K := X.K) f z
  refine ⟨p, ps, kvI kvs, rfl, .inl (by rw [← ex]; exact h.1), hp, fun c hc => q c _ F _ (Step.fresh f hc) hc (f.none hc) upd_same ?_⟩
  show mergeK [] (kvI kvs) = kvI (mergeI [] kvs)
  rw [kvI_merge]
  rfl⟩
/-! ### dict(a tuple of pairs) -/
theorem pairs_vals {pins : List (Addr × Obj)} {σ : L2.St} {H : Hp} {s : Shared} (J : Inv X pins σ H s) : ∀ {ps : List Addr} {kvs : List (Key × V)}, Paired (fun p kv => SqT X.K H p [kV kv.1, kv.2]) ps kvs →
    ∃ (pvs : List (Value × Value)) (prs : List (Key × Value)), KV kvs prs ∧ pvs.length = ps.length ∧ prs.length = ps.length ∧
      ∀ (j : Nat) (u v : Value), pvs[j]? = some (u, v) → ∃ b kk, ps[j]? = some b ∧ IsTup s.heap b #[u, v] ∧ prs[j]? = some (kk, v) ∧ keyIs kk u = true
  | _, _, .nil => ⟨[], [], .nil, rfl, rfl, fun j u v e => by simp at e⟩
  | _, _, .cons (a := p) (b := kv) h t => by
    obtain ⟨pvs, prs, r, l1, l2, hp⟩ := pairs_vals J t
    obtain ⟨its, rv, ht, _⟩ := J.tuple h
    obtain ⟨u0, v0, ei, ru, ry⟩ := vals2 rv
    subst ei
    refine ⟨(u0, v0) :: pvs, (kv.1, v0) :: prs, .cons ⟨rfl, ry⟩ r, by rw [List.length_cons, List.length_cons, l1], by rw [List.length_cons, List.length_cons, l2], fun j u v e => ?_⟩
    cases j with
    | zero =>
      have e' : (u0, v0) = (u, v) := Option.some.inj e
      cases e'
      exact ⟨p, kv.1, rfl, ht, rfl, kV_is (P := X.prog) (w := X.w) ru⟩
    | succ j =>
      obtain ⟨b, kk, e1, e2, e3, e4⟩ := hp j u v (by simpa using e)
      exact ⟨b, kk, by simpa using e1, e2, by simpa using e3, e4⟩
def rDictT (K : PySem.W.Frag) : List V → Hp → VK → Prop := fun xs H Q => ∃ (a : Addr) (o : Obj) (ps : List Addr) (kvs : List (Key × V)), xs = [.ref a] ∧ H a = some (.frz o (.tup (ps.map V.ref))) ∧ o.dict = none ∧ Paired (fun p kv => SqT K H p [kV kv.1, kv.2]) ps kvs ∧
  ∀ p, H p = none → Q (.ref p) (upd H p (.dK (mergeK [] kvs)))
theorem cr_dictT (hc : X.calm = true) : CallR X (.type "dict") (rDictT X.K) := by
  rintro pins s σ H xs us Q J r ⟨a, o, ps, kvs, rfl, ha, ho, hp, q⟩
  obtain ⟨u, rfl, rx⟩ := vals1 r
  cases rx
  obtain ⟨ho2, hz, its, rv, o', h1, h2, n, h3⟩ := J.hok a _ ha
  rw [ho2] at h1
  cases h1
  have ei := refs_at rv
  subst ei
  rw [List.length_map] at hz
  obtain ⟨pvs, prs, rel, l1, l2, hpr⟩ := pairs_vals J hp
  have hlen : (mergeK [] kvs).length ≤ sizeLine := by
    refine Nat.le_trans (length_mergeK kvs []) ?_
    rw [List.length_nil, Nat.zero_add, rel.length, l2]
    exact hz
  have hm : (s.heap.objs.size == sysModules) = false := beq_eq_false_iff_ne.mpr (Nat.ne_of_gt J.big)
  refine PySem.call_dict_pairs (knd := mixKind X.prog X.w) (kvs := prs) (PySem.PairArg.tuple a ((ps.map Value.ref).toArray) (fun j => ps.getD j 0) pvs) (J.ok.hd hc) ⟨⟨o, n, ho2, h2, ho, h3⟩, ?_, fun j u v e => ?_⟩ ⟨l2.trans l1.symm, fun j u v e => ?_⟩ (by rw [l1]; exact hz) fun h' tk hd' hk => ?_
  · rw [List.size_toArray, List.length_map, l1]
  · obtain ⟨b, kk, e1, e2, _, _⟩ := hpr j u v e
    have eb : ps.getD j 0 = b := by rw [List.getD_eq_getElem?_getD, e1]; rfl
    show (ps.map Value.ref).toArray[j]? = some (Value.ref (ps.getD j 0)) ∧ PairAt s.heap (ps.getD j 0) u v
    rw [eb]
    exact ⟨by simp [e1], .inl e2⟩
  · obtain ⟨b, kk, _, _, e3, e4⟩ := hpr j u v e
    exact ⟨kk, e3, e4⟩
  · exact ⟨.ref s.heap.objs.size, _, J.laid (t' := tk) (o := .dK (mergeK [] kvs)) (fun b u e => hk b u (by simp) e) (Nat.le_refl _) ⟨hlen, hm, _, KV.merge rel .nil, hd'⟩, rfl, q _ (J.hok.fresh (Nat.le_refl _))⟩
theorem c_dictT (g : Gd X N sc k) {kvs : List (Str × Int)} : CaN X (.type "dict") [.tup (kvs.map pD)] (.dct (mergeI [] kvs)) := ⟨_, cr_dictT g.calm, fun F H vs Q f r q => by
  obtain ⟨v, e, p, xs, o, ev, h, ho, z⟩ := pv1 r
  subst e ev
  obtain ⟨ps, ex, hp⟩ := reps_pairs (K := X.K) f z
  refine ⟨p, o, ps, kvI kvs, rfl, by rw [← ex]; exact h, ho, hp, fun c hc => q c _ F _ (Step.fresh f hc) hc (f.none hc) upd_same ?_⟩
  show mergeK [] (kvI kvs) = kvI (mergeI [] kvs)
  rw [kvI_merge]
  rfl⟩
end
/-! ### data as the library's data -/
mutual
def toP : D → PyData
  | .non => .none
  | .bl b => .bool b
  | .int i => .int i
  | .str x => .str x
  | .tup ds => .tuple (toPs ds)
  | .lst ds => .list (toPs ds)
  | .dct _ => .none
  | .dset _ => .none
  | .adr _ => .none
def toPs : List D → List PyData
  | [] => []
  | d :: r => toP d :: toPs r
end
mutual
def plnD : D → Bool
  | .dct _ => false
  | .dset _ => false
  | .adr _ => false
  | .tup ds => plnDs ds
  | .lst ds => plnDs ds
  | _ => true
def plnDs : List D → Bool
  | [] => true
  | d :: r => plnD d && plnDs r
end
theorem toPs_map : ∀ ds : List D, toPs ds = ds.map toP
  | [] => rfl
  | d :: r => by
    show toP d :: toPs r = _
    rw [toPs_map r]
    rfl
mutual
theorem Rep.dp {K : PySem.W.Frag} {F H : Hp} (f : Fz F H) : ∀ (d : D) {v : V}, plnD d = true → Rep F v d → Dp K H v (toP d)
  | .non, _, _, h => by rw [show _ = _ from h]; exact .non
  | .bl b, _, _, h => by rw [show _ = _ from h]; exact .bl b
  | .int i, _, _, h => by rw [show _ = _ from h]; exact .int i
  | .str x, _, _, h => by rw [show _ = _ from h]; exact .str x
  | .tup ds, _, hp, h => by
    obtain ⟨p, xs, o, e, r, _, z⟩ := Rep.vl f h
    subst e
    exact .tup (.inl (.inr ⟨o, r⟩)) (Reps.dps f ds hp z)
  | .lst ds, _, hp, h => by
    obtain ⟨p, xs, e, r, z⟩ := Rep.vl f h
    subst e
    exact .lst (.inl r.1) (Reps.dps f ds hp z)
  | .dct _, _, hp, _ => by cases hp
  | .dset _, _, hp, _ => by cases hp
  | .adr _, _, hp, _ => by cases hp
theorem Reps.dps {K : PySem.W.Frag} {F H : Hp} (f : Fz F H) : ∀ (ds : List D) {xs : List V}, plnDs ds = true → Reps F xs ds → DpAll K H xs (toPs ds)
  | [], _, _, h => by rw [show _ = _ from h]; exact .nil
  | d :: r, _, hp, h => by
    obtain ⟨x, t, e, h1, h2⟩ := h
    subst e
    have hp := (Bool.and_eq_true _ _).mp (show (plnD d && plnDs r) = true from hp)
    exact .cons (Rep.dp f d hp.1 h1) (Reps.dps f r hp.2 h2)
end
theorem Vl.dp {K : PySem.W.Frag} {F H : Hp} (f : Fz F H) {d : D} {v : V} (hp : plnD d = true) (h : Vl F H v d) : Dp K H v (toP d) := by
  cases d with
  | tup ds =>
    obtain ⟨p, xs, o, e, r, _, z⟩ := h
    subst e
    exact .tup (.inl (.inr ⟨o, r⟩)) (Reps.dps f ds hp z)
  | lst ds =>
    obtain ⟨p, xs, e, r, z⟩ := h
    subst e
    exact .lst (.inl r.1) (Reps.dps f ds hp z)
  | dct _ => cases hp
  | dset _ => cases hp
  | adr _ => cases hp
  | non => rw [show v = _ from h]; exact .non
  | bl b => rw [show v = _ from h]; exact .bl b
  | int i => rw [show v = _ from h]; exact .int i
  | str x => rw [show v = _ from h]; exact .str x
section
variable {X : Cx} {N : List Str} {sc : Scope} {k : Nat} {x y : D}
theorem o_eqP (g : Gd X N sc k) (hx : plnD x = true) (hy : plnD y = true) (sx : SeqAt.shaped (toP x) = true) (sy : SeqAt.shaped (toP y) = true) : Op2 X (compareOp .Eq) x y (.bl (PyData.eqv (toP x) (toP y))) :=
  ⟨_, op_eqD (by have := g.hu64; omega), fun F H vx vy Q f rx ry q => ⟨_, _, rx.dp f hx, ry.dp f hy, sx, sy, q _ F H (.refl f) rfl⟩⟩
theorem o_neP (g : Gd X N sc k) (hx : plnD x = true) (hy : plnD y = true) (sx : SeqAt.shaped (toP x) = true) (sy : SeqAt.shaped (toP y) = true) : Op2 X (compareOp .NotEq) x y (.bl (!PyData.eqv (toP x) (toP y))) :=
  ⟨_, op_neD (by have := g.hu64; omega), fun F H vx vy Q f rx ry q => ⟨_, _, rx.dp f hx, ry.dp f hy, sx, sy, q _ F H (.refl f) rfl⟩⟩
end
/-! ### sorted -/
theorem each_of {X : Cx} {pins : List (Addr × Obj)} {σ : L2.St} {F H : Hp} {s : Shared} (J : Inv X pins σ H s) (f : Fz F H) {α : Type} {enc : α → D} (hp : ∀ a, plnD (enc a) = true) : ∀ {as : List α} {xs : List V} {us : List Value}, Reps F xs (as.map enc) → Vals xs us →
    PySem.W.EachIs (fun u a => ∃ v, RelV v u ∧ Rep F v (enc a)) us as ∧ PySem.W.EachIs (fun u a => ∃ bs, Reads s.heap u (toP (enc a)) bs) us as
  | [], _, _, h, r => by
    rw [show _ = _ from h] at r
    cases r
    exact ⟨.nil, .nil⟩
  | a :: as, _, _, h, r => by
    obtain ⟨x, t, e, h1, h2⟩ := h
    subst e
    cases r with
    | cons r1 r2 =>
      obtain ⟨q1, q2⟩ := each_of J f hp h2 r2
      exact ⟨.cons ⟨x, r1, h1⟩ q1, .cons (Dp.reads J _ _ _ (Rep.dp f _ (hp a) h1) r1) q2⟩
theorem of_each {F : Hp} {α : Type} {enc : α → D} : ∀ {as : List α} {us : List Value}, PySem.W.EachIs (fun u a => ∃ v, RelV v u ∧ Rep F v (enc a)) us as → ∃ xs, Vals xs us ∧ Reps F xs (as.map enc)
  | _, _, .nil => ⟨[], .nil, rfl⟩
  | _, _, .cons ⟨v, r, h⟩ t => by
    obtain ⟨xs, q1, q2⟩ := of_each t
    exact ⟨v :: xs, .cons r q1, ⟨v, xs, rfl, h, q2⟩⟩
/-- sorted(xs): items of one kind -/
def rSrt (K : PySem.W.Frag) {α : Type} (enc : α → D) (as : List α) : List V → Hp → VK → Prop := fun vs H Q => ∃ (F : Hp) (a : Addr) (xs : List V), vs = [V.ref a] ∧ Fz F H ∧ SqL K H a xs ∧ Reps F xs (as.map enc) ∧
  ∀ ys p, Reps F ys ((as.mergeSort (PySem.W.dataLe false fun b => toP (enc b))).map enc) → H p = none → Q (.ref p) (upd H p (.lst ys))
theorem cr_srt {X : Cx} (hu : X.A.units + 65 < cLine) {α : Type} {enc : α → D} {as : List α} (hp : ∀ a, plnD (enc a) = true) (hal : ∀ a b, PySem.W.alike (toP (enc a)) (toP (enc b)) = true) (hs : PySem.W.Sortable (as.map fun a => toP (enc a))) (hd : ∀ a, (toP (enc a)).depth ≤ 60) :
    CallR X (.builtin "sorted") (rSrt X.K enc as) := by
  rintro pins s σ H vs us Q J r ⟨F, a, xs, rfl, f, hq, z, q⟩
  rw [Vals.ref1 r]
  obtain ⟨its, rv, pl, hz⟩ := J.list hq
  obtain ⟨e1, e2⟩ := each_of J f hp z rv
  have hn : as.length ≤ sizeLine := by
    have := z.len
    rw [List.length_map] at this
    omega
  refine PySem.W.sorted_data (enc := fun a => toP (enc a)) pl.isList e1 e2 (PySem.W.AllAlike.of hal) hs hn (fun b _ => by have := hd b; omega) fun out hl eo => ?_
  obtain ⟨ys, q1, q2⟩ := of_each eo
  obtain ⟨ep, he'⟩ := PyProof.Rows.sortedAll_at s.heap its out.toArray
  have hlen : ys.length ≤ sizeLine := by rw [q1.length, hl]; exact hn
  exact ⟨.ref _, _, J.laid (a := s.heap.objs.size + 1) (o := .lst ys) (t' := s.toks) (fun _ _ => PyProof.Rows.sortedAll_old) (Nat.le_succ _) ⟨hlen, out, ep, q1, he'⟩, rfl, q ys _ q2 (J.hok.fresh (Nat.le_succ _))⟩
theorem c_srt {X : Cx} {N : List Str} {sc : Scope} {k : Nat} (g : Gd X N sc k) {α : Type} {enc : α → D} {as : List α} (hp : ∀ a, plnD (enc a) = true) (hal : ∀ a b, PySem.W.alike (toP (enc a)) (toP (enc b)) = true) (hs : PySem.W.Sortable (as.map fun a => toP (enc a))) (hd : ∀ a, (toP (enc a)).depth ≤ 60) :
    CaN X (.builtin "sorted") [.lst (as.map enc)] (.lst ((as.mergeSort (PySem.W.dataLe false fun b => toP (enc b))).map enc)) := ⟨_, cr_srt g.hu64 hp hal hs hd, fun F H vs Q f r q => by
  obtain ⟨v, e, p, xs, ev, h, z⟩ := pv1 r
  subst e ev
  exact ⟨F, p, xs, rfl, f, .inl h.1, z, fun ys c hy hc => q c _ F _ (Step.fresh f hc) hc (f.none hc) upd_same hy⟩⟩
end KD

set_option Elab.async false
set_option linter.all false
set_option maxRecDepth 100000
set_option maxHeartbeats 2000000
/-! KD6: comprehensions; dicts walked under a lock. -/
namespace KD
open PySem PySem.Spec PyProof.Rows L2
variable [Vol]
/-! ### steps: more -/
/-- an object of one's own written -/
theorem Step.nv {F H F' H' : Hp} (t : Step F H F' H') {p : Addr} (h : H p = none) : ¬ Vol.vol p := fun v => vol_some t.iv0 v h
theorem Step.write {F H F' H' : Hp} (t : Step F H F' H') {D : Addr} {o : HO} (h : H D = none) (h' : F' D = none) : Step F H F' (upd H' D o) := by
  refine ⟨t.ex, ⟨fun a u e => ?_, inv_upd t.fz.iv (t.nv h)⟩, fun a u v e => ?_, t.off, t.iv0⟩
  · have n : a ≠ D := fun z => by
      rw [z, h'] at e
      cases e
    obtain ⟨w, nv⟩ := t.fz a u e
    refine ⟨?_, nv⟩
    rcases w with q | ⟨m, ob, q⟩
    · exact .inl (by rw [upd_ne n]; exact q)
    · exact .inr ⟨m, ob, by rw [upd_ne n]; exact q⟩
  · rw [upd_ne (ne_of_none e h)]
    exact t.hh a u v e
theorem RM.lock {H : Hp} {d a : Addr} {u o : HO} {od : Obj} (hd : H d = some u) (mu : Lk u) (h : RM H a o) : RM (upd H d (.frz od u)) a o := by
  obtain ⟨h, nv⟩ := h
  refine ⟨?_, nv⟩
  by_cases e : a = d
  · subst e
    rcases h with h | ⟨m, ob, h⟩
    · rw [hd] at h
      cases h
      exact .inr ⟨mu, od, upd_same⟩
    · rw [hd] at h
      cases h
      exact mu.elim
  · rcases h with h | ⟨m, ob, h⟩
    · exact .inl (by rw [upd_ne e]; exact h)
    · exact .inr ⟨m, ob, by rw [upd_ne e]; exact h⟩
theorem nv_lk {H : Hp} {a : Addr} {u : HO} (i : Vol.inv H) (h : H a = some u) (l : Lk u) : ¬ Vol.vol a := fun v => by
  obtain ⟨xs, e⟩ := Vol.ls i v
  rw [h] at e
  cases e
  exact l
theorem Fz.lock {F H : Hp} {d : Addr} {u : HO} {od : Obj} (f : Fz F H) (hd : H d = some u) (mu : Lk u) : Fz F (upd H d (.frz od u)) := ⟨fun a o e => (f a o e).lock hd mu, inv_upd f.iv (nv_lk f.iv hd mu)⟩
theorem SOk.lock {ρ : List SV} {σ : L2.St} {F H : Hp} {d : Addr} {u : HO} {od : Obj} (s : SOk ρ σ F H) (hd : H d = some u) (mu : Lk u) : SOk ρ σ F (upd H d (.frz od u)) := by
  obtain ⟨ad, h1, h2, h3⟩ := s.ex
  exact ⟨s.len, ad, h1, fun i dd e => let ⟨o, a, b, c⟩ := h2 i dd e; ⟨o, a, b.lock hd mu, c⟩, h3⟩
theorem Step.unlock {F H F' H' : Hp} {d : Addr} {u : HO} {od : Obj} (f : Fz F H) (hd : H d = some u) (mu : Lk u) (t : Step F (upd H d (.frz od u)) F' H') : H' d = some (.frz od u) ∧ Step F H F' (upd H' d u) := by
  have nd := nv_lk f.iv hd mu
  have e0 : H' d = some (.frz od u) := t.hh d _ nd upd_same
  refine ⟨e0, t.ex, ⟨fun a o e => ?_, inv_upd t.fz.iv nd⟩, fun a o v e => ?_, fun a h1 h2 => t.off a h1 ?_, f.iv⟩
  · refine ⟨?_, (t.fz a o e).2⟩
    by_cases q : a = d
    · subst q
      cases hF : F a with
      | none =>
        have := t.off a hF (by rw [upd_same]; exact fun z => nomatch z)
        rw [e] at this
        cases this
      | some o' =>
        have e2 := t.ex a o' hF
        rw [e] at e2
        cases e2
        rcases (f a o hF).1 with z | ⟨m, ob, z⟩
        · rw [hd] at z
          cases z
          exact .inl upd_same
        · rw [hd] at z
          cases z
          exact mu.elim
    · rcases (t.fz a o e).1 with z | ⟨m, ob, z⟩
      · exact .inl (by rw [upd_ne q]; exact z)
      · exact .inr ⟨m, ob, by rw [upd_ne q]; exact z⟩
  · by_cases q : a = d
    · subst q
      rw [hd] at e
      cases e
      exact upd_same
    · rw [upd_ne q]
      exact t.hh a o v (by rw [upd_ne q]; exact e)
  · by_cases q : a = d
    · subst q
      rw [upd_same]
      exact fun z => nomatch z
    · rw [upd_ne q]
      exact h2
/-! ### guards: what must hold of the state ahead of a walk -/
abbrev Grd := L2.St → Hp → Hp → Prop
def gT : Grd := fun _ _ _ => True
def SemNG (X : Cx) (e : Expr) (ρ : List SV) (d : D) (G : Grd) : Prop := ∀ (σ : L2.St) (F H : Hp) (Q : VK), Fz F H → SOk ρ σ F H → G σ F H →
  (∀ p o F' H', Step F H F' H' → H p = none → F' p = none → H' p = some o → IsO F' o d → Q (.ref p) H') → tS X e σ H Q
theorem SemNG.n {X : Cx} {e : Expr} {ρ : List SV} {d : D} (h : SemNG X e ρ d gT) : SemN X e ρ d := fun σ F H Q f s q => h σ F H Q f s trivial q
def ItG {α : Type} (X : Cx) (tg iter : Expr) (ρ : List SV) (xs : List α) (enc : α → D) (G : Grd) : Prop :=
  ∃ wi, PI X tg iter wi ∧ ∀ (σ : L2.St) (F H : Hp) (R : It → Hp → Prop), Fz F H → SOk ρ σ F H → G σ F H → (∀ J F1 H1, Step F H F1 H1 → Wlk J xs enc F1 H1 → R J H1) → wi σ H R
theorem ItS.g {α : Type} {X : Cx} {tg iter : Expr} {ρ : List SV} {xs : List α} {enc : α → D} (h : ItS X tg iter ρ xs enc) : ItG X tg iter ρ xs enc gT := by
  obtain ⟨wi, a, b⟩ := h
  exact ⟨wi, a, fun σ F H R f s _ q => b σ F H R f s q⟩
/-! ### a dict known ahead -/
/-- e is a dict that can be told ahead, and reading it changes nothing -/
structure DAt (X : Cx) (e : Expr) (ρ : List SV) (ys : List (Key × V)) : Prop where
  go : ∀ (σ : L2.St) (F H : Hp), Fz F H → SOk ρ σ F H → ∃ p, RM H p (.dK ys) ∧ ∀ H1 Q, Fz F H1 → SOk ρ σ F H1 → Q (.ref p) H1 → tS X e σ H1 Q
section
variable {X : Cx} {N : List Str} {sc : Scope} {k : Nat} {ρ : List SV} {pos : Pos} {x : Str}
theorem Rep.key {F : Hp} {v : V} {d : D} {ys : List (Key × V)} (h : Rep F v d) (hd : d = .dct ks ∧ ys = kvI ks ∨ d = .dset ss ∧ ys = kvB ss) : ∃ p, v = .ref p ∧ F p = some (.dK ys) := by
  rcases hd with ⟨rfl, rfl⟩ | ⟨rfl, rfl⟩
  · exact h
  · exact h
theorem d_name (g : Gd X N sc k) {kvs : List (Str × Int)} (i : Nat) (hi : N[i]? = some x := by rfl) (hρ : ρ[i]? = some (.fz (.dct kvs)) := by rfl) (hv : visB sc x = true := by rfl) (hd : (x == ("__debug__" : Str)) = false := by decide) (hcd : (x == ("__classdict__" : Str)) = false := by decide) :
    DAt X (.Name x pos) ρ (kvI kvs) := ⟨fun σ F H f s => by
  obtain ⟨ad, h1, _, _⟩ := s.ex
  obtain ⟨v, e, p, ev, r⟩ := h1 i _ hρ
  subst ev
  exact ⟨p, f p _ r, fun H1 Q f1 s1 q => peR (pe_nm g hi hv hd hcd) ⟨_, e, q⟩⟩⟩
theorem d_own (g : Gd X N sc k) {kvs : List (Str × Int)} (i : Nat) (hi : N[i]? = some x := by rfl) (hρ : ρ[i]? = some (.ow (.dct kvs)) := by rfl) (hv : visB sc x = true := by rfl) (hd : (x == ("__debug__" : Str)) = false := by decide) (hcd : (x == ("__classdict__" : Str)) = false := by decide) :
    DAt X (.Name x pos) ρ (kvI kvs) := ⟨fun σ F H f s => by
  obtain ⟨ad, _, h2, _⟩ := s.ex
  obtain ⟨o, e, hH, hF, r⟩ := h2 i _ hρ
  have eo : o = .dK (kvI kvs) := by
    cases o <;> first | exact False.elim r | exact congrArg HO.dK r
  subst eo
  exact ⟨_, hH, fun H1 Q f1 s1 q => peR (pe_nm g hi hv hd hcd) ⟨_, e, q⟩⟩⟩
/-- name[i], the name a tuple -/
theorem d_item (g : Gd X N sc k) {kvs : List (Str × Int)} {ds : List D} {j : Int} {b : Expr} {pn : Pos} (i : Nat) (hd : atI ds j = some (.dct kvs)) (hb : ∀ H Q, Q (.int j) H → ∀ σ, tS X b σ H Q) (hi : N[i]? = some x := by rfl) (hρ : ρ[i]? = some (.fz (.tup ds)) := by rfl) (hv : visB sc x = true := by rfl) (hdb : (x == ("__debug__" : Str)) = false := by decide) (hcd : (x == ("__classdict__" : Str)) = false := by decide) (hs : PlainIx b := by exact fun _ _ => rfl) :
    DAt X (.Subscript (.Name x pn) b pos) ρ (kvI kvs) := ⟨fun σ F H f s => by
  obtain ⟨ad, h1, _, _⟩ := s.ex
  obtain ⟨v, e, p, xs, o, ev, r, _, z⟩ := h1 i _ hρ
  subst ev
  obtain ⟨w, ew, pw, ew2, rw2⟩ := z.at hd
  subst ew2
  refine ⟨pw, f pw _ rw2, fun H1 Q f1 s1 q => ?_⟩
  refine peR (pe_ix ix_tup (pe_nm g hi hv hdb hcd) peS hs) ⟨_, e, hb H1 _ ?_ σ⟩
  have r' : H1 p = some (.frz o (.tup xs)) := by
    rcases (f1 _ _ r).1 with z | ⟨z, _⟩
    · exact z
    · exact z.elim
  exact ⟨p, xs, j, _, rfl, rfl, .inl (.inr ⟨o, r'⟩), ew, q⟩⟩
/-- the dict e stands locked -/
def gLk (X : Cx) (e : Expr) (ys : List (Key × V)) : Grd := fun σ F H => ∃ p ob, H p = some (.frz ob (.dK ys)) ∧ ∀ Q, Q (.ref p) H → tS X e σ H Q
theorem it_keys {tg iter : Expr} {α : Type} {xs : List α} {enc : α → D} {ys : List (Key × V)} (hy : ys.length = xs.length) (he : ∀ (i : Nat) (x : α), xs[i]? = some x → ∃ kv : Key × V, ys[i]? = some kv ∧ ∀ F, Rep F (kV kv.1) (enc x)) : ItG X tg iter ρ xs enc (gLk X iter ys) :=
  ⟨_, pi_keys peS, fun σ F H R f s g q => by
    obtain ⟨p, ob, hp, h⟩ := g
    refine h _ ⟨p, ob, rfl, .inl ⟨ys, hp, q _ F H (.refl f) fun F' H' t => ⟨fun i x hx => ⟨⟨t.hh _ _ (nv_frz f.iv hp) hp, ?_⟩, fun v H'' y => ⟨y.1, ?_⟩⟩, t.hh _ _ (nv_frz f.iv hp) hp, Nat.le_of_eq hy⟩⟩⟩
    · rw [hy]
      exact (List.getElem?_eq_some_iff.mp hx).1
    · obtain ⟨_, k, v', e1, e2⟩ := y
      obtain ⟨kv, e3, e4⟩ := he i x hx
      rw [e1] at e3
      cases e3
      rw [e2]
      exact e4 F'⟩
theorem it_keysI {tg iter : Expr} {kvs : List (Str × Int)} : ItG X tg iter ρ kvs (fun q => .str q.1) (gLk X iter (kvI kvs)) := it_keys (by unfold kvI; rw [List.length_map]) fun i x hx => ⟨_, map_get hx, fun F => rfl⟩
/-- with the lock -/
theorem SemNG.lock {e iter : Expr} {d : D} {ys : List (Key × V)} (hd : DAt X iter ρ ys) (h : SemNG X e ρ d (gLk X iter ys)) : SemN X e ρ d := fun σ F H Q f s q => by
  obtain ⟨p, hp, hr⟩ := hd.go σ F H f s
  rcases hp.1 with hp | ⟨_, ob, hp⟩
  · refine peR (pe_lock peS) ⟨p, _, hp, trivial, fun od => ?_⟩
    have f1 : Fz F (upd H p (.frz od (.dK ys))) := f.lock hp trivial
    have s1 : SOk ρ σ F (upd H p (.frz od (.dK ys))) := s.lock hp trivial
    refine h σ F _ _ f1 s1 ⟨p, od, upd_same, fun Q q => hr _ Q f1 s1 q⟩ fun c o F' H' t h1 h2 h3 h4 => ?_
    obtain ⟨e0, t'⟩ := Step.unlock f hp trivial t
    have n : c ≠ p := fun z => by
      rw [z, upd_same] at h1
      cases h1
    rw [upd_ne n] at h1
    exact ⟨e0, q c o F' _ t' h1 h2 (by rw [upd_ne n]; exact h3) h4⟩
  · exact h σ F H Q f s ⟨p, ob, hp, fun Q q => hr H Q f s q⟩ q
end
/-! ### targets -/
/-- the target's store, as data -/
def TgO (g : TG) (vs : List Nat) (ρ : List SV) (d : D) (ρ' : List SV) : Prop := ∀ (σ : L2.St) (F H : Hp) (v : V) (Q : L2.St → Hp → Prop), Fz F H → SOk ρ σ F H → Rep F v d → (∀ σ', SOk ρ' σ' F H → wipe σ' vs = wipe σ vs → Q σ' H) → g v σ H Q
theorem wipe_set {σ : L2.St} {i : Nat} {o : Option V} : ∀ {vs : List Nat}, i ∈ vs → wipe (σ.set i o) vs = wipe σ vs
  | v :: vs, h => by
    unfold wipe
    by_cases e : i ∈ vs
    · rw [wipe_set e]
    · have ev : v = i := (List.mem_cons.mp h).elim (fun z => z.symm) fun z => absurd z e
      subst ev
      have : ∀ {vs : List Nat}, v ∉ vs → wipe (σ.set v o) vs = (wipe σ vs).set v o := fun {vs} h => by
        induction vs with
        | nil => rfl
        | cons w vs ih =>
          unfold wipe
          rw [ih fun z => h (List.mem_cons_of_mem _ z), List.set_comm _ _ fun z => h (by rw [z]; exact List.mem_cons_self)]
      rw [this e, List.set_set]
theorem SOk.set {ρ : List SV} {σ : L2.St} {F H : Hp} (s : SOk ρ σ F H) {i : Nat} {v : V} {d : D} (h : Rep F v d) (hi : i < ρ.length) : SOk (ρ.set i (.fz d)) (σ.set i (some v)) F H := by
  obtain ⟨ad, h1, h2, h3⟩ := s.ex
  have hl : i < σ.length := by rw [s.len]; exact hi
  have key : ∀ (j : Nat) (w : SV), (ρ.set i (.fz d))[j]? = some w → (j = i ∧ w = .fz d) ∨ (j ≠ i ∧ ρ[j]? = some w) := fun j w e => by
    by_cases q : j = i
    · subst q
      by_cases l : j < ρ.length
      · rw [List.getElem?_set_self l] at e
        exact .inl ⟨rfl, (Option.some.inj e).symm⟩
      · rw [List.getElem?_eq_none (by rw [List.length_set]; omega)] at e
        cases e
    · rw [List.getElem?_set_ne fun z => q z.symm] at e
      exact .inr ⟨q, e⟩
  refine ⟨by rw [List.length_set, List.length_set, s.len], ad, fun j d' e => ?_, fun j d' e => ?_, fun j l d1 d2 e1 e2 => ?_⟩
  · rcases key j _ e with ⟨q, q2⟩ | ⟨q, q2⟩
    · subst q
      cases q2
      exact ⟨v, List.getElem?_set_self hl, h⟩
    · rw [List.getElem?_set_ne fun z => q z.symm]
      exact h1 j d' q2
  · rcases key j _ e with ⟨q, q2⟩ | ⟨q, q2⟩
    · cases q2
    · rw [List.getElem?_set_ne fun z => q z.symm]
      exact h2 j d' q2
  · rcases key j _ e1 with ⟨q, q2⟩ | ⟨q, q2⟩
    · cases q2
    · rcases key l _ e2 with ⟨w, w2⟩ | ⟨w, w2⟩
      · cases w2
      · exact h3 j l d1 d2 q2 w2
/-- the block's own slots forgotten -/
def wipeR (ρ : List SV) : List Nat → List SV
  | [] => ρ
  | v :: vs => (wipeR ρ vs).set v .un
theorem wipeR_length (ρ : List SV) : ∀ vs : List Nat, (wipeR ρ vs).length = ρ.length
  | [] => rfl
  | v :: vs => by unfold wipeR; rw [List.length_set, wipeR_length ρ vs]
theorem wipeR_some {ρ : List SV} {i : Nat} {w : SV} : ∀ {vs : List Nat}, (wipeR ρ vs)[i]? = some w → w = .un ∨ (ρ[i]? = some w ∧ i ∉ vs)
  | [], h => .inr ⟨h, by simp⟩
  | v :: vs, h => by
    unfold wipeR at h
    by_cases hi : v = i
    · subst hi
      by_cases hv : v < (wipeR ρ vs).length
      · rw [List.getElem?_set_self hv] at h
        exact .inl (Option.some.inj h).symm
      · rw [List.getElem?_eq_none (by simpa using hv)] at h
        cases h
    · rw [List.getElem?_set_ne hi] at h
      rcases wipeR_some h with h | ⟨h1, h2⟩
      · exact .inl h
      · exact .inr ⟨h1, by simp only [List.mem_cons, not_or]; exact ⟨fun e => hi e.symm, h2⟩⟩
theorem SOk.wipe {ρ : List SV} {σ : L2.St} {F H : Hp} (s : SOk ρ σ F H) (vs : List Nat) : SOk (wipeR ρ vs) (wipe σ vs) F H := by
  obtain ⟨ad, h1, h2, h3⟩ := s.ex
  refine ⟨by rw [wipe_length, wipeR_length, s.len], ad, fun j d e => ?_, fun j d e => ?_, fun j l d1 d2 e1 e2 => ?_⟩
  · rcases wipeR_some e with q | ⟨q, n⟩
    · cases q
    · rw [wipe_out n]
      exact h1 j d q
  · rcases wipeR_some e with q | ⟨q, n⟩
    · cases q
    · rw [wipe_out n]
      exact h2 j d q
  · rcases wipeR_some e1 with q | ⟨q, n⟩
    · cases q
    · rcases wipeR_some e2 with w | ⟨w, m⟩
      · cases w
      · exact h3 j l d1 d2 q w
theorem tg_name {vs : List Nat} {ρ : List SV} {d : D} (j : Nat) (hj : j ∈ vs := by decide) (hl : j < ρ.length := by exact Nat.le_of_ble_eq_true rfl) : TgO (gName j) vs ρ d (ρ.set j (.fz d)) := fun σ F H v Q f s r q =>
  q _ (s.set r hl) (wipe_set hj)
theorem tg_pair {K : PySem.W.Frag} {vs : List Nat} {ρ : List SV} {d e : D} (i j : Nat) (hi : i ∈ vs := by decide) (hj : j ∈ vs := by decide) (hl : i < ρ.length := by exact Nat.le_of_ble_eq_true rfl) (hm : j < ρ.length := by exact Nat.le_of_ble_eq_true rfl) :
    TgO (gTup K 2 (gCons (gName i) (gCons (gName j) gNil))) vs ρ (.tup [d, e]) ((ρ.set i (.fz d)).set j (.fz e)) := fun σ F H v Q f s r q => by
  obtain ⟨p, xs, o, ev, hp, _, z⟩ := Rep.vl f r
  obtain ⟨x, r1, e1, z1, y, r2, e2, z2, e3⟩ := z
  have e3 : r2 = [] := e3
  subst ev e3 e2 e1
  refine ⟨p, _, rfl, .inl (.inr ⟨o, hp⟩), rfl, x, [y], rfl, y, [], rfl, rfl, ?_⟩
  refine q _ ((s.set z1 hl).set z2 (by rw [List.length_set]; exact hm)) ?_
  rw [wipe_set hj, wipe_set hi]
/-! ### list comprehensions -/
theorem wipe_wipe {σ : L2.St} : ∀ vs : List Nat, wipe (wipe σ vs) vs = wipe σ vs
  | [] => rfl
  | v :: vs => by
    show wipe ((wipe σ vs).set v none) (v :: vs) = _
    rw [wipe_set List.mem_cons_self]
    show (wipe (wipe σ vs) vs).set v none = _
    rw [wipe_wipe vs]
    rfl
/-- in every block that a comprehension's scope may run as -/
abbrev InB (X : Cx) (scope : Scope) (p : Cx → Prop) : Prop := ∀ (s : Shared) (H : Hp) (C : Addr) (cl : List (Str × Addr)) (fp : List Addr), p (BX X scope s H C cl fp)
def tSB (X : Cx) (scope : Scope) (e : Expr) : TE := fun σ H Q => InB X scope fun Y => tS Y e σ H Q
def tSTB (X : Cx) (scope : Scope) (e : Expr) : TT := fun σ H Q => InB X scope fun Y => tST Y e σ H Q
section
variable {X : Cx} {N : List Str} {sc scope : Scope} {k : Nat} {ρ : List SV} {pos : Pos} {α : Type} {xs : List α} {enc out : α → D} {fl : α → Bool} {G : Grd} {elt tg iter : Expr} {ifs : List Expr} {own : List (Str × Nat)} {gt : TG} {ρ' : α → List SV}
/-- what a list comprehension's parts do -/
structure LcS (X : Cx) (scope : Scope) (own : List (Str × Nat)) (tg iter : Expr) (ifs : List Expr) (elt : Expr) (ρ : List SV) (d : D) (G : Grd) : Prop where
  ok : BlkOk X.N X.env.scope scope own
  nd : X.N.Nodup
  calm : X.calm = true
  ex : ∃ wi gt tt te, PI X tg iter wi ∧ (InB X scope fun Y => PG Y tg gt) ∧ (InB X scope fun Y => PTs Y ifs tt) ∧ (InB X scope fun Y => PE Y elt te) ∧ ∀ (σ : L2.St) (F H : Hp) (Q : VK), Fz F H → SOk ρ σ F H → G σ F H →
    (∀ p o F' H', Step F H F' H' → H p = none → F' p = none → H' p = some o → IsO F' o d → Q (.ref p) H') → tLc wi gt tt te (own.map (·.2)) σ H Q
theorem LcS.n {X : Cx} {scope : Scope} {own : List (Str × Nat)} {tg iter elt : Expr} {ifs : List Expr} {ρ : List SV} {d : D} {G : Grd} {pos : Pos} (h : LcS X scope own tg iter ifs elt ρ d G) (hs : ∀ v, foldedSetIterable iter X.env v = pure v := by intro _; rfl) :
    SemNG X (.ListComp elt [⟨tg, iter, ifs, 0⟩] scope pos) ρ d G := fun σ F H Q f s gg q => by
  obtain ⟨wi, gt, tt, te, h1, h2, h3, h4, h5⟩ := h.ex
  exact peR (pe_lc h.calm h.nd h1 h.ok h2 h3 h4 hs) (h5 σ F H Q f s gg q)
theorem lc_go {tt : TT} (g : Gd X N sc k) (hi : ItG X tg iter ρ xs enc G) (ok : BlkOk N sc scope own) (hg : InB X scope fun Y => PG Y tg gt) (ht : InB X scope fun Y => PTs Y ifs tt)
    (hT : ∀ x ∈ xs, TgO gt (own.map (·.2)) (wipeR ρ (own.map (·.2))) (enc x) (ρ' x))
    (hF : ∀ x ∈ xs, ∀ (σ : L2.St) (F H : Hp) (Q : Bool → Hp → Prop), Fz F H → SOk (ρ' x) σ F H → (∀ F' H', Step F H F' H' → Q (fl x) H') → tt σ H Q)
    (hE : InB X scope fun Y => ∀ x ∈ xs, fl x = true → SemF Y elt (ρ' x) (out x)) (hl : xs.length ≤ 1000000) :
    LcS X scope own tg iter ifs elt ρ (.lst ((xs.filter fl).map out)) G := by
  obtain ⟨wi, hpi, hw⟩ := hi
  have hNd : X.N.Nodup := g.ndX
  have okX : BlkOk X.N X.env.scope scope own := by rw [g.hN, g.hsc]; exact ok
  refine ⟨okX, hNd, g.calm, wi, gt, tt, tSB X scope elt, hpi, hg, ht, (fun s H C cl fp => ⟨fun pins s' _ _ _ I h => h s H C cl fp pins s' I⟩), fun σ F H Q f s gg q => (hw σ F H _ f s gg fun J F1 H1 t1 w1 => ?_)⟩
  intro D hD
  refine ⟨fun i m H' => m = xs.length - i ∧ i ≤ xs.length ∧ ∃ F' acc, Step F1 H1 F' H' ∧ F' D = none ∧ H' D = some (.lst acc) ∧ Reps F' acc (((xs.take i).filter fl).map out), ⟨xs.length, by simp, Nat.zero_le _, F1, [], (Step.refl t1.fz).write hD (t1.fz.none hD), t1.fz.none hD, upd_same, rfl⟩, ?_⟩
  rintro i m H2 ⟨rfl, hi, F2, acc, t2, hF2, hH2, z2⟩
  obtain ⟨wgo, wstop⟩ := w1 F2 H2 t2
  by_cases e : i = xs.length
  · subst e
    rw [List.take_length] at z2
    exact .inl ⟨wstop, q D _ F2 H2 (t1.trans t2) (t1.back hD) hF2 hH2 z2⟩
  · have hlt : i < xs.length := by omega
    obtain ⟨x, hx⟩ : ∃ x, xs[i]? = some x := ⟨_, List.getElem?_eq_getElem hlt⟩
    have hm : x ∈ xs := List.mem_of_getElem? hx
    have htk : xs.take (i + 1) = xs.take i ++ [x] := by
      rw [List.take_add_one, hx]
      rfl
    obtain ⟨go, yl⟩ := wgo i x hx
    refine .inr ⟨go, fun H' => (i + 1 ≤ xs.length ∧ ∃ F' acc, Step F1 H1 F' H' ∧ F' D = none ∧ H' D = some (.lst acc) ∧ Reps F' acc (((xs.take (i + 1)).filter fl).map out)), fun H' h' => ⟨xs.length - (i + 1), by omega, rfl, h'⟩, fun v H3 y => ?_⟩
    obtain ⟨e3, r3⟩ := yl v H3 y
    subst e3
    have s2 := (s.step (t1.trans t2)).wipe (own.map (·.2))
    refine hT x hm _ F2 _ v _ t2.fz s2 r3 fun σ2 s3 hw2 => ⟨hw2.trans (wipe_wipe _), ?_⟩
    refine hF x hm σ2 F2 _ _ t2.fz s3 fun F4 H4 t4 => ?_
    have hH4 := t4.hh _ _ (t1.fz.new hD) hH2
    have hF4 : F4 D = none := t4.off D hF2 (by rw [hH2]; exact fun z => nomatch z)
    cases hf : fl x with
    | false =>
      rw [if_neg Bool.false_ne_true]
      refine ⟨hlt, F4, acc, t2.trans t4, hF4, hH4, ?_⟩
      rw [htk, List.filter_append, List.filter_cons, hf]
      simp only [Bool.false_eq_true, if_false, List.filter_nil, List.append_nil]
      exact Reps.mono t4.ex _ z2
    | true =>
      rw [if_pos rfl]
      intro s' H' C cl fp
      refine hE s' H' C cl fp x hm hf σ2 F4 H4 _ t4.fz (s3.step t4) fun w F5 H5 t5 r5 => ?_
      have hH5 := t5.hh _ _ (t1.fz.new hD) hH4
      have hF5 : F5 D = none := t5.off D hF4 (by rw [hH4]; exact fun z => nomatch z)
      have z5 : Reps F5 acc (((xs.take i).filter fl).map out) := Reps.mono (t4.trans t5).ex _ z2
      refine ⟨acc, hH5, ?_, hlt, F5, acc ++ [w], ((t2.trans t4).trans t5).write hD hF5, hF5, upd_same, ?_⟩
      · have h1 := z5.len
        rw [List.length_map] at h1
        have h2 := List.length_filter_le fl (xs.take i)
        have h3 := List.length_take_le i xs
        rw [sizeLine_eq]
        omega
      · rw [htk, List.filter_append, List.filter_cons, hf]
        simp only [if_true, List.filter_nil, List.map_append, List.map_cons, List.map_nil]
        exact z5.snoc r5
theorem filt_all : ∀ xs : List α, xs.filter (fun _ => true) = xs
  | [] => rfl
  | x :: r => by rw [List.filter_cons, if_pos rfl, filt_all r]
/-- [elt for tg in iter] -/
theorem lc_G (g : Gd X N sc k) (hi : ItG X tg iter ρ xs enc G) (ok : BlkOk N sc scope own) (hg : InB X scope fun Y => PG Y tg gt)
    (hT : ∀ x ∈ xs, TgO gt (own.map (·.2)) (wipeR ρ (own.map (·.2))) (enc x) (ρ' x)) (hE : InB X scope fun Y => ∀ x ∈ xs, SemF Y elt (ρ' x) (out x)) (hl : xs.length ≤ 1000000) :
    LcS X scope own tg iter [] elt ρ (.lst (xs.map out)) G := by
  have z := lc_go (fl := fun _ => true) (tt := tYes) g hi ok hg (fun _ _ _ _ _ => pts_nil) hT (fun x _ σ F H Q f _ q => q F H (.refl f)) (fun a b c d e x hx _ => hE a b c d e x hx) hl
  rw [filt_all] at z
  exact z
/-- [elt for tg in iter if c] -/
theorem lc_If {c : Expr} (g : Gd X N sc k) (hi : ItG X tg iter ρ xs enc G) (ok : BlkOk N sc scope own) (hg : InB X scope fun Y => PG Y tg gt)
    (hT : ∀ x ∈ xs, TgO gt (own.map (·.2)) (wipeR ρ (own.map (·.2))) (enc x) (ρ' x)) (hF : InB X scope fun Y => ∀ x ∈ xs, SemT Y c (ρ' x) (fl x)) (hE : InB X scope fun Y => ∀ x ∈ xs, fl x = true → SemF Y elt (ρ' x) (out x)) (hl : xs.length ≤ 1000000) :
    LcS X scope own tg iter [c] elt ρ (.lst ((xs.filter fl).map out)) G :=
  lc_go (tt := tSTB X scope c) g hi ok hg (fun s H C cl fp => pts_one ⟨fun pins s' _ _ _ I h => h s H C cl fp pins s' I⟩) hT (fun x hx σ F H Q f s q a b C cl fp => hF a b C cl fp x hx σ F H Q f s q) hE hl
end
end KD

set_option Elab.async false
set_option linter.all false
set_option maxRecDepth 100000
set_option maxHeartbeats 2000000
/-! KD7: statements over data. -/
namespace KD
open PySem PySem.Spec PyProof.Rows L2
variable [Vol]
/-! ### a def's state: its entry F0 H0, what stands now -/
structure SX (F0 H0 : Hp) (ρ : List SV) (σ : L2.St) (F H : Hp) : Prop where
  st : Step F0 H0 F H
  len : σ.length = ρ.length
  ex : ∃ ad : Nat → Addr,
    (∀ (i : Nat) (d : D), ρ[i]? = some (.fz d) → ∃ v, σ[i]? = some (some v) ∧ Rep F v d) ∧
    (∀ (i : Nat) (d : D), ρ[i]? = some (.ow d) → ∃ o, σ[i]? = some (some (.ref (ad i))) ∧ H (ad i) = some o ∧ H0 (ad i) = none ∧ F (ad i) = none ∧ IsO F o d) ∧
    (∀ (i j : Nat) (d d' : D), ρ[i]? = some (.ow d) → ρ[j]? = some (.ow d') → ad i = ad j → i = j)
section
variable {F0 H0 F H : Hp} {ρ : List SV} {σ : L2.St}
theorem SX.ok (s : SX F0 H0 ρ σ F H) : SOk ρ σ F H := by
  obtain ⟨ad, h1, h2, h3⟩ := s.ex
  exact ⟨s.len, ad, h1, fun i d e => let ⟨o, a, b, b0, c, q⟩ := h2 i d e; ⟨o, a, ⟨.inl b, s.st.nv b0⟩, c, q⟩, h3⟩
theorem SX.step {F' H' : Hp} (s : SX F0 H0 ρ σ F H) (t : Step F H F' H') : SX F0 H0 ρ σ F' H' := by
  obtain ⟨ad, h1, h2, h3⟩ := s.ex
  refine ⟨s.st.trans t, s.len, ad, fun i d e => ?_, fun i d e => ?_, h3⟩
  · obtain ⟨v, a, b⟩ := h1 i d e
    exact ⟨v, a, Rep.mono t.ex d b⟩
  · obtain ⟨o, a, b, b2, c, q⟩ := h2 i d e
    exact ⟨o, a, t.hh _ _ (s.st.nv b2) b, b2, t.off _ c (by rw [b]; exact fun z => nomatch z), IsO.mono t.ex q⟩
theorem set_key {i : Nat} {w' : SV} : ∀ (j : Nat) (w : SV), (ρ.set i w')[j]? = some w → (j = i ∧ w = w') ∨ (j ≠ i ∧ ρ[j]? = some w) := fun j w e => by
  by_cases q : j = i
  · subst q
    by_cases l : j < ρ.length
    · rw [List.getElem?_set_self l] at e
      exact .inl ⟨rfl, (Option.some.inj e).symm⟩
    · rw [List.getElem?_eq_none (by rw [List.length_set]; omega)] at e
      cases e
  · rw [List.getElem?_set_ne fun z => q z.symm] at e
    exact .inr ⟨q, e⟩
theorem SX.set (s : SX F0 H0 ρ σ F H) {i : Nat} {v : V} {d : D} (h : Rep F v d) (hi : i < ρ.length) : SX F0 H0 (ρ.set i (.fz d)) (σ.set i (some v)) F H := by
  obtain ⟨ad, h1, h2, h3⟩ := s.ex
  have hl : i < σ.length := by rw [s.len]; exact hi
  refine ⟨s.st, by rw [List.length_set, List.length_set, s.len], ad, fun j d' e => ?_, fun j d' e => ?_, fun j l d1 d2 e1 e2 => ?_⟩
  · rcases set_key j _ e with ⟨q, q2⟩ | ⟨q, q2⟩
    · subst q
      cases q2
      exact ⟨v, List.getElem?_set_self hl, h⟩
    · rw [List.getElem?_set_ne fun z => q z.symm]
      exact h1 j d' q2
  · rcases set_key j _ e with ⟨q, q2⟩ | ⟨q, q2⟩
    · cases q2
    · rw [List.getElem?_set_ne fun z => q z.symm]
      exact h2 j d' q2
  · rcases set_key j _ e1 with ⟨q, q2⟩ | ⟨q, q2⟩
    · cases q2
    · rcases set_key l _ e2 with ⟨w, w2⟩ | ⟨w, w2⟩
      · cases w2
      · exact h3 j l d1 d2 q2 w2
/-- a new object comes into a slot -/
theorem SX.setO {F' H' : Hp} (s : SX F0 H0 ρ σ F H) (t : Step F H F' H') {i : Nat} {p : Addr} {o : HO} {d : D} (h0 : H p = none) (hF : F' p = none) (hH : H' p = some o) (h : IsO F' o d) (hi : i < ρ.length) : SX F0 H0 (ρ.set i (.ow d)) (σ.set i (some (.ref p))) F' H' := by
  obtain ⟨ad, h1, h2, h3⟩ := (s.step t).ex
  obtain ⟨ad0, _, g2, _⟩ := s.ex
  have hl : i < σ.length := by rw [s.len]; exact hi
  have np : ∀ (j : Nat) (dd : D), ρ[j]? = some (.ow dd) → ad j ≠ p := fun j dd e z => by
    obtain ⟨o1, a1, b1, _⟩ := h2 j dd e
    obtain ⟨o2, a2, b2, _⟩ := g2 j dd e
    have ea : ad j = ad0 j := V.ref.inj (Option.some.inj (Option.some.inj (a1.symm.trans a2)))
    rw [← ea, z, h0] at b2
    cases b2
  obtain ⟨ad', ai, an⟩ : ∃ ad' : Nat → Addr, ad' i = p ∧ ∀ j, j ≠ i → ad' j = ad j := ⟨fun j => if j = i then p else ad j, if_pos rfl, fun j q => if_neg q⟩
  refine ⟨s.st.trans t, by rw [List.length_set, List.length_set, s.len], ad', fun j d' e => ?_, fun j d' e => ?_, fun j l d1 d2 e1 e2 => ?_⟩
  · rcases set_key j _ e with ⟨q, q2⟩ | ⟨q, q2⟩
    · cases q2
    · rw [List.getElem?_set_ne fun z => q z.symm]
      exact h1 j d' q2
  · rcases set_key j _ e with ⟨q, q2⟩ | ⟨q, q2⟩
    · subst q
      cases q2
      rw [ai]
      exact ⟨o, List.getElem?_set_self hl, hH, s.st.back h0, hF, h⟩
    · rw [List.getElem?_set_ne fun z => q z.symm, an j q]
      exact h2 j d' q2
  · rcases set_key j _ e1 with ⟨q, q2⟩ | ⟨q, q2⟩
    · rcases set_key l _ e2 with ⟨w, w2⟩ | ⟨w, w2⟩
      · intro _
        rw [q, w]
      · rw [q, ai, an l w]
        exact fun z => absurd z.symm (np l _ w2)
    · rcases set_key l _ e2 with ⟨w, w2⟩ | ⟨w, w2⟩
      · rw [w, ai, an j q]
        exact fun z => absurd z (np j _ q2)
      · rw [an j q, an l w]
        exact h3 j l d1 d2 q2 w2
/-- an owned object: what stands, how it may be written, how it is frozen -/
theorem SX.own (s : SX F0 H0 ρ σ F H) {i : Nat} {d : D} (hi : ρ[i]? = some (.ow d)) : ∃ p o, σ[i]? = some (some (.ref p)) ∧ H p = some o ∧ F p = none ∧ IsO F o d ∧
    (∀ o' d', IsO F o' d' → SX F0 H0 (ρ.set i (.ow d')) σ F (upd H p o')) ∧ (∃ F', SX F0 H0 (ρ.set i (.fz d)) σ F' H) := by
  obtain ⟨ad, h1, h2, h3⟩ := s.ex
  obtain ⟨o, a, b, b0, c, q⟩ := h2 i d hi
  have hil : i < ρ.length := (List.getElem?_eq_some_iff.mp hi).1
  have hF0 : F0 (ad i) = none := by
    cases e : F0 (ad i) with
    | none => rfl
    | some u =>
      rw [s.st.ex _ _ e] at c
      cases c
  have other : ∀ (j : Nat) (dd : D), j ≠ i → ρ[j]? = some (.ow dd) → ad j ≠ ad i := fun j dd n e z => n (h3 j i dd d e hi z)
  refine ⟨ad i, o, a, b, c, q, fun o' d' h' => ?_, upd F (ad i) o, ?_⟩
  · refine ⟨s.st.write b0 c, by rw [List.length_set, s.len], ad, fun j dd e => ?_, fun j dd e => ?_, fun j l d1 d2 e1 e2 => ?_⟩
    · rcases set_key j _ e with ⟨w, w2⟩ | ⟨w, w2⟩
      · cases w2
      · exact h1 j dd w2
    · rcases set_key j _ e with ⟨w, w2⟩ | ⟨w, w2⟩
      · subst w
        cases w2
        exact ⟨o', a, upd_same, b0, c, h'⟩
      · obtain ⟨o2, x1, x2, x3, x4, x5⟩ := h2 j dd w2
        exact ⟨o2, x1, by rw [upd_ne (other j dd w w2)]; exact x2, x3, x4, x5⟩
    · have k1 : ∃ dd, ρ[j]? = some (.ow dd) := by
        rcases set_key j _ e1 with ⟨w, _⟩ | ⟨_, w2⟩
        · exact ⟨d, by rw [w]; exact hi⟩
        · exact ⟨_, w2⟩
      have k2 : ∃ dd, ρ[l]? = some (.ow dd) := by
        rcases set_key l _ e2 with ⟨w, _⟩ | ⟨_, w2⟩
        · exact ⟨d, by rw [w]; exact hi⟩
        · exact ⟨_, w2⟩
      obtain ⟨_, k1⟩ := k1
      obtain ⟨_, k2⟩ := k2
      exact h3 j l _ _ k1 k2
  · have sb : Sub F (upd F (ad i) o) := sub_upd c
    have st : Step F0 H0 (upd F (ad i) o) H := by
      refine ⟨fun x u e => sb _ _ (s.st.ex x u e), ⟨fun x u e => ?_, s.st.fz.iv⟩, s.st.hh, fun x q1 q2 => ?_, s.st.iv0⟩
      · by_cases w : x = ad i
        · subst w
          rw [upd_same] at e
          cases e
          exact ⟨.inl b, s.st.nv b0⟩
        · rw [upd_ne w] at e
          exact s.st.fz x u e
      · have w : x ≠ ad i := fun z => q2 (by rw [z]; exact b0)
        rw [upd_ne w]
        exact s.st.off x q1 q2
    refine ⟨st, by rw [List.length_set, s.len], ad, fun j dd e => ?_, fun j dd e => ?_, fun j l d1 d2 e1 e2 => ?_⟩
    · rcases set_key j _ e with ⟨w, w2⟩ | ⟨w, w2⟩
      · subst w
        cases w2
        exact ⟨_, a, IsO.rep upd_same (IsO.mono sb q)⟩
      · obtain ⟨v, x1, x2⟩ := h1 j dd w2
        exact ⟨v, x1, Rep.mono sb dd x2⟩
    · rcases set_key j _ e with ⟨w, w2⟩ | ⟨w, w2⟩
      · cases w2
      · obtain ⟨o2, x1, x2, x3, x4, x5⟩ := h2 j dd w2
        exact ⟨o2, x1, x2, x3, by rw [upd_ne (other j dd w w2)]; exact x4, IsO.mono sb x5⟩
    · rcases set_key j _ e1 with ⟨w, w2⟩ | ⟨w, w2⟩
      · cases w2
      · rcases set_key l _ e2 with ⟨x, x2⟩ | ⟨x, x2⟩
        · cases x2
        · exact h3 j l d1 d2 w2 x2
/-- fewer slots told -/
def LeL : List SV → List SV → Prop
  | [], [] => True
  | a :: r, b :: s => (b = .un ∨ a = b) ∧ LeL r s
  | _, _ => False
theorem LeL.get : ∀ {r s : List SV}, LeL r s → r.length = s.length ∧ ∀ (i : Nat) (w : SV), s[i]? = some w → w = .un ∨ r[i]? = some w
  | [], [], _ => ⟨rfl, fun i w e => by simp at e⟩
  | a :: r, b :: s, h => by
    obtain ⟨l, g⟩ := LeL.get h.2
    refine ⟨by rw [List.length_cons, List.length_cons, l], fun i w e => ?_⟩
    cases i with
    | zero =>
      have e : b = w := Option.some.inj e
      subst e
      rcases h.1 with z | z
      · exact .inl z
      · exact .inr (by rw [z]; rfl)
    | succ i => exact g i w e
theorem LeL.rfl' : ∀ {r : List SV}, LeL r r
  | [] => trivial
  | a :: r => ⟨.inr rfl, LeL.rfl'⟩
theorem SX.le {ρ' : List SV} (s : SX F0 H0 ρ σ F H) (h : LeL ρ ρ') : SX F0 H0 ρ' σ F H := by
  obtain ⟨ad, h1, h2, h3⟩ := s.ex
  obtain ⟨l, g⟩ := h.get
  refine ⟨s.st, by rw [s.len, l], ad, fun i d e => ?_, fun i d e => ?_, fun i j d d' e e' => ?_⟩
  · rcases g i _ e with z | z
    · cases z
    · exact h1 i d z
  · rcases g i _ e with z | z
    · cases z
    · exact h2 i d z
  · rcases g i _ e with z | z
    · cases z
    · rcases g j _ e' with y | y
      · cases y
      · exact h3 i j d d' z y
/-- a loop's own entry: F, and H but what is owned; ys at p may be locked -/
theorem SX.rebase (s : SX F0 H0 ρ σ F H) : ∃ Hb, SX F Hb ρ σ F H ∧ (∀ {F' H'}, Step F Hb F' H' → Step F0 H0 F' H') ∧ (∀ {ρ' σ' F' H'}, SX F Hb ρ' σ' F' H' → SX F0 H0 ρ' σ' F' H') := by
  classical
  obtain ⟨ad, h1, h2, h3⟩ := s.ex
  have own0 : ∀ (i : Nat) (d : D), ρ[i]? = some (.ow d) → H0 (ad i) = none := fun i d e => (h2 i d e).choose_spec.2.2.1
  let Hb : Hp := fun a => if ∃ i d, ρ[i]? = some (.ow d) ∧ a = ad i then none else H a
  have hb0 : ∀ a, H0 a ≠ none → Hb a = H a := fun a n => by
    refine if_neg fun ⟨i, d, e, z⟩ => n ?_
    rw [z]
    exact own0 i d e
  have hbs : Sub Hb H := fun a o e => by
    by_cases q : ∃ i d, ρ[i]? = some (.ow d) ∧ a = ad i
    · rw [show Hb a = none from if_pos q] at e
      cases e
    · rw [show Hb a = H a from if_neg q] at e
      exact e
  have hiv : Vol.inv Hb := Vol.kp s.st.fz.iv fun a u v e => by
    have : Hb a = H a := if_neg fun ⟨i, d, e2, z⟩ => s.st.nv (own0 i d e2) (z ▸ v)
    rw [this]
    exact e
  have bk : ∀ {F' H' : Hp}, Step F Hb F' H' → Step F0 H0 F' H' := fun {F' H'} t => by
    refine ⟨fun a o e => t.ex a o (s.st.ex a o e), t.fz, fun a o v e => t.hh a o v ?_, fun a q1 q2 => t.off a (s.st.off a q1 q2) ?_, s.st.iv0⟩
    · rw [hb0 a (by rw [e]; exact fun z => nomatch z)]
      exact s.st.hh a o v e
    · rw [hb0 a q2]
      exact s.st.al q2
  refine ⟨Hb, ⟨⟨fun _ _ e => e, s.st.fz, fun a o _ e => hbs a o e, fun _ e _ => e, hiv⟩, s.len, ad, h1, fun i d e => ?_, h3⟩, bk, fun {ρ' σ' F' H'} s' => ?_⟩
  · obtain ⟨o, x1, x2, x3, x4, x5⟩ := h2 i d e
    exact ⟨o, x1, x2, if_pos ⟨i, d, e, rfl⟩, x4, x5⟩
  · obtain ⟨ad', g1, g2, g3⟩ := s'.ex
    refine ⟨bk s'.st, s'.len, ad', g1, fun i d e => ?_, g3⟩
    obtain ⟨o, x1, x2, x3, x4, x5⟩ := g2 i d e
    refine ⟨o, x1, x2, ?_, x4, x5⟩
    cases e : H0 (ad' i) with
    | none => rfl
    | some u =>
      rw [hb0 _ (by rw [e]; exact fun z => nomatch z)] at x3
      exact absurd x3 (s.st.al (by rw [e]; exact fun z => nomatch z))
end
/-! ### statements -/
inductive Out where
  | nx (ρ : List SV) | rt (d : D)
def Fin (F0 H0 : Hp) (E : Ends) : Out → Prop
  | .nx ρ => ∀ σ F H, SX F0 H0 ρ σ F H → E.nx σ H
  | .rt d => ∀ v F H, Step F0 H0 F H → Rep F v d → E.rt v H
abbrev tSs (X : Cx) (st : Stmt) : TS := fun E σ H => ∀ (pins : List (Addr × Obj)) (s : Shared), Inv X pins σ H s → wpAny (model X.prog X.w) X.A (exec st X.env) (SP X pins E) X.xe s
abbrev tSl (X : Cx) (st : List Stmt) : TS := fun E σ H => ∀ (pins : List (Addr × Obj)) (s : Shared), Inv X pins σ H s → wpAny (model X.prog X.w) X.A (execs st X.env) (SP X pins E) X.xe s
theorem psS {X : Cx} {st : Stmt} : PS X st (tSs X st) := ⟨fun pins s _ _ _ I h => h pins s I⟩
theorem pssS {X : Cx} {st : List Stmt} : PSs X st (tSl X st) := ⟨fun pins s _ _ _ I h => h pins s I⟩
theorem psR {X : Cx} {st : Stmt} {t : TS} (h : PS X st t) {σ : L2.St} {H : Hp} {E : Ends} (q : t E σ H) : tSs X st E σ H := fun pins s I => h.run pins s σ H E I q
theorem pssR {X : Cx} {st : List Stmt} {t : TS} (h : PSs X st t) {σ : L2.St} {H : Hp} {E : Ends} (q : t E σ H) : tSl X st E σ H := fun pins s I => h.run pins s σ H E I q
def Do (X : Cx) (st : Stmt) (ρ : List SV) (out : Out) : Prop := ∀ (F0 H0 : Hp) (σ : L2.St) (F H : Hp) (E : Ends), SX F0 H0 ρ σ F H → Fin F0 H0 E out → tSs X st E σ H
def Dos (X : Cx) (st : List Stmt) (ρ : List SV) (out : Out) : Prop := ∀ (F0 H0 : Hp) (σ : L2.St) (F H : Hp) (E : Ends), SX F0 H0 ρ σ F H → Fin F0 H0 E out → tSl X st E σ H
section
variable {X : Cx} {N : List Str} {sc : Scope} {k : Nat} {ρ ρ1 ρ2 : List SV} {st : Stmt} {rest : List Stmt} {out : Out} {d : D} {e c : Expr} {b : Bool} {A B : List Stmt} {pos : Pos}
theorem s_nil : Dos X [] ρ (.nx ρ) := fun F0 H0 σ F H E s q => pssR pss_nil (q σ F H s)
theorem s_cons (h : Do X st ρ (.nx ρ1)) (t : Dos X rest ρ1 out) : Dos X (st :: rest) ρ out := fun F0 H0 σ F H E s q =>
  pssR (pss_cons psS pssS) (h F0 H0 σ F H { E with nx := tSl X rest E } s fun σ1 F1 H1 s1 => t F0 H0 σ1 F1 H1 E s1 q)
theorem s_last (h : Do X st ρ (.rt d)) : Dos X (st :: rest) ρ (.rt d) := fun F0 H0 σ F H E s q =>
  pssR (pss_cons psS pss_never) (h F0 H0 σ F H { E with nx := tNever E } s q)
theorem s_to (h : Dos X A ρ (.nx ρ1)) (e : ρ1 = ρ2) : Dos X A ρ (.nx ρ2) := e ▸ h
theorem s_at (h : Dos X A ρ1 out) (e : ρ = ρ1) : Dos X A ρ out := e ▸ h
theorem s_out (h : Dos X A ρ (.rt d)) {d' : D} (e : d = d') : Dos X A ρ (.rt d') := e ▸ h
theorem s_one (h : Do X st ρ out) : Dos X [st] ρ out := fun F0 H0 σ F H E s q => pssR (pss_one psS) (h F0 H0 σ F H E s q)
theorem s_le (h : Dos X A ρ (.nx ρ1)) (l : LeL ρ1 ρ2 := by repeat (first | exact trivial | refine ⟨.inl rfl, ?_⟩ | refine ⟨.inr rfl, ?_⟩)) : Dos X A ρ (.nx ρ2) := fun F0 H0 σ F H E s q => h F0 H0 σ F H E s fun σ1 F1 H1 s1 => q σ1 F1 H1 (s1.le l)
/-- the owned thing in slot i is frozen from here on -/
theorem s_frz (i : Nat) (hi : ρ[i]? = some (.ow d) := by rfl) (h : Dos X A (ρ.set i (.fz d)) out) : Dos X A ρ out := fun F0 H0 σ F H E s q => by
  obtain ⟨p, o, _, _, _, _, _, F', s'⟩ := s.own hi
  exact h F0 H0 σ F' H E s' q
theorem s_if (hc : SemT X c ρ b) (ha : b = true → Dos X A ρ out) (hb : b = false → Dos X B ρ out) : Do X (.If c A B pos) ρ out := fun F0 H0 σ F H E s q =>
  psR (ps_if ptS pssS pssS) (hc σ F H _ s.st.fz s.ok fun F1 H1 t => by
    cases b with
    | true => exact ha rfl F0 H0 σ F1 H1 E (s.step t) q
    | false => exact hb rfl F0 H0 σ F1 H1 E (s.step t) q)
/-- if c: .. return ..; rest -/
theorem s_ifr (hc : SemT X c ρ b) (ha : b = true → Dos X A ρ (.rt d)) (hb : b = false → Dos X rest ρ (.rt d)) : Dos X (.If c A [] pos :: rest) ρ (.rt d) := by
  cases b with
  | true => exact s_last (s_if hc ha fun z => nomatch z)
  | false => exact s_cons (ρ1 := ρ) (s_if hc (fun z => nomatch z) fun _ => s_nil) (hb rfl)
/-- a test that fails: the block is passed -/
theorem s_ifn (hc : SemT X c ρ false) : Do X (.If c A [] pos) ρ (.nx ρ) := s_if hc (fun z => nomatch z) fun _ => s_nil
theorem s_ret (h : SemF X e ρ d) : Do X (.Return (some e) pos) ρ (.rt d) := fun F0 H0 σ F H E s q =>
  psR (ps_ret peS) (h σ F H _ s.st.fz s.ok fun v F1 H1 t r => q v F1 H1 (s.st.trans t) r)
theorem s_expr (h : SemF X e ρ d) (hs : swapsWith e none pos.line X.env = pure false := by rfl) : Do X (.Expr e pos) ρ (.nx ρ) := fun F0 H0 σ F H E s q =>
  psR (ps_expr peS hs) (h σ F H _ s.st.fz s.ok fun v F1 H1 t r => q σ F1 H1 (s.step t))
end
/-! ### names set -/
def locB (sc : Scope) (x : Str) : Bool := match sc.names.lookup x with
  | some .local => true
  | _ => false
theorem loc_of {sc : Scope} {x : Str} (h : locB sc x = true) : sc.names.lookup x = some .local := by
  unfold locB at h
  split at h
  · assumption
  · cases h
def locC (sc : Scope) (x : Str) : Bool := match sc.names.lookup x with
  | some .local => true
  | some .cell => true
  | _ => false
theorem locC_of {sc : Scope} {x : Str} (h : locC sc x = true) : Loc sc x := by
  unfold locC at h
  split at h
  · exact .inl (by assumption)
  · exact .inr (by assumption)
  · cases h
/-- a def's own context: cells may be stored -/
structure Gf (X : Cx) (N : List Str) (sc : Scope) (k : Nat) : Prop where
  g : Gd X N sc k
  fn : ∀ x, X.fn x = true
  own : PassesOwn (model X.prog X.w) X.A X.env X.xe
section
variable {X : Cx} {N : List Str} {sc : Scope} {k : Nat} {ρ ρ1 ρ2 : List SV} {out : Out} {d : D} {e : Expr} {pos p1 : Pos} {x : Str}
theorem Gf.pg (g : Gf X N sc k) {j : Nat} (hj : N[j]? = some x) (hl : locC sc x = true) : PG X (.Name x pos) (gName j) :=
  pg_name g.g.ndX (by rw [g.g.hN]; exact hj) (by rw [g.g.hsc]; exact locC_of hl) (.inl (g.fn x))
theorem s_set (g : Gf X N sc k) (j : Nat) (h : SemF X e ρ d) (hj : N[j]? = some x := by rfl) (hr : j < ρ.length := by exact Nat.le_of_ble_eq_true rfl) (hl : locC sc x = true := by rfl) (hs : swapsWith e (some (.Name x p1)) pos.line X.env = pure false := by rfl) :
    Do X (.Assign [.Name x p1] e pos) ρ (.nx (ρ.set j (.fz d))) := fun F0 H0 σ F H E s q =>
  psR (ps_set g.g.ndX (by rw [g.g.hN]; exact hj) (by rw [g.g.hsc]; exact locC_of hl) peS hs (.inl (g.fn x))) (h σ F H _ s.st.fz s.ok fun v F1 H1 t r => q _ F1 H1 ((s.step t).set r hr))
theorem s_new (g : Gf X N sc k) (j : Nat) (h : SemN X e ρ d) (hj : N[j]? = some x := by rfl) (hr : j < ρ.length := by exact Nat.le_of_ble_eq_true rfl) (hl : locC sc x = true := by rfl) (hs : swapsWith e (some (.Name x p1)) pos.line X.env = pure false := by rfl) :
    Do X (.Assign [.Name x p1] e pos) ρ (.nx (ρ.set j (.ow d))) := fun F0 H0 σ F H E s q =>
  psR (ps_set g.g.ndX (by rw [g.g.hN]; exact hj) (by rw [g.g.hsc]; exact locC_of hl) peS hs (.inl (g.fn x))) (h σ F H _ s.st.fz s.ok fun p o F1 H1 t h0 hF hH r => q _ F1 H1 (s.setO t h0 hF hH r hr))
/-- name = [..] -/
theorem s_lc (g : Gf X N sc k) (j : Nat) {scope : Scope} {own : List (Str × Nat)} {tg iter elt : Expr} {ifs : List Expr} {cpos : Pos} (h : LcS X scope own tg iter ifs elt ρ d gT) (hj : N[j]? = some x := by rfl) (hr : j < ρ.length := by exact Nat.le_of_ble_eq_true rfl) (hl : locB sc x = true := by rfl)
    (hk : sc.kind = .function := by rfl) (hl2 : (p1.line == cpos.line) = true := by rfl) (ha : (scope.names.any fun (n, k) => n == x && (k == .local || k == .cell)) = false := by rfl) (hs : ∀ v, foldedSetIterable iter X.env v = pure v := by intro _; rfl) :
    Do X (.Assign [.Name x p1] (.ListComp elt [⟨tg, iter, ifs, 0⟩] scope cpos) pos) ρ (.nx (ρ.set j (.ow d))) := fun F0 H0 σ F H E s q => by
  obtain ⟨wi, gt, tt, te, h1, h2, h3, h4, h5⟩ := h.ex
  exact psR (ps_setLc h.calm h.nd (by rw [g.g.hN]; exact hj) (by rw [g.g.hsc]; exact loc_of hl) (sw_true (by rw [g.g.hsc]; exact hk) (by rw [g.g.hsc]; exact loc_of hl) hl2 ha) h1 h.ok h2 h3 h4 hs) (h5 σ F H _ s.st.fz s.ok trivial fun p o F1 H1 t h0 hF hH r => q _ F1 H1 (s.setO t h0 hF hH r hr))
/-- a target's store at a def's own level -/
def TgX (gt : TG) (ρ : List SV) (d : D) (ρ' : List SV) : Prop := ∀ (F0 H0 : Hp) (σ : L2.St) (F H : Hp) (v : V) (Q : L2.St → Hp → Prop), SX F0 H0 ρ σ F H → Rep F v d → (∀ σ', SX F0 H0 ρ' σ' F H → Q σ' H) → gt v σ H Q
theorem tx_name (j : Nat) (hr : j < ρ.length := by exact Nat.le_of_ble_eq_true rfl) : TgX (gName j) ρ d (ρ.set j (.fz d)) := fun F0 H0 σ F H v Q s r q => q _ (s.set r hr)
theorem tx_pair {K : PySem.W.Frag} {d' : D} (i j : Nat) (hi : i < ρ.length := by exact Nat.le_of_ble_eq_true rfl) (hj : j < ρ.length := by exact Nat.le_of_ble_eq_true rfl) : TgX (gTup K 2 (gCons (gName i) (gCons (gName j) gNil))) ρ (.tup [d, d']) ((ρ.set i (.fz d)).set j (.fz d')) := fun F0 H0 σ F H v Q s r q => by
  obtain ⟨p, xs, o, ev, hp, _, z⟩ := Rep.vl s.st.fz r
  obtain ⟨x, r1, e1, z1, y, r2, e2, z2, e3⟩ := z
  have e3 : r2 = [] := e3
  subst ev e3 e2 e1
  exact ⟨p, _, rfl, .inl (.inr ⟨o, hp⟩), rfl, x, [y], rfl, y, [], rfl, rfl, q _ ((s.set z1 hi).set z2 (by rw [List.length_set]; exact hj))⟩
theorem tx_lpair {K : PySem.W.Frag} {d' : D} (i j : Nat) (hi : i < ρ.length := by exact Nat.le_of_ble_eq_true rfl) (hj : j < ρ.length := by exact Nat.le_of_ble_eq_true rfl) : TgX (gUnl K 2 (gCons (gName i) (gCons (gName j) gNil))) ρ (.lst [d, d']) ((ρ.set i (.fz d)).set j (.fz d')) := fun F0 H0 σ F H v Q s r q => by
  obtain ⟨p, xs, ev, hp, z⟩ := Rep.vl s.st.fz r
  obtain ⟨x, r1, e1, z1, y, r2, e2, z2, e3⟩ := z
  have e3 : r2 = [] := e3
  subst ev e3 e2 e1
  exact ⟨p, _, rfl, .inl hp.1, rfl, x, [y], rfl, y, [], rfl, rfl, q _ ((s.set z1 hi).set z2 (by rw [List.length_set]; exact hj))⟩
/-- target = value -/
theorem s_asg {tg : Expr} {gt : TG} (h : SemF X e ρ d) (hg : PG X tg gt) (hT : TgX gt ρ d ρ1) (hs : swapsWithSole [tg] e pos.line X.env = pure false := by rfl) (hw : swappedStores [tg] e X.env = pure none := by rfl)
    (h1 : (assignEach [tg] X.env).map (·.2) = [assign tg X.env] := by rfl) : Do X (.Assign [tg] e pos) ρ (.nx ρ1) := fun F0 H0 σ F H E s q =>
  psR (ps_asg peS hg hs hw h1) (h σ F H _ s.st.fz s.ok fun v F1 H1 t r => hT F0 H0 σ F1 H1 v _ (s.step t) r fun σ' s' => q σ' F1 H1 s')
end
end KD

set_option Elab.async false
set_option linter.all false
set_option maxRecDepth 100000
set_option maxHeartbeats 2000000
/-! KD8: lists and dicts of one's own written; loops; defs. -/
namespace KD
open PySem PySem.Spec PyProof.Rows L2
variable [Vol]
theorem isL {F : Hp} {o : HO} {ds : List D} (h : IsO F o (.lst ds)) : ∃ xs, o = .lst xs ∧ Reps F xs ds := by
  cases o <;> first | exact False.elim h | exact ⟨_, rfl, h⟩
theorem isD {F : Hp} {o : HO} {kvs : List (Str × Int)} (h : IsO F o (.dct kvs)) : o = .dK (kvI kvs) := by
  cases o <;> first | exact False.elim h | exact congrArg HO.dK h
section
variable {X : Cx} {N : List Str} {sc : Scope} {k : Nat} {ρ ρ1 ρ2 : List SV} {out : Out} {d : D} {e : Expr} {pos p1 p2 p3 p4 : Pos} {x y : Str} {ds es : List D}
/-- xs.append(e) -/
theorem s_app (g : Gd X N sc k) (i : Nat) (h : SemF X e ρ d) (hl : ds.length ≤ 1000000) (hi : N[i]? = some x := by rfl) (hρ : ρ[i]? = some (.ow (.lst ds)) := by rfl) (hv : visB sc x = true := by rfl) (hd : (x == ("__debug__" : Str)) = false := by decide) (hcd : (x == ("__classdict__" : Str)) = false := by decide)
    (hs : swapsWith (.Call (.Attribute (.Name x p1) "append" p2) [e] [] p3) none pos.line X.env = pure false := by rfl)
    (hfew : ((backTo p3 (starEach [e] X.env)).all (fun x => !x.1) && (backToKw p3 (keywordEach [] X.env)).all (fun x => x.1.isSome) && decide ([e].length + ([] : List Keyword).length + (if ([] : List Keyword).isEmpty then 0 else 1) < 30)) = true := by rfl)
    (hline : (p2.endLine == p3.line) = true := by rfl) (hse : starEach [e] X.env = (false, eval e X.env) :: starEach [] X.env := by rfl) :
    Do X (.Expr (.Call (.Attribute (.Name x p1) "append" p2) [e] [] p3) pos) ρ (.nx (ρ.set i (.ow (.lst (ds ++ [d]))))) := fun F0 H0 σ F H E s q => by
  obtain ⟨p, o, a, b, _, r, _, _⟩ := s.own hρ
  obtain ⟨xs, eo, _⟩ := isL r
  subst eo
  refine psR (ps_expr (pe_bm PySem.F.plainAttrs_list PySem.F.slot_list_append PySem.F.type_list_append mt_append (pe_nm g hi hv hd hcd) (pa_cons peS pa_nil hse) rfl hfew hline hse rfl) hs) ⟨_, a, .inl ⟨rfl, _, .inl (.inl b)⟩, h σ F H _ s.st.fz s.ok fun v F1 H1 t r1 => ?_⟩
  have s1 := s.step t
  obtain ⟨p', o', a', b', _, r', w, _⟩ := s1.own hρ
  have ep : p = p' := V.ref.inj (Option.some.inj (Option.some.inj (a.symm.trans a')))
  subst ep
  obtain ⟨xs', eo, z⟩ := isL r'
  subst eo
  refine ⟨p, xs', v, rfl, rfl, b', ?_, q _ _ _ (w _ _ (z.snoc r1))⟩
  rw [z.len, sizeLine_eq]
  omega
/-- xs.extend(e) -/
theorem s_ext (g : Gd X N sc k) (i : Nat) (h : SemF X e ρ (.lst es)) (hl : ds.length + es.length ≤ 1000000) (hi : N[i]? = some x := by rfl) (hρ : ρ[i]? = some (.ow (.lst ds)) := by rfl) (hv : visB sc x = true := by rfl) (hd : (x == ("__debug__" : Str)) = false := by decide) (hcd : (x == ("__classdict__" : Str)) = false := by decide)
    (hs : swapsWith (.Call (.Attribute (.Name x p1) "extend" p2) [e] [] p3) none pos.line X.env = pure false := by rfl)
    (hfew : ((backTo p3 (starEach [e] X.env)).all (fun x => !x.1) && (backToKw p3 (keywordEach [] X.env)).all (fun x => x.1.isSome) && decide ([e].length + ([] : List Keyword).length + (if ([] : List Keyword).isEmpty then 0 else 1) < 30)) = true := by rfl)
    (hline : (p2.endLine == p3.line) = true := by rfl) (hse : starEach [e] X.env = (false, eval e X.env) :: starEach [] X.env := by rfl) :
    Do X (.Expr (.Call (.Attribute (.Name x p1) "extend" p2) [e] [] p3) pos) ρ (.nx (ρ.set i (.ow (.lst (ds ++ es))))) := fun F0 H0 σ F H E s q => by
  obtain ⟨p, o, a, b, _, r, _, _⟩ := s.own hρ
  obtain ⟨xs, eo, _⟩ := isL r
  subst eo
  refine psR (ps_expr (pe_bm PySem.F.plainAttrs_list PySem.F.slot_list_extend PySem.F.type_list_extend mt_extend (pe_nm g hi hv hd hcd) (pa_cons peS pa_nil hse) rfl hfew hline hse rfl) hs) ⟨_, a, .inl ⟨rfl, _, .inl (.inl b)⟩, h σ F H _ s.st.fz s.ok fun v F1 H1 t r1 => ?_⟩
  have s1 := s.step t
  obtain ⟨p', o', a', b', _, r', w, _⟩ := s1.own hρ
  have ep : p = p' := V.ref.inj (Option.some.inj (Option.some.inj (a.symm.trans a')))
  subst ep
  obtain ⟨xs', eo, z⟩ := isL r'
  subst eo
  obtain ⟨pz, zs, ev, hz, rz⟩ := r1
  subst ev
  have hz' : H1 pz = some (.lst zs) := by
    rcases (t.fz _ _ hz).1 with y | ⟨y, _⟩
    · exact y
    · exact y.elim
  refine ⟨p, pz, xs', zs, rfl, rfl, b', hz', ?_, q _ _ _ (w _ _ (z.append rz))⟩
  rw [z.len, rz.len, sizeLine_eq]
  omega
/-- y = xs.pop() -/
theorem s_pop (g : Gf X N sc k) (i j : Nat) (hi : N[i]? = some x := by rfl) (hρ : ρ[i]? = some (.ow (.lst (ds ++ [d]))) := by rfl) (hj : N[j]? = some y := by rfl) (hr : j < ρ.length := by exact Nat.le_of_ble_eq_true rfl) (hij : i ≠ j := by decide) (hlj : locC sc y = true := by rfl) (hv : visB sc x = true := by rfl) (hd : (x == ("__debug__" : Str)) = false := by decide) (hcd : (x == ("__classdict__" : Str)) = false := by decide)
    (hs : swapsWith (.Call (.Attribute (.Name x p1) "pop" p2) [] [] p3) (some (.Name y p4)) pos.line X.env = pure false := by rfl) (hline : (p2.endLine == p3.line) = true := by rfl) :
    Do X (.Assign [.Name y p4] (.Call (.Attribute (.Name x p1) "pop" p2) [] [] p3) pos) ρ (.nx ((ρ.set i (.ow (.lst ds))).set j (.fz d))) := fun F0 H0 σ F H E s q => by
  obtain ⟨p, o, a, b, _, r, w, _⟩ := s.own hρ
  obtain ⟨xs, eo, z⟩ := isL r
  subst eo
  have hn : xs.length = ds.length + 1 := by rw [z.len, List.length_append, List.length_singleton]
  obtain ⟨v, hv2, rv⟩ := z.get (i := ds.length) (d := d) (by rw [List.getElem?_append_right (Nat.le_refl _), Nat.sub_self]; rfl)
  refine psR (ps_set g.g.ndX (by rw [g.g.hN]; exact hj) (by rw [g.g.hsc]; exact locC_of hlj) (pe_bm0 PySem.F.plainAttrs_list PySem.F.slot_list_pop PySem.F.type_list_pop mt_pop (pe_nm g.g hi hv hd hcd) rfl hline) hs (.inl (g.fn y))) ⟨_, a, .inl ⟨rfl, _, .inl (.inl b)⟩, p, xs, v, rfl, rfl, b, by rw [hn]; exact hv2, ?_⟩
  have z' := z.dropLast
  rw [List.dropLast_concat] at z'
  exact q _ _ _ ((w (.lst _) (.lst ds) z').set rv (by rw [List.length_set]; exact hr))
/-- d[k] = n -/
theorem s_dput (g : Gd X N sc k) (i : Nat) {kvs : List (Str × Int)} {ks : Str} {n : Int} {ke : Expr} (h : SemV X e ρ (.int n)) (hk : SemV X ke ρ (.str ks)) (hl : kvs.length ≤ 1000000) (hi : N[i]? = some x := by rfl) (hρ : ρ[i]? = some (.ow (.dct kvs)) := by rfl) (hv : visB sc x = true := by rfl) (hd : (x == ("__debug__" : Str)) = false := by decide) (hcd : (x == ("__classdict__" : Str)) = false := by decide)
    (hs : swapsWith e (some (.Subscript (.Name x p1) ke p2)) pos.line X.env = pure false := by rfl) :
    Do X (.Assign [.Subscript (.Name x p1) ke p2] e pos) ρ (.nx (ρ.set i (.ow (.dct (putI kvs ks n))))) := fun F0 H0 σ F H E s q =>
  psR (ps_dput g.hu (pe_nm g hi hv hd hcd) peS peS hs) (h σ F H _ s.st.fz s.ok fun v F1 H1 t r1 => by
    have s1 := s.step t
    obtain ⟨p, o, a, b, _, r, _, _⟩ := s1.own hρ
    refine ⟨_, a, hk σ F1 H1 _ s1.st.fz s1.ok fun kv F2 H2 t2 r2 => ?_⟩
    have s2 := s1.step t2
    obtain ⟨p', o', a', b', _, r', w, _⟩ := s2.own hρ
    have ep : p = p' := V.ref.inj (Option.some.inj (Option.some.inj (a.symm.trans a')))
    subst ep
    have eo := isD r'
    subst eo
    refine ⟨p, _, rfl, ?_, q _ _ _ (w (.dK (kvI (putI kvs ks n))) _ rfl)⟩
    rw [show kv = .str ks from r2, show v = .int n from r1, kvI_put]
    exact DPut.k (k := Sum.inr ks) b' (by unfold kvI; rw [List.length_map, sizeLine_eq]; omega))
/-- d[k] += n -/
theorem s_daug (g : Gd X N sc k) (i : Nat) {kvs : List (Str × Int)} {ks : Str} {n m : Int} {ke : Expr} (hk : SemV X ke ρ (.str ks)) (h : SemV X e ρ (.int n)) (hm : dgo kvs ks = some m) (hl : kvs.length ≤ 1000000) (hi : N[i]? = some x := by rfl) (hρ : ρ[i]? = some (.ow (.dct kvs)) := by rfl) (hv : visB sc x = true := by rfl) (hd : (x == ("__debug__" : Str)) = false := by decide) (hcd : (x == ("__classdict__" : Str)) = false := by decide)
    (ha : ∀ ov iv new, augStore ke ov iv new = (do holding [new, ov, iv] (setItem ov iv new); release [new, ov, iv] []; pure .next) := by intros; rfl) :
    Do X (.AugAssign (.Subscript (.Name x p1) ke p2) .Add e pos) ρ (.nx (ρ.set i (.ow (.dct (putI kvs ks (m + n)))))) := fun F0 H0 σ F H E s q => by
  obtain ⟨p, o, a, b, _, r, _, _⟩ := s.own hρ
  refine psR (ps_daug g.hu (pe_nm g hi hv hd hcd) peS peS in_add ha) ⟨_, a, hk σ F H _ s.st.fz s.ok fun kv F1 H1 t r1 => ?_⟩
  have s1 := s.step t
  obtain ⟨p1, o1, a1, b1, _, r1', _, _⟩ := s1.own hρ
  have ep : p = p1 := V.ref.inj (Option.some.inj (Option.some.inj (a.symm.trans a1)))
  subst ep
  have eo := isD r1'
  subst eo
  have gg := dget_of (k := ks) (Or.inl b1 : Rd H1 p (.dK (kvI kvs)))
  rw [hm] at gg
  rw [show kv = .str ks from r1]
  refine ⟨p, .int m, rfl, gg, h σ F1 H1 _ s1.st.fz s1.ok fun v F2 H2 t2 r2 => ?_⟩
  have s2 := s1.step t2
  obtain ⟨p', o', a', b', _, r', w, _⟩ := s2.own hρ
  have ep : p = p' := V.ref.inj (Option.some.inj (Option.some.inj (a.symm.trans a')))
  subst ep
  have eo := isD r'
  subst eo
  refine ⟨m, n, rfl, r2, _, ?_, q _ _ _ (w (.dK (kvI (putI kvs ks (m + n)))) _ rfl)⟩
  rw [kvI_put]
  exact DPut.k (k := Sum.inr ks) b' (by unfold kvI; rw [List.length_map, sizeLine_eq]; omega)
/-- x += n, x -= n -/
theorem s_aug {op : Operator} {f : Int → Int → Int} (g : Gf X N sc k) (j : Nat) (ho : PIp X op (ipI f)) {m n : Int} (h : SemV X e ρ (.int n)) (hj : N[j]? = some x := by rfl) (hρ : ρ[j]? = some (.fz (.int m)) := by rfl) (hl : locC sc x = true := by rfl) :
    Do X (.AugAssign (.Name x p1) op e pos) ρ (.nx (ρ.set j (.fz (.int (f m n))))) := fun F0 H0 σ F H E s q => by
  obtain ⟨ad, h1, _, _⟩ := s.ex
  obtain ⟨v, a, r⟩ := h1 j _ hρ
  have hr : j < ρ.length := (List.getElem?_eq_some_iff.mp hρ).1
  refine psR (ps_aug g.g.ndX (by rw [g.g.hN]; exact hj) (by rw [g.g.hsc]; exact locC_of hl) peS ho (.inl (g.fn x))) ⟨v, a, h σ F H _ s.st.fz s.ok fun w F1 H1 t r1 => ?_⟩
  exact ⟨m, n, r, r1, q _ _ _ ((s.step t).set (v := .int (f m n)) (d := .int (f m n)) rfl hr)⟩
theorem s_add (g : Gf X N sc k) (j : Nat) {m n : Int} (h : SemV X e ρ (.int n)) (hj : N[j]? = some x := by rfl) (hρ : ρ[j]? = some (.fz (.int m)) := by rfl) (hl : locC sc x = true := by rfl) :
    Do X (.AugAssign (.Name x p1) .Add e pos) ρ (.nx (ρ.set j (.fz (.int (m + n))))) := s_aug g j ip_add h hj hρ hl
theorem s_sub (g : Gf X N sc k) (j : Nat) {m n : Int} (h : SemV X e ρ (.int n)) (hj : N[j]? = some x := by rfl) (hρ : ρ[j]? = some (.fz (.int m)) := by rfl) (hl : locC sc x = true := by rfl) :
    Do X (.AugAssign (.Name x p1) .Sub e pos) ρ (.nx (ρ.set j (.fz (.int (m - n))))) := s_aug g j ip_sub h hj hρ hl
theorem sw_env {env env' : Env} {ts : List Expr} {v : Expr} (h : env.scope = env'.scope) : swappedStores ts v env = swappedStores ts v env' := by
  unfold swappedStores Env.blockKind Env.kindOf
  rw [h]
/-- a, b = x, y -/
theorem s_par {a b : Expr} {d' : D} {kt k2 pt2 pt} {py : Pos} (g : Gf X N sc k) (i j : Nat) (h : SemA X [a, b] ρ [d, d']) (hi : N[i]? = some x := by rfl) (hj : N[j]? = some y := by rfl) (hri : i < ρ.length := by exact Nat.le_of_ble_eq_true rfl) (hrj : j < ρ.length := by exact Nat.le_of_ble_eq_true rfl) (hij : i ≠ j := by decide) (hx : locB sc x = true := by rfl) (hy : locB sc y = true := by rfl)
    (hw : swappedStores [.Tuple [.Name x p1, .Name y py] kt pt] (.Tuple [a, b] k2 pt2) (envOfC "" sc 0 0 .none) = pure (some [x, y]) := by rfl) (hs : swapsWithSole [.Tuple [.Name x p1, .Name y py] kt pt] (.Tuple [a, b] k2 pt2) pos.line X.env = pure false := by rfl) :
    Do X (.Assign [.Tuple [.Name x p1, .Name y py] kt pt] (.Tuple [a, b] k2 pt2) pos) ρ (.nx ((ρ.set i (.fz d)).set j (.fz d'))) := fun F0 H0 σ F H E s q =>
  psR (ps_par g.g.calm g.g.ndX (by rw [g.g.hN]; exact hi) (by rw [g.g.hN]; exact hj) hij (by rw [g.g.hsc]; exact loc_of hx) (by rw [g.g.hsc]; exact loc_of hy) paS ((sw_env g.g.hsc).trans hw) hs) (h σ F H _ s.st.fz s.ok fun vs F1 H1 t r => by
    obtain ⟨v, r1, e1, z1, w, r2, e2, z2, e3⟩ := r
    have e3 : r2 = [] := e3
    subst e3 e2 e1
    exact ⟨v, w, rfl, q _ _ _ (((s.step t).set z1 hri).set z2 (by rw [List.length_set]; exact hrj))⟩)
end
/-! ### loops -/
def WlkF {α : Type} (J : It) (xs : List α) (enc : α → D) (F1 : Hp) : Prop := ∀ F' H', Sub F1 F' → Fz F' H' →
  (∀ i x, xs[i]? = some x → J.go i H' ∧ ∀ v H'', J.yld i H' v H'' → H'' = H' ∧ Rep F' v (enc x)) ∧ J.stop xs.length H'
def ItF {α : Type} (X : Cx) (tg iter : Expr) (ρ : List SV) (xs : List α) (enc : α → D) : Prop :=
  ∃ wi, PI X tg iter wi ∧ ∀ (σ : L2.St) (F H : Hp) (R : It → Hp → Prop), Fz F H → SOk ρ σ F H → (∀ J F1 H1, Step F H F1 H1 → WlkF J xs enc F1 → R J H1) → wi σ H R
section
variable {X : Cx} {N : List Str} {sc : Scope} {k : Nat} {ρ : List SV} {tg iter : Expr} {α : Type} {xs : List α} {enc : α → D} {pos : Pos}
theorem if_tup (h : SemF X iter ρ (.tup (xs.map enc))) : ItF X tg iter ρ xs enc := ⟨_, pi_tup peS, fun σ F H R f s q => h σ F H _ f s fun v F1 H1 t1 r1 => by
  obtain ⟨p, vs, o, e, r, _, z⟩ := Rep.vl t1.fz r1
  refine ⟨p, e, ⟨vs, .inl (.inr ⟨o, r⟩)⟩, q _ F1 H1 t1 fun F' H' sb f' => ?_⟩
  obtain ⟨p', vs', o', e', r', _, z'⟩ := Rep.vl f' (Rep.mono sb _ r1)
  have ep : p' = p := by
    rw [e] at e'
    exact (V.ref.inj e').symm
  subst ep
  refine ⟨fun i x hx => ?_, ⟨vs', .inl (.inr ⟨o', r'⟩), by rw [z'.len, List.length_map]; exact Nat.le_refl _⟩⟩
  obtain ⟨u, hu, ru⟩ := z'.get (map_get hx)
  refine ⟨⟨vs', u, .inl (.inr ⟨o', r'⟩), hu⟩, fun v' H'' y => ⟨y.1, ?_⟩⟩
  have w := y.2 vs' (.inl (.inr ⟨o', r'⟩))
  rw [hu] at w
  cases w
  exact ru⟩
theorem if_lst (h : SemF X iter ρ (.lst (xs.map enc))) : ItF X tg iter ρ xs enc := ⟨_, pi_list peS, fun σ F H R f s q => h σ F H _ f s fun v F1 H1 t1 r1 => by
  obtain ⟨p, vs, e, r, z⟩ := Rep.vl t1.fz r1
  refine ⟨p, e, ⟨vs, .inl r.1⟩, q _ F1 H1 t1 fun F' H' sb f' => ?_⟩
  obtain ⟨p', vs', e', r', z'⟩ := Rep.vl f' (Rep.mono sb _ r1)
  have ep : p' = p := by
    rw [e] at e'
    exact (V.ref.inj e').symm
  subst ep
  refine ⟨fun i x hx => ?_, ⟨vs', .inl r'.1, by rw [z'.len, List.length_map]; exact Nat.le_refl _⟩⟩
  obtain ⟨u, hu, ru⟩ := z'.get (map_get hx)
  refine ⟨⟨vs', u, .inl r'.1, hu⟩, fun v' H'' y => ⟨y.1, ?_⟩⟩
  have w := y.2 vs' (.inl r'.1)
  rw [hu] at w
  cases w
  exact ru⟩
theorem if_rng (g : Gd X N sc k) {a : Expr} {i : Int} {p pos : Pos} (ha : SemV X a ρ (.int i)) (h1 : -(2 ^ 62) ≤ i) (h2 : i < 2 ^ 62) (hm : X.mg "range" = none) (hg : glB sc "range" = true := by rfl)
    (hs : starEach [a] X.env = [(false, eval a X.env)] := by rfl) : ItF X tg (.Call (.Name "range" p) [a] [] pos) ρ (List.range i.toNat) (fun n => .int n) := ⟨_, pi_range1 (gl_of g hg) hm paS hs, fun σ F H R f s q => (av_cons ha av_nil hs) σ F H _ f s fun vs F1 H1 t1 r1 => by
  obtain ⟨v, e, ev⟩ := pv1 r1
  subst e
  refine ⟨i, by rw [show v = _ from ev], h1, h2, q _ F1 H1 t1 fun F' H' sb f' => ⟨fun j x hx => ?_, by show _ ≤ _; rw [List.length_range]; exact Nat.le_refl _⟩⟩
  obtain ⟨e1, e2⟩ := range_get hx
  subst e1
  refine ⟨e2, fun v' H'' y => ⟨y.1, ?_⟩⟩
  have e := y.2
  rw [Int.zero_add] at e
  exact e⟩
theorem if_rngDown (g : Gd X N sc k) {a b c : Expr} {i : Int} {p pos : Pos} (ha : SemV X a ρ (.int i)) (hb : SemV X b ρ (.int 0)) (hc : SemV X c ρ (.int (-1))) (h1 : 0 ≤ i) (h2 : i < 2 ^ 62) (hm : X.mg "range" = none) (hg : glB sc "range" = true := by rfl)
    (hs : starEach [a, b, c] X.env = (false, eval a X.env) :: starEach [b, c] X.env := by rfl) (hs2 : starEach [b, c] X.env = (false, eval b X.env) :: starEach [c] X.env := by rfl) (hs3 : starEach [c] X.env = (false, eval c X.env) :: starEach [] X.env := by rfl) (hpl : (backTo pos (starEach [b, c] X.env)).any (·.1) = false := by rfl) :
    ItF X tg (.Call (.Name "range" p) [a, b, c] [] pos) ρ (List.range i.toNat) (fun n => .int (i - n)) := ⟨_, pi_range3 (gl_of g hg) hm paS hs hpl, fun σ F H R f s q => (av_cons ha (av_cons hb (av_cons hc av_nil hs3) hs2) hs) σ F H _ f s fun vs F1 H1 t1 r1 => by
  have hz := RgC.neg (i := i) (j := 0) (by omega) h2 (by omega) (by omega)
  rw [Int.sub_zero] at hz
  cases r1 with
  | cons r1 r2 =>
    cases r2 with
    | cons r2 r3 =>
      cases r3 with
      | cons r3 r4 =>
        cases r4
        have r1 : _ = V.int i := r1
        have r2 : _ = V.int 0 := r2
        have r3 : _ = V.int (-1) := r3
        subst r1 r2 r3
        refine ⟨i, 0, -1, i.toNat, rfl, hz, q _ F1 H1 t1 fun F' H' sb f' => ⟨fun j x hx => ?_, by show _ ≤ _; rw [List.length_range]; exact Nat.le_refl _⟩⟩
        obtain ⟨e1, e2⟩ := range_get hx
        subst e1
        refine ⟨e2, fun v' H'' y => ⟨y.1, ?_⟩⟩
        have e := y.2
        have e3 : i + (j : Nat) * (-1) = i - (j : Int) := by omega
        rw [e3] at e
        exact e⟩
/-- for tg in iter: body -/
theorem s_for {gt : TG} {body : List Stmt} {rs : Nat → List SV} {rt : Nat → α → List SV} (g : Gf X N sc k) (hi : ItF X tg iter ρ xs enc) (h0 : LeL ρ (rs 0)) (hg : PG X tg gt) (hT : ∀ i x, xs[i]? = some x → TgX gt (rs i) (enc x) (rt i x))
    (hB : ∀ i x, xs[i]? = some x → Dos X body (rt i x) (.nx (rs (i + 1)))) (hs : ∀ v, foldedSetIterable iter X.env v = pure v := by intro _; rfl) : Do X (.For tg iter body [] pos) ρ (.nx (rs xs.length)) := fun F0 H0 σ F H E s q => by
  obtain ⟨wi, hpi, hw⟩ := hi
  refine psR (ps_for g.own g.g.calm hpi hg pssS hs) (hw σ F H _ s.st.fz s.ok fun J F1 H1 t1 w1 => ?_)
  obtain ⟨Hb, sb, _, bk⟩ := (s.step t1).rebase
  refine ⟨fun i m σ' H' => m = xs.length - i ∧ i ≤ xs.length ∧ ∃ F', SX F1 Hb (rs i) σ' F' H', ⟨xs.length, by simp, Nat.zero_le _, F1, sb.le h0⟩, ?_⟩
  rintro i m σ2 H2 ⟨rfl, hi, F2, s2⟩
  obtain ⟨wgo, wstop⟩ := w1 F2 H2 s2.st.ex s2.st.fz
  by_cases e : i = xs.length
  · subst e
    exact .inl ⟨wstop, q _ _ _ (bk s2)⟩
  · have hlt : i < xs.length := by omega
    obtain ⟨x, hx⟩ : ∃ x, xs[i]? = some x := ⟨_, List.getElem?_eq_getElem hlt⟩
    obtain ⟨go, yl⟩ := wgo i x hx
    refine .inr ⟨go, fun σ' H' => ∃ F', SX F1 Hb (rs (i + 1)) σ' F' H', fun σ' H' h' => ⟨xs.length - (i + 1), by omega, rfl, hlt, h'⟩, fun v H3 y => ?_⟩
    obtain ⟨e3, r3⟩ := yl v H3 y
    subst e3
    exact hT i x hx F1 Hb σ2 F2 _ v _ s2 r3 fun σ3 s3 => hB i x hx F1 Hb σ3 F2 _ _ s3 fun σ4 F4 H4 s4 => ⟨F4, s4⟩
/-- while c: body -/
theorem s_while {c : Expr} {body : List Stmt} {rs : Nat → List SV} (g : Gf X N sc k) (n : Nat) (h0 : LeL ρ (rs 0)) (hc : ∀ i, i ≤ n → SemT X c (rs i) (decide (i < n))) (hB : ∀ i, i < n → Dos X body (rs i) (.nx (rs (i + 1)))) : Do X (.While c body [] pos) ρ (.nx (rs n)) := fun F0 H0 σ F H E s q => by
  refine psR (ps_while g.own ptS pssS) ⟨fun m σ' H' => ∃ i F', m = n - i ∧ i ≤ n ∧ SX F0 H0 (rs i) σ' F' H', ⟨n, 0, F, by simp, Nat.zero_le _, s.le h0⟩, ?_⟩
  rintro m σ2 H2 ⟨i, F2, rfl, hi, s2⟩
  refine hc i hi σ2 F2 H2 _ s2.st.fz s2.ok fun F3 H3 t3 => ?_
  by_cases e : i < n
  · rw [decide_eq_true e, if_pos rfl]
    exact ⟨fun σ' H' => ∃ F', SX F0 H0 (rs (i + 1)) σ' F' H', fun σ' H' ⟨F', h'⟩ => ⟨n - (i + 1), by omega, i + 1, F', rfl, e, h'⟩, hB i e F0 H0 σ2 F3 H3 _ (s2.step t3) fun σ4 F4 H4 s4 => ⟨F4, s4⟩⟩
  · have ei : i = n := by omega
    subst ei
    rw [decide_eq_false e, if_neg Bool.false_ne_true]
    exact q _ _ _ (s2.step t3)
end
section
variable {X : Cx} {N : List Str} {sc : Scope} {k : Nat} {ρ ρ0 ρ1 : List SV} {pos : Pos}
/-- a loop that runs once -/
theorem s_once {c : Expr} {body : List Stmt} (g : Gf X N sc k) (h0 : LeL ρ ρ0) (hc : SemT X c ρ0 true) (hB : Dos X body ρ0 (.nx ρ1)) (hc1 : SemT X c ρ1 false) : Do X (.While c body [] pos) ρ (.nx ρ1) :=
  s_while g (rs := fun i => match i with | 0 => ρ0 | _ + 1 => ρ1) 1 h0 (fun i hi => match i, hi with
    | 0, _ => hc
    | 1, _ => hc1) (fun i hi => match i, hi with
    | 0, _ => hB)
end
/-! ### a def by its body -/
theorem start_reps {F H : Hp} {N : List Str} {vs : List V} {ds : List D} (f : Fz F H) (r : Reps F vs ds) (hl : ds.length ≤ N.length) : SX F H (ds.map SV.fz ++ List.replicate (N.length - ds.length) .un) (L2.start N vs) F H := by
  have hn := r.len
  have hvs : (L2.start N vs).length = N.length := by
    unfold L2.start
    rw [List.length_append, List.length_map, List.length_replicate]
    omega
  refine ⟨.refl f, by rw [hvs, List.length_append, List.length_map, List.length_replicate]; omega, fun _ => 0, fun i d e => ?_, fun i d e => ?_, fun i j d d' e => ?_⟩
  · by_cases q : i < ds.length
    · rw [List.getElem?_append_left (by rw [List.length_map]; exact q), List.getElem?_map] at e
      cases e2 : ds[i]? with
      | none =>
        rw [e2] at e
        cases e
      | some d2 =>
        rw [e2] at e
        cases e
        obtain ⟨v, hv, rv⟩ := r.get e2
        refine ⟨v, ?_, rv⟩
        unfold L2.start
        rw [List.getElem?_append_left (by rw [List.length_map]; omega), List.getElem?_map, hv]
        rfl
    · rw [List.getElem?_append_right (by rw [List.length_map]; omega), List.getElem?_replicate] at e
      split at e <;> cases e
  all_goals
    exfalso
    by_cases q : i < ds.length
    · rw [List.getElem?_append_left (by rw [List.length_map]; exact q), List.getElem?_map] at e
      cases e2 : ds[i]? with
      | none =>
        rw [e2] at e
        cases e
      | some d2 =>
        rw [e2] at e
        cases e
    · rw [List.getElem?_append_right (by rw [List.length_map]; omega), List.getElem?_replicate] at e
      split at e <;> cases e
/-- what a def's body does to its arguments -/
def Body (N : List Str) (sc : Scope) (k : Nat) (P : Program) (w : World) (K : PySem.W.Frag) (mg : Str → Option Value) (base : Heap) (body : List Stmt) (Rl : List D → D → Prop) : Prop :=
  ∀ X : Cx, Gf X N sc k → X.prog = P → X.w = w → X.K = K → X.mg = mg → X.base = base → ∀ ds d, Rl ds d →
    @Dos volNone X body (ds.map SV.fz ++ List.replicate (N.length - ds.length) .un) (.rt d) ∨ (d = .non ∧ ∃ ρ, @Dos volNone X body (ds.map SV.fz ++ List.replicate (N.length - ds.length) .un) (.nx ρ))
omit [Vol] in
theorem fn_mk {P : Program} {w : World} {K : PySem.W.Frag} {mg : Str → Option Value} {base : Heap} {x qual : Str} {params : Arguments} {body : List Stmt} {sc : Scope} {f : Addr} {fd : FuncData} {N ps : List Str} {k : Nat} {Rl : List D → D → Prop}
    (Fd : FunD K x qual params body sc [] [] f fd) (hm : mg x = some (.ref f)) (S : FnScope N ps sc) (hb : Binds K fd ps []) (hl : ∀ ds d, Rl ds d → ds.length = ps.length) (h : Body N sc k P w K mg base body Rl) : Fn P w K mg base x (k + 1) Rl := by
  letI : Vol := volNone
  have hps : ps.length ≤ N.length := by
    have := congrArg List.length S.pre
    rw [List.length_take] at this
    omega
  refine ⟨f, fd, ps, hm, Fd.kp, hb, Fd.ok S (fun vs H Q E ⟨F, ds, d, f, r, hR, _⟩ => by rw [r.len, hl _ _ hR]) fun cdv A outer s H vs Q E hr ⟨F, ds, d, fz, r, hR, q⟩ => ?_⟩
  have hlen := hl _ _ hR
  have g : Gf (cxOf CX0 P w K mg base N qual sc f cdv A outer s H E).nox N sc k := ⟨⟨rfl, S.nd, rfl, rfl, hr, rfl⟩, fun _ => rfl, PassesOwn.never⟩
  have st := @start_reps volNone F H N vs ds fz r (by omega)
  rcases h _ g rfl rfl rfl rfl rfl ds d hR with z | ⟨rfl, ρ, z⟩
  · exact ⟨_, (pssS (X := (cxOf CX0 P w K mg base N qual sc f cdv A outer s H E).nox)).nox, z F H _ F H _ st fun v F' H' t r' => q v F' H' t r'⟩
  · exact ⟨_, (pssS (X := (cxOf CX0 P w K mg base N qual sc f cdv A outer s H E).nox)).nox, z F H _ F H _ st fun σ' F' H' s' => q .non F' H' s'.st rfl⟩
end KD

set_option Elab.async false
set_option linter.all false
set_option maxRecDepth 100000
set_option maxHeartbeats 2000000
/-! KD9: what stands behind the top. -/
namespace KD
open PySem PySem.Spec PyProof.Rows L2
def top (i : Nat) : Stmt := PySem.Challenge.pw_knownends_k66_whole_small_sketches_by_al.main.body.getD i (.Pass ⟨0, 0, 0, 0⟩)
abbrev nmE (i : Nat) (x : Str) : Nat × Str := (i, x)
def nmT : List (Nat × Str) := [nmE 8 "is_integer", nmE 9 "is_between", nmE 10 "is_count", nmE 11 "is_tuple_of", nmE 12 "are_ascending", nmE 16 "is_name", nmE 17 "are_counts", nmE 24 "lost_of", nmE 25 "is_sketch", nmE 26 "check_sketch", nmE 30 "raw_is_truth", nmE 31 "is_truth", nmE 32 "check_told", nmE 33 "numbered_name", nmE 34 "new_names", nmE 35 "truth_with", nmE 36 "layer_steps", nmE 37 "layers_of", nmE 38 "repeated", nmE 39 "raw_paper", nmE 40 "paper", nmE 51 "is_lot", nmE 52 "is_question", nmE 53 "check_question", nmE 54 "named_by", nmE 55 "by_counts", nmE 56 "filled", nmE 57 "raised", nmE 58 "place_ends", nmE 59 "first_ends", nmE 60 "unlike_ends", nmE 61 "squares_ends", nmE 62 "lot_ends", nmE 63 "raw_ends", nmE 64 "ends", nmE 65 "least_taken", nmE 66 "greatest_taken", nmE 67 "end_truths", nmE 68 "check_most", nmE 69 "surely_above", nmE 70 "perhaps_above", nmE 71 "surely_first", nmE 72 "perhaps_first", nmE 74 "_law_pot", nmE 75 "_law_draw", nmE 76 "_law_any", nmE 77 "_law_counted", nmE 78 "_law_fed", nmE 79 "_law_poured", nmE 80 "_law_led", nmE 81 "_law_sketch", nmE 82 "_law_is", nmE 83 "_law_value", nmE 84 "_law_question", nmE 85 "_law_parts", nmE 86 "_law_truths", nmE 87 "_law_as_counts", nmE 88 "_law_paper_right", nmE 89 "_law_firsts", nmE 90 "_law_above_right", nmE 91 "law"]
def intT : List (Str × Int) := [("MOST_IN_NAME", 8), ("MOST_ROOM", 64), ("ROOM", 0), ("MANY", 1), ("OFF", 2), ("KEPT", 3), ("MOST_TOLD", 1500), ("MOST_NAMES", 40)]
def strT : List (Str × Str) := [("LETTERS", "abcdefghijklmnopqrstuvwxyz"), ("SIGNS", "abcdefghijklmnopqrstuvwxyz"), ("COUNT", "count"), ("LOT", "lot"), ("APART", "apart"), ("PLACE", "place"), ("FIRST", "first"), ("UNLIKE", "unlike"), ("SQUARES", "squares")]
def freeT : List Str := ["isinstance", "int", "bool", "str", "tuple", "list", "dict", "set", "len", "all", "any", "range", "sum", "min", "max", "sorted", "abs"]
def sizT : List (Str × Int) := [("count", 2), ("lot", 2), ("apart", 3), ("place", 2), ("first", 2), ("unlike", 1), ("squares", 1)]
structure Top (K : PySem.W.Frag) (w : World) (mg : Str → Option Value) : Prop where
  siz : ∃ d es n, mg "SIZES" = some (.ref d) ∧ KDict K w d es n ∧ ∀ p ∈ sizT, ∃ u, PySem.W.nsIn K d p.1 = some (some u) ∧ RelV (.int p.2) u
  free : ∀ x ∈ freeT, mg x = none
  int : ∀ p ∈ intT, ∃ t, mg p.1 = some (.int p.2 t)
  str : ∀ p ∈ strT, ∃ t, mg p.1 = some (.str p.2 t)
  fn : ∀ p ∈ nmT, ∃ f fd, mg p.2 = some (.ref f) ∧ FunD K p.2 p.2 (defArgs (top p.1)) (defBody (top p.1)) (defScope (top p.1)) [] [] f fd
section
variable {P : Program} {w : World} {K : PySem.W.Frag} {mg : Str → Option Value} {base : Heap}
theorem Top.fr (T : Top K w mg) (x : Str) (h : x ∈ freeT := by decide) : mg x = none := T.free x h
theorem Top.i (T : Top K w mg) (x : Str) (n : Int) (h : (x, n) ∈ intT := by decide) : ∃ t, mg x = some (.int n t) := T.int (x, n) h
theorem Top.s (T : Top K w mg) (x : Str) (n : Str) (h : (x, n) ∈ strT := by decide) : ∃ t, mg x = some (.str n t) := T.str (x, n) h
theorem fn_top (T : Top K w mg) (i : Nat) {x : Str} (N ps : List Str) {k : Nat} {Rl : List D → D → Prop} (hx : (i, x) ∈ nmT) (hS : C8.scC N ps (defScope (top i)) = true)
    (hb : ∀ (kV doc pm : Value) (an : Option Addr) (cdv ct : Value) (us : List Value), us.length = ps.length → bindArgs (PySem.W.fnOf x x (defArgs (top i)) (defBody (top i)) (defScope (top i)) .none kV doc pm an cdv ct) ⟨us, []⟩ = pure (ps.zip us))
    (hl : ∀ ds d, Rl ds d → ds.length = ps.length) (h : Body N (defScope (top i)) k P w K mg base (defBody (top i)) Rl) : Fn P w K mg base x (k + 1) Rl := by
  obtain ⟨f, fd, h1, h2⟩ := T.fn (i, x) hx
  exact fn_mk h2 h1 (C8.fnScope_by hS) (h2.bindsN hb) hl h
end
end KD

set_option Elab.async false
set_option linter.all false
set_option maxRecDepth 100000
set_option maxHeartbeats 2000000
/-! KD10: further rules that walks ask for. -/
namespace KD
open PySem PySem.Spec PyProof.Rows L2
variable [Vol]
/-! ### lists of data seen as mapped lists -/
def cutA {α : Type} (xs : List α) (lo hi : Option Int) : List α := (xs.drop (HT.sIx xs.length 0 lo)).take (HT.sIx xs.length xs.length hi - HT.sIx xs.length 0 lo)
theorem cutD_map {α : Type} {xs : List α} {enc : α → D} {lo hi : Option Int} : cutD (xs.map enc) lo hi = (cutA xs lo hi).map enc := by
  unfold cutD cutA
  rw [List.length_map, ← List.map_drop, ← List.map_take]
theorem at_map {α : Type} {xs : List α} {enc : α → D} {i : Int} {x : α} (h : atI xs i = some x) : atI (xs.map enc) i = some (enc x) := by
  unfold atI at h ⊢
  rw [List.length_map]
  cases q : ixN xs.length i with
  | none =>
    rw [q] at h
    cases h
  | some j =>
    rw [q] at h
    exact map_get (show xs[j]? = some x from h)
theorem map_pD {α : Type} {xs : List α} (f : α → Str × Int) : D.lst (xs.map fun z => pD (f z)) = D.lst ((xs.map f).map pD) := by
  rw [List.map_map]
  rfl
theorem dgo_mem {kvs : List (Str × Int)} (nd : (kvs.map (·.1)).Nodup) {q : Str × Int} (h : q ∈ kvs) : dgo kvs q.1 = some q.2 := by
  induction kvs with
  | nil => cases h
  | cons a r ih =>
    rw [dgo_cons]
    rw [List.map_cons, List.nodup_cons] at nd
    rcases List.mem_cons.mp h with e | h
    · subst e
      rw [if_pos rfl]
    · rw [if_neg fun z => nd.1 (by rw [z]; exact List.mem_map_of_mem (f := (·.1)) h), ih nd.2 h]
def ipD (q : Int × Str) : D := .tup [.int q.1, .str q.2]
/-! ### targets in a block -/
def locD (scope sc : Scope) (x : Str) : Bool := match (relS scope sc).names.lookup x with
  | some .local => true
  | some .cell => (match scope.names.lookup x with | some .cell => true | _ => false)
  | _ => false
section
variable {X : Cx} {N : List Str} {sc scope : Scope} {k : Nat} {ρ : List SV} {pos p1 p2 p3 : Pos} {x y : Str}
theorem pgb (g : Gd X N sc k) (j : Nat) (hj : N[j]? = some x := by rfl) (hl : locD scope sc x = true := by rfl) : InB X scope fun Y => PG Y (.Name x pos) (gName j) := fun s H C cl fp => by
  have g2 := g.blk scope s H C cl fp
  unfold locD at hl
  split at hl
  · exact pg_name g2.ndX (by rw [g2.hN]; exact hj) (by rw [g2.hsc]; exact .inl (by assumption)) (.inr (by rw [g2.hsc]; assumption))
  · rename_i hc
    split at hl
    · rename_i hc2
      refine pg_name g2.ndX (by rw [g2.hN]; exact hj) (by rw [g2.hsc]; exact .inr hc) (.inl ?_)
      show (scope.names.lookup x == some .cell) = true
      rw [hc2]
      rfl
    · cases hl
  · cases hl
theorem pgb2 {kk : Nat} (g : Gd X N sc k) (i j : Nat) (hi : N[i]? = some x := by rfl) (hj : N[j]? = some y := by rfl) (hx : locD scope sc x = true := by rfl) (hy : locD scope sc y = true := by rfl) :
    InB X scope fun Y => PG Y (.Tuple [.Name x p1, .Name y p2] kk p3) (gTup X.K 2 (gCons (gName i) (gCons (gName j) gNil))) := fun s H C cl fp =>
  pg_tup (X := BX X scope s H C cl fp) g.calm (pgs_cons (pgb g i hi hx s H C cl fp) (pgs_cons (pgb g j hj hy s H C cl fp) pgs_nil))
theorem Gf.pg2 {kk : Nat} (g : Gf X N sc k) (i j : Nat) (hi : N[i]? = some x := by rfl) (hj : N[j]? = some y := by rfl) (hx : locC sc x = true := by rfl) (hy : locC sc y = true := by rfl) :
    PG X (.Tuple [.Name x p1, .Name y p2] kk p3) (gTup X.K 2 (gCons (gName i) (gCons (gName j) gNil))) := pg_tup g.g.calm (pgs_cons (g.pg hi hx) (pgs_cons (g.pg hj hy) pgs_nil))
theorem Gf.pg2l {kk : Nat} (g : Gf X N sc k) (i j : Nat) (hi : N[i]? = some x := by rfl) (hj : N[j]? = some y := by rfl) (hx : locC sc x = true := by rfl) (hy : locC sc y = true := by rfl) :
    PG X (.Tuple [.Name x p1, .Name y p2] kk p3) (gUnl X.K 2 (gCons (gName i) (gCons (gName j) gNil))) := pg_unl g.g.calm (pgs_cons (g.pg hi hx) (pgs_cons (g.pg hj hy) pgs_nil))
end
/-! ### built-ins on mapped lists -/
section
variable {X : Cx} {N : List Str} {sc : Scope} {k : Nat} {α : Type} {as : List α} {ρ : List SV} {pos p1 p2 p3 : Pos} {e : Expr} {x : Str}
theorem c_lenLM {enc : α → D} : CaF X (.builtin "len") [.lst (as.map enc)] (.int as.length) := by
  have h := c_lenL (X := X) (ds := as.map enc)
  rw [List.length_map] at h
  exact h
theorem c_lenTM {enc : α → D} : CaF X (.builtin "len") [.tup (as.map enc)] (.int as.length) := by
  have h := c_lenT (X := X) (ds := as.map enc)
  rw [List.length_map] at h
  exact h
theorem c_maxLM (g : Gd X N sc k) {f : α → Int} (hn : as ≠ []) : CaF X (.builtin "max") [.lst (as.map fun a => .int (f a))] (.int (maxL (as.map f))) := by
  have h := c_maxL g (ns := as.map f) (by simpa using hn)
  rw [List.map_map] at h
  exact h
theorem c_minLM (g : Gd X N sc k) {f : α → Int} (hn : as ≠ []) : CaF X (.builtin "min") [.lst (as.map fun a => .int (f a))] (.int (minL (as.map f))) := by
  have h := c_minL g (ns := as.map f) (by simpa using hn)
  rw [List.map_map] at h
  exact h
/-! ### sorted -/
def srtI (ns : List Int) : List Int := ns.mergeSort (PySem.W.dataLe false fun b => toP (.int b))
def srtS (ns : List Str) : List Str := ns.mergeSort (PySem.W.dataLe false fun b => toP (.str b))
def srtP (ns : List (Str × Int)) : List (Str × Int) := ns.mergeSort (PySem.W.dataLe false fun b => toP (pD b))
def srtIS (ns : List (Int × Str)) : List (Int × Str) := ns.mergeSort (PySem.W.dataLe false fun b => toP (ipD b))
theorem c_srtI (g : Gd X N sc k) {ns : List Int} : CaN X (.builtin "sorted") [.lst (ns.map D.int)] (.lst ((srtI ns).map D.int)) :=
  c_srt g (enc := D.int) (fun _ => rfl) (fun _ _ => by simp [toP, PySem.W.alike]) (.inr fun d h => by
    obtain ⟨a, _, rfl⟩ := List.mem_map.mp h
    exact ⟨fun z => (nomatch z), fun xs z => (nomatch z)⟩) fun a => by simp [toP, PyData.depth]
theorem c_srtS (g : Gd X N sc k) {ns : List Str} : CaN X (.builtin "sorted") [.lst (ns.map D.str)] (.lst ((srtS ns).map D.str)) :=
  c_srt g (enc := D.str) (fun _ => rfl) (fun _ _ => by simp [toP, PySem.W.alike]) (.inr fun d h => by
    obtain ⟨a, _, rfl⟩ := List.mem_map.mp h
    exact ⟨fun z => (nomatch z), fun xs z => (nomatch z)⟩) fun a => by simp [toP, PyData.depth]
theorem c_srtP (g : Gd X N sc k) {ns : List (Str × Int)} : CaN X (.builtin "sorted") [.lst (ns.map pD)] (.lst ((srtP ns).map pD)) :=
  c_srt g (enc := pD) (fun _ => rfl) (fun _ _ => by simp [toP, toPs, pD, PySem.W.alike, PySem.W.alikeAll]) (.inl fun d h => by
    obtain ⟨a, _, rfl⟩ := List.mem_map.mp h
    exact ⟨_, _, rfl⟩) fun a => by simp [toP, toPs, pD, PyData.depth, PyData.depthAll]
theorem c_srtIS (g : Gd X N sc k) {ns : List (Int × Str)} : CaN X (.builtin "sorted") [.lst (ns.map ipD)] (.lst ((srtIS ns).map ipD)) :=
  c_srt g (enc := ipD) (fun _ => rfl) (fun _ _ => by simp [toP, toPs, ipD, PySem.W.alike, PySem.W.alikeAll]) (.inl fun d h => by
    obtain ⟨a, _, rfl⟩ := List.mem_map.mp h
    exact ⟨_, _, rfl⟩) fun a => by simp [toP, toPs, ipD, PyData.depth, PyData.depthAll]
theorem c_srtIM (g : Gd X N sc k) {f : α → Int} : CaN X (.builtin "sorted") [.lst (as.map fun a => .int (f a))] (.lst ((srtI (as.map f)).map D.int)) := by
  have h := c_srtI g (ns := as.map f)
  rw [List.map_map] at h
  exact h
theorem c_srtSM (g : Gd X N sc k) {f : α → Str} : CaN X (.builtin "sorted") [.lst (as.map fun a => .str (f a))] (.lst ((srtS (as.map f)).map D.str)) := by
  have h := c_srtS g (ns := as.map f)
  rw [List.map_map] at h
  exact h
theorem c_srtPM (g : Gd X N sc k) {f : α → Str} {f2 : α → Int} : CaN X (.builtin "sorted") [.lst (as.map fun a => .tup [.str (f a), .int (f2 a)])] (.lst ((srtP (as.map fun a => (f a, f2 a))).map pD)) := by
  have h := c_srtP g (ns := as.map fun a => (f a, f2 a))
  rw [List.map_map] at h
  exact h
theorem c_srtISM (g : Gd X N sc k) {f : α → Int} {f2 : α → Str} : CaN X (.builtin "sorted") [.lst (as.map fun a => .tup [.int (f a), .str (f2 a)])] (.lst ((srtIS (as.map fun a => (f a, f2 a))).map ipD)) := by
  have h := c_srtIS g (ns := as.map fun a => (f a, f2 a))
  rw [List.map_map] at h
  exact h
/-- sorted(xs, reverse=True), ints -/
def revS (ns : List Int) : List Int := ns.mergeSort fun a b => decide (b ≤ a)
theorem revS_perm (ns : List Int) : (revS ns).Perm ns := List.mergeSort_perm _ _
theorem revS_ord (ns : List Int) : (revS ns).Pairwise (fun a b => b ≤ a) := by
  have h := List.pairwise_mergeSort (le := fun a b : Int => decide (b ≤ a)) (fun a b c h1 h2 => by
    simp only [decide_eq_true_eq] at h1 h2 ⊢
    omega) (fun a b => by
    simp only [Bool.or_eq_true, decide_eq_true_eq]
    omega) ns
  exact h.imp fun h => by simpa using h
theorem revS_one {ns ms : List Int} (hp : ms.Perm ns) (ho : ms.Pairwise (· ≥ ·)) : ms = revS ns :=
  List.Perm.eq_of_pairwise (le := fun a b : Int => b ≤ a) (fun a b _ _ h1 h2 => by omega) (ho.imp fun h => h) (revS_ord ns) (hp.trans (revS_perm ns).symm)
theorem n_srtRev {kc : Nat} {pc pk : Pos} (g : Gd X N sc k) {f : α → Int} (h : SemV X e ρ (.lst (as.map fun a => .int (f a)))) (hm : X.mg "sorted" = none) (hg : glB sc "sorted" = true := by rfl)
    (he : backTo pos (starEach [e] X.env) = (false, eval e X.env) :: backTo pos (starEach [] X.env) := by rfl) (hpl : (backTo pos (starEach [e] X.env)).any (·.1) = false := by rfl)
    (hall : (backToKw pos (keywordEach [⟨some "reverse", .Constant (.bool true) kc pc, pk⟩] X.env)).all (·.1.isSome) = true := by rfl) (hnone : (backToKw pos (keywordEach [⟨some "reverse", .Constant (.bool true) kc pc, pk⟩] X.env)).any (·.1.isNone) = false := by rfl)
    (hks : (backToKw pos (keywordEach [⟨some "reverse", .Constant (.bool true) kc pc, pk⟩] X.env)).filterMap (·.1) = [Str.ofString "reverse"] := by rfl)
    (hse : starEach [e] X.env = (false, eval e X.env) :: starEach [] X.env := by rfl) : SemN X (.Call (.Name "sorted" p1) [e] [⟨some "reverse", .Constant (.bool true) kc pc, pk⟩] pos) ρ (.lst ((revS (as.map f)).map D.int)) := fun σ F H Q fz s q => by
  have hc := cr_sortedRev (X := X) (b := true)
  refine peR (pe_callBK hc (gl_of g hg) hm (by decide +kernel) (pa_cons peS pa_nil hse) (pk_cons pe_bl pk_nil) (by decide) (by decide) he hpl hall hnone hks) (h σ F H _ fz s fun v F1 H1 t1 r1 => ?_)
  obtain ⟨p, xs, ev, hr, z⟩ := r1
  subst ev
  have ez := z.intsM
  subst ez
  refine ⟨p, _, rfl, rfl, .inl hr.1, fun ns' c hp ho hc => ?_⟩
  have e := revS_one hp ho
  subst e
  exact q c _ F1 _ (t1.trans (Step.fresh t1.fz hc)) (t1.back hc) (t1.fz.none hc) upd_same (Reps.mk (f := D.int) (g := V.int) (fun a => rfl) _)
/-- sorted(d) -/
theorem c_srtD (g : Gd X N sc k) {kvs : List (Str × Int)} {zs : List Str} (hl : kvs.length < 64) (hz : ∀ ys : List Str, ys.Perm (kvs.map (·.1)) → sortedS ys = true → ys = zs) : CaN X (.builtin "sorted") [.dct kvs] (.lst (zs.map D.str)) := ⟨_, call_sortedD g.calm, fun F H vs Q f r q => by
  obtain ⟨v, e, p, ev, h⟩ := pv1 r
  subst e ev
  refine ⟨p, _, kvs.map (·.1), rfl, h, ?_, by rw [List.length_map]; exact hl, fun ys c hp hs hc => ?_⟩
  · unfold kvI
    rw [List.map_map, List.map_map]
    rfl
  · rw [hz ys hp hs]
    exact q c _ F _ (Step.fresh f hc) hc (f.none hc) upd_same (Reps.mk (f := D.str) (g := V.str) (fun a => rfl) _)⟩
/-! ### x in (a, b); join; is None -/
theorem inV_strs (z : Str) : ∀ ys : List Str, inV (.str z) (ys.map V.str) = ys.any fun y => decide (y = z)
  | [] => rfl
  | y :: r => by
    have ih := inV_strs z r
    unfold inV at ih ⊢
    rw [List.map_cons, List.any_cons, List.any_cons, ih]
    have e : eqV (.str y) (.str z) = decide (y = z) := by
      show (y == z) = _
      rw [Bool.eq_iff_iff]
      simp
    rw [e]
/-- z in (a, b, ..), texts -/
theorem f_inS {z : Str} {ys : List Str} {a : Expr} (ha : SemV X a ρ (.str z)) (hb : SemF X e ρ (.tup (ys.map D.str))) (hm : behindInMarks .In e = false := by with_unfolding_all rfl) : SemF X (.Compare a [.In] [e] pos) ρ (.bl (ys.any fun y => decide (y = z))) := fun σ F H Q f s q =>
  peR (pe_cmpR op_in_seq peS peS hm) (ha σ F H _ f s fun vx F1 H1 t1 r1 => hb σ F1 H1 _ t1.fz (s.step t1) fun vy F2 H2 t2 r2 => by
    obtain ⟨p, xs, o, ev, hp, _, zz⟩ := Rep.vl t2.fz r2
    have ez := zz.strs
    subst ez
    refine ⟨p, _, ev, .inr (.inl (.inr ⟨o, hp⟩)), by rw [show vx = _ from r1]; rfl, ?_, ?_⟩
    · rw [List.all_map]
      exact List.all_eq_true.mpr fun _ _ => rfl
    · rw [show vx = _ from r1, if_neg Bool.false_ne_true, inV_strs]
      exact q _ F2 H2 (t1.trans t2) rfl)
theorem t_inS {z : Str} {ys : List Str} {a : Expr} (ha : SemV X a ρ (.str z)) (hb : SemF X e ρ (.tup (ys.map D.str))) (hm : behindInMarks .In e = false := by with_unfolding_all rfl) : SemT X (.Compare a [.In] [e] pos) ρ (ys.any fun y => decide (y = z)) := fun σ F H Q f s q =>
  ptR (pt_cmpR op_in_seq peS peS hm) (ha σ F H _ f s fun vx F1 H1 t1 r1 => hb σ F1 H1 _ t1.fz (s.step t1) fun vy F2 H2 t2 r2 => by
    obtain ⟨p, xs, o, ev, hp, _, zz⟩ := Rep.vl t2.fz r2
    have ez := zz.strs
    subst ez
    refine ⟨p, _, ev, .inr (.inl (.inr ⟨o, hp⟩)), by rw [show vx = _ from r1]; rfl, ?_, ?_⟩
    · rw [List.all_map]
      exact List.all_eq_true.mpr fun _ _ => rfl
    · rw [show vx = _ from r1, if_neg Bool.false_ne_true, inV_strs]
      exact ⟨_, rfl, q F2 H2 (t1.trans t2)⟩)
/-- sep.join(xs) -/
theorem f_join {sep : Expr} {z : Str} {ys : List Str} (hs : SemV X sep ρ (.str z)) (h : SemV X e ρ (.lst (ys.map D.str))) (hl : (ys.map (·.length)).sum + ys.length * z.length ≤ 16777216) (hst : starEach [e] X.env = [(false, eval e X.env)] := by rfl)
    (hbase : attributeBase sep "join" X.env (eval sep X.env) = eval sep X.env := by rfl) (hline : (p1.endLine == pos.line) = true := by rfl) : SemF X (.Call (.Attribute sep "join" p1) [e] [] pos) ρ (.str (Txt.join z ys)) := fun σ F H Q f s q =>
  peR (pe_join peS peS hst hbase hline) (hs σ F H _ f s fun v F1 H1 t1 r1 => ⟨⟨z, r1⟩, h σ F1 H1 _ t1.fz (s.step t1) fun w F2 H2 t2 r2 => by
    obtain ⟨p, xs, ev, hr, zz⟩ := r2
    subst ev
    have ez := zz.strs
    subst ez
    exact ⟨z, p, ys, r1, rfl, .inl (.inl hr.1), hl, q _ F2 H2 (t1.trans t2) rfl⟩⟩)
end
/-! ### the module's dict -/
section
variable {X : Cx} {N : List Str} {sc : Scope} {k : Nat} {ρ : List SV} {pos p1 : Pos} {a : Expr} {z : Str} {n : Int}
theorem f_notInSz (g : Gd X N sc k) (T : Top X.K X.w X.mg) (h : SemV X a ρ (.str z)) (hz : (z, n) ∈ sizT) (hg : glB sc "SIZES" = true := by rfl) (hm : behindInMarks .NotIn (.Name "SIZES" p1) = false := by with_unfolding_all rfl) :
    SemF X (.Compare a [.NotIn] [.Name "SIZES" p1] pos) ρ (.bl false) := fun σ F H Q f s q => by
  obtain ⟨d, es, m, e, D, hv⟩ := T.siz
  obtain ⟨u, e2, r2⟩ := hv _ hz
  exact peR (pe_cmpR (op_notIn_kd D) peS (pe_glob (gl_of g hg) e (v := .ref d) rfl (by decide)) hm) (h σ F H _ f s fun v F1 H1 t1 r1 => ⟨z, some u, r1, rfl, e2, q _ F1 H1 t1 rfl⟩)
theorem t_notInSz (g : Gd X N sc k) (T : Top X.K X.w X.mg) (h : SemV X a ρ (.str z)) (hz : (z, n) ∈ sizT) (hg : glB sc "SIZES" = true := by rfl) (hm : behindInMarks .NotIn (.Name "SIZES" p1) = false := by with_unfolding_all rfl) :
    SemT X (.Compare a [.NotIn] [.Name "SIZES" p1] pos) ρ false := fun σ F H Q f s q => by
  obtain ⟨d, es, m, e, D, hv⟩ := T.siz
  obtain ⟨u, e2, r2⟩ := hv _ hz
  exact ptR (pt_cmpR (op_notIn_kd D) peS (pe_glob (gl_of g hg) e (v := .ref d) rfl (by decide)) hm) (h σ F H _ f s fun v F1 H1 t1 r1 => ⟨z, some u, r1, rfl, e2, false, rfl, q F1 H1 t1⟩)
theorem f_ixSz (g : Gd X N sc k) (T : Top X.K X.w X.mg) (h : SemV X a ρ (.str z)) (hz : (z, n) ∈ sizT) (hg : glB sc "SIZES" = true := by rfl) (hs : PlainIx a := by exact fun _ _ => rfl) :
    SemF X (.Subscript (.Name "SIZES" p1) a pos) ρ (.int n) := fun σ F H Q f s q => by
  obtain ⟨d, es, m, e, D, hv⟩ := T.siz
  obtain ⟨u, e2, r2⟩ := hv _ hz
  exact peR (pe_ix ix_kdict (pe_glob (gl_of g hg) e (v := .ref d) rfl (by decide)) peS hs) (h σ F H _ f s fun v F1 H1 t1 r1 => ⟨d, z, .int n, rfl, r1, ⟨es, m, u, D.at_, D.lit, e2, r2⟩, q _ F1 H1 t1 rfl⟩)
end
end KD

set_option Elab.async false
set_option linter.all false
set_option maxRecDepth 100000
/-! Sem: what the defs compute. -/
namespace KD
open PySem PySem.Spec PyProof.Rows L2
local instance : Vol := volNone
structure Sk where
  room : Int
  many : Int
  off : Int
  kept : List (Str × Int)
def skD (s : Sk) : D := .tup [.int s.room, .int s.many, .int s.off, .tup (s.kept.map pD)]
/-- a name that the checks pass -/
def NameOk (x : Str) : Prop := 1 ≤ x.length ∧ x.length ≤ 8 ∧ ∀ c ∈ x.cps.toList, c ∈ ("abcdefghijklmnopqrstuvwxyz" : Str).cps.toList
def AscS (xs : List Str) : Prop := xs.Pairwise fun a b => strLt a b = true
def CountsOk (ps : List (Str × Int)) : Prop := (∀ p ∈ ps, NameOk p.1 ∧ 1 ≤ p.2) ∧ AscS (ps.map (·.1)) ∧ ps.length ≤ 1000
def lostL (s : Sk) : Int := s.many - (s.kept.map fun z => z.2).sum
structure SkOk (s : Sk) : Prop where
  r1 : 1 ≤ s.room
  r3 : s.room ≤ 3
  m0 : 0 ≤ s.many
  m1 : s.many ≤ 1500
  o0 : 0 ≤ s.off
  o2 : s.off ≤ 2
  co : CountsOk s.kept
  kl : (s.kept.length : Int) ≤ s.room
  l1 : (s.room + 1) * s.off ≤ lostL s
  l2 : lostL s ≤ 2 * s.room * s.off
theorem atI_getD {xs : List Str} {x : Nat} (h : x < xs.length) : atI xs (x : Int) = some (xs.getD x "") := by
  unfold atI ixN
  rw [if_pos (by omega), if_pos (by omega)]
  show xs[(x : Int).toNat]? = _
  rw [Int.toNat_natCast, List.getElem?_eq_getElem h, List.getD_eq_getElem?_getD, List.getElem?_eq_getElem h]
  rfl
theorem atI_getD1 {xs : List Str} {x : Nat} (h : x + 1 < xs.length) : atI xs ((x : Int) + 1) = some (xs.getD (x + 1) "") := atI_getD h
theorem asc_all {xs : List Str} (h : AscS xs) : ((List.range ((xs.length : Int) - 1).toNat).all fun z => strLt (xs.getD z "") (xs.getD (z + 1) "")) = true := by
  rw [List.all_eq_true]
  intro i hi
  have hi := List.mem_range.mp hi
  have h1 : i < xs.length := by omega
  have h2 : i + 1 < xs.length := by omega
  rw [List.getD_eq_getElem?_getD, List.getD_eq_getElem?_getD, List.getElem?_eq_getElem h1, List.getElem?_eq_getElem h2]
  exact List.pairwise_iff_getElem.mp h i (i + 1) h1 h2 (Nat.lt_succ_self i)
theorem name_b {x : Str} (h : NameOk x) : (true && ((decide (1 ≤ (x.length : Int)) && decide ((x.length : Int) ≤ 8)) && (x.cps.toList.all fun z => decide (z ∈ ("abcdefghijklmnopqrstuvwxyz" : Str).cps.toList)))) = true := by
  obtain ⟨h1, h2, h3⟩ := h
  simp only [Bool.true_and, Bool.and_eq_true, decide_eq_true_eq, List.all_eq_true]
  exact ⟨⟨by omega, by omega⟩, h3⟩
theorem strLt_irr (x : Str) : strLt x x = false := decide_eq_false (List.lt_irrefl _)
theorem AscS.nd {xs : List Str} (h : AscS xs) : xs.Nodup := List.Pairwise.imp (fun {a b} h e => by
  subst e
  rw [strLt_irr] at h
  cases h) h
theorem foldl_take {α β : Type} {f : β → α → β} {a : β} {xs : List α} {i : Nat} {x : α} (h : xs[i]? = some x) : (xs.take (i + 1)).foldl f a = f ((xs.take i).foldl f a) x := by
  rw [List.take_add_one, h, List.foldl_append]
  rfl
theorem take_snoc {α : Type} {xs : List α} {i : Nat} {x : α} (h : xs[i]? = some x) : xs.take (i + 1) = xs.take i ++ [x] := by
  rw [List.take_add_one, h]
  rfl
theorem dgo_put {kvs : List (Str × Int)} {k k' : Str} {v : Int} : dgo (putI kvs k v) k' = if k = k' then some v else dgo kvs k' := by
  unfold putI
  by_cases h : (kvs.any fun q => decide (q.1 = k)) = true
  · rw [if_pos h]
    induction kvs with
    | nil => simp at h
    | cons q r ih =>
      rw [List.map_cons, dgo_cons, dgo_cons]
      by_cases hq : q.1 = k
      · rw [if_pos hq]
        by_cases e : k = k'
        · rw [if_pos (hq.trans e), if_pos e]
        · rw [if_neg fun z => e (hq.symm.trans z), if_neg fun z => e (hq.symm.trans z), if_neg e]
          by_cases h' : (r.any fun q => decide (q.1 = k)) = true
          · rw [ih h', if_neg e]
          · have hm : ∀ q ∈ r, q.1 ≠ k := fun q hq z => h' (List.any_eq_true.mpr ⟨q, hq, decide_eq_true z⟩)
            have e1 : r.map (fun q => if q.1 = k then (q.1, v) else q) = r := by
              have := List.map_congr_left (f := fun q : Str × Int => if q.1 = k then (q.1, v) else q) (g := id) fun q hq => if_neg (hm q hq)
              rw [this, List.map_id]
            rw [e1]
      · rw [if_neg hq]
        have h' : (r.any fun q => decide (q.1 = k)) = true := by
          rw [List.any_cons, decide_eq_false hq, Bool.false_or] at h
          exact h
        by_cases e : q.1 = k'
        · rw [if_pos e, if_pos e, if_neg fun z => hq (e.trans z.symm)]
        · rw [if_neg e, if_neg e, ih h']
  · rw [if_neg h]
    have hm : ∀ q ∈ kvs, q.1 ≠ k := fun q hq z => h (List.any_eq_true.mpr ⟨q, hq, decide_eq_true z⟩)
    clear h
    induction kvs with
    | nil => rw [List.nil_append, dgo_cons, dgo_nil]
    | cons q r ih =>
      rw [List.cons_append, dgo_cons, dgo_cons, ih fun q hq => hm q (List.mem_cons_of_mem _ hq)]
      by_cases e : q.1 = k'
      · rw [if_pos e, if_pos e, if_neg fun z => hm q List.mem_cons_self (e.trans z.symm)]
      · rw [if_neg e, if_neg e]
def letterS (n : Nat) : Str := ⟨#[97 + n]⟩
theorem sign_at : ∀ n : Nat, n < 26 → atI ("abcdefghijklmnopqrstuvwxyz" : Str).cps.toList ((n : Int) % 26) = some (97 + n) := by decide +kernel
def candN (ks : List Str) (n : Nat) : List Str := ((List.range n).map letterS).filter fun x => !decide (x ∈ ks)
theorem candN_succ (ks : List Str) (n : Nat) : candN ks (n + 1) = candN ks n ++ (if letterS n ∈ ks then [] else [letterS n]) := by
  unfold candN
  rw [List.range_succ, List.map_append, List.filter_append]
  congr 1
  by_cases h : letterS n ∈ ks
  · simp [h]
  · simp [h]
/-- counts added one behind another -/
def addAll (d : List (Str × Int)) (ts : List (Str × Int)) : List (Str × Int) := ts.foldl (fun d t => putI d t.1 ((dgo d t.1).getD 0 + t.2)) d
def leftL (l : Int) (ts : List (Str × Int)) : Int := ts.foldl (fun a t => a - t.2) l
def fillT (size : Int) (d : List (Str × Int) × Int) (ns : List Str) : List (Str × Int) × Int := ns.foldl (fun d n => (putI d.1 n (min size d.2), d.2 - min size d.2)) d
def ddS (xs : List Str) : List Str := xs.foldl (fun acc k => if k ∈ acc then acc else acc ++ [k]) []
theorem join1 (x : Str) : Txt.join "" [x] = x := rfl
/-- the walk of truth_with -/
def twNew (told : List (Str × Int)) (size left : Int) (barred : List Str) (n : Nat) : List (Str × Int) := (fillT size (told, left) (candN (ddS (barred ++ told.map (·.1))) n)).1
theorem putI_len (kvs : List (Str × Int)) (k : Str) (v : Int) : (putI kvs k v).length ≤ kvs.length + 1 := by
  unfold putI
  split
  · rw [List.length_map]
    omega
  · rw [List.length_append, List.length_singleton]
    omega
theorem addAll_len (d ts : List (Str × Int)) : (addAll d ts).length ≤ d.length + ts.length := by
  unfold addAll
  induction ts generalizing d with
  | nil => exact Nat.le_refl _
  | cons t r ih =>
    rw [List.foldl_cons, List.length_cons]
    refine Nat.le_trans (ih _) ?_
    have := putI_len d t.1 ((dgo d t.1).getD 0 + t.2)
    omega
theorem fillT_len (size : Int) (d : List (Str × Int) × Int) (ns : List Str) : (fillT size d ns).1.length ≤ d.1.length + ns.length := by
  unfold fillT
  induction ns generalizing d with
  | nil => exact Nat.le_refl _
  | cons t r ih =>
    rw [List.foldl_cons, List.length_cons]
    refine Nat.le_trans (ih _) ?_
    have := putI_len d.1 t (min size d.2)
    show (putI d.1 t (min size d.2)).length + r.length ≤ _
    omega
theorem candN_len (ks : List Str) (n : Nat) : (candN ks n).length ≤ n := by
  unfold candN
  refine Nat.le_trans (List.length_filter_le _ _) ?_
  rw [List.length_map, List.length_range]
  exact Nat.le_refl _
theorem take_len {α : Type} (xs : List α) (i : Nat) : (xs.take i).length ≤ xs.length := List.length_take_le' i xs
theorem putI_keys (kvs : List (Str × Int)) (k : Str) (v : Int) : (putI kvs k v).map (·.1) = if k ∈ kvs.map (·.1) then kvs.map (·.1) else kvs.map (·.1) ++ [k] := by
  unfold putI
  have e : (kvs.any fun q => decide (q.1 = k)) = decide (k ∈ kvs.map (·.1)) := by
    rw [Bool.eq_iff_iff, List.any_eq_true, decide_eq_true_eq, List.mem_map]
    constructor
    · rintro ⟨p, hp, h⟩
      exact ⟨p, hp, of_decide_eq_true h⟩
    · rintro ⟨p, hp, h⟩
      exact ⟨p, hp, decide_eq_true h⟩
  rw [e]
  by_cases h : k ∈ kvs.map (·.1)
  · rw [if_pos (decide_eq_true h), if_pos h, List.map_map]
    refine List.map_congr_left fun q _ => ?_
    show (if q.1 = k then (q.1, v) else q).1 = q.1
    split <;> rfl
  · rw [if_neg (by rw [decide_eq_true_eq]; exact h), if_neg h, List.map_append]
    rfl
theorem putI_nd {kvs : List (Str × Int)} (k : Str) (v : Int) (h : (kvs.map (·.1)).Nodup) : ((putI kvs k v).map (·.1)).Nodup := by
  rw [putI_keys]
  split
  · exact h
  · rename_i hk
    rw [List.nodup_append]
    exact ⟨h, by simp, fun a ha b hb e => hk (by rw [← List.mem_singleton.mp hb, ← e]; exact ha)⟩
theorem addAll_nd {d : List (Str × Int)} (ts : List (Str × Int)) (h : (d.map (·.1)).Nodup) : ((addAll d ts).map (·.1)).Nodup := by
  unfold addAll
  induction ts generalizing d with
  | nil => exact h
  | cons t r ih =>
    rw [List.foldl_cons]
    exact ih (putI_nd _ _ h)
theorem fillT_nd (size : Int) {d : List (Str × Int) × Int} (ns : List Str) (h : (d.1.map (·.1)).Nodup) : ((fillT size d ns).1.map (·.1)).Nodup := by
  unfold fillT
  induction ns generalizing d with
  | nil => exact h
  | cons t r ih =>
    rw [List.foldl_cons]
    exact ih (putI_nd _ _ h)
/-- what truth_with hands back -/
def twL (s : Sk) (taken : List (Str × Int)) (size : Int) (barred : List Str) (n : Nat) : List (Str × Int) :=
  let told := addAll s.kept taken
  let left := leftL (lostL s) taken
  let t := if decide (0 < left) = true then twNew told size left barred n else told
  srtP ((t.filter fun z => decide (0 < z.2)).map fun z => (z.1, z.2))
/-! paper -/
inductive Stp where
  | stream (ns : List Str) | pour
def stpD : Stp → D
  | .stream ns => .tup [.str "stream", .tup (ns.map .str)]
  | .pour => .tup [.str "pour"]
def repL (ps : List (Str × Int)) : List Str := ps.foldl (fun acc p => acc ++ List.replicate p.2.toNat p.1) []
theorem repL_from (ps : List (Str × Int)) : ∀ acc : List Str, ps.foldl (fun acc p => acc ++ List.replicate p.2.toNat p.1) acc = acc ++ repL ps := by
  unfold repL
  induction ps with
  | nil => exact fun acc => (List.append_nil _).symm
  | cons p r ih =>
    intro acc
    rw [List.foldl_cons, List.foldl_cons, ih, ih ([] ++ _), List.nil_append, List.append_assoc]
theorem repL_app (a b : List (Str × Int)) : repL (a ++ b) = repL a ++ repL b := by
  show (a ++ b).foldl _ [] = _
  rw [List.foldl_append, repL_from]
  rfl
theorem repL_take_len (ps : List (Str × Int)) (i : Nat) : (repL (ps.take i)).length ≤ (repL ps).length := by
  have h := repL_app (ps.take i) (ps.drop i)
  rw [List.take_append_drop] at h
  rw [h, List.length_append]
  omega
theorem repL_mem {ps : List (Str × Int)} {p : Str × Int} (h : p ∈ ps) : p.2.toNat ≤ (repL ps).length := by
  obtain ⟨a, b, rfl⟩ := List.append_of_mem h
  have e : p :: b = [p] ++ b := rfl
  rw [e, repL_app, repL_app]
  have e2 : repL [p] = [] ++ List.replicate p.2.toNat p.1 := rfl
  rw [e2, List.length_append, List.length_append, List.length_append, List.length_replicate]
  omega
def layerS (room : Int) (ns : List Str) : List Stp := [.stream (cutA ns none (some room)), .stream (cutA ns (some room) none), .pour]
/-- the rows: every off-th of the sequence -/
def layL (off : Nat) (seq : List Str) : List (List Str) := (List.range off).map fun j => (seq.zipIdx.filter fun q => decide (q.2 % off = j)).map (·.1)
def paperS (s : Sk) (lays : List (List Str)) : List Stp := lays.foldl (fun acc ns => acc ++ layerS s.room ns ++ [.pour]) [.stream (repL s.kept)]
end KD

set_option Elab.async false
set_option linter.all false
set_option maxRecDepth 100000
set_option maxHeartbeats 2000000
/-! KD11: {name: True for name in ..}. -/
namespace KD
open PySem PySem.Spec PyProof.Rows L2
variable [Vol]
theorem kvB_put (ks : List Str) (x : Str) : putK (kvB ks) (Sum.inr x : Key) (.bl true) = kvB (if x ∈ ks then ks else ks ++ [x]) := by
  unfold putK
  have e : ((kvB ks).any fun kv => decide (kv.1 = (Sum.inr x : Key))) = decide (x ∈ ks) := by
    rw [Bool.eq_iff_iff, List.any_eq_true, decide_eq_true_eq]
    constructor
    · rintro ⟨p, hp, h⟩
      unfold kvB at hp
      obtain ⟨k, hk, rfl⟩ := List.mem_map.mp hp
      have h := of_decide_eq_true h
      exact (Sum.inr.inj h) ▸ hk
    · intro h
      exact ⟨_, List.mem_map.mpr ⟨x, h, rfl⟩, decide_eq_true rfl⟩
  rw [e]
  by_cases h : x ∈ ks
  · rw [if_pos (decide_eq_true h), if_pos h]
    unfold kvB
    rw [List.map_map]
    refine List.map_congr_left fun k _ => ?_
    show (if (Sum.inr k : Key) = Sum.inr x then _ else _) = _
    split <;> rfl
  · rw [if_neg (by rw [decide_eq_true_eq]; exact h), if_neg h]
    unfold kvB
    rw [List.map_append]
    rfl
theorem ddS_len (xs : List Str) : (ddS xs).length ≤ xs.length := by
  have : ∀ (xs acc : List Str), (xs.foldl (fun acc k => if k ∈ acc then acc else acc ++ [k]) acc).length ≤ acc.length + xs.length := fun xs => by
    induction xs with
    | nil => exact fun acc => Nat.le_refl _
    | cons x r ih =>
      intro acc
      rw [List.foldl_cons, List.length_cons]
      refine Nat.le_trans (ih _) ?_
      split
      · omega
      · rw [List.length_append, List.length_singleton]
        omega
  have h := this xs []
  rw [List.length_nil, Nat.zero_add] at h
  exact h
section
variable {X : Cx} {N : List Str} {sc scope : Scope} {k : Nat} {ρ : List SV} {pos p1 p2 p3 : Pos} {kk : Nat} {xs : List Str} {iter : Expr} {x : Str}
/-- name = {..: .. for ..} on one line, the name a local (as HandS.Comp's ps_setLc) -/
theorem sw_trueD {kx vx : Expr} {gs : List Comprehension} {scope : Scope} {pos py : Pos} {y : Str} {l : Nat} {env : Env} (hk : env.scope.kind = .function) (hy : env.scope.names.lookup y = some .local) (hl : (py.line == pos.line) = true)
    (ha : (scope.names.any fun (n, k) => n == y && (k == .local || k == .cell)) = false) : swapsWith (.DictComp kx vx gs scope pos) (some (.Name y py)) l env = pure true := by
  have ky : env.kindOf y = some .local := hy
  have hb : env.blockKind = .function := by unfold Env.blockKind; rw [hk]; rfl
  unfold swapsWith
  simp only [hb, ky, ha, Expr.pos, hl]
  rfl
theorem ps_setDc {i : Nat} {y : Str} {py : Pos} {kx vx tg iter : Expr} {ifs : List Expr} {scope : Scope} {own : List (Str × Nat)} {pos spos : Pos} {wi : TI} {g : TG} {tt : TT} {tk tv : TE} (hc : X.calm = true) (hN : X.N.Nodup) (hy : X.N[i]? = some y) (hyl : X.env.scope.names.lookup y = some .local)
    (hsw : swapsWith (.DictComp kx vx [⟨tg, iter, ifs, 0⟩] scope pos) (some (.Name y py)) spos.line X.env = pure true) (hi : PI X tg iter wi) (ok : BlkOk X.N X.env.scope scope own)
    (hg : ∀ (s : Shared) (H : Hp) (C : Addr) (cl : List (Str × Addr)) (fp : List Addr), PG (X.blk s H scope (compEnvC scope cl C X.env) fp) tg g) (ht : ∀ (s : Shared) (H : Hp) (C : Addr) (cl : List (Str × Addr)) (fp : List Addr), PTs (X.blk s H scope (compEnvC scope cl C X.env) fp) ifs tt)
    (hkx : ∀ (s : Shared) (H : Hp) (C : Addr) (cl : List (Str × Addr)) (fp : List Addr), PE (X.blk s H scope (compEnvC scope cl C X.env) fp) kx tk)
    (he : ∀ (s : Shared) (H : Hp) (C : Addr) (cl : List (Str × Addr)) (fp : List Addr), PE (X.blk s H scope (compEnvC scope cl C X.env) fp) vx tv) (hs : ∀ x, foldedSetIterable iter X.env x = pure x := by intro _; rfl) :
    PS X (.Assign [.Name y py] (.DictComp kx vx [⟨tg, iter, ifs, 0⟩] scope pos) spos) (tAsg (tDc wi g tt tk tv (own.map (·.2))) (gName i)) := by
  refine ⟨fun pins s σ H E I h => ?_⟩
  rw [exec_Assign_Name_used _ _ _ _ hsw]
  refine wpAny_bind (wpAny_standAt (wpAny_bind ?_))
  show wpAny _ X.A (do let _ ← comprehension (.DictComp kx vx [⟨tg, iter, ifs, 0⟩] scope pos) scope X.env (firstIterPos [⟨tg, iter, ifs, 0⟩] pos) newDict false (eval iter X.env) (some (assign (.Name y py) X.env))) _ _ s
  have h : tDc wi g tt tk tv (own.map (·.2)) σ H (fun x H1 => gName i x σ H1 E.nx) := h
  refine wpAny_bind (thn (dc_core (Qf := fun _ s' => SP X pins E .next s') hc hN I hi ok hg ht hkx he hs h fun L C s' m H' I' q hn f => ?_) fun _ s' hq => wpAny_pure (wpAny_pure hq))
  show wpAny _ _ (assign (.Name y py) X.env (.ref L)) _ _ _
  refine wpAny_assign_Name (store_ok2 (v := V.ref L) I' hN hy (.inl hyl) rfl (fun s2 I2 ⟨a, sb, ha⟩ => ?_) (.inr hyl))
  obtain ⟨f0, f1, f2, f3, f4, f5⟩ := f
  have haC : C ≠ a := by
    rcases ha with z | z
    · rw [z]; exact f1
    · exact fun e => f4 y a z e.symm
  refine ⟨m, hn.sameBut sb haC, fun h3 sb3 => ?_⟩
  exact ⟨_, H', I2.turned (t' := s2.toks) (fun b o hb e => (sb3.2 b hb).trans e) f0 f1 f3 f4 f5, q⟩
/-- {x: True for x in iter} -/
theorem dcB_go (g : Gd X N sc k) (j : Nat) {wi : TI} (hw : ∀ (σ : L2.St) (F H : Hp) (R : It → Hp → Prop), Fz F H → SOk ρ σ F H → (∀ J F1 H1, Step F H F1 H1 → Wlk J xs D.str F1 H1 → R J H1) → wi σ H R) (hl : xs.length ≤ 1000000) (hr : j < ρ.length) {σ : L2.St} {F H : Hp} {Q : VK} (f : Fz F H) (s : SOk ρ σ F H)
    (q : ∀ p o F' H', Step F H F' H' → H p = none → F' p = none → H' p = some o → IsO F' o (.dset (ddS xs)) → Q (.ref p) H') : tDc wi (gName j) tYes (tVar j) (fun _ H Q => Q (.bl true) H) [j] σ H Q := by
  refine hw σ F H _ f s fun J F1 H1 t1 w1 => ?_
  intro Dd hD
  refine ⟨fun i m H' => m = xs.length - i ∧ i ≤ xs.length ∧ ∃ F', Step F1 H1 F' H' ∧ F' Dd = none ∧ H' Dd = some (.dK (kvB (ddS (xs.take i)))), ⟨xs.length, by simp, Nat.zero_le _, F1, (Step.refl t1.fz).write hD (t1.fz.none hD), t1.fz.none hD, upd_same⟩, ?_⟩
  rintro i m H2 ⟨rfl, hi, F2, t2, hF2, hH2⟩
  obtain ⟨wgo, wstop⟩ := w1 F2 H2 t2
  by_cases e : i = xs.length
  · subst e
    rw [List.take_length] at hH2
    exact .inl ⟨wstop, q Dd _ F2 H2 (t1.trans t2) (t1.back hD) hF2 hH2 rfl⟩
  · have hlt : i < xs.length := by omega
    obtain ⟨y, hx⟩ : ∃ y, xs[i]? = some y := ⟨_, List.getElem?_eq_getElem hlt⟩
    obtain ⟨go, yl⟩ := wgo i y hx
    refine .inr ⟨go, fun H' => (i + 1 ≤ xs.length ∧ ∃ F', Step F1 H1 F' H' ∧ F' Dd = none ∧ H' Dd = some (.dK (kvB (ddS (xs.take (i + 1)))))), fun H' h' => ⟨xs.length - (i + 1), by omega, rfl, h'⟩, fun v H3 y3 => ?_⟩
    obtain ⟨e3, r3⟩ := yl v H3 y3
    subst e3
    have ev : v = .str y := r3
    subst ev
    refine ⟨by rw [wipe_set (by simp), wipe_wipe], ?_⟩
    unfold tYes
    simp only [if_true]
    refine ⟨.str y, ?_, ?_⟩
    · rw [List.getElem?_set_self]
      rw [wipe_length, s.len]
      exact hr
    · refine ⟨_, (Sum.inr y : Key), rfl, hH2, ?_, hlt, F2, t2.write hD hF2, hF2, ?_⟩
      · unfold kvB
        rw [List.length_map, sizeLine_eq]
        have h1 := ddS_len (xs.take i)
        have h2 := List.length_take_le i xs
        omega
      · rw [upd_same, kvB_put]
        unfold ddS
        rw [foldl_take hx]
theorem n_dcB (g : Gd X N sc k) (j : Nat) (hi : ItS X (.Name x p1) iter ρ xs D.str) (hl : xs.length ≤ 1000000) (ok : BlkOk N sc scope [(x, j)] := by exact blkOk_by (by decide +kernel)) (hj : N[j]? = some x := by rfl) (hlc : locD scope sc x = true := by rfl) (hr : j < ρ.length := by exact Nat.le_of_ble_eq_true rfl)
    (hv : visB (relS scope sc) x = true := by rfl) (hd : (x == ("__debug__" : Str)) = false := by decide) (hcd : (x == ("__classdict__" : Str)) = false := by decide) (hs : ∀ v, foldedSetIterable iter X.env v = pure v := by intro _; rfl) :
    SemN X (.DictComp (.Name x p2) (.Constant (.bool true) kk p3) [⟨.Name x p1, iter, [], 0⟩] scope pos) ρ (.dset (ddS xs)) := fun σ F H Q f s q => by
  obtain ⟨wi, hpi, hw⟩ := hi
  have okX : BlkOk X.N X.env.scope scope [(x, j)] := by rw [g.hN, g.hsc]; exact ok
  exact peR (pe_dc (tk := tVar j) (tv := fun _ H Q => Q (.bl true) H) (tt := tYes) (g := gName j) g.calm g.ndX hpi okX (pgb g j hj hlc) (fun _ _ _ _ _ => pts_nil) (fun s H C cl fp => pe_nm (g.blk scope s H C cl fp) hj hv hd hcd) (fun _ _ _ _ _ => pe_bl) hs) (dcB_go g j hw hl hr f s q)
theorem s_dcB {y : Str} {py spos : Pos} (g : Gf X N sc k) (i j : Nat) (hi : ItS X (.Name x p1) iter ρ xs D.str) (hl : xs.length ≤ 1000000) (ok : BlkOk N sc scope [(x, j)] := by exact blkOk_by (by decide +kernel)) (hj : N[j]? = some x := by rfl) (hlc : locD scope sc x = true := by rfl) (hr : j < ρ.length := by exact Nat.le_of_ble_eq_true rfl)
    (hv : visB (relS scope sc) x = true := by rfl) (hd : (x == ("__debug__" : Str)) = false := by decide) (hcd : (x == ("__classdict__" : Str)) = false := by decide) (hs : ∀ v, foldedSetIterable iter X.env v = pure v := by intro _; rfl)
    (hy : N[i]? = some y := by rfl) (hri : i < ρ.length := by exact Nat.le_of_ble_eq_true rfl) (hly : locB sc y = true := by rfl) (hk : sc.kind = .function := by rfl) (hl2 : (py.line == pos.line) = true := by rfl) (ha : (scope.names.any fun (n, k) => n == y && (k == .local || k == .cell)) = false := by rfl) :
    Do X (.Assign [.Name y py] (.DictComp (.Name x p2) (.Constant (.bool true) kk p3) [⟨.Name x p1, iter, [], 0⟩] scope pos) spos) ρ (.nx (ρ.set i (.ow (.dset (ddS xs))))) := fun F0 H0 σ F H E s q => by
  obtain ⟨wi, hpi, hw⟩ := hi
  have okX : BlkOk X.N X.env.scope scope [(x, j)] := by rw [g.g.hN, g.g.hsc]; exact ok
  exact psR (ps_setDc (tk := tVar j) (tv := fun _ H Q => Q (.bl true) H) (tt := tYes) (g := gName j) g.g.calm g.g.ndX (by rw [g.g.hN]; exact hy) (by rw [g.g.hsc]; exact loc_of hly) (sw_trueD (by rw [g.g.hsc]; exact hk) (by rw [g.g.hsc]; exact loc_of hly) hl2 ha) hpi okX (pgb g.g j hj hlc) (fun _ _ _ _ _ => pts_nil) (fun s H C cl fp => pe_nm (g.g.blk scope s H C cl fp) hj hv hd hcd) (fun _ _ _ _ _ => pe_bl) hs)
    (dcB_go g.g j hw hl hr s.st.fz s.ok fun p o F1 H1 t h0 hF hH r => q _ F1 H1 (s.setO t h0 hF hH r hri))
end
end KD

set_option Elab.async false
set_option linter.all false
set_option maxRecDepth 100000
set_option maxHeartbeats 2000000
namespace KD
open PySem PySem.Spec PyProof.Rows L2
local instance : Vol := volNone
section
variable {P : Program} {w : World} {K : PySem.W.Frag} {mg : Str → Option Value} {base : Heap}

def R_is_integer : List D → D → Prop := fun ds d => ∃ (i : Int), ds = [(.int i)] ∧ d = .bl true
theorem w_is_integer (T : Top K w mg) : Fn P w K mg base "is_integer" 1 R_is_integer := by
  refine fn_top T 8 ["thing"] ["thing"] (by decide) (by decide +kernel) (fun _ _ _ _ _ _ us hl => match us, hl with | [_], _ => rfl) (by rintro _ _ ⟨i, rfl, rfl⟩; rfl) ?_
  intro X gf eP ew eK em eb ds d hR
  subst eP ew eK em eb
  obtain ⟨i, rfl, rfl⟩ := hR
  have hsc := Eq.refl (defScope (top 8))
  conv at hsc => rhs; whnf
  rw [hsc] at gf
  have g := gf.g
  refine .inl (?_ : Dos X _ [.fz (.int i)] (.rt (.bl true)))
  exact s_out (s_last (s_ret (f_and (f_isi g (b := true) (T := "int") (((f_name g 0)).v) rfl (T.fr "isinstance") (T.fr "int")) fun h1 => (f_one (f_not (f_isi g (b := false) (T := "bool") (((f_name g 0)).v) rfl (T.fr "isinstance") (T.fr "bool"))))))) rfl
def R_is_between : List D → D → Prop := fun ds d => ∃ (i a b : Int), ds = [(.int i), (.int a), (.int b)] ∧ d = (.bl (true && (decide (a ≤ i) && decide (i ≤ b))))
theorem w_is_between (T : Top K w mg) : Fn P w K mg base "is_between" 2 R_is_between := by
  refine fn_top T 9 ["thing", "least", "most"] ["thing", "least", "most"] (by decide) (by decide +kernel) (fun _ _ _ _ _ _ us hl => match us, hl with | [_, _, _], _ => rfl) (by rintro _ _ ⟨i, a, b, rfl, rfl⟩; rfl) ?_
  intro X gf eP ew eK em eb ds d hR
  subst eP ew eK em eb
  obtain ⟨i, a, b, rfl, rfl⟩ := hR
  have hsc := Eq.refl (defScope (top 9))
  conv at hsc => rhs; whnf
  rw [hsc] at gf
  have g := gf.g
  refine .inl (?_ : Dos X _ [.fz (.int i), .fz (.int a), .fz (.int b)] (.rt (.bl (true && (decide (a ≤ i) && decide (i ≤ b))))))
  exact s_last (s_ret (f_and (f_call g (d := (.bl true)) (w_is_integer T) (by decide) (a_cons (f_name g 0) a_nil) ⟨_, rfl, rfl⟩) fun h1 => (f_one (f_chain o_le (fun h2 => o_le) (((f_name g 1)).v) (((f_name g 0)).v) (((f_name g 2)).v) (d' := ⟨_, op_le⟩)))))
def R_is_count : List D → D → Prop := fun ds d => ∃ (i : Int), ds = [(.int i)] ∧ d = (.bl (true && (decide (0 ≤ i))))
theorem w_is_count (T : Top K w mg) : Fn P w K mg base "is_count" 2 R_is_count := by
  refine fn_top T 10 ["thing"] ["thing"] (by decide) (by decide +kernel) (fun _ _ _ _ _ _ us hl => match us, hl with | [_], _ => rfl) (by rintro _ _ ⟨i, rfl, rfl⟩; rfl) ?_
  intro X gf eP ew eK em eb ds d hR
  subst eP ew eK em eb
  obtain ⟨i, rfl, rfl⟩ := hR
  have hsc := Eq.refl (defScope (top 10))
  conv at hsc => rhs; whnf
  rw [hsc] at gf
  have g := gf.g
  refine .inl (?_ : Dos X _ [.fz (.int i)] (.rt (.bl (true && (decide (0 ≤ i))))))
  exact s_last (s_ret (f_and (f_call g (d := (.bl true)) (w_is_integer T) (by decide) (a_cons (f_name g 0) a_nil) ⟨_, rfl, rfl⟩) fun h1 => (f_one (f_cmp o_ge (((f_name g 0)).v) ((f_int).v)))))
def R_is_tuple_of : List D → D → Prop := fun ds d => ∃ (xs : List D) (n : Int), ds = [(.tup xs), (.int n)] ∧ d = (.bl (true && (decide ((xs.length : Int) = n))))
theorem w_is_tuple_of (T : Top K w mg) : Fn P w K mg base "is_tuple_of" 1 R_is_tuple_of := by
  refine fn_top T 11 ["thing", "many"] ["thing", "many"] (by decide) (by decide +kernel) (fun _ _ _ _ _ _ us hl => match us, hl with | [_, _], _ => rfl) (by rintro _ _ ⟨xs, n, rfl, rfl⟩; rfl) ?_
  intro X gf eP ew eK em eb ds d hR
  subst eP ew eK em eb
  obtain ⟨xs, n, rfl, rfl⟩ := hR
  have hsc := Eq.refl (defScope (top 11))
  conv at hsc => rhs; whnf
  rw [hsc] at gf
  have g := gf.g
  refine .inl (?_ : Dos X _ [.fz (.tup xs), .fz (.int n)] (.rt (.bl (true && (decide ((xs.length : Int) = n))))))
  exact s_last (s_ret (f_and (f_isi g (b := true) (T := "tuple") (((f_name g 0)).v) rfl (T.fr "isinstance") (T.fr "tuple")) fun h1 => (f_one (f_cmp o_eqI (((f_callB g c_lenT (T.fr "len") (av_cons (((f_name g 0)).v) av_nil))).v) (((f_name g 1)).v)))))
def R_are_ascendingtup : List D → D → Prop := fun ds d => ∃ (xs : List Str), (AscS xs ∧ xs.length ≤ 1000) ∧ ds = [(.tup (xs.map D.str))] ∧ d = .bl true
theorem w_are_ascendingtup (T : Top K w mg) : Fn P w K mg base "are_ascending" 1 R_are_ascendingtup := by
  refine fn_top T 12 ["things", "at"] ["things"] (by decide) (by decide +kernel) (fun _ _ _ _ _ _ us hl => match us, hl with | [_], _ => rfl) (by rintro _ _ ⟨xs, hp, rfl, rfl⟩; rfl) ?_
  intro X gf eP ew eK em eb ds d hR
  subst eP ew eK em eb
  obtain ⟨xs, hp, rfl, rfl⟩ := hR
  have hsc := Eq.refl (defScope (top 12))
  conv at hsc => rhs; whnf
  rw [hsc] at gf
  have g := gf.g
  obtain ⟨ha, hl⟩ := hp
  refine .inl (?_ : Dos X _ [.fz (.tup (xs.map D.str)), .un] (.rt (.bl true)))
  exact s_out (s_last (s_ret (f_callB g (c_all g) (T.fr "all") (av_cons (((LcS.n (lc_G g (xs := List.range ((xs.length : Int) - 1).toNat) (own := [("at", 1)]) (out := (fun x1 => (.bl (strLt (xs.getD x1 "") (xs.getD (x1 + 1) ""))))) (ItS.g (it_rng g (((f_op o_sub (((f_callB g c_lenTM (T.fr "len") (av_cons (((f_name g 0)).v) av_nil))).v) ((f_int).v))).v) (by omega) (by omega) (T.fr "range"))) (blkOk_by (by decide +kernel)) (pgb g 1) (fun _ _ => tg_name 1) (fun _ _ _ _ _ x1 m2 => (f_cmp o_ltS (((f_ixT (((f_name (g.blk _ _ _ _ _ _) 0)).v) (((f_name (g.blk _ _ _ _ _ _) 1)).v) (at_map (xs := xs) (enc := D.str) (atI_getD (by have := List.mem_range.mp m2; omega))))).v) (((f_ixT (((f_name (g.blk _ _ _ _ _ _) 0)).v) (((f_op o_add (((f_name (g.blk _ _ _ _ _ _) 1)).v) ((f_int).v))).v) (at_map (xs := xs) (enc := D.str) (atI_getD1 (by have := List.mem_range.mp m2; omega))))).v))) (by rw [List.length_range]; omega))).n).v) av_nil)))) (congrArg D.bl (asc_all ha))
def R_are_ascendinglst : List D → D → Prop := fun ds d => ∃ (xs : List Str), (AscS xs ∧ xs.length ≤ 1000) ∧ ds = [(.lst (xs.map D.str))] ∧ d = .bl true
theorem w_are_ascendinglst (T : Top K w mg) : Fn P w K mg base "are_ascending" 1 R_are_ascendinglst := by
  refine fn_top T 12 ["things", "at"] ["things"] (by decide) (by decide +kernel) (fun _ _ _ _ _ _ us hl => match us, hl with | [_], _ => rfl) (by rintro _ _ ⟨xs, hp, rfl, rfl⟩; rfl) ?_
  intro X gf eP ew eK em eb ds d hR
  subst eP ew eK em eb
  obtain ⟨xs, hp, rfl, rfl⟩ := hR
  have hsc := Eq.refl (defScope (top 12))
  conv at hsc => rhs; whnf
  rw [hsc] at gf
  have g := gf.g
  obtain ⟨ha, hl⟩ := hp
  refine .inl (?_ : Dos X _ [.fz (.lst (xs.map D.str)), .un] (.rt (.bl true)))
  exact s_out (s_last (s_ret (f_callB g (c_all g) (T.fr "all") (av_cons (((LcS.n (lc_G g (xs := List.range ((xs.length : Int) - 1).toNat) (own := [("at", 1)]) (out := (fun x1 => (.bl (strLt (xs.getD x1 "") (xs.getD (x1 + 1) ""))))) (ItS.g (it_rng g (((f_op o_sub (((f_callB g c_lenLM (T.fr "len") (av_cons (((f_name g 0)).v) av_nil))).v) ((f_int).v))).v) (by omega) (by omega) (T.fr "range"))) (blkOk_by (by decide +kernel)) (pgb g 1) (fun _ _ => tg_name 1) (fun _ _ _ _ _ x1 m2 => (f_cmp o_ltS (((f_ixL (((f_name (g.blk _ _ _ _ _ _) 0)).v) (((f_name (g.blk _ _ _ _ _ _) 1)).v) (at_map (xs := xs) (enc := D.str) (atI_getD (by have := List.mem_range.mp m2; omega))))).v) (((f_ixL (((f_name (g.blk _ _ _ _ _ _) 0)).v) (((f_op o_add (((f_name (g.blk _ _ _ _ _ _) 1)).v) ((f_int).v))).v) (at_map (xs := xs) (enc := D.str) (atI_getD1 (by have := List.mem_range.mp m2; omega))))).v))) (by rw [List.length_range]; omega))).n).v) av_nil)))) (congrArg D.bl (asc_all ha))
def R_is_name : List D → D → Prop := fun ds d => ∃ (x : Str), NameOk x ∧ ds = [(.str x)] ∧ d = .bl true
theorem w_is_name (T : Top K w mg) : Fn P w K mg base "is_name" 1 R_is_name := by
  refine fn_top T 16 ["thing", "sign"] ["thing"] (by decide) (by decide +kernel) (fun _ _ _ _ _ _ us hl => match us, hl with | [_], _ => rfl) (by rintro _ _ ⟨x, hp, rfl, rfl⟩; rfl) ?_
  intro X gf eP ew eK em eb ds d hR
  subst eP ew eK em eb
  obtain ⟨x, hp, rfl, rfl⟩ := hR
  have hsc := Eq.refl (defScope (top 16))
  conv at hsc => rhs; whnf
  rw [hsc] at gf
  have g := gf.g
  refine .inl (?_ : Dos X _ [.fz (.str x), .un] (.rt (.bl true)))
  exact s_out (s_last (s_ret (f_and (f_isi g (b := true) (T := "str") (((f_name g 0)).v) rfl (T.fr "isinstance") (T.fr "str")) fun h1 => (f_and (f_chain o_le (fun h2 => o_le) ((f_int).v) (((f_callB g (c_lenS (by have := hp.2.1; rw [sizeLine_eq]; omega)) (T.fr "len") (av_cons (((f_name g 0)).v) av_nil))).v) (((f_gint g (T.i "MOST_IN_NAME" 8))).v) (d' := ⟨_, op_le⟩)) fun h3 => (f_one (f_callB g (c_all g) (T.fr "all") (av_cons (((LcS.n (lc_G g (xs := x.cps.toList) (own := [("sign", 1)]) (out := (fun x4 => (.bl (decide (x4 ∈ ("abcdefghijklmnopqrstuvwxyz" : Str).cps.toList))))) (ItS.g (it_str (((f_name g 0)).v))) (blkOk_by (by decide +kernel)) (pgb g 1) (fun _ _ => tg_name 1) (fun _ _ _ _ _ x4 m5 => (f_cmp o_inSign (((f_name (g.blk _ _ _ _ _ _) 1)).v) (((f_gstr (g.blk _ _ _ _ _ _) (T.s "LETTERS" "abcdefghijklmnopqrstuvwxyz"))).v))) (by have := hp.2.1; have e : x.cps.toList.length = x.length := Array.length_toList; omega))).n).v) av_nil))))))) (congrArg D.bl (name_b hp))
def R_are_counts : List D → D → Prop := fun ds d => ∃ (ps : List (Str × Int)), CountsOk ps ∧ ds = [(.tup (ps.map pD))] ∧ d = .bl true
theorem w_are_counts (T : Top K w mg) : Fn P w K mg base "are_counts" 2 R_are_counts := by
  refine fn_top T 17 ["thing", "pair"] ["thing"] (by decide) (by decide +kernel) (fun _ _ _ _ _ _ us hl => match us, hl with | [_], _ => rfl) (by rintro _ _ ⟨ps, hp, rfl, rfl⟩; rfl) ?_
  intro X gf eP ew eK em eb ds d hR
  subst eP ew eK em eb
  obtain ⟨ps, hp, rfl, rfl⟩ := hR
  have hsc := Eq.refl (defScope (top 17))
  conv at hsc => rhs; whnf
  rw [hsc] at gf
  have g := gf.g
  refine .inl (?_ : Dos X _ [.fz (.tup (ps.map pD)), .un] (.rt (.bl true)))
  exact s_out (s_cons (s_ifn (t_not (t_val (f_isi g (b := true) (T := "tuple") (((f_name g 0)).v) rfl (T.fr "isinstance") (T.fr "tuple"))))) <| s_cons (s_for gf (xs := ps) (rs := (fun i2 => [.fz (.tup (ps.map pD)), .un])) (if_tup (xs := ps) (enc := pD) (f_name g 0)) (by repeat (first | exact trivial | refine ⟨.inr rfl, ?_⟩ | refine ⟨.inl rfl, ?_⟩)) (gf.pg (j := 1) rfl rfl) (fun _ _ _ => tx_name 1) (fun i2 x3 hx4 => s_to (s_le (ρ2 := [.fz (.tup (ps.map pD)), .un]) (s_cons (s_ifn (SemT.is (SemW.t (w_or (t_not (t_val (f_call g (d := (.bl true)) (w_is_tuple_of T) (by decide) (a_cons (f_name g 1) (a_cons f_int a_nil)) ⟨_, _, rfl, rfl⟩))) fun h5 => (w_or (t_not (t_val (f_call g (d := (.bl true)) (w_is_name T) (by decide) (a_cons (f_ixT (((f_name g 1)).v) ((f_int).v) rfl) a_nil) ⟨_, (hp.1 x3 (List.mem_of_getElem? hx4)).1, rfl, rfl⟩))) fun h6 => (w_or (t_not (t_val (f_call g (d := (.bl true)) (w_is_integer T) (by decide) (a_cons (f_ixT (((f_name g 1)).v) ((f_int).v) rfl) a_nil) ⟨_, rfl, rfl⟩))) fun h7 => (w_or1 (t_cmp o_lt (((f_ixT (((f_name g 1)).v) ((f_int).v) rfl)).v) ((f_int).v))))))) (by have := (hp.1 x3 (List.mem_of_getElem? hx4)).2; simp; omega))) <| s_nil)) rfl)) <| s_last (s_ret (f_call g (d := (.bl true)) (w_are_ascendinglst T) (by decide) (a_cons (((LcS.n (lc_G g (xs := ps) (own := [("pair", 1)]) (out := (fun x9 => (.str x9.1))) (ItS.g (it_tup (((f_name g 0)).v))) (blkOk_by (by decide +kernel)) (pgb g 1) (fun _ _ => tg_name 1) (fun _ _ _ _ _ x9 m10 => (f_ixT (((f_name (g.blk _ _ _ _ _ _) 1)).v) ((f_int).v) rfl)) (by have := hp.2.2; omega))).n).f) a_nil) ⟨ps.map (·.1), ⟨hp.2.1, by rw [List.length_map]; exact hp.2.2⟩, by rw [List.map_map]; rfl, rfl⟩))) rfl
def R_lost_of : List D → D → Prop := fun ds d => ∃ (s : Sk), s.kept.length ≤ 1000 ∧ ds = [(.tup [(.int s.room), (.int s.many), (.int s.off), (.tup (s.kept.map pD))])] ∧ d = .int (lostL s)
theorem w_lost_of (T : Top K w mg) : Fn P w K mg base "lost_of" 1 R_lost_of := by
  refine fn_top T 24 ["sketch", "pair"] ["sketch"] (by decide) (by decide +kernel) (fun _ _ _ _ _ _ us hl => match us, hl with | [_], _ => rfl) (by rintro _ _ ⟨s, hp, rfl, rfl⟩; rfl) ?_
  intro X gf eP ew eK em eb ds d hR
  subst eP ew eK em eb
  obtain ⟨s, hp, rfl, rfl⟩ := hR
  have hsc := Eq.refl (defScope (top 24))
  conv at hsc => rhs; whnf
  rw [hsc] at gf
  have g := gf.g
  refine .inl (?_ : Dos X _ [.fz (.tup [(.int s.room), (.int s.many), (.int s.off), (.tup (s.kept.map pD))]), .un] (.rt (.int (lostL s))))
  exact s_out (s_last (s_ret (f_op o_sub (((f_ixT (((f_name g 0)).v) (((f_gint g (T.i "MANY" 1))).v) rfl)).v) (((f_callB g (c_sum g) (T.fr "sum") (av_cons (((LcS.n (lc_G g (xs := s.kept) (own := [("pair", 1)]) (out := (fun x1 => (.int x1.2))) (ItS.g (it_tup (((f_ixT (((f_name g 0)).v) (((f_gint g (T.i "KEPT" 3))).v) rfl)).v))) (blkOk_by (by decide +kernel)) (pgb g 1) (fun _ _ => tg_name 1) (fun _ _ _ _ _ x1 m2 => (f_ixT (((f_name (g.blk _ _ _ _ _ _) 1)).v) ((f_int).v) rfl)) (by omega))).n).v) av_nil))).v)))) rfl
def R_is_sketch : List D → D → Prop := fun ds d => ∃ (s : Sk), SkOk s ∧ ds = [(.tup [(.int s.room), (.int s.many), (.int s.off), (.tup (s.kept.map pD))])] ∧ d = .bl true
theorem w_is_sketch (T : Top K w mg) : Fn P w K mg base "is_sketch" 3 R_is_sketch := by
  refine fn_top T 25 ["thing", "room", "off"] ["thing"] (by decide) (by decide +kernel) (fun _ _ _ _ _ _ us hl => match us, hl with | [_], _ => rfl) (by rintro _ _ ⟨s, hp, rfl, rfl⟩; rfl) ?_
  intro X gf eP ew eK em eb ds d hR
  subst eP ew eK em eb
  obtain ⟨s, hp, rfl, rfl⟩ := hR
  have hsc := Eq.refl (defScope (top 25))
  conv at hsc => rhs; whnf
  rw [hsc] at gf
  have g := gf.g
  refine .inl (?_ : Dos X _ [.fz (.tup [(.int s.room), (.int s.many), (.int s.off), (.tup (s.kept.map pD))]), .un, .un] (.rt (.bl true)))
  exact s_out (s_cons (s_ifn (SemT.is (SemW.t (w_or (t_not (t_val (f_call g (d := (.bl true)) (w_is_tuple_of T) (by decide) (a_cons (f_name g 0) (a_cons f_int a_nil)) ⟨_, _, rfl, rfl⟩))) fun h1 => (w_or1 (t_not (t_val (f_call g (d := (.bl (true && (decide (1 ≤ s.room) && decide (s.room ≤ 64))))) (w_is_between T) (by decide) (a_cons (f_ixT (((f_name g 0)).v) (((f_gint g (T.i "ROOM" 0))).v) rfl) (a_cons f_int (a_cons (f_gint g (T.i "MOST_ROOM" 64)) a_nil))) ⟨_, _, _, rfl, rfl⟩)))))) (by have h1 := hp.r1; have h2 := hp.r3; simp; omega))) <| s_cons (s_ifn (SemT.is (SemW.t (w_or (t_not (t_val (f_call g (d := (.bl (true && decide (0 ≤ s.many)))) (w_is_count T) (by decide) (a_cons (f_ixT (((f_name g 0)).v) (((f_gint g (T.i "MANY" 1))).v) rfl) a_nil) ⟨_, rfl, rfl⟩))) fun h3 => (w_or (t_not (t_val (f_call g (d := (.bl (true && decide (0 ≤ s.off)))) (w_is_count T) (by decide) (a_cons (f_ixT (((f_name g 0)).v) (((f_gint g (T.i "OFF" 2))).v) rfl) a_nil) ⟨_, rfl, rfl⟩))) fun h4 => (w_or1 (t_not (t_val (f_call g (d := (.bl true)) (w_are_counts T) (by decide) (a_cons (f_ixT (((f_name g 0)).v) (((f_gint g (T.i "KEPT" 3))).v) rfl) a_nil) ⟨_, hp.co, rfl, rfl⟩))))))) (by have h1 := hp.m0; have h2 := hp.o0; simp [h1, h2]))) <| s_cons (s_par gf 1 2 (a_cons (f_ixT (((f_name g 0)).v) (((f_gint g (T.i "ROOM" 0))).v) rfl) (a_cons (f_ixT (((f_name g 0)).v) (((f_gint g (T.i "OFF" 2))).v) rfl) a_nil))) <| s_last (s_ret (f_and (f_cmp o_le (((f_callB g c_lenTM (T.fr "len") (av_cons (((f_ixT (((f_name g 0)).v) (((f_gint g (T.i "KEPT" 3))).v) rfl)).v) av_nil))).v) (((f_name g 1)).v)) fun h6 => (f_one (f_chain o_le (fun h7 => o_le) (((f_op (o_mul (i := (s.room + 1)) (j := s.off) (.inl ⟨by have := hp.r1; omega, by have := hp.r3; omega⟩)) (((f_op o_add (((f_name g 1)).v) ((f_int).v))).v) (((f_name g 2)).v))).v) (((f_call g (d := (.int (lostL s))) (w_lost_of T) (by decide) (a_cons (f_name g 0) a_nil) ⟨_, hp.co.2.2, rfl, rfl⟩)).v) (((f_op (o_mul (i := (2 * s.room)) (j := s.off) (.inl ⟨by have := hp.r1; omega, by have := hp.r3; omega⟩)) (((f_op (o_mul (i := 2) (j := s.room) (.inl ⟨by omega, by omega⟩)) ((f_int).v) (((f_name g 1)).v))).v) (((f_name g 2)).v))).v) (d' := ⟨_, op_le⟩)))))) (by have h1 := hp.kl; have h2 := hp.l1; have h3 := hp.l2; simp [h1, h2, h3])
def R_check_sketch : List D → D → Prop := fun ds d => ∃ (s : Sk), SkOk s ∧ ds = [(.tup [(.int s.room), (.int s.many), (.int s.off), (.tup (s.kept.map pD))])] ∧ d = .non
theorem w_check_sketch (T : Top K w mg) : Fn P w K mg base "check_sketch" 4 R_check_sketch := by
  refine fn_top T 26 ["thing"] ["thing"] (by decide) (by decide +kernel) (fun _ _ _ _ _ _ us hl => match us, hl with | [_], _ => rfl) (by rintro _ _ ⟨s, hp, rfl, rfl⟩; rfl) ?_
  intro X gf eP ew eK em eb ds d hR
  subst eP ew eK em eb
  obtain ⟨s, hp, rfl, rfl⟩ := hR
  have hsc := Eq.refl (defScope (top 26))
  conv at hsc => rhs; whnf
  rw [hsc] at gf
  have g := gf.g
  exact .inr ⟨rfl, _, (show Dos X (defBody (top 26)) [.fz (.tup [(.int s.room), (.int s.many), (.int s.off), (.tup (s.kept.map pD))])] (.nx _) from s_cons (s_ifn (t_not (t_val (f_call g (d := (.bl true)) (w_is_sketch T) (by decide) (a_cons (f_name g 0) a_nil) ⟨_, hp, rfl, rfl⟩)))) <| s_nil)⟩
end
end KD

set_option Elab.async false
set_option linter.all false
set_option maxRecDepth 100000
set_option maxHeartbeats 2000000
namespace KD
open PySem PySem.Spec PyProof.Rows L2
local instance : Vol := volNone
section
variable {P : Program} {w : World} {K : PySem.W.Frag} {mg : Str → Option Value} {base : Heap}

def ritL (s : Sk) (ps : List (Str × Int)) : Bool := if (!(s.kept.all fun z => (dgo ps z.1).isSome)) = true then false else if (!(ps.all fun z => (decide (0 ≤ (z.2 - ((dgo s.kept z.1).getD 0))) && decide ((z.2 - ((dgo s.kept z.1).getD 0)) ≤ s.off)))) = true then false else decide (((ps.map fun z => z.2).sum) = s.many)
def R_raw_is_truth : List D → D → Prop := fun ds d => ∃ (s : Sk) (ps : List (Str × Int)), (SkOk s ∧ CountsOk ps) ∧ ds = [(.tup [(.int s.room), (.int s.many), (.int s.off), (.tup (s.kept.map pD))]), (.tup (ps.map pD))] ∧ d = .bl (ritL s ps)
theorem w_raw_is_truth (T : Top K w mg) : Fn P w K mg base "raw_is_truth" 3 R_raw_is_truth := by
  refine fn_top T 30 ["sketch", "thing", "told", "kept", "name"] ["sketch", "thing"] (by decide) (by decide +kernel) (fun _ _ _ _ _ _ us hl => match us, hl with | [_, _], _ => rfl) (by rintro _ _ ⟨s, ps, hp, rfl, rfl⟩; rfl) ?_
  intro X gf eP ew eK em eb ds d hR
  subst eP ew eK em eb
  obtain ⟨s, ps, hp, rfl, rfl⟩ := hR
  have hsc := Eq.refl (defScope (top 30))
  conv at hsc => rhs; whnf
  rw [hsc] at gf
  have g := gf.g
  obtain ⟨hs, hc⟩ := hp
  have l1 := hs.co.2.2
  have l2 := hc.2.2
  refine .inl (?_ : Dos X _ [.fz (.tup [(.int s.room), (.int s.many), (.int s.off), (.tup (s.kept.map pD))]), .fz (.tup (ps.map pD)), .un, .un, .un] (.rt (.bl (if (!(s.kept.all fun z => (dgo ps z.1).isSome)) = true then false else if (!(ps.all fun z => (decide (0 ≤ (z.2 - ((dgo s.kept z.1).getD 0))) && decide ((z.2 - ((dgo s.kept z.1).getD 0)) ≤ s.off)))) = true then false else decide (((ps.map fun z => z.2).sum) = s.many)))))
  exact s_cons (s_ifn (t_not (t_val (f_call g (d := (.bl true)) (w_are_counts T) (by decide) (a_cons (f_name g 1) a_nil) ⟨_, hc, rfl, rfl⟩)))) <| s_cons (s_new gf 2 (SemN.is (d' := (.dct ps)) (n_callT g (c_dictT g (kvs := ps)) (T.fr "dict") (av_cons (((f_name g 1)).v) av_nil)) (by rw [mergeI_nil hc.2.1.nd]))) <| s_cons (s_new gf 3 (SemN.is (d' := (.dct s.kept)) (n_callT g (c_dictT g (kvs := s.kept)) (T.fr "dict") (av_cons (((f_ixT (((f_name g 0)).v) (((f_gint g (T.i "KEPT" 3))).v) rfl)).v) av_nil)) (by rw [mergeI_nil hs.co.2.1.nd]))) <| s_ifr (d := (.bl (if (!(s.kept.all fun z => (dgo ps z.1).isSome)) = true then false else if (!(ps.all fun z => (decide (0 ≤ (z.2 - ((dgo s.kept z.1).getD 0))) && decide ((z.2 - ((dgo s.kept z.1).getD 0)) ≤ s.off)))) = true then false else decide (((ps.map fun z => z.2).sum) = s.many)))) (t_not (t_val (f_callB g (c_all g) (T.fr "all") (av_cons (((SemNG.lock (d_own g 3) (LcS.n (lc_G g (xs := s.kept) (own := [("name", 4)]) (out := (fun x2 => (.bl ((dgo ps x2.1).isSome)))) it_keysI (blkOk_by (by decide +kernel)) (pgb g 4) (fun _ _ => tg_name 4) (fun _ _ _ _ _ x2 m3 => (f_inD (g.blk _ _ _ _ _ _) (((f_name (g.blk _ _ _ _ _ _) 4)).v) (v_own (g.blk _ _ _ _ _ _) 2))) (by omega))))).v) av_nil)))) (fun c4 => s_out (s_last (s_ret f_bl)) (by simp only [if_pos c4])) (fun c4 => s_out (s_ifr (d := (.bl (if (!(ps.all fun z => (decide (0 ≤ (z.2 - ((dgo s.kept z.1).getD 0))) && decide ((z.2 - ((dgo s.kept z.1).getD 0)) ≤ s.off)))) = true then false else decide (((ps.map fun z => z.2).sum) = s.many)))) (t_not (t_val (f_callB g (c_all g) (T.fr "all") (av_cons (((SemNG.lock (d_own g 2) (LcS.n (lc_G g (xs := ps) (own := [("name", 4)]) (out := (fun x5 => (.bl (decide (0 ≤ (x5.2 - ((dgo s.kept x5.1).getD 0))) && decide ((x5.2 - ((dgo s.kept x5.1).getD 0)) ≤ s.off))))) it_keysI (blkOk_by (by decide +kernel)) (pgb g 4) (fun _ _ => tg_name 4) (fun _ _ _ _ _ x5 m6 => (f_chain o_le (fun h7 => o_le) ((f_int).v) (((f_op o_sub (((f_ixD (g.blk _ _ _ _ _ _) (v_own (g.blk _ _ _ _ _ _) 2) (((f_name (g.blk _ _ _ _ _ _) 4)).v) (dgo_mem hc.2.1.nd m6))).v) (((f_get (g.blk _ _ _ _ _ _) (v_own (g.blk _ _ _ _ _ _) 3) (((f_name (g.blk _ _ _ _ _ _) 4)).v) ((f_int).v))).v))).v) (((f_ixT (((f_name (g.blk _ _ _ _ _ _) 0)).v) (((f_gint (g.blk _ _ _ _ _ _) (T.i "OFF" 2))).v) rfl)).v) (d' := ⟨_, op_le⟩))) (by omega))))).v) av_nil)))) (fun c8 => s_out (s_last (s_ret f_bl)) (by simp only [if_pos c8])) (fun c8 => s_out (s_last (s_ret (f_cmp o_eqI (((f_callB g (c_sum g) (T.fr "sum") (av_cons (((SemNG.lock (d_own g 2) (LcS.n (lc_G g (xs := ps) (own := [("name", 4)]) (out := (fun x9 => (.int x9.2))) it_keysI (blkOk_by (by decide +kernel)) (pgb g 4) (fun _ _ => tg_name 4) (fun _ _ _ _ _ x9 m10 => (f_ixD (g.blk _ _ _ _ _ _) (v_own (g.blk _ _ _ _ _ _) 2) (((f_name (g.blk _ _ _ _ _ _) 4)).v) (dgo_mem hc.2.1.nd m10))) (by omega))))).v) av_nil))).v) (((f_ixT (((f_name g 0)).v) (((f_gint g (T.i "MANY" 1))).v) rfl)).v)))) (by simp only [c8, Bool.false_eq_true, if_false]))) (by simp only [c4, Bool.false_eq_true, if_false]))
def R_is_truth : List D → D → Prop := fun ds d => ∃ (s : Sk) (ps : List (Str × Int)), (SkOk s ∧ CountsOk ps) ∧ ds = [(.tup [(.int s.room), (.int s.many), (.int s.off), (.tup (s.kept.map pD))]), (.tup (ps.map pD))] ∧ d = (.bl (ritL s ps))
theorem w_is_truth (T : Top K w mg) : Fn P w K mg base "is_truth" 5 R_is_truth := by
  refine fn_top T 31 ["sketch", "thing"] ["sketch", "thing"] (by decide) (by decide +kernel) (fun _ _ _ _ _ _ us hl => match us, hl with | [_, _], _ => rfl) (by rintro _ _ ⟨s, ps, hp, rfl, rfl⟩; rfl) ?_
  intro X gf eP ew eK em eb ds d hR
  subst eP ew eK em eb
  obtain ⟨s, ps, hp, rfl, rfl⟩ := hR
  have hsc := Eq.refl (defScope (top 31))
  conv at hsc => rhs; whnf
  rw [hsc] at gf
  have g := gf.g
  refine .inl (?_ : Dos X _ [.fz (.tup [(.int s.room), (.int s.many), (.int s.off), (.tup (s.kept.map pD))]), .fz (.tup (ps.map pD))] (.rt (.bl (ritL s ps))))
  exact s_cons (s_expr (f_call g (d := .non) (w_check_sketch T) (by decide) (a_cons (f_name g 0) a_nil) ⟨_, hp.1, rfl, rfl⟩)) <| s_last (s_ret (f_call g (d := (.bl (ritL s ps))) (w_raw_is_truth T) (by decide) (a_cons (f_name g 0) (a_cons (f_name g 1) a_nil)) ⟨_, _, hp, rfl, rfl⟩))
def R_check_told : List D → D → Prop := fun ds d => ∃ (s : Sk), SkOk s ∧ ds = [(.tup [(.int s.room), (.int s.many), (.int s.off), (.tup (s.kept.map pD))])] ∧ d = .non
theorem w_check_told (T : Top K w mg) : Fn P w K mg base "check_told" 1 R_check_told := by
  refine fn_top T 32 ["sketch"] ["sketch"] (by decide) (by decide +kernel) (fun _ _ _ _ _ _ us hl => match us, hl with | [_], _ => rfl) (by rintro _ _ ⟨s, hp, rfl, rfl⟩; rfl) ?_
  intro X gf eP ew eK em eb ds d hR
  subst eP ew eK em eb
  obtain ⟨s, hp, rfl, rfl⟩ := hR
  have hsc := Eq.refl (defScope (top 32))
  conv at hsc => rhs; whnf
  rw [hsc] at gf
  have g := gf.g
  exact .inr ⟨rfl, _, (show Dos X (defBody (top 32)) [.fz (.tup [(.int s.room), (.int s.many), (.int s.off), (.tup (s.kept.map pD))])] (.nx _) from s_cons (s_ifn (SemT.is (t_cmp o_gt (((f_ixT (((f_name g 0)).v) (((f_gint g (T.i "MANY" 1))).v) rfl)).v) (((f_gint g (T.i "MOST_TOLD" 1500))).v)) (by have := hp.m1; simp; omega))) <| s_nil)⟩
def R_numbered_name : List D → D → Prop := fun ds d => ∃ (n : Nat), n < 26 ∧ ds = [(.int (n : Int))] ∧ d = .str (letterS n)
theorem w_numbered_name (T : Top K w mg) : Fn P w K mg base "numbered_name" 1 R_numbered_name := by
  refine fn_top T 33 ["number", "signs"] ["number"] (by decide) (by decide +kernel) (fun _ _ _ _ _ _ us hl => match us, hl with | [_], _ => rfl) (by rintro _ _ ⟨n, hp, rfl, rfl⟩; rfl) ?_
  intro X gf eP ew eK em eb ds d hR
  subst eP ew eK em eb
  obtain ⟨n, hp, rfl, rfl⟩ := hR
  have hsc := Eq.refl (defScope (top 33))
  conv at hsc => rhs; whnf
  rw [hsc] at gf
  have g := gf.g
  refine .inl (?_ : Dos X _ [.fz (.int (n : Int)), .un] (.rt (.str (letterS n))))
  exact s_out (s_cons (s_new gf 1 (n_lst a_nil (by simp))) <| s_cons (s_once gf (ρ0 := [.fz (.int (n : Int)), .ow (.lst (([] : List Str).map D.str))]) (ρ1 := [.fz (.int ((n : Int) / 26 - 1)), .ow (.lst ([letterS n].map D.str))]) (by repeat (first | exact trivial | refine ⟨.inr rfl, ?_⟩ | refine ⟨.inl rfl, ?_⟩)) (SemT.is (t_cmp o_ge (((f_name g 0)).v) ((f_int).v)) (by simp)) (s_to (s_le (ρ2 := [.fz (.int (((n : Int) / 26) - 1)), .ow (.lst (([] ++ [letterS n]).map D.str))]) (s_cons (s_app (ds := (([] : List Str).map D.str)) g 1 (f_ixS (((f_gstr g (T.s "SIGNS" "abcdefghijklmnopqrstuvwxyz"))).v) (((f_op (o_mod (i := (n : Int)) (j := 26) (by decide)) (((f_name g 0)).v) ((f_int).v))).v) (by decide +kernel) (sign_at n hp)) (by simp)) <| s_at (ρ1 := [.fz (.int (n : Int)), .ow (.lst (([] ++ [letterS n]).map D.str))]) (s_cons (s_set gf 0 (f_op o_sub (((f_op (o_fdiv (i := (n : Int)) (j := 26) ⟨by decide, by decide⟩) (((f_name g 0)).v) ((f_int).v))).v) ((f_int).v))) <| s_nil) (by first | (simp only [List.map_append]; done) | (simp only [List.map_append]; rfl)))) rfl) (SemT.is (t_cmp o_ge (((f_name g 0)).v) ((f_int).v)) (by simp; omega))) <| s_last (s_ret (f_join (z := "") (ys := [letterS n].reverse) ((f_str).v) (((SemN.is (d' := (.lst (([letterS n].reverse).map D.str))) (n_revL (ds := ([letterS n].map D.str)) (v_own g 1)) (by rw [List.map_reverse]))).v) (by have e : (letterS n).length = 1 := rfl; have e2 : ("" : Str).length = 0 := rfl; simp [e, e2])))) (congrArg D.str (join1 _))
def R_new_names : List D → D → Prop := fun ds d => ∃ (ks : List Str) (m : Int) (n : Nat), (n ≤ 26 ∧ ∀ i, i ≤ n → decide (((candN ks i).length : Int) < m) = decide (i < n)) ∧ ds = [(.dset ks), (.int m)] ∧ d = (.lst ((candN ks n).map D.str))
theorem w_new_names (T : Top K w mg) : Fn P w K mg base "new_names" 2 R_new_names := by
  refine fn_top T 34 ["barred", "many", "found", "number", "name"] ["barred", "many"] (by decide) (by decide +kernel) (fun _ _ _ _ _ _ us hl => match us, hl with | [_, _], _ => rfl) (by rintro _ _ ⟨ks, m, n, hp, rfl, rfl⟩; rfl) ?_
  intro X gf eP ew eK em eb ds d hR
  subst eP ew eK em eb
  obtain ⟨ks, m, n, hp, rfl, rfl⟩ := hR
  have hsc := Eq.refl (defScope (top 34))
  conv at hsc => rhs; whnf
  rw [hsc] at gf
  have g := gf.g
  refine .inl (?_ : Dos X _ [.fz (.dset ks), .fz (.int m), .un, .un, .un] (.rt (.lst ((candN ks n).map D.str))))
  exact s_cons (s_new gf 2 (n_lst a_nil (by simp))) <| s_cons (s_set gf 3 f_int) <| s_cons (s_while gf (rs := (fun i1 => [.fz (.dset ks), .fz (.int m), .ow (.lst ((candN ks i1).map D.str)), .fz (.int (i1 : Int)), .un])) n (by repeat (first | exact trivial | refine ⟨.inr rfl, ?_⟩ | refine ⟨.inl rfl, ?_⟩)) (fun i1 hi2 => SemT.is (t_cmp o_lt (((f_callB g c_lenLM (T.fr "len") (av_cons (v_own g 2) av_nil))).v) (((f_name g 1)).v)) (hp.2 i1 hi2)) (fun i1 hi2 => s_to (s_le (ρ2 := [.fz (.dset ks), .fz (.int m), .ow (.lst ((candN ks (i1 + 1)).map D.str)), .fz (.int ((i1 : Int) + 1)), .un]) (s_cons (s_set gf 4 (f_call g (d := (.str (letterS i1))) (w_numbered_name T) (by decide) (a_cons (f_name g 3) a_nil) ⟨i1, (by have := hp.1; omega), rfl, rfl⟩)) <| s_cons (ρ1 := [.fz (.dset ks), .fz (.int m), .ow (.lst ((candN ks (i1 + 1)).map D.str)), .fz (.int (i1 : Int)), .fz (.str (letterS i1))]) (s_if (t_notinB g (((f_name g 4)).v) (((f_name g 0)).v)) (fun c3 => s_to (s_le (ρ2 := [.fz (.dset ks), .fz (.int m), .ow (.lst ((candN ks i1 ++ [letterS i1]).map D.str)), .fz (.int (i1 : Int)), .fz (.str (letterS i1))]) (s_cons (s_app (ds := ((candN ks i1).map D.str)) g 2 (f_name g 4) (by have h1 := candN_len ks i1; have h2 := hp.1; rw [List.length_map]; omega)) <| s_at (ρ1 := [.fz (.dset ks), .fz (.int m), .ow (.lst ((candN ks i1 ++ [letterS i1]).map D.str)), .fz (.int (i1 : Int)), .fz (.str (letterS i1))]) (s_nil) (by first | (simp only [List.map_append]; done) | (simp only [List.map_append]; rfl)))) (by rw [candN_succ, if_neg (by simpa using c3)])) (fun c3 => s_to (s_le (ρ2 := [.fz (.dset ks), .fz (.int m), .ow (.lst ((candN ks i1).map D.str)), .fz (.int (i1 : Int)), .fz (.str (letterS i1))]) (s_nil)) (by rw [candN_succ, if_pos (by simpa using c3), List.append_nil]))) <| s_cons (s_add gf 3 ((f_int).v)) <| s_nil)) rfl)) <| s_frz 2 rfl <| s_last (s_ret (f_name g 2))
def TwOk (s : Sk) (taken : List (Str × Int)) (size : Int) (barred : List Str) (n : Nat) : Prop := SkOk s ∧ taken.length ≤ 1000 ∧ (0 < leftL (lostL s) taken → 0 < size ∧ size < 1000) ∧ barred.length ≤ 1000 ∧
  (0 < leftL (lostL s) taken → n ≤ 26 ∧ ∀ i, i ≤ n → decide (((candN (ddS (barred ++ (addAll s.kept taken).map (·.1))) i).length : Int) < (leftL (lostL s) taken + size - 1) / size) = decide (i < n))
theorem tw_nd {s : Sk} {taken : List (Str × Int)} {size : Int} {barred : List Str} {n : Nat} (h : TwOk s taken size barred n) : ((if decide (0 < leftL (lostL s) taken) = true then twNew (addAll s.kept taken) size (leftL (lostL s) taken) barred n else addAll s.kept taken).map (·.1)).Nodup := by
  have h1 := addAll_nd taken h.1.co.2.1.nd
  split
  · exact fillT_nd _ _ h1
  · exact h1
theorem tw_len {s : Sk} {taken : List (Str × Int)} {size : Int} {barred : List Str} {n : Nat} (h : TwOk s taken size barred n) : (if decide (0 < leftL (lostL s) taken) = true then twNew (addAll s.kept taken) size (leftL (lostL s) taken) barred n else addAll s.kept taken).length ≤ 10000 := by
  have h1 := addAll_len s.kept taken
  have h2 := h.1.co.2.2
  have h3 := h.2.1
  split
  · rename_i c
    have h4 := (h.2.2.2.2 (of_decide_eq_true c)).1
    have h5 := fillT_len size (addAll s.kept taken, leftL (lostL s) taken) (candN (ddS (barred ++ (addAll s.kept taken).map (·.1))) n)
    have h6 := candN_len (ddS (barred ++ (addAll s.kept taken).map (·.1))) n
    unfold twNew
    have h7 : (addAll s.kept taken, leftL (lostL s) taken).1.length = (addAll s.kept taken).length := rfl
    omega
  · omega
def R_truth_with : List D → D → Prop := fun ds d => ∃ (s : Sk) (taken : List (Str × Int)) (size : Int) (barred : List Str) (n : Nat), TwOk s taken size barred n ∧ ds = [(.tup [(.int s.room), (.int s.many), (.int s.off), (.tup (s.kept.map pD))]), (.lst (taken.map pD)), (.int size), (.tup (barred.map D.str))] ∧ d = .tup ((twL s taken size barred n).map pD)
theorem w_truth_with (T : Top K w mg) : Fn P w K mg base "truth_with" 3 R_truth_with := by
  refine fn_top T 35 ["sketch", "taken", "size", "barred", "told", "left", "name", "number", "avoid"] ["sketch", "taken", "size", "barred"] (by decide) (by decide +kernel) (fun _ _ _ _ _ _ us hl => match us, hl with | [_, _, _, _], _ => rfl) (by rintro _ _ ⟨s, taken, size, barred, n, hp, rfl, rfl⟩; rfl) ?_
  intro X gf eP ew eK em eb ds d hR
  subst eP ew eK em eb
  obtain ⟨s, taken, size, barred, n, hp, rfl, rfl⟩ := hR
  have hsc := Eq.refl (defScope (top 35))
  conv at hsc => rhs; whnf
  rw [hsc] at gf
  have g := gf.g
  refine .inl (?_ : Dos X _ [.fz (.tup [(.int s.room), (.int s.many), (.int s.off), (.tup (s.kept.map pD))]), .fz (.lst (taken.map pD)), .fz (.int size), .fz (.tup (barred.map D.str)), .un, .un, .un, .un, .un] (.rt (.tup ((twL s taken size barred n).map pD))))
  exact s_out (s_cons (s_new gf 4 (SemN.is (d' := (.dct s.kept)) (n_callT g (c_dictT g (kvs := s.kept)) (T.fr "dict") (av_cons (((f_ixT (((f_name g 0)).v) (((f_gint g (T.i "KEPT" 3))).v) rfl)).v) av_nil)) (by rw [mergeI_nil hp.1.co.2.1.nd]))) <| s_cons (s_set gf 5 (f_call g (d := (.int (lostL s))) (w_lost_of T) (by decide) (a_cons (f_name g 0) a_nil) ⟨_, hp.1.co.2.2, rfl, rfl⟩)) <| s_cons (s_for gf (xs := taken) (rs := (fun i1 => [.fz (.tup [(.int s.room), (.int s.many), (.int s.off), (.tup (s.kept.map pD))]), .fz (.lst (taken.map pD)), .fz (.int size), .fz (.tup (barred.map D.str)), .ow (.dct (addAll s.kept (taken.take i1))), .fz (.int (leftL (lostL s) (taken.take i1))), .un, .un, .un])) (if_lst (xs := taken) (enc := pD) (f_name g 1)) (by repeat (first | exact trivial | refine ⟨.inr rfl, ?_⟩ | refine ⟨.inl rfl, ?_⟩)) (gf.pg2 6 7) (fun _ _ _ => tx_pair 6 7) (fun i1 x2 hx3 => s_to (s_le (ρ2 := [.fz (.tup [(.int s.room), (.int s.many), (.int s.off), (.tup (s.kept.map pD))]), .fz (.lst (taken.map pD)), .fz (.int size), .fz (.tup (barred.map D.str)), .ow (.dct (putI (addAll s.kept (taken.take i1)) x2.1 (((dgo (addAll s.kept (taken.take i1)) x2.1).getD 0) + x2.2))), .fz (.int ((leftL (lostL s) (taken.take i1)) - x2.2)), .un, .un, .un]) (s_cons (s_dput (kvs := addAll s.kept (taken.take i1)) g 4 (((f_op o_add (((f_get g (v_own g 4) (((f_name g 6)).v) ((f_int).v))).v) (((f_name g 7)).v))).v) (((f_name g 6)).v) (by have h1 := addAll_len s.kept (taken.take i1); have h2 := take_len taken i1; have h5 := hp.1.co.2.2; have h6 := hp.2.1; omega)) <| s_cons (s_sub gf 5 (((f_name g 7)).v)) <| s_nil)) (by unfold addAll leftL; rw [foldl_take hx3, foldl_take hx3]))) <| s_at (ρ1 := [.fz (.tup [(.int s.room), (.int s.many), (.int s.off), (.tup (s.kept.map pD))]), .fz (.lst (taken.map pD)), .fz (.int size), .fz (.tup (barred.map D.str)), .ow (.dct (addAll s.kept taken)), .fz (.int (leftL (lostL s) taken)), .un, .un, .un]) (s_cons (ρ1 := [.fz (.tup [(.int s.room), (.int s.many), (.int s.off), (.tup (s.kept.map pD))]), .fz (.lst (taken.map pD)), .fz (.int size), .fz (.tup (barred.map D.str)), .ow (.dct (if decide (0 < leftL (lostL s) taken) = true then twNew (addAll s.kept taken) size (leftL (lostL s) taken) barred n else addAll s.kept taken)), .un, .un, .un, .un]) (s_if (t_cmp o_gt (((f_name g 5)).v) ((f_int).v)) (fun c4 => s_to (s_le (ρ2 := [.fz (.tup [(.int s.room), (.int s.many), (.int s.off), (.tup (s.kept.map pD))]), .fz (.lst (taken.map pD)), .fz (.int size), .fz (.tup (barred.map D.str)), .ow (.dct ((fillT size (addAll s.kept taken, leftL (lostL s) taken) (candN (ddS (barred ++ (addAll s.kept taken).map (·.1))) n)).1)), .un, .un, .un, .un]) (s_cons (s_dcB gf 8 6 (xs := barred ++ ((addAll s.kept taken).map (·.1))) (it_lst (((SemN.is (d' := (.lst ((barred ++ ((addAll s.kept taken).map (·.1))).map D.str))) (n_cat (ds := (barred.map D.str)) (es := (((addAll s.kept taken).map (·.1)).map D.str)) (n_callT g c_listT (T.fr "list") (av_cons (((f_name g 3)).v) av_nil)) (SemN.is (d' := (.lst (((addAll s.kept taken).map (·.1)).map D.str))) (n_callT g (c_listD g (kvs := addAll s.kept taken)) (T.fr "list") (av_cons (v_own g 4) av_nil)) (by first | (rw [List.map_map]; done) | (rw [List.map_map]; rfl))) (by have h1 := addAll_len s.kept taken; have h2 := hp.1.co.2.2; have h3 := hp.2.1; have h4 := hp.2.2.2.1; rw [List.length_map, List.length_map, List.length_map]; omega)) (by rw [List.map_append]))).v)) (by have h1 := addAll_len s.kept taken; have h2 := hp.1.co.2.2; have h3 := hp.2.1; have h4 := hp.2.2.2.1; rw [List.length_append, List.length_map]; omega)) <| s_frz 8 rfl <| s_cons (s_for gf (xs := candN (ddS (barred ++ ((addAll s.kept taken).map (·.1)))) n) (rs := (fun i5 => [.fz (.tup [(.int s.room), (.int s.many), (.int s.off), (.tup (s.kept.map pD))]), .fz (.lst (taken.map pD)), .fz (.int size), .fz (.tup (barred.map D.str)), .ow (.dct ((fillT size (addAll s.kept taken, leftL (lostL s) taken) ((candN (ddS (barred ++ (addAll s.kept taken).map (·.1))) n).take i5)).1)), .fz (.int ((fillT size (addAll s.kept taken, leftL (lostL s) taken) ((candN (ddS (barred ++ (addAll s.kept taken).map (·.1))) n).take i5)).2)), .un, .un, .fz (.dset (ddS (barred ++ ((addAll s.kept taken).map (·.1)))))])) (if_lst (xs := candN (ddS (barred ++ ((addAll s.kept taken).map (·.1)))) n) (enc := D.str) (f_call g (d := (.lst ((candN (ddS (barred ++ ((addAll s.kept taken).map (·.1)))) n).map D.str))) (w_new_names T) (by decide) (a_cons (f_name g 8) (a_cons (f_op (o_fdiv (i := (((leftL (lostL s) taken) + size) - 1)) (j := size) ⟨by have := hp.2.2.1 (of_decide_eq_true c4); omega, by have := hp.2.2.1 (of_decide_eq_true c4); omega⟩) (((f_op o_sub (((f_op o_add (((f_name g 5)).v) (((f_name g 2)).v))).v) ((f_int).v))).v) (((f_name g 2)).v)) a_nil)) ⟨_, _, n, (hp.2.2.2.2 (of_decide_eq_true c4)), rfl, rfl⟩)) (by repeat (first | exact trivial | refine ⟨.inr rfl, ?_⟩ | refine ⟨.inl rfl, ?_⟩)) (gf.pg (j := 6) rfl rfl) (fun _ _ _ => tx_name 6) (fun i5 x6 hx7 => s_to (s_le (ρ2 := [.fz (.tup [(.int s.room), (.int s.many), (.int s.off), (.tup (s.kept.map pD))]), .fz (.lst (taken.map pD)), .fz (.int size), .fz (.tup (barred.map D.str)), .ow (.dct (putI ((fillT size (addAll s.kept taken, leftL (lostL s) taken) ((candN (ddS (barred ++ (addAll s.kept taken).map (·.1))) n).take i5)).1) x6 (min size ((fillT size (addAll s.kept taken, leftL (lostL s) taken) ((candN (ddS (barred ++ (addAll s.kept taken).map (·.1))) n).take i5)).2)))), .fz (.int (((fillT size (addAll s.kept taken, leftL (lostL s) taken) ((candN (ddS (barred ++ (addAll s.kept taken).map (·.1))) n).take i5)).2) - (min size (fillT size (addAll s.kept taken, leftL (lostL s) taken) ((candN (ddS (barred ++ (addAll s.kept taken).map (·.1))) n).take i5)).2))), .un, .un, .fz (.dset (ddS (barred ++ ((addAll s.kept taken).map (·.1)))))]) (s_cons (s_dput (kvs := (fillT size (addAll s.kept taken, leftL (lostL s) taken) ((candN (ddS (barred ++ (addAll s.kept taken).map (·.1))) n).take i5)).1) g 4 (((f_callB g (c_min2 g) (T.fr "min") (av_cons (((f_name g 2)).v) (av_cons (((f_name g 5)).v) av_nil)))).v) (((f_name g 6)).v) (by have h1 := fillT_len size (addAll s.kept taken, leftL (lostL s) taken) ((candN (ddS (barred ++ (addAll s.kept taken).map (·.1))) n).take i5); have h2 := take_len (candN (ddS (barred ++ (addAll s.kept taken).map (·.1))) n) i5; have h3 := candN_len (ddS (barred ++ (addAll s.kept taken).map (·.1))) n; have h4 := addAll_len s.kept taken; have h5 := hp.1.co.2.2; have h6 := hp.2.1; have h7 := (hp.2.2.2.2 (of_decide_eq_true c4)).1; have h8 : (addAll s.kept taken, leftL (lostL s) taken).1.length = (addAll s.kept taken).length := rfl; omega)) <| s_cons (s_sub gf 5 (((f_ixD g (v_own g 4) (((f_name g 6)).v) (dgo_put.trans (if_pos rfl)))).v)) <| s_nil)) (by unfold fillT; rw [foldl_take hx7]))) <| s_at (ρ1 := [.fz (.tup [(.int s.room), (.int s.many), (.int s.off), (.tup (s.kept.map pD))]), .fz (.lst (taken.map pD)), .fz (.int size), .fz (.tup (barred.map D.str)), .ow (.dct ((fillT size (addAll s.kept taken, leftL (lostL s) taken) (candN (ddS (barred ++ (addAll s.kept taken).map (·.1))) n)).1)), .fz (.int ((fillT size (addAll s.kept taken, leftL (lostL s) taken) (candN (ddS (barred ++ (addAll s.kept taken).map (·.1))) n)).2)), .un, .un, .fz (.dset (ddS (barred ++ ((addAll s.kept taken).map (·.1)))))]) (s_nil) (by rw [List.take_length]))) (by rw [if_pos c4]; rfl)) (fun c4 => s_to (s_le (ρ2 := [.fz (.tup [(.int s.room), (.int s.many), (.int s.off), (.tup (s.kept.map pD))]), .fz (.lst (taken.map pD)), .fz (.int size), .fz (.tup (barred.map D.str)), .ow (.dct (addAll s.kept taken)), .un, .un, .un, .un]) (s_nil)) (by rw [c4]; rfl))) <| s_last (s_ret (f_callT g c_tupleL (T.fr "tuple") (av_cons (((n_callB g (c_srtPM g) (T.fr "sorted") (av_cons (((SemNG.lock (d_own g 4) (LcS.n (lc_If g (xs := if decide (0 < leftL (lostL s) taken) = true then twNew (addAll s.kept taken) size (leftL (lostL s) taken) barred n else addAll s.kept taken) (own := [("name", 6)]) (out := (fun x8 => (.tup [(.str x8.1), (.int x8.2)]))) (fl := fun x8 => decide (0 < x8.2)) it_keysI (blkOk_by (by decide +kernel)) (pgb g 6) (fun _ _ => tg_name 6) (fun _ _ _ _ _ x8 m9 => (t_cmp o_gt (((f_ixD (g.blk _ _ _ _ _ _) (v_own (g.blk _ _ _ _ _ _) 4) (((f_name (g.blk _ _ _ _ _ _) 6)).v) (dgo_mem (tw_nd hp) m9))).v) ((f_int).v))) (fun _ _ _ _ _ x8 m9 h10 => (f_tup (a_cons (f_name (g.blk _ _ _ _ _ _) 6) (a_cons (f_ixD (g.blk _ _ _ _ _ _) (v_own (g.blk _ _ _ _ _ _) 4) (((f_name (g.blk _ _ _ _ _ _) 6)).v) (dgo_mem (tw_nd hp) m9)) a_nil)) (by simp))) (by have := tw_len hp; omega))))).v) av_nil))).v) av_nil)))) (by rw [List.take_length])) rfl
def R_layer_steps : List D → D → Prop := fun ds d => ∃ (room : Int) (ns : List Str), ds = [(.int room), (.lst (ns.map D.str))] ∧ d = .lst ((layerS room ns).map stpD)
theorem w_layer_steps (T : Top K w mg) : Fn P w K mg base "layer_steps" 1 R_layer_steps := by
  refine fn_top T 36 ["room", "names"] ["room", "names"] (by decide) (by decide +kernel) (fun _ _ _ _ _ _ us hl => match us, hl with | [_, _], _ => rfl) (by rintro _ _ ⟨room, ns, rfl, rfl⟩; rfl) ?_
  intro X gf eP ew eK em eb ds d hR
  subst eP ew eK em eb
  obtain ⟨room, ns, rfl, rfl⟩ := hR
  have hsc := Eq.refl (defScope (top 36))
  conv at hsc => rhs; whnf
  rw [hsc] at gf
  have g := gf.g
  refine .inl (?_ : Dos X _ [.fz (.int room), .fz (.lst (ns.map D.str))] (.rt (.lst ((layerS room ns).map stpD))))
  exact s_out (s_last (s_ret (((n_lst (a_cons (f_tup (a_cons f_str (a_cons (f_callT g c_tupleL (T.fr "tuple") (av_cons (((SemN.is (d' := (.lst ((cutA ns none (some room)).map D.str))) (n_slL (ds := (ns.map D.str)) (l := none) (u := (some room)) (((f_name g 1)).v) PtS.no (PtS.yes (((f_name g 0)).v))) (by rw [cutD_map]))).v) av_nil)) a_nil)) (by simp)) (a_cons (f_tup (a_cons f_str (a_cons (f_callT g c_tupleL (T.fr "tuple") (av_cons (((SemN.is (d' := (.lst ((cutA ns (some room) none).map D.str))) (n_slL (ds := (ns.map D.str)) (l := (some room)) (u := none) (((f_name g 1)).v) (PtS.yes (((f_name g 0)).v)) PtS.no) (by rw [cutD_map]))).v) av_nil)) a_nil)) (by simp)) (a_cons (f_tup (a_cons f_str a_nil) (by simp)) a_nil))) (by simp))).f))) rfl
def R_repeated : List D → D → Prop := fun ds d => ∃ (ps : List (Str × Int)), ((repL ps).length ≤ 1000 ∧ ∀ p ∈ ps, 0 ≤ p.2) ∧ ds = [(.tup (ps.map pD))] ∧ d = .tup ((repL ps).map D.str)
theorem w_repeated (T : Top K w mg) : Fn P w K mg base "repeated" 1 R_repeated := by
  refine fn_top T 38 ["counts", "found", "name", "number"] ["counts"] (by decide) (by decide +kernel) (fun _ _ _ _ _ _ us hl => match us, hl with | [_], _ => rfl) (by rintro _ _ ⟨ps, hp, rfl, rfl⟩; rfl) ?_
  intro X gf eP ew eK em eb ds d hR
  subst eP ew eK em eb
  obtain ⟨ps, hp, rfl, rfl⟩ := hR
  have hsc := Eq.refl (defScope (top 38))
  conv at hsc => rhs; whnf
  rw [hsc] at gf
  have g := gf.g
  refine .inl (?_ : Dos X _ [.fz (.tup (ps.map pD)), .un, .un, .un] (.rt (.tup ((repL ps).map D.str))))
  exact s_out (s_cons (s_new gf 1 (n_lst a_nil (by simp))) <| s_cons (s_for gf (xs := ps) (rs := (fun i1 => [.fz (.tup (ps.map pD)), .ow (.lst ((repL (ps.take i1)).map D.str)), .un, .un])) (if_tup (xs := ps) (enc := pD) (f_name g 0)) (by repeat (first | exact trivial | refine ⟨.inr rfl, ?_⟩ | refine ⟨.inl rfl, ?_⟩)) (gf.pg2 2 3) (fun _ _ _ => tx_pair 2 3) (fun i1 x2 hx3 => s_to (s_le (ρ2 := [.fz (.tup (ps.map pD)), .ow (.lst ((repL (ps.take i1) ++ List.replicate x2.2.toNat x2.1).map D.str)), .un, .un]) (s_cons (s_ext (ds := ((repL (ps.take i1)).map D.str)) g 1 (((SemN.is (d' := (.lst ((List.replicate x2.2.toNat x2.1).map D.str))) (n_rep (d := (.str x2.1)) (i := x2.2) (n_lst (a_cons (f_name g 2) a_nil) (by simp)) (((f_name g 3)).v) (hp.2 x2 (List.mem_of_getElem? hx3)) (by have h1 := repL_mem (List.mem_of_getElem? hx3); have h2 := hp.1; omega)) (by rw [List.map_replicate]))).f) (by have h1 := repL_mem (List.mem_of_getElem? hx3); have h2 := hp.1; have h3 := repL_take_len ps i1; simp only [List.length_map, List.length_replicate]; omega)) <| s_at (ρ1 := [.fz (.tup (ps.map pD)), .ow (.lst ((repL (ps.take i1) ++ List.replicate x2.2.toNat x2.1).map D.str)), .fz (.str x2.1), .fz (.int x2.2)]) (s_nil) (by first | (simp only [List.map_append]; done) | (simp only [List.map_append]; rfl)))) (by unfold repL; rw [foldl_take hx3]))) <| s_at (ρ1 := [.fz (.tup (ps.map pD)), .ow (.lst ((repL ps).map D.str)), .un, .un]) (s_last (s_ret (f_callT g c_tupleL (T.fr "tuple") (av_cons (v_own g 1) av_nil)))) (by rw [List.take_length])) rfl
end
end KD

set_option Elab.async false
set_option linter.all false
set_option maxRecDepth 100000
set_option maxHeartbeats 2000000
/-! WL: layers_of, a list of lists that are filled. -/
namespace KD
open PySem PySem.Spec PyProof.Rows L2
local instance : Vol := volNone
structure Nest (F H0 H : Hp) (R : Addr) (ps : List Addr) (ls : List (List Str)) : Prop where
  top : H R = some (.lst (ps.map V.ref))
  r0 : H0 R = none
  rF : F R = none
  len : ps.length = ls.length
  at_ : ∀ (j : Nat) (p : Addr) (l : List Str), ps[j]? = some p → ls[j]? = some l → H p = some (.lst (l.map V.str))
  p0 : ∀ p ∈ ps, H0 p = none ∧ F p = none ∧ p ≠ R
  nd : ps.Nodup
theorem Nest.get {F H0 H : Hp} {R : Addr} {ps : List Addr} {ls : List (List Str)} (n : Nest F H0 H R ps ls) {p : Addr} (h : p ∈ ps) : ∃ l, H p = some (.lst l) := by
  obtain ⟨j, hj⟩ := List.getElem?_of_mem h
  have hl : j < ls.length := by
    rw [← n.len]
    exact (List.getElem?_eq_some_iff.mp hj).1
  exact ⟨_, n.at_ j p _ hj (List.getElem?_eq_getElem hl)⟩
theorem Nest.step {F H0 H F' H' : Hp} {R : Addr} {ps : List Addr} {ls : List (List Str)} (n : Nest F H0 H R ps ls) (t : Step F H F' H') : Nest F' H0 H' R ps ls :=
  ⟨t.hh _ _ (fun z => z) n.top, n.r0, t.off _ n.rF (by rw [n.top]; exact fun z => nomatch z), n.len, fun j p l a b => t.hh _ _ (fun z => z) (n.at_ j p l a b), fun p hp => ⟨(n.p0 p hp).1, by
    obtain ⟨l, h⟩ := n.get hp
    exact t.off _ (n.p0 p hp).2.1 (by rw [h]; exact fun z => nomatch z), (n.p0 p hp).2.2⟩, n.nd⟩
theorem Nest.put {F H0 H : Hp} {R : Addr} {ps : List Addr} {ls : List (List Str)} (n : Nest F H0 H R ps ls) {j : Nat} {p : Addr} {l : List Str} (hp : ps[j]? = some p) (hl : ls[j]? = some l) (x : Str) :
    Nest F H0 (upd H p (.lst (l.map V.str ++ [.str x]))) R ps (ls.set j (l ++ [x])) := by
  have hm := List.mem_of_getElem? hp
  refine ⟨by rw [upd_ne fun z => (n.p0 p hm).2.2 z.symm]; exact n.top, n.r0, n.rF, by rw [List.length_set]; exact n.len, fun i q m hq hm' => ?_, n.p0, n.nd⟩
  by_cases e : q = p
  · subst e
    have hij : i = j := by
      have h1 := (List.getElem?_eq_some_iff.mp hq)
      have h2 := (List.getElem?_eq_some_iff.mp hp)
      obtain ⟨a1, e1⟩ := h1
      obtain ⟨a2, e2⟩ := h2
      have pw := List.pairwise_iff_getElem.mp n.nd
      rcases Nat.lt_trichotomy i j with z | z | z
      · exact absurd (e1.trans e2.symm) (pw i j a1 a2 z)
      · exact z
      · exact absurd (e2.trans e1.symm) (pw j i a2 a1 z)
    subst hij
    rw [List.getElem?_set_self (List.getElem?_eq_some_iff.mp hl).1] at hm'
    cases hm'
    rw [upd_same, List.map_append]
    rfl
  · have hij : i ≠ j := fun z => by
      subst z
      rw [hp] at hq
      exact e (Option.some.inj hq).symm
    rw [List.getElem?_set_ne fun z => hij z.symm] at hm'
    rw [upd_ne e]
    exact n.at_ i q m hq hm'
theorem nest_reps {F : Hp} : ∀ {ps : List Addr} {ls : List (List Str)}, ps.length = ls.length → (∀ (j : Nat) (p : Addr) (l : List Str), ps[j]? = some p → ls[j]? = some l → F p = some (.lst (l.map V.str))) → Reps F (ps.map V.ref) (ls.map fun l => .lst (l.map D.str))
  | [], [], _, _ => rfl
  | p :: ps, l :: ls, h, k => ⟨.ref p, ps.map V.ref, rfl, ⟨p, l.map V.str, rfl, k 0 p l rfl rfl, Reps.mk (f := D.str) (g := V.str) (fun _ => rfl) l⟩, nest_reps (Nat.succ.inj h) fun j q m a b => k (j + 1) q m a b⟩
theorem Nest.freeze {F0 H0 F H : Hp} {R : Addr} {ps : List Addr} {ls : List (List Str)} (n : Nest F H0 H R ps ls) (t : Step F0 H0 F H) : ∃ F', Step F0 H0 F' H ∧ Rep F' (.ref R) (.lst (ls.map fun l => .lst (l.map D.str))) := by
  classical
  let F' : Hp := fun a => if a = R ∨ a ∈ ps then H a else F a
  have hin : ∀ a, a = R ∨ a ∈ ps → F' a = H a := fun a h => if_pos h
  have hout : ∀ a, ¬ (a = R ∨ a ∈ ps) → F' a = F a := fun a h => if_neg h
  have hF : ∀ a, a = R ∨ a ∈ ps → F a = none ∧ H0 a = none := fun a h => by
    rcases h with h | h
    · rw [h]
      exact ⟨n.rF, n.r0⟩
    · exact ⟨(n.p0 a h).2.1, (n.p0 a h).1⟩
  refine ⟨F', ⟨fun a o e => ?_, ⟨fun a o e => ⟨?_, fun z => z⟩, trivial⟩, t.hh, fun a h1 h2 => ?_, trivial⟩, R, ps.map V.ref, rfl, ?_, nest_reps n.len fun j p l a b => ?_⟩
  · have e2 := t.ex a o e
    rw [hout a fun z => by
      rw [(hF a z).1] at e2
      cases e2]
    exact e2
  · by_cases z : a = R ∨ a ∈ ps
    · rw [hin a z] at e
      exact .inl e
    · rw [hout a z] at e
      exact (t.fz a o e).1
  · rw [hout a fun z => h2 (hF a z).2]
    exact t.off a h1 h2
  · rw [hin R (.inl rfl)]
    exact n.top
  · rw [hin p (.inr (List.mem_of_getElem? a))]
    exact n.at_ j p l a b
/-- writing at an address that no slot owns -/
theorem SX.wr {F0 H0 F H : Hp} {ρ : List SV} {σ : L2.St} (s : SX F0 H0 ρ σ F H) (hno : ∀ (i : Nat) (d : D), ρ[i]? ≠ some (.ow d)) {p : Addr} {o : HO} (h0 : H0 p = none) (hF : F p = none) : SX F0 H0 ρ σ F (upd H p o) := by
  obtain ⟨ad, h1, h2, h3⟩ := s.ex
  exact ⟨s.st.write h0 hF, s.len, ad, h1, fun i d e => absurd e (hno i d), h3⟩
/-! the rows, as lists -/
theorem layL_nil (off : Nat) : layL off [] = List.replicate off [] := by
  unfold layL
  rw [List.eq_replicate_iff]
  exact ⟨by simp, fun l hl => by
    obtain ⟨j, _, rfl⟩ := List.mem_map.mp hl
    rfl⟩
theorem layL_len (off : Nat) (seq : List Str) : (layL off seq).length = off := by
  unfold layL
  rw [List.length_map, List.length_range]
theorem layL_get {off : Nat} (seq : List Str) {j : Nat} (h : j < off) : (layL off seq)[j]? = some ((seq.zipIdx.filter fun q => decide (q.2 % off = j)).map (·.1)) := by
  unfold layL
  rw [List.getElem?_map, List.getElem?_range h]
  rfl
theorem layL_snoc {off : Nat} (h0 : 0 < off) (seq : List Str) (x : Str) {l : List Str} (hl : (layL off seq)[seq.length % off]? = some l) : layL off (seq ++ [x]) = (layL off seq).set (seq.length % off) (l ++ [x]) := by
  refine List.ext_getElem? fun j => ?_
  have hm := Nat.mod_lt seq.length h0
  by_cases hj : j < off
  · rw [layL_get _ hj]
    have ez : (seq ++ [x]).zipIdx = seq.zipIdx ++ [(x, seq.length)] := by
      rw [List.zipIdx_append]
      simp
    rw [ez, List.filter_append, List.map_append]
    by_cases e : seq.length % off = j
    · subst e
      rw [List.getElem?_set_self (by rw [layL_len]; exact hm)]
      rw [layL_get _ hm] at hl
      cases hl
      simp
    · rw [List.getElem?_set_ne e, layL_get _ hj]
      simp [e]
  · rw [List.getElem?_eq_none (by rw [layL_len]; omega), List.getElem?_eq_none (by rw [List.length_set, layL_len]; omega)]
theorem atI_mod {α : Type} {xs : List α} {n : Nat} {off : Int} (ho : 0 < off) (hl : (xs.length : Int) = off) {x : α} (hx : xs[n % off.toNat]? = some x) : atI xs ((n : Int) % off) = some x := by
  have e : (n : Int) % off = ((n % off.toNat : Nat) : Int) := by
    rw [Int.natCast_emod, Int.toNat_of_nonneg (Int.le_of_lt ho)]
  have hm : n % off.toNat < off.toNat := Nat.mod_lt _ (by omega)
  unfold atI ixN
  rw [e, if_pos (by omega), if_pos (by omega)]
  exact hx
/-- a for loop over any invariant -/
theorem for_go {X : Cx} {N : List Str} {sc : Scope} {k : Nat} {ρ : List SV} {tg iter : Expr} {α : Type} {xs : List α} {enc : α → D} {pos : Pos} {gt : TG} {body : List Stmt} {σ : L2.St} {F H : Hp} {E : Ends} (g : Gf X N sc k) (hi : ItF X tg iter ρ xs enc) (hg : PG X tg gt) (fz : Fz F H) (ok : SOk ρ σ F H)
    (h : ∀ F1 H1, Step F H F1 H1 → ∃ I : Nat → L2.St → Hp → Hp → Prop, I 0 σ F1 H1 ∧ (∀ i σ' F' H', I i σ' F' H' → Sub F1 F' ∧ Fz F' H') ∧
      (∀ i x σ' F' H' v, xs[i]? = some x → I i σ' F' H' → Rep F' v (enc x) → gt v σ' H' fun σ2 H2 => tSl X body { E with nx := fun σ3 H3 => ∃ F3, I (i + 1) σ3 F3 H3, ct := fun σ3 H3 => ∃ F3, I (i + 1) σ3 F3 H3, bk := E.nx } σ2 H2) ∧
      (∀ σ' F' H', I xs.length σ' F' H' → E.nx σ' H')) (hs : ∀ v, foldedSetIterable iter X.env v = pure v := by intro _; rfl) : tSs X (.For tg iter body [] pos) E σ H := by
  obtain ⟨wi, hpi, hw⟩ := hi
  refine psR (ps_for g.own g.g.calm hpi hg pssS hs) (hw σ F H _ fz ok fun J F1 H1 t1 w1 => ?_)
  obtain ⟨I, h0, hI, hB, hE⟩ := h F1 H1 t1
  refine ⟨fun i m σ' H' => m = xs.length - i ∧ i ≤ xs.length ∧ ∃ F', I i σ' F' H', ⟨xs.length, by simp, Nat.zero_le _, F1, h0⟩, ?_⟩
  rintro i m σ2 H2 ⟨rfl, hi, F2, s2⟩
  obtain ⟨k1, k2⟩ := hI _ _ _ _ s2
  obtain ⟨wgo, wstop⟩ := w1 F2 H2 k1 k2
  by_cases e : i = xs.length
  · subst e
    exact .inl ⟨wstop, hE _ _ _ s2⟩
  · have hlt : i < xs.length := by omega
    obtain ⟨x, hx⟩ : ∃ x, xs[i]? = some x := ⟨_, List.getElem?_eq_getElem hlt⟩
    obtain ⟨go, yl⟩ := wgo i x hx
    refine .inr ⟨go, fun σ' H' => ∃ F', I (i + 1) σ' F' H', fun σ' H' h' => ⟨xs.length - (i + 1), by omega, rfl, hlt, h'⟩, fun v H3 y => ?_⟩
    obtain ⟨e3, r3⟩ := yl v H3 y
    subst e3
    exact hB i x σ2 F2 _ v hx s2 r3
theorem SX.any {F0 H0 F H : Hp} {ρ : List SV} {σ : L2.St} (s : SX F0 H0 ρ σ F H) {i : Nat} (hi : ρ[i]? = some .un) (o : Option V) : SX F0 H0 ρ (σ.set i o) F H := by
  obtain ⟨ad, h1, h2, h3⟩ := s.ex
  refine ⟨s.st, by rw [List.length_set, s.len], ad, fun j d e => ?_, fun j d e => ?_, h3⟩
  · have n : i ≠ j := fun z => by
      subst z
      rw [hi] at e
      cases e
    rw [List.getElem?_set_ne n]
    exact h1 j d e
  · have n : i ≠ j := fun z => by
      subst z
      rw [hi] at e
      cases e
    rw [List.getElem?_set_ne n]
    exact h2 j d e
def R_layers_of : List D → D → Prop := fun ds d => ∃ (off : Int) (taken : List (Str × Int)), ((0 ≤ off ∧ off ≤ 2) ∧ (repL taken).length ≤ 1000 ∧ (off = 0 → repL taken = []) ∧ ∀ p ∈ taken, 0 ≤ p.2) ∧ ds = [.int off, .lst (taken.map pD)] ∧ d = .lst ((layL off.toNat (repL taken)).map fun l => .lst (l.map D.str))
section
variable {P : Program} {w : World} {K : PySem.W.Frag} {mg : Str → Option Value} {base : Heap}
set_option maxHeartbeats 4000000
theorem w_layers_of (T : Top K w mg) : Fn P w K mg base "layers_of" 1 R_layers_of := by
  refine fn_top T 37 ["off", "taken", "rows", "_", "at", "name", "number"] ["off", "taken"] (by decide) (by decide +kernel) (fun _ _ _ _ _ _ us hl => match us, hl with | [_, _], _ => rfl) (by rintro _ _ ⟨off, taken, hp, rfl, rfl⟩; rfl) ?_
  intro X gf eP ew eK em eb ds d hR
  subst eP ew eK em eb
  obtain ⟨off, taken, hp, rfl, rfl⟩ := hR
  have hsc := Eq.refl (defScope (top 37))
  conv at hsc => rhs; whnf
  rw [hsc] at gf
  have g := gf.g
  refine .inl (?_ : Dos X _ [.fz (.int off), .fz (.lst (taken.map pD)), .un, .un, .un, .un, .un] (.rt _))
  intro F0 H0 σ F H E s q
  have ho := hp.1
  -- rows = [[] for _ in range(off)]
  refine pssR (pss_cons (ps_setLc (wi := iRng1 (tSA X _)) (g := gName 3) (tt := tYes) (te := tLst tNil) (own := [("_", 3)]) (i := 2) g.calm g.ndX (by rw [g.hN] <;> rfl) (by rw [g.hsc] <;> rfl) (sw_true (by rw [g.hsc] <;> rfl) (by rw [g.hsc] <;> rfl) rfl rfl) (pi_range1 (gl_of g rfl) (T.fr "range") paS rfl) (by rw [g.hN, g.hsc]; exact blkOk_by (by decide +kernel)) (pgb g 3) (fun _ _ _ _ _ => pts_nil) (fun _ _ _ _ _ => pe_lst pa_nil)) pssS) ?_
  refine (av_cons (f_name g 0).v av_nil) σ F H _ s.st.fz s.ok fun vs F1 H1 t1 r1 => ?_
  obtain ⟨v, e, ev⟩ := pv1 r1
  subst e
  have ev : v = .int off := ev
  subst ev
  refine ⟨off, rfl, by omega, by omega, fun R hR => ?_⟩
  have s1 := s.step t1
  have hR0 : H0 R = none := s1.st.back hR
  have hRF : F1 R = none := t1.fz.none hR
  refine lc_range (fun i H' => ∃ ps : List Addr, ps.length = i ∧ H' R = some (.lst (ps.map V.ref)) ∧ Step F1 H1 F1 H' ∧ (∀ p ∈ ps, H' p = some (.lst []) ∧ H1 p = none ∧ p ≠ R) ∧ ps.Nodup) ⟨[], rfl, upd_same, (Step.refl t1.fz).write hR hRF, fun p hp => (nomatch hp), List.nodup_nil⟩ (fun i H' hi ⟨ps, e1, e2, e3, e4, e5⟩ => ?_) (fun H2 ⟨ps, e1, e2, e3, e4, e5⟩ => ?_)
  · refine ⟨(wipe_set (vs := [3]) List.mem_cons_self).trans (wipe_wipe [3]), ?_⟩
    unfold tYes
    simp only [if_true]
    refine ⟨Nat.zero_le _, fun p hp => ⟨ps.map V.ref, ?_, ?_, ps ++ [p], ?_, ?_, ?_, ?_, ?_⟩⟩
    · rw [upd_ne (ne_of_none e2 hp)]
      exact e2
    · rw [List.length_map, sizeLine_eq]
      omega
    · rw [List.length_append, e1]
      rfl
    · rw [upd_same, List.map_append]
      rfl
    · have h1 : H1 p = none := e3.back hp
      exact (e3.write h1 (t1.fz.none h1)).write hR hRF
    · have hpR : p ≠ R := fun z => by
        rw [z, e2] at hp
        cases hp
      intro x hx
      rcases List.mem_append.mp hx with hx | hx
      · obtain ⟨k1, k2, k3⟩ := e4 x hx
        refine ⟨?_, k2, k3⟩
        rw [upd_ne k3, upd_ne (ne_of_none k1 hp)]
        exact k1
      · have ex := List.mem_singleton.mp hx
        subst ex
        refine ⟨by rw [upd_ne hpR, upd_same], e3.back hp, hpR⟩
    · rw [List.nodup_append]
      refine ⟨e5, by simp, fun x hx y hy z => ?_⟩
      have ey := List.mem_singleton.mp hy
      subst ey z
      rw [(e4 x hx).1] at hp
      cases hp
  -- at = 0
  have nest : Nest F1 H0 H2 R ps (layL off.toNat []) := by
    refine ⟨e2, hR0, hRF, by rw [layL_len, e1], fun j p l hp hl => ?_, fun p hp => ⟨s1.st.back (e4 p hp).2.1, t1.fz.none (e4 p hp).2.1, (e4 p hp).2.2⟩, e5⟩
    rw [layL_nil] at hl
    have el := List.eq_of_mem_replicate (List.mem_of_getElem? hl)
    subst el
    exact (e4 p (List.mem_of_getElem? hp)).1
  have s2 : SX F0 H0 [.fz (.int off), .fz (.lst (taken.map pD)), .un, .un, .un, .un, .un] σ F1 H2 := s1.step e3
  have hlen : σ.length = 7 := s.len
  -- at = 0
  refine pssR (pss_cons (ps_set (i := 4) g.ndX (by rw [g.hN] <;> rfl) (by rw [g.hsc]; exact .inl rfl) pe_int rfl (.inl (gf.fn _))) pssS) ?_
  have s3 : SX F0 H0 [.fz (.int off), .fz (.lst (taken.map pD)), .un, .un, .fz (.int 0), .un, .un] ((σ.set 2 (some (.ref R))).set 4 (some (.int 0))) F1 H2 := (s2.any (i := 2) rfl _).set (i := 4) (v := .int 0) (d := .int 0) rfl (Nat.le_of_ble_eq_true rfl)
  have hs2 : ((σ.set 2 (some (.ref R))).set 4 (some (.int 0)))[2]? = some (some (.ref R)) := by
    rw [List.getElem?_set_ne (by decide), List.getElem?_set_self (by omega)]
  show tSl X _ E ((σ.set 2 (some (.ref R))).set 4 (some (.int 0))) H2
  generalize ((σ.set 2 (some (.ref R))).set 4 (some (.int 0))) = σ3 at s3 hs2
  -- for name, number in taken
  refine pssR (pss_cons psS pssS) (for_go gf (xs := taken) (if_lst (f_name g 1)) (gf.pg2 5 6) s3.st.fz s3.ok fun F2 H3 t2 => ⟨fun i σ' F' H' => SX F0 H0 [.fz (.int off), .fz (.lst (taken.map pD)), .un, .un, .fz (.int ((repL (taken.take i)).length : Nat)), .un, .un] σ' F' H' ∧ σ'[2]? = some (some (.ref R)) ∧ Nest F' H0 H' R ps (layL off.toNat (repL (taken.take i))) ∧ Sub F2 F', ⟨s3.step t2, hs2, nest.step t2, fun _ _ e => e⟩, fun i σ' F' H' h => ⟨h.2.2.2, h.1.st.fz⟩, ?_, ?_⟩)
  · intro i x σ4 F4 H4 v hx ⟨s4, h42, n4, sb4⟩ rv
    obtain ⟨p, xs, o, ev, hpv, _, z⟩ := Rep.vl s4.st.fz rv
    obtain ⟨a, r1, e1', z1, b, r2, e2', z2, e3'⟩ := z
    have e3' : r2 = [] := e3'
    have z1 : a = .str x.1 := z1
    have z2 : b = .int x.2 := z2
    subst ev e3' e2' e1' z1 z2
    refine ⟨p, _, rfl, .inl (.inr ⟨o, hpv⟩), rfl, _, _, rfl, _, _, rfl, rfl, ?_⟩
    have s5 : SX F0 H0 [.fz (.int off), .fz (.lst (taken.map pD)), .un, .un, .fz (.int ((repL (taken.take i)).length : Nat)), .fz (.str x.1), .fz (.int x.2)] ((σ4.set 5 (some (.str x.1))).set 6 (some (.int x.2))) F4 H4 :=
      (s4.set (i := 5) (v := .str x.1) (d := .str x.1) rfl (Nat.le_of_ble_eq_true rfl)).set (i := 6) (v := .int x.2) (d := .int x.2) rfl (Nat.le_of_ble_eq_true rfl)
    have h52 : ((σ4.set 5 (some (.str x.1))).set 6 (some (.int x.2)))[2]? = some (some (.ref R)) := by
      rw [List.getElem?_set_ne (by decide), List.getElem?_set_ne (by decide)]
      exact h42
    generalize ((σ4.set 5 (some (.str x.1))).set 6 (some (.int x.2))) = σ5 at s5 h52
    have hb := repL_mem (List.mem_of_getElem? hx)
    have hb2 := hp.2.1
    have hneg := hp.2.2.2 x (List.mem_of_getElem? hx)
    refine pssR (pss_one psS) (for_go gf (xs := List.range x.2.toNat) (if_rng g (f_name g 6).v (by omega) (by omega) (T.fr "range")) (gf.pg (j := 3) rfl rfl) s5.st.fz s5.ok fun F6 H6 t6 => ⟨fun j σ' F' H' => SX F0 H0 [.fz (.int off), .fz (.lst (taken.map pD)), .un, .un, .fz (.int ((repL (taken.take i) ++ List.replicate j x.1).length : Nat)), .fz (.str x.1), .fz (.int x.2)] σ' F' H' ∧ σ'[2]? = some (some (.ref R)) ∧ Nest F' H0 H' R ps (layL off.toNat (repL (taken.take i) ++ List.replicate j x.1)) ∧ Sub F6 F' ∧ Sub F2 F', ⟨?_, h52, ?_, fun _ _ e => e, fun a o e => t6.ex a o (sb4 a o e)⟩, fun i σ' F' H' h => ⟨h.2.2.2.1, h.1.st.fz⟩, ?_, ?_⟩)
    · rw [List.replicate_zero, List.append_nil]
      exact s5.step t6
    · rw [List.replicate_zero, List.append_nil]
      exact n4.step t6
    · intro j y σ7 F7 H7 v7 hy ⟨s7, h72, n7, sb7, sb7'⟩ rv7
      obtain ⟨ej, hj⟩ := range_get hy
      subst ej
      have hoff : 0 < off := by
        rcases Int.lt_or_le 0 off with z | z
        · exact z
        · have h0 : off = 0 := by omega
          have h1 := hp.2.2.1 h0
          rw [h1] at hb
          simp at hb
          omega
      show tSl X _ _ (σ7.set 3 (some v7)) H7
      have s8 := s7.any (i := 3) rfl (some v7)
      have h82 : (σ7.set 3 (some v7))[2]? = some (some (.ref R)) := by
        rw [List.getElem?_set_ne (by decide)]
        exact h72
      generalize (σ7.set 3 (some v7)) = σ8 at s8 h82
      generalize hseq : repL (taken.take i) ++ List.replicate j x.1 = seq at s8 n7
      have hm : seq.length % off.toNat < off.toNat := Nat.mod_lt _ (by omega)
      have hpl : seq.length % off.toNat < ps.length := by rw [n7.len, layL_len]; exact hm
      obtain ⟨pj, hpj⟩ : ∃ pj, ps[seq.length % off.toNat]? = some pj := ⟨_, List.getElem?_eq_getElem hpl⟩
      obtain ⟨lj, hlj⟩ : ∃ lj, (layL off.toNat seq)[seq.length % off.toNat]? = some lj := ⟨_, List.getElem?_eq_getElem (by rw [layL_len]; exact hm)⟩
      have hsl : seq.length ≤ 2000 := by
        have := repL_take_len taken i
        rw [← hseq, List.length_append, List.length_replicate]
        omega
      refine pssR (pss_cons (ps_expr (pe_bm PySem.F.plainAttrs_list PySem.F.slot_list_append PySem.F.type_list_append mt_append (pe_ix ix_list (pe_nm g (i := 2) rfl rfl (by decide) (by decide)) peS (fun _ _ => rfl)) (pa_cons peS pa_nil rfl) rfl rfl rfl rfl rfl) rfl) pssS) ⟨.ref R, h82, ?_⟩
      refine (f_op (o_mod hoff) (f_name g 4).v (f_name g 0).v) σ8 F7 H7 _ s8.st.fz s8.ok fun vi F9 H9 t9 r9 => ?_
      have n9 := n7.step t9
      have s9 := s8.step t9
      have hpH := n9.at_ _ _ _ hpj hlj
      refine ⟨R, ps.map V.ref, _, .ref pj, rfl, r9, .inl (.inl n9.top), atI_mod hoff (by rw [List.length_map, n9.len, layL_len]; omega) (by rw [List.getElem?_map, hpj]; rfl), .inl ⟨rfl, _, .inl (.inl hpH)⟩, ?_⟩
      refine (f_name g 5) σ8 F9 H9 _ s9.st.fz s9.ok fun vn F10 H10 t10 r10 => ?_
      have n10 := n9.step t10
      have s10 := s9.step t10
      have hpH' := n10.at_ _ _ _ hpj hlj
      have evn : vn = .str x.1 := r10
      subst evn
      refine ⟨pj, lj.map V.str, .str x.1, rfl, rfl, hpH', ?_, ?_⟩
      · have e := layL_get (off := off.toNat) seq hm
        rw [hlj] at e
        cases e
        rw [List.length_map, List.length_map, sizeLine_eq]
        have h1 := List.length_filter_le (fun q : Str × Nat => decide (q.2 % off.toNat = seq.length % off.toNat)) seq.zipIdx
        rw [List.length_zipIdx] at h1
        omega
      have hpm := List.mem_of_getElem? hpj
      have n11 := n10.put hpj hlj x.1
      rw [← layL_snoc (by omega) seq x.1 hlj] at n11
      have s11 : SX F0 H0 [.fz (.int off), .fz (.lst (taken.map pD)), .un, .un, .fz (.int (seq.length : Nat)), .fz (.str x.1), .fz (.int x.2)] σ8 F10 (upd H10 pj (.lst (lj.map V.str ++ [.str x.1]))) :=
        s10.wr (fun i d => by
          rcases i with _ | _ | _ | _ | _ | _ | _ | i <;> simp) (n10.p0 pj hpm).1 (n10.p0 pj hpm).2.1
      -- at += 1
      obtain ⟨v4, a4, r4⟩ : ∃ v, σ8[4]? = some (some v) ∧ v = .int (seq.length : Nat) := by
        obtain ⟨ad, k1, _, _⟩ := s11.ex
        exact k1 4 _ rfl
      refine pssR (pss_one (ps_aug (i := 4) g.ndX (by rw [g.hN] <;> rfl) (by rw [g.hsc]; exact .inl rfl) pe_int ip_add (.inl (gf.fn _)))) ⟨v4, a4, _, _, r4, rfl, F10, ?_⟩
      refine ⟨?_, ?_, ?_, fun a o e => t10.ex a o (t9.ex a o (sb7 a o e)), fun a o e => t10.ex a o (t9.ex a o (sb7' a o e))⟩
      · have e : (repL (taken.take i) ++ List.replicate (j + 1) x.1) = seq ++ [x.1] := by rw [List.replicate_succ', ← List.append_assoc, hseq]
        rw [e, List.length_append]
        exact s11.set (i := 4) (v := .int (seq.length + 1 : Int)) (d := .int ((seq.length + 1 : Nat) : Int)) rfl (Nat.le_of_ble_eq_true rfl)
      · rw [List.getElem?_set_ne (by decide)]
        exact h82
      · have e : (repL (taken.take i) ++ List.replicate (j + 1) x.1) = seq ++ [x.1] := by rw [List.replicate_succ', ← List.append_assoc, hseq]
        rw [e]
        exact n11
    · intro σ7 F7 H7 ⟨s7, h72, n7, sb7, sb7'⟩
      rw [List.length_range] at s7 n7
      have e : repL (taken.take (i + 1)) = repL (taken.take i) ++ List.replicate x.2.toNat x.1 := by
        unfold repL
        rw [foldl_take hx]
      refine ⟨F7, ?_, h72, ?_, sb7'⟩
      · rw [e]
        exact s7.le (by repeat (first | exact trivial | refine ⟨.inl rfl, ?_⟩ | refine ⟨.inr rfl, ?_⟩))
      · rw [e]
        exact n7
  · intro σ4 F4 H4 ⟨s4, h42, n4, sb4⟩
    rw [List.take_length] at n4
    refine pssR (pss_one (ps_ret (pe_nm g (i := 2) rfl rfl (by decide) (by decide)))) ⟨.ref R, h42, ?_⟩
    -- all of it is frozen
    obtain ⟨F5, t5, r5⟩ := n4.freeze s4.st
    exact q _ F5 H4 t5 r5
end
end KD

set_option Elab.async false
set_option linter.all false
set_option maxRecDepth 100000
/-! Sem2: what the questions' defs compute. -/
namespace KD
open PySem PySem.Spec PyProof.Rows L2
local instance : Vol := volNone
inductive Qn where
  | count (n : Str) | lot (ns : List Str) | apart (a b : Str) | place (n : Str) | first (m : Int) | unlike | squares
def qD : Qn → D
  | .count n => .tup [.str "count", .str n]
  | .lot ns => .tup [.str "lot", .tup (ns.map .str)]
  | .apart a b => .tup [.str "apart", .str a, .str b]
  | .place n => .tup [.str "place", .str n]
  | .first m => .tup [.str "first", .int m]
  | .unlike => .tup [.str "unlike"]
  | .squares => .tup [.str "squares"]
def LotOk (ns : List Str) : Prop := ns.length ≤ 40 ∧ (∀ x ∈ ns, NameOk x) ∧ AscS ns
def QnOk : Qn → Prop
  | .count n => NameOk n
  | .lot ns => LotOk ns
  | .apart a b => NameOk a ∧ NameOk b ∧ a ≠ b
  | .place n => NameOk n
  | .first m => 1 ≤ m ∧ m ≤ 40
  | .unlike => True
  | .squares => True
def namesQ : Qn → List Str
  | .count n => [n]
  | .lot ns => ns
  | .apart a b => [a, b]
  | .place n => [n]
  | _ => []
def tkL (s : Sk) (ps : List (Str × Int)) : List (Str × Int) := ps.map fun z => (z.1, z.2 - (dgo s.kept z.1).getD 0)
def bcL (s : Sk) : List Str := (srtIS (s.kept.map fun z => (-z.2, z.1))).map (·.2)
def filL (off l : Int) (names : List Str) : List (Str × Int) × Int := names.foldl (fun a n => (a.1 ++ [(n, min off a.2)], a.2 - min off a.2)) ([], l)
def raStep (off : Int) (a : List (Str × Int) × Int) (t : Int × Str) : List (Str × Int) × Int := if decide (t.1 ≤ min off a.2) = true then (a.1 ++ [(t.2, t.1)], a.2 - t.1) else a
def raNeed (s : Sk) (name : Str) : List (Int × Str) := srtIS ((s.kept.filter fun z => !decide ((z.1 : Str) = name)).map fun z => (max 0 (((dgo s.kept name).getD 0) - z.2 + 1), z.1))
def raL (s : Sk) (name : Str) : List (Str × Int) × Int := (raNeed s name).foldl (raStep s.off) ([], lostL s)
def kget (s : Sk) (n : Str) : Int := (dgo s.kept n).getD 0
theorem atI_last {α : Type} (xs : List α) (x : α) : atI (xs ++ [x]) (-1) = some x := by
  unfold atI ixN
  rw [List.length_append, List.length_singleton, if_neg (by omega), if_pos (by omega)]
  show (xs ++ [x])[((-1 : Int) + ((xs.length + 1 : Nat) : Int)).toNat]? = some x
  have e : ((-1 : Int) + ((xs.length + 1 : Nat) : Int)).toNat = xs.length := by omega
  rw [e, List.getElem?_append_right (Nat.le_refl _), Nat.sub_self]
  rfl
theorem filL_len (off l : Int) (names : List Str) : (filL off l names).1.length = names.length := by
  have h : ∀ (names : List Str) (a : List (Str × Int) × Int), (names.foldl (fun a n => (a.1 ++ [(n, min off a.2)], a.2 - min off a.2)) a).1.length = a.1.length + names.length := by
    intro names
    induction names with
    | nil => exact fun a => rfl
    | cons n r ih =>
      intro a
      rw [List.foldl_cons, ih]
      show (a.1 ++ [(n, min off a.2)]).length + r.length = _
      rw [List.length_append, List.length_singleton, List.length_cons]
      omega
  have := h names ([], l)
  rw [List.length_nil, Nat.zero_add] at this
  exact this
theorem raStep_len (off : Int) (a : List (Str × Int) × Int) (t : Int × Str) : (raStep off a t).1.length ≤ a.1.length + 1 := by
  unfold raStep
  split
  · show (a.1 ++ [(t.2, t.1)]).length ≤ _
    rw [List.length_append, List.length_singleton]
    omega
  · omega
theorem raStep_pos {off : Int} {a : List (Str × Int) × Int} {t : Int × Str} (h : decide (t.1 ≤ min off a.2) = true) : raStep off a t = (a.1 ++ [(t.2, t.1)], a.2 - t.1) := if_pos h
theorem raStep_neg {off : Int} {a : List (Str × Int) × Int} {t : Int × Str} (h : decide (t.1 ≤ min off a.2) = false) : raStep off a t = a := if_neg (by rw [h]; exact Bool.false_ne_true)
theorem raF_len (off : Int) (xs : List (Int × Str)) : ∀ a : List (Str × Int) × Int, (xs.foldl (raStep off) a).1.length ≤ a.1.length + xs.length := by
  induction xs with
  | nil => exact fun a => Nat.le_refl _
  | cons x r ih =>
    intro a
    rw [List.foldl_cons, List.length_cons]
    have h1 := ih (raStep off a x)
    have h2 := raStep_len off a x
    omega
theorem raNeed_len (s : Sk) (name : Str) : (raNeed s name).length ≤ s.kept.length := by
  unfold raNeed srtIS
  rw [List.length_mergeSort, List.length_map]
  exact List.length_filter_le _ _
theorem bcL_len (s : Sk) : (bcL s).length = s.kept.length := by
  unfold bcL srtIS
  rw [List.length_map, List.length_mergeSort, List.length_map]
theorem dgo_some_mem {kvs : List (Str × Int)} {k : Str} {v : Int} (h : dgo kvs k = some v) : (k, v) ∈ kvs := by
  unfold dgo at h
  cases e : kvs.find? fun q => decide (q.1 = k) with
  | none =>
    rw [e] at h
    cases h
  | some q =>
    rw [e] at h
    have h1 : q.2 = v := Option.some.inj h
    have h2 : q.1 = k := by
      have h3 := List.find?_some e
      exact of_decide_eq_true h3
    have h3 := List.mem_of_find?_eq_some e
    rw [← h1, ← h2]
    exact h3
theorem sum_nn {α : Type} {f : α → Int} : ∀ {xs : List α}, (∀ x ∈ xs, 0 ≤ f x) → 0 ≤ (xs.map f).sum ∧ ∀ x ∈ xs, f x ≤ (xs.map f).sum
  | [], _ => ⟨Int.le_refl _, fun x h => nomatch h⟩
  | a :: r, h => by
    obtain ⟨h1, h2⟩ := sum_nn (f := f) (xs := r) fun x hx => h x (List.mem_cons_of_mem _ hx)
    have h0 := h a List.mem_cons_self
    rw [List.map_cons, List.sum_cons]
    refine ⟨by omega, fun x hx => ?_⟩
    rcases List.mem_cons.mp hx with e | hx
    · rw [e]
      omega
    · have := h2 x hx
      omega
theorem SkOk.lost0 {s : Sk} (h : SkOk s) : 0 ≤ lostL s := by
  have h1 := h.l1
  have h2 : 0 ≤ (s.room + 1) * s.off := Int.mul_nonneg (by have := h.r1; omega) h.o0
  omega
theorem SkOk.lost1 {s : Sk} (h : SkOk s) : lostL s ≤ 1500 := by
  have h1 := (sum_nn (f := fun z : Str × Int => z.2) (xs := s.kept) fun x hx => by have := (h.co.1 x hx).2; omega).1
  have h2 := h.m1
  unfold lostL
  omega
theorem SkOk.off0 {s : Sk} (h : SkOk s) (h0 : s.off = 0) : lostL s = 0 := by
  have h1 := h.l2
  have h2 := h.lost0
  rw [h0, Int.mul_zero] at h1
  omega
theorem SkOk.kv {s : Sk} (h : SkOk s) {p : Str × Int} (hp : p ∈ s.kept) : 1 ≤ p.2 ∧ p.2 ≤ 1500 := by
  have h1 := (sum_nn (f := fun z : Str × Int => z.2) (xs := s.kept) fun x hx => by have := (h.co.1 x hx).2; omega).2 p hp
  have h2 := (h.co.1 p hp).2
  have h3 := h.lost0
  have h4 := h.m1
  unfold lostL at h3
  omega
theorem SkOk.kg {s : Sk} (h : SkOk s) (n : Str) : 0 ≤ (dgo s.kept n).getD 0 ∧ (dgo s.kept n).getD 0 ≤ 1500 := by
  cases e : dgo s.kept n with
  | none => exact ⟨Int.le_refl _, by decide⟩
  | some v =>
    have := h.kv (dgo_some_mem e)
    show 0 ≤ v ∧ v ≤ 1500
    omega
end KD

set_option Elab.async false
set_option linter.all false
set_option maxRecDepth 100000
set_option maxHeartbeats 2000000
/-! KD12: dicts compared; a dict walked by a statement. -/
namespace KD
open PySem PySem.Spec PyProof.Rows L2
variable [Vol]
/-! ### dict != dict of the same content -/
def rNeR : R2 := fun x y H Q => ∃ a b ks ls, x = .ref a ∧ y = .ref b ∧ Rd H a (.dK ks) ∧ Rd H b (.dK ls) ∧ ks.length = ls.length ∧ (∀ p ∈ ks, valV ls p.1 = some p.2 ∧ flatB p.2 = true) ∧ Q (.bl false) H
theorem op_neR {X : Cx} (hu : X.A.units < cLine) : OpR X (compareOp .NotEq) rNeR := by
  intro pins s σ H x y v u Q I rx ry h
  obtain ⟨a, b, ks, ls, rfl, rfl, ea, eb, hlen, hp, q⟩ := h
  obtain rfl : v = Value.ref a := rx
  obtain rfl : u = Value.ref b := ry
  obtain ⟨_, ya, va, ra, da⟩ := dk_rd I.hok ea
  obtain ⟨_, yb, vb, rb, db⟩ := dk_rd I.hok eb
  have hl : va.length = vb.length := by rw [← ra.length, ← rb.length]; exact hlen
  exact PySem.W.keq_ne (knd := mixKind X.prog X.w) (r := true) ya yb da db hu (fun _ => hits_all rb ra hp) (fin_bl I q (by simp [hl]))
section
variable {X : Cx} {N : List Str} {sc : Scope} {k : Nat} {ρ : List SV} {pos p1 : Pos} {x : Str}
theorem o_neD (g : Gd X N sc k) {ks ls : List (Str × Int)} (hl : ks.length = ls.length) (h : ∀ p ∈ ks, dgo ls p.1 = some p.2) : Op2 X (compareOp .NotEq) (.dct ks) (.dct ls) (.bl false) :=
  ⟨_, op_neR (by have := g.hu64; omega), fun F H vx vy Q f rx ry q => by
    obtain ⟨a, ea, ra⟩ := rx
    obtain ⟨b, eb, rb⟩ := ry
    refine ⟨a, b, _, _, ea, eb, ra, rb, by unfold kvI; rw [List.length_map, List.length_map, hl], fun p hp => ?_, q _ F H (.refl f) rfl⟩
    unfold kvI at hp
    obtain ⟨q0, hq0, rfl⟩ := List.mem_map.mp hp
    refine ⟨?_, rfl⟩
    rw [dgo_val, h q0 hq0]
    rfl⟩
/-! ### for k in a dict: the dict is locked -/
theorem SX.rebaseF {F0 H0 F H : Hp} {ρ : List SV} {σ : L2.St} (s : SX F0 H0 ρ σ F H) : ∃ Hb, SX F Hb ρ σ F H ∧ (∀ a u, F a = some u → Hb a = H a) ∧ (∀ {F' H'}, Step F Hb F' H' → Step F0 H0 F' H') ∧ (∀ {ρ' σ' F' H'}, SX F Hb ρ' σ' F' H' → SX F0 H0 ρ' σ' F' H') := by
  classical
  obtain ⟨ad, h1, h2, h3⟩ := s.ex
  have own0 : ∀ (i : Nat) (d : D), ρ[i]? = some (.ow d) → H0 (ad i) = none := fun i d e => (h2 i d e).choose_spec.2.2.1
  let Hb : Hp := fun a => if ∃ i d, ρ[i]? = some (.ow d) ∧ a = ad i then none else H a
  have hb0 : ∀ a, H0 a ≠ none → Hb a = H a := fun a n => by
    refine if_neg fun ⟨i, d, e, z⟩ => n ?_
    rw [z]
    exact own0 i d e
  have hfe : ∀ a u, F a = some u → Hb a = H a := fun a u e => by
    refine if_neg fun ⟨i, d, e2, z⟩ => ?_
    rw [z, (h2 i d e2).choose_spec.2.2.2.1] at e
    cases e
  have hbs : Sub Hb H := fun a o e => by
    by_cases q : ∃ i d, ρ[i]? = some (.ow d) ∧ a = ad i
    · rw [show Hb a = none from if_pos q] at e
      cases e
    · rw [show Hb a = H a from if_neg q] at e
      exact e
  have hiv : Vol.inv Hb := Vol.kp s.st.fz.iv fun a u v e => by
    have : Hb a = H a := if_neg fun ⟨i, d, e2, z⟩ => s.st.nv (own0 i d e2) (z ▸ v)
    rw [this]
    exact e
  have bk : ∀ {F' H' : Hp}, Step F Hb F' H' → Step F0 H0 F' H' := fun {F' H'} t => by
    refine ⟨fun a o e => t.ex a o (s.st.ex a o e), t.fz, fun a o v e => t.hh a o v ?_, fun a q1 q2 => t.off a (s.st.off a q1 q2) ?_, s.st.iv0⟩
    · rw [hb0 a (by rw [e]; exact fun z => nomatch z)]
      exact s.st.hh a o v e
    · rw [hb0 a q2]
      exact s.st.al q2
  refine ⟨Hb, ⟨⟨fun _ _ e => e, s.st.fz, fun a o _ e => hbs a o e, fun _ e _ => e, hiv⟩, s.len, ad, h1, fun i d e => ?_, h3⟩, hfe, bk, fun {ρ' σ' F' H'} s' => ?_⟩
  · obtain ⟨o, x1, x2, x3, x4, x5⟩ := h2 i d e
    exact ⟨o, x1, x2, if_pos ⟨i, d, e, rfl⟩, x4, x5⟩
  · obtain ⟨ad', g1, g2, g3⟩ := s'.ex
    refine ⟨bk s'.st, s'.len, ad', g1, fun i d e => ?_, g3⟩
    obtain ⟨o, x1, x2, x3, x4, x5⟩ := g2 i d e
    refine ⟨o, x1, x2, ?_, x4, x5⟩
    cases e : H0 (ad' i) with
    | none => rfl
    | some u =>
      rw [hb0 _ (by rw [e]; exact fun z => nomatch z)] at x3
      exact absurd x3 (s.st.al (by rw [e]; exact fun z => nomatch z))
/-- as SX.rebase, the frozen dict at p locked -/
theorem SX.relock {F0 H0 F H : Hp} {ρ : List SV} {σ : L2.St} (s : SX F0 H0 ρ σ F H) {p : Addr} {ys : List (Key × V)} {od : Obj} (hF : F p = some (.dK ys)) (hH : H p = some (.dK ys)) :
    ∃ Hb, SX F Hb ρ σ F (upd H p (.frz od (.dK ys))) ∧ Hb p = some (.frz od (.dK ys)) ∧ (∀ {ρ' σ' F' H'}, SX F Hb ρ' σ' F' H' → H' p = some (.frz od (.dK ys)) ∧ SX F0 H0 ρ' σ' F' (upd H' p (.dK ys))) := by
  classical
  obtain ⟨ad, h1, h2, h3⟩ := s.ex
  have pn : ∀ (i : Nat) (d : D), ρ[i]? = some (.ow d) → p ≠ ad i := fun i d e z => by
    obtain ⟨o, _, _, _, c, _⟩ := h2 i d e
    rw [← z, hF] at c
    cases c
  let Hb : Hp := fun a => if ∃ i d, ρ[i]? = some (.ow d) ∧ a = ad i then none else upd H p (.frz od (.dK ys)) a
  have hbp : Hb p = some (.frz od (.dK ys)) := by
    have : Hb p = upd H p (.frz od (.dK ys)) p := if_neg fun ⟨i, d, e, z⟩ => pn i d e z
    rw [this, upd_same]
  have hb0 : ∀ a, H0 a ≠ none → a ≠ p → Hb a = H a := fun a n np => by
    have : Hb a = upd H p (.frz od (.dK ys)) a := if_neg fun ⟨i, d, e, z⟩ => n (by rw [z]; exact (h2 i d e).choose_spec.2.2.1)
    rw [this, upd_ne np]
  have hbs : Sub Hb (upd H p (.frz od (.dK ys))) := fun a o e => by
    by_cases q : ∃ i d, ρ[i]? = some (.ow d) ∧ a = ad i
    · rw [show Hb a = none from if_pos q] at e
      cases e
    · rw [show Hb a = _ from if_neg q] at e
      exact e
  have ndp : ¬ Vol.vol p := nv_lk s.st.fz.iv hH trivial
  have hiv : Vol.inv Hb := Vol.kp s.st.fz.iv fun a u v e => by
    have n : a ≠ p := fun z => ndp (z ▸ v)
    have : Hb a = upd H p (.frz od (.dK ys)) a := if_neg fun ⟨i, d, e2, z⟩ => s.st.nv (h2 i d e2).choose_spec.2.2.1 (z ▸ v)
    rw [this, upd_ne n]
    exact e
  refine ⟨Hb, ⟨⟨fun _ _ e => e, s.st.fz.lock hH trivial, fun a o _ e => hbs a o e, fun _ e _ => e, hiv⟩, s.len, ad, h1, fun i d e => ?_, h3⟩, hbp, fun {ρ' σ' F' H'} s' => ?_⟩
  · obtain ⟨o, x1, x2, x3, x4, x5⟩ := h2 i d e
    exact ⟨o, x1, by rw [upd_ne fun z => pn i d e z.symm]; exact x2, if_pos ⟨i, d, e, rfl⟩, x4, x5⟩
  · have eH : H' p = some (.frz od (.dK ys)) := s'.st.hh p _ ndp hbp
    have eF : F' p = some (.dK ys) := s'.st.ex p _ hF
    have st : Step F0 H0 F' (upd H' p (.dK ys)) := by
      refine ⟨fun a o e => s'.st.ex a o (s.st.ex a o e), ⟨fun a o e => ⟨?_, (s'.st.fz a o e).2⟩, inv_upd s'.st.fz.iv ndp⟩, fun a o v e => ?_, fun a q1 q2 => ?_, s.st.iv0⟩
      · by_cases z : a = p
        · subst z
          rw [eF] at e
          cases e
          exact .inl upd_same
        · rcases (s'.st.fz a o e).1 with w | ⟨l, ob, w⟩
          · exact .inl (by rw [upd_ne z]; exact w)
          · exact .inr ⟨l, ob, by rw [upd_ne z]; exact w⟩
      · by_cases z : a = p
        · subst z
          have := s.st.hh a o v e
          rw [hH] at this
          cases this
          exact upd_same
        · rw [upd_ne z]
          refine s'.st.hh a o v ?_
          rw [hb0 a (by rw [e]; exact fun w => nomatch w) z]
          exact s.st.hh a o v e
      · have hz : a ≠ p := fun z => by
          have := s.st.off a q1 q2
          rw [z, hF] at this
          cases this
        refine s'.st.off a (s.st.off a q1 q2) ?_
        rw [hb0 a q2 hz]
        exact s.st.al q2
    obtain ⟨ad', g1, g2, g3⟩ := s'.ex
    refine ⟨eH, st, s'.len, ad', g1, fun i d e => ?_, g3⟩
    obtain ⟨o, x1, x2, x3, x4, x5⟩ := g2 i d e
    have np : ad' i ≠ p := fun z => by
      rw [z, eF] at x4
      cases x4
    refine ⟨o, x1, by rw [upd_ne np]; exact x2, ?_, x4, x5⟩
    cases e0 : H0 (ad' i) with
    | none => rfl
    | some u =>
      rw [hb0 _ (by rw [e0]; exact fun w => nomatch w) np] at x3
      exact absurd x3 (s.st.al (by rw [e0]; exact fun w => nomatch w))
/-- a frozen dict that can be told ahead -/
structure DFz (X : Cx) (e : Expr) (ρ : List SV) (ys : List (Key × V)) : Prop where
  go : ∀ (σ : L2.St) (F H : Hp), Fz F H → SOk ρ σ F H → ∃ p, F p = some (.dK ys) ∧ ∀ H1 Q, Fz F H1 → SOk ρ σ F H1 → Q (.ref p) H1 → tS X e σ H1 Q
theorem df_item (g : Gd X N sc k) {kvs : List (Str × Int)} {ds : List D} {j : Int} {b : Expr} {pn : Pos} (i : Nat) (hd : atI ds j = some (.dct kvs)) (hb : ∀ H Q, Q (.int j) H → ∀ σ, tS X b σ H Q) (hi : N[i]? = some x := by rfl) (hρ : ρ[i]? = some (.fz (.tup ds)) := by rfl) (hv : visB sc x = true := by rfl) (hdb : (x == ("__debug__" : Str)) = false := by decide) (hcd : (x == ("__classdict__" : Str)) = false := by decide) (hs : PlainIx b := by exact fun _ _ => rfl) :
    DFz X (.Subscript (.Name x pn) b pos) ρ (kvI kvs) := ⟨fun σ F H f s => by
  obtain ⟨ad, h1, _, _⟩ := s.ex
  obtain ⟨v, e, p, xs, o, ev, r, _, z⟩ := h1 i _ hρ
  subst ev
  obtain ⟨w, ew, pw, ew2, rw2⟩ := z.at hd
  subst ew2
  refine ⟨pw, rw2, fun H1 Q f1 s1 q => ?_⟩
  refine peR (pe_ix ix_tup (pe_nm g hi hv hdb hcd) peS hs) ⟨_, e, hb H1 _ ?_ σ⟩
  have r' : H1 p = some (.frz o (.tup xs)) := by
    rcases (f1 _ _ r).1 with z | ⟨z, _⟩
    · exact z
    · exact z.elim
  exact ⟨p, xs, j, _, rfl, rfl, .inl (.inr ⟨o, r'⟩), ew, q⟩⟩
/-- for x in a frozen dict: body -/
theorem s_forK {tg iter : Expr} {gt : TG} {body : List Stmt} {kvs : List (Str × Int)} {rs : Nat → List SV} {rt : Nat → Str × Int → List SV} (g : Gf X N sc k) (hd : DFz X iter ρ (kvI kvs)) (h0 : LeL ρ (rs 0)) (hg : PG X tg gt) (hT : ∀ i q, kvs[i]? = some q → TgX gt (rs i) (.str q.1) (rt i q))
    (hB : ∀ i q, kvs[i]? = some q → Dos X body (rt i q) (.nx (rs (i + 1)))) (hs : ∀ v, foldedSetIterable iter X.env v = pure v := by intro _; rfl) : Do X (.For tg iter body [] pos) ρ (.nx (rs kvs.length)) := fun F0 H0 σ F H E s q => by
  obtain ⟨p, hF, hev⟩ := hd.go σ F H s.st.fz s.ok
  -- the loop, the dict locked at p
  have main : ∀ (Hl : Hp) (ob : Obj) (Hb : Hp) (E : Ends), SX F Hb ρ σ F Hl → Hl p = some (.frz ob (.dK (kvI kvs))) → Hb p = some (.frz ob (.dK (kvI kvs))) → (∀ σ' F' H', SX F Hb (rs kvs.length) σ' F' H' → E.nx σ' H') → tSs X (.For tg iter body [] pos) E σ Hl := fun Hl ob Hb E sb hl hbp qq => by
    refine psR (ps_for g.own g.g.calm (pi_keys peS) hg pssS hs) (hev Hl _ sb.st.fz sb.ok ⟨p, ob, rfl, .inl ⟨kvI kvs, hl, ?_⟩⟩)
    refine ⟨fun i m σ' H' => m = kvs.length - i ∧ i ≤ kvs.length ∧ ∃ F', SX F Hb (rs i) σ' F' H', ⟨kvs.length, by simp, Nat.zero_le _, F, sb.le h0⟩, ?_⟩
    rintro i m σ2 H2 ⟨rfl, hi, F2, s2⟩
    have hp2 : H2 p = some (.frz ob (.dK (kvI kvs))) := s2.st.hh p _ (nv_frz s2.st.iv0 hbp) hbp
    by_cases e : i = kvs.length
    · subst e
      exact .inl ⟨⟨hp2, by rw [kvI_len]; exact Nat.le_refl _⟩, qq _ _ _ s2⟩
    · have hlt : i < kvs.length := by omega
      obtain ⟨x, hx⟩ : ∃ x, kvs[i]? = some x := ⟨_, List.getElem?_eq_getElem hlt⟩
      refine .inr ⟨⟨hp2, by rw [kvI_len]; exact hlt⟩, fun σ' H' => ∃ F', SX F Hb (rs (i + 1)) σ' F' H', fun σ' H' h' => ⟨kvs.length - (i + 1), by omega, rfl, hlt, h'⟩, fun v H3 y => ?_⟩
      obtain ⟨e3, kk, vv, e4, e5⟩ := y
      subst e3 e5
      have e6 : (kvI kvs)[i]? = some (Sum.inr x.1, V.int x.2) := map_get hx
      rw [e6] at e4
      cases e4
      exact hT i x hx F Hb σ2 F2 _ (.str x.1) _ s2 rfl fun σ3 s3 => hB i x hx F Hb σ3 F2 _ _ s3 fun σ4 F4 H4 s4 => ⟨F4, s4⟩
  rcases (s.st.fz p _ hF).1 with hp | ⟨_, ob, hp⟩
  · refine psR (ps_lock psS) ⟨p, _, hp, trivial, fun od => ?_⟩
    obtain ⟨Hb, sb, hbp, bk⟩ := s.relock (od := od) hF hp
    refine main _ od Hb _ sb upd_same hbp fun σ' F' H' s' => ?_
    obtain ⟨k1, k2⟩ := bk s'
    exact ⟨k1, q _ _ _ k2⟩
  · obtain ⟨Hb, sb, he, _, bk⟩ := s.rebaseF
    exact main H ob Hb E sb hp ((he p _ hF).trans hp) fun σ' F' H' s' => q _ _ _ (bk s')
end
end KD

set_option Elab.async false
set_option linter.all false
set_option maxRecDepth 100000
/-! Sem3: what the law's own defs compute. -/
namespace KD
open PySem PySem.Spec PyProof.Rows L2
local instance : Vol := volNone
def cntStep (d : List (Str × Int)) (n : Str) : List (Str × Int) := putI d n ((dgo d n).getD 0 + 1)
def cntS (d : List (Str × Int)) : Stp → List (Str × Int)
  | .stream ns => ns.foldl cntStep d
  | .pour => d
def countedL (tree : List Stp) : List (Str × Int) := tree.foldl cntS []
def fedL (room : Int) (a : Int × List (Str × Int)) (n : Str) : Int × List (Str × Int) :=
  if ((dgo a.2 n).isSome || decide ((a.2.length : Int) < room)) = true then (a.1, putI a.2 n ((dgo a.2 n).getD 0 + 1))
  else (a.1 + 1, (a.2.filter fun z => decide (1 < z.2)).map fun z => (z.1, z.2 - 1))
def pourD (a b : List (Str × Int)) : List (Str × Int) := b.foldl (fun d t => putI d t.1 ((dgo d t.1).getD 0 + t.2)) a
def pouredL (room : Int) (a b : Int × List (Str × Int)) : Int × List (Str × Int) :=
  let c := pourD a.2 b.2
  let fall := srtI (c.map fun z => -z.2)
  let t := if decide (room < (fall.length : Int)) = true then -(fall.getD room.toNat 0) else 0
  (a.1 + b.1 + t, (c.filter fun z => decide (t < z.2)).map fun z => (z.1, z.2 - t))
def streamL (room : Int) (ns : List Str) : Int × List (Str × Int) := ns.foldl (fedL room) (0, [])
def ledStep (room : Int) (pile : List (Int × List (Str × Int))) : Stp → List (Int × List (Str × Int))
  | .stream ns => pile ++ [streamL room ns]
  | .pour => pile.dropLast.dropLast ++ [pouredL room (pile.dropLast.getLastD (0, [])) (pile.getLastD (0, []))]
def ledL (room : Int) (tree : List Stp) : List (Int × List (Str × Int)) := tree.foldl (ledStep room) []
def stD (a : Int × List (Str × Int)) : D := .tup [.int a.1, .dct a.2]
def skS (room many : Int) (a : Int × List (Str × Int)) : Sk := ⟨room, many, a.1, srtP a.2⟩
theorem cntStep_nd {d : List (Str × Int)} (n : Str) (h : (d.map (·.1)).Nodup) : ((cntStep d n).map (·.1)).Nodup := putI_nd _ _ h
theorem map_keys {d : List (Str × Int)} {f : Str × Int → Bool} {v : Str × Int → Int} (h : (d.map (·.1)).Nodup) : (((d.filter f).map fun z => (z.1, v z)).map (·.1)).Nodup := by
  rw [List.map_map]
  exact h.sublist (List.Sublist.map _ List.filter_sublist)
theorem fedL_nd {room : Int} {a : Int × List (Str × Int)} {n : Str} (h : (a.2.map (·.1)).Nodup) : ((fedL room a n).2.map (·.1)).Nodup := by
  unfold fedL
  split
  · exact putI_nd _ _ h
  · exact map_keys h
theorem fedL_len {room : Int} {a : Int × List (Str × Int)} {n : Str} : (fedL room a n).2.length ≤ a.2.length + 1 := by
  unfold fedL
  split
  · exact putI_len _ _ _
  · show (List.map _ _).length ≤ _
    rw [List.length_map]
    have := List.length_filter_le (fun z : Str × Int => decide (1 < z.2)) a.2
    omega
theorem streamF {room : Int} : ∀ (ns : List Str) (a : Int × List (Str × Int)), (a.2.map (·.1)).Nodup → ((ns.foldl (fedL room) a).2.map (·.1)).Nodup ∧ (ns.foldl (fedL room) a).2.length ≤ a.2.length + ns.length
  | [], a, h => ⟨h, Nat.le_refl _⟩
  | n :: r, a, h => by
    rw [List.foldl_cons, List.length_cons]
    obtain ⟨h1, h2⟩ := streamF (room := room) r (fedL room a n) (fedL_nd h)
    have h3 := fedL_len (room := room) (a := a) (n := n)
    exact ⟨h1, by omega⟩
theorem cntF : ∀ (ns : List Str) (d : List (Str × Int)), (ns.foldl cntStep d).length ≤ d.length + ns.length
  | [], d => Nat.le_refl _
  | n :: r, d => by
    rw [List.foldl_cons, List.length_cons]
    have h1 := cntF r (cntStep d n)
    have h2 := putI_len d n ((dgo d n).getD 0 + 1)
    have h3 : (cntStep d n).length = (putI d n ((dgo d n).getD 0 + 1)).length := rfl
    omega
theorem pourD_nd {a b : List (Str × Int)} (h : (a.map (·.1)).Nodup) : ((pourD a b).map (·.1)).Nodup := addAll_nd b h
theorem pourD_len (a b : List (Str × Int)) : (pourD a b).length ≤ a.length + b.length := addAll_len a b
theorem atI_getI {xs : List Int} {x : Int} (h0 : 0 ≤ x) (h : x < xs.length) : atI xs x = some (xs.getD x.toNat 0) := by
  unfold atI ixN
  rw [if_pos h0, if_pos h]
  show xs[x.toNat]? = _
  have hl : x.toNat < xs.length := by omega
  rw [List.getElem?_eq_getElem hl, List.getD_eq_getElem?_getD, List.getElem?_eq_getElem hl]
  rfl
/-! partitions -/
def partL : Nat → Int → Int → List (List Int)
  | 0, _, _ => [[]]
  | f + 1, n, m => if decide (n = 0) = true then [[]] else (List.range (min n m).toNat).flatMap fun (j : Nat) => (partL f (n - (min n m - (j : Int))) (min n m - (j : Int))).map fun rest => (min n m - (j : Int)) :: rest
/-! truths -/
def NM5 : List Str := ["a", "b", "new", "x", "zz"]
def trStep (off : Int) (rows : List (List (Str × Int) × Int)) (n : Str) : List (List (Str × Int) × Int) :=
  rows.flatMap fun r => (List.range (min off r.2 + 1).toNat).map fun (k : Nat) => (r.1 ++ [(n, (k : Int))], r.2 - (k : Int))
def trRows (off lost : Int) : List (List (Str × Int) × Int) := NM5.foldl (trStep off) [([], lost)]
def yName (i : Nat) : Str := ("y" : Str) ++ (⟨#[97 + i]⟩ : Str)
def trPut (d : List (Str × Int)) (ps : List Int) : List (Str × Int) := (List.range ps.length).foldl (fun d i => putI d (yName i) (ps.getD i 0)) d
def trOne (kept : List (Str × Int)) (taken : List (Str × Int)) (ps : List Int) : List (Str × Int) := (trPut (addAll kept taken) ps).filter fun z => decide (0 < z.2)
def trL (F : Nat) (off : Int) (kept : List (Str × Int)) (lost : Int) : List (List (Str × Int)) :=
  (trRows off lost).flatMap fun r => (partL F r.2 off).map fun ps => trOne kept r.1 ps
def valL (c : List (Str × Int)) : Qn → Int
  | .count n => ([n].map fun z => (dgo c z).getD 0).sum
  | .lot ns => (ns.map fun z => (dgo c z).getD 0).sum
  | .apart a b => (dgo c a).getD 0 - (dgo c b).getD 0
  | .place n => 1 + ((c.filter fun z => decide ((dgo c n).getD 0 < z.2)).length : Int)
  | .first m => ((cutA (revS (c.map fun z => z.2)) none (some m)).map fun z => z).sum
  | .unlike => (c.length : Int)
  | .squares => (c.map fun z => z.2 ^ (2 : Int).toNat).sum
theorem map_eta (c : List (Str × Int)) : c.map (fun z => (z.1, z.2)) = c := List.map_id _
theorem two_map {P : List (Int × List (Str × Int))} (h : 2 ≤ P.length) : P.map stD = (P.dropLast.dropLast.map stD ++ [.tup [.int (P.dropLast.getLastD (0, [])).1, .dct (P.dropLast.getLastD (0, [])).2]]) ++ [.tup [.int (P.getLastD (0, [])).1, .dct (P.getLastD (0, [])).2]] := by
  have h1 : P ≠ [] := fun z => by rw [z] at h; simp at h
  have e1 : P = P.dropLast ++ [P.getLastD (0, [])] := by
    rw [List.getLastD_eq_getLast?, List.getLast?_eq_some_getLast h1]
    exact (List.dropLast_concat_getLast h1).symm
  have h2 : P.dropLast ≠ [] := fun z => by
    have := congrArg List.length z
    rw [List.length_dropLast, List.length_nil] at this
    omega
  have e2 : P.dropLast = P.dropLast.dropLast ++ [P.dropLast.getLastD (0, [])] := by
    rw [List.getLastD_eq_getLast?, List.getLast?_eq_some_getLast h2]
    exact (List.dropLast_concat_getLast h2).symm
  have e3 : P.map stD = (P.dropLast.dropLast ++ [P.dropLast.getLastD (0, [])] ++ [P.getLastD (0, [])]).map stD := by
    rw [← e2, ← e1]
  rw [e3, List.map_append, List.map_append]
  rfl
def ledP (room : Int) (tree : List Stp) (i : Nat) : List (Int × List (Str × Int)) := (tree.take i).foldl (ledStep room) []
structure LedOk (room : Int) (tree : List Stp) : Prop where
  r0 : 0 ≤ room
  tl : tree.length ≤ 1000
  ns : ∀ ns, Stp.stream ns ∈ tree → ns.length ≤ 1000
  two : ∀ i, tree[i]? = some .pour → 2 ≤ (ledP room tree i).length
  el : ∀ i, ∀ z ∈ ledP room tree i, (z.2.map (·.1)).Nodup ∧ z.2.length ≤ 40000
  ne : ledL room tree ≠ []
theorem ledP_len (room : Int) (tree : List Stp) : ∀ i, (ledP room tree i).length ≤ 2 * i := by
  intro i
  have h : ∀ (t : List Stp) (a : List (Int × List (Str × Int))), (t.foldl (ledStep room) a).length ≤ a.length + 2 * t.length := by
    intro t
    induction t with
    | nil => exact fun a => Nat.le_refl _
    | cons x r ih =>
      intro a
      rw [List.foldl_cons, List.length_cons]
      have h1 := ih (ledStep room a x)
      have h2 : (ledStep room a x).length ≤ a.length + 1 := by
        cases x with
        | stream ns =>
          show (a ++ [streamL room ns]).length ≤ _
          rw [List.length_append, List.length_singleton]
          omega
        | pour =>
          show (a.dropLast.dropLast ++ [_]).length ≤ _
          rw [List.length_append, List.length_singleton, List.length_dropLast, List.length_dropLast]
          omega
      omega
  have h1 := h (tree.take i) []
  have h2 := List.length_take_le i tree
  have h3 : (ledP room tree i).length = ((tree.take i).foldl (ledStep room) []).length := rfl
  simp only [List.length_nil] at h1
  omega
theorem getLastD_mem {α : Type} {P : List α} {d : α} (h : P ≠ []) : P.getLastD d ∈ P := by
  rw [List.getLastD_eq_getLast?, List.getLast?_eq_some_getLast h]
  exact List.getLast_mem h
theorem LedOk.one {room : Int} {tree : List Stp} (h : LedOk room tree) {i : Nat} (hx : tree[i]? = some .pour) : let z := (ledP room tree i).dropLast.getLastD (0, []); (z.2.map (·.1)).Nodup ∧ z.2.length ≤ 40000 := by
  have h1 := h.two i hx
  refine h.el i _ ((List.dropLast_sublist _).subset (getLastD_mem fun z => ?_))
  have := congrArg List.length z
  rw [List.length_dropLast, List.length_nil] at this
  omega
theorem LedOk.oth {room : Int} {tree : List Stp} (h : LedOk room tree) {i : Nat} (hx : tree[i]? = some .pour) : let z := (ledP room tree i).getLastD (0, []); (z.2.map (·.1)).Nodup ∧ z.2.length ≤ 40000 := by
  have h1 := h.two i hx
  refine h.el i _ (getLastD_mem fun z => ?_)
  have := congrArg List.length z
  rw [List.length_nil] at this
  omega
def isd : Nat → D → Prop
  | _, .int _ => True
  | _, .str _ => True
  | _, .bl _ => True
  | _, .non => True
  | n + 1, .tup ds => ds.length ≤ 1000 ∧ ∀ d ∈ ds, isd n d
  | _, _ => False
theorem atI_head {α : Type} {xs : List α} {d : α} (h : xs ≠ []) : atI xs 0 = some (xs.headD d) := by
  cases xs with
  | nil => exact absurd rfl h
  | cons x r =>
    unfold atI ixN
    rw [if_pos (Int.le_refl _), if_pos (by rw [List.length_cons]; omega)]
    rfl
theorem flatMap_len {α β : Type} {f : α → List β} {B : Nat} : ∀ {l : List α}, (∀ x ∈ l, (f x).length ≤ B) → (l.flatMap f).length ≤ l.length * B
  | [], _ => Nat.zero_le _
  | x :: r, h => by
    rw [List.flatMap_cons, List.length_append, List.length_cons, Nat.add_mul, Nat.one_mul]
    have h1 := h x List.mem_cons_self
    have h2 := flatMap_len (f := f) (B := B) (l := r) fun y hy => h y (List.mem_cons_of_mem _ hy)
    omega
theorem partL_len1 : ∀ (F : Nat) (n m : Int), m ≤ 1 → (partL F n m).length ≤ 1
  | 0, _, _, _ => Nat.le_refl _
  | F + 1, n, m, h => by
    unfold partL
    split
    · exact Nat.le_refl _
    · refine Nat.le_trans (flatMap_len (B := 1) fun j hj => ?_) ?_
      · rw [List.length_map]
        exact partL_len1 F _ _ (by omega)
      · rw [List.length_range]
        omega
theorem partL_len : ∀ (F : Nat) (n m : Int), 0 ≤ n → m ≤ 2 → ((partL F n m).length : Int) ≤ n + 1
  | 0, n, _, h, _ => by
    show (1 : Int) ≤ n + 1
    omega
  | F + 1, n, m, h, h2 => by
    unfold partL
    split
    · show (1 : Int) ≤ n + 1
      omega
    · rename_i h0
      have hn : n ≠ 0 := fun z => h0 (decide_eq_true z)
      have hM : (min n m).toNat = 0 ∨ (min n m).toNat = 1 ∨ ((min n m).toNat = 2 ∧ min n m = 2) := by omega
      rcases hM with e | e | ⟨e, e2⟩
      · rw [e]
        show (0 : Int) ≤ n + 1
        omega
      · rw [e]
        have h1 := partL_len1 F (n - (min n m - ((0 : Nat) : Int))) (min n m - ((0 : Nat) : Int)) (by omega)
        have e3 : ((List.range 1).flatMap fun (j : Nat) => (partL F (n - (min n m - (j : Int))) (min n m - (j : Int))).map fun rest => (min n m - (j : Int)) :: rest) = (partL F (n - (min n m - ((0 : Nat) : Int))) (min n m - ((0 : Nat) : Int))).map fun rest => (min n m - ((0 : Nat) : Int)) :: rest := by
          show ([0].flatMap _) = _
          rw [List.flatMap_cons, List.flatMap_nil, List.append_nil]
        rw [e3, List.length_map]
        omega
      · rw [e]
        have h1 := partL_len F (n - (min n m - ((0 : Nat) : Int))) (min n m - ((0 : Nat) : Int)) (by omega) (by omega)
        have h3 := partL_len1 F (n - (min n m - ((1 : Nat) : Int))) (min n m - ((1 : Nat) : Int)) (by omega)
        have e3 : ((List.range 2).flatMap fun (j : Nat) => (partL F (n - (min n m - (j : Int))) (min n m - (j : Int))).map fun rest => (min n m - (j : Int)) :: rest) = ((partL F (n - (min n m - ((0 : Nat) : Int))) (min n m - ((0 : Nat) : Int))).map fun rest => (min n m - ((0 : Nat) : Int)) :: rest) ++ ((partL F (n - (min n m - ((1 : Nat) : Int))) (min n m - ((1 : Nat) : Int))).map fun rest => (min n m - ((1 : Nat) : Int)) :: rest) := by
          show ([0, 1].flatMap _) = _
          rw [List.flatMap_cons, List.flatMap_cons, List.flatMap_nil, List.append_nil]
        rw [e3, List.length_append, List.length_map, List.length_map]
        omega
theorem partL_el : ∀ (F : Nat) (n m : Int), ∀ p ∈ partL F n m, p.length ≤ F
  | 0, _, _, p, h => by
    have e : p = [] := List.mem_singleton.mp h
    rw [e]
    exact Nat.le_refl _
  | F + 1, n, m, p, h => by
    unfold partL at h
    split at h
    · have e : p = [] := List.mem_singleton.mp h
      rw [e]
      exact Nat.zero_le _
    · obtain ⟨j, _, hj⟩ := List.mem_flatMap.mp h
      obtain ⟨q, hq, rfl⟩ := List.mem_map.mp hj
      have := partL_el F _ _ q hq
      rw [List.length_cons]
      omega
/-! the listed rows -/
theorem trStep_len (off : Int) (h : off ≤ 2) (rows : List (List (Str × Int) × Int)) (n : Str) : (trStep off rows n).length ≤ rows.length * 3 := by
  refine flatMap_len fun r _ => ?_
  rw [List.length_map, List.length_range]
  omega
theorem trF_len (off : Int) (h : off ≤ 2) : ∀ (ns : List Str) (rows : List (List (Str × Int) × Int)), (ns.foldl (trStep off) rows).length ≤ rows.length * 3 ^ ns.length
  | [], rows => by simp
  | n :: r, rows => by
    rw [List.foldl_cons, List.length_cons, Nat.pow_succ]
    refine Nat.le_trans (trF_len off h r _) ?_
    have h1 := trStep_len off h rows n
    calc (trStep off rows n).length * 3 ^ r.length ≤ rows.length * 3 * 3 ^ r.length := Nat.mul_le_mul_right _ h1
      _ = rows.length * (3 ^ r.length * 3) := by rw [Nat.mul_assoc, Nat.mul_comm 3]
def RowOk (lost : Int) (k : Nat) (r : List (Str × Int) × Int) : Prop := 0 ≤ r.2 ∧ r.2 ≤ lost ∧ r.1.length ≤ k
theorem trStep_ok {off lost : Int} (ho : 0 ≤ off) {k : Nat} {rows : List (List (Str × Int) × Int)} (h : ∀ r ∈ rows, RowOk lost k r) (n : Str) : ∀ r ∈ trStep off rows n, RowOk lost (k + 1) r := fun r hr => by
  obtain ⟨q, hq, hr⟩ := List.mem_flatMap.mp hr
  obtain ⟨j, hj, rfl⟩ := List.mem_map.mp hr
  have hj := List.mem_range.mp hj
  obtain ⟨h1, h2, h3⟩ := h q hq
  refine ⟨by show 0 ≤ q.2 - (j : Int); omega, by show q.2 - (j : Int) ≤ lost; omega, ?_⟩
  show (q.1 ++ [(n, (j : Int))]).length ≤ k + 1
  rw [List.length_append, List.length_singleton]
  omega
theorem trF_ok {off lost : Int} (ho : 0 ≤ off) : ∀ (ns : List Str) (k : Nat) (rows : List (List (Str × Int) × Int)), (∀ r ∈ rows, RowOk lost k r) → ∀ r ∈ ns.foldl (trStep off) rows, RowOk lost (k + ns.length) r
  | [], k, rows, h => h
  | n :: t, k, rows, h => fun r hr => by
    rw [List.foldl_cons] at hr
    have := trF_ok ho t (k + 1) _ (trStep_ok ho h n) r hr
    rw [List.length_cons]
    obtain ⟨h1, h2, h3⟩ := this
    exact ⟨h1, h2, by omega⟩
def partF (F : Nat) (n m : Int) (j : Nat) : List (List Int) := (partL F (n - (min n m - (j : Int))) (min n m - (j : Int))).map fun rest => (min n m - (j : Int)) :: rest
end KD

set_option Elab.async false
set_option linter.all false
set_option maxRecDepth 100000
/-! Sem4: data compared. -/
namespace KD
open PySem PySem.Spec PyProof.Rows L2
local instance : Vol := volNone
theorem pln_map {α : Type} {enc : α → D} (h : ∀ a, plnD (enc a) = true) : ∀ xs : List α, plnDs (xs.map enc) = true
  | [] => rfl
  | a :: r => by
    show (plnD (enc a) && plnDs (r.map enc)) = true
    rw [h a, pln_map h r]
    rfl
theorem pln_sk (s : Sk) : plnD (skD s) = true := by
  show (true && (true && (true && (plnDs (s.kept.map pD) && true)))) = true
  rw [pln_map (fun _ => rfl)]
  rfl
theorem toPs_map' {α : Type} (enc : α → D) (xs : List α) : toPs (xs.map enc) = xs.map fun a => toP (enc a) := by
  rw [toPs_map, List.map_map]
  rfl
theorem lay_pairs : ∀ (xs : List (Str × Int)), (∀ q ∈ xs, PyData.canLay0 (.str q.1) = true) → PyData.canLayAll0 (toPs (xs.map pD)) = true ∧ PyData.depthAll (toPs (xs.map pD)) ≤ 1
  | [], _ => ⟨rfl, Nat.zero_le _⟩
  | q :: r, h => by
    obtain ⟨h1, h2⟩ := lay_pairs r fun y hy => h y (List.mem_cons_of_mem _ hy)
    have h3 := h q List.mem_cons_self
    have e : toPs ((q :: r).map pD) = .tuple [.str q.1, .int q.2] :: toPs (r.map pD) := by
      simp [toPs, toP, pD]
    rw [e]
    constructor
    · simp only [PyData.canLayAll0, PyData.canLay0, Bool.and_true, Bool.and_eq_true] at h3 ⊢
      exact ⟨h3, h1⟩
    · simp only [PyData.depthAll, PyData.depth] at h2 ⊢
      omega
theorem shp_sk {s : Sk} (h : ∀ q ∈ s.kept, PyData.canLay0 (.str q.1) = true) : SeqAt.shaped (toP (skD s)) = true := by
  obtain ⟨h1, h2⟩ := lay_pairs s.kept h
  have e : toP (skD s) = .tuple [.int s.room, .int s.many, .int s.off, .tuple (toPs (s.kept.map pD))] := by
    simp [toP, toPs, skD]
  unfold SeqAt.shaped
  rw [e]
  have hd : (PyData.tuple [.int s.room, .int s.many, .int s.off, .tuple (toPs (s.kept.map pD))]).depth ≤ 64 := by
    simp only [PyData.depth, PyData.depthAll, Nat.zero_max, Nat.max_zero]
    omega
  rw [decide_eq_true hd, Bool.and_true]
  simp only [PyData.canLay0, PyData.canLayAll0, Bool.and_true, Bool.true_and]
  exact h1
theorem eqv_sk {s : Sk} (h : ∀ q ∈ s.kept, PyData.canLay0 (.str q.1) = true) : PyData.eqv (toP (skD s)) (toP (skD s)) = true :=
  SeqAt.eqv_refl _ (SeqAt.canLay_of_shaped (shp_sk h))
end KD

set_option Elab.async false
set_option linter.all false
set_option maxRecDepth 100000
set_option maxHeartbeats 2000000
namespace KD
open PySem PySem.Spec PyProof.Rows L2
local instance : Vol := volNone
section
variable {P : Program} {w : World} {K : PySem.W.Frag} {mg : Str → Option Value} {base : Heap}

def PapOk (s : Sk) (ps : List (Str × Int)) : Prop := SkOk s ∧ CountsOk ps ∧ (repL s.kept).length ≤ 1000 ∧ (repL (tkL s ps)).length ≤ 1000 ∧ (s.off = 0 → repL (tkL s ps) = []) ∧ ∀ p ∈ tkL s ps, 0 ≤ p.2
theorem paperS_len (s : Sk) (lays : List (List Str)) : (paperS s lays).length = 1 + 4 * lays.length := by
  have h : ∀ (lays : List (List Str)) (a : List Stp), (lays.foldl (fun acc ns => acc ++ layerS s.room ns ++ [.pour]) a).length = a.length + 4 * lays.length := by
    intro lays
    induction lays with
    | nil => exact fun a => rfl
    | cons n r ih =>
      intro a
      rw [List.foldl_cons, ih]
      simp only [layerS, List.length_append, List.length_cons, List.length_nil]
      omega
  exact h lays _
def R_raw_paper : List D → D → Prop := fun ds d => ∃ (s : Sk) (ps : List (Str × Int)), PapOk s ps ∧ ds = [(.tup [(.int s.room), (.int s.many), (.int s.off), (.tup (s.kept.map pD))]), (.tup (ps.map pD))] ∧ d = .tup ((paperS s (layL s.off.toNat (repL (tkL s ps)))).map stpD)
theorem w_raw_paper (T : Top K w mg) : Fn P w K mg base "raw_paper" 2 R_raw_paper := by
  refine fn_top T 39 ["sketch", "truth", "kept", "taken", "steps", "names", "name", "number"] ["sketch", "truth"] (by decide) (by decide +kernel) (fun _ _ _ _ _ _ us hl => match us, hl with | [_, _], _ => rfl) (by rintro _ _ ⟨s, ps, hp, rfl, rfl⟩; rfl) ?_
  intro X gf eP ew eK em eb ds d hR
  subst eP ew eK em eb
  obtain ⟨s, ps, hp, rfl, rfl⟩ := hR
  have hsc := Eq.refl (defScope (top 39))
  conv at hsc => rhs; whnf
  rw [hsc] at gf
  have g := gf.g
  refine .inl (?_ : Dos X _ [.fz (.tup [(.int s.room), (.int s.many), (.int s.off), (.tup (s.kept.map pD))]), .fz (.tup (ps.map pD)), .un, .un, .un, .un, .un, .un] (.rt (.tup ((paperS s (layL s.off.toNat (repL (tkL s ps)))).map stpD))))
  exact s_out (s_cons (s_new gf 2 (SemN.is (d' := (.dct s.kept)) (n_callT g (c_dictT g (kvs := s.kept)) (T.fr "dict") (av_cons (((f_ixT (((f_name g 0)).v) (((f_gint g (T.i "KEPT" 3))).v) rfl)).v) av_nil)) (by rw [mergeI_nil hp.1.co.2.1.nd]))) <| s_cons (s_lc gf 3 (lc_G g (xs := ps) (own := [("name", 6), ("number", 7)]) (out := (fun x1 => (.tup [(.str x1.1), (.int (x1.2 - ((dgo s.kept x1.1).getD 0)))]))) (ItS.g (it_tup (((f_name g 1)).v))) (blkOk_by (by decide +kernel)) (pgb2 g 6 7) (fun _ _ => tg_pair 6 7) (fun _ _ _ _ _ x1 m2 => (f_tup (a_cons (f_name (g.blk _ _ _ _ _ _) 6) (a_cons (f_op o_sub (((f_name (g.blk _ _ _ _ _ _) 7)).v) (((f_get (g.blk _ _ _ _ _ _) (v_own (g.blk _ _ _ _ _ _) 2) (((f_name (g.blk _ _ _ _ _ _) 6)).v) ((f_int).v))).v)) a_nil)) (by simp))) (by have := hp.2.1.2.2; omega))) <| s_cons (s_new gf 4 (n_lst (a_cons (f_tup (a_cons f_str (a_cons (f_call g (d := (.tup ((repL s.kept).map D.str))) (w_repeated T) (by decide) (a_cons (f_ixT (((f_name g 0)).v) (((f_gint g (T.i "KEPT" 3))).v) rfl) a_nil) ⟨_, ⟨hp.2.2.1, fun p hq => by have := (hp.1.co.1 p hq).2; omega⟩, rfl, rfl⟩) a_nil)) (by simp)) a_nil) (by simp))) <| s_frz 3 rfl <| s_cons (s_for gf (xs := layL s.off.toNat (repL (tkL s ps))) (rs := (fun i3 => [.fz (.tup [(.int s.room), (.int s.many), (.int s.off), (.tup (s.kept.map pD))]), .fz (.tup (ps.map pD)), .ow (.dct s.kept), .fz (.lst (ps.map (fun z => (.tup [(.str z.1), (.int (z.2 - ((dgo s.kept z.1).getD 0)))])))), .ow (.lst ((paperS s ((layL s.off.toNat (repL (tkL s ps))).take i3)).map stpD)), .un, .un, .un])) (if_lst (xs := layL s.off.toNat (repL (tkL s ps))) (enc := (fun z => (.lst (z.map D.str)))) (f_call g (d := (.lst ((layL s.off.toNat (repL (tkL s ps))).map (fun z => (.lst (z.map D.str)))))) (w_layers_of T) (by decide) (a_cons (f_ixT (((f_name g 0)).v) (((f_gint g (T.i "OFF" 2))).v) rfl) (a_cons (f_name g 3) a_nil)) ⟨_, tkL s ps, ⟨⟨hp.1.o0, hp.1.o2⟩, hp.2.2.2.1, hp.2.2.2.2.1, hp.2.2.2.2.2⟩, (by unfold tkL; rw [List.map_map]; rfl), rfl⟩)) (by repeat (first | exact trivial | refine ⟨.inr rfl, ?_⟩ | refine ⟨.inl rfl, ?_⟩)) (gf.pg (j := 5) rfl rfl) (fun _ _ _ => tx_name 5) (fun i3 x4 hx5 => s_to (s_le (ρ2 := [.fz (.tup [(.int s.room), (.int s.many), (.int s.off), (.tup (s.kept.map pD))]), .fz (.tup (ps.map pD)), .ow (.dct s.kept), .fz (.lst (ps.map (fun z => (.tup [(.str z.1), (.int (z.2 - ((dgo s.kept z.1).getD 0)))])))), .ow (.lst ((((paperS s ((layL s.off.toNat (repL (tkL s ps))).take i3)) ++ layerS s.room x4) ++ [Stp.pour]).map stpD)), .un, .un, .un]) (s_cons (s_ext (ds := ((paperS s ((layL s.off.toNat (repL (tkL s ps))).take i3)).map stpD)) g 4 (f_call g (d := (.lst ((layerS s.room x4).map stpD))) (w_layer_steps T) (by decide) (a_cons (f_ixT (((f_name g 0)).v) (((f_gint g (T.i "ROOM" 0))).v) rfl) (a_cons (f_name g 5) a_nil)) ⟨_, _, rfl, rfl⟩) (by have h1 := paperS_len s ((layL s.off.toNat (repL (tkL s ps))).take i3); have h2 := take_len (layL s.off.toNat (repL (tkL s ps))) i3; have h3 := layL_len s.off.toNat (repL (tkL s ps)); have h4 := hp.1.o2; have h5 := hp.1.o0; simp only [List.length_map, layerS, List.length_cons, List.length_nil]; omega)) <| s_at (ρ1 := [.fz (.tup [(.int s.room), (.int s.many), (.int s.off), (.tup (s.kept.map pD))]), .fz (.tup (ps.map pD)), .ow (.dct s.kept), .fz (.lst (ps.map (fun z => (.tup [(.str z.1), (.int (z.2 - ((dgo s.kept z.1).getD 0)))])))), .ow (.lst (((paperS s ((layL s.off.toNat (repL (tkL s ps))).take i3)) ++ layerS s.room x4).map stpD)), .fz (.lst (x4.map D.str)), .un, .un]) (s_cons (s_app (ds := (((paperS s ((layL s.off.toNat (repL (tkL s ps))).take i3)) ++ layerS s.room x4).map stpD)) g 4 (f_tup (a_cons f_str a_nil) (by simp)) (by have h1 := paperS_len s ((layL s.off.toNat (repL (tkL s ps))).take i3); have h2 := take_len (layL s.off.toNat (repL (tkL s ps))) i3; have h3 := layL_len s.off.toNat (repL (tkL s ps)); have h4 := hp.1.o2; have h5 := hp.1.o0; simp only [List.length_map, List.length_append, layerS, List.length_cons, List.length_nil]; omega)) <| s_at (ρ1 := [.fz (.tup [(.int s.room), (.int s.many), (.int s.off), (.tup (s.kept.map pD))]), .fz (.tup (ps.map pD)), .ow (.dct s.kept), .fz (.lst (ps.map (fun z => (.tup [(.str z.1), (.int (z.2 - ((dgo s.kept z.1).getD 0)))])))), .ow (.lst ((((paperS s ((layL s.off.toNat (repL (tkL s ps))).take i3)) ++ layerS s.room x4) ++ [Stp.pour]).map stpD)), .fz (.lst (x4.map D.str)), .un, .un]) (s_nil) (by first | (simp only [List.map_append]; done) | (simp only [List.map_append]; rfl))) (by first | (simp only [List.map_append]; done) | (simp only [List.map_append]; rfl)))) (by unfold paperS; rw [foldl_take hx5]))) <| s_at (ρ1 := [.fz (.tup [(.int s.room), (.int s.many), (.int s.off), (.tup (s.kept.map pD))]), .fz (.tup (ps.map pD)), .ow (.dct s.kept), .fz (.lst (ps.map (fun z => (.tup [(.str z.1), (.int (z.2 - ((dgo s.kept z.1).getD 0)))])))), .ow (.lst ((paperS s (layL s.off.toNat (repL (tkL s ps)))).map stpD)), .un, .un, .un]) (s_last (s_ret (f_callT g c_tupleL (T.fr "tuple") (av_cons (v_own g 4) av_nil)))) (by rw [List.take_length])) rfl
def R_paper : List D → D → Prop := fun ds d => ∃ (s : Sk) (ps : List (Str × Int)), (PapOk s ps ∧ ritL s ps = true) ∧ ds = [(.tup [(.int s.room), (.int s.many), (.int s.off), (.tup (s.kept.map pD))]), (.tup (ps.map pD))] ∧ d = .tup ((paperS s (layL s.off.toNat (repL (tkL s ps)))).map stpD)
theorem w_paper (T : Top K w mg) : Fn P w K mg base "paper" 5 R_paper := by
  refine fn_top T 40 ["sketch", "truth"] ["sketch", "truth"] (by decide) (by decide +kernel) (fun _ _ _ _ _ _ us hl => match us, hl with | [_, _], _ => rfl) (by rintro _ _ ⟨s, ps, hp, rfl, rfl⟩; rfl) ?_
  intro X gf eP ew eK em eb ds d hR
  subst eP ew eK em eb
  obtain ⟨s, ps, hp, rfl, rfl⟩ := hR
  have hsc := Eq.refl (defScope (top 40))
  conv at hsc => rhs; whnf
  rw [hsc] at gf
  have g := gf.g
  refine .inl (?_ : Dos X _ [.fz (.tup [(.int s.room), (.int s.many), (.int s.off), (.tup (s.kept.map pD))]), .fz (.tup (ps.map pD))] (.rt (.tup ((paperS s (layL s.off.toNat (repL (tkL s ps)))).map stpD))))
  exact s_out (s_cons (s_expr (f_call g (d := .non) (w_check_sketch T) (by decide) (a_cons (f_name g 0) a_nil) ⟨_, hp.1.1, rfl, rfl⟩)) <| s_cons (s_ifn (SemT.is (t_not (t_val (f_call g (d := (.bl (ritL s ps))) (w_raw_is_truth T) (by decide) (a_cons (f_name g 0) (a_cons (f_name g 1) a_nil)) ⟨_, _, ⟨hp.1.1, hp.1.2.1⟩, rfl, rfl⟩))) (by rw [hp.2]; rfl))) <| s_cons (s_expr (f_call g (d := .non) (w_check_told T) (by decide) (a_cons (f_name g 0) a_nil) ⟨_, hp.1.1, rfl, rfl⟩)) <| s_last (s_ret (f_call g (d := (.tup ((paperS s (layL s.off.toNat (repL (tkL s ps)))).map stpD))) (w_raw_paper T) (by decide) (a_cons (f_name g 0) (a_cons (f_name g 1) a_nil)) ⟨_, _, hp.1, rfl, rfl⟩))) rfl
def R_is_lot : List D → D → Prop := fun ds d => ∃ (ns : List Str), LotOk ns ∧ ds = [(.tup (ns.map D.str))] ∧ d = .bl true
theorem w_is_lot (T : Top K w mg) : Fn P w K mg base "is_lot" 2 R_is_lot := by
  refine fn_top T 51 ["thing", "name"] ["thing"] (by decide) (by decide +kernel) (fun _ _ _ _ _ _ us hl => match us, hl with | [_], _ => rfl) (by rintro _ _ ⟨ns, hp, rfl, rfl⟩; rfl) ?_
  intro X gf eP ew eK em eb ds d hR
  subst eP ew eK em eb
  obtain ⟨ns, hp, rfl, rfl⟩ := hR
  have hsc := Eq.refl (defScope (top 51))
  conv at hsc => rhs; whnf
  rw [hsc] at gf
  have g := gf.g
  refine .inl (?_ : Dos X _ [.fz (.tup (ns.map D.str)), .un] (.rt (.bl true)))
  exact s_out (s_cons (s_ifn (SemT.is (SemW.t (w_or (t_not (t_val (f_isi g (b := true) (T := "tuple") (((f_name g 0)).v) rfl (T.fr "isinstance") (T.fr "tuple")))) fun h1 => (w_or (t_cmp o_gt (((f_callB g c_lenTM (T.fr "len") (av_cons (((f_name g 0)).v) av_nil))).v) (((f_gint g (T.i "MOST_NAMES" 40))).v)) fun h2 => (w_or1 (t_not (t_val (f_callB g (c_all g) (T.fr "all") (av_cons (((LcS.n (lc_G g (xs := ns) (own := [("name", 1)]) (out := (fun x3 => (.bl true))) (ItS.g (it_tup (((f_name g 0)).v))) (blkOk_by (by decide +kernel)) (pgb g 1) (fun _ _ => tg_name 1) (fun _ _ _ _ _ x3 m4 => (f_call (g.blk _ _ _ _ _ _) (d := (.bl true)) (w_is_name T) (by decide) (a_cons (f_name (g.blk _ _ _ _ _ _) 1) a_nil) ⟨_, (hp.2.1 x3 m4), rfl, rfl⟩)) (by have := hp.1; omega))).n).v) av_nil)))))))) (by have := hp.1; simp; omega))) <| s_last (s_ret (f_call g (d := (.bl true)) (w_are_ascendingtup T) (by decide) (a_cons (f_name g 0) a_nil) ⟨ns, ⟨hp.2.2, by have := hp.1; omega⟩, rfl, rfl⟩))) rfl
def R_is_question_count : List D → D → Prop := fun ds d => ∃ (n : Str), QnOk (.count n) ∧ ds = [(.tup [(.str "count"), (.str n)])] ∧ d = .bl true
theorem w_is_question_count (T : Top K w mg) : Fn P w K mg base "is_question" 2 R_is_question_count := by
  refine fn_top T 52 ["thing", "word"] ["thing"] (by decide) (by decide +kernel) (fun _ _ _ _ _ _ us hl => match us, hl with | [_], _ => rfl) (by rintro _ _ ⟨n, hp, rfl, rfl⟩; rfl) ?_
  intro X gf eP ew eK em eb ds d hR
  subst eP ew eK em eb
  obtain ⟨n, hp, rfl, rfl⟩ := hR
  have hsc := Eq.refl (defScope (top 52))
  conv at hsc => rhs; whnf
  rw [hsc] at gf
  have g := gf.g
  refine .inl (?_ : Dos X _ [.fz (.tup [(.str "count"), (.str n)]), .un] (.rt (.bl true)))
  exact s_out (s_cons (s_ifn (SemW.t (w_or (t_not (t_val (f_isi g (b := true) (T := "tuple") (((f_name g 0)).v) rfl (T.fr "isinstance") (T.fr "tuple")))) fun h1 => (w_or (SemT.is (b := decide (((List.length ([(.str "count"), (.str n)] : List D) : Nat) : Int) = 0)) (b' := false) (t_cmp o_eqI (((f_callB g c_lenT (T.fr "len") (av_cons (((f_name g 0)).v) av_nil))).v) ((f_int).v)) (by first | rfl | simp)) fun h2 => (w_or (t_not (t_val (f_isi g (b := true) (T := "str") (((f_ixT (((f_name g 0)).v) ((f_int).v) rfl)).v) rfl (T.fr "isinstance") (T.fr "str")))) fun h3 => (w_or1 (t_notInSz (z := "count") g T (n := 2) (((f_ixT (((f_name g 0)).v) ((f_int).v) rfl)).v) (by decide)))))))) <| s_cons (s_set gf 1 (f_ixT (((f_name g 0)).v) ((f_int).v) rfl)) <| s_cons (s_ifn (SemT.is (b := !decide (((List.length ([(.str "count"), (.str n)] : List D) : Nat) : Int) = 2)) (b' := false) (t_cmp o_neI (((f_callB g c_lenT (T.fr "len") (av_cons (((f_name g 0)).v) av_nil))).v) (((f_ixSz g T (n := 2) (((f_name g 1)).v) (by decide))).v)) (by first | rfl | simp))) <| s_last (s_if (SemT.is (b' := true) (t_inS (z := "count") (ys := ["count", "place"]) (((f_name g 1)).v) (f_tup (a_cons (f_gstr g (T.s "COUNT" "count")) (a_cons (f_gstr g (T.s "PLACE" "place")) a_nil)) (by simp))) (by decide +kernel)) (fun _ => s_last (s_ret (f_call g (d := (.bl true)) (w_is_name T) (by decide) (a_cons (f_ixT (((f_name g 0)).v) ((f_int).v) rfl) a_nil) ⟨_, hp, rfl, rfl⟩))) (fun z => nomatch z))) rfl
def R_is_question_lot : List D → D → Prop := fun ds d => ∃ (ns : List Str), QnOk (.lot ns) ∧ ds = [(.tup [(.str "lot"), (.tup (ns.map D.str))])] ∧ d = .bl true
theorem w_is_question_lot (T : Top K w mg) : Fn P w K mg base "is_question" 3 R_is_question_lot := by
  refine fn_top T 52 ["thing", "word"] ["thing"] (by decide) (by decide +kernel) (fun _ _ _ _ _ _ us hl => match us, hl with | [_], _ => rfl) (by rintro _ _ ⟨ns, hp, rfl, rfl⟩; rfl) ?_
  intro X gf eP ew eK em eb ds d hR
  subst eP ew eK em eb
  obtain ⟨ns, hp, rfl, rfl⟩ := hR
  have hsc := Eq.refl (defScope (top 52))
  conv at hsc => rhs; whnf
  rw [hsc] at gf
  have g := gf.g
  refine .inl (?_ : Dos X _ [.fz (.tup [(.str "lot"), (.tup (ns.map D.str))]), .un] (.rt (.bl true)))
  exact s_out (s_cons (s_ifn (SemW.t (w_or (t_not (t_val (f_isi g (b := true) (T := "tuple") (((f_name g 0)).v) rfl (T.fr "isinstance") (T.fr "tuple")))) fun h1 => (w_or (SemT.is (b := decide (((List.length ([(.str "lot"), (.tup (ns.map D.str))] : List D) : Nat) : Int) = 0)) (b' := false) (t_cmp o_eqI (((f_callB g c_lenT (T.fr "len") (av_cons (((f_name g 0)).v) av_nil))).v) ((f_int).v)) (by first | rfl | simp)) fun h2 => (w_or (t_not (t_val (f_isi g (b := true) (T := "str") (((f_ixT (((f_name g 0)).v) ((f_int).v) rfl)).v) rfl (T.fr "isinstance") (T.fr "str")))) fun h3 => (w_or1 (t_notInSz (z := "lot") g T (n := 2) (((f_ixT (((f_name g 0)).v) ((f_int).v) rfl)).v) (by decide)))))))) <| s_cons (s_set gf 1 (f_ixT (((f_name g 0)).v) ((f_int).v) rfl)) <| s_cons (s_ifn (SemT.is (b := !decide (((List.length ([(.str "lot"), (.tup (ns.map D.str))] : List D) : Nat) : Int) = 2)) (b' := false) (t_cmp o_neI (((f_callB g c_lenT (T.fr "len") (av_cons (((f_name g 0)).v) av_nil))).v) (((f_ixSz g T (n := 2) (((f_name g 1)).v) (by decide))).v)) (by first | rfl | simp))) <| s_cons (s_ifn (SemT.is (b' := false) (t_inS (z := "lot") (ys := ["count", "place"]) (((f_name g 1)).v) (f_tup (a_cons (f_gstr g (T.s "COUNT" "count")) (a_cons (f_gstr g (T.s "PLACE" "place")) a_nil)) (by simp))) (by decide +kernel))) <| s_last (s_if (SemT.is (b := decide (("lot" : Str) = "lot")) (b' := true) (t_cmp o_eqS (((f_name g 1)).v) (((f_gstr g (T.s "LOT" "lot"))).v)) (by decide +kernel)) (fun _ => s_last (s_ret (f_call g (d := (.bl true)) (w_is_lot T) (by decide) (a_cons (f_ixT (((f_name g 0)).v) ((f_int).v) rfl) a_nil) ⟨_, hp, rfl, rfl⟩))) (fun z => nomatch z))) rfl
def R_is_question_apart : List D → D → Prop := fun ds d => ∃ (a b : Str), QnOk (.apart a b) ∧ ds = [(.tup [(.str "apart"), (.str a), (.str b)])] ∧ d = .bl true
theorem w_is_question_apart (T : Top K w mg) : Fn P w K mg base "is_question" 2 R_is_question_apart := by
  refine fn_top T 52 ["thing", "word"] ["thing"] (by decide) (by decide +kernel) (fun _ _ _ _ _ _ us hl => match us, hl with | [_], _ => rfl) (by rintro _ _ ⟨a, b, hp, rfl, rfl⟩; rfl) ?_
  intro X gf eP ew eK em eb ds d hR
  subst eP ew eK em eb
  obtain ⟨a, b, hp, rfl, rfl⟩ := hR
  have hsc := Eq.refl (defScope (top 52))
  conv at hsc => rhs; whnf
  rw [hsc] at gf
  have g := gf.g
  refine .inl (?_ : Dos X _ [.fz (.tup [(.str "apart"), (.str a), (.str b)]), .un] (.rt (.bl true)))
  exact s_out (s_cons (s_ifn (SemW.t (w_or (t_not (t_val (f_isi g (b := true) (T := "tuple") (((f_name g 0)).v) rfl (T.fr "isinstance") (T.fr "tuple")))) fun h1 => (w_or (SemT.is (b := decide (((List.length ([(.str "apart"), (.str a), (.str b)] : List D) : Nat) : Int) = 0)) (b' := false) (t_cmp o_eqI (((f_callB g c_lenT (T.fr "len") (av_cons (((f_name g 0)).v) av_nil))).v) ((f_int).v)) (by first | rfl | simp)) fun h2 => (w_or (t_not (t_val (f_isi g (b := true) (T := "str") (((f_ixT (((f_name g 0)).v) ((f_int).v) rfl)).v) rfl (T.fr "isinstance") (T.fr "str")))) fun h3 => (w_or1 (t_notInSz (z := "apart") g T (n := 3) (((f_ixT (((f_name g 0)).v) ((f_int).v) rfl)).v) (by decide)))))))) <| s_cons (s_set gf 1 (f_ixT (((f_name g 0)).v) ((f_int).v) rfl)) <| s_cons (s_ifn (SemT.is (b := !decide (((List.length ([(.str "apart"), (.str a), (.str b)] : List D) : Nat) : Int) = 3)) (b' := false) (t_cmp o_neI (((f_callB g c_lenT (T.fr "len") (av_cons (((f_name g 0)).v) av_nil))).v) (((f_ixSz g T (n := 3) (((f_name g 1)).v) (by decide))).v)) (by first | rfl | simp))) <| s_cons (s_ifn (SemT.is (b' := false) (t_inS (z := "apart") (ys := ["count", "place"]) (((f_name g 1)).v) (f_tup (a_cons (f_gstr g (T.s "COUNT" "count")) (a_cons (f_gstr g (T.s "PLACE" "place")) a_nil)) (by simp))) (by decide +kernel))) <| s_cons (s_ifn (SemT.is (b := decide (("apart" : Str) = "lot")) (b' := false) (t_cmp o_eqS (((f_name g 1)).v) (((f_gstr g (T.s "LOT" "lot"))).v)) (by decide +kernel))) <| s_last (s_if (SemT.is (b := decide (("apart" : Str) = "apart")) (b' := true) (t_cmp o_eqS (((f_name g 1)).v) (((f_gstr g (T.s "APART" "apart"))).v)) (by decide +kernel)) (fun _ => s_last (s_ret (f_and (f_call g (d := (.bl true)) (w_is_name T) (by decide) (a_cons (f_ixT (((f_name g 0)).v) ((f_int).v) rfl) a_nil) ⟨_, hp.1, rfl, rfl⟩) fun h9 => (f_and (f_call g (d := (.bl true)) (w_is_name T) (by decide) (a_cons (f_ixT (((f_name g 0)).v) ((f_int).v) rfl) a_nil) ⟨_, hp.2.1, rfl, rfl⟩) fun h10 => (f_one (f_cmp o_neS (((f_ixT (((f_name g 0)).v) ((f_int).v) rfl)).v) (((f_ixT (((f_name g 0)).v) ((f_int).v) rfl)).v))))))) (fun z => nomatch z))) (by have h3 := hp.2.2; simp [h3])
def R_is_question_place : List D → D → Prop := fun ds d => ∃ (n : Str), QnOk (.place n) ∧ ds = [(.tup [(.str "place"), (.str n)])] ∧ d = .bl true
theorem w_is_question_place (T : Top K w mg) : Fn P w K mg base "is_question" 2 R_is_question_place := by
  refine fn_top T 52 ["thing", "word"] ["thing"] (by decide) (by decide +kernel) (fun _ _ _ _ _ _ us hl => match us, hl with | [_], _ => rfl) (by rintro _ _ ⟨n, hp, rfl, rfl⟩; rfl) ?_
  intro X gf eP ew eK em eb ds d hR
  subst eP ew eK em eb
  obtain ⟨n, hp, rfl, rfl⟩ := hR
  have hsc := Eq.refl (defScope (top 52))
  conv at hsc => rhs; whnf
  rw [hsc] at gf
  have g := gf.g
  refine .inl (?_ : Dos X _ [.fz (.tup [(.str "place"), (.str n)]), .un] (.rt (.bl true)))
  exact s_out (s_cons (s_ifn (SemW.t (w_or (t_not (t_val (f_isi g (b := true) (T := "tuple") (((f_name g 0)).v) rfl (T.fr "isinstance") (T.fr "tuple")))) fun h1 => (w_or (SemT.is (b := decide (((List.length ([(.str "place"), (.str n)] : List D) : Nat) : Int) = 0)) (b' := false) (t_cmp o_eqI (((f_callB g c_lenT (T.fr "len") (av_cons (((f_name g 0)).v) av_nil))).v) ((f_int).v)) (by first | rfl | simp)) fun h2 => (w_or (t_not (t_val (f_isi g (b := true) (T := "str") (((f_ixT (((f_name g 0)).v) ((f_int).v) rfl)).v) rfl (T.fr "isinstance") (T.fr "str")))) fun h3 => (w_or1 (t_notInSz (z := "place") g T (n := 2) (((f_ixT (((f_name g 0)).v) ((f_int).v) rfl)).v) (by decide)))))))) <| s_cons (s_set gf 1 (f_ixT (((f_name g 0)).v) ((f_int).v) rfl)) <| s_cons (s_ifn (SemT.is (b := !decide (((List.length ([(.str "place"), (.str n)] : List D) : Nat) : Int) = 2)) (b' := false) (t_cmp o_neI (((f_callB g c_lenT (T.fr "len") (av_cons (((f_name g 0)).v) av_nil))).v) (((f_ixSz g T (n := 2) (((f_name g 1)).v) (by decide))).v)) (by first | rfl | simp))) <| s_last (s_if (SemT.is (b' := true) (t_inS (z := "place") (ys := ["count", "place"]) (((f_name g 1)).v) (f_tup (a_cons (f_gstr g (T.s "COUNT" "count")) (a_cons (f_gstr g (T.s "PLACE" "place")) a_nil)) (by simp))) (by decide +kernel)) (fun _ => s_last (s_ret (f_call g (d := (.bl true)) (w_is_name T) (by decide) (a_cons (f_ixT (((f_name g 0)).v) ((f_int).v) rfl) a_nil) ⟨_, hp, rfl, rfl⟩))) (fun z => nomatch z))) rfl
def R_is_question_first : List D → D → Prop := fun ds d => ∃ (m : Int), QnOk (.first m) ∧ ds = [(.tup [(.str "first"), (.int m)])] ∧ d = .bl true
theorem w_is_question_first (T : Top K w mg) : Fn P w K mg base "is_question" 3 R_is_question_first := by
  refine fn_top T 52 ["thing", "word"] ["thing"] (by decide) (by decide +kernel) (fun _ _ _ _ _ _ us hl => match us, hl with | [_], _ => rfl) (by rintro _ _ ⟨m, hp, rfl, rfl⟩; rfl) ?_
  intro X gf eP ew eK em eb ds d hR
  subst eP ew eK em eb
  obtain ⟨m, hp, rfl, rfl⟩ := hR
  have hsc := Eq.refl (defScope (top 52))
  conv at hsc => rhs; whnf
  rw [hsc] at gf
  have g := gf.g
  refine .inl (?_ : Dos X _ [.fz (.tup [(.str "first"), (.int m)]), .un] (.rt (.bl true)))
  exact s_out (s_cons (s_ifn (SemW.t (w_or (t_not (t_val (f_isi g (b := true) (T := "tuple") (((f_name g 0)).v) rfl (T.fr "isinstance") (T.fr "tuple")))) fun h1 => (w_or (SemT.is (b := decide (((List.length ([(.str "first"), (.int m)] : List D) : Nat) : Int) = 0)) (b' := false) (t_cmp o_eqI (((f_callB g c_lenT (T.fr "len") (av_cons (((f_name g 0)).v) av_nil))).v) ((f_int).v)) (by first | rfl | simp)) fun h2 => (w_or (t_not (t_val (f_isi g (b := true) (T := "str") (((f_ixT (((f_name g 0)).v) ((f_int).v) rfl)).v) rfl (T.fr "isinstance") (T.fr "str")))) fun h3 => (w_or1 (t_notInSz (z := "first") g T (n := 2) (((f_ixT (((f_name g 0)).v) ((f_int).v) rfl)).v) (by decide)))))))) <| s_cons (s_set gf 1 (f_ixT (((f_name g 0)).v) ((f_int).v) rfl)) <| s_cons (s_ifn (SemT.is (b := !decide (((List.length ([(.str "first"), (.int m)] : List D) : Nat) : Int) = 2)) (b' := false) (t_cmp o_neI (((f_callB g c_lenT (T.fr "len") (av_cons (((f_name g 0)).v) av_nil))).v) (((f_ixSz g T (n := 2) (((f_name g 1)).v) (by decide))).v)) (by first | rfl | simp))) <| s_cons (s_ifn (SemT.is (b' := false) (t_inS (z := "first") (ys := ["count", "place"]) (((f_name g 1)).v) (f_tup (a_cons (f_gstr g (T.s "COUNT" "count")) (a_cons (f_gstr g (T.s "PLACE" "place")) a_nil)) (by simp))) (by decide +kernel))) <| s_cons (s_ifn (SemT.is (b := decide (("first" : Str) = "lot")) (b' := false) (t_cmp o_eqS (((f_name g 1)).v) (((f_gstr g (T.s "LOT" "lot"))).v)) (by decide +kernel))) <| s_cons (s_ifn (SemT.is (b := decide (("first" : Str) = "apart")) (b' := false) (t_cmp o_eqS (((f_name g 1)).v) (((f_gstr g (T.s "APART" "apart"))).v)) (by decide +kernel))) <| s_last (s_ret (f_or (SemF.is (d := .bl (!decide (("first" : Str) = "first"))) (d' := .bl false) (f_cmp o_neS (((f_name g 1)).v) (((f_gstr g (T.s "FIRST" "first"))).v)) (congrArg D.bl (by decide +kernel))) fun h9 => (f_one (f_call g (d := (.bl (true && (decide (1 ≤ m) && decide (m ≤ 40))))) (w_is_between T) (by decide) (a_cons (f_ixT (((f_name g 0)).v) ((f_int).v) rfl) (a_cons f_int (a_cons (f_gint g (T.i "MOST_NAMES" 40)) a_nil))) ⟨_, _, _, rfl, rfl⟩))))) (by have h1 := hp.1; have h2 := hp.2; simp [h1, h2])
def R_is_question_unlike : List D → D → Prop := fun ds d => QnOk (.unlike) ∧ ds = [(.tup [(.str "unlike")])] ∧ d = .bl true
theorem w_is_question_unlike (T : Top K w mg) : Fn P w K mg base "is_question" 1 R_is_question_unlike := by
  refine fn_top T 52 ["thing", "word"] ["thing"] (by decide) (by decide +kernel) (fun _ _ _ _ _ _ us hl => match us, hl with | [_], _ => rfl) (by rintro _ _ ⟨hp, rfl, rfl⟩; rfl) ?_
  intro X gf eP ew eK em eb ds d hR
  subst eP ew eK em eb
  obtain ⟨hp, rfl, rfl⟩ := hR
  have hsc := Eq.refl (defScope (top 52))
  conv at hsc => rhs; whnf
  rw [hsc] at gf
  have g := gf.g
  refine .inl (?_ : Dos X _ [.fz (.tup [(.str "unlike")]), .un] (.rt (.bl true)))
  exact s_out (s_cons (s_ifn (SemW.t (w_or (t_not (t_val (f_isi g (b := true) (T := "tuple") (((f_name g 0)).v) rfl (T.fr "isinstance") (T.fr "tuple")))) fun h1 => (w_or (SemT.is (b := decide (((List.length ([(.str "unlike")] : List D) : Nat) : Int) = 0)) (b' := false) (t_cmp o_eqI (((f_callB g c_lenT (T.fr "len") (av_cons (((f_name g 0)).v) av_nil))).v) ((f_int).v)) (by first | rfl | simp)) fun h2 => (w_or (t_not (t_val (f_isi g (b := true) (T := "str") (((f_ixT (((f_name g 0)).v) ((f_int).v) rfl)).v) rfl (T.fr "isinstance") (T.fr "str")))) fun h3 => (w_or1 (t_notInSz (z := "unlike") g T (n := 1) (((f_ixT (((f_name g 0)).v) ((f_int).v) rfl)).v) (by decide)))))))) <| s_cons (s_set gf 1 (f_ixT (((f_name g 0)).v) ((f_int).v) rfl)) <| s_cons (s_ifn (SemT.is (b := !decide (((List.length ([(.str "unlike")] : List D) : Nat) : Int) = 1)) (b' := false) (t_cmp o_neI (((f_callB g c_lenT (T.fr "len") (av_cons (((f_name g 0)).v) av_nil))).v) (((f_ixSz g T (n := 1) (((f_name g 1)).v) (by decide))).v)) (by first | rfl | simp))) <| s_cons (s_ifn (SemT.is (b' := false) (t_inS (z := "unlike") (ys := ["count", "place"]) (((f_name g 1)).v) (f_tup (a_cons (f_gstr g (T.s "COUNT" "count")) (a_cons (f_gstr g (T.s "PLACE" "place")) a_nil)) (by simp))) (by decide +kernel))) <| s_cons (s_ifn (SemT.is (b := decide (("unlike" : Str) = "lot")) (b' := false) (t_cmp o_eqS (((f_name g 1)).v) (((f_gstr g (T.s "LOT" "lot"))).v)) (by decide +kernel))) <| s_cons (s_ifn (SemT.is (b := decide (("unlike" : Str) = "apart")) (b' := false) (t_cmp o_eqS (((f_name g 1)).v) (((f_gstr g (T.s "APART" "apart"))).v)) (by decide +kernel))) <| s_last (s_ret (f_or (k := true) (l := true) (SemF.is (d := .bl (!decide (("unlike" : Str) = "first"))) (d' := .bl true) (f_cmp o_neS (((f_name g 1)).v) (((f_gstr g (T.s "FIRST" "first"))).v)) (congrArg D.bl (by decide +kernel))) fun h9 => nomatch h9))) rfl
def R_is_question_squares : List D → D → Prop := fun ds d => QnOk (.squares) ∧ ds = [(.tup [(.str "squares")])] ∧ d = .bl true
theorem w_is_question_squares (T : Top K w mg) : Fn P w K mg base "is_question" 1 R_is_question_squares := by
  refine fn_top T 52 ["thing", "word"] ["thing"] (by decide) (by decide +kernel) (fun _ _ _ _ _ _ us hl => match us, hl with | [_], _ => rfl) (by rintro _ _ ⟨hp, rfl, rfl⟩; rfl) ?_
  intro X gf eP ew eK em eb ds d hR
  subst eP ew eK em eb
  obtain ⟨hp, rfl, rfl⟩ := hR
  have hsc := Eq.refl (defScope (top 52))
  conv at hsc => rhs; whnf
  rw [hsc] at gf
  have g := gf.g
  refine .inl (?_ : Dos X _ [.fz (.tup [(.str "squares")]), .un] (.rt (.bl true)))
  exact s_out (s_cons (s_ifn (SemW.t (w_or (t_not (t_val (f_isi g (b := true) (T := "tuple") (((f_name g 0)).v) rfl (T.fr "isinstance") (T.fr "tuple")))) fun h1 => (w_or (SemT.is (b := decide (((List.length ([(.str "squares")] : List D) : Nat) : Int) = 0)) (b' := false) (t_cmp o_eqI (((f_callB g c_lenT (T.fr "len") (av_cons (((f_name g 0)).v) av_nil))).v) ((f_int).v)) (by first | rfl | simp)) fun h2 => (w_or (t_not (t_val (f_isi g (b := true) (T := "str") (((f_ixT (((f_name g 0)).v) ((f_int).v) rfl)).v) rfl (T.fr "isinstance") (T.fr "str")))) fun h3 => (w_or1 (t_notInSz (z := "squares") g T (n := 1) (((f_ixT (((f_name g 0)).v) ((f_int).v) rfl)).v) (by decide)))))))) <| s_cons (s_set gf 1 (f_ixT (((f_name g 0)).v) ((f_int).v) rfl)) <| s_cons (s_ifn (SemT.is (b := !decide (((List.length ([(.str "squares")] : List D) : Nat) : Int) = 1)) (b' := false) (t_cmp o_neI (((f_callB g c_lenT (T.fr "len") (av_cons (((f_name g 0)).v) av_nil))).v) (((f_ixSz g T (n := 1) (((f_name g 1)).v) (by decide))).v)) (by first | rfl | simp))) <| s_cons (s_ifn (SemT.is (b' := false) (t_inS (z := "squares") (ys := ["count", "place"]) (((f_name g 1)).v) (f_tup (a_cons (f_gstr g (T.s "COUNT" "count")) (a_cons (f_gstr g (T.s "PLACE" "place")) a_nil)) (by simp))) (by decide +kernel))) <| s_cons (s_ifn (SemT.is (b := decide (("squares" : Str) = "lot")) (b' := false) (t_cmp o_eqS (((f_name g 1)).v) (((f_gstr g (T.s "LOT" "lot"))).v)) (by decide +kernel))) <| s_cons (s_ifn (SemT.is (b := decide (("squares" : Str) = "apart")) (b' := false) (t_cmp o_eqS (((f_name g 1)).v) (((f_gstr g (T.s "APART" "apart"))).v)) (by decide +kernel))) <| s_last (s_ret (f_or (k := true) (l := true) (SemF.is (d := .bl (!decide (("squares" : Str) = "first"))) (d' := .bl true) (f_cmp o_neS (((f_name g 1)).v) (((f_gstr g (T.s "FIRST" "first"))).v)) (congrArg D.bl (by decide +kernel))) fun h9 => nomatch h9))) rfl
def R_check_question_count : List D → D → Prop := fun ds d => ∃ (n : Str), QnOk (.count n) ∧ ds = [(.tup [(.str "count"), (.str n)])] ∧ d = .non
theorem w_check_question_count (T : Top K w mg) : Fn P w K mg base "check_question" 3 R_check_question_count := by
  refine fn_top T 53 ["thing"] ["thing"] (by decide) (by decide +kernel) (fun _ _ _ _ _ _ us hl => match us, hl with | [_], _ => rfl) (by rintro _ _ ⟨n, hp, rfl, rfl⟩; rfl) ?_
  intro X gf eP ew eK em eb ds d hR
  subst eP ew eK em eb
  obtain ⟨n, hp, rfl, rfl⟩ := hR
  have hsc := Eq.refl (defScope (top 53))
  conv at hsc => rhs; whnf
  rw [hsc] at gf
  have g := gf.g
  exact .inr ⟨rfl, _, (show Dos X (defBody (top 53)) [.fz (.tup [(.str "count"), (.str n)])] (.nx _) from s_cons (s_ifn (t_not (t_val (f_call g (d := (.bl true)) (w_is_question_count T) (by decide) (a_cons (f_name g 0) a_nil) ⟨n, hp, rfl, rfl⟩)))) <| s_nil)⟩
def R_check_question_lot : List D → D → Prop := fun ds d => ∃ (ns : List Str), QnOk (.lot ns) ∧ ds = [(.tup [(.str "lot"), (.tup (ns.map D.str))])] ∧ d = .non
theorem w_check_question_lot (T : Top K w mg) : Fn P w K mg base "check_question" 4 R_check_question_lot := by
  refine fn_top T 53 ["thing"] ["thing"] (by decide) (by decide +kernel) (fun _ _ _ _ _ _ us hl => match us, hl with | [_], _ => rfl) (by rintro _ _ ⟨ns, hp, rfl, rfl⟩; rfl) ?_
  intro X gf eP ew eK em eb ds d hR
  subst eP ew eK em eb
  obtain ⟨ns, hp, rfl, rfl⟩ := hR
  have hsc := Eq.refl (defScope (top 53))
  conv at hsc => rhs; whnf
  rw [hsc] at gf
  have g := gf.g
  exact .inr ⟨rfl, _, (show Dos X (defBody (top 53)) [.fz (.tup [(.str "lot"), (.tup (ns.map D.str))])] (.nx _) from s_cons (s_ifn (t_not (t_val (f_call g (d := (.bl true)) (w_is_question_lot T) (by decide) (a_cons (f_name g 0) a_nil) ⟨ns, hp, rfl, rfl⟩)))) <| s_nil)⟩
def R_check_question_apart : List D → D → Prop := fun ds d => ∃ (a b : Str), QnOk (.apart a b) ∧ ds = [(.tup [(.str "apart"), (.str a), (.str b)])] ∧ d = .non
theorem w_check_question_apart (T : Top K w mg) : Fn P w K mg base "check_question" 3 R_check_question_apart := by
  refine fn_top T 53 ["thing"] ["thing"] (by decide) (by decide +kernel) (fun _ _ _ _ _ _ us hl => match us, hl with | [_], _ => rfl) (by rintro _ _ ⟨a, b, hp, rfl, rfl⟩; rfl) ?_
  intro X gf eP ew eK em eb ds d hR
  subst eP ew eK em eb
  obtain ⟨a, b, hp, rfl, rfl⟩ := hR
  have hsc := Eq.refl (defScope (top 53))
  conv at hsc => rhs; whnf
  rw [hsc] at gf
  have g := gf.g
  exact .inr ⟨rfl, _, (show Dos X (defBody (top 53)) [.fz (.tup [(.str "apart"), (.str a), (.str b)])] (.nx _) from s_cons (s_ifn (t_not (t_val (f_call g (d := (.bl true)) (w_is_question_apart T) (by decide) (a_cons (f_name g 0) a_nil) ⟨a, b, hp, rfl, rfl⟩)))) <| s_nil)⟩
def R_check_question_place : List D → D → Prop := fun ds d => ∃ (n : Str), QnOk (.place n) ∧ ds = [(.tup [(.str "place"), (.str n)])] ∧ d = .non
theorem w_check_question_place (T : Top K w mg) : Fn P w K mg base "check_question" 3 R_check_question_place := by
  refine fn_top T 53 ["thing"] ["thing"] (by decide) (by decide +kernel) (fun _ _ _ _ _ _ us hl => match us, hl with | [_], _ => rfl) (by rintro _ _ ⟨n, hp, rfl, rfl⟩; rfl) ?_
  intro X gf eP ew eK em eb ds d hR
  subst eP ew eK em eb
  obtain ⟨n, hp, rfl, rfl⟩ := hR
  have hsc := Eq.refl (defScope (top 53))
  conv at hsc => rhs; whnf
  rw [hsc] at gf
  have g := gf.g
  exact .inr ⟨rfl, _, (show Dos X (defBody (top 53)) [.fz (.tup [(.str "place"), (.str n)])] (.nx _) from s_cons (s_ifn (t_not (t_val (f_call g (d := (.bl true)) (w_is_question_place T) (by decide) (a_cons (f_name g 0) a_nil) ⟨n, hp, rfl, rfl⟩)))) <| s_nil)⟩
def R_check_question_first : List D → D → Prop := fun ds d => ∃ (m : Int), QnOk (.first m) ∧ ds = [(.tup [(.str "first"), (.int m)])] ∧ d = .non
theorem w_check_question_first (T : Top K w mg) : Fn P w K mg base "check_question" 4 R_check_question_first := by
  refine fn_top T 53 ["thing"] ["thing"] (by decide) (by decide +kernel) (fun _ _ _ _ _ _ us hl => match us, hl with | [_], _ => rfl) (by rintro _ _ ⟨m, hp, rfl, rfl⟩; rfl) ?_
  intro X gf eP ew eK em eb ds d hR
  subst eP ew eK em eb
  obtain ⟨m, hp, rfl, rfl⟩ := hR
  have hsc := Eq.refl (defScope (top 53))
  conv at hsc => rhs; whnf
  rw [hsc] at gf
  have g := gf.g
  exact .inr ⟨rfl, _, (show Dos X (defBody (top 53)) [.fz (.tup [(.str "first"), (.int m)])] (.nx _) from s_cons (s_ifn (t_not (t_val (f_call g (d := (.bl true)) (w_is_question_first T) (by decide) (a_cons (f_name g 0) a_nil) ⟨m, hp, rfl, rfl⟩)))) <| s_nil)⟩
def R_check_question_unlike : List D → D → Prop := fun ds d => QnOk (.unlike) ∧ ds = [(.tup [(.str "unlike")])] ∧ d = .non
theorem w_check_question_unlike (T : Top K w mg) : Fn P w K mg base "check_question" 2 R_check_question_unlike := by
  refine fn_top T 53 ["thing"] ["thing"] (by decide) (by decide +kernel) (fun _ _ _ _ _ _ us hl => match us, hl with | [_], _ => rfl) (by rintro _ _ ⟨hp, rfl, rfl⟩; rfl) ?_
  intro X gf eP ew eK em eb ds d hR
  subst eP ew eK em eb
  obtain ⟨hp, rfl, rfl⟩ := hR
  have hsc := Eq.refl (defScope (top 53))
  conv at hsc => rhs; whnf
  rw [hsc] at gf
  have g := gf.g
  exact .inr ⟨rfl, _, (show Dos X (defBody (top 53)) [.fz (.tup [(.str "unlike")])] (.nx _) from s_cons (s_ifn (t_not (t_val (f_call g (d := (.bl true)) (w_is_question_unlike T) (by decide) (a_cons (f_name g 0) a_nil) ⟨hp, rfl, rfl⟩)))) <| s_nil)⟩
def R_check_question_squares : List D → D → Prop := fun ds d => QnOk (.squares) ∧ ds = [(.tup [(.str "squares")])] ∧ d = .non
theorem w_check_question_squares (T : Top K w mg) : Fn P w K mg base "check_question" 2 R_check_question_squares := by
  refine fn_top T 53 ["thing"] ["thing"] (by decide) (by decide +kernel) (fun _ _ _ _ _ _ us hl => match us, hl with | [_], _ => rfl) (by rintro _ _ ⟨hp, rfl, rfl⟩; rfl) ?_
  intro X gf eP ew eK em eb ds d hR
  subst eP ew eK em eb
  obtain ⟨hp, rfl, rfl⟩ := hR
  have hsc := Eq.refl (defScope (top 53))
  conv at hsc => rhs; whnf
  rw [hsc] at gf
  have g := gf.g
  exact .inr ⟨rfl, _, (show Dos X (defBody (top 53)) [.fz (.tup [(.str "squares")])] (.nx _) from s_cons (s_ifn (t_not (t_val (f_call g (d := (.bl true)) (w_is_question_squares T) (by decide) (a_cons (f_name g 0) a_nil) ⟨hp, rfl, rfl⟩)))) <| s_nil)⟩
def R_named_by_count : List D → D → Prop := fun ds d => ∃ (n : Str), ds = [(.tup [(.str "count"), (.str n)])] ∧ d = .tup ((namesQ (.count n)).map D.str)
theorem w_named_by_count (T : Top K w mg) : Fn P w K mg base "named_by" 1 R_named_by_count := by
  refine fn_top T 54 ["question"] ["question"] (by decide) (by decide +kernel) (fun _ _ _ _ _ _ us hl => match us, hl with | [_], _ => rfl) (by rintro _ _ ⟨n, rfl, rfl⟩; rfl) ?_
  intro X gf eP ew eK em eb ds d hR
  subst eP ew eK em eb
  obtain ⟨n, rfl, rfl⟩ := hR
  have hsc := Eq.refl (defScope (top 54))
  conv at hsc => rhs; whnf
  rw [hsc] at gf
  have g := gf.g
  refine .inl (?_ : Dos X _ [.fz (.tup [(.str "count"), (.str n)])] (.rt (.tup ((namesQ (.count n)).map D.str))))
  exact s_out (s_cons (s_ifn (SemT.is (b := decide (("count" : Str) = "lot")) (b' := false) (t_cmp o_eqS (((f_ixT (((f_name g 0)).v) ((f_int).v) rfl)).v) (((f_gstr g (T.s "LOT" "lot"))).v)) (by decide +kernel))) <| s_last (s_ret (f_ite (SemT.is (b' := true) (t_inS (z := "count") (ys := ["count", "apart", "place"]) (((f_ixT (((f_name g 0)).v) ((f_int).v) rfl)).v) (f_tup (a_cons (f_gstr g (T.s "COUNT" "count")) (a_cons (f_gstr g (T.s "APART" "apart")) (a_cons (f_gstr g (T.s "PLACE" "place")) a_nil))) (by simp))) (by decide +kernel)) (fun h2 => (SemF.is (d' := (.tup [(.str n)])) (f_slT (ds := [(.str "count"), (.str n)]) (l := (some 1)) (u := none) (f_name g 0) (PtS.yes ((f_int).v)) PtS.no) rfl)) (fun h2 => nomatch h2)))) rfl
def R_named_by_lot : List D → D → Prop := fun ds d => ∃ (ns : List Str), ds = [(.tup [(.str "lot"), (.tup (ns.map D.str))])] ∧ d = .tup ((namesQ (.lot ns)).map D.str)
theorem w_named_by_lot (T : Top K w mg) : Fn P w K mg base "named_by" 1 R_named_by_lot := by
  refine fn_top T 54 ["question"] ["question"] (by decide) (by decide +kernel) (fun _ _ _ _ _ _ us hl => match us, hl with | [_], _ => rfl) (by rintro _ _ ⟨ns, rfl, rfl⟩; rfl) ?_
  intro X gf eP ew eK em eb ds d hR
  subst eP ew eK em eb
  obtain ⟨ns, rfl, rfl⟩ := hR
  have hsc := Eq.refl (defScope (top 54))
  conv at hsc => rhs; whnf
  rw [hsc] at gf
  have g := gf.g
  refine .inl (?_ : Dos X _ [.fz (.tup [(.str "lot"), (.tup (ns.map D.str))])] (.rt (.tup ((namesQ (.lot ns)).map D.str))))
  exact s_out (s_last (s_if (SemT.is (b := decide (("lot" : Str) = "lot")) (b' := true) (t_cmp o_eqS (((f_ixT (((f_name g 0)).v) ((f_int).v) rfl)).v) (((f_gstr g (T.s "LOT" "lot"))).v)) (by decide +kernel)) (fun _ => s_last (s_ret (f_ixT (((f_name g 0)).v) ((f_int).v) rfl))) (fun z => nomatch z))) rfl
def R_named_by_apart : List D → D → Prop := fun ds d => ∃ (a b : Str), ds = [(.tup [(.str "apart"), (.str a), (.str b)])] ∧ d = .tup ((namesQ (.apart a b)).map D.str)
theorem w_named_by_apart (T : Top K w mg) : Fn P w K mg base "named_by" 1 R_named_by_apart := by
  refine fn_top T 54 ["question"] ["question"] (by decide) (by decide +kernel) (fun _ _ _ _ _ _ us hl => match us, hl with | [_], _ => rfl) (by rintro _ _ ⟨a, b, rfl, rfl⟩; rfl) ?_
  intro X gf eP ew eK em eb ds d hR
  subst eP ew eK em eb
  obtain ⟨a, b, rfl, rfl⟩ := hR
  have hsc := Eq.refl (defScope (top 54))
  conv at hsc => rhs; whnf
  rw [hsc] at gf
  have g := gf.g
  refine .inl (?_ : Dos X _ [.fz (.tup [(.str "apart"), (.str a), (.str b)])] (.rt (.tup ((namesQ (.apart a b)).map D.str))))
  exact s_out (s_cons (s_ifn (SemT.is (b := decide (("apart" : Str) = "lot")) (b' := false) (t_cmp o_eqS (((f_ixT (((f_name g 0)).v) ((f_int).v) rfl)).v) (((f_gstr g (T.s "LOT" "lot"))).v)) (by decide +kernel))) <| s_last (s_ret (f_ite (SemT.is (b' := true) (t_inS (z := "apart") (ys := ["count", "apart", "place"]) (((f_ixT (((f_name g 0)).v) ((f_int).v) rfl)).v) (f_tup (a_cons (f_gstr g (T.s "COUNT" "count")) (a_cons (f_gstr g (T.s "APART" "apart")) (a_cons (f_gstr g (T.s "PLACE" "place")) a_nil))) (by simp))) (by decide +kernel)) (fun h2 => (SemF.is (d' := (.tup [(.str a), (.str b)])) (f_slT (ds := [(.str "apart"), (.str a), (.str b)]) (l := (some 1)) (u := none) (f_name g 0) (PtS.yes ((f_int).v)) PtS.no) rfl)) (fun h2 => nomatch h2)))) rfl
def R_named_by_place : List D → D → Prop := fun ds d => ∃ (n : Str), ds = [(.tup [(.str "place"), (.str n)])] ∧ d = .tup ((namesQ (.place n)).map D.str)
theorem w_named_by_place (T : Top K w mg) : Fn P w K mg base "named_by" 1 R_named_by_place := by
  refine fn_top T 54 ["question"] ["question"] (by decide) (by decide +kernel) (fun _ _ _ _ _ _ us hl => match us, hl with | [_], _ => rfl) (by rintro _ _ ⟨n, rfl, rfl⟩; rfl) ?_
  intro X gf eP ew eK em eb ds d hR
  subst eP ew eK em eb
  obtain ⟨n, rfl, rfl⟩ := hR
  have hsc := Eq.refl (defScope (top 54))
  conv at hsc => rhs; whnf
  rw [hsc] at gf
  have g := gf.g
  refine .inl (?_ : Dos X _ [.fz (.tup [(.str "place"), (.str n)])] (.rt (.tup ((namesQ (.place n)).map D.str))))
  exact s_out (s_cons (s_ifn (SemT.is (b := decide (("place" : Str) = "lot")) (b' := false) (t_cmp o_eqS (((f_ixT (((f_name g 0)).v) ((f_int).v) rfl)).v) (((f_gstr g (T.s "LOT" "lot"))).v)) (by decide +kernel))) <| s_last (s_ret (f_ite (SemT.is (b' := true) (t_inS (z := "place") (ys := ["count", "apart", "place"]) (((f_ixT (((f_name g 0)).v) ((f_int).v) rfl)).v) (f_tup (a_cons (f_gstr g (T.s "COUNT" "count")) (a_cons (f_gstr g (T.s "APART" "apart")) (a_cons (f_gstr g (T.s "PLACE" "place")) a_nil))) (by simp))) (by decide +kernel)) (fun h2 => (SemF.is (d' := (.tup [(.str n)])) (f_slT (ds := [(.str "place"), (.str n)]) (l := (some 1)) (u := none) (f_name g 0) (PtS.yes ((f_int).v)) PtS.no) rfl)) (fun h2 => nomatch h2)))) rfl
def R_named_by_first : List D → D → Prop := fun ds d => ∃ (m : Int), ds = [(.tup [(.str "first"), (.int m)])] ∧ d = .tup ((namesQ (.first m)).map D.str)
theorem w_named_by_first (T : Top K w mg) : Fn P w K mg base "named_by" 1 R_named_by_first := by
  refine fn_top T 54 ["question"] ["question"] (by decide) (by decide +kernel) (fun _ _ _ _ _ _ us hl => match us, hl with | [_], _ => rfl) (by rintro _ _ ⟨m, rfl, rfl⟩; rfl) ?_
  intro X gf eP ew eK em eb ds d hR
  subst eP ew eK em eb
  obtain ⟨m, rfl, rfl⟩ := hR
  have hsc := Eq.refl (defScope (top 54))
  conv at hsc => rhs; whnf
  rw [hsc] at gf
  have g := gf.g
  refine .inl (?_ : Dos X _ [.fz (.tup [(.str "first"), (.int m)])] (.rt (.tup ((namesQ (.first m)).map D.str))))
  exact s_out (s_cons (s_ifn (SemT.is (b := decide (("first" : Str) = "lot")) (b' := false) (t_cmp o_eqS (((f_ixT (((f_name g 0)).v) ((f_int).v) rfl)).v) (((f_gstr g (T.s "LOT" "lot"))).v)) (by decide +kernel))) <| s_last (s_ret (f_ite (SemT.is (b' := false) (t_inS (z := "first") (ys := ["count", "apart", "place"]) (((f_ixT (((f_name g 0)).v) ((f_int).v) rfl)).v) (f_tup (a_cons (f_gstr g (T.s "COUNT" "count")) (a_cons (f_gstr g (T.s "APART" "apart")) (a_cons (f_gstr g (T.s "PLACE" "place")) a_nil))) (by simp))) (by decide +kernel)) (fun h2 => nomatch h2) (fun h2 => (f_tup a_nil (by simp)))))) rfl
def R_named_by_unlike : List D → D → Prop := fun ds d => ds = [(.tup [(.str "unlike")])] ∧ d = .tup ((namesQ (.unlike)).map D.str)
theorem w_named_by_unlike (T : Top K w mg) : Fn P w K mg base "named_by" 1 R_named_by_unlike := by
  refine fn_top T 54 ["question"] ["question"] (by decide) (by decide +kernel) (fun _ _ _ _ _ _ us hl => match us, hl with | [_], _ => rfl) (by rintro _ _ ⟨rfl, rfl⟩; rfl) ?_
  intro X gf eP ew eK em eb ds d hR
  subst eP ew eK em eb
  obtain ⟨rfl, rfl⟩ := hR
  have hsc := Eq.refl (defScope (top 54))
  conv at hsc => rhs; whnf
  rw [hsc] at gf
  have g := gf.g
  refine .inl (?_ : Dos X _ [.fz (.tup [(.str "unlike")])] (.rt (.tup ((namesQ (.unlike)).map D.str))))
  exact s_out (s_cons (s_ifn (SemT.is (b := decide (("unlike" : Str) = "lot")) (b' := false) (t_cmp o_eqS (((f_ixT (((f_name g 0)).v) ((f_int).v) rfl)).v) (((f_gstr g (T.s "LOT" "lot"))).v)) (by decide +kernel))) <| s_last (s_ret (f_ite (SemT.is (b' := false) (t_inS (z := "unlike") (ys := ["count", "apart", "place"]) (((f_ixT (((f_name g 0)).v) ((f_int).v) rfl)).v) (f_tup (a_cons (f_gstr g (T.s "COUNT" "count")) (a_cons (f_gstr g (T.s "APART" "apart")) (a_cons (f_gstr g (T.s "PLACE" "place")) a_nil))) (by simp))) (by decide +kernel)) (fun h2 => nomatch h2) (fun h2 => (f_tup a_nil (by simp)))))) rfl
def R_named_by_squares : List D → D → Prop := fun ds d => ds = [(.tup [(.str "squares")])] ∧ d = .tup ((namesQ (.squares)).map D.str)
theorem w_named_by_squares (T : Top K w mg) : Fn P w K mg base "named_by" 1 R_named_by_squares := by
  refine fn_top T 54 ["question"] ["question"] (by decide) (by decide +kernel) (fun _ _ _ _ _ _ us hl => match us, hl with | [_], _ => rfl) (by rintro _ _ ⟨rfl, rfl⟩; rfl) ?_
  intro X gf eP ew eK em eb ds d hR
  subst eP ew eK em eb
  obtain ⟨rfl, rfl⟩ := hR
  have hsc := Eq.refl (defScope (top 54))
  conv at hsc => rhs; whnf
  rw [hsc] at gf
  have g := gf.g
  refine .inl (?_ : Dos X _ [.fz (.tup [(.str "squares")])] (.rt (.tup ((namesQ (.squares)).map D.str))))
  exact s_out (s_cons (s_ifn (SemT.is (b := decide (("squares" : Str) = "lot")) (b' := false) (t_cmp o_eqS (((f_ixT (((f_name g 0)).v) ((f_int).v) rfl)).v) (((f_gstr g (T.s "LOT" "lot"))).v)) (by decide +kernel))) <| s_last (s_ret (f_ite (SemT.is (b' := false) (t_inS (z := "squares") (ys := ["count", "apart", "place"]) (((f_ixT (((f_name g 0)).v) ((f_int).v) rfl)).v) (f_tup (a_cons (f_gstr g (T.s "COUNT" "count")) (a_cons (f_gstr g (T.s "APART" "apart")) (a_cons (f_gstr g (T.s "PLACE" "place")) a_nil))) (by simp))) (by decide +kernel)) (fun h2 => nomatch h2) (fun h2 => (f_tup a_nil (by simp)))))) rfl
def R_by_counts : List D → D → Prop := fun ds d => ∃ (s : Sk), SkOk s ∧ ds = [(.tup [(.int s.room), (.int s.many), (.int s.off), (.tup (s.kept.map pD))])] ∧ d = .lst ((bcL s).map D.str)
theorem w_by_counts (T : Top K w mg) : Fn P w K mg base "by_counts" 1 R_by_counts := by
  refine fn_top T 55 ["sketch", "number", "name", "pair"] ["sketch"] (by decide) (by decide +kernel) (fun _ _ _ _ _ _ us hl => match us, hl with | [_], _ => rfl) (by rintro _ _ ⟨s, hp, rfl, rfl⟩; rfl) ?_
  intro X gf eP ew eK em eb ds d hR
  subst eP ew eK em eb
  obtain ⟨s, hp, rfl, rfl⟩ := hR
  have hsc := Eq.refl (defScope (top 55))
  conv at hsc => rhs; whnf
  rw [hsc] at gf
  have g := gf.g
  refine .inl (?_ : Dos X _ [.fz (.tup [(.int s.room), (.int s.many), (.int s.off), (.tup (s.kept.map pD))]), .un, .un, .un] (.rt (.lst ((bcL s).map D.str))))
  exact s_out (s_last (s_ret (((LcS.n (lc_G g (xs := srtIS (s.kept.map fun z => (-z.2, z.1))) (own := [("number", 1), ("name", 2)]) (out := (fun x1 => (.str x1.2))) (ItS.g (it_lst (((n_callB g (c_srtISM g) (T.fr "sorted") (av_cons (((LcS.n (lc_G g (xs := s.kept) (own := [("pair", 3)]) (out := (fun x3 => (.tup [(.int (-x3.2)), (.str x3.1)]))) (ItS.g (it_tup (((f_ixT (((f_name g 0)).v) (((f_gint g (T.i "KEPT" 3))).v) rfl)).v))) (blkOk_by (by decide +kernel)) (pgb g 3) (fun _ _ => tg_name 3) (fun _ _ _ _ _ x3 m4 => (f_tup (a_cons (f_neg (((f_ixT (((f_name (g.blk _ _ _ _ _ _) 3)).v) ((f_int).v) rfl)).v)) (a_cons (f_ixT (((f_name (g.blk _ _ _ _ _ _) 3)).v) ((f_int).v) rfl) a_nil)) (by simp))) (by have := hp.co.2.2; omega))).n).v) av_nil))).v))) (blkOk_by (by decide +kernel)) (pgb2 g 1 2) (fun _ _ => tg_pair 1 2) (fun _ _ _ _ _ x1 m2 => (f_name (g.blk _ _ _ _ _ _) 2)) (by have h1 := hp.co.2.2; have h2 := bcL_len s; unfold bcL at h2; rw [List.length_map] at h2; omega))).n).f))) (by unfold bcL; rw [List.map_map]; rfl)
end
end KD

set_option Elab.async false
set_option linter.all false
set_option maxRecDepth 100000
set_option maxHeartbeats 2000000
namespace KD
open PySem PySem.Spec PyProof.Rows L2
local instance : Vol := volNone
section
variable {P : Program} {w : World} {K : PySem.W.Frag} {mg : Str → Option Value} {base : Heap}

def R_filledtup : List D → D → Prop := fun ds d => ∃ (s : Sk) (names : List Str), (SkOk s ∧ names.length ≤ 1000) ∧ ds = [(.tup [(.int s.room), (.int s.many), (.int s.off), (.tup (s.kept.map pD))]), (.tup (names.map D.str))] ∧ d = .lst ((filL s.off (lostL s) names).1.map pD)
theorem w_filledtup (T : Top K w mg) : Fn P w K mg base "filled" 2 R_filledtup := by
  refine fn_top T 56 ["sketch", "names", "left", "found", "name"] ["sketch", "names"] (by decide) (by decide +kernel) (fun _ _ _ _ _ _ us hl => match us, hl with | [_, _], _ => rfl) (by rintro _ _ ⟨s, names, hp, rfl, rfl⟩; rfl) ?_
  intro X gf eP ew eK em eb ds d hR
  subst eP ew eK em eb
  obtain ⟨s, names, hp, rfl, rfl⟩ := hR
  have hsc := Eq.refl (defScope (top 56))
  conv at hsc => rhs; whnf
  rw [hsc] at gf
  have g := gf.g
  refine .inl (?_ : Dos X _ [.fz (.tup [(.int s.room), (.int s.many), (.int s.off), (.tup (s.kept.map pD))]), .fz (.tup (names.map D.str)), .un, .un, .un] (.rt (.lst ((filL s.off (lostL s) names).1.map pD))))
  exact s_out (s_cons (s_set gf 2 (f_call g (d := (.int (lostL s))) (w_lost_of T) (by decide) (a_cons (f_name g 0) a_nil) ⟨_, hp.1.co.2.2, rfl, rfl⟩)) <| s_cons (s_new gf 3 (n_lst a_nil (by simp))) <| s_cons (s_for gf (xs := names) (rs := (fun i1 => [.fz (.tup [(.int s.room), (.int s.many), (.int s.off), (.tup (s.kept.map pD))]), .fz (.tup (names.map D.str)), .fz (.int ((filL s.off (lostL s) (names.take i1)).2)), .ow (.lst (((filL s.off (lostL s) (names.take i1)).1).map pD)), .un])) (if_tup (xs := names) (enc := D.str) (f_name g 1)) (by repeat (first | exact trivial | refine ⟨.inr rfl, ?_⟩ | refine ⟨.inl rfl, ?_⟩)) (gf.pg (j := 4) rfl rfl) (fun _ _ _ => tx_name 4) (fun i1 x2 hx3 => s_to (s_le (ρ2 := [.fz (.tup [(.int s.room), (.int s.many), (.int s.off), (.tup (s.kept.map pD))]), .fz (.tup (names.map D.str)), .fz (.int (((filL s.off (lostL s) (names.take i1)).2) - ((x2, min s.off (filL s.off (lostL s) (names.take i1)).2).2))), .ow (.lst (((filL s.off (lostL s) (names.take i1)).1 ++ [(x2, min s.off (filL s.off (lostL s) (names.take i1)).2)]).map pD)), .un]) (s_cons (s_app (ds := (((filL s.off (lostL s) (names.take i1)).1).map pD)) g 3 (f_tup (a_cons (f_name g 4) (a_cons (f_callB g (c_min2 g) (T.fr "min") (av_cons (((f_ixT (((f_name g 0)).v) (((f_gint g (T.i "OFF" 2))).v) rfl)).v) (av_cons (((f_name g 2)).v) av_nil))) a_nil)) (by simp)) (by have h1 := filL_len s.off (lostL s) (names.take i1); have h2 := take_len names i1; have h3 := hp.2; rw [List.length_map]; omega)) <| s_at (ρ1 := [.fz (.tup [(.int s.room), (.int s.many), (.int s.off), (.tup (s.kept.map pD))]), .fz (.tup (names.map D.str)), .fz (.int ((filL s.off (lostL s) (names.take i1)).2)), .ow (.lst (((filL s.off (lostL s) (names.take i1)).1 ++ [(x2, min s.off (filL s.off (lostL s) (names.take i1)).2)]).map pD)), .fz (.str x2)]) (s_cons (s_sub gf 2 (((f_ixT (((f_ixL (v_own g 3) (((f_neg ((f_int).v))).v) (at_map (xs := (filL s.off (lostL s) (names.take i1)).1 ++ [(x2, min s.off (filL s.off (lostL s) (names.take i1)).2)]) (enc := pD) (atI_last _ _)))).v) ((f_int).v) rfl)).v)) <| s_nil) (by first | (simp only [List.map_append]; done) | (simp only [List.map_append]; rfl)))) (by unfold filL; rw [foldl_take hx3]))) <| s_at (ρ1 := [.fz (.tup [(.int s.room), (.int s.many), (.int s.off), (.tup (s.kept.map pD))]), .fz (.tup (names.map D.str)), .fz (.int ((filL s.off (lostL s) names).2)), .ow (.lst (((filL s.off (lostL s) names).1).map pD)), .un]) (s_frz 3 rfl <| s_last (s_ret (f_name g 3))) (by rw [List.take_length])) rfl
def R_filledlst : List D → D → Prop := fun ds d => ∃ (s : Sk) (names : List Str), (SkOk s ∧ names.length ≤ 1000) ∧ ds = [(.tup [(.int s.room), (.int s.many), (.int s.off), (.tup (s.kept.map pD))]), (.lst (names.map D.str))] ∧ d = .lst ((filL s.off (lostL s) names).1.map pD)
theorem w_filledlst (T : Top K w mg) : Fn P w K mg base "filled" 2 R_filledlst := by
  refine fn_top T 56 ["sketch", "names", "left", "found", "name"] ["sketch", "names"] (by decide) (by decide +kernel) (fun _ _ _ _ _ _ us hl => match us, hl with | [_, _], _ => rfl) (by rintro _ _ ⟨s, names, hp, rfl, rfl⟩; rfl) ?_
  intro X gf eP ew eK em eb ds d hR
  subst eP ew eK em eb
  obtain ⟨s, names, hp, rfl, rfl⟩ := hR
  have hsc := Eq.refl (defScope (top 56))
  conv at hsc => rhs; whnf
  rw [hsc] at gf
  have g := gf.g
  refine .inl (?_ : Dos X _ [.fz (.tup [(.int s.room), (.int s.many), (.int s.off), (.tup (s.kept.map pD))]), .fz (.lst (names.map D.str)), .un, .un, .un] (.rt (.lst ((filL s.off (lostL s) names).1.map pD))))
  exact s_out (s_cons (s_set gf 2 (f_call g (d := (.int (lostL s))) (w_lost_of T) (by decide) (a_cons (f_name g 0) a_nil) ⟨_, hp.1.co.2.2, rfl, rfl⟩)) <| s_cons (s_new gf 3 (n_lst a_nil (by simp))) <| s_cons (s_for gf (xs := names) (rs := (fun i1 => [.fz (.tup [(.int s.room), (.int s.many), (.int s.off), (.tup (s.kept.map pD))]), .fz (.lst (names.map D.str)), .fz (.int ((filL s.off (lostL s) (names.take i1)).2)), .ow (.lst (((filL s.off (lostL s) (names.take i1)).1).map pD)), .un])) (if_lst (xs := names) (enc := D.str) (f_name g 1)) (by repeat (first | exact trivial | refine ⟨.inr rfl, ?_⟩ | refine ⟨.inl rfl, ?_⟩)) (gf.pg (j := 4) rfl rfl) (fun _ _ _ => tx_name 4) (fun i1 x2 hx3 => s_to (s_le (ρ2 := [.fz (.tup [(.int s.room), (.int s.many), (.int s.off), (.tup (s.kept.map pD))]), .fz (.lst (names.map D.str)), .fz (.int (((filL s.off (lostL s) (names.take i1)).2) - ((x2, min s.off (filL s.off (lostL s) (names.take i1)).2).2))), .ow (.lst (((filL s.off (lostL s) (names.take i1)).1 ++ [(x2, min s.off (filL s.off (lostL s) (names.take i1)).2)]).map pD)), .un]) (s_cons (s_app (ds := (((filL s.off (lostL s) (names.take i1)).1).map pD)) g 3 (f_tup (a_cons (f_name g 4) (a_cons (f_callB g (c_min2 g) (T.fr "min") (av_cons (((f_ixT (((f_name g 0)).v) (((f_gint g (T.i "OFF" 2))).v) rfl)).v) (av_cons (((f_name g 2)).v) av_nil))) a_nil)) (by simp)) (by have h1 := filL_len s.off (lostL s) (names.take i1); have h2 := take_len names i1; have h3 := hp.2; rw [List.length_map]; omega)) <| s_at (ρ1 := [.fz (.tup [(.int s.room), (.int s.many), (.int s.off), (.tup (s.kept.map pD))]), .fz (.lst (names.map D.str)), .fz (.int ((filL s.off (lostL s) (names.take i1)).2)), .ow (.lst (((filL s.off (lostL s) (names.take i1)).1 ++ [(x2, min s.off (filL s.off (lostL s) (names.take i1)).2)]).map pD)), .fz (.str x2)]) (s_cons (s_sub gf 2 (((f_ixT (((f_ixL (v_own g 3) (((f_neg ((f_int).v))).v) (at_map (xs := (filL s.off (lostL s) (names.take i1)).1 ++ [(x2, min s.off (filL s.off (lostL s) (names.take i1)).2)]) (enc := pD) (atI_last _ _)))).v) ((f_int).v) rfl)).v)) <| s_nil) (by first | (simp only [List.map_append]; done) | (simp only [List.map_append]; rfl)))) (by unfold filL; rw [foldl_take hx3]))) <| s_at (ρ1 := [.fz (.tup [(.int s.room), (.int s.many), (.int s.off), (.tup (s.kept.map pD))]), .fz (.lst (names.map D.str)), .fz (.int ((filL s.off (lostL s) names).2)), .ow (.lst (((filL s.off (lostL s) names).1).map pD)), .un]) (s_frz 3 rfl <| s_last (s_ret (f_name g 3))) (by rw [List.take_length])) rfl
def R_raised : List D → D → Prop := fun ds d => ∃ (s : Sk) (name : Str), SkOk s ∧ ds = [(.tup [(.int s.room), (.int s.many), (.int s.off), (.tup (s.kept.map pD))]), (.str name)] ∧ d = .tup [.lst ((raL s name).1.map pD), .int (raL s name).2]
theorem w_raised (T : Top K w mg) : Fn P w K mg base "raised" 2 R_raised := by
  refine fn_top T 57 ["sketch", "name", "kept", "own", "left", "found", "need", "other"] ["sketch", "name"] (by decide) (by decide +kernel) (fun _ _ _ _ _ _ us hl => match us, hl with | [_, _], _ => rfl) (by rintro _ _ ⟨s, name, hp, rfl, rfl⟩; rfl) ?_
  intro X gf eP ew eK em eb ds d hR
  subst eP ew eK em eb
  obtain ⟨s, name, hp, rfl, rfl⟩ := hR
  have hsc := Eq.refl (defScope (top 57))
  conv at hsc => rhs; whnf
  rw [hsc] at gf
  have g := gf.g
  refine .inl (?_ : Dos X _ [.fz (.tup [(.int s.room), (.int s.many), (.int s.off), (.tup (s.kept.map pD))]), .fz (.str name), .un, .un, .un, .un, .un, .un] (.rt (.tup [.lst ((raL s name).1.map pD), .int (raL s name).2])))
  exact s_out (s_cons (s_new gf 2 (SemN.is (d' := (.dct s.kept)) (n_callT g (c_dictT g (kvs := s.kept)) (T.fr "dict") (av_cons (((f_ixT (((f_name g 0)).v) (((f_gint g (T.i "KEPT" 3))).v) rfl)).v) av_nil)) (by rw [mergeI_nil hp.co.2.1.nd]))) <| s_cons (s_set gf 3 (f_get g (v_own g 2) (((f_name g 1)).v) ((f_int).v))) <| s_cons (s_set gf 4 (f_call g (d := (.int (lostL s))) (w_lost_of T) (by decide) (a_cons (f_name g 0) a_nil) ⟨_, hp.co.2.2, rfl, rfl⟩)) <| s_cons (s_new gf 5 (n_lst a_nil (by simp))) <| s_cons (s_for gf (xs := raNeed s name) (rs := (fun i4 => [.fz (.tup [(.int s.room), (.int s.many), (.int s.off), (.tup (s.kept.map pD))]), .fz (.str name), .ow (.dct s.kept), .fz (.int ((dgo s.kept name).getD 0)), .fz (.int ((((raNeed s name).take i4).foldl (raStep s.off) ([], lostL s)).2)), .ow (.lst (((((raNeed s name).take i4).foldl (raStep s.off) ([], lostL s)).1).map pD)), .un, .un])) (if_lst (xs := raNeed s name) (enc := ipD) (((n_callB g (c_srtISM g) (T.fr "sorted") (av_cons (((SemNG.lock (d_own g 2) (LcS.n (lc_If g (xs := s.kept) (own := [("other", 7)]) (out := (fun x1 => (.tup [(.int (max 0 ((((dgo s.kept name).getD 0) - x1.2) + 1))), (.str x1.1)]))) (fl := fun x1 => !decide ((x1.1 : Str) = name)) it_keysI (blkOk_by (by decide +kernel)) (pgb g 7) (fun _ _ => tg_name 7) (fun _ _ _ _ _ x1 m2 => (t_cmp o_neS (((f_name (g.blk _ _ _ _ _ _) 7)).v) (((f_name (g.blk _ _ _ _ _ _) 1)).v))) (fun _ _ _ _ _ x1 m2 h3 => (f_tup (a_cons (f_callB (g.blk _ _ _ _ _ _) (c_max2 (g.blk _ _ _ _ _ _)) (T.fr "max") (av_cons ((f_int).v) (av_cons (((f_op o_add (((f_op o_sub (((f_name (g.blk _ _ _ _ _ _) 3)).v) (((f_ixD (g.blk _ _ _ _ _ _) (v_own (g.blk _ _ _ _ _ _) 2) (((f_name (g.blk _ _ _ _ _ _) 7)).v) (dgo_mem hp.co.2.1.nd m2))).v))).v) ((f_int).v))).v) av_nil))) (a_cons (f_name (g.blk _ _ _ _ _ _) 7) a_nil)) (by simp))) (by have := hp.co.2.2; omega))))).v) av_nil))).f)) (by repeat (first | exact trivial | refine ⟨.inr rfl, ?_⟩ | refine ⟨.inl rfl, ?_⟩)) (gf.pg2 6 7) (fun _ _ _ => tx_pair 6 7) (fun i4 x5 hx6 => s_to (s_le (ρ2 := [.fz (.tup [(.int s.room), (.int s.many), (.int s.off), (.tup (s.kept.map pD))]), .fz (.str name), .ow (.dct s.kept), .fz (.int ((dgo s.kept name).getD 0)), .fz (.int ((raStep s.off (((raNeed s name).take i4).foldl (raStep s.off) ([], lostL s)) x5).2)), .ow (.lst (((raStep s.off (((raNeed s name).take i4).foldl (raStep s.off) ([], lostL s)) x5).1).map pD)), .un, .un]) (s_cons (ρ1 := [.fz (.tup [(.int s.room), (.int s.many), (.int s.off), (.tup (s.kept.map pD))]), .fz (.str name), .ow (.dct s.kept), .fz (.int ((dgo s.kept name).getD 0)), .fz (.int ((raStep s.off (((raNeed s name).take i4).foldl (raStep s.off) ([], lostL s)) x5).2)), .ow (.lst (((raStep s.off (((raNeed s name).take i4).foldl (raStep s.off) ([], lostL s)) x5).1).map pD)), .fz (.int x5.1), .fz (.str x5.2)]) (s_if (t_cmp o_le (((f_name g 6)).v) (((f_callB g (c_min2 g) (T.fr "min") (av_cons (((f_ixT (((f_name g 0)).v) (((f_gint g (T.i "OFF" 2))).v) rfl)).v) (av_cons (((f_name g 4)).v) av_nil)))).v)) (fun c7 => s_to (s_le (ρ2 := [.fz (.tup [(.int s.room), (.int s.many), (.int s.off), (.tup (s.kept.map pD))]), .fz (.str name), .ow (.dct s.kept), .fz (.int ((dgo s.kept name).getD 0)), .fz (.int (((((raNeed s name).take i4).foldl (raStep s.off) ([], lostL s)).2) - x5.1)), .ow (.lst ((((((raNeed s name).take i4).foldl (raStep s.off) ([], lostL s)).1) ++ [(x5.2, x5.1)]).map pD)), .fz (.int x5.1), .fz (.str x5.2)]) (s_cons (s_app (ds := (((((raNeed s name).take i4).foldl (raStep s.off) ([], lostL s)).1).map pD)) g 5 (f_tup (a_cons (f_name g 7) (a_cons (f_name g 6) a_nil)) (by simp)) (by have h1 := raF_len s.off ((raNeed s name).take i4) ([], lostL s); have h2 := take_len (raNeed s name) i4; have h3 := raNeed_len s name; have h4 := hp.co.2.2; rw [List.length_map]; simp only [List.length_nil] at h1; omega)) <| s_at (ρ1 := [.fz (.tup [(.int s.room), (.int s.many), (.int s.off), (.tup (s.kept.map pD))]), .fz (.str name), .ow (.dct s.kept), .fz (.int ((dgo s.kept name).getD 0)), .fz (.int ((((raNeed s name).take i4).foldl (raStep s.off) ([], lostL s)).2)), .ow (.lst ((((((raNeed s name).take i4).foldl (raStep s.off) ([], lostL s)).1) ++ [(x5.2, x5.1)]).map pD)), .fz (.int x5.1), .fz (.str x5.2)]) (s_cons (s_sub gf 4 (((f_name g 6)).v)) <| s_nil) (by first | (simp only [List.map_append]; done) | (simp only [List.map_append]; rfl)))) (by rw [raStep_pos c7])) (fun c7 => s_to (s_le (ρ2 := [.fz (.tup [(.int s.room), (.int s.many), (.int s.off), (.tup (s.kept.map pD))]), .fz (.str name), .ow (.dct s.kept), .fz (.int ((dgo s.kept name).getD 0)), .fz (.int ((((raNeed s name).take i4).foldl (raStep s.off) ([], lostL s)).2)), .ow (.lst (((((raNeed s name).take i4).foldl (raStep s.off) ([], lostL s)).1).map pD)), .fz (.int x5.1), .fz (.str x5.2)]) (s_nil)) (by rw [raStep_neg c7]))) <| s_nil)) (by rw [foldl_take hx6]))) <| s_at (ρ1 := [.fz (.tup [(.int s.room), (.int s.many), (.int s.off), (.tup (s.kept.map pD))]), .fz (.str name), .ow (.dct s.kept), .fz (.int ((dgo s.kept name).getD 0)), .fz (.int ((raL s name).2)), .ow (.lst (((raL s name).1).map pD)), .un, .un]) (s_frz 5 rfl <| s_last (s_ret (f_tup (a_cons (f_name g 5) (a_cons (f_name g 4) a_nil)) (by simp)))) (by unfold raL; rw [List.take_length])) rfl
def plE (s : Sk) (name : Str) : Int × Int := (1 + ((s.kept.filter fun x1 => decide ((((dgo s.kept name).getD 0) + s.off) < x1.2)).length : Int), (1 + (((raL s name).1).length : Int)) + (if (decide (((dgo s.kept name).getD 0) < s.off)) = true then ((raL s name).2) / (((dgo s.kept name).getD 0) + 1) else 0))
def R_place_ends : List D → D → Prop := fun ds d => ∃ (s : Sk) (name : Str), SkOk s ∧ ds = [(.tup [(.int s.room), (.int s.many), (.int s.off), (.tup (s.kept.map pD))]), (.str name)] ∧ d = .tup [.int (plE s name).1, .int (plE s name).2]
theorem w_place_ends (T : Top K w mg) : Fn P w K mg base "place_ends" 3 R_place_ends := by
  refine fn_top T 58 ["sketch", "name", "kept", "own", "least", "more", "found", "left", "other"] ["sketch", "name"] (by decide) (by decide +kernel) (fun _ _ _ _ _ _ us hl => match us, hl with | [_, _], _ => rfl) (by rintro _ _ ⟨s, name, hp, rfl, rfl⟩; rfl) ?_
  intro X gf eP ew eK em eb ds d hR
  subst eP ew eK em eb
  obtain ⟨s, name, hp, rfl, rfl⟩ := hR
  have hsc := Eq.refl (defScope (top 58))
  conv at hsc => rhs; whnf
  rw [hsc] at gf
  have g := gf.g
  refine .inl (?_ : Dos X _ [.fz (.tup [(.int s.room), (.int s.many), (.int s.off), (.tup (s.kept.map pD))]), .fz (.str name), .un, .un, .un, .un, .un, .un, .un] (.rt (.tup [.int (plE s name).1, .int (plE s name).2])))
  exact s_out (s_cons (s_new gf 2 (SemN.is (d' := (.dct s.kept)) (n_callT g (c_dictT g (kvs := s.kept)) (T.fr "dict") (av_cons (((f_ixT (((f_name g 0)).v) (((f_gint g (T.i "KEPT" 3))).v) rfl)).v) av_nil)) (by rw [mergeI_nil hp.co.2.1.nd]))) <| s_cons (s_set gf 3 (f_get g (v_own g 2) (((f_name g 1)).v) ((f_int).v))) <| s_cons (s_set gf 4 (f_op o_add ((f_int).v) (((f_callB g c_lenLM (T.fr "len") (av_cons (((SemNG.lock (d_own g 2) (LcS.n (lc_If g (xs := s.kept) (own := [("other", 8)]) (out := (fun x1 => (.str x1.1))) (fl := fun x1 => decide ((((dgo s.kept name).getD 0) + s.off) < x1.2)) it_keysI (blkOk_by (by decide +kernel)) (pgb g 8) (fun _ _ => tg_name 8) (fun _ _ _ _ _ x1 m2 => (t_cmp o_gt (((f_ixD (g.blk _ _ _ _ _ _) (v_own (g.blk _ _ _ _ _ _) 2) (((f_name (g.blk _ _ _ _ _ _) 8)).v) (dgo_mem hp.co.2.1.nd m2))).v) (((f_op o_add (((f_name (g.blk _ _ _ _ _ _) 3)).v) (((f_ixT (((f_name (g.blk _ _ _ _ _ _) 0)).v) (((f_gint (g.blk _ _ _ _ _ _) (T.i "OFF" 2))).v) rfl)).v))).v))) (fun _ _ _ _ _ x1 m2 h3 => (f_name (g.blk _ _ _ _ _ _) 8)) (by have := hp.co.2.2; omega))))).v) av_nil))).v))) <| s_cons (s_asg (f_call g (d := (.tup [(.lst (((raL s name).1).map pD)), (.int ((raL s name).2))])) (w_raised T) (by decide) (a_cons (f_name g 0) (a_cons (f_name g 1) a_nil)) ⟨_, _, hp, rfl, rfl⟩) (gf.pg2 6 7) (tx_pair 6 7)) <| s_cons (s_set gf 5 (f_ite (d := (.int (if (decide (((dgo s.kept name).getD 0) < s.off)) = true then ((raL s name).2) / (((dgo s.kept name).getD 0) + 1) else 0))) (t_cmp o_lt (((f_name g 3)).v) (((f_ixT (((f_name g 0)).v) (((f_gint g (T.i "OFF" 2))).v) rfl)).v)) (fun h4 => SemF.is (f_op (o_fdiv (i := ((raL s name).2)) (j := (((dgo s.kept name).getD 0) + 1)) ⟨by have := (hp.kg name).1; omega, by have := (hp.kg name).2; omega⟩) (((f_name g 7)).v) (((f_op o_add (((f_name g 3)).v) ((f_int).v))).v)) (by rw [h4]; rfl)) (fun h4 => SemF.is f_int (by rw [h4]; rfl)))) <| s_last (s_ret (f_tup (a_cons (f_name g 4) (a_cons (f_op o_add (((f_op o_add ((f_int).v) (((f_callB g c_lenLM (T.fr "len") (av_cons (((f_name g 6)).v) av_nil))).v))).v) (((f_name g 5)).v)) a_nil)) (by simp)))) rfl
def fiE (s : Sk) (m : Int) : Int × Int := ((((cutA (revS (s.kept.map fun z => z.2)) none (some m)).map fun z => z).sum) + (min (m - ((cutA (revS (s.kept.map fun z => z.2)) none (some m)).length : Int)) (lostL s)), (((cutA (revS (s.kept.map fun z => z.2)) none (some m)).map fun z => z).sum) + (min (m * s.off) (lostL s)))
def R_first_ends : List D → D → Prop := fun ds d => ∃ (s : Sk) (m : Int), (SkOk s ∧ 1 ≤ m ∧ m ≤ 40) ∧ ds = [(.tup [(.int s.room), (.int s.many), (.int s.off), (.tup (s.kept.map pD))]), (.int m)] ∧ d = .tup [.int (fiE s m).1, .int (fiE s m).2]
theorem w_first_ends (T : Top K w mg) : Fn P w K mg base "first_ends" 2 R_first_ends := by
  refine fn_top T 59 ["sketch", "many", "lost", "counts", "least", "pair"] ["sketch", "many"] (by decide) (by decide +kernel) (fun _ _ _ _ _ _ us hl => match us, hl with | [_, _], _ => rfl) (by rintro _ _ ⟨s, m, hp, rfl, rfl⟩; rfl) ?_
  intro X gf eP ew eK em eb ds d hR
  subst eP ew eK em eb
  obtain ⟨s, m, hp, rfl, rfl⟩ := hR
  have hsc := Eq.refl (defScope (top 59))
  conv at hsc => rhs; whnf
  rw [hsc] at gf
  have g := gf.g
  refine .inl (?_ : Dos X _ [.fz (.tup [(.int s.room), (.int s.many), (.int s.off), (.tup (s.kept.map pD))]), .fz (.int m), .un, .un, .un, .un] (.rt (.tup [.int (fiE s m).1, .int (fiE s m).2])))
  exact s_out (s_cons (s_set gf 2 (f_call g (d := (.int (lostL s))) (w_lost_of T) (by decide) (a_cons (f_name g 0) a_nil) ⟨_, hp.1.co.2.2, rfl, rfl⟩)) <| s_cons (s_new gf 3 (SemN.is (d' := (.lst ((cutA (revS (s.kept.map fun z => z.2)) none (some m)).map D.int))) (n_slL (ds := ((revS (s.kept.map fun z => z.2)).map D.int)) (l := none) (u := (some m)) (((n_srtRev g (((LcS.n (lc_G g (xs := s.kept) (own := [("pair", 5)]) (out := (fun x1 => (.int x1.2))) (ItS.g (it_tup (((f_ixT (((f_name g 0)).v) (((f_gint g (T.i "KEPT" 3))).v) rfl)).v))) (blkOk_by (by decide +kernel)) (pgb g 5) (fun _ _ => tg_name 5) (fun _ _ _ _ _ x1 m2 => (f_ixT (((f_name (g.blk _ _ _ _ _ _) 5)).v) ((f_int).v) rfl)) (by have := hp.1.co.2.2; omega))).n).v) (T.fr "sorted"))).v) PtS.no (PtS.yes (((f_name g 1)).v))) (by rw [cutD_map]))) <| s_cons (s_set gf 4 (f_op o_add (((f_callB g (c_sum g) (T.fr "sum") (av_cons (v_own g 3) av_nil))).v) (((f_callB g (c_min2 g) (T.fr "min") (av_cons (((f_op o_sub (((f_name g 1)).v) (((f_callB g c_lenLM (T.fr "len") (av_cons (v_own g 3) av_nil))).v))).v) (av_cons (((f_name g 2)).v) av_nil)))).v))) <| s_last (s_ret (f_tup (a_cons (f_name g 4) (a_cons (f_op o_add (((f_callB g (c_sum g) (T.fr "sum") (av_cons (v_own g 3) av_nil))).v) (((f_callB g (c_min2 g) (T.fr "min") (av_cons (((f_op (o_mul (i := m) (j := s.off) (.inl ⟨by have := hp.2.1; omega, by have := hp.2.2; omega⟩)) (((f_name g 1)).v) (((f_ixT (((f_name g 0)).v) (((f_gint g (T.i "OFF" 2))).v) rfl)).v))).v) (av_cons (((f_name g 2)).v) av_nil)))).v)) a_nil)) (by simp)))) rfl
def unE (s : Sk) : Int × Int := (if (decide ((max 0 ((lostL s) - ((s.kept.length : Int) * s.off))) = 0)) = true then (s.kept.length : Int) else (s.kept.length : Int) + ((((max 0 ((lostL s) - ((s.kept.length : Int) * s.off))) + s.off) - 1) / s.off), (s.kept.length : Int) + (lostL s))
theorem unlike_div {s : Sk} (h : SkOk s) (c : decide (max 0 (lostL s - (s.kept.length : Int) * s.off) = 0) = false) : CDiv (max 0 (lostL s - (s.kept.length : Int) * s.off) + s.off - 1) s.off := by
  refine ⟨?_, by have := h.o2; omega⟩
  have h0 := h.o0
  rcases Int.lt_or_eq_of_le h0 with z | z
  · exact z
  · have h1 := h.off0 z.symm
    rw [h1, ← z, Int.mul_zero] at c
    simp at c
def R_unlike_ends : List D → D → Prop := fun ds d => ∃ (s : Sk), SkOk s ∧ ds = [(.tup [(.int s.room), (.int s.many), (.int s.off), (.tup (s.kept.map pD))])] ∧ d = .tup [.int (unE s).1, .int (unE s).2]
theorem w_unlike_ends (T : Top K w mg) : Fn P w K mg base "unlike_ends" 2 R_unlike_ends := by
  refine fn_top T 60 ["sketch", "lost", "many", "left", "least"] ["sketch"] (by decide) (by decide +kernel) (fun _ _ _ _ _ _ us hl => match us, hl with | [_], _ => rfl) (by rintro _ _ ⟨s, hp, rfl, rfl⟩; rfl) ?_
  intro X gf eP ew eK em eb ds d hR
  subst eP ew eK em eb
  obtain ⟨s, hp, rfl, rfl⟩ := hR
  have hsc := Eq.refl (defScope (top 60))
  conv at hsc => rhs; whnf
  rw [hsc] at gf
  have g := gf.g
  refine .inl (?_ : Dos X _ [.fz (.tup [(.int s.room), (.int s.many), (.int s.off), (.tup (s.kept.map pD))]), .un, .un, .un, .un] (.rt (.tup [.int (unE s).1, .int (unE s).2])))
  exact s_out (s_cons (s_set gf 1 (f_call g (d := (.int (lostL s))) (w_lost_of T) (by decide) (a_cons (f_name g 0) a_nil) ⟨_, hp.co.2.2, rfl, rfl⟩)) <| s_cons (s_set gf 2 (f_callB g c_lenTM (T.fr "len") (av_cons (((f_ixT (((f_name g 0)).v) (((f_gint g (T.i "KEPT" 3))).v) rfl)).v) av_nil))) <| s_cons (s_set gf 3 (f_callB g (c_max2 g) (T.fr "max") (av_cons ((f_int).v) (av_cons (((f_op o_sub (((f_name g 1)).v) (((f_op (o_mul (i := (s.kept.length : Int)) (j := s.off) (.inl ⟨by have := hp.o0; omega, by have := hp.co.2.2; omega⟩)) (((f_name g 2)).v) (((f_ixT (((f_name g 0)).v) (((f_gint g (T.i "OFF" 2))).v) rfl)).v))).v))).v) av_nil)))) <| s_cons (s_set gf 4 (f_ite (d := (.int (if (decide ((max 0 ((lostL s) - ((s.kept.length : Int) * s.off))) = 0)) = true then (s.kept.length : Int) else (s.kept.length : Int) + ((((max 0 ((lostL s) - ((s.kept.length : Int) * s.off))) + s.off) - 1) / s.off)))) (t_cmp o_eqI (((f_name g 3)).v) ((f_int).v)) (fun h1 => SemF.is (f_name g 2) (by rw [h1]; rfl)) (fun h1 => SemF.is (f_op o_add (((f_name g 2)).v) (((f_op (o_fdiv (i := (((max 0 ((lostL s) - ((s.kept.length : Int) * s.off))) + s.off) - 1)) (j := s.off) (unlike_div hp h1)) (((f_op o_sub (((f_op o_add (((f_name g 3)).v) (((f_ixT (((f_name g 0)).v) (((f_gint g (T.i "OFF" 2))).v) rfl)).v))).v) ((f_int).v))).v) (((f_ixT (((f_name g 0)).v) (((f_gint g (T.i "OFF" 2))).v) rfl)).v))).v)) (by rw [h1]; rfl)))) <| s_last (s_ret (f_tup (a_cons (f_name g 4) (a_cons (f_op o_add (((f_name g 2)).v) (((f_name g 1)).v)) a_nil)) (by simp)))) rfl
def lotE (s : Sk) (names : List Str) : Int × Int := ((names.map fun z => (dgo s.kept z).getD 0).sum, ((names.map fun z => (dgo s.kept z).getD 0).sum) + (min ((names.length : Int) * s.off) (lostL s)))
def R_lot_ends : List D → D → Prop := fun ds d => ∃ (s : Sk) (names : List Str), (SkOk s ∧ names.length ≤ 1000) ∧ ds = [(.tup [(.int s.room), (.int s.many), (.int s.off), (.tup (s.kept.map pD))]), (.tup (names.map D.str))] ∧ d = .tup [.int (lotE s names).1, .int (lotE s names).2]
theorem w_lot_ends (T : Top K w mg) : Fn P w K mg base "lot_ends" 2 R_lot_ends := by
  refine fn_top T 62 ["sketch", "names", "kept", "least", "name"] ["sketch", "names"] (by decide) (by decide +kernel) (fun _ _ _ _ _ _ us hl => match us, hl with | [_, _], _ => rfl) (by rintro _ _ ⟨s, names, hp, rfl, rfl⟩; rfl) ?_
  intro X gf eP ew eK em eb ds d hR
  subst eP ew eK em eb
  obtain ⟨s, names, hp, rfl, rfl⟩ := hR
  have hsc := Eq.refl (defScope (top 62))
  conv at hsc => rhs; whnf
  rw [hsc] at gf
  have g := gf.g
  refine .inl (?_ : Dos X _ [.fz (.tup [(.int s.room), (.int s.many), (.int s.off), (.tup (s.kept.map pD))]), .fz (.tup (names.map D.str)), .un, .un, .un] (.rt (.tup [.int (lotE s names).1, .int (lotE s names).2])))
  exact s_out (s_cons (s_new gf 2 (SemN.is (d' := (.dct s.kept)) (n_callT g (c_dictT g (kvs := s.kept)) (T.fr "dict") (av_cons (((f_ixT (((f_name g 0)).v) (((f_gint g (T.i "KEPT" 3))).v) rfl)).v) av_nil)) (by rw [mergeI_nil hp.1.co.2.1.nd]))) <| s_cons (s_set gf 3 (f_callB g (c_sum g) (T.fr "sum") (av_cons (((LcS.n (lc_G g (xs := names) (own := [("name", 4)]) (out := (fun x1 => (.int ((dgo s.kept x1).getD 0)))) (ItS.g (it_tup (((f_name g 1)).v))) (blkOk_by (by decide +kernel)) (pgb g 4) (fun _ _ => tg_name 4) (fun _ _ _ _ _ x1 m2 => (f_get (g.blk _ _ _ _ _ _) (v_own (g.blk _ _ _ _ _ _) 2) (((f_name (g.blk _ _ _ _ _ _) 4)).v) ((f_int).v))) (by omega))).n).v) av_nil))) <| s_last (s_ret (f_tup (a_cons (f_name g 3) (a_cons (f_op o_add (((f_name g 3)).v) (((f_callB g (c_min2 g) (T.fr "min") (av_cons (((f_op (o_mul (i := (names.length : Int)) (j := s.off) (.inl ⟨by omega, by omega⟩)) (((f_callB g c_lenTM (T.fr "len") (av_cons (((f_name g 1)).v) av_nil))).v) (((f_ixT (((f_name g 0)).v) (((f_gint g (T.i "OFF" 2))).v) rfl)).v))).v) (av_cons (((f_call g (d := (.int (lostL s))) (w_lost_of T) (by decide) (a_cons (f_name g 0) a_nil) ⟨_, hp.1.co.2.2, rfl, rfl⟩)).v) av_nil)))).v)) a_nil)) (by simp)))) rfl
theorem pow2_bd {o : Int} (h2 : o ≤ 2) (h0 : 0 ≤ o) : -(2 ^ 64) < o ^ (2 : Int).toNat ∧ o ^ (2 : Int).toNat < 2 ^ 64 := by
  have : o = 0 ∨ o = 1 ∨ o = 2 := by omega
  rcases this with rfl | rfl | rfl <;> decide
theorem sq_div {s : Sk} (h : SkOk s) {x : Int} (c : decide (0 < lostL s - ((filL s.off (lostL s) (bcL s)).1.map fun z => z.2).sum) = true) : CDiv x s.off := by
  refine ⟨?_, by have := h.o2; omega⟩
  have h0 := h.o0
  rcases Int.lt_or_eq_of_le h0 with z | z
  · exact z
  · exfalso
    have h1 := h.off0 z.symm
    have c := of_decide_eq_true c
    have h2 : ∀ (ns : List Str) (a : List (Str × Int) × Int), a.2 = 0 → (a.1.map fun z => z.2).sum = 0 → ((ns.foldl (fun a n => (a.1 ++ [(n, min s.off a.2)], a.2 - min s.off a.2)) a).1.map fun z => z.2).sum = 0 := by
      intro ns
      induction ns with
      | nil => exact fun a _ h => h
      | cons n r ih =>
        intro a ha hs
        rw [List.foldl_cons]
        refine ih _ ?_ ?_
        · show a.2 - min s.off a.2 = 0
          rw [ha, ← z]
          rfl
        · show ((a.1 ++ [(n, min s.off a.2)]).map fun z => z.2).sum = 0
          rw [List.map_append, List.sum_append, hs, ha, ← z]
          rfl
    have h3 := h2 (bcL s) ([], lostL s) h1 rfl
    have h4 : ((filL s.off (lostL s) (bcL s)).1.map fun z => z.2).sum = 0 := h3
    omega
theorem sq_mod {s : Sk} (h : SkOk s) {x : Int} (c : decide (0 < lostL s - ((filL s.off (lostL s) (bcL s)).1.map fun z => z.2).sum) = true) : (x % s.off).natAbs < 2 ^ 64 := by
  have h1 := (sq_div (x := x) h c).1
  have h2 := Int.emod_nonneg x (by omega : s.off ≠ 0)
  have h3 := Int.emod_lt_of_pos x h1
  have h4 := h.o2
  omega
theorem srtIS_mem {xs : List (Int × Str)} {p : Int × Str} : p ∈ srtIS xs ↔ p ∈ xs := List.mem_mergeSort
theorem bcL_mem {s : Sk} {n : Str} : n ∈ bcL s ↔ n ∈ s.kept.map (·.1) := by
  unfold bcL
  rw [List.mem_map, List.mem_map]
  constructor
  · rintro ⟨p, hp, rfl⟩
    obtain ⟨q, hq, rfl⟩ := List.mem_map.mp (srtIS_mem.mp hp)
    exact ⟨q, hq, rfl⟩
  · rintro ⟨q, hq, rfl⟩
    exact ⟨_, srtIS_mem.mpr (List.mem_map.mpr ⟨q, hq, rfl⟩), rfl⟩
theorem filL_fst (off : Int) : ∀ (ns : List Str) (a : List (Str × Int) × Int), (ns.foldl (fun a n => (a.1 ++ [(n, min off a.2)], a.2 - min off a.2)) a).1.map (·.1) = a.1.map (·.1) ++ ns
  | [], a => (List.append_nil _).symm
  | n :: r, a => by
    rw [List.foldl_cons, filL_fst off r]
    show (a.1 ++ [(n, min off a.2)]).map (·.1) ++ r = _
    rw [List.map_append, List.append_assoc]
    rfl
theorem filL_names (off l : Int) (ns : List Str) : (filL off l ns).1.map (·.1) = ns := filL_fst off ns ([], l)
theorem dgo_isSome {kvs : List (Str × Int)} {k : Str} (h : k ∈ kvs.map (·.1)) : dgo kvs k = some ((dgo kvs k).getD 0) := by
  cases e : dgo kvs k with
  | some v => rfl
  | none =>
    exfalso
    obtain ⟨q, hq, rfl⟩ := List.mem_map.mp h
    unfold dgo at e
    rw [Option.map_eq_none_iff, List.find?_eq_none] at e
    exact e q hq (decide_eq_true rfl)
theorem addAll_keys {d ts : List (Str × Int)} {k : Str} (h : k ∈ d.map (·.1)) : k ∈ (addAll d ts).map (·.1) := by
  unfold addAll
  induction ts generalizing d with
  | nil => exact h
  | cons t r ih =>
    rw [List.foldl_cons]
    refine ih ?_
    rw [putI_keys]
    split
    · exact h
    · exact List.mem_append_left _ h
theorem sq_get {s : Sk} (h : SkOk s) {i : Nat} {x : Str × Int} (hx : x ∈ (filL s.off (lostL s) (bcL s)).1) : dgo (addAll s.kept ((filL s.off (lostL s) (bcL s)).1.take i)) x.1 = some ((dgo (addAll s.kept ((filL s.off (lostL s) (bcL s)).1.take i)) x.1).getD 0) := by
  refine dgo_isSome (addAll_keys ?_)
  have h1 : x.1 ∈ (filL s.off (lostL s) (bcL s)).1.map (·.1) := List.mem_map_of_mem hx
  rw [filL_names] at h1
  exact bcL_mem.mp h1
/-- every value of a sum of counts is bounded -/
theorem addAll_bd {b : Int} : ∀ {ts d : List (Str × Int)}, (∀ p ∈ d, -b ≤ p.2 ∧ p.2 ≤ b) → 0 ≤ b → (∀ t ∈ ts, -2 ≤ t.2 ∧ t.2 ≤ 2) → ∀ p ∈ addAll d ts, -(b + 2 * ts.length) ≤ p.2 ∧ p.2 ≤ b + 2 * ts.length
  | [], d, h, _, _ => fun p hp => by
    have := h p hp
    simp only [List.length_nil]
    omega
  | t :: r, d, h, hb, ht => fun p hp => by
    have h1 : addAll d (t :: r) = addAll (putI d t.1 ((dgo d t.1).getD 0 + t.2)) r := rfl
    rw [h1] at hp
    have ht0 := ht t List.mem_cons_self
    have hv : -b ≤ (dgo d t.1).getD 0 ∧ (dgo d t.1).getD 0 ≤ b := by
      cases e : dgo d t.1 with
      | none =>
        show -b ≤ 0 ∧ (0 : Int) ≤ b
        omega
      | some v => exact h _ (dgo_some_mem e)
    have h2 : ∀ q ∈ putI d t.1 ((dgo d t.1).getD 0 + t.2), -(b + 2) ≤ q.2 ∧ q.2 ≤ b + 2 := fun q hq => by
      unfold putI at hq
      split at hq
      · obtain ⟨q0, hq0, rfl⟩ := List.mem_map.mp hq
        split
        · show -(b + 2) ≤ (dgo d t.1).getD 0 + t.2 ∧ (dgo d t.1).getD 0 + t.2 ≤ b + 2
          omega
        · have := h q0 hq0
          omega
      · rcases List.mem_append.mp hq with hq | hq
        · have := h q hq
          omega
        · rw [List.mem_singleton.mp hq]
          show -(b + 2) ≤ (dgo d t.1).getD 0 + t.2 ∧ (dgo d t.1).getD 0 + t.2 ≤ b + 2
          omega
    have := addAll_bd (b := b + 2) (ts := r) h2 (by omega) (fun t ht' => ht t (List.mem_cons_of_mem _ ht')) p hp
    rw [List.length_cons]
    push_cast
    omega
theorem filL_bd (off : Int) : ∀ (ns : List Str) (a : List (Str × Int) × Int), off ≤ 2 → 0 ≤ off → 0 ≤ a.2 → (∀ t ∈ a.1, -2 ≤ t.2 ∧ t.2 ≤ 2) → ∀ t ∈ (ns.foldl (fun a n => (a.1 ++ [(n, min off a.2)], a.2 - min off a.2)) a).1, -2 ≤ t.2 ∧ t.2 ≤ 2
  | [], a, _, _, _, h => h
  | n :: r, a, h1, h2, h3, h => by
    rw [List.foldl_cons]
    refine filL_bd off r _ h1 h2 (by show 0 ≤ a.2 - min off a.2; omega) fun t ht => ?_
    rcases List.mem_append.mp ht with ht | ht
    · exact h t ht
    · rw [List.mem_singleton.mp ht]
      show -2 ≤ min off a.2 ∧ min off a.2 ≤ 2
      omega
theorem sq_mul {s : Sk} (h : SkOk s) {x : Str × Int} (hx : x ∈ addAll s.kept (filL s.off (lostL s) (bcL s)).1) : -(2 ^ 64) < x.2 ∧ x.2 < 2 ^ 64 := by
  have h1 := addAll_bd (b := 1500) (d := s.kept) (ts := (filL s.off (lostL s) (bcL s)).1) (fun p hp => by have := h.kv hp; omega) (by decide) (filL_bd s.off _ _ h.o2 h.o0 h.lost0 fun t ht => nomatch ht) x hx
  have h2 := filL_len s.off (lostL s) (bcL s)
  have h3 := bcL_len s
  have h4 := h.co.2.2
  omega
def sqE (s : Sk) : Int × Int := (((s.kept.map fun z => z.2 * z.2).sum) + (lostL s), if (decide (0 < ((lostL s) - ((((filL s.off (lostL s) (bcL s)).1).map fun z => z.2).sum)))) = true then (((addAll s.kept (filL s.off (lostL s) (bcL s)).1).map fun z => z.2 * z.2).sum) + (((((lostL s) - ((((filL s.off (lostL s) (bcL s)).1).map fun z => z.2).sum)) / s.off) * (s.off ^ (2 : Int).toNat)) + ((((lostL s) - ((((filL s.off (lostL s) (bcL s)).1).map fun z => z.2).sum)) % s.off) ^ (2 : Int).toNat)) else ((addAll s.kept (filL s.off (lostL s) (bcL s)).1).map fun z => z.2 * z.2).sum)
def R_squares_ends : List D → D → Prop := fun ds d => ∃ (s : Sk), SkOk s ∧ ds = [(.tup [(.int s.room), (.int s.many), (.int s.off), (.tup (s.kept.map pD))])] ∧ d = .tup [.int (sqE s).1, .int (sqE s).2]
theorem w_squares_ends (T : Top K w mg) : Fn P w K mg base "squares_ends" 3 R_squares_ends := by
  refine fn_top T 61 ["sketch", "lost", "least", "counts", "taken", "left", "greatest", "name", "number", "pair"] ["sketch"] (by decide) (by decide +kernel) (fun _ _ _ _ _ _ us hl => match us, hl with | [_], _ => rfl) (by rintro _ _ ⟨s, hp, rfl, rfl⟩; rfl) ?_
  intro X gf eP ew eK em eb ds d hR
  subst eP ew eK em eb
  obtain ⟨s, hp, rfl, rfl⟩ := hR
  have hsc := Eq.refl (defScope (top 61))
  conv at hsc => rhs; whnf
  rw [hsc] at gf
  have g := gf.g
  refine .inl (?_ : Dos X _ [.fz (.tup [(.int s.room), (.int s.many), (.int s.off), (.tup (s.kept.map pD))]), .un, .un, .un, .un, .un, .un, .un, .un, .un] (.rt (.tup [.int (sqE s).1, .int (sqE s).2])))
  exact s_out (s_cons (s_set gf 1 (f_call g (d := (.int (lostL s))) (w_lost_of T) (by decide) (a_cons (f_name g 0) a_nil) ⟨_, hp.co.2.2, rfl, rfl⟩)) <| s_cons (s_set gf 2 (f_op o_add (((f_callB g (c_sum g) (T.fr "sum") (av_cons (((LcS.n (lc_G g (xs := s.kept) (own := [("pair", 9)]) (out := (fun x1 => (.int (x1.2 * x1.2)))) (ItS.g (it_tup (((f_ixT (((f_name g 0)).v) (((f_gint g (T.i "KEPT" 3))).v) rfl)).v))) (blkOk_by (by decide +kernel)) (pgb g 9) (fun _ _ => tg_name 9) (fun _ _ _ _ _ x1 m2 => (f_op (o_mul (i := x1.2) (j := x1.2) (.inl ⟨by have := hp.kv m2; omega, by have := hp.kv m2; omega⟩)) (((f_ixT (((f_name (g.blk _ _ _ _ _ _) 9)).v) ((f_int).v) rfl)).v) (((f_ixT (((f_name (g.blk _ _ _ _ _ _) 9)).v) ((f_int).v) rfl)).v))) (by have h1 := filL_len s.off (lostL s) (bcL s); have h2 := bcL_len s; have h3 := hp.co.2.2; omega))).n).v) av_nil))).v) (((f_name g 1)).v))) <| s_cons (s_new gf 3 (SemN.is (d' := (.dct s.kept)) (n_callT g (c_dictT g (kvs := s.kept)) (T.fr "dict") (av_cons (((f_ixT (((f_name g 0)).v) (((f_gint g (T.i "KEPT" 3))).v) rfl)).v) av_nil)) (by rw [mergeI_nil hp.co.2.1.nd]))) <| s_cons (s_set gf 4 (f_call g (d := (.lst (((filL s.off (lostL s) (bcL s)).1).map pD))) (w_filledlst T) (by decide) (a_cons (f_name g 0) (a_cons (f_call g (d := (.lst ((bcL s).map D.str))) (w_by_counts T) (by decide) (a_cons (f_name g 0) a_nil) ⟨_, hp, rfl, rfl⟩) a_nil)) ⟨_, _, ⟨hp, by have h1 := bcL_len s; have h2 := hp.co.2.2; omega⟩, rfl, rfl⟩)) <| s_cons (s_for gf (xs := (filL s.off (lostL s) (bcL s)).1) (rs := (fun i3 => [.fz (.tup [(.int s.room), (.int s.many), (.int s.off), (.tup (s.kept.map pD))]), .fz (.int (lostL s)), .fz (.int (((s.kept.map fun z => z.2 * z.2).sum) + (lostL s))), .ow (.dct (addAll s.kept ((filL s.off (lostL s) (bcL s)).1.take i3))), .fz (.lst (((filL s.off (lostL s) (bcL s)).1).map pD)), .un, .un, .un, .un, .un])) (if_lst (xs := (filL s.off (lostL s) (bcL s)).1) (enc := pD) (f_name g 4)) (by repeat (first | exact trivial | refine ⟨.inr rfl, ?_⟩ | refine ⟨.inl rfl, ?_⟩)) (gf.pg2 7 8) (fun _ _ _ => tx_pair 7 8) (fun i3 x4 hx5 => s_to (s_le (ρ2 := [.fz (.tup [(.int s.room), (.int s.many), (.int s.off), (.tup (s.kept.map pD))]), .fz (.int (lostL s)), .fz (.int (((s.kept.map fun z => z.2 * z.2).sum) + (lostL s))), .ow (.dct (putI (addAll s.kept ((filL s.off (lostL s) (bcL s)).1.take i3)) x4.1 (((dgo (addAll s.kept ((filL s.off (lostL s) (bcL s)).1.take i3)) x4.1).getD 0) + x4.2))), .fz (.lst (((filL s.off (lostL s) (bcL s)).1).map pD)), .un, .un, .un, .un, .un]) (s_cons (s_daug (kvs := addAll s.kept ((filL s.off (lostL s) (bcL s)).1.take i3)) g 3 (((f_name g 7)).v) (((f_name g 8)).v) (sq_get hp (List.mem_of_getElem? hx5)) (by have h0 := addAll_len s.kept ((filL s.off (lostL s) (bcL s)).1.take i3); have h9 := take_len (filL s.off (lostL s) (bcL s)).1 i3; have h1 := filL_len s.off (lostL s) (bcL s); have h2 := bcL_len s; have h3 := hp.co.2.2; omega)) <| s_nil)) (by unfold addAll; rw [foldl_take hx5]))) <| s_at (ρ1 := [.fz (.tup [(.int s.room), (.int s.many), (.int s.off), (.tup (s.kept.map pD))]), .fz (.int (lostL s)), .fz (.int (((s.kept.map fun z => z.2 * z.2).sum) + (lostL s))), .ow (.dct (addAll s.kept (filL s.off (lostL s) (bcL s)).1)), .fz (.lst (((filL s.off (lostL s) (bcL s)).1).map pD)), .un, .un, .un, .un, .un]) (s_cons (s_set gf 5 (f_op o_sub (((f_name g 1)).v) (((f_callB g (c_sum g) (T.fr "sum") (av_cons (((LcS.n (lc_G g (xs := (filL s.off (lostL s) (bcL s)).1) (own := [("name", 7), ("number", 8)]) (out := (fun x6 => (.int x6.2))) (ItS.g (it_lst (((f_name g 4)).v))) (blkOk_by (by decide +kernel)) (pgb2 g 7 8) (fun _ _ => tg_pair 7 8) (fun _ _ _ _ _ x6 m7 => (f_name (g.blk _ _ _ _ _ _) 8)) (by have h1 := filL_len s.off (lostL s) (bcL s); have h2 := bcL_len s; have h3 := hp.co.2.2; omega))).n).v) av_nil))).v))) <| s_cons (s_set gf 6 (f_callB g (c_sum g) (T.fr "sum") (av_cons (((SemNG.lock (d_own g 3) (LcS.n (lc_G g (xs := addAll s.kept (filL s.off (lostL s) (bcL s)).1) (own := [("name", 7)]) (out := (fun x8 => (.int (x8.2 * x8.2)))) it_keysI (blkOk_by (by decide +kernel)) (pgb g 7) (fun _ _ => tg_name 7) (fun _ _ _ _ _ x8 m9 => (f_op (o_mul (i := x8.2) (j := x8.2) (.inl (sq_mul hp m9))) (((f_ixD (g.blk _ _ _ _ _ _) (v_own (g.blk _ _ _ _ _ _) 3) (((f_name (g.blk _ _ _ _ _ _) 7)).v) (dgo_mem (addAll_nd _ hp.co.2.1.nd) m9))).v) (((f_ixD (g.blk _ _ _ _ _ _) (v_own (g.blk _ _ _ _ _ _) 3) (((f_name (g.blk _ _ _ _ _ _) 7)).v) (dgo_mem (addAll_nd _ hp.co.2.1.nd) m9))).v))) (by have h0 := addAll_len s.kept (filL s.off (lostL s) (bcL s)).1; have h1 := filL_len s.off (lostL s) (bcL s); have h2 := bcL_len s; have h3 := hp.co.2.2; omega))))).v) av_nil))) <| s_cons (ρ1 := [.fz (.tup [(.int s.room), (.int s.many), (.int s.off), (.tup (s.kept.map pD))]), .fz (.int (lostL s)), .fz (.int (((s.kept.map fun z => z.2 * z.2).sum) + (lostL s))), .ow (.dct (addAll s.kept (filL s.off (lostL s) (bcL s)).1)), .fz (.lst (((filL s.off (lostL s) (bcL s)).1).map pD)), .fz (.int ((lostL s) - ((((filL s.off (lostL s) (bcL s)).1).map fun z => z.2).sum))), .fz (.int (if (decide (0 < ((lostL s) - ((((filL s.off (lostL s) (bcL s)).1).map fun z => z.2).sum)))) = true then (((addAll s.kept (filL s.off (lostL s) (bcL s)).1).map fun z => z.2 * z.2).sum) + (((((lostL s) - ((((filL s.off (lostL s) (bcL s)).1).map fun z => z.2).sum)) / s.off) * (s.off ^ (2 : Int).toNat)) + ((((lostL s) - ((((filL s.off (lostL s) (bcL s)).1).map fun z => z.2).sum)) % s.off) ^ (2 : Int).toNat)) else ((addAll s.kept (filL s.off (lostL s) (bcL s)).1).map fun z => z.2 * z.2).sum)), .un, .un, .un]) (s_if (t_cmp o_gt (((f_name g 5)).v) ((f_int).v)) (fun c10 => s_to (s_le (ρ2 := [.fz (.tup [(.int s.room), (.int s.many), (.int s.off), (.tup (s.kept.map pD))]), .fz (.int (lostL s)), .fz (.int (((s.kept.map fun z => z.2 * z.2).sum) + (lostL s))), .ow (.dct (addAll s.kept (filL s.off (lostL s) (bcL s)).1)), .fz (.lst (((filL s.off (lostL s) (bcL s)).1).map pD)), .fz (.int ((lostL s) - ((((filL s.off (lostL s) (bcL s)).1).map fun z => z.2).sum))), .fz (.int ((((addAll s.kept (filL s.off (lostL s) (bcL s)).1).map fun z => z.2 * z.2).sum) + (((((lostL s) - ((((filL s.off (lostL s) (bcL s)).1).map fun z => z.2).sum)) / s.off) * (s.off ^ (2 : Int).toNat)) + ((((lostL s) - ((((filL s.off (lostL s) (bcL s)).1).map fun z => z.2).sum)) % s.off) ^ (2 : Int).toNat)))), .un, .un, .un]) (s_cons (s_add gf 6 (((f_op o_add (((f_op (o_mul (i := (((lostL s) - ((((filL s.off (lostL s) (bcL s)).1).map fun z => z.2).sum)) / s.off)) (j := (s.off ^ (2 : Int).toNat)) (.inr ⟨by have := hp.o0; have := hp.o2; exact (pow2_bd this hp.o0).1, by exact (pow2_bd hp.o2 hp.o0).2⟩)) (((f_op (o_fdiv (i := ((lostL s) - ((((filL s.off (lostL s) (bcL s)).1).map fun z => z.2).sum))) (j := s.off) (sq_div hp c10)) (((f_name g 5)).v) (((f_ixT (((f_name g 0)).v) (((f_gint g (T.i "OFF" 2))).v) rfl)).v))).v) (((f_op (o_pow (i := s.off) (j := 2) ⟨by decide, by decide, by have h1 := hp.o0; have h2 := hp.o2; omega⟩) (((f_ixT (((f_name g 0)).v) (((f_gint g (T.i "OFF" 2))).v) rfl)).v) ((f_int).v))).v))).v) (((f_op (o_pow (i := (((lostL s) - ((((filL s.off (lostL s) (bcL s)).1).map fun z => z.2).sum)) % s.off)) (j := 2) ⟨by decide, by decide, (sq_mod hp c10)⟩) (((f_op (o_mod (i := ((lostL s) - ((((filL s.off (lostL s) (bcL s)).1).map fun z => z.2).sum))) (j := s.off) (sq_div (x := 0) hp c10).1) (((f_name g 5)).v) (((f_ixT (((f_name g 0)).v) (((f_gint g (T.i "OFF" 2))).v) rfl)).v))).v) ((f_int).v))).v))).v)) <| s_nil)) (by rw [if_pos c10])) (fun c10 => s_to (s_le (ρ2 := [.fz (.tup [(.int s.room), (.int s.many), (.int s.off), (.tup (s.kept.map pD))]), .fz (.int (lostL s)), .fz (.int (((s.kept.map fun z => z.2 * z.2).sum) + (lostL s))), .ow (.dct (addAll s.kept (filL s.off (lostL s) (bcL s)).1)), .fz (.lst (((filL s.off (lostL s) (bcL s)).1).map pD)), .fz (.int ((lostL s) - ((((filL s.off (lostL s) (bcL s)).1).map fun z => z.2).sum))), .fz (.int (((addAll s.kept (filL s.off (lostL s) (bcL s)).1).map fun z => z.2 * z.2).sum)), .un, .un, .un]) (s_nil)) (by rw [if_neg (by rw [c10]; exact Bool.false_ne_true)]))) <| s_last (s_ret (f_tup (a_cons (f_name g 2) (a_cons (f_name g 6) a_nil)) (by simp)))) (by rw [List.take_length])) rfl
end
end KD

set_option Elab.async false
set_option linter.all false
set_option maxRecDepth 100000
set_option maxHeartbeats 2000000
namespace KD
open PySem PySem.Spec PyProof.Rows L2
local instance : Vol := volNone
section
variable {P : Program} {w : World} {K : PySem.W.Frag} {mg : Str → Option Value} {base : Heap}

def endsQ (s : Sk) : Qn → Int × Int
  | .count n => lotE s [n]
  | .lot ns => lotE s ns
  | .apart a b => ((lotE s [a]).1 - (lotE s [b]).2, (lotE s [a]).2 - (lotE s [b]).1)
  | .place n => plE s n
  | .first m => fiE s m
  | .unlike => unE s
  | .squares => sqE s
def lotT (s : Sk) (names : List Str) : List (Str × Int) := (filL s.off (lostL s) names).1
def ltQ (s : Sk) : Qn → List (Str × Int) × Int
  | .count _ => ([], s.off)
  | .lot _ => ([], s.off)
  | .apart _ b => (lotT s [b], s.off)
  | .place n => (lotT s [n], s.off)
  | .first _ => ([], 1)
  | .unlike => (lotT s (bcL s), s.off)
  | .squares => ([], 1)
def gtQ (s : Sk) : Qn → List (Str × Int) × Int
  | .count n => (lotT s [n], s.off)
  | .lot ns => (lotT s ns, s.off)
  | .apart a _ => (lotT s [a], s.off)
  | .place n => ((raL s n).1, if decide (((dgo s.kept n).getD 0) < s.off) = true then ((dgo s.kept n).getD 0) + 1 else s.off)
  | .first m => (lotT s (cutA (bcL s) none (some m)), s.off)
  | .unlike => ([], 1)
  | .squares => (lotT s (bcL s), s.off)
/-- how many names are looked at -/
def nTw (s : Sk) (taken : List (Str × Int)) (size : Int) (barred : List Str) : Nat :=
  ((List.range 27).find? fun i => !decide (((candN (ddS (barred ++ (addAll s.kept taken).map (·.1))) i).length : Int) < (leftL (lostL s) taken + size - 1) / size)).getD 0
def twT (s : Sk) (barred : List Str) (z : List (Str × Int) × Int) : List (Str × Int) := twL s z.1 z.2 barred (nTw s z.1 z.2 barred)
def R_raw_ends_count : List D → D → Prop := fun ds d => ∃ (s : Sk) (n : Str), (SkOk s ∧ QnOk (.count n)) ∧ ds = [(.tup [(.int s.room), (.int s.many), (.int s.off), (.tup (s.kept.map pD))]), (.tup [(.str "count"), (.str n)])] ∧ d = .tup [.int (endsQ s (.count n)).1, .int (endsQ s (.count n)).2]
theorem w_raw_ends_count (T : Top K w mg) : Fn P w K mg base "raw_ends" 3 R_raw_ends_count := by
  refine fn_top T 63 ["sketch", "question", "word", "one", "other", "name"] ["sketch", "question"] (by decide) (by decide +kernel) (fun _ _ _ _ _ _ us hl => match us, hl with | [_, _], _ => rfl) (by rintro _ _ ⟨s, n, hp, rfl, rfl⟩; rfl) ?_
  intro X gf eP ew eK em eb ds d hR
  subst eP ew eK em eb
  obtain ⟨s, n, hp, rfl, rfl⟩ := hR
  have hsc := Eq.refl (defScope (top 63))
  conv at hsc => rhs; whnf
  rw [hsc] at gf
  have g := gf.g
  refine .inl (?_ : Dos X _ [.fz (.tup [(.int s.room), (.int s.many), (.int s.off), (.tup (s.kept.map pD))]), .fz (.tup [(.str "count"), (.str n)]), .un, .un, .un, .un] (.rt (.tup [.int (endsQ s (.count n)).1, .int (endsQ s (.count n)).2])))
  exact s_out (s_cons (s_set gf 2 (f_ixT (((f_name g 1)).v) ((f_int).v) rfl)) <| s_last (s_if (SemT.is (b := decide (("count" : Str) = "count")) (b' := true) (t_cmp o_eqS (((f_name g 2)).v) (((f_gstr g (T.s "COUNT" "count"))).v)) (by decide +kernel)) (fun _ => s_last (s_ret (f_call g (d := (.tup [(.int ((lotE s [n]).1)), (.int ((lotE s [n]).2))])) (w_lot_ends T) (by decide) (a_cons (f_name g 0) (a_cons (SemF.is (f_slT (ds := [(.str "count"), (.str n)]) (l := (some 1)) (u := none) (f_name g 1) (PtS.yes ((f_int).v)) PtS.no) rfl) a_nil)) ⟨_, [n], ⟨hp.1, by simp⟩, rfl, rfl⟩))) (fun z => nomatch z))) rfl
def R_raw_ends_lot : List D → D → Prop := fun ds d => ∃ (s : Sk) (ns : List Str), (SkOk s ∧ QnOk (.lot ns)) ∧ ds = [(.tup [(.int s.room), (.int s.many), (.int s.off), (.tup (s.kept.map pD))]), (.tup [(.str "lot"), (.tup (ns.map D.str))])] ∧ d = .tup [.int (endsQ s (.lot ns)).1, .int (endsQ s (.lot ns)).2]
theorem w_raw_ends_lot (T : Top K w mg) : Fn P w K mg base "raw_ends" 3 R_raw_ends_lot := by
  refine fn_top T 63 ["sketch", "question", "word", "one", "other", "name"] ["sketch", "question"] (by decide) (by decide +kernel) (fun _ _ _ _ _ _ us hl => match us, hl with | [_, _], _ => rfl) (by rintro _ _ ⟨s, ns, hp, rfl, rfl⟩; rfl) ?_
  intro X gf eP ew eK em eb ds d hR
  subst eP ew eK em eb
  obtain ⟨s, ns, hp, rfl, rfl⟩ := hR
  have hsc := Eq.refl (defScope (top 63))
  conv at hsc => rhs; whnf
  rw [hsc] at gf
  have g := gf.g
  refine .inl (?_ : Dos X _ [.fz (.tup [(.int s.room), (.int s.many), (.int s.off), (.tup (s.kept.map pD))]), .fz (.tup [(.str "lot"), (.tup (ns.map D.str))]), .un, .un, .un, .un] (.rt (.tup [.int (endsQ s (.lot ns)).1, .int (endsQ s (.lot ns)).2])))
  exact s_out (s_cons (s_set gf 2 (f_ixT (((f_name g 1)).v) ((f_int).v) rfl)) <| s_cons (s_ifn (SemT.is (b := decide (("lot" : Str) = "count")) (b' := false) (t_cmp o_eqS (((f_name g 2)).v) (((f_gstr g (T.s "COUNT" "count"))).v)) (by decide +kernel))) <| s_last (s_if (SemT.is (b := decide (("lot" : Str) = "lot")) (b' := true) (t_cmp o_eqS (((f_name g 2)).v) (((f_gstr g (T.s "LOT" "lot"))).v)) (by decide +kernel)) (fun _ => s_last (s_ret (f_call g (d := (.tup [(.int ((lotE s ns).1)), (.int ((lotE s ns).2))])) (w_lot_ends T) (by decide) (a_cons (f_name g 0) (a_cons (f_ixT (((f_name g 1)).v) ((f_int).v) rfl) a_nil)) ⟨_, ns, ⟨hp.1, by have := hp.2.1; omega⟩, rfl, rfl⟩))) (fun z => nomatch z))) rfl
def R_raw_ends_apart : List D → D → Prop := fun ds d => ∃ (s : Sk) (a b : Str), (SkOk s ∧ QnOk (.apart a b)) ∧ ds = [(.tup [(.int s.room), (.int s.many), (.int s.off), (.tup (s.kept.map pD))]), (.tup [(.str "apart"), (.str a), (.str b)])] ∧ d = .tup [.int (endsQ s (.apart a b)).1, .int (endsQ s (.apart a b)).2]
theorem w_raw_ends_apart (T : Top K w mg) : Fn P w K mg base "raw_ends" 3 R_raw_ends_apart := by
  refine fn_top T 63 ["sketch", "question", "word", "one", "other", "name"] ["sketch", "question"] (by decide) (by decide +kernel) (fun _ _ _ _ _ _ us hl => match us, hl with | [_, _], _ => rfl) (by rintro _ _ ⟨s, a, b, hp, rfl, rfl⟩; rfl) ?_
  intro X gf eP ew eK em eb ds d hR
  subst eP ew eK em eb
  obtain ⟨s, a, b, hp, rfl, rfl⟩ := hR
  have hsc := Eq.refl (defScope (top 63))
  conv at hsc => rhs; whnf
  rw [hsc] at gf
  have g := gf.g
  refine .inl (?_ : Dos X _ [.fz (.tup [(.int s.room), (.int s.many), (.int s.off), (.tup (s.kept.map pD))]), .fz (.tup [(.str "apart"), (.str a), (.str b)]), .un, .un, .un, .un] (.rt (.tup [.int (endsQ s (.apart a b)).1, .int (endsQ s (.apart a b)).2])))
  exact s_out (s_cons (s_set gf 2 (f_ixT (((f_name g 1)).v) ((f_int).v) rfl)) <| s_cons (s_ifn (SemT.is (b := decide (("apart" : Str) = "count")) (b' := false) (t_cmp o_eqS (((f_name g 2)).v) (((f_gstr g (T.s "COUNT" "count"))).v)) (by decide +kernel))) <| s_cons (s_ifn (SemT.is (b := decide (("apart" : Str) = "lot")) (b' := false) (t_cmp o_eqS (((f_name g 2)).v) (((f_gstr g (T.s "LOT" "lot"))).v)) (by decide +kernel))) <| s_last (s_if (SemT.is (b := decide (("apart" : Str) = "apart")) (b' := true) (t_cmp o_eqS (((f_name g 2)).v) (((f_gstr g (T.s "APART" "apart"))).v)) (by decide +kernel)) (fun _ => s_cons (s_asg (((LcS.n (lc_G g (xs := [a, b]) (own := [("name", 5)]) (out := (fun x4 => (.tup [(.int ((lotE s [x4]).1)), (.int ((lotE s [x4]).2))]))) (ItS.g (it_tup (((SemF.is (f_slT (ds := [(.str "apart"), (.str a), (.str b)]) (l := (some 1)) (u := none) (f_name g 1) (PtS.yes ((f_int).v)) PtS.no) rfl)).v))) (blkOk_by (by decide +kernel)) (pgb g 5) (fun _ _ => tg_name 5) (fun _ _ _ _ _ x4 m5 => (f_call (g.blk _ _ _ _ _ _) (d := (.tup [(.int ((lotE s [x4]).1)), (.int ((lotE s [x4]).2))])) (w_lot_ends T) (by decide) (a_cons (f_name (g.blk _ _ _ _ _ _) 0) (a_cons (f_tup (a_cons (f_name (g.blk _ _ _ _ _ _) 5) a_nil) (by simp)) a_nil)) ⟨_, [x4], ⟨hp.1, by simp⟩, rfl, rfl⟩)) (by simp))).n).f) (gf.pg2l 3 4) (tx_lpair 3 4)) <| s_last (s_ret (f_tup (a_cons (f_op o_sub (((f_ixT (((f_name g 3)).v) ((f_int).v) rfl)).v) (((f_ixT (((f_name g 4)).v) ((f_int).v) rfl)).v)) (a_cons (f_op o_sub (((f_ixT (((f_name g 3)).v) ((f_int).v) rfl)).v) (((f_ixT (((f_name g 4)).v) ((f_int).v) rfl)).v)) a_nil)) (by simp)))) (fun z => nomatch z))) rfl
def R_raw_ends_place : List D → D → Prop := fun ds d => ∃ (s : Sk) (n : Str), (SkOk s ∧ QnOk (.place n)) ∧ ds = [(.tup [(.int s.room), (.int s.many), (.int s.off), (.tup (s.kept.map pD))]), (.tup [(.str "place"), (.str n)])] ∧ d = .tup [.int (endsQ s (.place n)).1, .int (endsQ s (.place n)).2]
theorem w_raw_ends_place (T : Top K w mg) : Fn P w K mg base "raw_ends" 4 R_raw_ends_place := by
  refine fn_top T 63 ["sketch", "question", "word", "one", "other", "name"] ["sketch", "question"] (by decide) (by decide +kernel) (fun _ _ _ _ _ _ us hl => match us, hl with | [_, _], _ => rfl) (by rintro _ _ ⟨s, n, hp, rfl, rfl⟩; rfl) ?_
  intro X gf eP ew eK em eb ds d hR
  subst eP ew eK em eb
  obtain ⟨s, n, hp, rfl, rfl⟩ := hR
  have hsc := Eq.refl (defScope (top 63))
  conv at hsc => rhs; whnf
  rw [hsc] at gf
  have g := gf.g
  refine .inl (?_ : Dos X _ [.fz (.tup [(.int s.room), (.int s.many), (.int s.off), (.tup (s.kept.map pD))]), .fz (.tup [(.str "place"), (.str n)]), .un, .un, .un, .un] (.rt (.tup [.int (endsQ s (.place n)).1, .int (endsQ s (.place n)).2])))
  exact s_out (s_cons (s_set gf 2 (f_ixT (((f_name g 1)).v) ((f_int).v) rfl)) <| s_cons (s_ifn (SemT.is (b := decide (("place" : Str) = "count")) (b' := false) (t_cmp o_eqS (((f_name g 2)).v) (((f_gstr g (T.s "COUNT" "count"))).v)) (by decide +kernel))) <| s_cons (s_ifn (SemT.is (b := decide (("place" : Str) = "lot")) (b' := false) (t_cmp o_eqS (((f_name g 2)).v) (((f_gstr g (T.s "LOT" "lot"))).v)) (by decide +kernel))) <| s_cons (s_ifn (SemT.is (b := decide (("place" : Str) = "apart")) (b' := false) (t_cmp o_eqS (((f_name g 2)).v) (((f_gstr g (T.s "APART" "apart"))).v)) (by decide +kernel))) <| s_last (s_if (SemT.is (b := decide (("place" : Str) = "place")) (b' := true) (t_cmp o_eqS (((f_name g 2)).v) (((f_gstr g (T.s "PLACE" "place"))).v)) (by decide +kernel)) (fun _ => s_last (s_ret (f_call g (d := (.tup [(.int ((plE s n).1)), (.int ((plE s n).2))])) (w_place_ends T) (by decide) (a_cons (f_name g 0) (a_cons (f_ixT (((f_name g 1)).v) ((f_int).v) rfl) a_nil)) ⟨_, _, hp.1, rfl, rfl⟩))) (fun z => nomatch z))) rfl
def R_raw_ends_first : List D → D → Prop := fun ds d => ∃ (s : Sk) (m : Int), (SkOk s ∧ QnOk (.first m)) ∧ ds = [(.tup [(.int s.room), (.int s.many), (.int s.off), (.tup (s.kept.map pD))]), (.tup [(.str "first"), (.int m)])] ∧ d = .tup [.int (endsQ s (.first m)).1, .int (endsQ s (.first m)).2]
theorem w_raw_ends_first (T : Top K w mg) : Fn P w K mg base "raw_ends" 3 R_raw_ends_first := by
  refine fn_top T 63 ["sketch", "question", "word", "one", "other", "name"] ["sketch", "question"] (by decide) (by decide +kernel) (fun _ _ _ _ _ _ us hl => match us, hl with | [_, _], _ => rfl) (by rintro _ _ ⟨s, m, hp, rfl, rfl⟩; rfl) ?_
  intro X gf eP ew eK em eb ds d hR
  subst eP ew eK em eb
  obtain ⟨s, m, hp, rfl, rfl⟩ := hR
  have hsc := Eq.refl (defScope (top 63))
  conv at hsc => rhs; whnf
  rw [hsc] at gf
  have g := gf.g
  refine .inl (?_ : Dos X _ [.fz (.tup [(.int s.room), (.int s.many), (.int s.off), (.tup (s.kept.map pD))]), .fz (.tup [(.str "first"), (.int m)]), .un, .un, .un, .un] (.rt (.tup [.int (endsQ s (.first m)).1, .int (endsQ s (.first m)).2])))
  exact s_out (s_cons (s_set gf 2 (f_ixT (((f_name g 1)).v) ((f_int).v) rfl)) <| s_cons (s_ifn (SemT.is (b := decide (("first" : Str) = "count")) (b' := false) (t_cmp o_eqS (((f_name g 2)).v) (((f_gstr g (T.s "COUNT" "count"))).v)) (by decide +kernel))) <| s_cons (s_ifn (SemT.is (b := decide (("first" : Str) = "lot")) (b' := false) (t_cmp o_eqS (((f_name g 2)).v) (((f_gstr g (T.s "LOT" "lot"))).v)) (by decide +kernel))) <| s_cons (s_ifn (SemT.is (b := decide (("first" : Str) = "apart")) (b' := false) (t_cmp o_eqS (((f_name g 2)).v) (((f_gstr g (T.s "APART" "apart"))).v)) (by decide +kernel))) <| s_cons (s_ifn (SemT.is (b := decide (("first" : Str) = "place")) (b' := false) (t_cmp o_eqS (((f_name g 2)).v) (((f_gstr g (T.s "PLACE" "place"))).v)) (by decide +kernel))) <| s_last (s_if (SemT.is (b := decide (("first" : Str) = "first")) (b' := true) (t_cmp o_eqS (((f_name g 2)).v) (((f_gstr g (T.s "FIRST" "first"))).v)) (by decide +kernel)) (fun _ => s_last (s_ret (f_call g (d := (.tup [(.int ((fiE s m).1)), (.int ((fiE s m).2))])) (w_first_ends T) (by decide) (a_cons (f_name g 0) (a_cons (f_ixT (((f_name g 1)).v) ((f_int).v) rfl) a_nil)) ⟨_, _, ⟨hp.1, hp.2.1, hp.2.2⟩, rfl, rfl⟩))) (fun z => nomatch z))) rfl
def R_raw_ends_unlike : List D → D → Prop := fun ds d => ∃ (s : Sk) , (SkOk s ∧ QnOk (.unlike)) ∧ ds = [(.tup [(.int s.room), (.int s.many), (.int s.off), (.tup (s.kept.map pD))]), (.tup [(.str "unlike")])] ∧ d = .tup [.int (endsQ s (.unlike)).1, .int (endsQ s (.unlike)).2]
theorem w_raw_ends_unlike (T : Top K w mg) : Fn P w K mg base "raw_ends" 3 R_raw_ends_unlike := by
  refine fn_top T 63 ["sketch", "question", "word", "one", "other", "name"] ["sketch", "question"] (by decide) (by decide +kernel) (fun _ _ _ _ _ _ us hl => match us, hl with | [_, _], _ => rfl) (by rintro _ _ ⟨s, hp, rfl, rfl⟩; rfl) ?_
  intro X gf eP ew eK em eb ds d hR
  subst eP ew eK em eb
  obtain ⟨s, hp, rfl, rfl⟩ := hR
  have hsc := Eq.refl (defScope (top 63))
  conv at hsc => rhs; whnf
  rw [hsc] at gf
  have g := gf.g
  refine .inl (?_ : Dos X _ [.fz (.tup [(.int s.room), (.int s.many), (.int s.off), (.tup (s.kept.map pD))]), .fz (.tup [(.str "unlike")]), .un, .un, .un, .un] (.rt (.tup [.int (endsQ s (.unlike)).1, .int (endsQ s (.unlike)).2])))
  exact s_out (s_cons (s_set gf 2 (f_ixT (((f_name g 1)).v) ((f_int).v) rfl)) <| s_cons (s_ifn (SemT.is (b := decide (("unlike" : Str) = "count")) (b' := false) (t_cmp o_eqS (((f_name g 2)).v) (((f_gstr g (T.s "COUNT" "count"))).v)) (by decide +kernel))) <| s_cons (s_ifn (SemT.is (b := decide (("unlike" : Str) = "lot")) (b' := false) (t_cmp o_eqS (((f_name g 2)).v) (((f_gstr g (T.s "LOT" "lot"))).v)) (by decide +kernel))) <| s_cons (s_ifn (SemT.is (b := decide (("unlike" : Str) = "apart")) (b' := false) (t_cmp o_eqS (((f_name g 2)).v) (((f_gstr g (T.s "APART" "apart"))).v)) (by decide +kernel))) <| s_cons (s_ifn (SemT.is (b := decide (("unlike" : Str) = "place")) (b' := false) (t_cmp o_eqS (((f_name g 2)).v) (((f_gstr g (T.s "PLACE" "place"))).v)) (by decide +kernel))) <| s_cons (s_ifn (SemT.is (b := decide (("unlike" : Str) = "first")) (b' := false) (t_cmp o_eqS (((f_name g 2)).v) (((f_gstr g (T.s "FIRST" "first"))).v)) (by decide +kernel))) <| s_last (s_ret (f_ite (SemT.is (b := decide (("unlike" : Str) = "unlike")) (b' := true) (t_cmp o_eqS (((f_name g 2)).v) (((f_gstr g (T.s "UNLIKE" "unlike"))).v)) (by decide +kernel)) (fun h6 => (f_call g (d := (.tup [(.int ((unE s).1)), (.int ((unE s).2))])) (w_unlike_ends T) (by decide) (a_cons (f_name g 0) a_nil) ⟨_, hp.1, rfl, rfl⟩)) (fun h6 => nomatch h6)))) rfl
def R_raw_ends_squares : List D → D → Prop := fun ds d => ∃ (s : Sk) , (SkOk s ∧ QnOk (.squares)) ∧ ds = [(.tup [(.int s.room), (.int s.many), (.int s.off), (.tup (s.kept.map pD))]), (.tup [(.str "squares")])] ∧ d = .tup [.int (endsQ s (.squares)).1, .int (endsQ s (.squares)).2]
theorem w_raw_ends_squares (T : Top K w mg) : Fn P w K mg base "raw_ends" 4 R_raw_ends_squares := by
  refine fn_top T 63 ["sketch", "question", "word", "one", "other", "name"] ["sketch", "question"] (by decide) (by decide +kernel) (fun _ _ _ _ _ _ us hl => match us, hl with | [_, _], _ => rfl) (by rintro _ _ ⟨s, hp, rfl, rfl⟩; rfl) ?_
  intro X gf eP ew eK em eb ds d hR
  subst eP ew eK em eb
  obtain ⟨s, hp, rfl, rfl⟩ := hR
  have hsc := Eq.refl (defScope (top 63))
  conv at hsc => rhs; whnf
  rw [hsc] at gf
  have g := gf.g
  refine .inl (?_ : Dos X _ [.fz (.tup [(.int s.room), (.int s.many), (.int s.off), (.tup (s.kept.map pD))]), .fz (.tup [(.str "squares")]), .un, .un, .un, .un] (.rt (.tup [.int (endsQ s (.squares)).1, .int (endsQ s (.squares)).2])))
  exact s_out (s_cons (s_set gf 2 (f_ixT (((f_name g 1)).v) ((f_int).v) rfl)) <| s_cons (s_ifn (SemT.is (b := decide (("squares" : Str) = "count")) (b' := false) (t_cmp o_eqS (((f_name g 2)).v) (((f_gstr g (T.s "COUNT" "count"))).v)) (by decide +kernel))) <| s_cons (s_ifn (SemT.is (b := decide (("squares" : Str) = "lot")) (b' := false) (t_cmp o_eqS (((f_name g 2)).v) (((f_gstr g (T.s "LOT" "lot"))).v)) (by decide +kernel))) <| s_cons (s_ifn (SemT.is (b := decide (("squares" : Str) = "apart")) (b' := false) (t_cmp o_eqS (((f_name g 2)).v) (((f_gstr g (T.s "APART" "apart"))).v)) (by decide +kernel))) <| s_cons (s_ifn (SemT.is (b := decide (("squares" : Str) = "place")) (b' := false) (t_cmp o_eqS (((f_name g 2)).v) (((f_gstr g (T.s "PLACE" "place"))).v)) (by decide +kernel))) <| s_cons (s_ifn (SemT.is (b := decide (("squares" : Str) = "first")) (b' := false) (t_cmp o_eqS (((f_name g 2)).v) (((f_gstr g (T.s "FIRST" "first"))).v)) (by decide +kernel))) <| s_last (s_ret (f_ite (SemT.is (b := decide (("squares" : Str) = "unlike")) (b' := false) (t_cmp o_eqS (((f_name g 2)).v) (((f_gstr g (T.s "UNLIKE" "unlike"))).v)) (by decide +kernel)) (fun h6 => nomatch h6) (fun h6 => (f_call g (d := (.tup [(.int ((sqE s).1)), (.int ((sqE s).2))])) (w_squares_ends T) (by decide) (a_cons (f_name g 0) a_nil) ⟨_, hp.1, rfl, rfl⟩))))) rfl
def R_ends_count : List D → D → Prop := fun ds d => ∃ (s : Sk) (n : Str), (SkOk s ∧ QnOk (.count n)) ∧ ds = [(.tup [(.int s.room), (.int s.many), (.int s.off), (.tup (s.kept.map pD))]), (.tup [(.str "count"), (.str n)])] ∧ d = .tup [.int (endsQ s (.count n)).1, .int (endsQ s (.count n)).2]
theorem w_ends_count (T : Top K w mg) : Fn P w K mg base "ends" 5 R_ends_count := by
  refine fn_top T 64 ["sketch", "question"] ["sketch", "question"] (by decide) (by decide +kernel) (fun _ _ _ _ _ _ us hl => match us, hl with | [_, _], _ => rfl) (by rintro _ _ ⟨s, n, hp, rfl, rfl⟩; rfl) ?_
  intro X gf eP ew eK em eb ds d hR
  subst eP ew eK em eb
  obtain ⟨s, n, hp, rfl, rfl⟩ := hR
  have hsc := Eq.refl (defScope (top 64))
  conv at hsc => rhs; whnf
  rw [hsc] at gf
  have g := gf.g
  refine .inl (?_ : Dos X _ [.fz (.tup [(.int s.room), (.int s.many), (.int s.off), (.tup (s.kept.map pD))]), .fz (.tup [(.str "count"), (.str n)])] (.rt (.tup [.int (endsQ s (.count n)).1, .int (endsQ s (.count n)).2])))
  exact s_out (s_cons (s_expr (f_call g (d := .non) (w_check_sketch T) (by decide) (a_cons (f_name g 0) a_nil) ⟨_, hp.1, rfl, rfl⟩)) <| s_cons (s_expr (f_call g (d := .non) (w_check_question_count T) (by decide) (a_cons (f_name g 1) a_nil) ⟨_, hp.2, rfl, rfl⟩)) <| s_last (s_ret (f_call g (d := (.tup [(.int ((endsQ s (.count n)).1)), (.int ((endsQ s (.count n)).2))])) (w_raw_ends_count T) (by decide) (a_cons (f_name g 0) (a_cons (f_name g 1) a_nil)) ⟨_, _, hp, rfl, rfl⟩))) rfl
def R_ends_lot : List D → D → Prop := fun ds d => ∃ (s : Sk) (ns : List Str), (SkOk s ∧ QnOk (.lot ns)) ∧ ds = [(.tup [(.int s.room), (.int s.many), (.int s.off), (.tup (s.kept.map pD))]), (.tup [(.str "lot"), (.tup (ns.map D.str))])] ∧ d = .tup [.int (endsQ s (.lot ns)).1, .int (endsQ s (.lot ns)).2]
theorem w_ends_lot (T : Top K w mg) : Fn P w K mg base "ends" 5 R_ends_lot := by
  refine fn_top T 64 ["sketch", "question"] ["sketch", "question"] (by decide) (by decide +kernel) (fun _ _ _ _ _ _ us hl => match us, hl with | [_, _], _ => rfl) (by rintro _ _ ⟨s, ns, hp, rfl, rfl⟩; rfl) ?_
  intro X gf eP ew eK em eb ds d hR
  subst eP ew eK em eb
  obtain ⟨s, ns, hp, rfl, rfl⟩ := hR
  have hsc := Eq.refl (defScope (top 64))
  conv at hsc => rhs; whnf
  rw [hsc] at gf
  have g := gf.g
  refine .inl (?_ : Dos X _ [.fz (.tup [(.int s.room), (.int s.many), (.int s.off), (.tup (s.kept.map pD))]), .fz (.tup [(.str "lot"), (.tup (ns.map D.str))])] (.rt (.tup [.int (endsQ s (.lot ns)).1, .int (endsQ s (.lot ns)).2])))
  exact s_out (s_cons (s_expr (f_call g (d := .non) (w_check_sketch T) (by decide) (a_cons (f_name g 0) a_nil) ⟨_, hp.1, rfl, rfl⟩)) <| s_cons (s_expr (f_call g (d := .non) (w_check_question_lot T) (by decide) (a_cons (f_name g 1) a_nil) ⟨_, hp.2, rfl, rfl⟩)) <| s_last (s_ret (f_call g (d := (.tup [(.int ((endsQ s (.lot ns)).1)), (.int ((endsQ s (.lot ns)).2))])) (w_raw_ends_lot T) (by decide) (a_cons (f_name g 0) (a_cons (f_name g 1) a_nil)) ⟨_, _, hp, rfl, rfl⟩))) rfl
def R_ends_apart : List D → D → Prop := fun ds d => ∃ (s : Sk) (a b : Str), (SkOk s ∧ QnOk (.apart a b)) ∧ ds = [(.tup [(.int s.room), (.int s.many), (.int s.off), (.tup (s.kept.map pD))]), (.tup [(.str "apart"), (.str a), (.str b)])] ∧ d = .tup [.int (endsQ s (.apart a b)).1, .int (endsQ s (.apart a b)).2]
theorem w_ends_apart (T : Top K w mg) : Fn P w K mg base "ends" 5 R_ends_apart := by
  refine fn_top T 64 ["sketch", "question"] ["sketch", "question"] (by decide) (by decide +kernel) (fun _ _ _ _ _ _ us hl => match us, hl with | [_, _], _ => rfl) (by rintro _ _ ⟨s, a, b, hp, rfl, rfl⟩; rfl) ?_
  intro X gf eP ew eK em eb ds d hR
  subst eP ew eK em eb
  obtain ⟨s, a, b, hp, rfl, rfl⟩ := hR
  have hsc := Eq.refl (defScope (top 64))
  conv at hsc => rhs; whnf
  rw [hsc] at gf
  have g := gf.g
  refine .inl (?_ : Dos X _ [.fz (.tup [(.int s.room), (.int s.many), (.int s.off), (.tup (s.kept.map pD))]), .fz (.tup [(.str "apart"), (.str a), (.str b)])] (.rt (.tup [.int (endsQ s (.apart a b)).1, .int (endsQ s (.apart a b)).2])))
  exact s_out (s_cons (s_expr (f_call g (d := .non) (w_check_sketch T) (by decide) (a_cons (f_name g 0) a_nil) ⟨_, hp.1, rfl, rfl⟩)) <| s_cons (s_expr (f_call g (d := .non) (w_check_question_apart T) (by decide) (a_cons (f_name g 1) a_nil) ⟨_, _, hp.2, rfl, rfl⟩)) <| s_last (s_ret (f_call g (d := (.tup [(.int ((endsQ s (.apart a b)).1)), (.int ((endsQ s (.apart a b)).2))])) (w_raw_ends_apart T) (by decide) (a_cons (f_name g 0) (a_cons (f_name g 1) a_nil)) ⟨_, _, _, hp, rfl, rfl⟩))) rfl
def R_ends_place : List D → D → Prop := fun ds d => ∃ (s : Sk) (n : Str), (SkOk s ∧ QnOk (.place n)) ∧ ds = [(.tup [(.int s.room), (.int s.many), (.int s.off), (.tup (s.kept.map pD))]), (.tup [(.str "place"), (.str n)])] ∧ d = .tup [.int (endsQ s (.place n)).1, .int (endsQ s (.place n)).2]
theorem w_ends_place (T : Top K w mg) : Fn P w K mg base "ends" 5 R_ends_place := by
  refine fn_top T 64 ["sketch", "question"] ["sketch", "question"] (by decide) (by decide +kernel) (fun _ _ _ _ _ _ us hl => match us, hl with | [_, _], _ => rfl) (by rintro _ _ ⟨s, n, hp, rfl, rfl⟩; rfl) ?_
  intro X gf eP ew eK em eb ds d hR
  subst eP ew eK em eb
  obtain ⟨s, n, hp, rfl, rfl⟩ := hR
  have hsc := Eq.refl (defScope (top 64))
  conv at hsc => rhs; whnf
  rw [hsc] at gf
  have g := gf.g
  refine .inl (?_ : Dos X _ [.fz (.tup [(.int s.room), (.int s.many), (.int s.off), (.tup (s.kept.map pD))]), .fz (.tup [(.str "place"), (.str n)])] (.rt (.tup [.int (endsQ s (.place n)).1, .int (endsQ s (.place n)).2])))
  exact s_out (s_cons (s_expr (f_call g (d := .non) (w_check_sketch T) (by decide) (a_cons (f_name g 0) a_nil) ⟨_, hp.1, rfl, rfl⟩)) <| s_cons (s_expr (f_call g (d := .non) (w_check_question_place T) (by decide) (a_cons (f_name g 1) a_nil) ⟨_, hp.2, rfl, rfl⟩)) <| s_last (s_ret (f_call g (d := (.tup [(.int ((endsQ s (.place n)).1)), (.int ((endsQ s (.place n)).2))])) (w_raw_ends_place T) (by decide) (a_cons (f_name g 0) (a_cons (f_name g 1) a_nil)) ⟨_, _, hp, rfl, rfl⟩))) rfl
def R_ends_first : List D → D → Prop := fun ds d => ∃ (s : Sk) (m : Int), (SkOk s ∧ QnOk (.first m)) ∧ ds = [(.tup [(.int s.room), (.int s.many), (.int s.off), (.tup (s.kept.map pD))]), (.tup [(.str "first"), (.int m)])] ∧ d = .tup [.int (endsQ s (.first m)).1, .int (endsQ s (.first m)).2]
theorem w_ends_first (T : Top K w mg) : Fn P w K mg base "ends" 5 R_ends_first := by
  refine fn_top T 64 ["sketch", "question"] ["sketch", "question"] (by decide) (by decide +kernel) (fun _ _ _ _ _ _ us hl => match us, hl with | [_, _], _ => rfl) (by rintro _ _ ⟨s, m, hp, rfl, rfl⟩; rfl) ?_
  intro X gf eP ew eK em eb ds d hR
  subst eP ew eK em eb
  obtain ⟨s, m, hp, rfl, rfl⟩ := hR
  have hsc := Eq.refl (defScope (top 64))
  conv at hsc => rhs; whnf
  rw [hsc] at gf
  have g := gf.g
  refine .inl (?_ : Dos X _ [.fz (.tup [(.int s.room), (.int s.many), (.int s.off), (.tup (s.kept.map pD))]), .fz (.tup [(.str "first"), (.int m)])] (.rt (.tup [.int (endsQ s (.first m)).1, .int (endsQ s (.first m)).2])))
  exact s_out (s_cons (s_expr (f_call g (d := .non) (w_check_sketch T) (by decide) (a_cons (f_name g 0) a_nil) ⟨_, hp.1, rfl, rfl⟩)) <| s_cons (s_expr (f_call g (d := .non) (w_check_question_first T) (by decide) (a_cons (f_name g 1) a_nil) ⟨_, hp.2, rfl, rfl⟩)) <| s_last (s_ret (f_call g (d := (.tup [(.int ((endsQ s (.first m)).1)), (.int ((endsQ s (.first m)).2))])) (w_raw_ends_first T) (by decide) (a_cons (f_name g 0) (a_cons (f_name g 1) a_nil)) ⟨_, _, hp, rfl, rfl⟩))) rfl
def R_ends_unlike : List D → D → Prop := fun ds d => ∃ (s : Sk) , (SkOk s ∧ QnOk (.unlike)) ∧ ds = [(.tup [(.int s.room), (.int s.many), (.int s.off), (.tup (s.kept.map pD))]), (.tup [(.str "unlike")])] ∧ d = .tup [.int (endsQ s (.unlike)).1, .int (endsQ s (.unlike)).2]
theorem w_ends_unlike (T : Top K w mg) : Fn P w K mg base "ends" 5 R_ends_unlike := by
  refine fn_top T 64 ["sketch", "question"] ["sketch", "question"] (by decide) (by decide +kernel) (fun _ _ _ _ _ _ us hl => match us, hl with | [_, _], _ => rfl) (by rintro _ _ ⟨s, hp, rfl, rfl⟩; rfl) ?_
  intro X gf eP ew eK em eb ds d hR
  subst eP ew eK em eb
  obtain ⟨s, hp, rfl, rfl⟩ := hR
  have hsc := Eq.refl (defScope (top 64))
  conv at hsc => rhs; whnf
  rw [hsc] at gf
  have g := gf.g
  refine .inl (?_ : Dos X _ [.fz (.tup [(.int s.room), (.int s.many), (.int s.off), (.tup (s.kept.map pD))]), .fz (.tup [(.str "unlike")])] (.rt (.tup [.int (endsQ s (.unlike)).1, .int (endsQ s (.unlike)).2])))
  exact s_out (s_cons (s_expr (f_call g (d := .non) (w_check_sketch T) (by decide) (a_cons (f_name g 0) a_nil) ⟨_, hp.1, rfl, rfl⟩)) <| s_cons (s_expr (f_call g (d := .non) (w_check_question_unlike T) (by decide) (a_cons (f_name g 1) a_nil) ⟨hp.2, rfl, rfl⟩)) <| s_last (s_ret (f_call g (d := (.tup [(.int ((endsQ s (.unlike : Qn)).1)), (.int ((endsQ s (.unlike : Qn)).2))])) (w_raw_ends_unlike T) (by decide) (a_cons (f_name g 0) (a_cons (f_name g 1) a_nil)) ⟨_, hp, rfl, rfl⟩))) rfl
def R_ends_squares : List D → D → Prop := fun ds d => ∃ (s : Sk) , (SkOk s ∧ QnOk (.squares)) ∧ ds = [(.tup [(.int s.room), (.int s.many), (.int s.off), (.tup (s.kept.map pD))]), (.tup [(.str "squares")])] ∧ d = .tup [.int (endsQ s (.squares)).1, .int (endsQ s (.squares)).2]
theorem w_ends_squares (T : Top K w mg) : Fn P w K mg base "ends" 5 R_ends_squares := by
  refine fn_top T 64 ["sketch", "question"] ["sketch", "question"] (by decide) (by decide +kernel) (fun _ _ _ _ _ _ us hl => match us, hl with | [_, _], _ => rfl) (by rintro _ _ ⟨s, hp, rfl, rfl⟩; rfl) ?_
  intro X gf eP ew eK em eb ds d hR
  subst eP ew eK em eb
  obtain ⟨s, hp, rfl, rfl⟩ := hR
  have hsc := Eq.refl (defScope (top 64))
  conv at hsc => rhs; whnf
  rw [hsc] at gf
  have g := gf.g
  refine .inl (?_ : Dos X _ [.fz (.tup [(.int s.room), (.int s.many), (.int s.off), (.tup (s.kept.map pD))]), .fz (.tup [(.str "squares")])] (.rt (.tup [.int (endsQ s (.squares)).1, .int (endsQ s (.squares)).2])))
  exact s_out (s_cons (s_expr (f_call g (d := .non) (w_check_sketch T) (by decide) (a_cons (f_name g 0) a_nil) ⟨_, hp.1, rfl, rfl⟩)) <| s_cons (s_expr (f_call g (d := .non) (w_check_question_squares T) (by decide) (a_cons (f_name g 1) a_nil) ⟨hp.2, rfl, rfl⟩)) <| s_last (s_ret (f_call g (d := (.tup [(.int ((endsQ s (.squares : Qn)).1)), (.int ((endsQ s (.squares : Qn)).2))])) (w_raw_ends_squares T) (by decide) (a_cons (f_name g 0) (a_cons (f_name g 1) a_nil)) ⟨_, hp, rfl, rfl⟩))) rfl
def R_least_taken_count : List D → D → Prop := fun ds d => ∃ (s : Sk) (n : Str), (SkOk s ∧ QnOk (.count n)) ∧ ds = [(.tup [(.int s.room), (.int s.many), (.int s.off), (.tup (s.kept.map pD))]), (.tup [(.str "count"), (.str n)])] ∧ d = .tup [.lst ((ltQ s (.count n)).1.map pD), .int (ltQ s (.count n)).2]
theorem w_least_taken_count (T : Top K w mg) : Fn P w K mg base "least_taken" 1 R_least_taken_count := by
  refine fn_top T 65 ["sketch", "question", "word"] ["sketch", "question"] (by decide) (by decide +kernel) (fun _ _ _ _ _ _ us hl => match us, hl with | [_, _], _ => rfl) (by rintro _ _ ⟨s, n, hp, rfl, rfl⟩; rfl) ?_
  intro X gf eP ew eK em eb ds d hR
  subst eP ew eK em eb
  obtain ⟨s, n, hp, rfl, rfl⟩ := hR
  have hsc := Eq.refl (defScope (top 65))
  conv at hsc => rhs; whnf
  rw [hsc] at gf
  have g := gf.g
  refine .inl (?_ : Dos X _ [.fz (.tup [(.int s.room), (.int s.many), (.int s.off), (.tup (s.kept.map pD))]), .fz (.tup [(.str "count"), (.str n)]), .un] (.rt (.tup [.lst ((ltQ s (.count n)).1.map pD), .int (ltQ s (.count n)).2])))
  exact s_out (s_cons (s_set gf 2 (f_ixT (((f_name g 1)).v) ((f_int).v) rfl)) <| s_cons (s_ifn (SemT.is (b := decide (("count" : Str) = "apart")) (b' := false) (t_cmp o_eqS (((f_name g 2)).v) (((f_gstr g (T.s "APART" "apart"))).v)) (by decide +kernel))) <| s_cons (s_ifn (SemT.is (b := decide (("count" : Str) = "place")) (b' := false) (t_cmp o_eqS (((f_name g 2)).v) (((f_gstr g (T.s "PLACE" "place"))).v)) (by decide +kernel))) <| s_cons (s_ifn (SemT.is (b := decide (("count" : Str) = "unlike")) (b' := false) (t_cmp o_eqS (((f_name g 2)).v) (((f_gstr g (T.s "UNLIKE" "unlike"))).v)) (by decide +kernel))) <| s_last (s_ret (f_tup (a_cons (((n_lst a_nil (by simp))).f) (a_cons (f_ite (SemT.is (b' := false) (t_inS (z := "count") (ys := ["first", "squares"]) (((f_name g 2)).v) (f_tup (a_cons (f_gstr g (T.s "FIRST" "first")) (a_cons (f_gstr g (T.s "SQUARES" "squares")) a_nil)) (by simp))) (by decide +kernel)) (fun h4 => nomatch h4) (fun h4 => (f_ixT (((f_name g 0)).v) (((f_gint g (T.i "OFF" 2))).v) rfl))) a_nil)) (by simp)))) rfl
def R_least_taken_lot : List D → D → Prop := fun ds d => ∃ (s : Sk) (ns : List Str), (SkOk s ∧ QnOk (.lot ns)) ∧ ds = [(.tup [(.int s.room), (.int s.many), (.int s.off), (.tup (s.kept.map pD))]), (.tup [(.str "lot"), (.tup (ns.map D.str))])] ∧ d = .tup [.lst ((ltQ s (.lot ns)).1.map pD), .int (ltQ s (.lot ns)).2]
theorem w_least_taken_lot (T : Top K w mg) : Fn P w K mg base "least_taken" 1 R_least_taken_lot := by
  refine fn_top T 65 ["sketch", "question", "word"] ["sketch", "question"] (by decide) (by decide +kernel) (fun _ _ _ _ _ _ us hl => match us, hl with | [_, _], _ => rfl) (by rintro _ _ ⟨s, ns, hp, rfl, rfl⟩; rfl) ?_
  intro X gf eP ew eK em eb ds d hR
  subst eP ew eK em eb
  obtain ⟨s, ns, hp, rfl, rfl⟩ := hR
  have hsc := Eq.refl (defScope (top 65))
  conv at hsc => rhs; whnf
  rw [hsc] at gf
  have g := gf.g
  refine .inl (?_ : Dos X _ [.fz (.tup [(.int s.room), (.int s.many), (.int s.off), (.tup (s.kept.map pD))]), .fz (.tup [(.str "lot"), (.tup (ns.map D.str))]), .un] (.rt (.tup [.lst ((ltQ s (.lot ns)).1.map pD), .int (ltQ s (.lot ns)).2])))
  exact s_out (s_cons (s_set gf 2 (f_ixT (((f_name g 1)).v) ((f_int).v) rfl)) <| s_cons (s_ifn (SemT.is (b := decide (("lot" : Str) = "apart")) (b' := false) (t_cmp o_eqS (((f_name g 2)).v) (((f_gstr g (T.s "APART" "apart"))).v)) (by decide +kernel))) <| s_cons (s_ifn (SemT.is (b := decide (("lot" : Str) = "place")) (b' := false) (t_cmp o_eqS (((f_name g 2)).v) (((f_gstr g (T.s "PLACE" "place"))).v)) (by decide +kernel))) <| s_cons (s_ifn (SemT.is (b := decide (("lot" : Str) = "unlike")) (b' := false) (t_cmp o_eqS (((f_name g 2)).v) (((f_gstr g (T.s "UNLIKE" "unlike"))).v)) (by decide +kernel))) <| s_last (s_ret (f_tup (a_cons (((n_lst a_nil (by simp))).f) (a_cons (f_ite (SemT.is (b' := false) (t_inS (z := "lot") (ys := ["first", "squares"]) (((f_name g 2)).v) (f_tup (a_cons (f_gstr g (T.s "FIRST" "first")) (a_cons (f_gstr g (T.s "SQUARES" "squares")) a_nil)) (by simp))) (by decide +kernel)) (fun h4 => nomatch h4) (fun h4 => (f_ixT (((f_name g 0)).v) (((f_gint g (T.i "OFF" 2))).v) rfl))) a_nil)) (by simp)))) rfl
def R_least_taken_apart : List D → D → Prop := fun ds d => ∃ (s : Sk) (a b : Str), (SkOk s ∧ QnOk (.apart a b)) ∧ ds = [(.tup [(.int s.room), (.int s.many), (.int s.off), (.tup (s.kept.map pD))]), (.tup [(.str "apart"), (.str a), (.str b)])] ∧ d = .tup [.lst ((ltQ s (.apart a b)).1.map pD), .int (ltQ s (.apart a b)).2]
theorem w_least_taken_apart (T : Top K w mg) : Fn P w K mg base "least_taken" 3 R_least_taken_apart := by
  refine fn_top T 65 ["sketch", "question", "word"] ["sketch", "question"] (by decide) (by decide +kernel) (fun _ _ _ _ _ _ us hl => match us, hl with | [_, _], _ => rfl) (by rintro _ _ ⟨s, a, b, hp, rfl, rfl⟩; rfl) ?_
  intro X gf eP ew eK em eb ds d hR
  subst eP ew eK em eb
  obtain ⟨s, a, b, hp, rfl, rfl⟩ := hR
  have hsc := Eq.refl (defScope (top 65))
  conv at hsc => rhs; whnf
  rw [hsc] at gf
  have g := gf.g
  refine .inl (?_ : Dos X _ [.fz (.tup [(.int s.room), (.int s.many), (.int s.off), (.tup (s.kept.map pD))]), .fz (.tup [(.str "apart"), (.str a), (.str b)]), .un] (.rt (.tup [.lst ((ltQ s (.apart a b)).1.map pD), .int (ltQ s (.apart a b)).2])))
  exact s_out (s_cons (s_set gf 2 (f_ixT (((f_name g 1)).v) ((f_int).v) rfl)) <| s_last (s_if (SemT.is (b := decide (("apart" : Str) = "apart")) (b' := true) (t_cmp o_eqS (((f_name g 2)).v) (((f_gstr g (T.s "APART" "apart"))).v)) (by decide +kernel)) (fun _ => s_last (s_ret (f_tup (a_cons (f_call g (d := (.lst (((filL s.off (lostL s) [b]).1).map pD))) (w_filledtup T) (by decide) (a_cons (f_name g 0) (a_cons (SemF.is (f_slT (ds := [(.str "apart"), (.str a), (.str b)]) (l := (some 2)) (u := none) (f_name g 1) (PtS.yes ((f_int).v)) PtS.no) rfl) a_nil)) ⟨_, [b], ⟨hp.1, by simp⟩, rfl, rfl⟩) (a_cons (f_ixT (((f_name g 0)).v) (((f_gint g (T.i "OFF" 2))).v) rfl) a_nil)) (by simp)))) (fun z => nomatch z))) rfl
def R_least_taken_place : List D → D → Prop := fun ds d => ∃ (s : Sk) (n : Str), (SkOk s ∧ QnOk (.place n)) ∧ ds = [(.tup [(.int s.room), (.int s.many), (.int s.off), (.tup (s.kept.map pD))]), (.tup [(.str "place"), (.str n)])] ∧ d = .tup [.lst ((ltQ s (.place n)).1.map pD), .int (ltQ s (.place n)).2]
theorem w_least_taken_place (T : Top K w mg) : Fn P w K mg base "least_taken" 3 R_least_taken_place := by
  refine fn_top T 65 ["sketch", "question", "word"] ["sketch", "question"] (by decide) (by decide +kernel) (fun _ _ _ _ _ _ us hl => match us, hl with | [_, _], _ => rfl) (by rintro _ _ ⟨s, n, hp, rfl, rfl⟩; rfl) ?_
  intro X gf eP ew eK em eb ds d hR
  subst eP ew eK em eb
  obtain ⟨s, n, hp, rfl, rfl⟩ := hR
  have hsc := Eq.refl (defScope (top 65))
  conv at hsc => rhs; whnf
  rw [hsc] at gf
  have g := gf.g
  refine .inl (?_ : Dos X _ [.fz (.tup [(.int s.room), (.int s.many), (.int s.off), (.tup (s.kept.map pD))]), .fz (.tup [(.str "place"), (.str n)]), .un] (.rt (.tup [.lst ((ltQ s (.place n)).1.map pD), .int (ltQ s (.place n)).2])))
  exact s_out (s_cons (s_set gf 2 (f_ixT (((f_name g 1)).v) ((f_int).v) rfl)) <| s_cons (s_ifn (SemT.is (b := decide (("place" : Str) = "apart")) (b' := false) (t_cmp o_eqS (((f_name g 2)).v) (((f_gstr g (T.s "APART" "apart"))).v)) (by decide +kernel))) <| s_last (s_if (SemT.is (b := decide (("place" : Str) = "place")) (b' := true) (t_cmp o_eqS (((f_name g 2)).v) (((f_gstr g (T.s "PLACE" "place"))).v)) (by decide +kernel)) (fun _ => s_last (s_ret (f_tup (a_cons (f_call g (d := (.lst (((filL s.off (lostL s) [n]).1).map pD))) (w_filledtup T) (by decide) (a_cons (f_name g 0) (a_cons (SemF.is (f_slT (ds := [(.str "place"), (.str n)]) (l := (some 1)) (u := none) (f_name g 1) (PtS.yes ((f_int).v)) PtS.no) rfl) a_nil)) ⟨_, [n], ⟨hp.1, by simp⟩, rfl, rfl⟩) (a_cons (f_ixT (((f_name g 0)).v) (((f_gint g (T.i "OFF" 2))).v) rfl) a_nil)) (by simp)))) (fun z => nomatch z))) rfl
def R_least_taken_first : List D → D → Prop := fun ds d => ∃ (s : Sk) (m : Int), (SkOk s ∧ QnOk (.first m)) ∧ ds = [(.tup [(.int s.room), (.int s.many), (.int s.off), (.tup (s.kept.map pD))]), (.tup [(.str "first"), (.int m)])] ∧ d = .tup [.lst ((ltQ s (.first m)).1.map pD), .int (ltQ s (.first m)).2]
theorem w_least_taken_first (T : Top K w mg) : Fn P w K mg base "least_taken" 1 R_least_taken_first := by
  refine fn_top T 65 ["sketch", "question", "word"] ["sketch", "question"] (by decide) (by decide +kernel) (fun _ _ _ _ _ _ us hl => match us, hl with | [_, _], _ => rfl) (by rintro _ _ ⟨s, m, hp, rfl, rfl⟩; rfl) ?_
  intro X gf eP ew eK em eb ds d hR
  subst eP ew eK em eb
  obtain ⟨s, m, hp, rfl, rfl⟩ := hR
  have hsc := Eq.refl (defScope (top 65))
  conv at hsc => rhs; whnf
  rw [hsc] at gf
  have g := gf.g
  refine .inl (?_ : Dos X _ [.fz (.tup [(.int s.room), (.int s.many), (.int s.off), (.tup (s.kept.map pD))]), .fz (.tup [(.str "first"), (.int m)]), .un] (.rt (.tup [.lst ((ltQ s (.first m)).1.map pD), .int (ltQ s (.first m)).2])))
  exact s_out (s_cons (s_set gf 2 (f_ixT (((f_name g 1)).v) ((f_int).v) rfl)) <| s_cons (s_ifn (SemT.is (b := decide (("first" : Str) = "apart")) (b' := false) (t_cmp o_eqS (((f_name g 2)).v) (((f_gstr g (T.s "APART" "apart"))).v)) (by decide +kernel))) <| s_cons (s_ifn (SemT.is (b := decide (("first" : Str) = "place")) (b' := false) (t_cmp o_eqS (((f_name g 2)).v) (((f_gstr g (T.s "PLACE" "place"))).v)) (by decide +kernel))) <| s_cons (s_ifn (SemT.is (b := decide (("first" : Str) = "unlike")) (b' := false) (t_cmp o_eqS (((f_name g 2)).v) (((f_gstr g (T.s "UNLIKE" "unlike"))).v)) (by decide +kernel))) <| s_last (s_ret (f_tup (a_cons (((n_lst a_nil (by simp))).f) (a_cons (f_ite (SemT.is (b' := true) (t_inS (z := "first") (ys := ["first", "squares"]) (((f_name g 2)).v) (f_tup (a_cons (f_gstr g (T.s "FIRST" "first")) (a_cons (f_gstr g (T.s "SQUARES" "squares")) a_nil)) (by simp))) (by decide +kernel)) (fun h4 => f_int) (fun h4 => nomatch h4)) a_nil)) (by simp)))) rfl
def R_least_taken_unlike : List D → D → Prop := fun ds d => ∃ (s : Sk) , (SkOk s ∧ QnOk (.unlike)) ∧ ds = [(.tup [(.int s.room), (.int s.many), (.int s.off), (.tup (s.kept.map pD))]), (.tup [(.str "unlike")])] ∧ d = .tup [.lst ((ltQ s (.unlike)).1.map pD), .int (ltQ s (.unlike)).2]
theorem w_least_taken_unlike (T : Top K w mg) : Fn P w K mg base "least_taken" 3 R_least_taken_unlike := by
  refine fn_top T 65 ["sketch", "question", "word"] ["sketch", "question"] (by decide) (by decide +kernel) (fun _ _ _ _ _ _ us hl => match us, hl with | [_, _], _ => rfl) (by rintro _ _ ⟨s, hp, rfl, rfl⟩; rfl) ?_
  intro X gf eP ew eK em eb ds d hR
  subst eP ew eK em eb
  obtain ⟨s, hp, rfl, rfl⟩ := hR
  have hsc := Eq.refl (defScope (top 65))
  conv at hsc => rhs; whnf
  rw [hsc] at gf
  have g := gf.g
  refine .inl (?_ : Dos X _ [.fz (.tup [(.int s.room), (.int s.many), (.int s.off), (.tup (s.kept.map pD))]), .fz (.tup [(.str "unlike")]), .un] (.rt (.tup [.lst ((ltQ s (.unlike)).1.map pD), .int (ltQ s (.unlike)).2])))
  exact s_out (s_cons (s_set gf 2 (f_ixT (((f_name g 1)).v) ((f_int).v) rfl)) <| s_cons (s_ifn (SemT.is (b := decide (("unlike" : Str) = "apart")) (b' := false) (t_cmp o_eqS (((f_name g 2)).v) (((f_gstr g (T.s "APART" "apart"))).v)) (by decide +kernel))) <| s_cons (s_ifn (SemT.is (b := decide (("unlike" : Str) = "place")) (b' := false) (t_cmp o_eqS (((f_name g 2)).v) (((f_gstr g (T.s "PLACE" "place"))).v)) (by decide +kernel))) <| s_last (s_if (SemT.is (b := decide (("unlike" : Str) = "unlike")) (b' := true) (t_cmp o_eqS (((f_name g 2)).v) (((f_gstr g (T.s "UNLIKE" "unlike"))).v)) (by decide +kernel)) (fun _ => s_last (s_ret (f_tup (a_cons (f_call g (d := (.lst (((filL s.off (lostL s) (bcL s)).1).map pD))) (w_filledlst T) (by decide) (a_cons (f_name g 0) (a_cons (f_call g (d := (.lst ((bcL s).map D.str))) (w_by_counts T) (by decide) (a_cons (f_name g 0) a_nil) ⟨_, hp.1, rfl, rfl⟩) a_nil)) ⟨_, bcL s, ⟨hp.1, by have h1 := bcL_len s; have h2 := hp.1.co.2.2; omega⟩, rfl, rfl⟩) (a_cons (f_ixT (((f_name g 0)).v) (((f_gint g (T.i "OFF" 2))).v) rfl) a_nil)) (by simp)))) (fun z => nomatch z))) rfl
def R_least_taken_squares : List D → D → Prop := fun ds d => ∃ (s : Sk) , (SkOk s ∧ QnOk (.squares)) ∧ ds = [(.tup [(.int s.room), (.int s.many), (.int s.off), (.tup (s.kept.map pD))]), (.tup [(.str "squares")])] ∧ d = .tup [.lst ((ltQ s (.squares)).1.map pD), .int (ltQ s (.squares)).2]
theorem w_least_taken_squares (T : Top K w mg) : Fn P w K mg base "least_taken" 1 R_least_taken_squares := by
  refine fn_top T 65 ["sketch", "question", "word"] ["sketch", "question"] (by decide) (by decide +kernel) (fun _ _ _ _ _ _ us hl => match us, hl with | [_, _], _ => rfl) (by rintro _ _ ⟨s, hp, rfl, rfl⟩; rfl) ?_
  intro X gf eP ew eK em eb ds d hR
  subst eP ew eK em eb
  obtain ⟨s, hp, rfl, rfl⟩ := hR
  have hsc := Eq.refl (defScope (top 65))
  conv at hsc => rhs; whnf
  rw [hsc] at gf
  have g := gf.g
  refine .inl (?_ : Dos X _ [.fz (.tup [(.int s.room), (.int s.many), (.int s.off), (.tup (s.kept.map pD))]), .fz (.tup [(.str "squares")]), .un] (.rt (.tup [.lst ((ltQ s (.squares)).1.map pD), .int (ltQ s (.squares)).2])))
  exact s_out (s_cons (s_set gf 2 (f_ixT (((f_name g 1)).v) ((f_int).v) rfl)) <| s_cons (s_ifn (SemT.is (b := decide (("squares" : Str) = "apart")) (b' := false) (t_cmp o_eqS (((f_name g 2)).v) (((f_gstr g (T.s "APART" "apart"))).v)) (by decide +kernel))) <| s_cons (s_ifn (SemT.is (b := decide (("squares" : Str) = "place")) (b' := false) (t_cmp o_eqS (((f_name g 2)).v) (((f_gstr g (T.s "PLACE" "place"))).v)) (by decide +kernel))) <| s_cons (s_ifn (SemT.is (b := decide (("squares" : Str) = "unlike")) (b' := false) (t_cmp o_eqS (((f_name g 2)).v) (((f_gstr g (T.s "UNLIKE" "unlike"))).v)) (by decide +kernel))) <| s_last (s_ret (f_tup (a_cons (((n_lst a_nil (by simp))).f) (a_cons (f_ite (SemT.is (b' := true) (t_inS (z := "squares") (ys := ["first", "squares"]) (((f_name g 2)).v) (f_tup (a_cons (f_gstr g (T.s "FIRST" "first")) (a_cons (f_gstr g (T.s "SQUARES" "squares")) a_nil)) (by simp))) (by decide +kernel)) (fun h4 => f_int) (fun h4 => nomatch h4)) a_nil)) (by simp)))) rfl
def R_greatest_taken_count : List D → D → Prop := fun ds d => ∃ (s : Sk) (n : Str), (SkOk s ∧ QnOk (.count n)) ∧ ds = [(.tup [(.int s.room), (.int s.many), (.int s.off), (.tup (s.kept.map pD))]), (.tup [(.str "count"), (.str n)])] ∧ d = .tup [.lst ((gtQ s (.count n)).1.map pD), .int (gtQ s (.count n)).2]
theorem w_greatest_taken_count (T : Top K w mg) : Fn P w K mg base "greatest_taken" 3 R_greatest_taken_count := by
  refine fn_top T 66 ["sketch", "question", "word", "own"] ["sketch", "question"] (by decide) (by decide +kernel) (fun _ _ _ _ _ _ us hl => match us, hl with | [_, _], _ => rfl) (by rintro _ _ ⟨s, n, hp, rfl, rfl⟩; rfl) ?_
  intro X gf eP ew eK em eb ds d hR
  subst eP ew eK em eb
  obtain ⟨s, n, hp, rfl, rfl⟩ := hR
  have hsc := Eq.refl (defScope (top 66))
  conv at hsc => rhs; whnf
  rw [hsc] at gf
  have g := gf.g
  refine .inl (?_ : Dos X _ [.fz (.tup [(.int s.room), (.int s.many), (.int s.off), (.tup (s.kept.map pD))]), .fz (.tup [(.str "count"), (.str n)]), .un, .un] (.rt (.tup [.lst ((gtQ s (.count n)).1.map pD), .int (gtQ s (.count n)).2])))
  exact s_out (s_cons (s_set gf 2 (f_ixT (((f_name g 1)).v) ((f_int).v) rfl)) <| s_last (s_if (SemT.is (b := decide (("count" : Str) = "count")) (b' := true) (t_cmp o_eqS (((f_name g 2)).v) (((f_gstr g (T.s "COUNT" "count"))).v)) (by decide +kernel)) (fun _ => s_last (s_ret (f_tup (a_cons (f_call g (d := (.lst (((filL s.off (lostL s) [n]).1).map pD))) (w_filledtup T) (by decide) (a_cons (f_name g 0) (a_cons (SemF.is (f_slT (ds := [(.str "count"), (.str n)]) (l := (some 1)) (u := none) (f_name g 1) (PtS.yes ((f_int).v)) PtS.no) rfl) a_nil)) ⟨_, [n], ⟨hp.1, by simp⟩, rfl, rfl⟩) (a_cons (f_ixT (((f_name g 0)).v) (((f_gint g (T.i "OFF" 2))).v) rfl) a_nil)) (by simp)))) (fun z => nomatch z))) rfl
def R_greatest_taken_lot : List D → D → Prop := fun ds d => ∃ (s : Sk) (ns : List Str), (SkOk s ∧ QnOk (.lot ns)) ∧ ds = [(.tup [(.int s.room), (.int s.many), (.int s.off), (.tup (s.kept.map pD))]), (.tup [(.str "lot"), (.tup (ns.map D.str))])] ∧ d = .tup [.lst ((gtQ s (.lot ns)).1.map pD), .int (gtQ s (.lot ns)).2]
theorem w_greatest_taken_lot (T : Top K w mg) : Fn P w K mg base "greatest_taken" 3 R_greatest_taken_lot := by
  refine fn_top T 66 ["sketch", "question", "word", "own"] ["sketch", "question"] (by decide) (by decide +kernel) (fun _ _ _ _ _ _ us hl => match us, hl with | [_, _], _ => rfl) (by rintro _ _ ⟨s, ns, hp, rfl, rfl⟩; rfl) ?_
  intro X gf eP ew eK em eb ds d hR
  subst eP ew eK em eb
  obtain ⟨s, ns, hp, rfl, rfl⟩ := hR
  have hsc := Eq.refl (defScope (top 66))
  conv at hsc => rhs; whnf
  rw [hsc] at gf
  have g := gf.g
  refine .inl (?_ : Dos X _ [.fz (.tup [(.int s.room), (.int s.many), (.int s.off), (.tup (s.kept.map pD))]), .fz (.tup [(.str "lot"), (.tup (ns.map D.str))]), .un, .un] (.rt (.tup [.lst ((gtQ s (.lot ns)).1.map pD), .int (gtQ s (.lot ns)).2])))
  exact s_out (s_cons (s_set gf 2 (f_ixT (((f_name g 1)).v) ((f_int).v) rfl)) <| s_cons (s_ifn (SemT.is (b := decide (("lot" : Str) = "count")) (b' := false) (t_cmp o_eqS (((f_name g 2)).v) (((f_gstr g (T.s "COUNT" "count"))).v)) (by decide +kernel))) <| s_last (s_if (SemT.is (b := decide (("lot" : Str) = "lot")) (b' := true) (t_cmp o_eqS (((f_name g 2)).v) (((f_gstr g (T.s "LOT" "lot"))).v)) (by decide +kernel)) (fun _ => s_last (s_ret (f_tup (a_cons (f_call g (d := (.lst (((filL s.off (lostL s) ns).1).map pD))) (w_filledtup T) (by decide) (a_cons (f_name g 0) (a_cons (f_ixT (((f_name g 1)).v) ((f_int).v) rfl) a_nil)) ⟨_, ns, ⟨hp.1, by have := hp.2.1; omega⟩, rfl, rfl⟩) (a_cons (f_ixT (((f_name g 0)).v) (((f_gint g (T.i "OFF" 2))).v) rfl) a_nil)) (by simp)))) (fun z => nomatch z))) rfl
def R_greatest_taken_apart : List D → D → Prop := fun ds d => ∃ (s : Sk) (a b : Str), (SkOk s ∧ QnOk (.apart a b)) ∧ ds = [(.tup [(.int s.room), (.int s.many), (.int s.off), (.tup (s.kept.map pD))]), (.tup [(.str "apart"), (.str a), (.str b)])] ∧ d = .tup [.lst ((gtQ s (.apart a b)).1.map pD), .int (gtQ s (.apart a b)).2]
theorem w_greatest_taken_apart (T : Top K w mg) : Fn P w K mg base "greatest_taken" 3 R_greatest_taken_apart := by
  refine fn_top T 66 ["sketch", "question", "word", "own"] ["sketch", "question"] (by decide) (by decide +kernel) (fun _ _ _ _ _ _ us hl => match us, hl with | [_, _], _ => rfl) (by rintro _ _ ⟨s, a, b, hp, rfl, rfl⟩; rfl) ?_
  intro X gf eP ew eK em eb ds d hR
  subst eP ew eK em eb
  obtain ⟨s, a, b, hp, rfl, rfl⟩ := hR
  have hsc := Eq.refl (defScope (top 66))
  conv at hsc => rhs; whnf
  rw [hsc] at gf
  have g := gf.g
  refine .inl (?_ : Dos X _ [.fz (.tup [(.int s.room), (.int s.many), (.int s.off), (.tup (s.kept.map pD))]), .fz (.tup [(.str "apart"), (.str a), (.str b)]), .un, .un] (.rt (.tup [.lst ((gtQ s (.apart a b)).1.map pD), .int (gtQ s (.apart a b)).2])))
  exact s_out (s_cons (s_set gf 2 (f_ixT (((f_name g 1)).v) ((f_int).v) rfl)) <| s_cons (s_ifn (SemT.is (b := decide (("apart" : Str) = "count")) (b' := false) (t_cmp o_eqS (((f_name g 2)).v) (((f_gstr g (T.s "COUNT" "count"))).v)) (by decide +kernel))) <| s_cons (s_ifn (SemT.is (b := decide (("apart" : Str) = "lot")) (b' := false) (t_cmp o_eqS (((f_name g 2)).v) (((f_gstr g (T.s "LOT" "lot"))).v)) (by decide +kernel))) <| s_last (s_if (SemT.is (b := decide (("apart" : Str) = "apart")) (b' := true) (t_cmp o_eqS (((f_name g 2)).v) (((f_gstr g (T.s "APART" "apart"))).v)) (by decide +kernel)) (fun _ => s_last (s_ret (f_tup (a_cons (f_call g (d := (.lst (((filL s.off (lostL s) [a]).1).map pD))) (w_filledtup T) (by decide) (a_cons (f_name g 0) (a_cons (SemF.is (f_slT (ds := [(.str "apart"), (.str a), (.str b)]) (l := (some 1)) (u := (some 2)) (f_name g 1) (PtS.yes ((f_int).v)) (PtS.yes ((f_int).v))) rfl) a_nil)) ⟨_, [a], ⟨hp.1, by simp⟩, rfl, rfl⟩) (a_cons (f_ixT (((f_name g 0)).v) (((f_gint g (T.i "OFF" 2))).v) rfl) a_nil)) (by simp)))) (fun z => nomatch z))) rfl
def R_greatest_taken_place : List D → D → Prop := fun ds d => ∃ (s : Sk) (n : Str), (SkOk s ∧ QnOk (.place n)) ∧ ds = [(.tup [(.int s.room), (.int s.many), (.int s.off), (.tup (s.kept.map pD))]), (.tup [(.str "place"), (.str n)])] ∧ d = .tup [.lst ((gtQ s (.place n)).1.map pD), .int (gtQ s (.place n)).2]
theorem w_greatest_taken_place (T : Top K w mg) : Fn P w K mg base "greatest_taken" 3 R_greatest_taken_place := by
  refine fn_top T 66 ["sketch", "question", "word", "own"] ["sketch", "question"] (by decide) (by decide +kernel) (fun _ _ _ _ _ _ us hl => match us, hl with | [_, _], _ => rfl) (by rintro _ _ ⟨s, n, hp, rfl, rfl⟩; rfl) ?_
  intro X gf eP ew eK em eb ds d hR
  subst eP ew eK em eb
  obtain ⟨s, n, hp, rfl, rfl⟩ := hR
  have hsc := Eq.refl (defScope (top 66))
  conv at hsc => rhs; whnf
  rw [hsc] at gf
  have g := gf.g
  refine .inl (?_ : Dos X _ [.fz (.tup [(.int s.room), (.int s.many), (.int s.off), (.tup (s.kept.map pD))]), .fz (.tup [(.str "place"), (.str n)]), .un, .un] (.rt (.tup [.lst ((gtQ s (.place n)).1.map pD), .int (gtQ s (.place n)).2])))
  exact s_out (s_cons (s_set gf 2 (f_ixT (((f_name g 1)).v) ((f_int).v) rfl)) <| s_cons (s_ifn (SemT.is (b := decide (("place" : Str) = "count")) (b' := false) (t_cmp o_eqS (((f_name g 2)).v) (((f_gstr g (T.s "COUNT" "count"))).v)) (by decide +kernel))) <| s_cons (s_ifn (SemT.is (b := decide (("place" : Str) = "lot")) (b' := false) (t_cmp o_eqS (((f_name g 2)).v) (((f_gstr g (T.s "LOT" "lot"))).v)) (by decide +kernel))) <| s_cons (s_ifn (SemT.is (b := decide (("place" : Str) = "apart")) (b' := false) (t_cmp o_eqS (((f_name g 2)).v) (((f_gstr g (T.s "APART" "apart"))).v)) (by decide +kernel))) <| s_last (s_if (SemT.is (b := decide (("place" : Str) = "place")) (b' := true) (t_cmp o_eqS (((f_name g 2)).v) (((f_gstr g (T.s "PLACE" "place"))).v)) (by decide +kernel)) (fun _ => s_cons (s_set gf 3 (f_get g (((SemN.is (d' := (.dct s.kept)) (n_callT g (c_dictT g (kvs := s.kept)) (T.fr "dict") (av_cons (((f_ixT (((f_name g 0)).v) (((f_gint g (T.i "KEPT" 3))).v) rfl)).v) av_nil)) (by rw [mergeI_nil hp.1.co.2.1.nd]))).v) (((f_ixT (((f_name g 1)).v) ((f_int).v) rfl)).v) ((f_int).v))) <| s_last (s_ret (f_tup (a_cons (f_ixT (((f_call g (d := (.tup [(.lst (((raL s n).1).map pD)), (.int ((raL s n).2))])) (w_raised T) (by decide) (a_cons (f_name g 0) (a_cons (f_ixT (((f_name g 1)).v) ((f_int).v) rfl) a_nil)) ⟨_, _, hp.1, rfl, rfl⟩)).v) ((f_int).v) rfl) (a_cons (f_ite (d := (.int (if (decide (((dgo s.kept n).getD 0) < s.off)) = true then ((dgo s.kept n).getD 0) + 1 else s.off))) (t_cmp o_lt (((f_name g 3)).v) (((f_ixT (((f_name g 0)).v) (((f_gint g (T.i "OFF" 2))).v) rfl)).v)) (fun h5 => SemF.is (f_op o_add (((f_name g 3)).v) ((f_int).v)) (by rw [h5]; rfl)) (fun h5 => SemF.is (f_ixT (((f_name g 0)).v) (((f_gint g (T.i "OFF" 2))).v) rfl) (by rw [h5]; rfl))) a_nil)) (by simp)))) (fun z => nomatch z))) rfl
def R_greatest_taken_first : List D → D → Prop := fun ds d => ∃ (s : Sk) (m : Int), (SkOk s ∧ QnOk (.first m)) ∧ ds = [(.tup [(.int s.room), (.int s.many), (.int s.off), (.tup (s.kept.map pD))]), (.tup [(.str "first"), (.int m)])] ∧ d = .tup [.lst ((gtQ s (.first m)).1.map pD), .int (gtQ s (.first m)).2]
theorem w_greatest_taken_first (T : Top K w mg) : Fn P w K mg base "greatest_taken" 3 R_greatest_taken_first := by
  refine fn_top T 66 ["sketch", "question", "word", "own"] ["sketch", "question"] (by decide) (by decide +kernel) (fun _ _ _ _ _ _ us hl => match us, hl with | [_, _], _ => rfl) (by rintro _ _ ⟨s, m, hp, rfl, rfl⟩; rfl) ?_
  intro X gf eP ew eK em eb ds d hR
  subst eP ew eK em eb
  obtain ⟨s, m, hp, rfl, rfl⟩ := hR
  have hsc := Eq.refl (defScope (top 66))
  conv at hsc => rhs; whnf
  rw [hsc] at gf
  have g := gf.g
  refine .inl (?_ : Dos X _ [.fz (.tup [(.int s.room), (.int s.many), (.int s.off), (.tup (s.kept.map pD))]), .fz (.tup [(.str "first"), (.int m)]), .un, .un] (.rt (.tup [.lst ((gtQ s (.first m)).1.map pD), .int (gtQ s (.first m)).2])))
  exact s_out (s_cons (s_set gf 2 (f_ixT (((f_name g 1)).v) ((f_int).v) rfl)) <| s_cons (s_ifn (SemT.is (b := decide (("first" : Str) = "count")) (b' := false) (t_cmp o_eqS (((f_name g 2)).v) (((f_gstr g (T.s "COUNT" "count"))).v)) (by decide +kernel))) <| s_cons (s_ifn (SemT.is (b := decide (("first" : Str) = "lot")) (b' := false) (t_cmp o_eqS (((f_name g 2)).v) (((f_gstr g (T.s "LOT" "lot"))).v)) (by decide +kernel))) <| s_cons (s_ifn (SemT.is (b := decide (("first" : Str) = "apart")) (b' := false) (t_cmp o_eqS (((f_name g 2)).v) (((f_gstr g (T.s "APART" "apart"))).v)) (by decide +kernel))) <| s_cons (s_ifn (SemT.is (b := decide (("first" : Str) = "place")) (b' := false) (t_cmp o_eqS (((f_name g 2)).v) (((f_gstr g (T.s "PLACE" "place"))).v)) (by decide +kernel))) <| s_last (s_if (SemT.is (b := decide (("first" : Str) = "first")) (b' := true) (t_cmp o_eqS (((f_name g 2)).v) (((f_gstr g (T.s "FIRST" "first"))).v)) (by decide +kernel)) (fun _ => s_last (s_ret (f_tup (a_cons (f_call g (d := (.lst (((filL s.off (lostL s) (cutA (bcL s) none (some m))).1).map pD))) (w_filledlst T) (by decide) (a_cons (f_name g 0) (a_cons (((SemN.is (d' := (.lst ((cutA (bcL s) none (some m)).map D.str))) (n_slL (ds := ((bcL s).map D.str)) (l := none) (u := (some m)) (((f_call g (d := (.lst ((bcL s).map D.str))) (w_by_counts T) (by decide) (a_cons (f_name g 0) a_nil) ⟨_, hp.1, rfl, rfl⟩)).v) PtS.no (PtS.yes (((f_ixT (((f_name g 1)).v) ((f_int).v) rfl)).v))) (by rw [cutD_map]))).f) a_nil)) ⟨_, cutA (bcL s) none (some m), ⟨hp.1, by have h1 := bcL_len s; have h2 := hp.1.co.2.2; unfold cutA; rw [List.length_take, List.length_drop]; omega⟩, rfl, rfl⟩) (a_cons (f_ixT (((f_name g 0)).v) (((f_gint g (T.i "OFF" 2))).v) rfl) a_nil)) (by simp)))) (fun z => nomatch z))) rfl
def R_greatest_taken_unlike : List D → D → Prop := fun ds d => ∃ (s : Sk) , (SkOk s ∧ QnOk (.unlike)) ∧ ds = [(.tup [(.int s.room), (.int s.many), (.int s.off), (.tup (s.kept.map pD))]), (.tup [(.str "unlike")])] ∧ d = .tup [.lst ((gtQ s (.unlike)).1.map pD), .int (gtQ s (.unlike)).2]
theorem w_greatest_taken_unlike (T : Top K w mg) : Fn P w K mg base "greatest_taken" 1 R_greatest_taken_unlike := by
  refine fn_top T 66 ["sketch", "question", "word", "own"] ["sketch", "question"] (by decide) (by decide +kernel) (fun _ _ _ _ _ _ us hl => match us, hl with | [_, _], _ => rfl) (by rintro _ _ ⟨s, hp, rfl, rfl⟩; rfl) ?_
  intro X gf eP ew eK em eb ds d hR
  subst eP ew eK em eb
  obtain ⟨s, hp, rfl, rfl⟩ := hR
  have hsc := Eq.refl (defScope (top 66))
  conv at hsc => rhs; whnf
  rw [hsc] at gf
  have g := gf.g
  refine .inl (?_ : Dos X _ [.fz (.tup [(.int s.room), (.int s.many), (.int s.off), (.tup (s.kept.map pD))]), .fz (.tup [(.str "unlike")]), .un, .un] (.rt (.tup [.lst ((gtQ s (.unlike)).1.map pD), .int (gtQ s (.unlike)).2])))
  exact s_out (s_cons (s_set gf 2 (f_ixT (((f_name g 1)).v) ((f_int).v) rfl)) <| s_cons (s_ifn (SemT.is (b := decide (("unlike" : Str) = "count")) (b' := false) (t_cmp o_eqS (((f_name g 2)).v) (((f_gstr g (T.s "COUNT" "count"))).v)) (by decide +kernel))) <| s_cons (s_ifn (SemT.is (b := decide (("unlike" : Str) = "lot")) (b' := false) (t_cmp o_eqS (((f_name g 2)).v) (((f_gstr g (T.s "LOT" "lot"))).v)) (by decide +kernel))) <| s_cons (s_ifn (SemT.is (b := decide (("unlike" : Str) = "apart")) (b' := false) (t_cmp o_eqS (((f_name g 2)).v) (((f_gstr g (T.s "APART" "apart"))).v)) (by decide +kernel))) <| s_cons (s_ifn (SemT.is (b := decide (("unlike" : Str) = "place")) (b' := false) (t_cmp o_eqS (((f_name g 2)).v) (((f_gstr g (T.s "PLACE" "place"))).v)) (by decide +kernel))) <| s_cons (s_ifn (SemT.is (b := decide (("unlike" : Str) = "first")) (b' := false) (t_cmp o_eqS (((f_name g 2)).v) (((f_gstr g (T.s "FIRST" "first"))).v)) (by decide +kernel))) <| s_last (s_ret (f_ite (SemT.is (b := decide (("unlike" : Str) = "unlike")) (b' := true) (t_cmp o_eqS (((f_name g 2)).v) (((f_gstr g (T.s "UNLIKE" "unlike"))).v)) (by decide +kernel)) (fun h6 => (f_tup (a_cons (((n_lst a_nil (by simp))).f) (a_cons f_int a_nil)) (by simp))) (fun h6 => nomatch h6)))) rfl
def R_greatest_taken_squares : List D → D → Prop := fun ds d => ∃ (s : Sk) , (SkOk s ∧ QnOk (.squares)) ∧ ds = [(.tup [(.int s.room), (.int s.many), (.int s.off), (.tup (s.kept.map pD))]), (.tup [(.str "squares")])] ∧ d = .tup [.lst ((gtQ s (.squares)).1.map pD), .int (gtQ s (.squares)).2]
theorem w_greatest_taken_squares (T : Top K w mg) : Fn P w K mg base "greatest_taken" 3 R_greatest_taken_squares := by
  refine fn_top T 66 ["sketch", "question", "word", "own"] ["sketch", "question"] (by decide) (by decide +kernel) (fun _ _ _ _ _ _ us hl => match us, hl with | [_, _], _ => rfl) (by rintro _ _ ⟨s, hp, rfl, rfl⟩; rfl) ?_
  intro X gf eP ew eK em eb ds d hR
  subst eP ew eK em eb
  obtain ⟨s, hp, rfl, rfl⟩ := hR
  have hsc := Eq.refl (defScope (top 66))
  conv at hsc => rhs; whnf
  rw [hsc] at gf
  have g := gf.g
  refine .inl (?_ : Dos X _ [.fz (.tup [(.int s.room), (.int s.many), (.int s.off), (.tup (s.kept.map pD))]), .fz (.tup [(.str "squares")]), .un, .un] (.rt (.tup [.lst ((gtQ s (.squares)).1.map pD), .int (gtQ s (.squares)).2])))
  exact s_out (s_cons (s_set gf 2 (f_ixT (((f_name g 1)).v) ((f_int).v) rfl)) <| s_cons (s_ifn (SemT.is (b := decide (("squares" : Str) = "count")) (b' := false) (t_cmp o_eqS (((f_name g 2)).v) (((f_gstr g (T.s "COUNT" "count"))).v)) (by decide +kernel))) <| s_cons (s_ifn (SemT.is (b := decide (("squares" : Str) = "lot")) (b' := false) (t_cmp o_eqS (((f_name g 2)).v) (((f_gstr g (T.s "LOT" "lot"))).v)) (by decide +kernel))) <| s_cons (s_ifn (SemT.is (b := decide (("squares" : Str) = "apart")) (b' := false) (t_cmp o_eqS (((f_name g 2)).v) (((f_gstr g (T.s "APART" "apart"))).v)) (by decide +kernel))) <| s_cons (s_ifn (SemT.is (b := decide (("squares" : Str) = "place")) (b' := false) (t_cmp o_eqS (((f_name g 2)).v) (((f_gstr g (T.s "PLACE" "place"))).v)) (by decide +kernel))) <| s_cons (s_ifn (SemT.is (b := decide (("squares" : Str) = "first")) (b' := false) (t_cmp o_eqS (((f_name g 2)).v) (((f_gstr g (T.s "FIRST" "first"))).v)) (by decide +kernel))) <| s_last (s_ret (f_ite (SemT.is (b := decide (("squares" : Str) = "unlike")) (b' := false) (t_cmp o_eqS (((f_name g 2)).v) (((f_gstr g (T.s "UNLIKE" "unlike"))).v)) (by decide +kernel)) (fun h6 => nomatch h6) (fun h6 => (f_tup (a_cons (f_call g (d := (.lst (((filL s.off (lostL s) (bcL s)).1).map pD))) (w_filledlst T) (by decide) (a_cons (f_name g 0) (a_cons (f_call g (d := (.lst ((bcL s).map D.str))) (w_by_counts T) (by decide) (a_cons (f_name g 0) a_nil) ⟨_, hp.1, rfl, rfl⟩) a_nil)) ⟨_, bcL s, ⟨hp.1, by have h1 := bcL_len s; have h2 := hp.1.co.2.2; omega⟩, rfl, rfl⟩) (a_cons (f_ixT (((f_name g 0)).v) (((f_gint g (T.i "OFF" 2))).v) rfl) a_nil)) (by simp)))))) rfl
def R_end_truths_count : List D → D → Prop := fun ds d => ∃ (s : Sk) (n : Str), (SkOk s ∧ QnOk (.count n) ∧ ∀ z ∈ [ltQ s (.count n), gtQ s (.count n)], TwOk s z.1 z.2 (namesQ (.count n)) (nTw s z.1 z.2 (namesQ (.count n)))) ∧ ds = [(.tup [(.int s.room), (.int s.many), (.int s.off), (.tup (s.kept.map pD))]), (.tup [(.str "count"), (.str n)])] ∧ d = .tup (([ltQ s (.count n), gtQ s (.count n)].map (twT s (namesQ (.count n)))).map (fun z => .tup (z.map pD)))
theorem w_end_truths_count (T : Top K w mg) : Fn P w K mg base "end_truths" 5 R_end_truths_count := by
  refine fn_top T 67 ["sketch", "question", "barred", "found", "taken", "size"] ["sketch", "question"] (by decide) (by decide +kernel) (fun _ _ _ _ _ _ us hl => match us, hl with | [_, _], _ => rfl) (by rintro _ _ ⟨s, n, hp, rfl, rfl⟩; rfl) ?_
  intro X gf eP ew eK em eb ds d hR
  subst eP ew eK em eb
  obtain ⟨s, n, hp, rfl, rfl⟩ := hR
  have hsc := Eq.refl (defScope (top 67))
  conv at hsc => rhs; whnf
  rw [hsc] at gf
  have g := gf.g
  refine .inl (?_ : Dos X _ [.fz (.tup [(.int s.room), (.int s.many), (.int s.off), (.tup (s.kept.map pD))]), .fz (.tup [(.str "count"), (.str n)]), .un, .un, .un, .un] (.rt (.tup (([ltQ s (.count n), gtQ s (.count n)].map (twT s (namesQ (.count n)))).map (fun z => .tup (z.map pD))))))
  exact s_out (s_cons (s_expr (f_call g (d := .non) (w_check_sketch T) (by decide) (a_cons (f_name g 0) a_nil) ⟨_, hp.1, rfl, rfl⟩)) <| s_cons (s_expr (f_call g (d := .non) (w_check_question_count T) (by decide) (a_cons (f_name g 1) a_nil) ⟨_, hp.2.1, rfl, rfl⟩)) <| s_cons (s_expr (f_call g (d := .non) (w_check_told T) (by decide) (a_cons (f_name g 0) a_nil) ⟨_, hp.1, rfl, rfl⟩)) <| s_cons (s_set gf 2 (f_call g (d := (.tup ((namesQ (.count n)).map D.str))) (w_named_by_count T) (by decide) (a_cons (f_name g 1) a_nil) ⟨n, rfl, rfl⟩)) <| s_cons (s_new gf 3 (n_lst a_nil (by simp))) <| s_cons (s_for gf (xs := [ltQ s (.count n), gtQ s (.count n)]) (rs := (fun i1 => [.fz (.tup [(.int s.room), (.int s.many), (.int s.off), (.tup (s.kept.map pD))]), .fz (.tup [(.str "count"), (.str n)]), .fz (.tup ((namesQ (.count n)).map D.str)), .ow (.lst ((([ltQ s (.count n), gtQ s (.count n)].take i1).map (twT s (namesQ (.count n)))).map (fun z => .tup (z.map pD)))), .un, .un])) (if_tup (xs := [ltQ s (.count n), gtQ s (.count n)]) (enc := (fun z => .tup [.lst (z.1.map pD), .int z.2])) (f_tup (a_cons (f_call g (d := (.tup [(.lst (((ltQ s (.count n)).1).map pD)), (.int ((ltQ s (.count n)).2))])) (w_least_taken_count T) (by decide) (a_cons (f_name g 0) (a_cons (f_name g 1) a_nil)) ⟨_, _, ⟨hp.1, hp.2.1⟩, rfl, rfl⟩) (a_cons (f_call g (d := (.tup [(.lst (((gtQ s (.count n)).1).map pD)), (.int ((gtQ s (.count n)).2))])) (w_greatest_taken_count T) (by decide) (a_cons (f_name g 0) (a_cons (f_name g 1) a_nil)) ⟨_, _, ⟨hp.1, hp.2.1⟩, rfl, rfl⟩) a_nil)) (by simp))) (by repeat (first | exact trivial | refine ⟨.inr rfl, ?_⟩ | refine ⟨.inl rfl, ?_⟩)) (gf.pg2 4 5) (fun _ _ _ => tx_pair 4 5) (fun i1 x2 hx3 => s_to (s_le (ρ2 := [.fz (.tup [(.int s.room), (.int s.many), (.int s.off), (.tup (s.kept.map pD))]), .fz (.tup [(.str "count"), (.str n)]), .fz (.tup ((namesQ (.count n)).map D.str)), .ow (.lst (((([ltQ s (.count n), gtQ s (.count n)].take i1).map (twT s (namesQ (.count n)))) ++ [twT s (namesQ (.count n)) x2]).map (fun z => .tup (z.map pD)))), .un, .un]) (s_cons (s_app (ds := ((([ltQ s (.count n), gtQ s (.count n)].take i1).map (twT s (namesQ (.count n)))).map (fun z => .tup (z.map pD)))) g 3 (f_call g (d := (.tup ((twT s (namesQ (.count n)) x2).map pD))) (w_truth_with T) (by decide) (a_cons (f_name g 0) (a_cons (f_name g 4) (a_cons (f_name g 5) (a_cons (f_name g 2) a_nil)))) ⟨s, x2.1, x2.2, namesQ (.count n), nTw s x2.1 x2.2 (namesQ (.count n)), hp.2.2 x2 (List.mem_of_getElem? hx3), rfl, rfl⟩) (by have := take_len [ltQ s (.count n), gtQ s (.count n)] i1; rw [List.length_map, List.length_map]; simp only [List.length_cons, List.length_nil] at this; omega)) <| s_at (ρ1 := [.fz (.tup [(.int s.room), (.int s.many), (.int s.off), (.tup (s.kept.map pD))]), .fz (.tup [(.str "count"), (.str n)]), .fz (.tup ((namesQ (.count n)).map D.str)), .ow (.lst (((([ltQ s (.count n), gtQ s (.count n)].take i1).map (twT s (namesQ (.count n)))) ++ [twT s (namesQ (.count n)) x2]).map (fun z => .tup (z.map pD)))), .fz (.lst (x2.1.map pD)), .fz (.int x2.2)]) (s_nil) (by first | (simp only [List.map_append]; done) | (simp only [List.map_append]; rfl)))) (by simp only [take_snoc hx3, List.map_append]; rfl))) <| s_at (ρ1 := [.fz (.tup [(.int s.room), (.int s.many), (.int s.off), (.tup (s.kept.map pD))]), .fz (.tup [(.str "count"), (.str n)]), .fz (.tup ((namesQ (.count n)).map D.str)), .ow (.lst (([ltQ s (.count n), gtQ s (.count n)].map (twT s (namesQ (.count n)))).map (fun z => .tup (z.map pD)))), .un, .un]) (s_last (s_ret (f_callT g c_tupleL (T.fr "tuple") (av_cons (v_own g 3) av_nil)))) (by rfl)) rfl
def R_end_truths_lot : List D → D → Prop := fun ds d => ∃ (s : Sk) (ns : List Str), (SkOk s ∧ QnOk (.lot ns) ∧ ∀ z ∈ [ltQ s (.lot ns), gtQ s (.lot ns)], TwOk s z.1 z.2 (namesQ (.lot ns)) (nTw s z.1 z.2 (namesQ (.lot ns)))) ∧ ds = [(.tup [(.int s.room), (.int s.many), (.int s.off), (.tup (s.kept.map pD))]), (.tup [(.str "lot"), (.tup (ns.map D.str))])] ∧ d = .tup (([ltQ s (.lot ns), gtQ s (.lot ns)].map (twT s (namesQ (.lot ns)))).map (fun z => .tup (z.map pD)))
theorem w_end_truths_lot (T : Top K w mg) : Fn P w K mg base "end_truths" 5 R_end_truths_lot := by
  refine fn_top T 67 ["sketch", "question", "barred", "found", "taken", "size"] ["sketch", "question"] (by decide) (by decide +kernel) (fun _ _ _ _ _ _ us hl => match us, hl with | [_, _], _ => rfl) (by rintro _ _ ⟨s, ns, hp, rfl, rfl⟩; rfl) ?_
  intro X gf eP ew eK em eb ds d hR
  subst eP ew eK em eb
  obtain ⟨s, ns, hp, rfl, rfl⟩ := hR
  have hsc := Eq.refl (defScope (top 67))
  conv at hsc => rhs; whnf
  rw [hsc] at gf
  have g := gf.g
  refine .inl (?_ : Dos X _ [.fz (.tup [(.int s.room), (.int s.many), (.int s.off), (.tup (s.kept.map pD))]), .fz (.tup [(.str "lot"), (.tup (ns.map D.str))]), .un, .un, .un, .un] (.rt (.tup (([ltQ s (.lot ns), gtQ s (.lot ns)].map (twT s (namesQ (.lot ns)))).map (fun z => .tup (z.map pD))))))
  exact s_out (s_cons (s_expr (f_call g (d := .non) (w_check_sketch T) (by decide) (a_cons (f_name g 0) a_nil) ⟨_, hp.1, rfl, rfl⟩)) <| s_cons (s_expr (f_call g (d := .non) (w_check_question_lot T) (by decide) (a_cons (f_name g 1) a_nil) ⟨_, hp.2.1, rfl, rfl⟩)) <| s_cons (s_expr (f_call g (d := .non) (w_check_told T) (by decide) (a_cons (f_name g 0) a_nil) ⟨_, hp.1, rfl, rfl⟩)) <| s_cons (s_set gf 2 (f_call g (d := (.tup ((namesQ (.lot ns)).map D.str))) (w_named_by_lot T) (by decide) (a_cons (f_name g 1) a_nil) ⟨ns, rfl, rfl⟩)) <| s_cons (s_new gf 3 (n_lst a_nil (by simp))) <| s_cons (s_for gf (xs := [ltQ s (.lot ns), gtQ s (.lot ns)]) (rs := (fun i1 => [.fz (.tup [(.int s.room), (.int s.many), (.int s.off), (.tup (s.kept.map pD))]), .fz (.tup [(.str "lot"), (.tup (ns.map D.str))]), .fz (.tup ((namesQ (.lot ns)).map D.str)), .ow (.lst ((([ltQ s (.lot ns), gtQ s (.lot ns)].take i1).map (twT s (namesQ (.lot ns)))).map (fun z => .tup (z.map pD)))), .un, .un])) (if_tup (xs := [ltQ s (.lot ns), gtQ s (.lot ns)]) (enc := (fun z => .tup [.lst (z.1.map pD), .int z.2])) (f_tup (a_cons (f_call g (d := (.tup [(.lst (((ltQ s (.lot ns)).1).map pD)), (.int ((ltQ s (.lot ns)).2))])) (w_least_taken_lot T) (by decide) (a_cons (f_name g 0) (a_cons (f_name g 1) a_nil)) ⟨_, _, ⟨hp.1, hp.2.1⟩, rfl, rfl⟩) (a_cons (f_call g (d := (.tup [(.lst (((gtQ s (.lot ns)).1).map pD)), (.int ((gtQ s (.lot ns)).2))])) (w_greatest_taken_lot T) (by decide) (a_cons (f_name g 0) (a_cons (f_name g 1) a_nil)) ⟨_, _, ⟨hp.1, hp.2.1⟩, rfl, rfl⟩) a_nil)) (by simp))) (by repeat (first | exact trivial | refine ⟨.inr rfl, ?_⟩ | refine ⟨.inl rfl, ?_⟩)) (gf.pg2 4 5) (fun _ _ _ => tx_pair 4 5) (fun i1 x2 hx3 => s_to (s_le (ρ2 := [.fz (.tup [(.int s.room), (.int s.many), (.int s.off), (.tup (s.kept.map pD))]), .fz (.tup [(.str "lot"), (.tup (ns.map D.str))]), .fz (.tup ((namesQ (.lot ns)).map D.str)), .ow (.lst (((([ltQ s (.lot ns), gtQ s (.lot ns)].take i1).map (twT s (namesQ (.lot ns)))) ++ [twT s (namesQ (.lot ns)) x2]).map (fun z => .tup (z.map pD)))), .un, .un]) (s_cons (s_app (ds := ((([ltQ s (.lot ns), gtQ s (.lot ns)].take i1).map (twT s (namesQ (.lot ns)))).map (fun z => .tup (z.map pD)))) g 3 (f_call g (d := (.tup ((twT s (namesQ (.lot ns)) x2).map pD))) (w_truth_with T) (by decide) (a_cons (f_name g 0) (a_cons (f_name g 4) (a_cons (f_name g 5) (a_cons (f_name g 2) a_nil)))) ⟨s, x2.1, x2.2, namesQ (.lot ns), nTw s x2.1 x2.2 (namesQ (.lot ns)), hp.2.2 x2 (List.mem_of_getElem? hx3), rfl, rfl⟩) (by have := take_len [ltQ s (.lot ns), gtQ s (.lot ns)] i1; rw [List.length_map, List.length_map]; simp only [List.length_cons, List.length_nil] at this; omega)) <| s_at (ρ1 := [.fz (.tup [(.int s.room), (.int s.many), (.int s.off), (.tup (s.kept.map pD))]), .fz (.tup [(.str "lot"), (.tup (ns.map D.str))]), .fz (.tup ((namesQ (.lot ns)).map D.str)), .ow (.lst (((([ltQ s (.lot ns), gtQ s (.lot ns)].take i1).map (twT s (namesQ (.lot ns)))) ++ [twT s (namesQ (.lot ns)) x2]).map (fun z => .tup (z.map pD)))), .fz (.lst (x2.1.map pD)), .fz (.int x2.2)]) (s_nil) (by first | (simp only [List.map_append]; done) | (simp only [List.map_append]; rfl)))) (by simp only [take_snoc hx3, List.map_append]; rfl))) <| s_at (ρ1 := [.fz (.tup [(.int s.room), (.int s.many), (.int s.off), (.tup (s.kept.map pD))]), .fz (.tup [(.str "lot"), (.tup (ns.map D.str))]), .fz (.tup ((namesQ (.lot ns)).map D.str)), .ow (.lst (([ltQ s (.lot ns), gtQ s (.lot ns)].map (twT s (namesQ (.lot ns)))).map (fun z => .tup (z.map pD)))), .un, .un]) (s_last (s_ret (f_callT g c_tupleL (T.fr "tuple") (av_cons (v_own g 3) av_nil)))) (by rfl)) rfl
def R_end_truths_apart : List D → D → Prop := fun ds d => ∃ (s : Sk) (a b : Str), (SkOk s ∧ QnOk (.apart a b) ∧ ∀ z ∈ [ltQ s (.apart a b), gtQ s (.apart a b)], TwOk s z.1 z.2 (namesQ (.apart a b)) (nTw s z.1 z.2 (namesQ (.apart a b)))) ∧ ds = [(.tup [(.int s.room), (.int s.many), (.int s.off), (.tup (s.kept.map pD))]), (.tup [(.str "apart"), (.str a), (.str b)])] ∧ d = .tup (([ltQ s (.apart a b), gtQ s (.apart a b)].map (twT s (namesQ (.apart a b)))).map (fun z => .tup (z.map pD)))
theorem w_end_truths_apart (T : Top K w mg) : Fn P w K mg base "end_truths" 5 R_end_truths_apart := by
  refine fn_top T 67 ["sketch", "question", "barred", "found", "taken", "size"] ["sketch", "question"] (by decide) (by decide +kernel) (fun _ _ _ _ _ _ us hl => match us, hl with | [_, _], _ => rfl) (by rintro _ _ ⟨s, a, b, hp, rfl, rfl⟩; rfl) ?_
  intro X gf eP ew eK em eb ds d hR
  subst eP ew eK em eb
  obtain ⟨s, a, b, hp, rfl, rfl⟩ := hR
  have hsc := Eq.refl (defScope (top 67))
  conv at hsc => rhs; whnf
  rw [hsc] at gf
  have g := gf.g
  refine .inl (?_ : Dos X _ [.fz (.tup [(.int s.room), (.int s.many), (.int s.off), (.tup (s.kept.map pD))]), .fz (.tup [(.str "apart"), (.str a), (.str b)]), .un, .un, .un, .un] (.rt (.tup (([ltQ s (.apart a b), gtQ s (.apart a b)].map (twT s (namesQ (.apart a b)))).map (fun z => .tup (z.map pD))))))
  exact s_out (s_cons (s_expr (f_call g (d := .non) (w_check_sketch T) (by decide) (a_cons (f_name g 0) a_nil) ⟨_, hp.1, rfl, rfl⟩)) <| s_cons (s_expr (f_call g (d := .non) (w_check_question_apart T) (by decide) (a_cons (f_name g 1) a_nil) ⟨_, _, hp.2.1, rfl, rfl⟩)) <| s_cons (s_expr (f_call g (d := .non) (w_check_told T) (by decide) (a_cons (f_name g 0) a_nil) ⟨_, hp.1, rfl, rfl⟩)) <| s_cons (s_set gf 2 (f_call g (d := (.tup ((namesQ (.apart a b)).map D.str))) (w_named_by_apart T) (by decide) (a_cons (f_name g 1) a_nil) ⟨a, b, rfl, rfl⟩)) <| s_cons (s_new gf 3 (n_lst a_nil (by simp))) <| s_cons (s_for gf (xs := [ltQ s (.apart a b), gtQ s (.apart a b)]) (rs := (fun i1 => [.fz (.tup [(.int s.room), (.int s.many), (.int s.off), (.tup (s.kept.map pD))]), .fz (.tup [(.str "apart"), (.str a), (.str b)]), .fz (.tup ((namesQ (.apart a b)).map D.str)), .ow (.lst ((([ltQ s (.apart a b), gtQ s (.apart a b)].take i1).map (twT s (namesQ (.apart a b)))).map (fun z => .tup (z.map pD)))), .un, .un])) (if_tup (xs := [ltQ s (.apart a b), gtQ s (.apart a b)]) (enc := (fun z => .tup [.lst (z.1.map pD), .int z.2])) (f_tup (a_cons (f_call g (d := (.tup [(.lst (((ltQ s (.apart a b)).1).map pD)), (.int ((ltQ s (.apart a b)).2))])) (w_least_taken_apart T) (by decide) (a_cons (f_name g 0) (a_cons (f_name g 1) a_nil)) ⟨_, _, _, ⟨hp.1, hp.2.1⟩, rfl, rfl⟩) (a_cons (f_call g (d := (.tup [(.lst (((gtQ s (.apart a b)).1).map pD)), (.int ((gtQ s (.apart a b)).2))])) (w_greatest_taken_apart T) (by decide) (a_cons (f_name g 0) (a_cons (f_name g 1) a_nil)) ⟨_, _, _, ⟨hp.1, hp.2.1⟩, rfl, rfl⟩) a_nil)) (by simp))) (by repeat (first | exact trivial | refine ⟨.inr rfl, ?_⟩ | refine ⟨.inl rfl, ?_⟩)) (gf.pg2 4 5) (fun _ _ _ => tx_pair 4 5) (fun i1 x2 hx3 => s_to (s_le (ρ2 := [.fz (.tup [(.int s.room), (.int s.many), (.int s.off), (.tup (s.kept.map pD))]), .fz (.tup [(.str "apart"), (.str a), (.str b)]), .fz (.tup ((namesQ (.apart a b)).map D.str)), .ow (.lst (((([ltQ s (.apart a b), gtQ s (.apart a b)].take i1).map (twT s (namesQ (.apart a b)))) ++ [twT s (namesQ (.apart a b)) x2]).map (fun z => .tup (z.map pD)))), .un, .un]) (s_cons (s_app (ds := ((([ltQ s (.apart a b), gtQ s (.apart a b)].take i1).map (twT s (namesQ (.apart a b)))).map (fun z => .tup (z.map pD)))) g 3 (f_call g (d := (.tup ((twT s (namesQ (.apart a b)) x2).map pD))) (w_truth_with T) (by decide) (a_cons (f_name g 0) (a_cons (f_name g 4) (a_cons (f_name g 5) (a_cons (f_name g 2) a_nil)))) ⟨s, x2.1, x2.2, namesQ (.apart a b), nTw s x2.1 x2.2 (namesQ (.apart a b)), hp.2.2 x2 (List.mem_of_getElem? hx3), rfl, rfl⟩) (by have := take_len [ltQ s (.apart a b), gtQ s (.apart a b)] i1; rw [List.length_map, List.length_map]; simp only [List.length_cons, List.length_nil] at this; omega)) <| s_at (ρ1 := [.fz (.tup [(.int s.room), (.int s.many), (.int s.off), (.tup (s.kept.map pD))]), .fz (.tup [(.str "apart"), (.str a), (.str b)]), .fz (.tup ((namesQ (.apart a b)).map D.str)), .ow (.lst (((([ltQ s (.apart a b), gtQ s (.apart a b)].take i1).map (twT s (namesQ (.apart a b)))) ++ [twT s (namesQ (.apart a b)) x2]).map (fun z => .tup (z.map pD)))), .fz (.lst (x2.1.map pD)), .fz (.int x2.2)]) (s_nil) (by first | (simp only [List.map_append]; done) | (simp only [List.map_append]; rfl)))) (by simp only [take_snoc hx3, List.map_append]; rfl))) <| s_at (ρ1 := [.fz (.tup [(.int s.room), (.int s.many), (.int s.off), (.tup (s.kept.map pD))]), .fz (.tup [(.str "apart"), (.str a), (.str b)]), .fz (.tup ((namesQ (.apart a b)).map D.str)), .ow (.lst (([ltQ s (.apart a b), gtQ s (.apart a b)].map (twT s (namesQ (.apart a b)))).map (fun z => .tup (z.map pD)))), .un, .un]) (s_last (s_ret (f_callT g c_tupleL (T.fr "tuple") (av_cons (v_own g 3) av_nil)))) (by rfl)) rfl
def R_end_truths_place : List D → D → Prop := fun ds d => ∃ (s : Sk) (n : Str), (SkOk s ∧ QnOk (.place n) ∧ ∀ z ∈ [ltQ s (.place n), gtQ s (.place n)], TwOk s z.1 z.2 (namesQ (.place n)) (nTw s z.1 z.2 (namesQ (.place n)))) ∧ ds = [(.tup [(.int s.room), (.int s.many), (.int s.off), (.tup (s.kept.map pD))]), (.tup [(.str "place"), (.str n)])] ∧ d = .tup (([ltQ s (.place n), gtQ s (.place n)].map (twT s (namesQ (.place n)))).map (fun z => .tup (z.map pD)))
theorem w_end_truths_place (T : Top K w mg) : Fn P w K mg base "end_truths" 5 R_end_truths_place := by
  refine fn_top T 67 ["sketch", "question", "barred", "found", "taken", "size"] ["sketch", "question"] (by decide) (by decide +kernel) (fun _ _ _ _ _ _ us hl => match us, hl with | [_, _], _ => rfl) (by rintro _ _ ⟨s, n, hp, rfl, rfl⟩; rfl) ?_
  intro X gf eP ew eK em eb ds d hR
  subst eP ew eK em eb
  obtain ⟨s, n, hp, rfl, rfl⟩ := hR
  have hsc := Eq.refl (defScope (top 67))
  conv at hsc => rhs; whnf
  rw [hsc] at gf
  have g := gf.g
  refine .inl (?_ : Dos X _ [.fz (.tup [(.int s.room), (.int s.many), (.int s.off), (.tup (s.kept.map pD))]), .fz (.tup [(.str "place"), (.str n)]), .un, .un, .un, .un] (.rt (.tup (([ltQ s (.place n), gtQ s (.place n)].map (twT s (namesQ (.place n)))).map (fun z => .tup (z.map pD))))))
  exact s_out (s_cons (s_expr (f_call g (d := .non) (w_check_sketch T) (by decide) (a_cons (f_name g 0) a_nil) ⟨_, hp.1, rfl, rfl⟩)) <| s_cons (s_expr (f_call g (d := .non) (w_check_question_place T) (by decide) (a_cons (f_name g 1) a_nil) ⟨_, hp.2.1, rfl, rfl⟩)) <| s_cons (s_expr (f_call g (d := .non) (w_check_told T) (by decide) (a_cons (f_name g 0) a_nil) ⟨_, hp.1, rfl, rfl⟩)) <| s_cons (s_set gf 2 (f_call g (d := (.tup ((namesQ (.place n)).map D.str))) (w_named_by_place T) (by decide) (a_cons (f_name g 1) a_nil) ⟨n, rfl, rfl⟩)) <| s_cons (s_new gf 3 (n_lst a_nil (by simp))) <| s_cons (s_for gf (xs := [ltQ s (.place n), gtQ s (.place n)]) (rs := (fun i1 => [.fz (.tup [(.int s.room), (.int s.many), (.int s.off), (.tup (s.kept.map pD))]), .fz (.tup [(.str "place"), (.str n)]), .fz (.tup ((namesQ (.place n)).map D.str)), .ow (.lst ((([ltQ s (.place n), gtQ s (.place n)].take i1).map (twT s (namesQ (.place n)))).map (fun z => .tup (z.map pD)))), .un, .un])) (if_tup (xs := [ltQ s (.place n), gtQ s (.place n)]) (enc := (fun z => .tup [.lst (z.1.map pD), .int z.2])) (f_tup (a_cons (f_call g (d := (.tup [(.lst (((ltQ s (.place n)).1).map pD)), (.int ((ltQ s (.place n)).2))])) (w_least_taken_place T) (by decide) (a_cons (f_name g 0) (a_cons (f_name g 1) a_nil)) ⟨_, _, ⟨hp.1, hp.2.1⟩, rfl, rfl⟩) (a_cons (f_call g (d := (.tup [(.lst (((gtQ s (.place n)).1).map pD)), (.int ((gtQ s (.place n)).2))])) (w_greatest_taken_place T) (by decide) (a_cons (f_name g 0) (a_cons (f_name g 1) a_nil)) ⟨_, _, ⟨hp.1, hp.2.1⟩, rfl, rfl⟩) a_nil)) (by simp))) (by repeat (first | exact trivial | refine ⟨.inr rfl, ?_⟩ | refine ⟨.inl rfl, ?_⟩)) (gf.pg2 4 5) (fun _ _ _ => tx_pair 4 5) (fun i1 x2 hx3 => s_to (s_le (ρ2 := [.fz (.tup [(.int s.room), (.int s.many), (.int s.off), (.tup (s.kept.map pD))]), .fz (.tup [(.str "place"), (.str n)]), .fz (.tup ((namesQ (.place n)).map D.str)), .ow (.lst (((([ltQ s (.place n), gtQ s (.place n)].take i1).map (twT s (namesQ (.place n)))) ++ [twT s (namesQ (.place n)) x2]).map (fun z => .tup (z.map pD)))), .un, .un]) (s_cons (s_app (ds := ((([ltQ s (.place n), gtQ s (.place n)].take i1).map (twT s (namesQ (.place n)))).map (fun z => .tup (z.map pD)))) g 3 (f_call g (d := (.tup ((twT s (namesQ (.place n)) x2).map pD))) (w_truth_with T) (by decide) (a_cons (f_name g 0) (a_cons (f_name g 4) (a_cons (f_name g 5) (a_cons (f_name g 2) a_nil)))) ⟨s, x2.1, x2.2, namesQ (.place n), nTw s x2.1 x2.2 (namesQ (.place n)), hp.2.2 x2 (List.mem_of_getElem? hx3), rfl, rfl⟩) (by have := take_len [ltQ s (.place n), gtQ s (.place n)] i1; rw [List.length_map, List.length_map]; simp only [List.length_cons, List.length_nil] at this; omega)) <| s_at (ρ1 := [.fz (.tup [(.int s.room), (.int s.many), (.int s.off), (.tup (s.kept.map pD))]), .fz (.tup [(.str "place"), (.str n)]), .fz (.tup ((namesQ (.place n)).map D.str)), .ow (.lst (((([ltQ s (.place n), gtQ s (.place n)].take i1).map (twT s (namesQ (.place n)))) ++ [twT s (namesQ (.place n)) x2]).map (fun z => .tup (z.map pD)))), .fz (.lst (x2.1.map pD)), .fz (.int x2.2)]) (s_nil) (by first | (simp only [List.map_append]; done) | (simp only [List.map_append]; rfl)))) (by simp only [take_snoc hx3, List.map_append]; rfl))) <| s_at (ρ1 := [.fz (.tup [(.int s.room), (.int s.many), (.int s.off), (.tup (s.kept.map pD))]), .fz (.tup [(.str "place"), (.str n)]), .fz (.tup ((namesQ (.place n)).map D.str)), .ow (.lst (([ltQ s (.place n), gtQ s (.place n)].map (twT s (namesQ (.place n)))).map (fun z => .tup (z.map pD)))), .un, .un]) (s_last (s_ret (f_callT g c_tupleL (T.fr "tuple") (av_cons (v_own g 3) av_nil)))) (by rfl)) rfl
def R_end_truths_first : List D → D → Prop := fun ds d => ∃ (s : Sk) (m : Int), (SkOk s ∧ QnOk (.first m) ∧ ∀ z ∈ [ltQ s (.first m), gtQ s (.first m)], TwOk s z.1 z.2 (namesQ (.first m)) (nTw s z.1 z.2 (namesQ (.first m)))) ∧ ds = [(.tup [(.int s.room), (.int s.many), (.int s.off), (.tup (s.kept.map pD))]), (.tup [(.str "first"), (.int m)])] ∧ d = .tup (([ltQ s (.first m), gtQ s (.first m)].map (twT s (namesQ (.first m)))).map (fun z => .tup (z.map pD)))
theorem w_end_truths_first (T : Top K w mg) : Fn P w K mg base "end_truths" 5 R_end_truths_first := by
  refine fn_top T 67 ["sketch", "question", "barred", "found", "taken", "size"] ["sketch", "question"] (by decide) (by decide +kernel) (fun _ _ _ _ _ _ us hl => match us, hl with | [_, _], _ => rfl) (by rintro _ _ ⟨s, m, hp, rfl, rfl⟩; rfl) ?_
  intro X gf eP ew eK em eb ds d hR
  subst eP ew eK em eb
  obtain ⟨s, m, hp, rfl, rfl⟩ := hR
  have hsc := Eq.refl (defScope (top 67))
  conv at hsc => rhs; whnf
  rw [hsc] at gf
  have g := gf.g
  refine .inl (?_ : Dos X _ [.fz (.tup [(.int s.room), (.int s.many), (.int s.off), (.tup (s.kept.map pD))]), .fz (.tup [(.str "first"), (.int m)]), .un, .un, .un, .un] (.rt (.tup (([ltQ s (.first m), gtQ s (.first m)].map (twT s (namesQ (.first m)))).map (fun z => .tup (z.map pD))))))
  exact s_out (s_cons (s_expr (f_call g (d := .non) (w_check_sketch T) (by decide) (a_cons (f_name g 0) a_nil) ⟨_, hp.1, rfl, rfl⟩)) <| s_cons (s_expr (f_call g (d := .non) (w_check_question_first T) (by decide) (a_cons (f_name g 1) a_nil) ⟨_, hp.2.1, rfl, rfl⟩)) <| s_cons (s_expr (f_call g (d := .non) (w_check_told T) (by decide) (a_cons (f_name g 0) a_nil) ⟨_, hp.1, rfl, rfl⟩)) <| s_cons (s_set gf 2 (f_call g (d := (.tup ((namesQ (.first m)).map D.str))) (w_named_by_first T) (by decide) (a_cons (f_name g 1) a_nil) ⟨m, rfl, rfl⟩)) <| s_cons (s_new gf 3 (n_lst a_nil (by simp))) <| s_cons (s_for gf (xs := [ltQ s (.first m), gtQ s (.first m)]) (rs := (fun i1 => [.fz (.tup [(.int s.room), (.int s.many), (.int s.off), (.tup (s.kept.map pD))]), .fz (.tup [(.str "first"), (.int m)]), .fz (.tup ((namesQ (.first m)).map D.str)), .ow (.lst ((([ltQ s (.first m), gtQ s (.first m)].take i1).map (twT s (namesQ (.first m)))).map (fun z => .tup (z.map pD)))), .un, .un])) (if_tup (xs := [ltQ s (.first m), gtQ s (.first m)]) (enc := (fun z => .tup [.lst (z.1.map pD), .int z.2])) (f_tup (a_cons (f_call g (d := (.tup [(.lst (((ltQ s (.first m)).1).map pD)), (.int ((ltQ s (.first m)).2))])) (w_least_taken_first T) (by decide) (a_cons (f_name g 0) (a_cons (f_name g 1) a_nil)) ⟨_, _, ⟨hp.1, hp.2.1⟩, rfl, rfl⟩) (a_cons (f_call g (d := (.tup [(.lst (((gtQ s (.first m)).1).map pD)), (.int ((gtQ s (.first m)).2))])) (w_greatest_taken_first T) (by decide) (a_cons (f_name g 0) (a_cons (f_name g 1) a_nil)) ⟨_, _, ⟨hp.1, hp.2.1⟩, rfl, rfl⟩) a_nil)) (by simp))) (by repeat (first | exact trivial | refine ⟨.inr rfl, ?_⟩ | refine ⟨.inl rfl, ?_⟩)) (gf.pg2 4 5) (fun _ _ _ => tx_pair 4 5) (fun i1 x2 hx3 => s_to (s_le (ρ2 := [.fz (.tup [(.int s.room), (.int s.many), (.int s.off), (.tup (s.kept.map pD))]), .fz (.tup [(.str "first"), (.int m)]), .fz (.tup ((namesQ (.first m)).map D.str)), .ow (.lst (((([ltQ s (.first m), gtQ s (.first m)].take i1).map (twT s (namesQ (.first m)))) ++ [twT s (namesQ (.first m)) x2]).map (fun z => .tup (z.map pD)))), .un, .un]) (s_cons (s_app (ds := ((([ltQ s (.first m), gtQ s (.first m)].take i1).map (twT s (namesQ (.first m)))).map (fun z => .tup (z.map pD)))) g 3 (f_call g (d := (.tup ((twT s (namesQ (.first m)) x2).map pD))) (w_truth_with T) (by decide) (a_cons (f_name g 0) (a_cons (f_name g 4) (a_cons (f_name g 5) (a_cons (f_name g 2) a_nil)))) ⟨s, x2.1, x2.2, namesQ (.first m), nTw s x2.1 x2.2 (namesQ (.first m)), hp.2.2 x2 (List.mem_of_getElem? hx3), rfl, rfl⟩) (by have := take_len [ltQ s (.first m), gtQ s (.first m)] i1; rw [List.length_map, List.length_map]; simp only [List.length_cons, List.length_nil] at this; omega)) <| s_at (ρ1 := [.fz (.tup [(.int s.room), (.int s.many), (.int s.off), (.tup (s.kept.map pD))]), .fz (.tup [(.str "first"), (.int m)]), .fz (.tup ((namesQ (.first m)).map D.str)), .ow (.lst (((([ltQ s (.first m), gtQ s (.first m)].take i1).map (twT s (namesQ (.first m)))) ++ [twT s (namesQ (.first m)) x2]).map (fun z => .tup (z.map pD)))), .fz (.lst (x2.1.map pD)), .fz (.int x2.2)]) (s_nil) (by first | (simp only [List.map_append]; done) | (simp only [List.map_append]; rfl)))) (by simp only [take_snoc hx3, List.map_append]; rfl))) <| s_at (ρ1 := [.fz (.tup [(.int s.room), (.int s.many), (.int s.off), (.tup (s.kept.map pD))]), .fz (.tup [(.str "first"), (.int m)]), .fz (.tup ((namesQ (.first m)).map D.str)), .ow (.lst (([ltQ s (.first m), gtQ s (.first m)].map (twT s (namesQ (.first m)))).map (fun z => .tup (z.map pD)))), .un, .un]) (s_last (s_ret (f_callT g c_tupleL (T.fr "tuple") (av_cons (v_own g 3) av_nil)))) (by rfl)) rfl
def R_end_truths_unlike : List D → D → Prop := fun ds d => ∃ (s : Sk) , (SkOk s ∧ QnOk (.unlike) ∧ ∀ z ∈ [ltQ s (.unlike), gtQ s (.unlike)], TwOk s z.1 z.2 (namesQ (.unlike)) (nTw s z.1 z.2 (namesQ (.unlike)))) ∧ ds = [(.tup [(.int s.room), (.int s.many), (.int s.off), (.tup (s.kept.map pD))]), (.tup [(.str "unlike")])] ∧ d = .tup (([ltQ s (.unlike), gtQ s (.unlike)].map (twT s (namesQ (.unlike)))).map (fun z => .tup (z.map pD)))
theorem w_end_truths_unlike (T : Top K w mg) : Fn P w K mg base "end_truths" 5 R_end_truths_unlike := by
  refine fn_top T 67 ["sketch", "question", "barred", "found", "taken", "size"] ["sketch", "question"] (by decide) (by decide +kernel) (fun _ _ _ _ _ _ us hl => match us, hl with | [_, _], _ => rfl) (by rintro _ _ ⟨s, hp, rfl, rfl⟩; rfl) ?_
  intro X gf eP ew eK em eb ds d hR
  subst eP ew eK em eb
  obtain ⟨s, hp, rfl, rfl⟩ := hR
  have hsc := Eq.refl (defScope (top 67))
  conv at hsc => rhs; whnf
  rw [hsc] at gf
  have g := gf.g
  refine .inl (?_ : Dos X _ [.fz (.tup [(.int s.room), (.int s.many), (.int s.off), (.tup (s.kept.map pD))]), .fz (.tup [(.str "unlike")]), .un, .un, .un, .un] (.rt (.tup (([ltQ s (.unlike), gtQ s (.unlike)].map (twT s (namesQ (.unlike)))).map (fun z => .tup (z.map pD))))))
  exact s_out (s_cons (s_expr (f_call g (d := .non) (w_check_sketch T) (by decide) (a_cons (f_name g 0) a_nil) ⟨_, hp.1, rfl, rfl⟩)) <| s_cons (s_expr (f_call g (d := .non) (w_check_question_unlike T) (by decide) (a_cons (f_name g 1) a_nil) ⟨hp.2.1, rfl, rfl⟩)) <| s_cons (s_expr (f_call g (d := .non) (w_check_told T) (by decide) (a_cons (f_name g 0) a_nil) ⟨_, hp.1, rfl, rfl⟩)) <| s_cons (s_set gf 2 (f_call g (d := (.tup ((namesQ (.unlike)).map D.str))) (w_named_by_unlike T) (by decide) (a_cons (f_name g 1) a_nil) ⟨rfl, rfl⟩)) <| s_cons (s_new gf 3 (n_lst a_nil (by simp))) <| s_cons (s_for gf (xs := [ltQ s (.unlike), gtQ s (.unlike)]) (rs := (fun i1 => [.fz (.tup [(.int s.room), (.int s.many), (.int s.off), (.tup (s.kept.map pD))]), .fz (.tup [(.str "unlike")]), .fz (.tup ((namesQ (.unlike)).map D.str)), .ow (.lst ((([ltQ s (.unlike), gtQ s (.unlike)].take i1).map (twT s (namesQ (.unlike)))).map (fun z => .tup (z.map pD)))), .un, .un])) (if_tup (xs := [ltQ s (.unlike), gtQ s (.unlike)]) (enc := (fun z => .tup [.lst (z.1.map pD), .int z.2])) (f_tup (a_cons (f_call g (d := (.tup [(.lst (((ltQ s (.unlike : Qn)).1).map pD)), (.int ((ltQ s (.unlike : Qn)).2))])) (w_least_taken_unlike T) (by decide) (a_cons (f_name g 0) (a_cons (f_name g 1) a_nil)) ⟨_, ⟨hp.1, hp.2.1⟩, rfl, rfl⟩) (a_cons (f_call g (d := (.tup [(.lst (((gtQ s (.unlike : Qn)).1).map pD)), (.int ((gtQ s (.unlike : Qn)).2))])) (w_greatest_taken_unlike T) (by decide) (a_cons (f_name g 0) (a_cons (f_name g 1) a_nil)) ⟨_, ⟨hp.1, hp.2.1⟩, rfl, rfl⟩) a_nil)) (by simp))) (by repeat (first | exact trivial | refine ⟨.inr rfl, ?_⟩ | refine ⟨.inl rfl, ?_⟩)) (gf.pg2 4 5) (fun _ _ _ => tx_pair 4 5) (fun i1 x2 hx3 => s_to (s_le (ρ2 := [.fz (.tup [(.int s.room), (.int s.many), (.int s.off), (.tup (s.kept.map pD))]), .fz (.tup [(.str "unlike")]), .fz (.tup ((namesQ (.unlike)).map D.str)), .ow (.lst (((([ltQ s (.unlike), gtQ s (.unlike)].take i1).map (twT s (namesQ (.unlike)))) ++ [twT s (namesQ (.unlike)) x2]).map (fun z => .tup (z.map pD)))), .un, .un]) (s_cons (s_app (ds := ((([ltQ s (.unlike), gtQ s (.unlike)].take i1).map (twT s (namesQ (.unlike)))).map (fun z => .tup (z.map pD)))) g 3 (f_call g (d := (.tup ((twT s (namesQ (.unlike)) x2).map pD))) (w_truth_with T) (by decide) (a_cons (f_name g 0) (a_cons (f_name g 4) (a_cons (f_name g 5) (a_cons (f_name g 2) a_nil)))) ⟨s, x2.1, x2.2, namesQ (.unlike), nTw s x2.1 x2.2 (namesQ (.unlike)), hp.2.2 x2 (List.mem_of_getElem? hx3), rfl, rfl⟩) (by have := take_len [ltQ s (.unlike), gtQ s (.unlike)] i1; rw [List.length_map, List.length_map]; simp only [List.length_cons, List.length_nil] at this; omega)) <| s_at (ρ1 := [.fz (.tup [(.int s.room), (.int s.many), (.int s.off), (.tup (s.kept.map pD))]), .fz (.tup [(.str "unlike")]), .fz (.tup ((namesQ (.unlike)).map D.str)), .ow (.lst (((([ltQ s (.unlike), gtQ s (.unlike)].take i1).map (twT s (namesQ (.unlike)))) ++ [twT s (namesQ (.unlike)) x2]).map (fun z => .tup (z.map pD)))), .fz (.lst (x2.1.map pD)), .fz (.int x2.2)]) (s_nil) (by first | (simp only [List.map_append]; done) | (simp only [List.map_append]; rfl)))) (by simp only [take_snoc hx3, List.map_append]; rfl))) <| s_at (ρ1 := [.fz (.tup [(.int s.room), (.int s.many), (.int s.off), (.tup (s.kept.map pD))]), .fz (.tup [(.str "unlike")]), .fz (.tup ((namesQ (.unlike)).map D.str)), .ow (.lst (([ltQ s (.unlike), gtQ s (.unlike)].map (twT s (namesQ (.unlike)))).map (fun z => .tup (z.map pD)))), .un, .un]) (s_last (s_ret (f_callT g c_tupleL (T.fr "tuple") (av_cons (v_own g 3) av_nil)))) (by rfl)) rfl
def R_end_truths_squares : List D → D → Prop := fun ds d => ∃ (s : Sk) , (SkOk s ∧ QnOk (.squares) ∧ ∀ z ∈ [ltQ s (.squares), gtQ s (.squares)], TwOk s z.1 z.2 (namesQ (.squares)) (nTw s z.1 z.2 (namesQ (.squares)))) ∧ ds = [(.tup [(.int s.room), (.int s.many), (.int s.off), (.tup (s.kept.map pD))]), (.tup [(.str "squares")])] ∧ d = .tup (([ltQ s (.squares), gtQ s (.squares)].map (twT s (namesQ (.squares)))).map (fun z => .tup (z.map pD)))
theorem w_end_truths_squares (T : Top K w mg) : Fn P w K mg base "end_truths" 5 R_end_truths_squares := by
  refine fn_top T 67 ["sketch", "question", "barred", "found", "taken", "size"] ["sketch", "question"] (by decide) (by decide +kernel) (fun _ _ _ _ _ _ us hl => match us, hl with | [_, _], _ => rfl) (by rintro _ _ ⟨s, hp, rfl, rfl⟩; rfl) ?_
  intro X gf eP ew eK em eb ds d hR
  subst eP ew eK em eb
  obtain ⟨s, hp, rfl, rfl⟩ := hR
  have hsc := Eq.refl (defScope (top 67))
  conv at hsc => rhs; whnf
  rw [hsc] at gf
  have g := gf.g
  refine .inl (?_ : Dos X _ [.fz (.tup [(.int s.room), (.int s.many), (.int s.off), (.tup (s.kept.map pD))]), .fz (.tup [(.str "squares")]), .un, .un, .un, .un] (.rt (.tup (([ltQ s (.squares), gtQ s (.squares)].map (twT s (namesQ (.squares)))).map (fun z => .tup (z.map pD))))))
  exact s_out (s_cons (s_expr (f_call g (d := .non) (w_check_sketch T) (by decide) (a_cons (f_name g 0) a_nil) ⟨_, hp.1, rfl, rfl⟩)) <| s_cons (s_expr (f_call g (d := .non) (w_check_question_squares T) (by decide) (a_cons (f_name g 1) a_nil) ⟨hp.2.1, rfl, rfl⟩)) <| s_cons (s_expr (f_call g (d := .non) (w_check_told T) (by decide) (a_cons (f_name g 0) a_nil) ⟨_, hp.1, rfl, rfl⟩)) <| s_cons (s_set gf 2 (f_call g (d := (.tup ((namesQ (.squares)).map D.str))) (w_named_by_squares T) (by decide) (a_cons (f_name g 1) a_nil) ⟨rfl, rfl⟩)) <| s_cons (s_new gf 3 (n_lst a_nil (by simp))) <| s_cons (s_for gf (xs := [ltQ s (.squares), gtQ s (.squares)]) (rs := (fun i1 => [.fz (.tup [(.int s.room), (.int s.many), (.int s.off), (.tup (s.kept.map pD))]), .fz (.tup [(.str "squares")]), .fz (.tup ((namesQ (.squares)).map D.str)), .ow (.lst ((([ltQ s (.squares), gtQ s (.squares)].take i1).map (twT s (namesQ (.squares)))).map (fun z => .tup (z.map pD)))), .un, .un])) (if_tup (xs := [ltQ s (.squares), gtQ s (.squares)]) (enc := (fun z => .tup [.lst (z.1.map pD), .int z.2])) (f_tup (a_cons (f_call g (d := (.tup [(.lst (((ltQ s (.squares : Qn)).1).map pD)), (.int ((ltQ s (.squares : Qn)).2))])) (w_least_taken_squares T) (by decide) (a_cons (f_name g 0) (a_cons (f_name g 1) a_nil)) ⟨_, ⟨hp.1, hp.2.1⟩, rfl, rfl⟩) (a_cons (f_call g (d := (.tup [(.lst (((gtQ s (.squares : Qn)).1).map pD)), (.int ((gtQ s (.squares : Qn)).2))])) (w_greatest_taken_squares T) (by decide) (a_cons (f_name g 0) (a_cons (f_name g 1) a_nil)) ⟨_, ⟨hp.1, hp.2.1⟩, rfl, rfl⟩) a_nil)) (by simp))) (by repeat (first | exact trivial | refine ⟨.inr rfl, ?_⟩ | refine ⟨.inl rfl, ?_⟩)) (gf.pg2 4 5) (fun _ _ _ => tx_pair 4 5) (fun i1 x2 hx3 => s_to (s_le (ρ2 := [.fz (.tup [(.int s.room), (.int s.many), (.int s.off), (.tup (s.kept.map pD))]), .fz (.tup [(.str "squares")]), .fz (.tup ((namesQ (.squares)).map D.str)), .ow (.lst (((([ltQ s (.squares), gtQ s (.squares)].take i1).map (twT s (namesQ (.squares)))) ++ [twT s (namesQ (.squares)) x2]).map (fun z => .tup (z.map pD)))), .un, .un]) (s_cons (s_app (ds := ((([ltQ s (.squares), gtQ s (.squares)].take i1).map (twT s (namesQ (.squares)))).map (fun z => .tup (z.map pD)))) g 3 (f_call g (d := (.tup ((twT s (namesQ (.squares)) x2).map pD))) (w_truth_with T) (by decide) (a_cons (f_name g 0) (a_cons (f_name g 4) (a_cons (f_name g 5) (a_cons (f_name g 2) a_nil)))) ⟨s, x2.1, x2.2, namesQ (.squares), nTw s x2.1 x2.2 (namesQ (.squares)), hp.2.2 x2 (List.mem_of_getElem? hx3), rfl, rfl⟩) (by have := take_len [ltQ s (.squares), gtQ s (.squares)] i1; rw [List.length_map, List.length_map]; simp only [List.length_cons, List.length_nil] at this; omega)) <| s_at (ρ1 := [.fz (.tup [(.int s.room), (.int s.many), (.int s.off), (.tup (s.kept.map pD))]), .fz (.tup [(.str "squares")]), .fz (.tup ((namesQ (.squares)).map D.str)), .ow (.lst (((([ltQ s (.squares), gtQ s (.squares)].take i1).map (twT s (namesQ (.squares)))) ++ [twT s (namesQ (.squares)) x2]).map (fun z => .tup (z.map pD)))), .fz (.lst (x2.1.map pD)), .fz (.int x2.2)]) (s_nil) (by first | (simp only [List.map_append]; done) | (simp only [List.map_append]; rfl)))) (by simp only [take_snoc hx3, List.map_append]; rfl))) <| s_at (ρ1 := [.fz (.tup [(.int s.room), (.int s.many), (.int s.off), (.tup (s.kept.map pD))]), .fz (.tup [(.str "squares")]), .fz (.tup ((namesQ (.squares)).map D.str)), .ow (.lst (([ltQ s (.squares), gtQ s (.squares)].map (twT s (namesQ (.squares)))).map (fun z => .tup (z.map pD)))), .un, .un]) (s_last (s_ret (f_callT g c_tupleL (T.fr "tuple") (av_cons (v_own g 3) av_nil)))) (by rfl)) rfl
def R_check_most : List D → D → Prop := fun ds d => ∃ (m : Int), 0 ≤ m ∧ ds = [(.int m)] ∧ d = .non
theorem w_check_most (T : Top K w mg) : Fn P w K mg base "check_most" 3 R_check_most := by
  refine fn_top T 68 ["thing"] ["thing"] (by decide) (by decide +kernel) (fun _ _ _ _ _ _ us hl => match us, hl with | [_], _ => rfl) (by rintro _ _ ⟨m, hp, rfl, rfl⟩; rfl) ?_
  intro X gf eP ew eK em eb ds d hR
  subst eP ew eK em eb
  obtain ⟨m, hp, rfl, rfl⟩ := hR
  have hsc := Eq.refl (defScope (top 68))
  conv at hsc => rhs; whnf
  rw [hsc] at gf
  have g := gf.g
  exact .inr ⟨rfl, _, (show Dos X (defBody (top 68)) [.fz (.int m)] (.nx _) from s_cons (s_ifn (SemT.is (t_not (t_val (f_call g (d := (.bl (true && decide (0 ≤ m)))) (w_is_count T) (by decide) (a_cons (f_name g 0) a_nil) ⟨_, rfl, rfl⟩))) (by simp [hp]))) <| s_nil)⟩
def saL (s : Sk) (m : Int) : List Str := (s.kept.filter fun z => decide (m < z.2)).map (·.1)
def paL (s : Sk) (m : Int) : List Str := (s.kept.filter fun z => decide (m < z.2 + s.off)).map (·.1)
def R_surely_above : List D → D → Prop := fun ds d => ∃ (s : Sk) (m : Int), (SkOk s ∧ 0 ≤ m) ∧ ds = [(.tup [(.int s.room), (.int s.many), (.int s.off), (.tup (s.kept.map pD))]), (.int m)] ∧ d = .tup ((saL s m).map D.str)
theorem w_surely_above (T : Top K w mg) : Fn P w K mg base "surely_above" 5 R_surely_above := by
  refine fn_top T 69 ["sketch", "most", "name", "number"] ["sketch", "most"] (by decide) (by decide +kernel) (fun _ _ _ _ _ _ us hl => match us, hl with | [_, _], _ => rfl) (by rintro _ _ ⟨s, m, hp, rfl, rfl⟩; rfl) ?_
  intro X gf eP ew eK em eb ds d hR
  subst eP ew eK em eb
  obtain ⟨s, m, hp, rfl, rfl⟩ := hR
  have hsc := Eq.refl (defScope (top 69))
  conv at hsc => rhs; whnf
  rw [hsc] at gf
  have g := gf.g
  refine .inl (?_ : Dos X _ [.fz (.tup [(.int s.room), (.int s.many), (.int s.off), (.tup (s.kept.map pD))]), .fz (.int m), .un, .un] (.rt (.tup ((saL s m).map D.str))))
  exact s_out (s_cons (s_expr (f_call g (d := .non) (w_check_sketch T) (by decide) (a_cons (f_name g 0) a_nil) ⟨_, hp.1, rfl, rfl⟩)) <| s_cons (s_expr (f_call g (d := .non) (w_check_most T) (by decide) (a_cons (f_name g 1) a_nil) ⟨_, hp.2, rfl, rfl⟩)) <| s_last (s_ret (f_callT g c_tupleL (T.fr "tuple") (av_cons (((LcS.n (lc_If g (xs := s.kept) (own := [("name", 2), ("number", 3)]) (out := (fun x1 => (.str x1.1))) (fl := fun x1 => decide (m < x1.2)) (ItS.g (it_tup (((f_ixT (((f_name g 0)).v) (((f_gint g (T.i "KEPT" 3))).v) rfl)).v))) (blkOk_by (by decide +kernel)) (pgb2 g 2 3) (fun _ _ => tg_pair 2 3) (fun _ _ _ _ _ x1 m2 => (t_cmp o_gt (((f_name (g.blk _ _ _ _ _ _) 3)).v) (((f_name (g.blk _ _ _ _ _ _) 1)).v))) (fun _ _ _ _ _ x1 m2 h3 => (f_name (g.blk _ _ _ _ _ _) 2)) (by have := hp.1.co.2.2; omega))).n).v) av_nil)))) (by unfold saL; rw [List.map_map]; rfl)
def R_perhaps_above : List D → D → Prop := fun ds d => ∃ (s : Sk) (m : Int), (SkOk s ∧ 0 ≤ m) ∧ ds = [(.tup [(.int s.room), (.int s.many), (.int s.off), (.tup (s.kept.map pD))]), (.int m)] ∧ d = .tup [.tup ((paL s m).map D.str), .bl (decide (m < s.off))]
theorem w_perhaps_above (T : Top K w mg) : Fn P w K mg base "perhaps_above" 5 R_perhaps_above := by
  refine fn_top T 70 ["sketch", "most", "name", "number"] ["sketch", "most"] (by decide) (by decide +kernel) (fun _ _ _ _ _ _ us hl => match us, hl with | [_, _], _ => rfl) (by rintro _ _ ⟨s, m, hp, rfl, rfl⟩; rfl) ?_
  intro X gf eP ew eK em eb ds d hR
  subst eP ew eK em eb
  obtain ⟨s, m, hp, rfl, rfl⟩ := hR
  have hsc := Eq.refl (defScope (top 70))
  conv at hsc => rhs; whnf
  rw [hsc] at gf
  have g := gf.g
  refine .inl (?_ : Dos X _ [.fz (.tup [(.int s.room), (.int s.many), (.int s.off), (.tup (s.kept.map pD))]), .fz (.int m), .un, .un] (.rt (.tup [.tup ((paL s m).map D.str), .bl (decide (m < s.off))])))
  exact s_out (s_cons (s_expr (f_call g (d := .non) (w_check_sketch T) (by decide) (a_cons (f_name g 0) a_nil) ⟨_, hp.1, rfl, rfl⟩)) <| s_cons (s_expr (f_call g (d := .non) (w_check_most T) (by decide) (a_cons (f_name g 1) a_nil) ⟨_, hp.2, rfl, rfl⟩)) <| s_last (s_ret (f_tup (a_cons (f_callT g c_tupleL (T.fr "tuple") (av_cons (((LcS.n (lc_If g (xs := s.kept) (own := [("name", 2), ("number", 3)]) (out := (fun x1 => (.str x1.1))) (fl := fun x1 => decide (m < (x1.2 + s.off))) (ItS.g (it_tup (((f_ixT (((f_name g 0)).v) (((f_gint g (T.i "KEPT" 3))).v) rfl)).v))) (blkOk_by (by decide +kernel)) (pgb2 g 2 3) (fun _ _ => tg_pair 2 3) (fun _ _ _ _ _ x1 m2 => (t_cmp o_gt (((f_op o_add (((f_name (g.blk _ _ _ _ _ _) 3)).v) (((f_ixT (((f_name (g.blk _ _ _ _ _ _) 0)).v) (((f_gint (g.blk _ _ _ _ _ _) (T.i "OFF" 2))).v) rfl)).v))).v) (((f_name (g.blk _ _ _ _ _ _) 1)).v))) (fun _ _ _ _ _ x1 m2 h3 => (f_name (g.blk _ _ _ _ _ _) 2)) (by have := hp.1.co.2.2; omega))).n).v) av_nil)) (a_cons (f_cmp o_gt (((f_ixT (((f_name g 0)).v) (((f_gint g (T.i "OFF" 2))).v) rfl)).v) (((f_name g 1)).v)) a_nil)) (by simp)))) (by unfold paL; rw [List.map_map]; rfl)
theorem bcL_at {s : Sk} {i : Nat} (h : i < (bcL s).length) : atI (bcL s) (i : Int) = some ((bcL s).getD i "") := atI_getD h
theorem bcL_get {s : Sk} {i : Nat} (h : i < (bcL s).length) : dgo s.kept ((bcL s).getD i "") = some ((dgo s.kept ((bcL s).getD i "")).getD 0) := by
  refine dgo_isSome (bcL_mem.mp ?_)
  rw [List.getD_eq_getElem?_getD, List.getElem?_eq_getElem h]
  exact List.getElem_mem h
def R_surely_first : List D → D → Prop := fun ds d => ∃ (s : Sk), SkOk s ∧ ds = [(.tup [(.int s.room), (.int s.many), (.int s.off), (.tup (s.kept.map pD))])] ∧ d = (if (decide (((bcL s).length : Int) = 0)) = true then D.non else (if (decide (((if (decide (1 < ((bcL s).length : Int))) = true then (dgo s.kept ((bcL s).getD 1 "")).getD 0 else 0) + s.off) < ((dgo s.kept ((bcL s).getD 0 "")).getD 0))) = true then (D.str ((bcL s).getD 0 "")) else D.non))
theorem w_surely_first (T : Top K w mg) : Fn P w K mg base "surely_first" 5 R_surely_first := by
  refine fn_top T 71 ["sketch", "names", "kept", "second"] ["sketch"] (by decide) (by decide +kernel) (fun _ _ _ _ _ _ us hl => match us, hl with | [_], _ => rfl) (by rintro _ _ ⟨s, hp, rfl, rfl⟩; rfl) ?_
  intro X gf eP ew eK em eb ds d hR
  subst eP ew eK em eb
  obtain ⟨s, hp, rfl, rfl⟩ := hR
  have hsc := Eq.refl (defScope (top 71))
  conv at hsc => rhs; whnf
  rw [hsc] at gf
  have g := gf.g
  refine .inl (?_ : Dos X _ [.fz (.tup [(.int s.room), (.int s.many), (.int s.off), (.tup (s.kept.map pD))]), .un, .un, .un] (.rt (if (decide (((bcL s).length : Int) = 0)) = true then D.non else (if (decide (((if (decide (1 < ((bcL s).length : Int))) = true then (dgo s.kept ((bcL s).getD 1 "")).getD 0 else 0) + s.off) < ((dgo s.kept ((bcL s).getD 0 "")).getD 0))) = true then (D.str ((bcL s).getD 0 "")) else D.non))))
  exact s_cons (s_expr (f_call g (d := .non) (w_check_sketch T) (by decide) (a_cons (f_name g 0) a_nil) ⟨_, hp, rfl, rfl⟩)) <| s_cons (s_set gf 1 (f_call g (d := (.lst ((bcL s).map D.str))) (w_by_counts T) (by decide) (a_cons (f_name g 0) a_nil) ⟨_, hp, rfl, rfl⟩)) <| s_ifr (d := (if (decide (((bcL s).length : Int) = 0)) = true then D.non else (if (decide (((if (decide (1 < ((bcL s).length : Int))) = true then (dgo s.kept ((bcL s).getD 1 "")).getD 0 else 0) + s.off) < ((dgo s.kept ((bcL s).getD 0 "")).getD 0))) = true then (D.str ((bcL s).getD 0 "")) else D.non))) (t_cmp o_eqI (((f_callB g c_lenLM (T.fr "len") (av_cons (((f_name g 1)).v) av_nil))).v) ((f_int).v)) (fun c1 => s_out (s_last (s_ret f_non)) (by simp only [if_pos c1])) (fun c1 => s_out (s_cons (s_new gf 2 (SemN.is (d' := (.dct s.kept)) (n_callT g (c_dictT g (kvs := s.kept)) (T.fr "dict") (av_cons (((f_ixT (((f_name g 0)).v) (((f_gint g (T.i "KEPT" 3))).v) rfl)).v) av_nil)) (by rw [mergeI_nil hp.co.2.1.nd]))) <| s_cons (s_set gf 3 (f_ite (d := (.int (if (decide (1 < ((bcL s).length : Int))) = true then (dgo s.kept ((bcL s).getD 1 "")).getD 0 else 0))) (t_cmp o_gt (((f_callB g c_lenLM (T.fr "len") (av_cons (((f_name g 1)).v) av_nil))).v) ((f_int).v)) (fun h2 => SemF.is (f_ixD g (v_own g 2) (((f_ixL (((f_name g 1)).v) ((f_int).v) (at_map (xs := bcL s) (enc := D.str) (bcL_at (i := 1) (by have := of_decide_eq_true h2; omega))))).v) (bcL_get (i := 1) (by have := of_decide_eq_true h2; omega))) (by rw [h2]; rfl)) (fun h2 => SemF.is f_int (by rw [h2]; rfl)))) <| s_last (s_ret (f_ite (d := (if (decide (((if (decide (1 < ((bcL s).length : Int))) = true then (dgo s.kept ((bcL s).getD 1 "")).getD 0 else 0) + s.off) < ((dgo s.kept ((bcL s).getD 0 "")).getD 0))) = true then (D.str ((bcL s).getD 0 "")) else D.non)) (t_cmp o_gt (((f_ixD g (v_own g 2) (((f_ixL (((f_name g 1)).v) ((f_int).v) (at_map (xs := bcL s) (enc := D.str) (bcL_at (i := 0) (by have := of_decide_eq_false c1; omega))))).v) (bcL_get (i := 0) (by have := of_decide_eq_false c1; omega)))).v) (((f_op o_add (((f_name g 3)).v) (((f_ixT (((f_name g 0)).v) (((f_gint g (T.i "OFF" 2))).v) rfl)).v))).v)) (fun h3 => SemF.is (f_ixL (((f_name g 1)).v) ((f_int).v) (at_map (xs := bcL s) (enc := D.str) (bcL_at (i := 0) (by have := of_decide_eq_false c1; omega)))) (by rw [h3]; rfl)) (fun h3 => SemF.is f_non (by rw [h3]; rfl))))) (by simp only [c1, Bool.false_eq_true, if_false]))
def R_perhaps_first : List D → D → Prop := fun ds d => ∃ (s : Sk), SkOk s ∧ ds = [(.tup [(.int s.room), (.int s.many), (.int s.off), (.tup (s.kept.map pD))])] ∧ d = (.tup [(if (decide (s.many = 0)) = true then (D.tup []) else (D.tup ((s.kept.filter fun x4 => decide ((maxL ((List.map (fun (z : Str × Int) => z.2) s.kept) ++ [0])) ≤ (x4.2 + s.off))).map (fun z => (.str z.1))))), (.bl (if (decide (s.many = 0)) = true then false else (decide (0 < s.off) && decide ((maxL ((List.map (fun (z : Str × Int) => z.2) s.kept) ++ [0])) ≤ s.off))))])
theorem w_perhaps_first (T : Top K w mg) : Fn P w K mg base "perhaps_first" 5 R_perhaps_first := by
  refine fn_top T 72 ["sketch", "top", "name", "number"] ["sketch"] (by decide) (by decide +kernel) (fun _ _ _ _ _ _ us hl => match us, hl with | [_], _ => rfl) (by rintro _ _ ⟨s, hp, rfl, rfl⟩; rfl) ?_
  intro X gf eP ew eK em eb ds d hR
  subst eP ew eK em eb
  obtain ⟨s, hp, rfl, rfl⟩ := hR
  have hsc := Eq.refl (defScope (top 72))
  conv at hsc => rhs; whnf
  rw [hsc] at gf
  have g := gf.g
  refine .inl (?_ : Dos X _ [.fz (.tup [(.int s.room), (.int s.many), (.int s.off), (.tup (s.kept.map pD))]), .un, .un, .un] (.rt (.tup [(if (decide (s.many = 0)) = true then (D.tup []) else (D.tup ((s.kept.filter fun x4 => decide ((maxL ((List.map (fun (z : Str × Int) => z.2) s.kept) ++ [0])) ≤ (x4.2 + s.off))).map (fun z => (.str z.1))))), (.bl (if (decide (s.many = 0)) = true then false else (decide (0 < s.off) && decide ((maxL ((List.map (fun (z : Str × Int) => z.2) s.kept) ++ [0])) ≤ s.off))))])))
  exact s_cons (s_expr (f_call g (d := .non) (w_check_sketch T) (by decide) (a_cons (f_name g 0) a_nil) ⟨_, hp, rfl, rfl⟩)) <| s_ifr (d := (.tup [(if (decide (s.many = 0)) = true then (D.tup []) else (D.tup ((s.kept.filter fun x4 => decide ((maxL ((List.map (fun (z : Str × Int) => z.2) s.kept) ++ [0])) ≤ (x4.2 + s.off))).map (fun z => (.str z.1))))), (.bl (if (decide (s.many = 0)) = true then false else (decide (0 < s.off) && decide ((maxL ((List.map (fun (z : Str × Int) => z.2) s.kept) ++ [0])) ≤ s.off))))])) (t_cmp o_eqI (((f_ixT (((f_name g 0)).v) (((f_gint g (T.i "MANY" 1))).v) rfl)).v) ((f_int).v)) (fun c1 => s_out (s_last (s_ret (f_tup (a_cons (f_tup a_nil (by simp)) (a_cons f_bl a_nil)) (by simp)))) (by simp only [if_pos c1])) (fun c1 => s_out (s_cons (s_set gf 1 (f_callB g (c_maxL g (ns := (List.map (fun (z : Str × Int) => z.2) s.kept) ++ [0]) (by simp)) (T.fr "max") (av_cons (((SemN.is (d' := (.lst (((List.map (fun (z : Str × Int) => z.2) s.kept) ++ [0]).map D.int))) (n_cat (ds := (List.map (fun (z : Str × Int) => (D.int z.2)) s.kept)) (es := [(.int 0)]) ((LcS.n (lc_G g (xs := s.kept) (own := [("name", 2), ("number", 3)]) (out := (fun x2 => (.int x2.2))) (ItS.g (it_tup (((f_ixT (((f_name g 0)).v) (((f_gint g (T.i "KEPT" 3))).v) rfl)).v))) (blkOk_by (by decide +kernel)) (pgb2 g 2 3) (fun _ _ => tg_pair 2 3) (fun _ _ _ _ _ x2 m3 => (f_name (g.blk _ _ _ _ _ _) 3)) (by have := hp.co.2.2; omega))).n) (n_lst (a_cons f_int a_nil) (by simp)) (by have := hp.co.2.2; simp only [List.length_map, List.length_cons, List.length_nil]; omega)) (by simp only [List.map_append, List.map_map]; rfl))).v) av_nil))) <| s_last (s_ret (f_tup (a_cons (f_callT g c_tupleL (T.fr "tuple") (av_cons (((LcS.n (lc_If g (xs := s.kept) (own := [("name", 2), ("number", 3)]) (out := (fun x4 => (.str x4.1))) (fl := fun x4 => decide ((maxL ((List.map (fun (z : Str × Int) => z.2) s.kept) ++ [0])) ≤ (x4.2 + s.off))) (ItS.g (it_tup (((f_ixT (((f_name g 0)).v) (((f_gint g (T.i "KEPT" 3))).v) rfl)).v))) (blkOk_by (by decide +kernel)) (pgb2 g 2 3) (fun _ _ => tg_pair 2 3) (fun _ _ _ _ _ x4 m5 => (t_cmp o_ge (((f_op o_add (((f_name (g.blk _ _ _ _ _ _) 3)).v) (((f_ixT (((f_name (g.blk _ _ _ _ _ _) 0)).v) (((f_gint (g.blk _ _ _ _ _ _) (T.i "OFF" 2))).v) rfl)).v))).v) (((f_name (g.blk _ _ _ _ _ _) 1)).v))) (fun _ _ _ _ _ x4 m5 h6 => (f_name (g.blk _ _ _ _ _ _) 2)) (by have := hp.co.2.2; omega))).n).v) av_nil)) (a_cons (f_chain o_lt (fun h7 => o_ge) ((f_int).v) (((f_ixT (((f_name g 0)).v) (((f_gint g (T.i "OFF" 2))).v) rfl)).v) (((f_name g 1)).v) (d' := ⟨_, op_ge⟩)) a_nil)) (by simp)))) (by simp only [c1, Bool.false_eq_true, if_false]))
end
end KD

set_option Elab.async false
set_option linter.all false
set_option maxRecDepth 100000
set_option maxHeartbeats 2000000
namespace KD
open PySem PySem.Spec PyProof.Rows L2
local instance : Vol := volNone
section
variable {P : Program} {w : World} {K : PySem.W.Frag} {mg : Str → Option Value} {base : Heap}

def stpN : Stp → Nat
  | .stream ns => ns.length
  | .pour => 0
def TreeOk (tree : List Stp) : Prop := (tree.map stpN).sum ≤ 5000
theorem cnt_len : ∀ (tree : List Stp) (d : List (Str × Int)), (tree.foldl cntS d).length ≤ d.length + (tree.map stpN).sum
  | [], d => Nat.le_refl _
  | .stream ns :: r, d => by
    rw [List.foldl_cons, List.map_cons, List.sum_cons]
    have h1 := cnt_len r (cntS d (.stream ns))
    have h2 := cntF ns d
    have h3 : cntS d (.stream ns) = ns.foldl cntStep d := rfl
    have h4 : stpN (.stream ns) = ns.length := rfl
    rw [h3] at h1
    rw [h3]
    omega
  | .pour :: r, d => by
    rw [List.foldl_cons, List.map_cons, List.sum_cons]
    have h1 := cnt_len r d
    have h3 : cntS d .pour = d := rfl
    have h4 : stpN .pour = 0 := rfl
    rw [h3]
    omega
theorem stp_sum_le {tree : List Stp} (i : Nat) : ((tree.take i).map stpN).sum ≤ (tree.map stpN).sum := by
  have h : (tree.map stpN).sum = ((tree.take i).map stpN).sum + ((tree.drop i).map stpN).sum := by
    rw [← List.sum_append, ← List.map_append, List.take_append_drop]
  omega
theorem stp_sum_at {tree : List Stp} {i : Nat} {x : Stp} (h : tree[i]? = some x) : ((tree.take i).map stpN).sum + stpN x ≤ (tree.map stpN).sum := by
  have h1 := stp_sum_le (tree := tree) (i + 1)
  rw [take_snoc h, List.map_append, List.sum_append] at h1
  simpa using h1
def R_law_counted : List D → D → Prop := fun ds d => ∃ (tree : List Stp), TreeOk tree ∧ ds = [(.tup (tree.map stpD))] ∧ d = .dct (countedL tree)
theorem w_law_counted (T : Top K w mg) : Fn P w K mg base "_law_counted" 1 R_law_counted := by
  refine fn_top T 77 ["_law_tree", "_law_found", "_law_step", "_law_name"] ["_law_tree"] (by decide) (by decide +kernel) (fun _ _ _ _ _ _ us hl => match us, hl with | [_], _ => rfl) (by rintro _ _ ⟨tree, hp, rfl, rfl⟩; rfl) ?_
  intro X gf eP ew eK em eb ds d hR
  subst eP ew eK em eb
  obtain ⟨tree, hp, rfl, rfl⟩ := hR
  have hsc := Eq.refl (defScope (top 77))
  conv at hsc => rhs; whnf
  rw [hsc] at gf
  have g := gf.g
  refine .inl (?_ : Dos X _ [.fz (.tup (tree.map stpD)), .un, .un, .un] (.rt (.dct (countedL tree))))
  exact s_out (s_cons (s_new gf 1 n_dnew) <| s_cons (s_for gf (xs := tree) (rs := (fun i1 => [.fz (.tup (tree.map stpD)), .ow (.dct ((tree.take i1).foldl cntS [])), .un, .un])) (if_tup (xs := tree) (enc := stpD) (f_name g 0)) (by repeat (first | exact trivial | refine ⟨.inr rfl, ?_⟩ | refine ⟨.inl rfl, ?_⟩)) (gf.pg (j := 2) rfl rfl) (fun _ _ _ => tx_name 2) (fun i1 x2 hx3 => match x2, hx3 with | .stream ns, hx3 => s_to (s_le (ρ2 := [.fz (.tup (tree.map stpD)), .ow (.dct (ns.foldl cntStep ((tree.take i1).foldl cntS []))), .un, .un]) (s_cons (s_if (SemT.is (b := decide (((List.length ([(.str "stream"), (.tup (ns.map D.str))] : List D) : Nat) : Int) = 2)) (b' := true) (t_cmp o_eqI (((f_callB g c_lenT (T.fr "len") (av_cons (((f_name g 2)).v) av_nil))).v) ((f_int).v)) (by first | rfl | simp)) (fun _ => s_cons (s_for gf (xs := ns) (rs := (fun i5 => [.fz (.tup (tree.map stpD)), .ow (.dct ((ns.take i5).foldl cntStep ((tree.take i1).foldl cntS []))), .fz (.tup [(.str "stream"), (.tup (ns.map D.str))]), .un])) (if_tup (xs := ns) (enc := D.str) (f_ixT (((f_name g 2)).v) ((f_int).v) rfl)) (by repeat (first | exact trivial | refine ⟨.inr rfl, ?_⟩ | refine ⟨.inl rfl, ?_⟩)) (gf.pg (j := 3) rfl rfl) (fun _ _ _ => tx_name 3) (fun i5 x6 hx7 => s_to (s_le (ρ2 := [.fz (.tup (tree.map stpD)), .ow (.dct (putI ((ns.take i5).foldl cntStep ((tree.take i1).foldl cntS [])) x6 (((dgo ((ns.take i5).foldl cntStep ((tree.take i1).foldl cntS [])) x6).getD 0) + 1))), .fz (.tup [(.str "stream"), (.tup (ns.map D.str))]), .un]) (s_cons (s_dput (kvs := (ns.take i5).foldl cntStep ((tree.take i1).foldl cntS [])) g 1 (((f_op o_add (((f_get g (v_own g 1) (((f_name g 3)).v) ((f_int).v))).v) ((f_int).v))).v) (((f_name g 3)).v) (by have h1 := cnt_len (tree.take i1) []; have h2 := stp_sum_at hx3; have h3 := cntF (ns.take i5) ((tree.take i1).foldl cntS []); have h4 := take_len ns i5; have h5 : (tree.map stpN).sum ≤ 5000 := hp; have h6 : stpN (.stream ns) = ns.length := rfl; simp only [List.length_nil] at h1; omega)) <| s_nil)) (by rw [foldl_take hx7]; rfl))) <| s_at (ρ1 := [.fz (.tup (tree.map stpD)), .ow (.dct (ns.foldl cntStep ((tree.take i1).foldl cntS []))), .fz (.tup [(.str "stream"), (.tup (ns.map D.str))]), .un]) (s_nil) (by rw [List.take_length])) (fun z => nomatch z)) <| s_nil)) (by rw [foldl_take hx3]; rfl) | .pour, hx3 => s_to (s_le (ρ2 := [.fz (.tup (tree.map stpD)), .ow (.dct ((tree.take i1).foldl cntS [])), .un, .un]) (s_cons (s_ifn (SemT.is (b := decide (((List.length ([(.str "pour")] : List D) : Nat) : Int) = 2)) (b' := false) (t_cmp o_eqI (((f_callB g c_lenT (T.fr "len") (av_cons (((f_name g 2)).v) av_nil))).v) ((f_int).v)) (by first | rfl | simp))) <| s_nil)) (by rw [foldl_take hx3]; rfl))) <| s_at (ρ1 := [.fz (.tup (tree.map stpD)), .ow (.dct (countedL tree)), .un, .un]) (s_frz 1 rfl <| s_last (s_ret (f_name g 1))) (by unfold countedL; rw [List.take_length])) rfl
def R_law_fed : List D → D → Prop := fun ds d => ∃ (room : Int) (a : Int × List (Str × Int)) (n : Str), ((a.2.map (·.1)).Nodup ∧ a.2.length ≤ 100000) ∧ ds = [(.int room), (.tup [(.int a.1), (.dct a.2)]), (.str n)] ∧ d = .tup [.int (fedL room a n).1, .dct (fedL room a n).2]
theorem w_law_fed (T : Top K w mg) : Fn P w K mg base "_law_fed" 1 R_law_fed := by
  refine fn_top T 78 ["_law_room", "_law_state", "_law_name", "_law_later", "_law_off", "_law_counts", "_law_other"] ["_law_room", "_law_state", "_law_name"] (by decide) (by decide +kernel) (fun _ _ _ _ _ _ us hl => match us, hl with | [_, _, _], _ => rfl) (by rintro _ _ ⟨room, a, n, hp, rfl, rfl⟩; rfl) ?_
  intro X gf eP ew eK em eb ds d hR
  subst eP ew eK em eb
  obtain ⟨room, a, n, hp, rfl, rfl⟩ := hR
  have hsc := Eq.refl (defScope (top 78))
  conv at hsc => rhs; whnf
  rw [hsc] at gf
  have g := gf.g
  refine .inl (?_ : Dos X _ [.fz (.int room), .fz (.tup [(.int a.1), (.dct a.2)]), .fz (.str n), .un, .un, .un, .un] (.rt (.tup [.int (fedL room a n).1, .dct (fedL room a n).2])))
  exact s_out (s_cons (s_asg (f_name g 1) (gf.pg2 4 5) (tx_pair 4 5)) <| s_cons (s_new gf 3 (n_callT g c_dictD (T.fr "dict") (av_cons (((f_name g 5)).v) av_nil))) <| s_ifr (d := (.tup [(.int (if (((dgo a.2 n).isSome) || (decide ((a.2.length : Int) < room))) = true then a.1 else a.1 + 1)), (if (((dgo a.2 n).isSome) || (decide ((a.2.length : Int) < room))) = true then (D.dct (putI a.2 n (((dgo a.2 n).getD 0) + 1))) else (D.dct ((a.2.filter fun x3 => decide (1 < x3.2)).map fun z => (z.1, z.2 - 1))))])) (SemW.t (w_or (t_inD g (((f_name g 2)).v) (v_own g 3)) fun h1 => (w_or1 (t_cmp o_lt (((f_callB g c_lenD (T.fr "len") (av_cons (v_own g 3) av_nil))).v) (((f_name g 0)).v))))) (fun c2 => s_out (s_cons (s_dput (kvs := a.2) g 3 (((f_op o_add (((f_get g (v_own g 3) (((f_name g 2)).v) ((f_int).v))).v) ((f_int).v))).v) (((f_name g 2)).v) (by have := hp.2; omega)) <| s_frz 3 rfl <| s_last (s_ret (f_tup (a_cons (f_name g 4) (a_cons (f_name g 3) a_nil)) (by simp)))) (by simp only [if_pos c2])) (fun c2 => s_out (s_last (s_ret (f_tup (a_cons (f_op o_add (((f_name g 4)).v) ((f_int).v)) (a_cons (((SemN.is (d' := (.dct ((a.2.filter fun x3 => decide (1 < x3.2)).map fun z => (z.1, z.2 - 1)))) (n_callT g (c_dictL g (kvs := (a.2.filter fun x3 => decide (1 < x3.2)).map fun z => (z.1, z.2 - 1))) (T.fr "dict") (av_cons (((((SemNG.lock (d_own g 3) (LcS.n (lc_If g (xs := a.2) (own := [("_law_other", 6)]) (out := (fun x3 => (.tup [(.str x3.1), (.int (x3.2 - 1))]))) (fl := fun x3 => decide (1 < x3.2)) it_keysI (blkOk_by (by decide +kernel)) (pgb g 6) (fun _ _ => tg_name 6) (fun _ _ _ _ _ x3 m4 => (t_cmp o_gt (((f_ixD (g.blk _ _ _ _ _ _) (v_own (g.blk _ _ _ _ _ _) 3) (((f_name (g.blk _ _ _ _ _ _) 6)).v) (dgo_mem hp.1 m4))).v) ((f_int).v))) (fun _ _ _ _ _ x3 m4 h5 => (f_tup (a_cons (f_name (g.blk _ _ _ _ _ _) 6) (a_cons (f_op o_sub (((f_ixD (g.blk _ _ _ _ _ _) (v_own (g.blk _ _ _ _ _ _) 3) (((f_name (g.blk _ _ _ _ _ _) 6)).v) (dgo_mem hp.1 m4))).v) ((f_int).v)) a_nil)) (by simp))) (by have := hp.2; omega))))).is (map_pD (fun (z : Str × Int) => (z.1, z.2 - 1))))).v) av_nil)) (by rw [mergeI_nil (map_keys hp.1)]))).f) a_nil)) (by simp)))) (by simp only [c2, Bool.false_eq_true, if_false]))) (by unfold fedL; split <;> rfl)
def R_law_poured : List D → D → Prop := fun ds d => ∃ (room : Int) (a b : Int × List (Str × Int)), ((a.2.map (·.1)).Nodup ∧ (b.2.map (·.1)).Nodup ∧ 0 ≤ room ∧ a.2.length + b.2.length ≤ 100000) ∧ ds = [(.int room), (.tup [(.int a.1), (.dct a.2)]), (.tup [(.int b.1), (.dct b.2)])] ∧ d = .tup [.int (pouredL room a b).1, .dct (pouredL room a b).2]
theorem w_law_poured (T : Top K w mg) : Fn P w K mg base "_law_poured" 1 R_law_poured := by
  refine fn_top T 79 ["_law_room", "_law_one", "_law_other", "_law_counts", "_law_name", "_law_falling", "_law_taken", "_law_left"] ["_law_room", "_law_one", "_law_other"] (by decide) (by decide +kernel) (fun _ _ _ _ _ _ us hl => match us, hl with | [_, _, _], _ => rfl) (by rintro _ _ ⟨room, a, b, hp, rfl, rfl⟩; rfl) ?_
  intro X gf eP ew eK em eb ds d hR
  subst eP ew eK em eb
  obtain ⟨room, a, b, hp, rfl, rfl⟩ := hR
  have hsc := Eq.refl (defScope (top 79))
  conv at hsc => rhs; whnf
  rw [hsc] at gf
  have g := gf.g
  refine .inl (?_ : Dos X _ [.fz (.int room), .fz (.tup [(.int a.1), (.dct a.2)]), .fz (.tup [(.int b.1), (.dct b.2)]), .un, .un, .un, .un, .un] (.rt (.tup [.int (pouredL room a b).1, .dct (pouredL room a b).2])))
  exact s_out (s_cons (s_new gf 3 (n_callT g c_dictD (T.fr "dict") (av_cons (((f_ixT (((f_name g 1)).v) ((f_int).v) rfl)).v) av_nil))) <| s_cons (s_forK gf (kvs := b.2) (rs := (fun i1 => [.fz (.int room), .fz (.tup [(.int a.1), (.dct a.2)]), .fz (.tup [(.int b.1), (.dct b.2)]), .ow (.dct (pourD a.2 (b.2.take i1))), .un, .un, .un, .un])) (df_item g 2 (j := 1) rfl (fun H Q q σ => peR pe_int q)) (by repeat (first | exact trivial | refine ⟨.inr rfl, ?_⟩ | refine ⟨.inl rfl, ?_⟩)) (gf.pg (j := 4) rfl rfl) (fun _ _ _ => tx_name 4) (fun i1 x2 hx3 => s_to (s_le (ρ2 := [.fz (.int room), .fz (.tup [(.int a.1), (.dct a.2)]), .fz (.tup [(.int b.1), (.dct b.2)]), .ow (.dct (putI (pourD a.2 (b.2.take i1)) x2.1 (((dgo (pourD a.2 (b.2.take i1)) x2.1).getD 0) + x2.2))), .un, .un, .un, .un]) (s_cons (s_dput (kvs := pourD a.2 (b.2.take i1)) g 3 (((f_op o_add (((f_get g (v_own g 3) (((f_name g 4)).v) ((f_int).v))).v) (((f_ixD g (((f_ixT (((f_name g 2)).v) ((f_int).v) rfl)).v) (((f_name g 4)).v) (dgo_mem hp.2.1 (List.mem_of_getElem? hx3)))).v))).v) (((f_name g 4)).v) (by have h1 := pourD_len a.2 (b.2.take i1); have h2 := take_len b.2 i1; have := hp.2.2.2; omega)) <| s_nil)) (by unfold pourD; rw [foldl_take hx3]))) <| s_at (ρ1 := [.fz (.int room), .fz (.tup [(.int a.1), (.dct a.2)]), .fz (.tup [(.int b.1), (.dct b.2)]), .ow (.dct (pourD a.2 b.2)), .un, .un, .un, .un]) (s_cons (s_new gf 5 (n_callB g (c_srtIM g) (T.fr "sorted") (av_cons (((SemNG.lock (d_own g 3) (LcS.n (lc_G g (xs := pourD a.2 b.2) (own := [("_law_name", 4)]) (out := (fun x4 => (.int (-x4.2)))) it_keysI (blkOk_by (by decide +kernel)) (pgb g 4) (fun _ _ => tg_name 4) (fun _ _ _ _ _ x4 m5 => (f_neg (((f_ixD (g.blk _ _ _ _ _ _) (v_own (g.blk _ _ _ _ _ _) 3) (((f_name (g.blk _ _ _ _ _ _) 4)).v) (dgo_mem (pourD_nd hp.1) m5))).v))) (by have h1 := pourD_len a.2 b.2; have := hp.2.2.2; omega))))).v) av_nil))) <| s_cons (s_set gf 6 (f_ite (d := (.int (if (decide (room < ((srtI ((pourD a.2 b.2).map fun z => -z.2)).length : Int))) = true then -((srtI ((pourD a.2 b.2).map fun z => -z.2)).getD room.toNat 0) else 0))) (t_cmp o_gt (((f_callB g c_lenLM (T.fr "len") (av_cons (v_own g 5) av_nil))).v) (((f_name g 0)).v)) (fun h6 => SemF.is (f_neg (((f_ixL (v_own g 5) (((f_name g 0)).v) (at_map (xs := srtI ((pourD a.2 b.2).map fun z => -z.2)) (enc := D.int) (atI_getI hp.2.2.1 (of_decide_eq_true h6))))).v)) (by rw [h6]; rfl)) (fun h6 => SemF.is f_int (by rw [h6]; rfl)))) <| s_cons (s_new gf 7 (SemN.is (d' := (.dct (((pourD a.2 b.2).filter fun x7 => decide ((if (decide (room < ((srtI ((pourD a.2 b.2).map fun z => -z.2)).length : Int))) = true then -((srtI ((pourD a.2 b.2).map fun z => -z.2)).getD room.toNat 0) else 0) < x7.2)).map fun z => (z.1, z.2 - (if (decide (room < ((srtI ((pourD a.2 b.2).map fun z => -z.2)).length : Int))) = true then -((srtI ((pourD a.2 b.2).map fun z => -z.2)).getD room.toNat 0) else 0))))) (n_callT g (c_dictL g (kvs := ((pourD a.2 b.2).filter fun x7 => decide ((if (decide (room < ((srtI ((pourD a.2 b.2).map fun z => -z.2)).length : Int))) = true then -((srtI ((pourD a.2 b.2).map fun z => -z.2)).getD room.toNat 0) else 0) < x7.2)).map fun z => (z.1, z.2 - (if (decide (room < ((srtI ((pourD a.2 b.2).map fun z => -z.2)).length : Int))) = true then -((srtI ((pourD a.2 b.2).map fun z => -z.2)).getD room.toNat 0) else 0)))) (T.fr "dict") (av_cons (((((SemNG.lock (d_own g 3) (LcS.n (lc_If g (xs := pourD a.2 b.2) (own := [("_law_name", 4)]) (out := (fun x7 => (.tup [(.str x7.1), (.int (x7.2 - (if (decide (room < ((srtI ((pourD a.2 b.2).map fun z => -z.2)).length : Int))) = true then -((srtI ((pourD a.2 b.2).map fun z => -z.2)).getD room.toNat 0) else 0)))]))) (fl := fun x7 => decide ((if (decide (room < ((srtI ((pourD a.2 b.2).map fun z => -z.2)).length : Int))) = true then -((srtI ((pourD a.2 b.2).map fun z => -z.2)).getD room.toNat 0) else 0) < x7.2)) it_keysI (blkOk_by (by decide +kernel)) (pgb g 4) (fun _ _ => tg_name 4) (fun _ _ _ _ _ x7 m8 => (t_cmp o_gt (((f_ixD (g.blk _ _ _ _ _ _) (v_own (g.blk _ _ _ _ _ _) 3) (((f_name (g.blk _ _ _ _ _ _) 4)).v) (dgo_mem (pourD_nd hp.1) m8))).v) (((f_name (g.blk _ _ _ _ _ _) 6)).v))) (fun _ _ _ _ _ x7 m8 h9 => (f_tup (a_cons (f_name (g.blk _ _ _ _ _ _) 4) (a_cons (f_op o_sub (((f_ixD (g.blk _ _ _ _ _ _) (v_own (g.blk _ _ _ _ _ _) 3) (((f_name (g.blk _ _ _ _ _ _) 4)).v) (dgo_mem (pourD_nd hp.1) m8))).v) (((f_name (g.blk _ _ _ _ _ _) 6)).v)) a_nil)) (by simp))) (by have h1 := pourD_len a.2 b.2; have := hp.2.2.2; omega))))).is (map_pD (fun (z : Str × Int) => (z.1, z.2 - (if (decide (room < ((srtI ((pourD a.2 b.2).map fun z => -z.2)).length : Int))) = true then -((srtI ((pourD a.2 b.2).map fun z => -z.2)).getD room.toNat 0) else 0)))))).v) av_nil)) (by rw [mergeI_nil (map_keys (pourD_nd hp.1))]))) <| s_frz 7 rfl <| s_last (s_ret (f_tup (a_cons (f_op o_add (((f_op o_add (((f_ixT (((f_name g 1)).v) ((f_int).v) rfl)).v) (((f_ixT (((f_name g 2)).v) ((f_int).v) rfl)).v))).v) (((f_name g 6)).v)) (a_cons (f_name g 7) a_nil)) (by simp)))) (by rw [List.take_length])) rfl
def R_law_led : List D → D → Prop := fun ds d => ∃ (room : Int) (tree : List Stp), LedOk room tree ∧ ds = [(.int room), (.tup (tree.map stpD))] ∧ d = stD ((ledL room tree).headD (0, []))
theorem w_law_led (T : Top K w mg) : Fn P w K mg base "_law_led" 2 R_law_led := by
  refine fn_top T 80 ["_law_room", "_law_tree", "_law_pile", "_law_step", "_law_other", "_law_one", "_law_state", "_law_name"] ["_law_room", "_law_tree"] (by decide) (by decide +kernel) (fun _ _ _ _ _ _ us hl => match us, hl with | [_, _], _ => rfl) (by rintro _ _ ⟨room, tree, hp, rfl, rfl⟩; rfl) ?_
  intro X gf eP ew eK em eb ds d hR
  subst eP ew eK em eb
  obtain ⟨room, tree, hp, rfl, rfl⟩ := hR
  have hsc := Eq.refl (defScope (top 80))
  conv at hsc => rhs; whnf
  rw [hsc] at gf
  have g := gf.g
  refine .inl (?_ : Dos X _ [.fz (.int room), .fz (.tup (tree.map stpD)), .un, .un, .un, .un, .un, .un] (.rt (stD ((ledL room tree).headD (0, [])))))
  exact s_out (s_cons (s_new gf 2 (n_lst a_nil (by simp))) <| s_cons (s_for gf (xs := tree) (rs := (fun i1 => [.fz (.int room), .fz (.tup (tree.map stpD)), .ow (.lst ((ledP room tree i1).map stD)), .un, .un, .un, .un, .un])) (if_tup (xs := tree) (enc := stpD) (f_name g 1)) (by repeat (first | exact trivial | refine ⟨.inr rfl, ?_⟩ | refine ⟨.inl rfl, ?_⟩)) (gf.pg (j := 3) rfl rfl) (fun _ _ _ => tx_name 3) (fun i1 x2 hx3 => match x2, hx3 with | .stream ns, hx3 => s_to (s_le (ρ2 := [.fz (.int room), .fz (.tup (tree.map stpD)), .ow (.lst (((ledP room tree i1) ++ [streamL room ns]).map stD)), .un, .un, .un, .un, .un]) (s_cons (s_if (SemT.is (b := decide (((List.length ([(.str "stream"), (.tup (ns.map D.str))] : List D) : Nat) : Int) = 1)) (b' := false) (t_cmp o_eqI (((f_callB g c_lenT (T.fr "len") (av_cons (((f_name g 3)).v) av_nil))).v) ((f_int).v)) (by first | rfl | simp)) (fun z => nomatch z) (fun _ => s_cons (s_set gf 6 (f_tup (a_cons f_int (a_cons ((n_dnew).f) a_nil)) (by simp))) <| s_cons (s_for gf (xs := ns) (rs := (fun i5 => [.fz (.int room), .fz (.tup (tree.map stpD)), .ow (.lst ((ledP room tree i1).map stD)), .fz (.tup [(.str "stream"), (.tup (ns.map D.str))]), .un, .un, .fz (.tup [(.int (((ns.take i5).foldl (fedL room) (0, [])).1)), (.dct (((ns.take i5).foldl (fedL room) (0, [])).2))]), .un])) (if_tup (xs := ns) (enc := D.str) (f_ixT (((f_name g 3)).v) ((f_int).v) rfl)) (by repeat (first | exact trivial | refine ⟨.inr rfl, ?_⟩ | refine ⟨.inl rfl, ?_⟩)) (gf.pg (j := 7) rfl rfl) (fun _ _ _ => tx_name 7) (fun i5 x6 hx7 => s_to (s_le (ρ2 := [.fz (.int room), .fz (.tup (tree.map stpD)), .ow (.lst ((ledP room tree i1).map stD)), .fz (.tup [(.str "stream"), (.tup (ns.map D.str))]), .un, .un, .fz (.tup [(.int ((fedL room ((ns.take i5).foldl (fedL room) (0, [])) x6).1)), (.dct ((fedL room ((ns.take i5).foldl (fedL room) (0, [])) x6).2))]), .un]) (s_cons (s_set gf 6 (f_call g (d := (.tup [(.int ((fedL room ((ns.take i5).foldl (fedL room) (0, [])) x6).1)), (.dct ((fedL room ((ns.take i5).foldl (fedL room) (0, [])) x6).2))])) (w_law_fed T) (by decide) (a_cons (f_name g 0) (a_cons (f_name g 6) (a_cons (f_name g 7) a_nil))) ⟨_, ((ns.take i5).foldl (fedL room) (0, [])), _, (by have h1 := streamF (room := room) (ns.take i5) (0, []) List.nodup_nil; have h2 := take_len ns i5; have h3 := hp.ns ns (List.mem_of_getElem? hx3); exact ⟨h1.1, by have h4 := h1.2; simp only [List.length_nil] at h4; omega⟩), rfl, rfl⟩)) <| s_nil)) (by rw [foldl_take hx7]))) <| s_at (ρ1 := [.fz (.int room), .fz (.tup (tree.map stpD)), .ow (.lst ((ledP room tree i1).map stD)), .fz (.tup [(.str "stream"), (.tup (ns.map D.str))]), .un, .un, .fz (.tup [(.int ((streamL room ns).1)), (.dct ((streamL room ns).2))]), .un]) (s_cons (s_app (ds := ((ledP room tree i1).map stD)) g 2 (f_name g 6) (by have h1 := ledP_len room tree i1; have h2 := hp.tl; have h3 := (List.getElem?_eq_some_iff.mp hx3).1; simp only [List.length_map, List.length_dropLast]; omega)) <| s_at (ρ1 := [.fz (.int room), .fz (.tup (tree.map stpD)), .ow (.lst (((ledP room tree i1) ++ [streamL room ns]).map stD)), .fz (.tup [(.str "stream"), (.tup (ns.map D.str))]), .un, .un, .fz (.tup [(.int ((streamL room ns).1)), (.dct ((streamL room ns).2))]), .un]) (s_nil) (by first | (simp only [List.map_append]; done) | (simp only [List.map_append]; rfl))) (by unfold streamL; rw [List.take_length]))) <| s_nil)) (by unfold ledP; rw [foldl_take hx3]; rfl) | .pour, hx3 => s_to (s_le (ρ2 := [.fz (.int room), .fz (.tup (tree.map stpD)), .ow (.lst ((((ledP room tree i1).dropLast.dropLast) ++ [pouredL room ((ledP room tree i1).dropLast.getLastD (0, [])) ((ledP room tree i1).getLastD (0, []))]).map stD)), .un, .un, .un, .un, .un]) (s_at (ρ1 := [.fz (.int room), .fz (.tup (tree.map stpD)), .ow (.lst (((((ledP room tree i1).dropLast.dropLast).map stD) ++ [(.tup [(.int (((ledP room tree i1).dropLast.getLastD (0, [])).1)), (.dct (((ledP room tree i1).dropLast.getLastD (0, [])).2))])]) ++ [(.tup [(.int (((ledP room tree i1).getLastD (0, [])).1)), (.dct (((ledP room tree i1).getLastD (0, [])).2))])])), .fz (.tup [(.str "pour")]), .un, .un, .un, .un]) (s_cons (s_if (SemT.is (b := decide (((List.length ([(.str "pour")] : List D) : Nat) : Int) = 1)) (b' := true) (t_cmp o_eqI (((f_callB g c_lenT (T.fr "len") (av_cons (((f_name g 3)).v) av_nil))).v) ((f_int).v)) (by first | rfl | simp)) (fun _ => s_cons (s_pop gf 2 4) <| s_cons (s_pop gf 2 5) <| s_cons (s_app (ds := (((ledP room tree i1).dropLast.dropLast).map stD)) g 2 (f_call g (d := (.tup [(.int ((pouredL room ((ledP room tree i1).dropLast.getLastD (0, [])) ((ledP room tree i1).getLastD (0, []))).1)), (.dct ((pouredL room ((ledP room tree i1).dropLast.getLastD (0, [])) ((ledP room tree i1).getLastD (0, []))).2))])) (w_law_poured T) (by decide) (a_cons (f_name g 0) (a_cons (f_name g 5) (a_cons (f_name g 4) a_nil))) ⟨_, ((ledP room tree i1).dropLast.getLastD (0, [])), ((ledP room tree i1).getLastD (0, [])), ⟨(hp.one hx3).1, (hp.oth hx3).1, hp.r0, Nat.le_trans (Nat.add_le_add (hp.one hx3).2 (hp.oth hx3).2) (by decide)⟩, rfl, rfl⟩) (by have h1 := ledP_len room tree i1; have h2 := hp.tl; have h3 := (List.getElem?_eq_some_iff.mp hx3).1; simp only [List.length_map, List.length_dropLast]; omega)) <| s_at (ρ1 := [.fz (.int room), .fz (.tup (tree.map stpD)), .ow (.lst ((((ledP room tree i1).dropLast.dropLast) ++ [pouredL room ((ledP room tree i1).dropLast.getLastD (0, [])) ((ledP room tree i1).getLastD (0, []))]).map stD)), .fz (.tup [(.str "pour")]), .fz (.tup [(.int (((ledP room tree i1).getLastD (0, [])).1)), (.dct (((ledP room tree i1).getLastD (0, [])).2))]), .fz (.tup [(.int (((ledP room tree i1).dropLast.getLastD (0, [])).1)), (.dct (((ledP room tree i1).dropLast.getLastD (0, [])).2))]), .un, .un]) (s_nil) (by first | (simp only [List.map_append]; done) | (simp only [List.map_append]; rfl))) (fun z => nomatch z)) <| s_nil) (by rw [two_map (hp.two i1 hx3)]; rfl))) (by unfold ledP; rw [foldl_take hx3]; rfl))) <| s_at (ρ1 := [.fz (.int room), .fz (.tup (tree.map stpD)), .ow (.lst ((ledL room tree).map stD)), .un, .un, .un, .un, .un]) (s_last (s_ret (f_ixL (v_own g 2) ((f_int).v) (at_map (xs := ledL room tree) (enc := stD) (atI_head hp.ne))))) (by unfold ledP ledL; rw [List.take_length])) rfl
def R_law_sketch : List D → D → Prop := fun ds d => ∃ (room many : Int) (a : Int × List (Str × Int)), ((a.2.map (·.1)).Nodup ∧ a.2.length ≤ 1000) ∧ ds = [(.int room), (.int many), (.tup [(.int a.1), (.dct a.2)])] ∧ d = skD (skS room many a)
theorem w_law_sketch (T : Top K w mg) : Fn P w K mg base "_law_sketch" 1 R_law_sketch := by
  refine fn_top T 81 ["_law_room", "_law_many", "_law_state", "_law_name"] ["_law_room", "_law_many", "_law_state"] (by decide) (by decide +kernel) (fun _ _ _ _ _ _ us hl => match us, hl with | [_, _, _], _ => rfl) (by rintro _ _ ⟨room, many, a, hp, rfl, rfl⟩; rfl) ?_
  intro X gf eP ew eK em eb ds d hR
  subst eP ew eK em eb
  obtain ⟨room, many, a, hp, rfl, rfl⟩ := hR
  have hsc := Eq.refl (defScope (top 81))
  conv at hsc => rhs; whnf
  rw [hsc] at gf
  have g := gf.g
  refine .inl (?_ : Dos X _ [.fz (.int room), .fz (.int many), .fz (.tup [(.int a.1), (.dct a.2)]), .un] (.rt (skD (skS room many a))))
  exact s_out (s_last (s_ret (f_tup (a_cons (f_name g 0) (a_cons (f_name g 1) (a_cons (f_ixT (((f_name g 2)).v) ((f_int).v) rfl) (a_cons (f_callT g c_tupleL (T.fr "tuple") (av_cons (((n_callB g (c_srtPM g) (T.fr "sorted") (av_cons (((SemNG.lock (d_item g 2 (j := 1) rfl (fun H Q q σ => peR pe_int q)) (LcS.n (lc_G g (xs := a.2) (own := [("_law_name", 3)]) (out := (fun x1 => (.tup [(.str x1.1), (.int x1.2)]))) it_keysI (blkOk_by (by decide +kernel)) (pgb g 3) (fun _ _ => tg_name 3) (fun _ _ _ _ _ x1 m2 => (f_tup (a_cons (f_name (g.blk _ _ _ _ _ _) 3) (a_cons (f_ixD (g.blk _ _ _ _ _ _) (((f_ixT (((f_name (g.blk _ _ _ _ _ _) 2)).v) ((f_int).v) rfl)).v) (((f_name (g.blk _ _ _ _ _ _) 3)).v) (dgo_mem hp.1 m2)) a_nil)) (by simp))) (by have := hp.2; omega))))).v) av_nil))).v) av_nil)) a_nil)))) (by simp)))) (by unfold skD skS; rw [map_eta])
def R_law_as_counts : List D → D → Prop := fun ds d => ∃ (c : List (Str × Int)), ((c.map (·.1)).Nodup ∧ c.length ≤ 1000) ∧ ds = [(.dct c)] ∧ d = .tup ((srtP c).map pD)
theorem w_law_as_counts (T : Top K w mg) : Fn P w K mg base "_law_as_counts" 1 R_law_as_counts := by
  refine fn_top T 87 ["_law_counts", "_law_name"] ["_law_counts"] (by decide) (by decide +kernel) (fun _ _ _ _ _ _ us hl => match us, hl with | [_], _ => rfl) (by rintro _ _ ⟨c, hp, rfl, rfl⟩; rfl) ?_
  intro X gf eP ew eK em eb ds d hR
  subst eP ew eK em eb
  obtain ⟨c, hp, rfl, rfl⟩ := hR
  have hsc := Eq.refl (defScope (top 87))
  conv at hsc => rhs; whnf
  rw [hsc] at gf
  have g := gf.g
  refine .inl (?_ : Dos X _ [.fz (.dct c), .un] (.rt (.tup ((srtP c).map pD))))
  exact s_out (s_last (s_ret (f_callT g c_tupleL (T.fr "tuple") (av_cons (((n_callB g (c_srtPM g) (T.fr "sorted") (av_cons (((SemNG.lock (d_name g 0) (LcS.n (lc_G g (xs := c) (own := [("_law_name", 1)]) (out := (fun x1 => (.tup [(.str x1.1), (.int x1.2)]))) it_keysI (blkOk_by (by decide +kernel)) (pgb g 1) (fun _ _ => tg_name 1) (fun _ _ _ _ _ x1 m2 => (f_tup (a_cons (f_name (g.blk _ _ _ _ _ _) 1) (a_cons (f_ixD (g.blk _ _ _ _ _ _) (((f_name (g.blk _ _ _ _ _ _) 0)).v) (((f_name (g.blk _ _ _ _ _ _) 1)).v) (dgo_mem hp.1 m2)) a_nil)) (by simp))) (by have := hp.2; omega))))).v) av_nil))).v) av_nil)))) (by rw [map_eta])
def R_law_value_count : List D → D → Prop := fun ds d => ∃ (c : List (Str × Int)) (n : Str), ((c.map (·.1)).Nodup ∧ c.length ≤ 1000 ∧ (∀ z ∈ c, z.2.natAbs < 2 ^ 60) ∧ QnOk (.count n)) ∧ ds = [(.dct c), (.tup [(.str "count"), (.str n)])] ∧ d = .int (valL c (.count n))
theorem w_law_value_count (T : Top K w mg) : Fn P w K mg base "_law_value" 1 R_law_value_count := by
  refine fn_top T 83 ["_law_counts", "_law_question_here", "_law_word", "_law_name"] ["_law_counts", "_law_question_here"] (by decide) (by decide +kernel) (fun _ _ _ _ _ _ us hl => match us, hl with | [_, _], _ => rfl) (by rintro _ _ ⟨c, n, hp, rfl, rfl⟩; rfl) ?_
  intro X gf eP ew eK em eb ds d hR
  subst eP ew eK em eb
  obtain ⟨c, n, hp, rfl, rfl⟩ := hR
  have hsc := Eq.refl (defScope (top 83))
  conv at hsc => rhs; whnf
  rw [hsc] at gf
  have g := gf.g
  refine .inl (?_ : Dos X _ [.fz (.dct c), .fz (.tup [(.str "count"), (.str n)]), .un, .un] (.rt (.int (valL c (.count n)))))
  exact s_out (s_cons (s_set gf 2 (f_ixT (((f_name g 1)).v) ((f_int).v) rfl)) <| s_last (s_if (SemT.is (b' := true) (t_inS (z := "count") (ys := ["count", "lot"]) (((f_name g 2)).v) (f_tup (a_cons f_str (a_cons f_str a_nil)) (by simp))) (by decide +kernel)) (fun _ => s_last (s_ret (f_callB g (c_sum g) (T.fr "sum") (av_cons (((LcS.n (lc_G g (xs := [n]) (own := [("_law_name", 3)]) (out := (fun x2 => (.int ((dgo c x2).getD 0)))) (ItS.g (it_tup (((f_ite (SemT.is (b := decide (("count" : Str) = "lot")) (b' := false) (t_cmp o_eqS (((f_name g 2)).v) ((f_str).v)) (by decide +kernel)) (fun h4 => nomatch h4) (fun h4 => (SemF.is (f_slT (ds := [(.str "count"), (.str n)]) (l := (some 1)) (u := none) (f_name g 1) (PtS.yes ((f_int).v)) PtS.no) rfl)))).v))) (blkOk_by (by decide +kernel)) (pgb g 3) (fun _ _ => tg_name 3) (fun _ _ _ _ _ x2 m3 => (f_get (g.blk _ _ _ _ _ _) (((f_name (g.blk _ _ _ _ _ _) 0)).v) (((f_name (g.blk _ _ _ _ _ _) 3)).v) ((f_int).v))) (by simp))).n).v) av_nil)))) (fun z => nomatch z))) rfl
def R_law_value_lot : List D → D → Prop := fun ds d => ∃ (c : List (Str × Int)) (ns : List Str), ((c.map (·.1)).Nodup ∧ c.length ≤ 1000 ∧ (∀ z ∈ c, z.2.natAbs < 2 ^ 60) ∧ QnOk (.lot ns)) ∧ ds = [(.dct c), (.tup [(.str "lot"), (.tup (ns.map D.str))])] ∧ d = .int (valL c (.lot ns))
theorem w_law_value_lot (T : Top K w mg) : Fn P w K mg base "_law_value" 1 R_law_value_lot := by
  refine fn_top T 83 ["_law_counts", "_law_question_here", "_law_word", "_law_name"] ["_law_counts", "_law_question_here"] (by decide) (by decide +kernel) (fun _ _ _ _ _ _ us hl => match us, hl with | [_, _], _ => rfl) (by rintro _ _ ⟨c, ns, hp, rfl, rfl⟩; rfl) ?_
  intro X gf eP ew eK em eb ds d hR
  subst eP ew eK em eb
  obtain ⟨c, ns, hp, rfl, rfl⟩ := hR
  have hsc := Eq.refl (defScope (top 83))
  conv at hsc => rhs; whnf
  rw [hsc] at gf
  have g := gf.g
  refine .inl (?_ : Dos X _ [.fz (.dct c), .fz (.tup [(.str "lot"), (.tup (ns.map D.str))]), .un, .un] (.rt (.int (valL c (.lot ns)))))
  exact s_out (s_cons (s_set gf 2 (f_ixT (((f_name g 1)).v) ((f_int).v) rfl)) <| s_last (s_if (SemT.is (b' := true) (t_inS (z := "lot") (ys := ["count", "lot"]) (((f_name g 2)).v) (f_tup (a_cons f_str (a_cons f_str a_nil)) (by simp))) (by decide +kernel)) (fun _ => s_last (s_ret (f_callB g (c_sum g) (T.fr "sum") (av_cons (((LcS.n (lc_G g (xs := ns) (own := [("_law_name", 3)]) (out := (fun x2 => (.int ((dgo c x2).getD 0)))) (ItS.g (it_tup (((f_ite (SemT.is (b := decide (("lot" : Str) = "lot")) (b' := true) (t_cmp o_eqS (((f_name g 2)).v) ((f_str).v)) (by decide +kernel)) (fun h4 => (f_ixT (((f_name g 1)).v) ((f_int).v) rfl)) (fun h4 => nomatch h4))).v))) (blkOk_by (by decide +kernel)) (pgb g 3) (fun _ _ => tg_name 3) (fun _ _ _ _ _ x2 m3 => (f_get (g.blk _ _ _ _ _ _) (((f_name (g.blk _ _ _ _ _ _) 0)).v) (((f_name (g.blk _ _ _ _ _ _) 3)).v) ((f_int).v))) (by have := hp.2.2.2.1; omega))).n).v) av_nil)))) (fun z => nomatch z))) rfl
def R_law_value_apart : List D → D → Prop := fun ds d => ∃ (c : List (Str × Int)) (a b : Str), ((c.map (·.1)).Nodup ∧ c.length ≤ 1000 ∧ (∀ z ∈ c, z.2.natAbs < 2 ^ 60) ∧ QnOk (.apart a b)) ∧ ds = [(.dct c), (.tup [(.str "apart"), (.str a), (.str b)])] ∧ d = .int (valL c (.apart a b))
theorem w_law_value_apart (T : Top K w mg) : Fn P w K mg base "_law_value" 1 R_law_value_apart := by
  refine fn_top T 83 ["_law_counts", "_law_question_here", "_law_word", "_law_name"] ["_law_counts", "_law_question_here"] (by decide) (by decide +kernel) (fun _ _ _ _ _ _ us hl => match us, hl with | [_, _], _ => rfl) (by rintro _ _ ⟨c, a, b, hp, rfl, rfl⟩; rfl) ?_
  intro X gf eP ew eK em eb ds d hR
  subst eP ew eK em eb
  obtain ⟨c, a, b, hp, rfl, rfl⟩ := hR
  have hsc := Eq.refl (defScope (top 83))
  conv at hsc => rhs; whnf
  rw [hsc] at gf
  have g := gf.g
  refine .inl (?_ : Dos X _ [.fz (.dct c), .fz (.tup [(.str "apart"), (.str a), (.str b)]), .un, .un] (.rt (.int (valL c (.apart a b)))))
  exact s_out (s_cons (s_set gf 2 (f_ixT (((f_name g 1)).v) ((f_int).v) rfl)) <| s_cons (s_ifn (SemT.is (b' := false) (t_inS (z := "apart") (ys := ["count", "lot"]) (((f_name g 2)).v) (f_tup (a_cons f_str (a_cons f_str a_nil)) (by simp))) (by decide +kernel))) <| s_last (s_if (SemT.is (b := decide (("apart" : Str) = "apart")) (b' := true) (t_cmp o_eqS (((f_name g 2)).v) ((f_str).v)) (by decide +kernel)) (fun _ => s_last (s_ret (f_op o_sub (((f_get g (((f_name g 0)).v) (((f_ixT (((f_name g 1)).v) ((f_int).v) rfl)).v) ((f_int).v))).v) (((f_get g (((f_name g 0)).v) (((f_ixT (((f_name g 1)).v) ((f_int).v) rfl)).v) ((f_int).v))).v)))) (fun z => nomatch z))) rfl
def R_law_value_place : List D → D → Prop := fun ds d => ∃ (c : List (Str × Int)) (n : Str), ((c.map (·.1)).Nodup ∧ c.length ≤ 1000 ∧ (∀ z ∈ c, z.2.natAbs < 2 ^ 60) ∧ QnOk (.place n)) ∧ ds = [(.dct c), (.tup [(.str "place"), (.str n)])] ∧ d = .int (valL c (.place n))
theorem w_law_value_place (T : Top K w mg) : Fn P w K mg base "_law_value" 1 R_law_value_place := by
  refine fn_top T 83 ["_law_counts", "_law_question_here", "_law_word", "_law_name"] ["_law_counts", "_law_question_here"] (by decide) (by decide +kernel) (fun _ _ _ _ _ _ us hl => match us, hl with | [_, _], _ => rfl) (by rintro _ _ ⟨c, n, hp, rfl, rfl⟩; rfl) ?_
  intro X gf eP ew eK em eb ds d hR
  subst eP ew eK em eb
  obtain ⟨c, n, hp, rfl, rfl⟩ := hR
  have hsc := Eq.refl (defScope (top 83))
  conv at hsc => rhs; whnf
  rw [hsc] at gf
  have g := gf.g
  refine .inl (?_ : Dos X _ [.fz (.dct c), .fz (.tup [(.str "place"), (.str n)]), .un, .un] (.rt (.int (valL c (.place n)))))
  exact s_out (s_cons (s_set gf 2 (f_ixT (((f_name g 1)).v) ((f_int).v) rfl)) <| s_cons (s_ifn (SemT.is (b' := false) (t_inS (z := "place") (ys := ["count", "lot"]) (((f_name g 2)).v) (f_tup (a_cons f_str (a_cons f_str a_nil)) (by simp))) (by decide +kernel))) <| s_cons (s_ifn (SemT.is (b := decide (("place" : Str) = "apart")) (b' := false) (t_cmp o_eqS (((f_name g 2)).v) ((f_str).v)) (by decide +kernel))) <| s_last (s_if (SemT.is (b := decide (("place" : Str) = "place")) (b' := true) (t_cmp o_eqS (((f_name g 2)).v) ((f_str).v)) (by decide +kernel)) (fun _ => s_last (s_ret (f_op o_add ((f_int).v) (((f_callB g c_lenLM (T.fr "len") (av_cons (((SemNG.lock (d_name g 0) (LcS.n (lc_If g (xs := c) (own := [("_law_name", 3)]) (out := (fun x4 => (.str x4.1))) (fl := fun x4 => decide (((dgo c n).getD 0) < x4.2)) it_keysI (blkOk_by (by decide +kernel)) (pgb g 3) (fun _ _ => tg_name 3) (fun _ _ _ _ _ x4 m5 => (t_cmp o_gt (((f_ixD (g.blk _ _ _ _ _ _) (((f_name (g.blk _ _ _ _ _ _) 0)).v) (((f_name (g.blk _ _ _ _ _ _) 3)).v) (dgo_mem hp.1 m5))).v) (((f_get (g.blk _ _ _ _ _ _) (((f_name (g.blk _ _ _ _ _ _) 0)).v) (((f_ixT (((f_name (g.blk _ _ _ _ _ _) 1)).v) ((f_int).v) rfl)).v) ((f_int).v))).v))) (fun _ _ _ _ _ x4 m5 h6 => (f_name (g.blk _ _ _ _ _ _) 3)) (by have := hp.2.1; omega))))).v) av_nil))).v)))) (fun z => nomatch z))) rfl
def R_law_value_first : List D → D → Prop := fun ds d => ∃ (c : List (Str × Int)) (m : Int), ((c.map (·.1)).Nodup ∧ c.length ≤ 1000 ∧ (∀ z ∈ c, z.2.natAbs < 2 ^ 60) ∧ QnOk (.first m)) ∧ ds = [(.dct c), (.tup [(.str "first"), (.int m)])] ∧ d = .int (valL c (.first m))
theorem w_law_value_first (T : Top K w mg) : Fn P w K mg base "_law_value" 1 R_law_value_first := by
  refine fn_top T 83 ["_law_counts", "_law_question_here", "_law_word", "_law_name"] ["_law_counts", "_law_question_here"] (by decide) (by decide +kernel) (fun _ _ _ _ _ _ us hl => match us, hl with | [_, _], _ => rfl) (by rintro _ _ ⟨c, m, hp, rfl, rfl⟩; rfl) ?_
  intro X gf eP ew eK em eb ds d hR
  subst eP ew eK em eb
  obtain ⟨c, m, hp, rfl, rfl⟩ := hR
  have hsc := Eq.refl (defScope (top 83))
  conv at hsc => rhs; whnf
  rw [hsc] at gf
  have g := gf.g
  refine .inl (?_ : Dos X _ [.fz (.dct c), .fz (.tup [(.str "first"), (.int m)]), .un, .un] (.rt (.int (valL c (.first m)))))
  exact s_out (s_cons (s_set gf 2 (f_ixT (((f_name g 1)).v) ((f_int).v) rfl)) <| s_cons (s_ifn (SemT.is (b' := false) (t_inS (z := "first") (ys := ["count", "lot"]) (((f_name g 2)).v) (f_tup (a_cons f_str (a_cons f_str a_nil)) (by simp))) (by decide +kernel))) <| s_cons (s_ifn (SemT.is (b := decide (("first" : Str) = "apart")) (b' := false) (t_cmp o_eqS (((f_name g 2)).v) ((f_str).v)) (by decide +kernel))) <| s_cons (s_ifn (SemT.is (b := decide (("first" : Str) = "place")) (b' := false) (t_cmp o_eqS (((f_name g 2)).v) ((f_str).v)) (by decide +kernel))) <| s_last (s_if (SemT.is (b := decide (("first" : Str) = "first")) (b' := true) (t_cmp o_eqS (((f_name g 2)).v) ((f_str).v)) (by decide +kernel)) (fun _ => s_last (s_ret (f_callB g (c_sum g) (T.fr "sum") (av_cons (((SemN.is (d' := (.lst ((cutA (revS (c.map fun z => z.2)) none (some m)).map D.int))) (n_slL (ds := ((revS (c.map fun z => z.2)).map D.int)) (l := none) (u := (some m)) (((n_srtRev g (((SemNG.lock (d_name g 0) (LcS.n (lc_G g (xs := c) (own := [("_law_name", 3)]) (out := (fun x5 => (.int x5.2))) it_keysI (blkOk_by (by decide +kernel)) (pgb g 3) (fun _ _ => tg_name 3) (fun _ _ _ _ _ x5 m6 => (f_ixD (g.blk _ _ _ _ _ _) (((f_name (g.blk _ _ _ _ _ _) 0)).v) (((f_name (g.blk _ _ _ _ _ _) 3)).v) (dgo_mem hp.1 m6))) (by have := hp.2.1; omega))))).v) (T.fr "sorted"))).v) PtS.no (PtS.yes (((f_ixT (((f_name g 1)).v) ((f_int).v) rfl)).v))) (by rw [cutD_map]))).v) av_nil)))) (fun z => nomatch z))) rfl
def R_law_value_unlike : List D → D → Prop := fun ds d => ∃ (c : List (Str × Int)) , ((c.map (·.1)).Nodup ∧ c.length ≤ 1000 ∧ (∀ z ∈ c, z.2.natAbs < 2 ^ 60) ∧ QnOk (.unlike)) ∧ ds = [(.dct c), (.tup [(.str "unlike")])] ∧ d = .int (valL c (.unlike))
theorem w_law_value_unlike (T : Top K w mg) : Fn P w K mg base "_law_value" 1 R_law_value_unlike := by
  refine fn_top T 83 ["_law_counts", "_law_question_here", "_law_word", "_law_name"] ["_law_counts", "_law_question_here"] (by decide) (by decide +kernel) (fun _ _ _ _ _ _ us hl => match us, hl with | [_, _], _ => rfl) (by rintro _ _ ⟨c, hp, rfl, rfl⟩; rfl) ?_
  intro X gf eP ew eK em eb ds d hR
  subst eP ew eK em eb
  obtain ⟨c, hp, rfl, rfl⟩ := hR
  have hsc := Eq.refl (defScope (top 83))
  conv at hsc => rhs; whnf
  rw [hsc] at gf
  have g := gf.g
  refine .inl (?_ : Dos X _ [.fz (.dct c), .fz (.tup [(.str "unlike")]), .un, .un] (.rt (.int (valL c (.unlike)))))
  exact s_out (s_cons (s_set gf 2 (f_ixT (((f_name g 1)).v) ((f_int).v) rfl)) <| s_cons (s_ifn (SemT.is (b' := false) (t_inS (z := "unlike") (ys := ["count", "lot"]) (((f_name g 2)).v) (f_tup (a_cons f_str (a_cons f_str a_nil)) (by simp))) (by decide +kernel))) <| s_cons (s_ifn (SemT.is (b := decide (("unlike" : Str) = "apart")) (b' := false) (t_cmp o_eqS (((f_name g 2)).v) ((f_str).v)) (by decide +kernel))) <| s_cons (s_ifn (SemT.is (b := decide (("unlike" : Str) = "place")) (b' := false) (t_cmp o_eqS (((f_name g 2)).v) ((f_str).v)) (by decide +kernel))) <| s_cons (s_ifn (SemT.is (b := decide (("unlike" : Str) = "first")) (b' := false) (t_cmp o_eqS (((f_name g 2)).v) ((f_str).v)) (by decide +kernel))) <| s_last (s_ret (f_ite (SemT.is (b := decide (("unlike" : Str) = "unlike")) (b' := true) (t_cmp o_eqS (((f_name g 2)).v) ((f_str).v)) (by decide +kernel)) (fun h5 => (f_callB g c_lenD (T.fr "len") (av_cons (((f_name g 0)).v) av_nil))) (fun h5 => nomatch h5)))) rfl
def R_law_value_squares : List D → D → Prop := fun ds d => ∃ (c : List (Str × Int)) , ((c.map (·.1)).Nodup ∧ c.length ≤ 1000 ∧ (∀ z ∈ c, z.2.natAbs < 2 ^ 60) ∧ QnOk (.squares)) ∧ ds = [(.dct c), (.tup [(.str "squares")])] ∧ d = .int (valL c (.squares))
theorem w_law_value_squares (T : Top K w mg) : Fn P w K mg base "_law_value" 1 R_law_value_squares := by
  refine fn_top T 83 ["_law_counts", "_law_question_here", "_law_word", "_law_name"] ["_law_counts", "_law_question_here"] (by decide) (by decide +kernel) (fun _ _ _ _ _ _ us hl => match us, hl with | [_, _], _ => rfl) (by rintro _ _ ⟨c, hp, rfl, rfl⟩; rfl) ?_
  intro X gf eP ew eK em eb ds d hR
  subst eP ew eK em eb
  obtain ⟨c, hp, rfl, rfl⟩ := hR
  have hsc := Eq.refl (defScope (top 83))
  conv at hsc => rhs; whnf
  rw [hsc] at gf
  have g := gf.g
  refine .inl (?_ : Dos X _ [.fz (.dct c), .fz (.tup [(.str "squares")]), .un, .un] (.rt (.int (valL c (.squares)))))
  exact s_out (s_cons (s_set gf 2 (f_ixT (((f_name g 1)).v) ((f_int).v) rfl)) <| s_cons (s_ifn (SemT.is (b' := false) (t_inS (z := "squares") (ys := ["count", "lot"]) (((f_name g 2)).v) (f_tup (a_cons f_str (a_cons f_str a_nil)) (by simp))) (by decide +kernel))) <| s_cons (s_ifn (SemT.is (b := decide (("squares" : Str) = "apart")) (b' := false) (t_cmp o_eqS (((f_name g 2)).v) ((f_str).v)) (by decide +kernel))) <| s_cons (s_ifn (SemT.is (b := decide (("squares" : Str) = "place")) (b' := false) (t_cmp o_eqS (((f_name g 2)).v) ((f_str).v)) (by decide +kernel))) <| s_cons (s_ifn (SemT.is (b := decide (("squares" : Str) = "first")) (b' := false) (t_cmp o_eqS (((f_name g 2)).v) ((f_str).v)) (by decide +kernel))) <| s_last (s_ret (f_ite (SemT.is (b := decide (("squares" : Str) = "unlike")) (b' := false) (t_cmp o_eqS (((f_name g 2)).v) ((f_str).v)) (by decide +kernel)) (fun h5 => nomatch h5) (fun h5 => (f_callB g (c_sum g) (T.fr "sum") (av_cons (((SemNG.lock (d_name g 0) (LcS.n (lc_G g (xs := c) (own := [("_law_name", 3)]) (out := (fun x6 => (.int (x6.2 ^ (2 : Int).toNat)))) it_keysI (blkOk_by (by decide +kernel)) (pgb g 3) (fun _ _ => tg_name 3) (fun _ _ _ _ _ x6 m7 => (f_op (o_pow (i := x6.2) (j := 2) ⟨by decide, by decide, by have := hp.2.2.1 x6 m7; omega⟩) (((f_ixD (g.blk _ _ _ _ _ _) (((f_name (g.blk _ _ _ _ _ _) 0)).v) (((f_name (g.blk _ _ _ _ _ _) 3)).v) (dgo_mem hp.1 m7))).v) ((f_int).v))) (by have := hp.2.1; omega))))).v) av_nil)))))) rfl
theorem atI_getDD {xs : List D} {x : Nat} (h : x < xs.length) : atI xs (x : Int) = some (xs.getD x .non) := by
  unfold atI ixN
  rw [if_pos (by omega), if_pos (by omega)]
  show xs[(x : Int).toNat]? = _
  rw [Int.toNat_natCast, List.getElem?_eq_getElem h, List.getD_eq_getElem?_getD, List.getElem?_eq_getElem h]
  rfl
theorem isd_at {n : Nat} {xs : List D} (h : isd (n + 1) (.tup xs)) {x : Nat} (hx : x < xs.length) : isd n (xs.getD x .non) := by
  refine h.2 _ ?_
  rw [List.getD_eq_getElem?_getD, List.getElem?_eq_getElem hx]
  exact List.getElem_mem hx
def R_law_is (n : Nat) : List D → D → Prop := fun ds d => ∃ v, isd n v ∧ ds = [v, v] ∧ d = .bl true
theorem w_law_is (T : Top K w mg) : ∀ n, Fn P w K mg base "_law_is" (n + 1) (R_law_is n) := by
  intro n
  induction n generalizing base with
  | zero =>
    refine fn_top T 82 ["_law_told", "_law_due", "_law_k"] ["_law_told", "_law_due"] (by decide) (by decide +kernel) (fun _ _ _ _ _ _ us hl => match us, hl with | [_, _], _ => rfl) (by rintro _ _ ⟨v, hd, rfl, rfl⟩; rfl) ?_
    intro X gf eP ew eK em eb ds d hR
    subst eP ew eK em eb
    obtain ⟨v, hd, rfl, rfl⟩ := hR
    have hsc := Eq.refl (defScope (top 82))
    conv at hsc => rhs; whnf
    rw [hsc] at gf
    have g := gf.g
    cases v with
    | int i =>
      refine .inl (?_ : Dos X _ [.fz (.int i), .fz (.int i), .un] (.rt (.bl true)))
      exact s_out (s_cons (s_ifn (t_val (SemF.is (f_isi2 g (b := false) (b2 := false) (T := "tuple") (T2 := "list") (((f_name g 1)).v) rfl rfl (T.fr "isinstance") (T.fr "tuple") (T.fr "list")) rfl))) <| s_last (s_ret (f_and (SemF.is (d := .bl (decide (false = false))) (d' := .bl true) (f_cmp o_eqB (((f_isi g (b := false) (T := "bool") (((f_name g 0)).v) rfl (T.fr "isinstance") (T.fr "bool"))).v) (((f_isi g (b := false) (T := "bool") (((f_name g 1)).v) rfl (T.fr "isinstance") (T.fr "bool"))).v)) (congrArg D.bl (by decide))) fun h2 => (f_one (f_cmp o_eqI (((f_name g 0)).v) (((f_name g 1)).v)))))) (by simp [toP, PyData.eqv])
    | str x =>
      refine .inl (?_ : Dos X _ [.fz (.str x), .fz (.str x), .un] (.rt (.bl true)))
      exact s_out (s_cons (s_ifn (t_val (SemF.is (f_isi2 g (b := false) (b2 := false) (T := "tuple") (T2 := "list") (((f_name g 1)).v) rfl rfl (T.fr "isinstance") (T.fr "tuple") (T.fr "list")) rfl))) <| s_last (s_ret (f_and (SemF.is (d := .bl (decide (false = false))) (d' := .bl true) (f_cmp o_eqB (((f_isi g (b := false) (T := "bool") (((f_name g 0)).v) rfl (T.fr "isinstance") (T.fr "bool"))).v) (((f_isi g (b := false) (T := "bool") (((f_name g 1)).v) rfl (T.fr "isinstance") (T.fr "bool"))).v)) (congrArg D.bl (by decide))) fun h2 => (f_one (f_cmp o_eqS (((f_name g 0)).v) (((f_name g 1)).v)))))) (by simp [toP, PyData.eqv])
    | bl b =>
      refine .inl (?_ : Dos X _ [.fz (.bl b), .fz (.bl b), .un] (.rt (.bl true)))
      exact s_out (s_cons (s_ifn (t_val (SemF.is (f_isi2 g (b := false) (b2 := false) (T := "tuple") (T2 := "list") (((f_name g 1)).v) rfl rfl (T.fr "isinstance") (T.fr "tuple") (T.fr "list")) rfl))) <| s_last (s_ret (f_and (SemF.is (d := .bl (decide (true = true))) (d' := .bl true) (f_cmp o_eqB (((f_isi g (b := true) (T := "bool") (((f_name g 0)).v) rfl (T.fr "isinstance") (T.fr "bool"))).v) (((f_isi g (b := true) (T := "bool") (((f_name g 1)).v) rfl (T.fr "isinstance") (T.fr "bool"))).v)) (congrArg D.bl (by decide))) fun h2 => (f_one (f_cmp o_eqB (((f_name g 0)).v) (((f_name g 1)).v)))))) (by simp [toP, PyData.eqv])
    | non =>
      refine .inl (?_ : Dos X _ [.fz .non, .fz .non, .un] (.rt (.bl true)))
      exact s_out (s_cons (s_ifn (t_val (SemF.is (f_isi2 g (b := false) (b2 := false) (T := "tuple") (T2 := "list") (((f_name g 1)).v) rfl rfl (T.fr "isinstance") (T.fr "tuple") (T.fr "list")) rfl))) <| s_last (s_ret (f_and (SemF.is (d := .bl (decide (false = false))) (d' := .bl true) (f_cmp o_eqB (((f_isi g (b := false) (T := "bool") (((f_name g 0)).v) rfl (T.fr "isinstance") (T.fr "bool"))).v) (((f_isi g (b := false) (T := "bool") (((f_name g 1)).v) rfl (T.fr "isinstance") (T.fr "bool"))).v)) (congrArg D.bl (by decide))) fun h2 => (f_one (f_cmp (o_eqP g rfl rfl rfl rfl) (((f_name g 0)).v) (((f_name g 1)).v)))))) (by simp [toP, PyData.eqv])
    | tup xs => exact hd.elim
    | lst _ => exact hd.elim
    | dct _ => exact hd.elim
    | dset _ => exact hd.elim
    | adr _ => exact hd.elim
  | succ n ih =>
    refine fn_top T 82 ["_law_told", "_law_due", "_law_k"] ["_law_told", "_law_due"] (by decide) (by decide +kernel) (fun _ _ _ _ _ _ us hl => match us, hl with | [_, _], _ => rfl) (by rintro _ _ ⟨v, hd, rfl, rfl⟩; rfl) ?_
    intro X gf eP ew eK em eb ds d hR
    subst eP ew eK em eb
    obtain ⟨v, hd, rfl, rfl⟩ := hR
    have hsc := Eq.refl (defScope (top 82))
    conv at hsc => rhs; whnf
    rw [hsc] at gf
    have g := gf.g
    cases v with
    | int i =>
      refine .inl (?_ : Dos X _ [.fz (.int i), .fz (.int i), .un] (.rt (.bl true)))
      exact s_out (s_cons (s_ifn (t_val (SemF.is (f_isi2 g (b := false) (b2 := false) (T := "tuple") (T2 := "list") (((f_name g 1)).v) rfl rfl (T.fr "isinstance") (T.fr "tuple") (T.fr "list")) rfl))) <| s_last (s_ret (f_and (SemF.is (d := .bl (decide (false = false))) (d' := .bl true) (f_cmp o_eqB (((f_isi g (b := false) (T := "bool") (((f_name g 0)).v) rfl (T.fr "isinstance") (T.fr "bool"))).v) (((f_isi g (b := false) (T := "bool") (((f_name g 1)).v) rfl (T.fr "isinstance") (T.fr "bool"))).v)) (congrArg D.bl (by decide))) fun h2 => (f_one (f_cmp o_eqI (((f_name g 0)).v) (((f_name g 1)).v)))))) (by simp [toP, PyData.eqv])
    | str x =>
      refine .inl (?_ : Dos X _ [.fz (.str x), .fz (.str x), .un] (.rt (.bl true)))
      exact s_out (s_cons (s_ifn (t_val (SemF.is (f_isi2 g (b := false) (b2 := false) (T := "tuple") (T2 := "list") (((f_name g 1)).v) rfl rfl (T.fr "isinstance") (T.fr "tuple") (T.fr "list")) rfl))) <| s_last (s_ret (f_and (SemF.is (d := .bl (decide (false = false))) (d' := .bl true) (f_cmp o_eqB (((f_isi g (b := false) (T := "bool") (((f_name g 0)).v) rfl (T.fr "isinstance") (T.fr "bool"))).v) (((f_isi g (b := false) (T := "bool") (((f_name g 1)).v) rfl (T.fr "isinstance") (T.fr "bool"))).v)) (congrArg D.bl (by decide))) fun h2 => (f_one (f_cmp o_eqS (((f_name g 0)).v) (((f_name g 1)).v)))))) (by simp [toP, PyData.eqv])
    | bl b =>
      refine .inl (?_ : Dos X _ [.fz (.bl b), .fz (.bl b), .un] (.rt (.bl true)))
      exact s_out (s_cons (s_ifn (t_val (SemF.is (f_isi2 g (b := false) (b2 := false) (T := "tuple") (T2 := "list") (((f_name g 1)).v) rfl rfl (T.fr "isinstance") (T.fr "tuple") (T.fr "list")) rfl))) <| s_last (s_ret (f_and (SemF.is (d := .bl (decide (true = true))) (d' := .bl true) (f_cmp o_eqB (((f_isi g (b := true) (T := "bool") (((f_name g 0)).v) rfl (T.fr "isinstance") (T.fr "bool"))).v) (((f_isi g (b := true) (T := "bool") (((f_name g 1)).v) rfl (T.fr "isinstance") (T.fr "bool"))).v)) (congrArg D.bl (by decide))) fun h2 => (f_one (f_cmp o_eqB (((f_name g 0)).v) (((f_name g 1)).v)))))) (by simp [toP, PyData.eqv])
    | non =>
      refine .inl (?_ : Dos X _ [.fz .non, .fz .non, .un] (.rt (.bl true)))
      exact s_out (s_cons (s_ifn (t_val (SemF.is (f_isi2 g (b := false) (b2 := false) (T := "tuple") (T2 := "list") (((f_name g 1)).v) rfl rfl (T.fr "isinstance") (T.fr "tuple") (T.fr "list")) rfl))) <| s_last (s_ret (f_and (SemF.is (d := .bl (decide (false = false))) (d' := .bl true) (f_cmp o_eqB (((f_isi g (b := false) (T := "bool") (((f_name g 0)).v) rfl (T.fr "isinstance") (T.fr "bool"))).v) (((f_isi g (b := false) (T := "bool") (((f_name g 1)).v) rfl (T.fr "isinstance") (T.fr "bool"))).v)) (congrArg D.bl (by decide))) fun h2 => (f_one (f_cmp (o_eqP g rfl rfl rfl rfl) (((f_name g 0)).v) (((f_name g 1)).v)))))) (by simp [toP, PyData.eqv])
    | tup xs =>
      refine .inl (?_ : Dos X _ [.fz (.tup xs), .fz (.tup xs), .un] (.rt (.bl true)))
      exact s_out (s_last (s_if (t_val (SemF.is (f_isi2 g (b := true) (b2 := false) (T := "tuple") (T2 := "list") (((f_name g 1)).v) rfl rfl (T.fr "isinstance") (T.fr "tuple") (T.fr "list")) rfl)) (fun _ => s_cons (s_ifn (SemW.t (w_or (SemT.is (b := !decide (true = true)) (b' := false) (t_cmp o_neB (((f_isi g (b := true) (T := "tuple") (((f_name g 0)).v) rfl (T.fr "isinstance") (T.fr "tuple"))).v) (((f_isi g (b := true) (T := "tuple") (((f_name g 1)).v) rfl (T.fr "isinstance") (T.fr "tuple"))).v)) (by decide)) fun h2 => (w_or1 (SemT.is (b := !decide (false = false)) (b' := false) (t_cmp o_neB (((f_isi g (b := false) (T := "list") (((f_name g 0)).v) rfl (T.fr "isinstance") (T.fr "list"))).v) (((f_isi g (b := false) (T := "list") (((f_name g 1)).v) rfl (T.fr "isinstance") (T.fr "list"))).v)) (by decide)))))) <| s_last (s_ret (f_and (f_cmp o_eqI (((f_callB g c_lenT (T.fr "len") (av_cons (((f_name g 0)).v) av_nil))).v) (((f_callB g c_lenT (T.fr "len") (av_cons (((f_name g 1)).v) av_nil))).v)) fun h4 => (f_one (f_callB g (c_all g) (T.fr "all") (av_cons (((LcS.n (lc_G g (xs := List.range (xs.length : Int).toNat) (own := [("_law_k", 2)]) (out := (fun x5 => (.bl true))) (ItS.g (it_rng g (((f_callB g c_lenT (T.fr "len") (av_cons (((f_name g 1)).v) av_nil))).v) (by have := hd.1; omega) (by have := hd.1; omega) (T.fr "range"))) (blkOk_by (by decide +kernel)) (pgb g 2) (fun _ _ => tg_name 2) (fun _ _ _ _ _ x5 m6 => (f_call (g.blk _ _ _ _ _ _) (d := (.bl true)) (ih (base := X.base)) (Nat.le_refl _) (a_cons (f_ixT (((f_name (g.blk _ _ _ _ _ _) 0)).v) (((f_name (g.blk _ _ _ _ _ _) 2)).v) (atI_getDD (by have := List.mem_range.mp m6; omega))) (a_cons (f_ixT (((f_name (g.blk _ _ _ _ _ _) 1)).v) (((f_name (g.blk _ _ _ _ _ _) 2)).v) (atI_getDD (by have := List.mem_range.mp m6; omega))) a_nil)) ⟨_, isd_at hd (by have := List.mem_range.mp m6; omega), rfl, rfl⟩)) (by rw [List.length_range]; have := hd.1; omega))).n).v) av_nil)))))) (fun z => nomatch z))) (by simp [toP, PyData.eqv])
    | lst _ => exact hd.elim
    | dct _ => exact hd.elim
    | dset _ => exact hd.elim
    | adr _ => exact hd.elim
end
end KD

set_option Elab.async false
set_option linter.all false
set_option maxRecDepth 100000
set_option maxHeartbeats 2000000
namespace KD
open PySem PySem.Spec PyProof.Rows L2
local instance : Vol := volNone
section
variable {P : Program} {w : World} {K : PySem.W.Frag} {mg : Str → Option Value} {base : Heap}

theorem parts_pre {F : Nat} {n m : Int} (i : Nat) (h0 : 0 ≤ n) (hn : n ≤ 14) (hm : m ≤ 2) : (((List.range (min n m).toNat).take i).flatMap (partF F n m)).length ≤ 30 := by
  refine Nat.le_trans (flatMap_len (B := 15) fun j hj => ?_) ?_
  · have hj := List.mem_range.mp (List.mem_of_mem_take hj)
    unfold partF
    rw [List.length_map]
    have := partL_len F (n - ((min n m) - (j : Int))) ((min n m) - (j : Int)) (by omega) (by omega)
    omega
  · have := List.length_take_le i (List.range (min n m).toNat)
    have h2 := List.length_take_le' i (List.range (min n m).toNat)
    rw [List.length_range] at h2
    omega
def R_law_parts (F : Nat) : List D → D → Prop := fun ds d => ∃ n m, (0 ≤ n ∧ n < (F : Int) ∧ 0 ≤ m ∧ m ≤ 2 ∧ F ≤ 14) ∧ ds = [.int n, .int m] ∧ d = .lst ((partL F n m).map fun (z : List Int) => .tup (z.map D.int))
theorem w_law_parts (T : Top K w mg) : ∀ F, Fn P w K mg base "_law_parts" (F + 1) (R_law_parts F) := by
  intro F
  induction F generalizing base with
  | zero =>
    refine fn_top T 85 ["_law_number", "_law_most", "_law_found", "_law_first", "_law_rest"] ["_law_number", "_law_most"] (by decide) (by decide +kernel) (fun _ _ _ _ _ _ us hl => match us, hl with | [_, _], _ => rfl) (by rintro _ _ ⟨n, m, hp, rfl, rfl⟩; rfl) ?_
    intro X gf eP ew eK em eb ds d hR
    obtain ⟨n, m, hp, _, _⟩ := hR
    have h1 := hp.1
    have h2 := hp.2.1
    exfalso
    omega
  | succ F ih =>
    refine fn_top T 85 ["_law_number", "_law_most", "_law_found", "_law_first", "_law_rest"] ["_law_number", "_law_most"] (by decide) (by decide +kernel) (fun _ _ _ _ _ _ us hl => match us, hl with | [_, _], _ => rfl) (by rintro _ _ ⟨n, m, hp, rfl, rfl⟩; rfl) ?_
    intro X gf eP ew eK em eb ds d hR
    subst eP ew eK em eb
    obtain ⟨n, m, hp, rfl, rfl⟩ := hR
    have hsc := Eq.refl (defScope (top 85))
    conv at hsc => rhs; whnf
    rw [hsc] at gf
    have g := gf.g
    refine .inl (?_ : Dos X _ [.fz (.int n), .fz (.int m), .un, .un, .un] (.rt _))
    exact s_out (s_ifr (d := (if (decide (n = 0)) = true then (D.lst [(.tup [])]) else (D.lst (((List.range (min n m).toNat).flatMap (partF F n m)).map (fun (z : List Int) => .tup (z.map D.int)))))) (t_cmp o_eqI (((f_name g 0)).v) ((f_int).v)) (fun c1 => s_out (s_last (s_ret (((n_lst (a_cons (f_tup a_nil (by simp)) a_nil) (by simp))).f))) (by simp only [if_pos c1])) (fun c1 => s_out (s_cons (s_new gf 2 (n_lst a_nil (by simp))) <| s_cons (s_for gf (xs := List.range (min n m).toNat) (rs := (fun i2 => [.fz (.int n), .fz (.int m), .ow (.lst ((((List.range (min n m).toNat).take i2).flatMap (partF F n m)).map (fun (z : List Int) => .tup (z.map D.int)))), .un, .un])) (if_rngDown g (i := min n m) (((f_callB g (c_min2 g) (T.fr "min") (av_cons (((f_name g 0)).v) (av_cons (((f_name g 1)).v) av_nil)))).v) ((f_int).v) (((f_neg ((f_int).v))).v) (by have := hp.2.2.1; have := hp.1; omega) (by have := hp.2.2.2.1; omega) (T.fr "range")) (by repeat (first | exact trivial | refine ⟨.inr rfl, ?_⟩ | refine ⟨.inl rfl, ?_⟩)) (gf.pg (j := 3) rfl rfl) (fun _ _ _ => tx_name 3) (fun i2 x3 hx4 => s_to (s_le (ρ2 := [.fz (.int n), .fz (.int m), .ow (.lst (((((List.range (min n m).toNat).take i2).flatMap (partF F n m)) ++ (partF F n m) x3).map (fun (z : List Int) => .tup (z.map D.int)))), .un, .un]) (s_cons (s_ext (ds := ((((List.range (min n m).toNat).take i2).flatMap (partF F n m)).map (fun (z : List Int) => .tup (z.map D.int)))) g 2 (((LcS.n (lc_G g (xs := partL F (n - ((min n m) - (x3 : Int))) ((min n m) - (x3 : Int))) (own := [("_law_rest", 4)]) (out := (fun x5 => (.tup ((((min n m) - (x3 : Int)) :: x5).map D.int)))) (ItS.g (it_lst (((f_call g (d := (.lst ((partL F (n - ((min n m) - (x3 : Int))) ((min n m) - (x3 : Int))).map (fun (z : List Int) => .tup (z.map D.int))))) (ih (base := X.base)) (Nat.le_refl _) (a_cons (f_op o_sub (((f_name g 0)).v) (((f_name g 3)).v)) (a_cons (f_name g 3) a_nil)) ⟨_, _, (by have h1 := List.mem_range.mp (List.mem_of_getElem? hx4); have h2 := hp.2.1; have h3 := hp.2.2.2.1; have h4 := hp.2.2.1; have h5 := hp.1; have h6 := hp.2.2.2.2; exact ⟨by omega, by omega, by omega, by omega, by omega⟩), rfl, rfl⟩)).v))) (blkOk_by (by decide +kernel)) (pgb g 4) (fun _ _ => tg_name 4) (fun _ _ _ _ _ x5 m6 => (SemF.is (d' := (.tup ((((min n m) - (x3 : Int)) :: x5).map D.int))) (f_catT (ds := [(.int ((min n m) - (x3 : Int)))]) (es := (x5.map D.int)) (f_tup (a_cons (f_name (g.blk _ _ _ _ _ _) 3) a_nil) (by simp)) (f_name (g.blk _ _ _ _ _ _) 4) (by have h1 := partL_el F _ _ x5 m6; have h2 := hp.2.2.2.2; simp only [List.length_map, List.length_cons, List.length_nil]; omega)) rfl)) (by have h1 := List.mem_range.mp (List.mem_of_getElem? hx4); have h2 := hp.2.1; have h3 := hp.2.2.2.1; have h4 := hp.2.2.1; have h5 := hp.1; have h6 := hp.2.2.2.2; have h7 := partL_len F (n - ((min n m) - (x3 : Int))) ((min n m) - (x3 : Int)) (by omega) (by omega); omega))).n).f) (by have h1 := List.mem_range.mp (List.mem_of_getElem? hx4); have h2 := hp.2.1; have h3 := hp.2.2.2.1; have h4 := hp.2.2.1; have h5 := hp.1; have h6 := hp.2.2.2.2; have h7 := partL_len F (n - ((min n m) - (x3 : Int))) ((min n m) - (x3 : Int)) (by omega) (by omega); have h8 := parts_pre (F := F) (n := n) (m := m) i2 (by omega) (by omega) (by omega); rw [List.length_map, List.length_map]; omega)) <| s_at (ρ1 := [.fz (.int n), .fz (.int m), .ow (.lst (((((List.range (min n m).toNat).take i2).flatMap (partF F n m)) ++ (partF F n m) x3).map (fun (z : List Int) => .tup (z.map D.int)))), .fz (.int ((min n m) - (x3 : Int))), .un]) (s_nil) (by simp only [partF, List.map_append, List.map_map]; rfl))) (by rw [take_snoc hx4, List.flatMap_append, List.flatMap_cons, List.flatMap_nil, List.append_nil]))) <| s_at (ρ1 := [.fz (.int n), .fz (.int m), .ow (.lst (((List.range (min n m).toNat).flatMap (partF F n m)).map (fun (z : List Int) => .tup (z.map D.int)))), .un, .un]) (s_frz 2 rfl <| s_last (s_ret (f_name g 2))) (by rw [List.take_length])) (by simp only [c1, Bool.false_eq_true, if_false]))) (by show _ = D.lst (List.map _ (ite _ _ _)); split <;> rfl)
def rowD (r : List (Str × Int) × Int) : D := .tup [.tup (r.1.map pD), .int r.2]
def trRow (off : Int) (n : Str) (r : List (Str × Int) × Int) : List (List (Str × Int) × Int) := (List.range (min off r.2 + 1).toNat).map fun (k : Nat) => (r.1 ++ [(n, (k : Int))], r.2 - (k : Int))
theorem trRow_map (off : Int) (n : Str) (r : List (Str × Int) × Int) : (trRow off n r).map rowD = (List.range (min off r.2 + 1).toNat).map fun (k : Nat) => .tup [.tup ((r.1 ++ [(n, (k : Int))]).map pD), .int (r.2 - (k : Int))] := by
  unfold trRow
  rw [List.map_map]
  rfl
def trAll (off : Int) (kept : List (Str × Int)) (r : List (Str × Int) × Int) : List (List (Str × Int)) := (partL 13 r.2 off).map (trOne kept r.1)
def TrOk (off : Int) (kept : List (Str × Int)) (lost : Int) : Prop := 0 ≤ off ∧ off ≤ 2 ∧ 0 ≤ lost ∧ lost ≤ 12 ∧ (kept.map (·.1)).Nodup ∧ kept.length ≤ 10
theorem tr_row {off lost : Int} {kept : List (Str × Int)} (h : TrOk off kept lost) (i : Nat) : ∀ r ∈ (NM5.take i).foldl (trStep off) [([], lost)], RowOk lost 5 r := fun r hr => by
  have h1 := trF_ok h.1 (NM5.take i) 0 [([], lost)] (fun q hq => by
    rw [List.mem_singleton.mp hq]
    exact ⟨h.2.2.1, Int.le_refl _, Nat.le_refl _⟩) r hr
  have h2 := take_len NM5 i
  have h3 : NM5.length = 5 := rfl
  obtain ⟨k1, k2, k3⟩ := h1
  exact ⟨k1, k2, by omega⟩
theorem tr_rows {off lost : Int} {kept : List (Str × Int)} (h : TrOk off kept lost) : ∀ r ∈ trRows off lost, RowOk lost 5 r := by
  have := tr_row h 5
  exact this
theorem tr_len {off lost : Int} {kept : List (Str × Int)} (h : TrOk off kept lost) (i : Nat) : ((NM5.take i).foldl (trStep off) [([], lost)]).length ≤ 243 := by
  have h1 := trF_len off h.2.1 (NM5.take i) [([], lost)]
  have h2 := take_len NM5 i
  have h3 : NM5.length = 5 := rfl
  have h4 : 3 ^ (NM5.take i).length ≤ 3 ^ 5 := Nat.pow_le_pow_right (by decide) (by omega)
  have h5 : [(([] : List (Str × Int)), lost)].length = 1 := rfl
  rw [h5, Nat.one_mul] at h1
  exact Nat.le_trans h1 h4
theorem trRow_len {off : Int} (h : off ≤ 2) (n : Str) (r : List (Str × Int) × Int) : (trRow off n r).length ≤ 3 := by
  unfold trRow
  rw [List.length_map, List.length_range]
  omega
theorem tr_pre {off : Int} (h : off ≤ 2) (n : Str) (rows : List (List (Str × Int) × Int)) (j : Nat) : ((rows.take j).flatMap (trRow off n)).length ≤ rows.length * 3 := by
  have h1 := flatMap_len (l := rows.take j) (f := trRow off n) (B := 3) fun r _ => trRow_len h n r
  have h2 := take_len rows j
  omega
theorem trAll_len {off lost : Int} {kept : List (Str × Int)} (h : TrOk off kept lost) {r : List (Str × Int) × Int} (hr : r ∈ trRows off lost) : (trAll off kept r).length ≤ 13 := by
  unfold trAll
  rw [List.length_map]
  have h1 := tr_rows h r hr
  have h2 := partL_len 13 r.2 off h1.1 h.2.1
  have h3 := h1.2.1
  have h4 := h.2.2.2.1
  omega
theorem tr_pre2 {off lost : Int} {kept : List (Str × Int)} (h : TrOk off kept lost) (j : Nat) : (((trRows off lost).take j).flatMap (trAll off kept)).length ≤ 243 * 13 := by
  have h1 := flatMap_len (l := (trRows off lost).take j) (f := trAll off kept) (B := 13) fun r hr => trAll_len h (List.mem_of_mem_take hr)
  have h2 := take_len (trRows off lost) j
  have h3 := tr_len h 5
  have h4 : (trRows off lost).length = ((NM5.take 5).foldl (trStep off) [([], lost)]).length := rfl
  have h5 : ((trRows off lost).take j).length * 13 ≤ 243 * 13 := Nat.mul_le_mul_right _ (by omega)
  exact Nat.le_trans h1 h5
def trPutF (ps : List Int) (d : List (Str × Int)) (i : Nat) : List (Str × Int) := putI d (yName i) (ps.getD i 0)
theorem trPutF_len (ps : List Int) : ∀ (l : List Nat) (d : List (Str × Int)), (l.foldl (trPutF ps) d).length ≤ d.length + l.length
  | [], d => Nat.le_refl _
  | i :: r, d => by
    rw [List.foldl_cons, List.length_cons]
    have h1 := trPutF_len ps r (trPutF ps d i)
    have h2 : (trPutF ps d i).length ≤ d.length + 1 := putI_len d (yName i) (ps.getD i 0)
    omega
theorem trPutF_nd (ps : List Int) : ∀ (l : List Nat) (d : List (Str × Int)), (d.map (·.1)).Nodup → ((l.foldl (trPutF ps) d).map (·.1)).Nodup
  | [], d, h => h
  | i :: r, d, h => by
    rw [List.foldl_cons]
    exact trPutF_nd ps r _ (putI_nd _ _ h)
theorem trPut_nd {d : List (Str × Int)} (ps : List Int) (h : (d.map (·.1)).Nodup) : ((trPut d ps).map (·.1)).Nodup := trPutF_nd ps (List.range ps.length) d h
theorem trPut_len (d : List (Str × Int)) (ps : List Int) : (trPut d ps).length ≤ d.length + ps.length := by
  have := trPutF_len ps (List.range ps.length) d
  rw [List.length_range] at this
  exact this
theorem sign15 : ∀ n : Nat, n < 15 → atI ("abcdefghijklmno" : Str).cps.toList (n : Int) = some (97 + n) := by decide +kernel
def R_law_truths : List D → D → Prop := fun ds d => ∃ (off : Int) (kept : List (Str × Int)) (lost : Int), TrOk off kept lost ∧ ds = [(.int off), (.dct kept), (.int lost)] ∧ d = .lst ((trL 13 off kept lost).map D.dct)
theorem w_law_truths (T : Top K w mg) : Fn P w K mg base "_law_truths" 15 R_law_truths := by
  refine fn_top T 86 ["_law_off", "_law_kept", "_law_lost", "_law_rows", "_law_name", "_law_found", "_law_later", "_law_taken", "_law_left", "_law_parts_here", "_law_counts", "_law_at", "_law_number"] ["_law_off", "_law_kept", "_law_lost"] (by decide) (by decide +kernel) (fun _ _ _ _ _ _ us hl => match us, hl with | [_, _, _], _ => rfl) (by rintro _ _ ⟨off, kept, lost, hp, rfl, rfl⟩; rfl) ?_
  intro X gf eP ew eK em eb ds d hR
  subst eP ew eK em eb
  obtain ⟨off, kept, lost, hp, rfl, rfl⟩ := hR
  have hsc := Eq.refl (defScope (top 86))
  conv at hsc => rhs; whnf
  rw [hsc] at gf
  have g := gf.g
  refine .inl (?_ : Dos X _ [.fz (.int off), .fz (.dct kept), .fz (.int lost), .un, .un, .un, .un, .un, .un, .un, .un, .un, .un] (.rt (.lst ((trL 13 off kept lost).map D.dct))))
  exact s_out (s_cons (s_new gf 3 (n_lst (a_cons (f_tup (a_cons (f_tup a_nil (by simp)) (a_cons (f_name g 2) a_nil)) (by simp)) a_nil) (by simp))) <| s_frz 3 rfl <| s_cons (s_for gf (xs := NM5) (rs := (fun i1 => [.fz (.int off), .fz (.dct kept), .fz (.int lost), .fz (.lst (((NM5.take i1).foldl (trStep off) [([], lost)]).map rowD)), .un, .un, .un, .un, .un, .un, .un, .un, .un])) (if_lst (xs := NM5) (enc := D.str) (((n_lst (a_cons f_str (a_cons f_str (a_cons f_str (a_cons f_str (a_cons f_str a_nil))))) (by simp))).f)) (by repeat (first | exact trivial | refine ⟨.inr rfl, ?_⟩ | refine ⟨.inl rfl, ?_⟩)) (gf.pg (j := 4) rfl rfl) (fun _ _ _ => tx_name 4) (fun i1 x2 hx3 => s_to (s_le (ρ2 := [.fz (.int off), .fz (.dct kept), .fz (.int lost), .fz (.lst ((((NM5.take i1).foldl (trStep off) [([], lost)]).flatMap (trRow off x2)).map rowD)), .un, .un, .un, .un, .un, .un, .un, .un, .un]) (s_cons (s_new gf 6 (n_lst a_nil (by simp))) <| s_cons (s_for gf (xs := (NM5.take i1).foldl (trStep off) [([], lost)]) (rs := (fun i4 => [.fz (.int off), .fz (.dct kept), .fz (.int lost), .fz (.lst (((NM5.take i1).foldl (trStep off) [([], lost)]).map rowD)), .fz (.str x2), .un, .ow (.lst (((((NM5.take i1).foldl (trStep off) [([], lost)]).take i4).flatMap (trRow off x2)).map rowD)), .un, .un, .un, .un, .un, .un])) (if_lst (xs := (NM5.take i1).foldl (trStep off) [([], lost)]) (enc := rowD) (f_name g 3)) (by repeat (first | exact trivial | refine ⟨.inr rfl, ?_⟩ | refine ⟨.inl rfl, ?_⟩)) (gf.pg2 7 8) (fun _ _ _ => tx_pair 7 8) (fun i4 x5 hx6 => s_to (s_le (ρ2 := [.fz (.int off), .fz (.dct kept), .fz (.int lost), .fz (.lst (((NM5.take i1).foldl (trStep off) [([], lost)]).map rowD)), .fz (.str x2), .un, .ow (.lst ((((((NM5.take i1).foldl (trStep off) [([], lost)]).take i4).flatMap (trRow off x2)) ++ trRow off x2 x5).map rowD)), .un, .un, .un, .un, .un, .un]) (s_cons (s_ext (ds := (((((NM5.take i1).foldl (trStep off) [([], lost)]).take i4).flatMap (trRow off x2)).map rowD)) g 6 (((LcS.n (lc_G g (xs := List.range ((min off x5.2) + 1).toNat) (own := [("_law_number", 12)]) (out := (fun x7 => (.tup [(.tup ((x5.1 ++ [(x2, (x7 : Int))]).map pD)), (.int (x5.2 - (x7 : Int)))]))) (ItS.g (it_rng g (((f_op o_add (((f_callB g (c_min2 g) (T.fr "min") (av_cons (((f_name g 0)).v) (av_cons (((f_name g 8)).v) av_nil)))).v) ((f_int).v))).v) (by have h1 := hp.1; have h2 := (tr_row hp i1 x5 (List.mem_of_getElem? hx6)).1; omega) (by have h1 := hp.2.1; omega) (T.fr "range"))) (blkOk_by (by decide +kernel)) (pgb g 12) (fun _ _ => tg_name 12) (fun _ _ _ _ _ x7 m8 => (f_tup (a_cons (SemF.is (d' := (.tup ((x5.1 ++ [(x2, (x7 : Int))]).map pD))) (f_catT (ds := (x5.1.map pD)) (es := [(.tup [(.str x2), (.int (x7 : Int))])]) (f_name (g.blk _ _ _ _ _ _) 7) (f_tup (a_cons (f_tup (a_cons (f_name (g.blk _ _ _ _ _ _) 4) (a_cons (f_name (g.blk _ _ _ _ _ _) 12) a_nil)) (by simp)) a_nil) (by simp)) (by have h2 := (tr_row hp i1 x5 (List.mem_of_getElem? hx6)).2.2; simp only [List.length_map, List.length_cons, List.length_nil]; omega)) (by rw [List.map_append]; rfl)) (a_cons (f_op o_sub (((f_name (g.blk _ _ _ _ _ _) 8)).v) (((f_name (g.blk _ _ _ _ _ _) 12)).v)) a_nil)) (by simp))) (by have h1 := hp.2.1; rw [List.length_range]; omega))).n).f) (by have h1 := tr_pre hp.2.1 x2 ((NM5.take i1).foldl (trStep off) [([], lost)]) i4; have h2 := tr_len hp i1; have h3 := trRow_len hp.2.1 x2 x5; unfold trRow at h3; rw [List.length_map] at h3; rw [List.length_map, List.length_map]; omega)) <| s_at (ρ1 := [.fz (.int off), .fz (.dct kept), .fz (.int lost), .fz (.lst (((NM5.take i1).foldl (trStep off) [([], lost)]).map rowD)), .fz (.str x2), .un, .ow (.lst ((((((NM5.take i1).foldl (trStep off) [([], lost)]).take i4).flatMap (trRow off x2)) ++ trRow off x2 x5).map rowD)), .fz (.tup (x5.1.map pD)), .fz (.int x5.2), .un, .un, .un, .un]) (s_nil) (by rw [List.map_append, trRow_map]; rfl))) (by rw [take_snoc hx6, List.flatMap_append, List.flatMap_cons, List.flatMap_nil, List.append_nil]))) <| s_at (ρ1 := [.fz (.int off), .fz (.dct kept), .fz (.int lost), .fz (.lst (((NM5.take i1).foldl (trStep off) [([], lost)]).map rowD)), .fz (.str x2), .un, .ow (.lst ((((NM5.take i1).foldl (trStep off) [([], lost)]).flatMap (trRow off x2)).map rowD)), .un, .un, .un, .un, .un, .un]) (s_frz 6 rfl <| s_cons (s_set gf 3 (f_name g 6)) <| s_nil) (by rw [List.take_length]))) (by rw [foldl_take hx3]; rfl))) <| s_at (ρ1 := [.fz (.int off), .fz (.dct kept), .fz (.int lost), .fz (.lst ((trRows off lost).map rowD)), .un, .un, .un, .un, .un, .un, .un, .un, .un]) (s_cons (s_new gf 5 (n_lst a_nil (by simp))) <| s_cons (s_for gf (xs := trRows off lost) (rs := (fun iB => [.fz (.int off), .fz (.dct kept), .fz (.int lost), .fz (.lst ((trRows off lost).map rowD)), .un, .ow (.lst ((((trRows off lost).take iB).flatMap (trAll off kept)).map D.dct)), .un, .un, .un, .un, .un, .un, .un])) (if_lst (xs := trRows off lost) (enc := rowD) (f_name g 3)) (by repeat (first | exact trivial | refine ⟨.inr rfl, ?_⟩ | refine ⟨.inl rfl, ?_⟩)) (gf.pg2 7 8) (fun _ _ _ => tx_pair 7 8) (fun iB xB hB => s_to (s_le (ρ2 := [.fz (.int off), .fz (.dct kept), .fz (.int lost), .fz (.lst ((trRows off lost).map rowD)), .un, .ow (.lst (((((trRows off lost).take iB).flatMap (trAll off kept)) ++ (partL 13 xB.2 off).map (trOne kept xB.1)).map D.dct)), .un, .un, .un, .un, .un, .un, .un]) (s_cons (s_for gf (xs := partL 13 xB.2 off) (rs := (fun iC => [.fz (.int off), .fz (.dct kept), .fz (.int lost), .fz (.lst ((trRows off lost).map rowD)), .un, .ow (.lst (((((trRows off lost).take iB).flatMap (trAll off kept)) ++ ((partL 13 xB.2 off).take iC).map (trOne kept xB.1)).map D.dct)), .un, .fz (.tup (xB.1.map pD)), .fz (.int xB.2), .un, .un, .un, .un])) (if_lst (xs := partL 13 xB.2 off) (enc := (fun (z : List Int) => .tup (z.map D.int))) (f_call g (d := (.lst ((partL 13 xB.2 off).map (fun (z : List Int) => .tup (z.map D.int))))) (w_law_parts T 13) (by decide) (a_cons (f_name g 8) (a_cons (f_name g 0) a_nil)) ⟨_, _, (by have h1 := tr_rows hp xB (List.mem_of_getElem? hB); have h2 := h1.1; have h3 := h1.2.1; have h4 := hp.2.2.2.1; have h5 := hp.1; have h6 := hp.2.1; exact ⟨by omega, by omega, by omega, by omega, by omega⟩), rfl, rfl⟩)) (by repeat (first | exact trivial | refine ⟨.inr rfl, ?_⟩ | refine ⟨.inl rfl, ?_⟩ | refine ⟨.inr (by simp), ?_⟩)) (gf.pg (j := 9) rfl rfl) (fun _ _ _ => tx_name 9) (fun iC xC hC => s_to (s_le (ρ2 := [.fz (.int off), .fz (.dct kept), .fz (.int lost), .fz (.lst ((trRows off lost).map rowD)), .un, .ow (.lst ((((((trRows off lost).take iB).flatMap (trAll off kept)) ++ ((partL 13 xB.2 off).take iC).map (trOne kept xB.1)) ++ [trOne kept xB.1 xC]).map D.dct)), .un, .fz (.tup (xB.1.map pD)), .fz (.int xB.2), .un, .un, .un, .un]) (s_cons (s_new gf 10 (n_callT g c_dictD (T.fr "dict") (av_cons (((f_name g 1)).v) av_nil))) <| s_cons (s_for gf (xs := xB.1) (rs := (fun i9 => [.fz (.int off), .fz (.dct kept), .fz (.int lost), .fz (.lst ((trRows off lost).map rowD)), .un, .ow (.lst (((((trRows off lost).take iB).flatMap (trAll off kept)) ++ ((partL 13 xB.2 off).take iC).map (trOne kept xB.1)).map D.dct)), .un, .fz (.tup (xB.1.map pD)), .fz (.int xB.2), .fz (.tup (xC.map D.int)), .ow (.dct (addAll kept (xB.1.take i9))), .un, .un])) (if_tup (xs := xB.1) (enc := pD) (f_name g 7)) (by repeat (first | exact trivial | refine ⟨.inr rfl, ?_⟩ | refine ⟨.inl rfl, ?_⟩)) (gf.pg2 4 12) (fun _ _ _ => tx_pair 4 12) (fun i9 x10 hx11 => s_to (s_le (ρ2 := [.fz (.int off), .fz (.dct kept), .fz (.int lost), .fz (.lst ((trRows off lost).map rowD)), .un, .ow (.lst (((((trRows off lost).take iB).flatMap (trAll off kept)) ++ ((partL 13 xB.2 off).take iC).map (trOne kept xB.1)).map D.dct)), .un, .fz (.tup (xB.1.map pD)), .fz (.int xB.2), .fz (.tup (xC.map D.int)), .ow (.dct (putI (addAll kept (xB.1.take i9)) x10.1 (((dgo (addAll kept (xB.1.take i9)) x10.1).getD 0) + x10.2))), .un, .un]) (s_cons (s_dput (kvs := addAll kept (xB.1.take i9)) g 10 (((f_op o_add (((f_get g (v_own g 10) (((f_name g 4)).v) ((f_int).v))).v) (((f_name g 12)).v))).v) (((f_name g 4)).v) (by have h1 := addAll_len kept (xB.1.take i9); have h2 := take_len xB.1 i9; have h4 := (tr_rows hp xB (List.mem_of_getElem? hB)).2.2; have h5 := hp.2.2.2.2.2; omega)) <| s_nil)) (by unfold addAll; rw [foldl_take hx11]))) <| s_at (ρ1 := [.fz (.int off), .fz (.dct kept), .fz (.int lost), .fz (.lst ((trRows off lost).map rowD)), .un, .ow (.lst (((((trRows off lost).take iB).flatMap (trAll off kept)) ++ ((partL 13 xB.2 off).take iC).map (trOne kept xB.1)).map D.dct)), .un, .fz (.tup (xB.1.map pD)), .fz (.int xB.2), .fz (.tup (xC.map D.int)), .ow (.dct (addAll kept xB.1)), .un, .un]) (s_cons (s_for gf (xs := List.range xC.length) (rs := (fun i12 => [.fz (.int off), .fz (.dct kept), .fz (.int lost), .fz (.lst ((trRows off lost).map rowD)), .un, .ow (.lst (((((trRows off lost).take iB).flatMap (trAll off kept)) ++ ((partL 13 xB.2 off).take iC).map (trOne kept xB.1)).map D.dct)), .un, .fz (.tup (xB.1.map pD)), .fz (.int xB.2), .fz (.tup (xC.map D.int)), .ow (.dct (((List.range xC.length).take i12).foldl (trPutF xC) (addAll kept xB.1))), .un, .un])) (if_rng g (i := (xC.length : Int)) (((f_callB g c_lenTM (T.fr "len") (av_cons (((f_name g 9)).v) av_nil))).v) (by omega) (by have h6 := partL_el 13 _ _ xC (List.mem_of_getElem? hC); omega) (T.fr "range")) (by repeat (first | exact trivial | refine ⟨.inr rfl, ?_⟩ | refine ⟨.inl rfl, ?_⟩)) (gf.pg (j := 11) rfl rfl) (fun _ _ _ => tx_name 11) (fun i12 x13 hx14 => s_to (s_le (ρ2 := [.fz (.int off), .fz (.dct kept), .fz (.int lost), .fz (.lst ((trRows off lost).map rowD)), .un, .ow (.lst (((((trRows off lost).take iB).flatMap (trAll off kept)) ++ ((partL 13 xB.2 off).take iC).map (trOne kept xB.1)).map D.dct)), .un, .fz (.tup (xB.1.map pD)), .fz (.int xB.2), .fz (.tup (xC.map D.int)), .ow (.dct (putI (((List.range xC.length).take i12).foldl (trPutF xC) (addAll kept xB.1)) (("y" : Str) ++ (⟨#[97 + x13]⟩ : Str)) (xC.getD x13 0))), .un, .un]) (s_cons (s_dput (kvs := ((List.range xC.length).take i12).foldl (trPutF xC) (addAll kept xB.1)) g 10 (((f_ixT (((f_name g 9)).v) (((f_name g 11)).v) (at_map (xs := xC) (enc := D.int) (atI_getI (xs := xC) (x := (x13 : Int)) (by omega) (by have h1 := List.mem_range.mp (List.mem_of_getElem? hx14); omega))))).v) (((f_op (o_addS (u := "y") (w := ⟨#[97 + x13]⟩) (by first | decide +kernel | (show 1 + 1 ≤ _; rw [sizeLine_eq]; decide))) ((f_str).v) (((f_ixS ((f_str).v) (((f_name g 11)).v) (by first | decide +kernel | (show 1 + 1 ≤ _; rw [sizeLine_eq]; decide)) (sign15 x13 (by have h1 := List.mem_range.mp (List.mem_of_getElem? hx14); have h6 := partL_el 13 _ _ xC (List.mem_of_getElem? hC); omega)))).v))).v) (by have h1 := trPutF_len xC ((List.range xC.length).take i12) (addAll kept xB.1); have h2 := take_len (List.range xC.length) i12; have h3 := addAll_len kept xB.1; have h4 := (tr_rows hp xB (List.mem_of_getElem? hB)).2.2; have h5 := hp.2.2.2.2.2; have h6 := partL_el 13 _ _ xC (List.mem_of_getElem? hC); rw [List.length_range] at h2; omega)) <| s_nil)) (by rw [foldl_take hx14]; rfl))) <| s_at (ρ1 := [.fz (.int off), .fz (.dct kept), .fz (.int lost), .fz (.lst ((trRows off lost).map rowD)), .un, .ow (.lst (((((trRows off lost).take iB).flatMap (trAll off kept)) ++ ((partL 13 xB.2 off).take iC).map (trOne kept xB.1)).map D.dct)), .un, .fz (.tup (xB.1.map pD)), .fz (.int xB.2), .fz (.tup (xC.map D.int)), .ow (.dct (trPut (addAll kept xB.1) xC)), .un, .un]) (s_cons (s_app (ds := (((((trRows off lost).take iB).flatMap (trAll off kept)) ++ ((partL 13 xB.2 off).take iC).map (trOne kept xB.1)).map D.dct)) g 5 (((SemN.is (d' := (.dct (((trPut (addAll kept xB.1) xC).filter fun x15 => decide (0 < x15.2)).map fun z => (z.1, z.2)))) (n_callT g (c_dictL g (kvs := ((trPut (addAll kept xB.1) xC).filter fun x15 => decide (0 < x15.2)).map fun z => (z.1, z.2))) (T.fr "dict") (av_cons (((((SemNG.lock (d_own g 10) (LcS.n (lc_If g (xs := trPut (addAll kept xB.1) xC) (own := [("_law_name", 4)]) (out := (fun x15 => (.tup [(.str x15.1), (.int x15.2)]))) (fl := fun x15 => decide (0 < x15.2)) it_keysI (blkOk_by (by decide +kernel)) (pgb g 4) (fun _ _ => tg_name 4) (fun _ _ _ _ _ x15 m16 => (t_cmp o_gt (((f_ixD (g.blk _ _ _ _ _ _) (v_own (g.blk _ _ _ _ _ _) 10) (((f_name (g.blk _ _ _ _ _ _) 4)).v) (dgo_mem (trPut_nd xC (addAll_nd xB.1 hp.2.2.2.2.1)) m16))).v) ((f_int).v))) (fun _ _ _ _ _ x15 m16 h17 => (f_tup (a_cons (f_name (g.blk _ _ _ _ _ _) 4) (a_cons (f_ixD (g.blk _ _ _ _ _ _) (v_own (g.blk _ _ _ _ _ _) 10) (((f_name (g.blk _ _ _ _ _ _) 4)).v) (dgo_mem (trPut_nd xC (addAll_nd xB.1 hp.2.2.2.2.1)) m16)) a_nil)) (by simp))) (by have h1 := trPut_len (addAll kept xB.1) xC; have h3 := addAll_len kept xB.1; have h4 := (tr_rows hp xB (List.mem_of_getElem? hB)).2.2; have h5 := hp.2.2.2.2.2; have h6 := partL_el 13 _ _ xC (List.mem_of_getElem? hC); omega))))).is (map_pD (fun (z : Str × Int) => (z.1, z.2))))).v) av_nil)) (by rw [mergeI_nil (map_keys (trPut_nd xC (addAll_nd xB.1 hp.2.2.2.2.1)))]))).f) (by have h1 := tr_pre2 hp iB; have h2 := take_len (partL 13 xB.2 off) iC; have h3 := trAll_len hp (List.mem_of_getElem? hB); unfold trAll at h3; rw [List.length_map] at h3; rw [List.length_map, List.length_append, List.length_map]; omega)) <| s_at (ρ1 := [.fz (.int off), .fz (.dct kept), .fz (.int lost), .fz (.lst ((trRows off lost).map rowD)), .un, .ow (.lst ((((((trRows off lost).take iB).flatMap (trAll off kept)) ++ ((partL 13 xB.2 off).take iC).map (trOne kept xB.1)) ++ [trOne kept xB.1 xC]).map D.dct)), .un, .fz (.tup (xB.1.map pD)), .fz (.int xB.2), .fz (.tup (xC.map D.int)), .ow (.dct (trPut (addAll kept xB.1) xC)), .un, .un]) (s_nil) (by first | (simp only [List.map_append, map_eta]; done) | (simp only [List.map_append, map_eta]; rfl))) (by rw [List.take_length]; rfl)) (by rw [List.take_length]))) (by first | (simp only [take_snoc hC, List.map_append, List.append_assoc]; done) | (simp only [take_snoc hC, List.map_append, List.append_assoc]; rfl)))) <| s_at (ρ1 := [.fz (.int off), .fz (.dct kept), .fz (.int lost), .fz (.lst ((trRows off lost).map rowD)), .un, .ow (.lst (((((trRows off lost).take iB).flatMap (trAll off kept)) ++ (partL 13 xB.2 off).map (trOne kept xB.1)).map D.dct)), .un, .fz (.tup (xB.1.map pD)), .fz (.int xB.2), .un, .un, .un, .un]) (s_nil) (by rw [List.take_length]))) (by rw [take_snoc hB, List.flatMap_append, List.flatMap_cons, List.flatMap_nil, List.append_nil]; rfl))) <| s_at (ρ1 := [.fz (.int off), .fz (.dct kept), .fz (.int lost), .fz (.lst ((trRows off lost).map rowD)), .un, .ow (.lst ((trL 13 off kept lost).map D.dct)), .un, .un, .un, .un, .un, .un, .un]) (s_frz 5 rfl <| s_last (s_ret (f_name g 5))) (by rw [List.take_length]; rfl)) (by rfl)) rfl
end
end KD

set_option Elab.async false
set_option linter.all false
set_option maxRecDepth 100000
set_option maxHeartbeats 2000000
namespace KD
open PySem PySem.Spec PyProof.Rows L2
local instance : Vol := volNone
section
variable {P : Program} {w : World} {K : PySem.W.Frag} {mg : Str → Option Value} {base : Heap}

structure PrOk (s : Sk) (c : List (Str × Int)) : Prop where
  nd : (c.map (·.1)).Nodup
  len : c.length ≤ 1000
  pap : PapOk s (srtP c)
  rit : ritL s (srtP c) = true
  tree : TreeOk (paperS s (layL s.off.toNat (repL (tkL s (srtP c)))))
  cl : (countedL (paperS s (layL s.off.toNat (repL (tkL s (srtP c)))))).length = c.length
  ce : ∀ p ∈ countedL (paperS s (layL s.off.toNat (repL (tkL s (srtP c))))), dgo c p.1 = some p.2
  led : LedOk s.room (paperS s (layL s.off.toNat (repL (tkL s (srtP c)))))
  hnd : ((((ledL s.room (paperS s (layL s.off.toNat (repL (tkL s (srtP c)))))).headD (0, [])).2.map (·.1))).Nodup
  hlen : ((ledL s.room (paperS s (layL s.off.toNat (repL (tkL s (srtP c)))))).headD (0, [])).2.length ≤ 1000
  eq : skS s.room s.many ((ledL s.room (paperS s (layL s.off.toNat (repL (tkL s (srtP c)))))).headD (0, [])) = s
  lay : ∀ q ∈ s.kept, PyData.canLay0 (.str q.1) = true
def R_law_paper_right : List D → D → Prop := fun ds d => ∃ (s : Sk) (c : List (Str × Int)), PrOk s c ∧ ds = [(.tup [(.int s.room), (.int s.many), (.int s.off), (.tup (s.kept.map pD))]), (.dct c)] ∧ d = .bl true
theorem w_law_paper_right (T : Top K w mg) : Fn P w K mg base "_law_paper_right" 6 R_law_paper_right := by
  refine fn_top T 88 ["_law_sketch_here", "_law_counts", "_law_tree"] ["_law_sketch_here", "_law_counts"] (by decide) (by decide +kernel) (fun _ _ _ _ _ _ us hl => match us, hl with | [_, _], _ => rfl) (by rintro _ _ ⟨s, c, hp, rfl, rfl⟩; rfl) ?_
  intro X gf eP ew eK em eb ds d hR
  subst eP ew eK em eb
  obtain ⟨s, c, hp, rfl, rfl⟩ := hR
  have hsc := Eq.refl (defScope (top 88))
  conv at hsc => rhs; whnf
  rw [hsc] at gf
  have g := gf.g
  refine .inl (?_ : Dos X _ [.fz (.tup [(.int s.room), (.int s.many), (.int s.off), (.tup (s.kept.map pD))]), .fz (.dct c), .un] (.rt (.bl true)))
  exact s_out (s_cons (s_set gf 2 (f_call g (d := (.tup ((paperS s (layL s.off.toNat (repL (tkL s (srtP c))))).map stpD))) (w_paper T) (by decide) (a_cons (f_name g 0) (a_cons (f_call g (d := (.tup ((srtP c).map pD))) (w_law_as_counts T) (by decide) (a_cons (f_name g 1) a_nil) ⟨_, ⟨hp.nd, hp.len⟩, rfl, rfl⟩) a_nil)) ⟨_, _, ⟨hp.pap, hp.rit⟩, rfl, rfl⟩)) <| s_cons (s_ifn (t_cmp (o_neD g hp.cl hp.ce) (((f_call g (d := (.dct (countedL (paperS s (layL s.off.toNat (repL (tkL s (srtP c)))))))) (w_law_counted T) (by decide) (a_cons (f_name g 2) a_nil) ⟨_, hp.tree, rfl, rfl⟩)).v) (((f_name g 1)).v))) <| s_last (s_ret (f_cmp (o_eqP g (pln_sk (skS s.room s.many ((ledL s.room (paperS s (layL s.off.toNat (repL (tkL s (srtP c)))))).headD (0, [])))) (pln_sk s) (by have h := shp_sk hp.lay; have e := hp.eq; exact (congrArg (fun z => SeqAt.shaped (toP (skD z))) e).trans h) (shp_sk hp.lay)) (((f_call g (d := (.tup [(.int ((skS s.room s.many ((ledL s.room (paperS s (layL s.off.toNat (repL (tkL s (srtP c)))))).headD (0, []))).room)), (.int ((skS s.room s.many ((ledL s.room (paperS s (layL s.off.toNat (repL (tkL s (srtP c)))))).headD (0, []))).many)), (.int ((skS s.room s.many ((ledL s.room (paperS s (layL s.off.toNat (repL (tkL s (srtP c)))))).headD (0, []))).off)), (.tup (((skS s.room s.many ((ledL s.room (paperS s (layL s.off.toNat (repL (tkL s (srtP c)))))).headD (0, []))).kept).map pD))])) (w_law_sketch T) (by decide) (a_cons (f_ixT (((f_name g 0)).v) ((f_int).v) rfl) (a_cons (f_ixT (((f_name g 0)).v) ((f_int).v) rfl) (a_cons (f_call g (d := (.tup [(.int (((ledL s.room (paperS s (layL s.off.toNat (repL (tkL s (srtP c)))))).headD (0, [])).1)), (.dct (((ledL s.room (paperS s (layL s.off.toNat (repL (tkL s (srtP c)))))).headD (0, [])).2))])) (w_law_led T) (by decide) (a_cons (f_ixT (((f_name g 0)).v) ((f_int).v) rfl) (a_cons (f_name g 2) a_nil)) ⟨_, _, hp.led, rfl, rfl⟩) a_nil))) ⟨_, _, ((ledL s.room (paperS s (layL s.off.toNat (repL (tkL s (srtP c)))))).headD (0, [])), ⟨hp.hnd, hp.hlen⟩, rfl, rfl⟩)).v) (((f_name g 0)).v)))) (congrArg D.bl (by have h := eqv_sk hp.lay; rw [← hp.eq] at h; rw [hp.eq] at h; have e := hp.eq; exact (congrArg (fun z => PyData.eqv (toP (skD z)) (toP (skD s))) e).trans h))
structure TlOk (T : List (List (Str × Int))) (kept : List (Str × Int)) : Prop where
  len : T.length ≤ 10000
  cnd : ∀ c ∈ T, (c.map (·.1)).Nodup
  cln : ∀ c ∈ T, c.length ≤ 1000
  has : ∀ c ∈ T, ∀ n ∈ kept.map (·.1), n ∈ c.map (·.1)
  kl : kept.length < 64
  srt : ∀ ys : List Str, ys.Perm (kept.map (·.1)) → sortedS ys = true → ys = kept.map (·.1)
structure AbOk (s : Sk) (T : List (List (Str × Int))) (kept : List (Str × Int)) (m : Int) : Prop where
  t : TlOk T kept
  sk : SkOk s
  m0 : 0 ≤ m
  sa : saL s m = (kept.map (·.1)).filter fun n => T.all fun c => decide (m < (dgo c n).getD 0)
  pa : paL s m = (kept.map (·.1)).filter fun n => T.any fun c => decide (m < (dgo c n).getD 0)
  nw : decide (m < s.off) = T.any fun c => decide (m < (dgo c "ya").getD 0)
theorem isd_str (n : Nat) (x : Str) : isd n (.str x) := by cases n <;> trivial
theorem isd_bl (n : Nat) (b : Bool) : isd n (.bl b) := by cases n <;> trivial
theorem isd_int (n : Nat) (i : Int) : isd n (.int i) := by cases n <;> trivial
theorem isd_non (n : Nat) : isd n .non := by cases n <;> trivial
theorem isd_strs {n : Nat} {l : List Str} (h : l.length ≤ 1000) : isd (n + 1) (.tup (l.map D.str)) := ⟨by rw [List.length_map]; exact h, fun d hd => by
  obtain ⟨x, _, rfl⟩ := List.mem_map.mp hd
  exact isd_str n x⟩
theorem isd_two {n : Nat} {a b : D} (h1 : isd n a) (h2 : isd n b) : isd (n + 1) (.tup [a, b]) := ⟨by simp, fun d hd => by
  rcases List.mem_cons.mp hd with rfl | hd
  · exact h1
  · rw [List.mem_singleton.mp hd]
    exact h2⟩
theorem saL_len (s : Sk) (m : Int) : (saL s m).length ≤ s.kept.length := by
  unfold saL
  rw [List.length_map]
  exact List.length_filter_le _ _
theorem paL_len (s : Sk) (m : Int) : (paL s m).length ≤ s.kept.length := by
  unfold paL
  rw [List.length_map]
  exact List.length_filter_le _ _
def R_law_above_right : List D → D → Prop := fun ds d => ∃ (s : Sk) (ts : List (List (Str × Int))) (kept : List (Str × Int)) (m : Int), AbOk s ts kept m ∧ ds = [(.tup [(.int s.room), (.int s.many), (.int s.off), (.tup (s.kept.map pD))]), (.lst (ts.map D.dct)), (.dct kept), (.int m)] ∧ d = .bl true
theorem w_law_above_right (T : Top K w mg) : Fn P w K mg base "_law_above_right" 6 R_law_above_right := by
  refine fn_top T 90 ["_law_sketch_here", "_law_truths_here", "_law_kept", "_law_most", "_law_surely", "_law_some", "_law_new", "_law_name", "_law_counts"] ["_law_sketch_here", "_law_truths_here", "_law_kept", "_law_most"] (by decide) (by decide +kernel) (fun _ _ _ _ _ _ us hl => match us, hl with | [_, _, _, _], _ => rfl) (by rintro _ _ ⟨s, ts, kept, m, hp, rfl, rfl⟩; rfl) ?_
  intro X gf eP ew eK em eb ds d hR
  subst eP ew eK em eb
  obtain ⟨s, ts, kept, m, hp, rfl, rfl⟩ := hR
  have hsc := Eq.refl (defScope (top 90))
  conv at hsc => rhs; whnf
  rw [hsc] at gf
  have g := gf.g
  refine .inl (?_ : Dos X _ [.fz (.tup [(.int s.room), (.int s.many), (.int s.off), (.tup (s.kept.map pD))]), .fz (.lst (ts.map D.dct)), .fz (.dct kept), .fz (.int m), .un, .un, .un, .un, .un] (.rt (.bl true)))
  exact s_out (s_cons (s_set gf 4 (f_callT g c_tupleL (T.fr "tuple") (av_cons (((LcS.n (lc_If g (xs := (kept.map (·.1))) (own := [("_law_name", 7)]) (out := (fun x1 => (.str x1))) (fl := fun x1 => ts.all fun z => decide (m < ((dgo z x1).getD 0))) (ItS.g (it_lst (((n_callB g (c_srtD g (kvs := kept) (zs := kept.map (·.1)) hp.t.kl hp.t.srt) (T.fr "sorted") (av_cons (((f_name g 2)).v) av_nil))).v))) (blkOk_by (by decide +kernel)) (pgb g 7) (fun _ _ => tg_name 7) (fun _ _ _ _ _ x1 m2 => (t_val (f_callB (g.blk _ _ _ _ _ _) (c_all (g.blk _ _ _ _ _ _)) (T.fr "all") (av_cons (((LcS.n (lc_G (g.blk _ _ _ _ _ _) (xs := ts) (own := [("_law_counts", 8)]) (out := (fun x3 => (.bl (decide (m < ((dgo x3 x1).getD 0)))))) (ItS.g (it_lst (((f_name (g.blk _ _ _ _ _ _) 1)).v))) (blkOk_by (by decide +kernel)) (pgb (g.blk _ _ _ _ _ _) 8) (fun _ _ => tg_name 8) (fun _ _ _ _ _ x3 m4 => (f_cmp o_gt (((f_ixD ((g.blk _ _ _ _ _ _).blk _ _ _ _ _ _) (((f_name ((g.blk _ _ _ _ _ _).blk _ _ _ _ _ _) 8)).v) (((f_name ((g.blk _ _ _ _ _ _).blk _ _ _ _ _ _) 7)).v) (dgo_isSome (hp.t.has x3 m4 x1 m2)))).v) (((f_name ((g.blk _ _ _ _ _ _).blk _ _ _ _ _ _) 3)).v))) (by have := hp.t.len; omega))).n).v) av_nil)))) (fun _ _ _ _ _ x1 m2 h5 => (f_name (g.blk _ _ _ _ _ _) 7)) (by rw [List.length_map]; have := hp.t.kl; omega))).n).v) av_nil))) <| s_cons (s_set gf 5 (f_callT g c_tupleL (T.fr "tuple") (av_cons (((LcS.n (lc_If g (xs := (kept.map (·.1))) (own := [("_law_name", 7)]) (out := (fun x6 => (.str x6))) (fl := fun x6 => ts.any fun z => decide (m < ((dgo z x6).getD 0))) (ItS.g (it_lst (((n_callB g (c_srtD g (kvs := kept) (zs := kept.map (·.1)) hp.t.kl hp.t.srt) (T.fr "sorted") (av_cons (((f_name g 2)).v) av_nil))).v))) (blkOk_by (by decide +kernel)) (pgb g 7) (fun _ _ => tg_name 7) (fun _ _ _ _ _ x6 m7 => (t_val (f_callB (g.blk _ _ _ _ _ _) (c_any (g.blk _ _ _ _ _ _)) (T.fr "any") (av_cons (((LcS.n (lc_G (g.blk _ _ _ _ _ _) (xs := ts) (own := [("_law_counts", 8)]) (out := (fun x8 => (.bl (decide (m < ((dgo x8 x6).getD 0)))))) (ItS.g (it_lst (((f_name (g.blk _ _ _ _ _ _) 1)).v))) (blkOk_by (by decide +kernel)) (pgb (g.blk _ _ _ _ _ _) 8) (fun _ _ => tg_name 8) (fun _ _ _ _ _ x8 m9 => (f_cmp o_gt (((f_ixD ((g.blk _ _ _ _ _ _).blk _ _ _ _ _ _) (((f_name ((g.blk _ _ _ _ _ _).blk _ _ _ _ _ _) 8)).v) (((f_name ((g.blk _ _ _ _ _ _).blk _ _ _ _ _ _) 7)).v) (dgo_isSome (hp.t.has x8 m9 x6 m7)))).v) (((f_name ((g.blk _ _ _ _ _ _).blk _ _ _ _ _ _) 3)).v))) (by have := hp.t.len; omega))).n).v) av_nil)))) (fun _ _ _ _ _ x6 m7 h10 => (f_name (g.blk _ _ _ _ _ _) 7)) (by rw [List.length_map]; have := hp.t.kl; omega))).n).v) av_nil))) <| s_cons (s_set gf 6 (f_callB g (c_any g) (T.fr "any") (av_cons (((LcS.n (lc_G g (xs := ts) (own := [("_law_counts", 8)]) (out := (fun x11 => (.bl (decide (m < ((dgo x11 "ya").getD 0)))))) (ItS.g (it_lst (((f_name g 1)).v))) (blkOk_by (by decide +kernel)) (pgb g 8) (fun _ _ => tg_name 8) (fun _ _ _ _ _ x11 m12 => (f_cmp o_gt (((f_get (g.blk _ _ _ _ _ _) (((f_name (g.blk _ _ _ _ _ _) 8)).v) ((f_str).v) ((f_int).v))).v) (((f_name (g.blk _ _ _ _ _ _) 3)).v))) (by have := hp.t.len; omega))).n).v) av_nil))) <| s_last (s_ret (f_and (f_call g (d := (.bl true)) (w_law_is T 3) (by decide) (a_cons (f_call g (d := (.tup ((saL s m).map D.str))) (w_surely_above T) (by decide) (a_cons (f_name g 0) (a_cons (f_name g 3) a_nil)) ⟨_, _, ⟨hp.sk, hp.m0⟩, rfl, rfl⟩) (a_cons (f_name g 4) a_nil)) ⟨.tup ((saL s m).map D.str), isd_strs (by have h1 := saL_len s m; have h2 := hp.sk.co.2.2; omega), (by rw [hp.sa]), rfl⟩) fun h13 => (f_one (f_call g (d := (.bl true)) (w_law_is T 3) (by decide) (a_cons (f_call g (d := (.tup [(.tup ((paL s m).map D.str)), (.bl (decide (m < s.off)))])) (w_perhaps_above T) (by decide) (a_cons (f_name g 0) (a_cons (f_name g 3) a_nil)) ⟨_, _, ⟨hp.sk, hp.m0⟩, rfl, rfl⟩) (a_cons (f_tup (a_cons (f_name g 5) (a_cons (f_name g 6) a_nil)) (by simp)) a_nil)) ⟨.tup [.tup ((paL s m).map D.str), .bl (decide (m < s.off))], isd_two (isd_strs (by have h1 := paL_len s m; have h2 := hp.sk.co.2.2; omega)) (isd_bl _ _), (by rw [hp.pa, hp.nw]), rfl⟩))))) rfl
theorem s_parN {X : Cx} {N : List Str} {sc : Scope} {k : Nat} {ρ : List SV} {x y : Str} {a b : Expr} {d d' : D} {kt k2 pt2 pt} {p1 py pos : Pos} (g : Gf X N sc k) (i j : Nat) (ha : SemN X a ρ d) (hb : SemN X b ρ d') (hi : N[i]? = some x := by rfl) (hj : N[j]? = some y := by rfl) (hri : i < ρ.length := by exact Nat.le_of_ble_eq_true rfl) (hrj : j < ρ.length := by exact Nat.le_of_ble_eq_true rfl) (hij : i ≠ j := by decide) (hx : locB sc x = true := by rfl) (hy : locB sc y = true := by rfl)
    (hw : swappedStores [.Tuple [.Name x p1, .Name y py] kt pt] (.Tuple [a, b] k2 pt2) (envOfC "" sc 0 0 .none) = pure (some [x, y]) := by rfl) (hs : swapsWithSole [.Tuple [.Name x p1, .Name y py] kt pt] (.Tuple [a, b] k2 pt2) pos.line X.env = pure false := by rfl)
    (h1 : starEach [a, b] X.env = (false, eval a X.env) :: starEach [b] X.env := by rfl) (h2 : starEach [b] X.env = (false, eval b X.env) :: starEach [] X.env := by rfl) :
    Do X (.Assign [.Tuple [.Name x p1, .Name y py] kt pt] (.Tuple [a, b] k2 pt2) pos) ρ (.nx ((ρ.set i (.ow d)).set j (.ow d'))) := fun F0 H0 σ F H E s q =>
  psR (ps_par g.g.calm g.g.ndX (by rw [g.g.hN]; exact hi) (by rw [g.g.hN]; exact hj) hij (by rw [g.g.hsc]; exact loc_of hx) (by rw [g.g.hsc]; exact loc_of hy) (pa_cons peS (pa_cons peS pa_nil h2) h1) ((sw_env g.g.hsc).trans hw) hs)
    (ha σ F H _ s.st.fz s.ok fun p o F1 H1 t k0 kF kH r => by
      have s1 := s.setO t k0 kF kH r hri
      refine hb σ F1 H1 _ t.fz (s.step t).ok fun p' o' F2 H2 t2 k0' kF' kH' r' => ?_
      exact ⟨_, _, rfl, q _ _ _ (s1.setO t2 k0' kF' kH' r' (by rw [List.length_set]; exact hrj))⟩)
def fsB (ts : List (List (Str × Int))) (n : Str) : Bool := ts.all fun c => (c.filter fun z => !decide ((z.1 : Str) = n)).all fun z => decide (z.2 < (dgo c n).getD 0)
def fpB (ts : List (List (Str × Int))) (n : Str) : Bool := ts.any fun c => c.all fun z => decide (z.2 ≤ (dgo c n).getD 0)
def fnB (ts : List (List (Str × Int))) : Bool := ts.any fun c => decide (maxL ((List.map (fun (z : Str × Int) => z.2) c) ++ [1]) ≤ (dgo c "ya").getD 0)
def KS (kept : List (Str × Int)) : List Str := kept.map (·.1)
theorem filt_pos {p : Str → Bool} {xs : List Str} {i : Nat} {x : Str} (hx : xs[i]? = some x) (h : p x = true) : (xs.take (i + 1)).filter p = (xs.take i).filter p ++ [x] := by
  rw [take_snoc hx, List.filter_append, List.filter_cons, if_pos h]
  rfl
theorem filt_neg {p : Str → Bool} {xs : List Str} {i : Nat} {x : Str} (hx : xs[i]? = some x) (h : p x = false) : (xs.take (i + 1)).filter p = (xs.take i).filter p := by
  rw [take_snoc hx, List.filter_append, List.filter_cons, if_neg (by rw [h]; exact Bool.false_ne_true), List.filter_nil, List.append_nil]
theorem pln_strs (xs : List Str) : plnD (.lst (xs.map D.str)) = true := pln_map (fun _ => rfl) xs
theorem lay_strs : ∀ (xs : List Str), (∀ q ∈ xs, PyData.canLay0 (.str q) = true) → PyData.canLayAll0 (toPs (xs.map D.str)) = true ∧ PyData.depthAll (toPs (xs.map D.str)) = 0
  | [], _ => ⟨rfl, rfl⟩
  | q :: r, h => by
    obtain ⟨h1, h2⟩ := lay_strs r fun y hy => h y (List.mem_cons_of_mem _ hy)
    have h3 := h q List.mem_cons_self
    have e : toPs ((q :: r).map D.str) = .str q :: toPs (r.map D.str) := rfl
    rw [e]
    constructor
    · simp only [PyData.canLayAll0, Bool.and_eq_true]
      exact ⟨h3, h1⟩
    · simp only [PyData.depthAll, PyData.depth, h2]
      rfl
theorem shp_strs (xs : List Str) (h : ∀ q ∈ xs, PyData.canLay0 (.str q) = true) : SeqAt.shaped (toP (.lst (xs.map D.str))) = true := by
  obtain ⟨h1, h2⟩ := lay_strs xs h
  have e : toP (.lst (xs.map D.str)) = .list (toPs (xs.map D.str)) := rfl
  unfold SeqAt.shaped
  rw [e]
  have hd : (PyData.list (toPs (xs.map D.str))).depth ≤ 64 := by
    simp only [PyData.depth, h2]
    omega
  rw [decide_eq_true hd, Bool.and_true]
  simp only [PyData.canLay0]
  exact h1
theorem firsts_ne {xs : List Str} (h : (!PyData.eqv (toP (.lst (xs.map D.str))) (toP (.lst []))) = true) : xs ≠ [] := fun z => by
  subst z
  revert h
  decide
def R_law_firsts : List D → D → Prop := fun ds d => ∃ (ts : List (List (Str × Int))) (kept : List (Str × Int)), (TlOk ts kept ∧ ∀ q ∈ KS kept, PyData.canLay0 (.str q) = true) ∧ ds = [(.lst (ts.map D.dct)), (.dct kept)] ∧ d = (.tup [(if (!PyData.eqv (toP (.lst (((KS kept).filter (fsB ts)).map D.str))) (toP (.lst []))) = true then (D.str (((KS kept).filter (fsB ts)).headD "")) else D.non), (.tup [(.tup (((KS kept).filter (fpB ts)).map D.str)), (.bl (ts.any fun z => decide ((maxL ((List.map (fun (z : Str × Int) => z.2) z) ++ [1])) ≤ ((dgo z "ya").getD 0))))])])
theorem w_law_firsts (T : Top K w mg) : Fn P w K mg base "_law_firsts" 1 R_law_firsts := by
  refine fn_top T 89 ["_law_truths_here", "_law_kept", "_law_name", "_law_new", "_law_surely", "_law_some", "_law_counts", "_law_other"] ["_law_truths_here", "_law_kept"] (by decide) (by decide +kernel) (fun _ _ _ _ _ _ us hl => match us, hl with | [_, _], _ => rfl) (by rintro _ _ ⟨ts, kept, hp, rfl, rfl⟩; rfl) ?_
  intro X gf eP ew eK em eb ds d hR
  subst eP ew eK em eb
  obtain ⟨ts, kept, hp, rfl, rfl⟩ := hR
  have hsc := Eq.refl (defScope (top 89))
  conv at hsc => rhs; whnf
  rw [hsc] at gf
  have g := gf.g
  obtain ⟨hp, hlay⟩ := hp
  refine .inl (?_ : Dos X _ [.fz (.lst (ts.map D.dct)), .fz (.dct kept), .un, .un, .un, .un, .un, .un] (.rt (.tup [(if (!PyData.eqv (toP (.lst (((KS kept).filter (fsB ts)).map D.str))) (toP (.lst []))) = true then (D.str (((KS kept).filter (fsB ts)).headD "")) else D.non), (.tup [(.tup (((KS kept).filter (fpB ts)).map D.str)), (.bl (ts.any fun z => decide ((maxL ((List.map (fun (z : Str × Int) => z.2) z) ++ [1])) ≤ ((dgo z "ya").getD 0))))])])))
  exact s_cons (s_parN gf 4 5 (n_lst a_nil (by simp)) (n_lst a_nil (by simp))) <| s_cons (s_for gf (xs := KS kept) (rs := (fun i1 => [.fz (.lst (ts.map D.dct)), .fz (.dct kept), .un, .un, .ow (.lst ((((KS kept).take i1).filter (fsB ts)).map D.str)), .ow (.lst ((((KS kept).take i1).filter (fpB ts)).map D.str)), .un, .un])) (if_lst (xs := KS kept) (enc := D.str) (((n_callB g (c_srtD g (kvs := kept) (zs := kept.map (·.1)) hp.kl hp.srt) (T.fr "sorted") (av_cons (((f_name g 1)).v) av_nil))).f)) (by repeat (first | exact trivial | refine ⟨.inr rfl, ?_⟩ | refine ⟨.inl rfl, ?_⟩)) (gf.pg (j := 2) rfl rfl) (fun _ _ _ => tx_name 2) (fun i1 x2 hx3 => s_to (s_le (ρ2 := [.fz (.lst (ts.map D.dct)), .fz (.dct kept), .un, .un, .ow (.lst ((((KS kept).take (i1 + 1)).filter (fsB ts)).map D.str)), .ow (.lst ((((KS kept).take (i1 + 1)).filter (fpB ts)).map D.str)), .un, .un]) (s_cons (ρ1 := [.fz (.lst (ts.map D.dct)), .fz (.dct kept), .fz (.str x2), .un, .ow (.lst ((((KS kept).take (i1 + 1)).filter (fsB ts)).map D.str)), .ow (.lst ((((KS kept).take i1).filter (fpB ts)).map D.str)), .un, .un]) (s_if (t_val (f_callB g (c_all g) (T.fr "all") (av_cons (((LcS.n (lc_G g (xs := ts) (own := [("_law_counts", 6)]) (out := (fun x4 => (.bl ((x4.filter fun x6 => !decide ((x6.1 : Str) = x2)).all fun z => decide (z.2 < ((dgo x4 x2).getD 0)))))) (ItS.g (it_lst (((f_name g 0)).v))) (blkOk_by (by decide +kernel)) (pgb g 6) (fun _ _ => tg_name 6) (fun _ _ _ _ _ x4 m5 => (f_callB (g.blk _ _ _ _ _ _) (c_all (g.blk _ _ _ _ _ _)) (T.fr "all") (av_cons (((SemNG.lock (d_name (g.blk _ _ _ _ _ _) 6) (LcS.n (lc_If (g.blk _ _ _ _ _ _) (xs := x4) (own := [("_law_other", 7)]) (out := (fun x6 => (.bl (decide (x6.2 < ((dgo x4 x2).getD 0)))))) (fl := fun x6 => !decide ((x6.1 : Str) = x2)) it_keysI (blkOk_by (by decide +kernel)) (pgb (g.blk _ _ _ _ _ _) 7) (fun _ _ => tg_name 7) (fun _ _ _ _ _ x6 m7 => (t_cmp o_neS (((f_name ((g.blk _ _ _ _ _ _).blk _ _ _ _ _ _) 7)).v) (((f_name ((g.blk _ _ _ _ _ _).blk _ _ _ _ _ _) 2)).v))) (fun _ _ _ _ _ x6 m7 h8 => (f_cmp o_lt (((f_ixD ((g.blk _ _ _ _ _ _).blk _ _ _ _ _ _) (((f_name ((g.blk _ _ _ _ _ _).blk _ _ _ _ _ _) 6)).v) (((f_name ((g.blk _ _ _ _ _ _).blk _ _ _ _ _ _) 7)).v) (dgo_mem (hp.cnd x4 m5) m7))).v) (((f_ixD ((g.blk _ _ _ _ _ _).blk _ _ _ _ _ _) (((f_name ((g.blk _ _ _ _ _ _).blk _ _ _ _ _ _) 6)).v) (((f_name ((g.blk _ _ _ _ _ _).blk _ _ _ _ _ _) 2)).v) (dgo_isSome (hp.has x4 m5 x2 (List.mem_of_getElem? hx3))))).v))) (by have := hp.cln x4 m5; omega))))).v) av_nil))) (by have := hp.len; omega))).n).v) av_nil))) (fun c9 => s_to (s_le (ρ2 := [.fz (.lst (ts.map D.dct)), .fz (.dct kept), .fz (.str x2), .un, .ow (.lst (((((KS kept).take i1).filter (fsB ts)) ++ [x2]).map D.str)), .ow (.lst ((((KS kept).take i1).filter (fpB ts)).map D.str)), .un, .un]) (s_cons (s_app (ds := ((((KS kept).take i1).filter (fsB ts)).map D.str)) g 4 (f_name g 2) (by have h1 := List.length_filter_le (fsB ts) ((KS kept).take i1); have h2 := List.length_filter_le (fpB ts) ((KS kept).take i1); have h3 := take_len (KS kept) i1; have h4 := hp.kl; have h5 : (KS kept).length = kept.length := List.length_map _; rw [List.length_map]; omega)) <| s_at (ρ1 := [.fz (.lst (ts.map D.dct)), .fz (.dct kept), .fz (.str x2), .un, .ow (.lst (((((KS kept).take i1).filter (fsB ts)) ++ [x2]).map D.str)), .ow (.lst ((((KS kept).take i1).filter (fpB ts)).map D.str)), .un, .un]) (s_nil) (by first | (simp only [List.map_append]; done) | (simp only [List.map_append]; rfl)))) (by rw [filt_pos (p := fsB ts) hx3 c9])) (fun c9 => s_to (s_le (ρ2 := [.fz (.lst (ts.map D.dct)), .fz (.dct kept), .fz (.str x2), .un, .ow (.lst ((((KS kept).take i1).filter (fsB ts)).map D.str)), .ow (.lst ((((KS kept).take i1).filter (fpB ts)).map D.str)), .un, .un]) (s_nil)) (by rw [filt_neg (p := fsB ts) hx3 c9]))) <| s_cons (ρ1 := [.fz (.lst (ts.map D.dct)), .fz (.dct kept), .fz (.str x2), .un, .ow (.lst ((((KS kept).take (i1 + 1)).filter (fsB ts)).map D.str)), .ow (.lst ((((KS kept).take (i1 + 1)).filter (fpB ts)).map D.str)), .un, .un]) (s_if (t_val (f_callB g (c_any g) (T.fr "any") (av_cons (((LcS.n (lc_G g (xs := ts) (own := [("_law_counts", 6)]) (out := (fun x10 => (.bl (x10.all fun z => decide (z.2 ≤ ((dgo x10 x2).getD 0)))))) (ItS.g (it_lst (((f_name g 0)).v))) (blkOk_by (by decide +kernel)) (pgb g 6) (fun _ _ => tg_name 6) (fun _ _ _ _ _ x10 m11 => (f_callB (g.blk _ _ _ _ _ _) (c_all (g.blk _ _ _ _ _ _)) (T.fr "all") (av_cons (((SemNG.lock (d_name (g.blk _ _ _ _ _ _) 6) (LcS.n (lc_G (g.blk _ _ _ _ _ _) (xs := x10) (own := [("_law_other", 7)]) (out := (fun x12 => (.bl (decide (x12.2 ≤ ((dgo x10 x2).getD 0)))))) it_keysI (blkOk_by (by decide +kernel)) (pgb (g.blk _ _ _ _ _ _) 7) (fun _ _ => tg_name 7) (fun _ _ _ _ _ x12 m13 => (f_cmp o_le (((f_ixD ((g.blk _ _ _ _ _ _).blk _ _ _ _ _ _) (((f_name ((g.blk _ _ _ _ _ _).blk _ _ _ _ _ _) 6)).v) (((f_name ((g.blk _ _ _ _ _ _).blk _ _ _ _ _ _) 7)).v) (dgo_mem (hp.cnd x10 m11) m13))).v) (((f_ixD ((g.blk _ _ _ _ _ _).blk _ _ _ _ _ _) (((f_name ((g.blk _ _ _ _ _ _).blk _ _ _ _ _ _) 6)).v) (((f_name ((g.blk _ _ _ _ _ _).blk _ _ _ _ _ _) 2)).v) (dgo_isSome (hp.has x10 m11 x2 (List.mem_of_getElem? hx3))))).v))) (by have := hp.cln x10 m11; omega))))).v) av_nil))) (by have := hp.len; omega))).n).v) av_nil))) (fun c14 => s_to (s_le (ρ2 := [.fz (.lst (ts.map D.dct)), .fz (.dct kept), .fz (.str x2), .un, .ow (.lst ((((KS kept).take (i1 + 1)).filter (fsB ts)).map D.str)), .ow (.lst (((((KS kept).take i1).filter (fpB ts)) ++ [x2]).map D.str)), .un, .un]) (s_cons (s_app (ds := ((((KS kept).take i1).filter (fpB ts)).map D.str)) g 5 (f_name g 2) (by have h1 := List.length_filter_le (fsB ts) ((KS kept).take i1); have h2 := List.length_filter_le (fpB ts) ((KS kept).take i1); have h3 := take_len (KS kept) i1; have h4 := hp.kl; have h5 : (KS kept).length = kept.length := List.length_map _; rw [List.length_map]; omega)) <| s_at (ρ1 := [.fz (.lst (ts.map D.dct)), .fz (.dct kept), .fz (.str x2), .un, .ow (.lst ((((KS kept).take (i1 + 1)).filter (fsB ts)).map D.str)), .ow (.lst (((((KS kept).take i1).filter (fpB ts)) ++ [x2]).map D.str)), .un, .un]) (s_nil) (by first | (simp only [List.map_append]; done) | (simp only [List.map_append]; rfl)))) (by rw [filt_pos (p := fpB ts) hx3 c14])) (fun c14 => s_to (s_le (ρ2 := [.fz (.lst (ts.map D.dct)), .fz (.dct kept), .fz (.str x2), .un, .ow (.lst ((((KS kept).take (i1 + 1)).filter (fsB ts)).map D.str)), .ow (.lst ((((KS kept).take i1).filter (fpB ts)).map D.str)), .un, .un]) (s_nil)) (by rw [filt_neg (p := fpB ts) hx3 c14]))) <| s_nil)) rfl)) <| s_at (ρ1 := [.fz (.lst (ts.map D.dct)), .fz (.dct kept), .un, .un, .ow (.lst (((KS kept).filter (fsB ts)).map D.str)), .ow (.lst (((KS kept).filter (fpB ts)).map D.str)), .un, .un]) (s_cons (s_set gf 3 (f_callB g (c_any g) (T.fr "any") (av_cons (((LcS.n (lc_G g (xs := ts) (own := [("_law_counts", 6)]) (out := (fun x15 => (.bl (decide ((maxL ((List.map (fun (z : Str × Int) => z.2) x15) ++ [1])) ≤ ((dgo x15 "ya").getD 0)))))) (ItS.g (it_lst (((f_name g 0)).v))) (blkOk_by (by decide +kernel)) (pgb g 6) (fun _ _ => tg_name 6) (fun _ _ _ _ _ x15 m16 => (f_cmp o_ge (((f_get (g.blk _ _ _ _ _ _) (((f_name (g.blk _ _ _ _ _ _) 6)).v) ((f_str).v) ((f_int).v))).v) (((f_callB (g.blk _ _ _ _ _ _) (c_maxL (g.blk _ _ _ _ _ _) (ns := (List.map (fun (z : Str × Int) => z.2) x15) ++ [1]) (by simp)) (T.fr "max") (av_cons (((SemN.is (d' := (.lst (((List.map (fun (z : Str × Int) => z.2) x15) ++ [1]).map D.int))) (n_cat (ds := (List.map (fun (z : Str × Int) => (D.int z.2)) x15)) (es := [(.int 1)]) (SemNG.lock (d_name (g.blk _ _ _ _ _ _) 6) (LcS.n (lc_G (g.blk _ _ _ _ _ _) (xs := x15) (own := [("_law_name", 2)]) (out := (fun x17 => (.int x17.2))) it_keysI (blkOk_by (by decide +kernel)) (pgb (g.blk _ _ _ _ _ _) 2) (fun _ _ => tg_name 2) (fun _ _ _ _ _ x17 m18 => (f_ixD ((g.blk _ _ _ _ _ _).blk _ _ _ _ _ _) (((f_name ((g.blk _ _ _ _ _ _).blk _ _ _ _ _ _) 6)).v) (((f_name ((g.blk _ _ _ _ _ _).blk _ _ _ _ _ _) 2)).v) (dgo_mem (hp.cnd x15 m16) m18))) (by have := hp.cln x15 m16; omega)))) (n_lst (a_cons f_int a_nil) (by simp)) (by have := hp.cln x15 m16; simp only [List.length_map, List.length_cons, List.length_nil]; omega)) (by simp only [List.map_append, List.map_map]; rfl))).v) av_nil))).v))) (by have := hp.len; omega))).n).v) av_nil))) <| s_last (s_ret (f_tup (a_cons (f_ite (d := (if (!PyData.eqv (toP (.lst (((KS kept).filter (fsB ts)).map D.str))) (toP (.lst []))) = true then (D.str (((KS kept).filter (fsB ts)).headD "")) else D.non)) (t_cmp (o_neP g (pln_strs _) rfl (shp_strs _ fun q hq => hlay q (List.mem_filter.mp hq).1) rfl) (v_own g 4) (((n_lst a_nil (by simp))).v)) (fun h19 => SemF.is (f_ixL (v_own g 4) ((f_int).v) (at_map (xs := (KS kept).filter (fsB ts)) (enc := D.str) (atI_head (d := ("" : Str)) (firsts_ne h19)))) (by rw [h19]; rfl)) (fun h19 => SemF.is f_non (by rw [h19]; rfl))) (a_cons (f_tup (a_cons (f_callT g c_tupleL (T.fr "tuple") (av_cons (v_own g 5) av_nil)) (a_cons (f_name g 3) a_nil)) (by simp)) a_nil)) (by simp)))) (by rw [List.take_length])
end
end KD

set_option Elab.async false
set_option linter.all false
set_option maxRecDepth 100000
/-! MA: counts as lists of pairs: plain facts. -/
namespace KM
variable {κ : Type} [DecidableEq κ]
theorem perm_sum {a b : List Int} (h : a.Perm b) : a.sum = b.sum := by
  induction h with
  | nil => rfl
  | cons x _ ih => rw [List.sum_cons, List.sum_cons, ih]
  | swap x y l => simp only [List.sum_cons]; omega
  | trans _ _ h1 h2 => rw [h1, h2]
def ks (d : List (κ × Int)) : List κ := d.map (·.1)
def gs (d : List (κ × Int)) (n : κ) : Int := ((d.filter fun q => decide (q.1 = n)).map (·.2)).sum
def sv (d : List (κ × Int)) : Int := (d.map (·.2)).sum
def Pos (d : List (κ × Int)) : Prop := ∀ z ∈ d, 0 < z.2
def Nn (d : List (κ × Int)) : Prop := ∀ z ∈ d, 0 ≤ z.2
theorem Pos.nn {d : List (κ × Int)} (h : Pos d) : Nn d := fun z hz => Int.le_of_lt (h z hz)
@[simp] theorem gs_nil (n : κ) : gs ([] : List (κ × Int)) n = 0 := rfl
theorem gs_cons (q : κ × Int) (r : List (κ × Int)) (n : κ) : gs (q :: r) n = (if q.1 = n then q.2 else 0) + gs r n := by
  unfold gs
  by_cases h : q.1 = n
  · rw [List.filter_cons_of_pos (by simpa using h), if_pos h, List.map_cons, List.sum_cons]
  · rw [List.filter_cons_of_neg (by simpa using h), if_neg h, Int.zero_add]
theorem gs_append (a b : List (κ × Int)) (n : κ) : gs (a ++ b) n = gs a n + gs b n := by
  unfold gs
  rw [List.filter_append, List.map_append, List.sum_append_int]
theorem gs_perm {a b : List (κ × Int)} (h : a.Perm b) (n : κ) : gs a n = gs b n := perm_sum ((h.filter _).map _)
theorem sv_perm {a b : List (κ × Int)} (h : a.Perm b) : sv a = sv b := perm_sum (h.map _)
@[simp] theorem sv_nil : sv ([] : List (κ × Int)) = 0 := rfl
theorem sv_cons (q : κ × Int) (r : List (κ × Int)) : sv (q :: r) = q.2 + sv r := by
  unfold sv
  rw [List.map_cons, List.sum_cons]
theorem sv_append (a b : List (κ × Int)) : sv (a ++ b) = sv a + sv b := by
  unfold sv
  rw [List.map_append, List.sum_append_int]
theorem gs_notin {d : List (κ × Int)} {n : κ} (h : n ∉ ks d) : gs d n = 0 := by
  induction d with
  | nil => rfl
  | cons q r ih =>
    rw [gs_cons, if_neg (fun z => h (by rw [← z]; exact List.mem_cons_self)), ih fun z => h (List.mem_cons_of_mem _ z)]
    rfl
theorem mem_ks {d : List (κ × Int)} {z : κ × Int} (h : z ∈ d) : z.1 ∈ ks d := List.mem_map_of_mem h
theorem gs_mem {d : List (κ × Int)} (nd : (ks d).Nodup) {z : κ × Int} (h : z ∈ d) : gs d z.1 = z.2 := by
  induction d with
  | nil => cases h
  | cons q r ih =>
    have nd' : (q.1 :: ks r).Nodup := nd
    rw [List.nodup_cons] at nd'
    rw [gs_cons]
    rcases List.mem_cons.mp h with rfl | h
    · rw [if_pos rfl, gs_notin nd'.1, Int.add_zero]
    · rw [if_neg (fun e => nd'.1 (by rw [e]; exact mem_ks h)), ih nd'.2 h, Int.zero_add]
theorem gs_nn {d : List (κ × Int)} (h : Nn d) (n : κ) : 0 ≤ gs d n := by
  induction d with
  | nil => exact Int.le_refl _
  | cons q r ih =>
    rw [gs_cons]
    have h1 := h q List.mem_cons_self
    have h2 := ih fun z hz => h z (List.mem_cons_of_mem _ hz)
    split <;> omega
theorem sv_nn {d : List (κ × Int)} (h : Nn d) : 0 ≤ sv d := by
  induction d with
  | nil => exact Int.le_refl _
  | cons q r ih =>
    rw [sv_cons]
    have h1 := h q List.mem_cons_self
    have h2 := ih fun z hz => h z (List.mem_cons_of_mem _ hz)
    omega
theorem mem_of_gs {d : List (κ × Int)} {n : κ} (h : gs d n ≠ 0) : n ∈ ks d := Decidable.byContradiction fun z => h (gs_notin z)
theorem mem_gs {d : List (κ × Int)} (nd : (ks d).Nodup) {n : κ} (h : n ∈ ks d) : (n, gs d n) ∈ d := by
  obtain ⟨z, hz, rfl⟩ := List.mem_map.mp h
  rw [gs_mem nd hz]
  exact hz
theorem gs_pos {d : List (κ × Int)} (nd : (ks d).Nodup) (hp : Pos d) {n : κ} : n ∈ ks d ↔ 0 < gs d n := by
  constructor
  · intro h
    exact hp _ (mem_gs nd h)
  · intro h
    exact mem_of_gs (by omega)
theorem nd_list {d : List (κ × Int)} (nd : (ks d).Nodup) : d.Nodup := by
  unfold ks at nd
  rw [List.Nodup, List.pairwise_map] at nd
  exact nd.imp fun h e => h (congrArg Prod.fst e)
/-- the same counts: the same list, in some order -/
theorem perm_of_gs {c d : List (κ × Int)} (n1 : (ks c).Nodup) (n2 : (ks d).Nodup) (p1 : Pos c) (p2 : Pos d) (h : ∀ n, gs c n = gs d n) : c.Perm d := by
  have one : ∀ {c d : List (κ × Int)}, (ks c).Nodup → (ks d).Nodup → Pos c → (∀ n, gs c n = gs d n) → ∀ z ∈ c, z ∈ d := by
    intro c d n1 n2 p1 h z hz
    have h1 := gs_mem n1 hz
    have h2 := p1 z hz
    have h3 : z.1 ∈ ks d := mem_of_gs (by rw [← h]; omega)
    have h4 := mem_gs n2 h3
    rw [← h, h1] at h4
    exact h4
  exact (List.perm_ext_iff_of_nodup (nd_list n1) (nd_list n2)).mpr fun z => ⟨one n1 n2 p1 h z, one n2 n1 p2 (fun n => (h n).symm) z⟩
theorem ks_perm {c d : List (κ × Int)} (h : c.Perm d) : (ks c).Perm (ks d) := h.map _
theorem nd_perm {c d : List (κ × Int)} (h : c.Perm d) (n : (ks c).Nodup) : (ks d).Nodup := (ks_perm h).nodup_iff.mp n
/-! put -/
def put (d : List (κ × Int)) (k : κ) (v : Int) : List (κ × Int) := if (d.any fun q => decide (q.1 = k)) = true then d.map (fun q => if q.1 = k then (q.1, v) else q) else d ++ [(k, v)]
theorem any_ks (d : List (κ × Int)) (k : κ) : (d.any fun q => decide (q.1 = k)) = true ↔ k ∈ ks d := by
  rw [List.any_eq_true]
  constructor
  · rintro ⟨z, hz, h⟩
    rw [← of_decide_eq_true h]
    exact mem_ks hz
  · intro h
    obtain ⟨z, hz, rfl⟩ := List.mem_map.mp h
    exact ⟨z, hz, decide_eq_true rfl⟩
theorem put_in {d : List (κ × Int)} {k : κ} (v : Int) (h : k ∈ ks d) : put d k v = d.map (fun q => if q.1 = k then (q.1, v) else q) := if_pos ((any_ks d k).mpr h)
theorem put_out {d : List (κ × Int)} {k : κ} (v : Int) (h : k ∉ ks d) : put d k v = d ++ [(k, v)] := if_neg fun z => h ((any_ks d k).mp z)
theorem ks_put (d : List (κ × Int)) (k : κ) (v : Int) : ks (put d k v) = if k ∈ ks d then ks d else ks d ++ [k] := by
  by_cases h : k ∈ ks d
  · rw [put_in v h, if_pos h]
    unfold ks
    rw [List.map_map]
    refine List.map_congr_left fun q _ => ?_
    show (if q.1 = k then (q.1, v) else q).1 = q.1
    split <;> rfl
  · rw [put_out v h, if_neg h]
    unfold ks
    rw [List.map_append]
    rfl
theorem nd_put {d : List (κ × Int)} (k : κ) (v : Int) (h : (ks d).Nodup) : (ks (put d k v)).Nodup := by
  rw [ks_put]
  split
  · exact h
  · rename_i hk
    rw [List.nodup_append]
    exact ⟨h, by simp, fun a ha b hb e => hk (by rw [← List.mem_singleton.mp hb, ← e]; exact ha)⟩
theorem map_ne {d : List (κ × Int)} {k : κ} {v : Int} (h : k ∉ ks d) : d.map (fun q => if q.1 = k then (q.1, v) else q) = d := by
  have : ∀ q ∈ d, (if q.1 = k then (q.1, v) else q) = id q := fun q hq => if_neg fun z => h (by rw [← z]; exact mem_ks hq)
  rw [List.map_congr_left this, List.map_id]
theorem put_split {d : List (κ × Int)} {k : κ} (v : Int) (nd : (ks d).Nodup) (h : k ∈ ks d) : ∃ a b, d = a ++ (k, gs d k) :: b ∧ put d k v = a ++ (k, v) :: b ∧ k ∉ ks a ∧ k ∉ ks b := by
  obtain ⟨a, b, e⟩ := List.append_of_mem (mem_gs nd h)
  have nd' := nd
  rw [e] at nd'
  unfold ks at nd'
  rw [List.map_append, List.map_cons, List.nodup_append, List.nodup_cons] at nd'
  have ha : k ∉ ks a := fun z => nd'.2.2 k z k List.mem_cons_self rfl
  have hb : k ∉ ks b := nd'.2.1.1
  refine ⟨a, b, e, ?_, ha, hb⟩
  rw [put_in v h]
  conv => lhs; rw [e]
  rw [List.map_append, List.map_cons, map_ne ha, map_ne hb, if_pos rfl]
theorem gs_put {d : List (κ × Int)} (k : κ) (v : Int) (n : κ) (nd : (ks d).Nodup) : gs (put d k v) n = if k = n then v else gs d n := by
  by_cases h : k ∈ ks d
  · obtain ⟨a, b, e, e2, ha, hb⟩ := put_split v nd h
    rw [e2, gs_append, gs_cons]
    by_cases q : k = n
    · subst q
      rw [if_pos rfl, if_pos rfl, gs_notin ha, gs_notin hb]
      omega
    · rw [if_neg q, if_neg q]
      conv => rhs; rw [e]
      rw [gs_append, gs_cons, if_neg q]
  · rw [put_out v h, gs_append, gs_cons, gs_nil]
    by_cases q : k = n
    · subst q
      rw [if_pos rfl, if_pos rfl, gs_notin h]
      omega
    · rw [if_neg q, if_neg q]
      omega
theorem sv_put {d : List (κ × Int)} (k : κ) (v : Int) (nd : (ks d).Nodup) : sv (put d k v) = sv d - gs d k + v := by
  by_cases h : k ∈ ks d
  · obtain ⟨a, b, e, e2, ha, hb⟩ := put_split v nd h
    have : sv d = sv a + (gs d k + sv b) := by
      conv => lhs; rw [e]
      rw [sv_append, sv_cons]
    rw [e2, sv_append, sv_cons, this]
    show sv a + (v + sv b) = _
    omega
  · rw [put_out v h, sv_append, gs_notin h, sv_cons, sv_nil]
    show sv d + (v + 0) = _
    omega
theorem nn_put {d : List (κ × Int)} {k : κ} {v : Int} (h : Nn d) (hv : 0 ≤ v) : Nn (put d k v) := by
  intro z hz
  unfold put at hz
  split at hz
  · obtain ⟨q, hq, rfl⟩ := List.mem_map.mp hz
    show 0 ≤ (if q.1 = k then (q.1, v) else q).2
    split
    · exact hv
    · exact h q hq
  · rcases List.mem_append.mp hz with hz | hz
    · exact h z hz
    · rw [List.mem_singleton.mp hz]
      exact hv
theorem mem_ks_put {d : List (κ × Int)} {k n : κ} {v : Int} : n ∈ ks (put d k v) ↔ n = k ∨ n ∈ ks d := by
  rw [ks_put]
  split
  · rename_i h
    constructor
    · exact fun z => .inr z
    · rintro (rfl | z)
      · exact h
      · exact z
  · rw [List.mem_append, List.mem_singleton]
    exact or_comm
theorem find_gs {d : List (κ × Int)} (nd : (ks d).Nodup) (n : κ) : ((d.find? fun q => decide (q.1 = n)).map (·.2)).getD 0 = gs d n := by
  cases e : d.find? fun q => decide (q.1 = n) with
  | none =>
    have h : n ∉ ks d := fun h => by
      obtain ⟨z, hz, e2⟩ := List.mem_map.mp h
      have := List.find?_eq_none.mp e z hz
      exact this (decide_eq_true e2)
    rw [gs_notin h]
    rfl
  | some q =>
    have h1 := List.mem_of_find?_eq_some e
    have h2 := List.find?_some e
    have h2 : q.1 = n := of_decide_eq_true h2
    rw [← h2, gs_mem nd h1]
    rfl
theorem find_some {d : List (κ × Int)} (nd : (ks d).Nodup) {z : κ × Int} (h : z ∈ d) : (d.find? fun q => decide (q.1 = z.1)).map (·.2) = some z.2 := by
  cases e : d.find? fun q => decide (q.1 = z.1) with
  | none =>
    have := List.find?_eq_none.mp e z h
    exact absurd (decide_eq_true rfl) this
  | some q =>
    have h1 := List.mem_of_find?_eq_some e
    have h2 := List.find?_some e
    have h2 : q.1 = z.1 := of_decide_eq_true h2
    have h3 := gs_mem nd h1
    rw [h2, gs_mem nd h] at h3
    rw [Option.map_some, h3]
/-! added one behind another -/
def add (d ts : List (κ × Int)) : List (κ × Int) := ts.foldl (fun d t => put d t.1 (((d.find? fun q => decide (q.1 = t.1)).map (·.2)).getD 0 + t.2)) d
theorem nd_add {d : List (κ × Int)} (ts : List (κ × Int)) (h : (ks d).Nodup) : (ks (add d ts)).Nodup := by
  unfold add
  induction ts generalizing d with
  | nil => exact h
  | cons t r ih => rw [List.foldl_cons]; exact ih (nd_put _ _ h)
theorem gs_add {d : List (κ × Int)} (ts : List (κ × Int)) (n : κ) (h : (ks d).Nodup) : gs (add d ts) n = gs d n + gs ts n := by
  unfold add
  induction ts generalizing d with
  | nil => rw [gs_nil, Int.add_zero]; rfl
  | cons t r ih =>
    rw [List.foldl_cons, ih (nd_put _ _ h), gs_put _ _ _ h, gs_cons, find_gs h]
    split
    · rename_i e
      rw [e]
      omega
    · omega
theorem sv_add {d : List (κ × Int)} (ts : List (κ × Int)) (h : (ks d).Nodup) : sv (add d ts) = sv d + sv ts := by
  unfold add
  induction ts generalizing d with
  | nil => rw [sv_nil, Int.add_zero]; rfl
  | cons t r ih =>
    rw [List.foldl_cons, ih (nd_put _ _ h), sv_put _ _ h, sv_cons, find_gs h]
    omega
theorem mem_ks_add {d : List (κ × Int)} {n : κ} (ts : List (κ × Int)) : n ∈ ks (add d ts) ↔ n ∈ ks d ∨ n ∈ ks ts := by
  unfold add
  induction ts generalizing d with
  | nil => simp [ks]
  | cons t r ih =>
    rw [List.foldl_cons, ih, mem_ks_put]
    show _ ↔ n ∈ ks d ∨ n ∈ t.1 :: ks r
    rw [List.mem_cons]
    constructor
    · rintro ((h | h) | h)
      · exact .inr (.inl h)
      · exact .inl h
      · exact .inr (.inr h)
    · rintro (h | h | h)
      · exact .inl (.inr h)
      · exact .inl (.inl h)
      · exact .inr h
theorem nn_add {d : List (κ × Int)} (ts : List (κ × Int)) (hn : (ks d).Nodup) (h : Nn d) (ht : Nn ts) : Nn (add d ts) := by
  unfold add
  induction ts generalizing d with
  | nil => exact h
  | cons t r ih =>
    rw [List.foldl_cons]
    refine ih (nd_put _ _ hn) (nn_put h ?_) fun z hz => ht z (List.mem_cons_of_mem _ hz)
    rw [find_gs hn]
    have h1 := gs_nn h t.1
    have h2 := ht t List.mem_cons_self
    omega
/-! those above 0 -/
def ps (d : List (κ × Int)) : List (κ × Int) := d.filter fun z => decide (0 < z.2)
theorem gs_ps {d : List (κ × Int)} (h : Nn d) (n : κ) : gs (ps d) n = gs d n := by
  induction d with
  | nil => rfl
  | cons q r ih =>
    have h1 := h q List.mem_cons_self
    have h2 := ih fun z hz => h z (List.mem_cons_of_mem _ hz)
    unfold ps at h2 ⊢
    by_cases e : 0 < q.2
    · rw [List.filter_cons_of_pos (by simpa using e), gs_cons, gs_cons, h2]
    · rw [List.filter_cons_of_neg (by simpa using e), gs_cons, h2]
      have : q.2 = 0 := by omega
      rw [this]
      simp
theorem sv_ps {d : List (κ × Int)} (h : Nn d) : sv (ps d) = sv d := by
  induction d with
  | nil => rfl
  | cons q r ih =>
    have h1 := h q List.mem_cons_self
    have h2 := ih fun z hz => h z (List.mem_cons_of_mem _ hz)
    unfold ps at h2 ⊢
    by_cases e : 0 < q.2
    · rw [List.filter_cons_of_pos (by simpa using e), sv_cons, sv_cons, h2]
    · rw [List.filter_cons_of_neg (by simpa using e), sv_cons, h2]
      have : q.2 = 0 := by omega
      rw [this]
      simp
theorem pos_ps (d : List (κ × Int)) : Pos (ps d) := fun z hz => by
  have := (List.mem_filter.mp hz).2
  exact of_decide_eq_true this
theorem nd_ps {d : List (κ × Int)} (h : (ks d).Nodup) : (ks (ps d)).Nodup := h.sublist (List.Sublist.map _ List.filter_sublist)
theorem ps_pos {d : List (κ × Int)} (h : Pos d) : ps d = d := List.filter_eq_self.mpr fun z hz => decide_eq_true (h z hz)
theorem ps_append (a b : List (κ × Int)) : ps (a ++ b) = ps a ++ ps b := List.filter_append _ _
/-! sums over names -/
theorem sum_map_add {α : Type} (f g : α → Int) (l : List α) : (l.map fun x => f x + g x).sum = (l.map f).sum + (l.map g).sum := by
  induction l with
  | nil => rfl
  | cons a r ih => simp only [List.map_cons, List.sum_cons, ih]; omega
theorem sum_map_sub {α : Type} (f g : α → Int) (l : List α) : (l.map fun x => f x - g x).sum = (l.map f).sum - (l.map g).sum := by
  induction l with
  | nil => rfl
  | cons a r ih => simp only [List.map_cons, List.sum_cons, ih]; omega
theorem sum_map_mul {α : Type} (k : Int) (f : α → Int) (l : List α) : (l.map fun x => k * f x).sum = k * (l.map f).sum := by
  induction l with
  | nil => simp
  | cons a r ih => simp only [List.map_cons, List.sum_cons, ih, Int.mul_add]
theorem sum_map_le {α : Type} {f g : α → Int} : ∀ {l : List α}, (∀ x ∈ l, f x ≤ g x) → (l.map f).sum ≤ (l.map g).sum
  | [], _ => Int.le_refl _
  | a :: r, h => by
    have h1 := h a List.mem_cons_self
    have h2 := sum_map_le (l := r) fun x hx => h x (List.mem_cons_of_mem _ hx)
    simp only [List.map_cons, List.sum_cons]
    omega
theorem sum_map_const {α : Type} (k : Int) (l : List α) : (l.map fun _ => k).sum = l.length * k := by
  induction l with
  | nil => simp
  | cons a r ih => rw [List.map_cons, List.sum_cons, ih, List.length_cons]; simp [Int.add_mul]; omega
theorem sum_map_nn {α : Type} {f : α → Int} {l : List α} (h : ∀ x ∈ l, 0 ≤ f x) : 0 ≤ (l.map f).sum := by
  have := sum_map_le (f := fun _ => 0) (g := f) h
  rw [sum_map_const] at this
  omega
/-- the sum over unlike names: those entries' sum -/
theorem sum_gs (d : List (κ × Int)) : ∀ {L : List κ}, L.Nodup → (L.map (gs d)).sum = sv (d.filter fun z => decide (z.1 ∈ L))
  | [], _ => by
    have : (d.filter fun z => decide (z.1 ∈ ([] : List κ))) = [] := List.filter_eq_nil_iff.mpr fun z _ => by simp
    rw [this]
    rfl
  | n :: L, h => by
    rw [List.nodup_cons] at h
    rw [List.map_cons, List.sum_cons, sum_gs d h.2]
    induction d with
    | nil => rfl
    | cons q r ih =>
      rw [gs_cons]
      by_cases e : q.1 = n
      · have e1 : q.1 ∉ L := by rw [e]; exact h.1
        have e2 : q.1 ∈ n :: L := by rw [e]; exact List.mem_cons_self
        rw [List.filter_cons_of_neg (by simpa using e1), List.filter_cons_of_pos (by simpa using e2), sv_cons, if_pos e]
        omega
      · by_cases e1 : q.1 ∈ L
        · have e2 : q.1 ∈ n :: L := List.mem_cons_of_mem _ e1
          rw [List.filter_cons_of_pos (by simpa using e1), List.filter_cons_of_pos (by simpa using e2), sv_cons, sv_cons, if_neg e]
          omega
        · have e2 : q.1 ∉ n :: L := fun z => (List.mem_cons.mp z).elim e e1
          rw [List.filter_cons_of_neg (by simpa using e1), List.filter_cons_of_neg (by simpa using e2), if_neg e]
          omega
theorem sv_filter_le {d : List (κ × Int)} (h : Nn d) (p : κ × Int → Bool) : sv (d.filter p) ≤ sv d := by
  induction d with
  | nil => exact Int.le_refl _
  | cons q r ih =>
    have h1 := h q List.mem_cons_self
    have h2 := ih fun z hz => h z (List.mem_cons_of_mem _ hz)
    rw [List.filter_cons, sv_cons]
    split
    · rw [sv_cons]
      omega
    · omega
theorem sum_gs_le {d : List (κ × Int)} (h : Nn d) {L : List κ} (hL : L.Nodup) : (L.map (gs d)).sum ≤ sv d := by
  rw [sum_gs d hL]
  exact sv_filter_le h _
theorem sum_gs_all {d : List (κ × Int)} {L : List κ} (hL : L.Nodup) (hs : ∀ n ∈ ks d, n ∈ L) : (L.map (gs d)).sum = sv d := by
  rw [sum_gs d hL]
  congr 1
  exact List.filter_eq_self.mpr fun z hz => decide_eq_true (hs _ (mem_ks hz))
end KM

set_option Elab.async false
set_option linter.all false
set_option maxRecDepth 100000
/-! MB: the law's own listing: what it lists are truths, and each truth has a likeness in it. -/
namespace KD
open PySem PySem.Spec L2 KM
local instance : Vol := volNone
theorem dgo_gs {d : List (Str × Int)} (nd : (ks d).Nodup) (n : Str) : (dgo d n).getD 0 = gs d n := find_gs nd n
theorem dgo_mem' {d : List (Str × Int)} (nd : (ks d).Nodup) {z : Str × Int} (h : z ∈ d) : dgo d z.1 = some z.2 := find_some nd h
theorem putI_put (d : List (Str × Int)) (k : Str) (v : Int) : putI d k v = put d k v := rfl
theorem addAll_add (d ts : List (Str × Int)) : addAll d ts = add d ts := rfl
/-- a truth -/
structure IsTr (off lost : Int) (kept c : List (Str × Int)) : Prop where
  nd : (ks c).Nodup
  pos : Pos c
  lo : ∀ n, gs kept n ≤ gs c n
  hi : ∀ n, gs c n ≤ gs kept n + off
  sum : sv c = sv kept + lost
theorem IsTr.perm {off lost : Int} {kept c d : List (Str × Int)} (h : IsTr off lost kept c) (p : c.Perm d) : IsTr off lost kept d :=
  ⟨nd_perm p h.nd, fun z hz => h.pos z (p.mem_iff.mpr hz), fun n => by rw [← gs_perm p]; exact h.lo n, fun n => by rw [← gs_perm p]; exact h.hi n, by rw [← sv_perm p]; exact h.sum⟩
/-! rows -/
def RowIs (off lost : Int) (L : List Str) (r : List (Str × Int) × Int) : Prop := ks r.1 = L ∧ (∀ z ∈ r.1, 0 ≤ z.2 ∧ z.2 ≤ off) ∧ 0 ≤ r.2 ∧ sv r.1 + r.2 = lost
theorem row_stp {off lost : Int} (ho : 0 ≤ off) {L : List Str} {rows : List (List (Str × Int) × Int)} (h : ∀ r ∈ rows, RowIs off lost L r) (n : Str) : ∀ r ∈ trStep off rows n, RowIs off lost (L ++ [n]) r := fun r hr => by
  obtain ⟨q, hq, hr⟩ := List.mem_flatMap.mp hr
  obtain ⟨j, hj, rfl⟩ := List.mem_map.mp hr
  have hj := List.mem_range.mp hj
  obtain ⟨h1, h2, h3, h4⟩ := h q hq
  refine ⟨?_, fun z hz => ?_, ?_, ?_⟩
  · show ks (q.1 ++ [(n, (j : Int))]) = _
    unfold ks at h1 ⊢
    rw [List.map_append, h1]
    rfl
  · rcases List.mem_append.mp hz with hz | hz
    · exact h2 z hz
    · rw [List.mem_singleton.mp hz]
      show 0 ≤ (j : Int) ∧ (j : Int) ≤ off
      omega
  · show 0 ≤ q.2 - (j : Int)
    omega
  · show sv (q.1 ++ [(n, (j : Int))]) + (q.2 - (j : Int)) = lost
    rw [sv_append, sv_cons, sv_nil]
    show sv q.1 + ((j : Int) + 0) + (q.2 - (j : Int)) = lost
    omega
theorem row_fold {off lost : Int} (ho : 0 ≤ off) : ∀ (L L0 : List Str) (rows : List (List (Str × Int) × Int)), (∀ r ∈ rows, RowIs off lost L0 r) → ∀ r ∈ L.foldl (trStep off) rows, RowIs off lost (L0 ++ L) r
  | [], L0, rows, h => by simpa using h
  | n :: L, L0, rows, h => fun r hr => by
    rw [List.foldl_cons] at hr
    have := row_fold ho L (L0 ++ [n]) _ (row_stp ho h n) r hr
    rw [List.append_assoc] at this
    exact this
theorem row_is {off lost : Int} (ho : 0 ≤ off) (hl : 0 ≤ lost) {r : List (Str × Int) × Int} (hr : r ∈ trRows off lost) : RowIs off lost NM5 r :=
  row_fold ho NM5 [] _ (fun r hr => by
    rw [List.mem_singleton.mp hr]
    exact ⟨rfl, fun z hz => (nomatch hz), hl, by show sv [] + lost = lost; rw [sv_nil]; omega⟩) r hr
/-- each choice is listed -/
theorem row_mem {off : Int} {f : Str → Int} (hf : ∀ n, 0 ≤ f n ∧ f n ≤ off) : ∀ (L : List Str) (rows : List (List (Str × Int) × Int)) (tk : List (Str × Int)) (left : Int), (tk, left) ∈ rows → (L.map f).sum ≤ left →
    (tk ++ L.map (fun n => (n, f n)), left - (L.map f).sum) ∈ L.foldl (trStep off) rows
  | [], rows, tk, left, h, _ => by
    simpa using h
  | n :: L, rows, tk, left, h, hs => by
    rw [List.foldl_cons]
    simp only [List.map_cons, List.sum_cons] at hs ⊢
    have h0 := hf n
    have h1 := sum_map_nn (l := L) (f := f) fun x _ => (hf x).1
    have := row_mem hf L (trStep off rows n) (tk ++ [(n, f n)]) (left - f n) (by
      refine List.mem_flatMap.mpr ⟨_, h, List.mem_map.mpr ⟨(f n).toNat, List.mem_range.mpr ?_, ?_⟩⟩
      · show (f n).toNat < (min off left + 1).toNat
        omega
      · show (tk ++ [(n, ((f n).toNat : Int))], left - ((f n).toNat : Int)) = _
        rw [Int.toNat_of_nonneg h0.1]) (by omega)
    have e1 : tk ++ [(n, f n)] ++ L.map (fun n => (n, f n)) = tk ++ (n, f n) :: L.map (fun n => (n, f n)) := by simp
    have e2 : left - f n - (L.map f).sum = left - (f n + (L.map f).sum) := by omega
    rw [e1, e2] at this
    exact this
/-! partings -/
theorem part_is : ∀ (F : Nat) (n m : Int), 0 ≤ n → n < F → ∀ p ∈ partL F n m, (∀ v ∈ p, 1 ≤ v ∧ v ≤ m) ∧ p.sum = n
  | 0, n, m, h0, h1, p, hp => by omega
  | F + 1, n, m, h0, h1, p, hp => by
    unfold partL at hp
    split at hp
    · rename_i e
      rw [List.mem_singleton.mp hp]
      exact ⟨fun v hv => (nomatch hv), (of_decide_eq_true e).symm⟩
    · rename_i e
      have e : n ≠ 0 := fun z => e (decide_eq_true z)
      obtain ⟨j, hj, hp⟩ := List.mem_flatMap.mp hp
      obtain ⟨q, hq, rfl⟩ := List.mem_map.mp hp
      have hj := List.mem_range.mp hj
      obtain ⟨h2, h3⟩ := part_is F _ _ (by omega) (by omega) q hq
      refine ⟨fun v hv => ?_, ?_⟩
      · rcases List.mem_cons.mp hv with rfl | hv
        · omega
        · have := h2 v hv
          omega
      · rw [List.sum_cons, h3]
        omega
theorem part_mem : ∀ (F : Nat) (p : List Int) (m : Int), p.sum < F → (∀ v ∈ p, 1 ≤ v ∧ v ≤ m) → p.Pairwise (fun a b => b ≤ a) → p ∈ partL F p.sum m
  | 0, p, m, h, hp, _ => by
    exfalso
    have h2 : 0 ≤ p.sum := by
      have := sum_map_nn (f := fun x : Int => x) (l := p) fun x hx => by have := hp x hx; omega
      rwa [List.map_id'] at this
    omega
  | F + 1, [], m, h, _, _ => by
    unfold partL
    rw [List.sum_nil, if_pos (decide_eq_true rfl)]
    exact List.mem_singleton.mpr rfl
  | F + 1, a :: r, m, h, hp, ho => by
    have h1 := hp a List.mem_cons_self
    have h2 : 0 ≤ r.sum := by
      have := sum_map_nn (f := fun x : Int => x) (l := r) fun x hx => by have := hp x (List.mem_cons_of_mem _ hx); omega
      rwa [List.map_id'] at this
    rw [List.pairwise_cons] at ho
    rw [List.sum_cons] at h
    have ih := part_mem F r a (by omega) (fun v hv => ⟨(hp v (List.mem_cons_of_mem _ hv)).1, ho.1 v hv⟩) ho.2
    unfold partL
    rw [List.sum_cons, if_neg (by rw [decide_eq_true_eq]; omega)]
    refine List.mem_flatMap.mpr ⟨(min (a + r.sum) m - a).toNat, List.mem_range.mpr (by omega), List.mem_map.mpr ⟨r, ?_, ?_⟩⟩
    · have e1 : min (a + r.sum) m - ((min (a + r.sum) m - a).toNat : Int) = a := by omega
      rw [e1]
      have e2 : a + r.sum - a = r.sum := by omega
      rw [e2]
      exact ih
    · have e1 : min (a + r.sum) m - ((min (a + r.sum) m - a).toNat : Int) = a := by omega
      rw [e1]
/-! new names -/
theorem yName_eq (i : Nat) : yName i = ⟨#[121, 97 + i]⟩ := rfl
theorem yName_inj {i j : Nat} (h : yName i = yName j) : i = j := by
  rw [yName_eq, yName_eq] at h
  injection h with h
  have := congrArg Array.toList h
  simp at this
  omega
def yL (p : List Int) : List (Str × Int) := (List.range p.length).map fun i => (yName i, p.getD i 0)
theorem trPut_eq (d : List (Str × Int)) (p : List Int) (h : ∀ i, yName i ∉ ks d) : trPut d p = d ++ yL p := by
  have key : ∀ n, (List.range n).foldl (fun d i => putI d (yName i) (p.getD i 0)) d = d ++ (List.range n).map fun i => (yName i, p.getD i 0) := by
    intro n
    induction n with
    | zero => simp
    | succ n ih =>
      rw [List.range_succ, List.foldl_append, ih, List.map_append]
      show putI _ _ _ = _
      rw [putI_put, put_out]
      · rw [List.append_assoc]
        rfl
      · intro hm
        unfold ks at hm
        rw [List.map_append, List.map_map, List.mem_append] at hm
        rcases hm with hm | hm
        · exact h n hm
        · obtain ⟨j, hj, e⟩ := List.mem_map.mp hm
          have := yName_inj e
          have := List.mem_range.mp hj
          omega
  exact key p.length
theorem yL_nd (p : List Int) : (ks (yL p)).Nodup := by
  unfold yL ks
  rw [List.map_map]
  rw [List.Nodup, List.pairwise_map]
  exact List.nodup_range.imp fun h e => h (yName_inj e)
theorem yL_vals (p : List Int) : (yL p).map (·.2) = p := by
  unfold yL
  rw [List.map_map]
  refine List.ext_getElem (by simp) fun i h1 h2 => ?_
  simp at h1
  simp [List.getElem?_eq_getElem h1]
theorem yL_sv (p : List Int) : sv (yL p) = p.sum := by
  unfold sv
  rw [yL_vals]
theorem yL_mem {p : List Int} {z : Str × Int} (h : z ∈ yL p) : z.2 ∈ p := by
  have := List.mem_map_of_mem (f := fun z : Str × Int => z.2) h
  rw [yL_vals] at this
  exact this
theorem yL_key {p : List Int} {n : Str} (h : n ∈ ks (yL p)) : ∃ i, i < p.length ∧ n = yName i := by
  unfold yL ks at h
  rw [List.map_map] at h
  obtain ⟨i, hi, e⟩ := List.mem_map.mp h
  exact ⟨i, List.mem_range.mp hi, e.symm⟩
theorem nm5_y (i : Nat) : yName i ∉ NM5 := by
  intro h
  rw [yName_eq] at h
  unfold NM5 at h
  simp only [List.mem_cons, List.not_mem_nil, or_false] at h
  rcases h with h | h | h | h | h
  · exact absurd (congrArg (fun z : Str => z.cps.size) h) (by show ¬ (2 = Array.size _); decide +kernel)
  · exact absurd (congrArg (fun z : Str => z.cps.size) h) (by show ¬ (2 = Array.size _); decide +kernel)
  · exact absurd (congrArg (fun z : Str => z.cps.size) h) (by show ¬ (2 = Array.size _); decide +kernel)
  · exact absurd (congrArg (fun z : Str => z.cps.size) h) (by show ¬ (2 = Array.size _); decide +kernel)
  · have h2 := congrArg (fun z : Str => z.cps[0]?) h
    have h3 : ("zz" : Str).cps[0]? = some 122 := by decide +kernel
    have h4 : (some 121 : Option Nat) = ("zz" : Str).cps[0]? := h2
    rw [h3] at h4
    cases h4
end KD

set_option Elab.async false
set_option linter.all false
set_option maxRecDepth 100000
/-! MC: what is listed are truths; each truth has a likeness that is listed. -/
namespace KD
open PySem PySem.Spec L2 KM
local instance : Vol := volNone
structure KpOk (kept : List (Str × Int)) : Prop where
  nd : (ks kept).Nodup
  pos : Pos kept
  sub : ∀ n ∈ ks kept, n ∈ (["a", "b", "x"] : List Str)
  len : kept.length ≤ 3
theorem abx5 : ∀ n ∈ (["a", "b", "x"] : List Str), n ∈ NM5 := by decide +kernel
theorem nm5_nd : NM5.Nodup := by decide +kernel
theorem KpOk.sub5 {kept : List (Str × Int)} (h : KpOk kept) {n : Str} (hn : n ∈ ks kept) : n ∈ NM5 := abx5 n (h.sub n hn)
theorem mem_kps {d : List (Str × Int)} {n : Str} (h : n ∈ ks (KM.ps d)) : n ∈ ks d := by
  obtain ⟨z, hz, rfl⟩ := List.mem_map.mp h
  exact mem_ks (List.mem_filter.mp hz).1
theorem row_nd {off lost : Int} {r : List (Str × Int) × Int} (h : RowIs off lost NM5 r) : (ks r.1).Nodup := by
  rw [h.1]
  exact nm5_nd
theorem row_nn {off lost : Int} {r : List (Str × Int) × Int} (h : RowIs off lost NM5 r) : Nn r.1 := fun z hz => (h.2.1 z hz).1
theorem trOne_eq {off lost : Int} {kept : List (Str × Int)} (hk : KpOk kept) {r : List (Str × Int) × Int} (h : RowIs off lost NM5 r) {p : List Int} (hp : ∀ v ∈ p, 1 ≤ v) :
    trOne kept r.1 p = KM.ps (add kept r.1) ++ yL p ∧ (∀ n ∈ ks (add kept r.1), n ∈ NM5) := by
  have hs : ∀ n ∈ ks (add kept r.1), n ∈ NM5 := fun n hn => by
    rcases (mem_ks_add r.1).mp hn with hn | hn
    · exact hk.sub5 hn
    · rw [← h.1]
      exact hn
  refine ⟨?_, hs⟩
  have e1 : trOne kept r.1 p = KM.ps (trPut (add kept r.1) p) := rfl
  rw [e1, trPut_eq _ _ (fun i hi => nm5_y i (hs _ hi)), ps_append]
  congr 1
  exact ps_pos fun z hz => by have := hp _ (yL_mem hz); omega
theorem gs_yL_nm {p : List Int} {n : Str} (h : n ∈ NM5) : gs (yL p) n = 0 := gs_notin fun hn => by
  obtain ⟨i, _, rfl⟩ := yL_key hn
  exact nm5_y i h
theorem gs_yL_le {p : List Int} {off : Int} (ho : 0 ≤ off) (h : ∀ v ∈ p, 1 ≤ v ∧ v ≤ off) (n : Str) : 0 ≤ gs (yL p) n ∧ gs (yL p) n ≤ off := by
  by_cases hn : n ∈ ks (yL p)
  · have := h _ (yL_mem (mem_gs (yL_nd p) hn))
    have e : (n, gs (yL p) n).2 = gs (yL p) n := rfl
    omega
  · rw [gs_notin hn]
    omega
theorem gs_row {off lost : Int} (ho : 0 ≤ off) {r : List (Str × Int) × Int} (h : RowIs off lost NM5 r) (n : Str) : 0 ≤ gs r.1 n ∧ gs r.1 n ≤ off := by
  by_cases hn : n ∈ ks r.1
  · have := h.2.1 _ (mem_gs (row_nd h) hn)
    exact this
  · rw [gs_notin hn]
    omega
/-- what is listed, told -/
structure Listed (off lost : Int) (kept : List (Str × Int)) (c : List (Str × Int)) : Prop where
  tr : IsTr off lost kept c
  nm : ∀ n ∈ ks c, n ∈ NM5 ∨ ∃ i, i < 13 ∧ n = yName i
  len : c.length ≤ 30
theorem listed {off lost : Int} {kept : List (Str × Int)} (ho : 0 ≤ off) (hl : 0 ≤ lost) (hl2 : lost ≤ 12) (hk : KpOk kept) {c : List (Str × Int)} (hc : c ∈ trL 13 off kept lost) : Listed off lost kept c := by
  obtain ⟨r, hr, hc⟩ := List.mem_flatMap.mp hc
  obtain ⟨p, hp, rfl⟩ := List.mem_map.mp hc
  have h := row_is ho hl hr
  obtain ⟨hk1, hk2, hk3, hk4⟩ := h
  have h : RowIs off lost NM5 r := ⟨hk1, hk2, hk3, hk4⟩
  have hsv := sv_nn (row_nn h)
  obtain ⟨p1, p2⟩ := part_is 13 r.2 off hk3 (by omega) p hp
  obtain ⟨e, hs⟩ := trOne_eq hk h (fun v hv => (p1 v hv).1)
  have hnn : Nn (add kept r.1) := nn_add _ hk.nd hk.pos.nn (row_nn h)
  have hg : ∀ n, gs (trOne kept r.1 p) n = gs kept n + gs r.1 n + gs (yL p) n := fun n => by rw [e, gs_append, gs_ps hnn, gs_add _ _ hk.nd]
  refine ⟨⟨?_, ?_, fun n => ?_, fun n => ?_, ?_⟩, fun n hn => ?_, ?_⟩
  · rw [e]
    show (((_ ++ _ : List (Str × Int))).map _).Nodup
    rw [List.map_append, List.nodup_append]
    refine ⟨nd_ps (nd_add _ hk.nd), yL_nd p, fun a ha b hb e => ?_⟩
    obtain ⟨i, _, rfl⟩ := yL_key hb
    subst e
    exact nm5_y i (hs _ (mem_kps ha))
  · rw [e]
    intro z hz
    rcases List.mem_append.mp hz with hz | hz
    · exact pos_ps _ z hz
    · have := p1 _ (yL_mem hz)
      omega
  · rw [hg]
    have h1 := (gs_row ho h n).1
    have h2 := (gs_yL_le ho p1 n).1
    omega
  · rw [hg]
    by_cases hn : n ∈ NM5
    · rw [gs_yL_nm hn]
      have := (gs_row ho h n).2
      omega
    · rw [show gs r.1 n = 0 from gs_notin (by rw [h.1]; exact hn)]
      have := (gs_yL_le ho p1 n).2
      omega
  · rw [e, sv_append, sv_ps hnn, sv_add _ hk.nd, yL_sv, p2]
    omega
  · rw [e] at hn
    unfold ks at hn
    rw [List.map_append, List.mem_append] at hn
    rcases hn with hn | hn
    · exact .inl (hs _ (mem_kps hn))
    · obtain ⟨i, hi, rfl⟩ := yL_key hn
      have := partL_el 13 _ _ p hp
      exact .inr ⟨i, by omega, rfl⟩
  · rw [e, List.length_append]
    have h1 : (KM.ps (add kept r.1)).length ≤ (add kept r.1).length := List.length_filter_le _ _
    have h2 : (add kept r.1).length ≤ kept.length + r.1.length := addAll_len kept r.1
    have h3 : (yL p).length = p.length := by unfold yL; rw [List.length_map, List.length_range]
    have h4 := partL_el 13 _ _ p hp
    have h5 := hk.len
    have h6 : r.1.length = 5 := by
      have := congrArg List.length hk1
      unfold ks at this
      rw [List.length_map] at this
      exact this
    omega
/-! likeness -/
theorem gs_fil (d : List (Str × Int)) (L : List Str) (n : Str) : gs (d.filter fun z => decide (z.1 ∈ L)) n = if n ∈ L then gs d n else 0 := by
  induction d with
  | nil => simp
  | cons q r ih =>
    rw [List.filter_cons]
    by_cases e : q.1 ∈ L
    · rw [if_pos (decide_eq_true e), gs_cons, gs_cons, ih]
      by_cases h : q.1 = n
      · subst h
        rw [if_pos e, if_pos rfl, if_pos e]
      · rw [if_neg h]
        split <;> omega
    · rw [if_neg (by rw [decide_eq_true_eq]; exact e), ih, gs_cons]
      by_cases h : q.1 = n
      · subst h
        rw [if_neg e, if_neg e]
      · rw [if_neg h]
        split <;> omega
theorem gs_filn (d : List (Str × Int)) (L : List Str) (n : Str) : gs (d.filter fun z => !decide (z.1 ∈ L)) n = if n ∈ L then 0 else gs d n := by
  have h1 := gs_fil d L n
  have h2 := gs_perm (List.filter_append_perm (fun z => decide (z.1 ∈ L)) d) n
  rw [gs_append, h1] at h2
  split at h1 <;> rename_i h
  · rw [if_pos h] at h2 ⊢
    omega
  · rw [if_neg h] at h2 ⊢
    omega
theorem sv_fil2 (d : List (Str × Int)) (L : List Str) : sv (d.filter fun z => decide (z.1 ∈ L)) + sv (d.filter fun z => !decide (z.1 ∈ L)) = sv d := by
  rw [← sv_append]
  exact sv_perm (List.filter_append_perm _ d)
theorem ks_fil {d : List (Str × Int)} (p : Str × Int → Bool) (h : (ks d).Nodup) : (ks (d.filter p)).Nodup := h.sublist (List.Sublist.map _ List.filter_sublist)
theorem gs_mapf (f : Str → Int) (L : List Str) (n : Str) (hL : L.Nodup) : gs (L.map fun n => (n, f n)) n = if n ∈ L then f n else 0 := by
  have hk : ks (L.map fun n => (n, f n)) = L := by
    unfold ks
    rw [List.map_map]
    exact List.map_id' _
  by_cases h : n ∈ L
  · rw [if_pos h]
    exact gs_mem (by rw [hk]; exact hL) (List.mem_map.mpr ⟨n, h, rfl⟩)
  · rw [if_neg h]
    exact gs_notin (by rw [hk]; exact h)
theorem alike {off lost : Int} {kept : List (Str × Int)} (ho : 0 ≤ off) (hl : 0 ≤ lost) (hl2 : lost ≤ 12) (hk : KpOk kept) {c : List (Str × Int)} (hc : IsTr off lost kept c) :
    ∃ t ∈ trL 13 off kept lost, (∀ n ∈ NM5, gs t n = gs c n) ∧ (t.map (·.2)).Perm (c.map (·.2)) := by
  let f : Str → Int := fun n => gs c n - gs kept n
  have hf : ∀ n, 0 ≤ f n ∧ f n ≤ off := fun n => by
    have h1 := hc.lo n
    have h2 := hc.hi n
    show 0 ≤ gs c n - gs kept n ∧ gs c n - gs kept n ≤ off
    omega
  have e1 : (NM5.map (gs c)).sum = sv (c.filter fun z => decide (z.1 ∈ NM5)) := sum_gs c nm5_nd
  have e2 : (NM5.map (gs kept)).sum = sv kept := sum_gs_all nm5_nd fun n hn => hk.sub5 hn
  have e3 : (NM5.map f).sum = sv (c.filter fun z => decide (z.1 ∈ NM5)) - sv kept := by
    rw [← e1, ← e2]
    exact sum_map_sub _ _ _
  have e4 := sv_fil2 c NM5
  have hB : ∀ z ∈ c.filter (fun z => !decide (z.1 ∈ NM5)), 1 ≤ z.2 ∧ z.2 ≤ off := fun z hz => by
    obtain ⟨hz, hn⟩ := List.mem_filter.mp hz
    have hn : z.1 ∉ NM5 := by simpa using hn
    have h1 := hc.pos z hz
    have h2 := hc.hi z.1
    rw [gs_mem hc.nd hz, gs_notin fun h => hn (hk.sub5 h)] at h2
    omega
  have e5 : 0 ≤ sv (c.filter fun z => !decide (z.1 ∈ NM5)) := sv_nn fun z hz => by have := hB z hz; omega
  have hr := row_mem hf NM5 [([], lost)] [] lost (List.mem_singleton.mpr rfl) (by rw [e3]; have := hc.sum; omega)
  rw [List.nil_append] at hr
  have hrest : lost - (NM5.map f).sum = (revS ((c.filter fun z => !decide (z.1 ∈ NM5)).map (·.2))).sum := by
    rw [perm_sum (revS_perm _), e3]
    show _ = sv _
    have := hc.sum
    omega
  have hp := part_mem 13 (revS ((c.filter fun z => !decide (z.1 ∈ NM5)).map (·.2))) off (by
    rw [← hrest, e3]
    have h1 : 0 ≤ sv (c.filter fun z => decide (z.1 ∈ NM5)) - sv kept := by
      rw [← e3]
      exact sum_map_nn fun x _ => (hf x).1
    show lost - _ < (13 : Int)
    omega) (fun v hv => by
    have hv := (revS_perm _).mem_iff.mp hv
    obtain ⟨z, hz, rfl⟩ := List.mem_map.mp hv
    exact hB z hz) (revS_ord _)
  rw [← hrest] at hp
  have hri := row_is ho hl hr
  have hkT : ks (NM5.map fun n => (n, f n)) = NM5 := hri.1
  have hpp : ∀ v ∈ revS ((c.filter fun z => !decide (z.1 ∈ NM5)).map (·.2)), 1 ≤ v := fun v hv => by
    have hv := (revS_perm _).mem_iff.mp hv
    obtain ⟨z, hz, rfl⟩ := List.mem_map.mp hv
    exact (hB z hz).1
  obtain ⟨e, hs⟩ := trOne_eq hk hri hpp
  have hnn : Nn (add kept (NM5.map fun n => (n, f n))) := nn_add _ hk.nd hk.pos.nn (row_nn hri)
  have hg : ∀ n, gs (KM.ps (add kept (NM5.map fun n => (n, f n)))) n = gs kept n + if n ∈ NM5 then f n else 0 := fun n => by
    rw [gs_ps hnn, gs_add _ _ hk.nd, gs_mapf f NM5 n nm5_nd]
  refine ⟨_, List.mem_flatMap.mpr ⟨_, hr, List.mem_map.mpr ⟨_, hp, rfl⟩⟩, fun n hn => ?_, ?_⟩
  · show gs (trOne kept _ _) n = _
    rw [e, gs_append, hg, gs_yL_nm hn, if_pos hn]
    show gs kept n + (gs c n - gs kept n) + 0 = _
    omega
  · show ((trOne kept _ _).map _).Perm _
    rw [e, List.map_append, yL_vals]
    have q1 : (KM.ps (add kept (NM5.map fun n => (n, f n)))).Perm (c.filter fun z => decide (z.1 ∈ NM5)) := by
      refine perm_of_gs (nd_ps (nd_add _ hk.nd)) (ks_fil _ hc.nd) (pos_ps _) (fun z hz => hc.pos z (List.mem_filter.mp hz).1) fun n => ?_
      rw [hg, gs_fil]
      by_cases hn : n ∈ NM5
      · rw [if_pos hn, if_pos hn]
        show gs kept n + (gs c n - gs kept n) = _
        omega
      · rw [if_neg hn, if_neg hn, gs_notin fun h => hn (hk.sub5 h)]
        rfl
    have q2 := (q1.map (·.2)).append (revS_perm ((c.filter fun z => !decide (z.1 ∈ NM5)).map (·.2)))
    rw [← List.map_append] at q2
    exact q2.trans ((List.filter_append_perm (fun z => decide (z.1 ∈ NM5)) c).map _)
end KD

set_option Elab.async false
set_option linter.all false
set_option maxRecDepth 100000
/-! MD: the value of each truth lies between the ends. -/
namespace KD
open PySem PySem.Spec L2 KM
local instance : Vol := volNone
theorem take_min {α : Type} (xs : List α) (k : Nat) : xs.take (min k xs.length) = xs.take k := by
  by_cases h : k ≤ xs.length
  · rw [Nat.min_eq_left h]
  · rw [Nat.min_eq_right (by omega), List.take_of_length_le (Nat.le_refl _), List.take_of_length_le (by omega)]
theorem cutA_take {α : Type} (xs : List α) {m : Int} (h : 0 ≤ m) : cutA xs none (some m) = xs.take m.toNat := by
  unfold cutA
  have e : HT.sIx xs.length xs.length (some m) = min m.toNat xs.length := by
    show (if m < 0 then _ else min m.toNat xs.length) = _
    rw [if_neg (by omega)]
  have e0 : HT.sIx xs.length 0 none = 0 := rfl
  rw [e, e0, List.drop_zero, Nat.sub_zero, take_min]
theorem cutA_drop {α : Type} (xs : List α) {m : Int} (h : 0 ≤ m) : cutA xs (some m) none = xs.drop m.toNat := by
  unfold cutA
  have e : HT.sIx xs.length 0 (some m) = min m.toNat xs.length := by
    show (if m < 0 then _ else min m.toNat xs.length) = _
    rw [if_neg (by omega)]
  have e0 : HT.sIx xs.length xs.length none = xs.length := rfl
  rw [e, e0, List.take_of_length_le (by rw [List.length_drop]; exact Nat.le_refl _)]
  by_cases q : m.toNat ≤ xs.length
  · rw [Nat.min_eq_left q]
  · rw [Nat.min_eq_right (by omega), List.drop_of_length_le (Nat.le_refl _), List.drop_of_length_le (by omega)]
/-! the greatest so many -/
def topS (k : Nat) (l : List Int) : Int := ((revS l).take k).sum
theorem revS_permEq {a b : List Int} (h : a.Perm b) : revS a = revS b := revS_one ((revS_perm a).trans h) ((revS_ord a).imp fun h => h)
theorem topS_perm {a b : List Int} (k : Nat) (h : a.Perm b) : topS k a = topS k b := by
  unfold topS
  rw [revS_permEq h]
theorem sum_id (l : List Int) : (l.map fun z => z).sum = l.sum := by rw [List.map_id']
theorem sum_le_const {t : Int} : ∀ {l : List Int}, (∀ x ∈ l, x ≤ t) → l.sum ≤ l.length * t
  | [], _ => by simp
  | a :: r, h => by
    have h1 := h a List.mem_cons_self
    have h2 := sum_le_const (l := r) fun x hx => h x (List.mem_cons_of_mem _ hx)
    rw [List.sum_cons, List.length_cons]
    have : ((r.length + 1 : Nat) : Int) * t = r.length * t + t := by rw [Int.natCast_add, Int.add_mul]; simp
    omega
theorem sum_nonneg {l : List Int} (h : ∀ x ∈ l, 0 ≤ x) : 0 ≤ l.sum := by
  have := sum_map_nn (f := fun x : Int => x) h
  rwa [sum_id] at this
theorem topS_ge {l ys zs : List Int} {k : Nat} (hp : (ys ++ zs).Perm l) (hn : ∀ x ∈ l, 0 ≤ x) (hk : ys.length ≤ k) : ys.sum ≤ topS k l := by
  have hs := revS_perm l
  have ho := revS_ord l
  unfold topS
  generalize revS l = s at hs ho
  have hp2 : (ys ++ zs).Perm s := hp.trans hs.symm
  have hns : ∀ x ∈ s, 0 ≤ x := fun x hx => hn x (hs.mem_iff.mp hx)
  by_cases q : s.length ≤ k
  · rw [List.take_of_length_le q, ← perm_sum hp2, List.sum_append_int]
    have : 0 ≤ zs.sum := sum_nonneg fun x hx => hns x (hp2.mem_iff.mp (List.mem_append_right _ hx))
    omega
  · have hk2 : k < s.length := by omega
    have es : s = s.take k ++ s.drop k := (List.take_append_drop k s).symm
    have ed : s.drop k = s[k] :: s.drop (k + 1) := List.drop_eq_getElem_cons hk2
    have t0 : 0 ≤ s[k] := hns _ (List.getElem_mem hk2)
    have ho2 := ho
    rw [es, List.pairwise_append, ed, List.pairwise_cons] at ho2
    generalize et : s[k] = t at *
    obtain ⟨_, ⟨hd, _⟩, hx⟩ := ho2
    let g : Int → Int := fun x => max (x - t) 0
    have h1 : ys.sum ≤ (ys.map fun x => t + g x).sum := by
      have := sum_map_le (f := fun x : Int => x) (g := fun x => t + g x) (l := ys) fun x _ => by show x ≤ t + max (x - t) 0; omega
      rwa [sum_id] at this
    rw [sum_map_add, sum_map_const] at h1
    have h2 : (ys.map g).sum ≤ (s.map g).sum := by
      rw [← perm_sum (hp2.map g), List.map_append, List.sum_append_int]
      have := sum_map_nn (f := g) (l := zs) fun x _ => by show 0 ≤ max (x - t) 0; omega
      omega
    have h3 : (s.map g).sum = ((s.take k).map g).sum + ((s.drop k).map g).sum := by
      rw [← List.sum_append_int, ← List.map_append, ← es]
    have h4 : ((s.drop k).map g).sum = 0 := by
      have : (s.drop k).map g = (s.drop k).map fun _ => 0 := List.map_congr_left fun x hx2 => by
        show max (x - t) 0 = 0
        rw [ed] at hx2
        rcases List.mem_cons.mp hx2 with e | hx2
        · omega
        · have := hd x hx2
          omega
      rw [this, sum_map_const]
      omega
    have h5 : ((s.take k).map g).sum = (s.take k).sum - (s.take k).length * t := by
      have : (s.take k).map g = (s.take k).map fun x => x - t := List.map_congr_left fun x hx2 => by
        show max (x - t) 0 = x - t
        have := hx x hx2 t List.mem_cons_self
        omega
      rw [this, sum_map_sub, sum_map_const, sum_id]
    have h6 : (s.take k).length = k := by rw [List.length_take]; omega
    rw [h6] at h5
    have h7 : (ys.length : Int) * t ≤ k * t := Int.mul_le_mul_of_nonneg_right (by omega) t0
    omega
theorem topS_all {l : List Int} {k : Nat} (h : l.length ≤ k) : topS k l = l.sum := by
  unfold topS
  rw [List.take_of_length_le (by rw [(revS_perm l).length_eq]; exact h)]
  exact perm_sum (revS_perm l)
/-- the entries with the greatest counts -/
theorem tops (c : List (Str × Int)) (k : Nat) : ∃ S R, (S ++ R).Perm c ∧ S.length = min k c.length ∧ sv S = topS k (c.map (·.2)) := by
  let c' := c.mergeSort fun a b => decide (b.2 ≤ a.2)
  have hp : c'.Perm c := List.mergeSort_perm _ _
  have ho : c'.Pairwise fun a b => b.2 ≤ a.2 := by
    have h := List.pairwise_mergeSort (le := fun a b : Str × Int => decide (b.2 ≤ a.2)) (fun a b c h1 h2 => by
      simp only [decide_eq_true_eq] at h1 h2 ⊢
      omega) (fun a b => by
      simp only [Bool.or_eq_true, decide_eq_true_eq]
      omega) c
    exact h.imp fun h => by simpa using h
  have e : c'.map (·.2) = revS (c.map (·.2)) := revS_one (hp.map _) (by rw [List.pairwise_map]; exact ho)
  refine ⟨c'.take k, c'.drop k, by rw [List.take_append_drop]; exact hp, by rw [List.length_take, hp.length_eq], ?_⟩
  unfold sv topS
  rw [List.map_take, e]
/-! the parts of a truth -/
structure Parts (off lost : Int) (kept c B : List (Str × Int)) : Prop where
  perm : c.Perm (kept.map (fun z => (z.1, gs c z.1)) ++ B)
  nb : ∀ z ∈ B, 1 ≤ z.2 ∧ z.2 ≤ off ∧ z.1 ∉ ks kept
  bnd : (ks B).Nodup
  kp : ∀ z ∈ kept, z.2 ≤ gs c z.1 ∧ gs c z.1 ≤ z.2 + off
  sum : (kept.map fun z => gs c z.1).sum + sv B = sv kept + lost
theorem parts {off lost : Int} {kept c : List (Str × Int)} (hn : (ks kept).Nodup) (hp : Pos kept) (h : IsTr off lost kept c) : Parts off lost kept c (c.filter fun z => !decide (z.1 ∈ ks kept)) := by
  have hkp : ∀ z ∈ kept, z.2 ≤ gs c z.1 ∧ gs c z.1 ≤ z.2 + off := fun z hz => by
    have h1 := h.lo z.1
    have h2 := h.hi z.1
    rw [gs_mem hn hz] at h1 h2
    exact ⟨h1, h2⟩
  have hk2 : ks (kept.map fun z => (z.1, gs c z.1)) = ks kept := by
    unfold ks
    rw [List.map_map]
    rfl
  have pA : (c.filter fun z => decide (z.1 ∈ ks kept)).Perm (kept.map fun z => (z.1, gs c z.1)) := by
    refine perm_of_gs (ks_fil _ h.nd) (by rw [hk2]; exact hn) (fun z hz => h.pos z (List.mem_filter.mp hz).1) (fun z hz => ?_) fun n => ?_
    · obtain ⟨y, hy, rfl⟩ := List.mem_map.mp hz
      have h1 := (hkp y hy).1
      have h2 := hp y hy
      show 0 < gs c y.1
      omega
    · rw [gs_fil]
      split
      · rename_i hm
        obtain ⟨y, hy, rfl⟩ := List.mem_map.mp hm
        exact (gs_mem (z := (y.1, gs c y.1)) (by rw [hk2]; exact hn) (List.mem_map.mpr ⟨y, hy, rfl⟩)).symm
      · rename_i hm
        exact (gs_notin (by rw [hk2]; exact hm)).symm
  have pc : c.Perm (kept.map (fun z => (z.1, gs c z.1)) ++ c.filter fun z => !decide (z.1 ∈ ks kept)) := (List.filter_append_perm _ c).symm.trans (pA.append_right _)
  refine ⟨pc, fun z hz => ?_, ks_fil _ h.nd, hkp, ?_⟩
  · obtain ⟨hz, hz2⟩ := List.mem_filter.mp hz
    have hz2 : z.1 ∉ ks kept := by simpa using hz2
    have h1 := h.pos z hz
    have h2 := h.hi z.1
    rw [gs_mem h.nd hz, gs_notin hz2] at h2
    exact ⟨by omega, by omega, hz2⟩
  · rw [← h.sum, sv_perm pc, sv_append]
    congr 1
    unfold sv
    rw [List.map_map]
    rfl
theorem tk_sum {off lost : Int} {kept c : List (Str × Int)} (hn : (ks kept).Nodup) (hp : Pos kept) (h : IsTr off lost kept c) {L : List Str} (hL : L.Nodup) : (L.map fun n => gs c n - gs kept n).sum ≤ lost := by
  have hk : ∀ n, n ∈ ks kept → n ∈ ks c := fun n hm => by
    refine mem_of_gs ?_
    have h1 := h.lo n
    have h2 := (gs_pos hn hp).mp hm
    omega
  let f : Str → Int := fun n => gs c n - gs kept n
  let E : List (Str × Int) := (ks c).map fun n => (n, f n)
  have hE : ∀ n, gs E n = f n := fun n => by
    rw [gs_mapf f _ _ h.nd]
    split
    · rfl
    · rename_i hm
      show 0 = gs c n - gs kept n
      rw [gs_notin hm, gs_notin fun z => hm (hk n z)]
      rfl
  have hEn : Nn E := fun z hz => by
    obtain ⟨n, _, rfl⟩ := List.mem_map.mp hz
    have := h.lo n
    show 0 ≤ gs c n - gs kept n
    omega
  have h1 := sum_gs_le hEn hL
  have e1 : (L.map (gs E)) = L.map f := List.map_congr_left fun n _ => hE n
  have e2 : sv E = lost := by
    have : sv E = ((ks c).map f).sum := by
      show (((ks c).map fun n => (n, f n)).map (·.2)).sum = _
      rw [List.map_map]
      rfl
    rw [this]
    have h2 : ((ks c).map f).sum = ((ks c).map (gs c)).sum - ((ks c).map (gs kept)).sum := sum_map_sub _ _ _
    rw [h2, sum_gs_all h.nd fun n hn => hn, sum_gs_all h.nd hk, h.sum]
    omega
  rw [e1, e2] at h1
  exact h1
end KD

set_option Elab.async false
set_option linter.all false
set_option maxRecDepth 100000
/-! ME: the value of each truth lies between the ends, question by question. -/
namespace KD
open PySem PySem.Spec L2 KM
local instance : Vol := volNone
structure Sm (s : Sk) : Prop where
  sk : SkOk s
  kp : KpOk s.kept
abbrev Tr (s : Sk) (c : List (Str × Int)) : Prop := IsTr s.off (lostL s) s.kept c
theorem Sm.o {s : Sk} (h : Sm s) : s.off = 0 ∨ s.off = 1 ∨ s.off = 2 := by
  have := h.sk.o0
  have := h.sk.o2
  omega
theorem Sm.len {s : Sk} (h : Sm s) : ((s.kept.length : Int) + 1) * s.off ≤ lostL s := by
  have h1 := h.sk.l1
  have h2 := Int.mul_le_mul_of_nonneg_right (a := (s.kept.length : Int) + 1) (b := s.room + 1) (c := s.off) (by have := h.sk.kl; omega) h.sk.o0
  omega
theorem Sm.len' {s : Sk} (h : Sm s) : (s.kept.length : Int) * s.off + s.off ≤ lostL s := by
  have := h.len
  rw [Int.add_mul, Int.one_mul] at this
  exact this
theorem Sm.ol {s : Sk} (h : Sm s) : s.off ≤ lostL s := by
  have h1 := h.len'
  have h2 : 0 ≤ (s.kept.length : Int) * s.off := Int.mul_nonneg (by omega) h.sk.o0
  omega
theorem Sm.l12 {s : Sk} (h : Sm s) : 0 ≤ lostL s ∧ lostL s ≤ 12 := by
  refine ⟨h.sk.lost0, ?_⟩
  have h1 := h.sk.l2
  have h2 := h.sk.r1
  have h3 := h.sk.r3
  rcases h.o with e | e | e <;> rw [e] at h1 <;> omega
theorem lost_eq (s : Sk) : lostL s = s.many - sv s.kept := rfl
theorem dk {s : Sk} (h : Sm s) (n : Str) : (dgo s.kept n).getD 0 = gs s.kept n := dgo_gs h.kp.nd n
/-! names filled up -/
structure Fil (off l : Int) (names : List Str) (r : List (Str × Int) × Int) : Prop where
  k : ks r.1 = names
  b : ∀ z ∈ r.1, 0 ≤ z.2 ∧ z.2 ≤ off
  s : sv r.1 = min (names.length * off) l
  l : r.2 = l - sv r.1
theorem filF (off : Int) (ho : 0 ≤ off) : ∀ (names : List Str) (acc : List (Str × Int)) (l : Int), 0 ≤ l → ∃ t, names.foldl (fun a n => (a.1 ++ [(n, min off a.2)], a.2 - min off a.2)) (acc, l) = (acc ++ t.1, t.2) ∧ Fil off l names t
  | [], acc, l, hl => ⟨([], l), by simp, rfl, fun z hz => (nomatch hz), by rw [sv_nil]; simp; omega, by rw [sv_nil]; simp⟩
  | n :: r, acc, l, hl => by
    obtain ⟨t, e, hk, hb, hs, hl2⟩ := filF off ho r (acc ++ [(n, min off l)]) (l - min off l) (by omega)
    refine ⟨((n, min off l) :: t.1, t.2), ?_, ?_, fun z hz => ?_, ?_, ?_⟩
    · rw [List.foldl_cons, e, List.append_assoc]
      rfl
    · show n :: ks t.1 = _
      rw [hk]
    · rcases List.mem_cons.mp hz with rfl | hz
      · show 0 ≤ min off l ∧ min off l ≤ off
        omega
      · exact hb z hz
    · show sv ((n, min off l) :: t.1) = _
      rw [sv_cons, hs, List.length_cons]
      have e1 : ((r.length + 1 : Nat) : Int) * off = r.length * off + off := by rw [Int.natCast_add, Int.add_mul]; simp
      have e2 : 0 ≤ (r.length : Int) * off := Int.mul_nonneg (by omega) ho
      rw [e1]
      show min off l + min (r.length * off) (l - min off l) = _
      omega
    · show t.2 = l - sv ((n, min off l) :: t.1)
      rw [sv_cons, hl2]
      show l - min off l - _ = l - (min off l + _)
      omega
theorem fil {off l : Int} (ho : 0 ≤ off) (hl : 0 ≤ l) (names : List Str) : Fil off l names (filL off l names) := by
  obtain ⟨t, e, h⟩ := filF off ho names [] l hl
  unfold filL
  rw [e, List.nil_append]
  exact h
/-- there is enough for all -/
theorem fil_all {off l : Int} (ho : 0 ≤ off) (names : List Str) (h : names.length * off ≤ l) : filL off l names = (names.map fun n => (n, off), l - names.length * off) := by
  have key : ∀ (names : List Str) (acc : List (Str × Int)) (l : Int), names.length * off ≤ l → names.foldl (fun a n => (a.1 ++ [(n, min off a.2)], a.2 - min off a.2)) (acc, l) = (acc ++ names.map fun n => (n, off), l - names.length * off) := by
    intro names
    induction names with
    | nil => intro acc l _; simp
    | cons n r ih =>
      intro acc l hl
      have e1 : ((n :: r).length : Int) * off = r.length * off + off := by rw [List.length_cons, Int.natCast_add, Int.add_mul]; simp
      have e2 : 0 ≤ (r.length : Int) * off := Int.mul_nonneg (by omega) ho
      rw [e1] at hl ⊢
      have e3 : min off l = off := by omega
      rw [List.foldl_cons]
      show List.foldl _ (acc ++ [(n, min off l)], l - min off l) r = _
      rw [e3, ih _ _ (by omega), List.append_assoc]
      have e4 : l - off - r.length * off = l - (r.length * off + off) := by omega
      rw [e4]
      rfl
  unfold filL
  rw [key names [] l h, List.nil_append]
/-! lot, count, apart -/
theorem lot_lo {s : Sk} (h : Sm s) {c : List (Str × Int)} (hc : Tr s c) (ns : List Str) : (ns.map (gs s.kept)).sum ≤ (ns.map (gs c)).sum := sum_map_le fun n _ => hc.lo n
theorem lot_hi {s : Sk} (h : Sm s) {c : List (Str × Int)} (hc : Tr s c) {ns : List Str} (hn : ns.Nodup) : (ns.map (gs c)).sum ≤ (ns.map (gs s.kept)).sum + min (ns.length * s.off) (lostL s) := by
  have h1 := tk_sum h.kp.nd h.kp.pos hc hn
  rw [sum_map_sub] at h1
  have h2 : (ns.map (gs c)).sum ≤ (ns.map fun n => gs s.kept n + s.off).sum := sum_map_le fun n _ => hc.hi n
  rw [sum_map_add, sum_map_const] at h2
  omega
theorem lotE1 {s : Sk} (h : Sm s) (ns : List Str) : lotE s ns = ((ns.map (gs s.kept)).sum, (ns.map (gs s.kept)).sum + min (ns.length * s.off) (lostL s)) := by
  have e : (ns.map fun z => (dgo s.kept z).getD 0) = ns.map (gs s.kept) := List.map_congr_left fun n _ => dk h n
  unfold lotE
  rw [e]
theorem bd_lot {s : Sk} (h : Sm s) {c : List (Str × Int)} (hc : Tr s c) {ns : List Str} (hn : ns.Nodup) : (lotE s ns).1 ≤ (ns.map fun z => (dgo c z).getD 0).sum ∧ (ns.map fun z => (dgo c z).getD 0).sum ≤ (lotE s ns).2 := by
  have e : (ns.map fun z => (dgo c z).getD 0) = ns.map (gs c) := List.map_congr_left fun n _ => dgo_gs hc.nd n
  rw [e, lotE1 h]
  exact ⟨lot_lo h hc ns, lot_hi h hc hn⟩
theorem bd_apart {s : Sk} (h : Sm s) {c : List (Str × Int)} (hc : Tr s c) (a b : Str) : (endsQ s (.apart a b)).1 ≤ valL c (.apart a b) ∧ valL c (.apart a b) ≤ (endsQ s (.apart a b)).2 := by
  have h1 := bd_lot h hc (ns := [a]) (by simp)
  have h2 := bd_lot h hc (ns := [b]) (by simp)
  simp only [List.map_cons, List.map_nil, List.sum_cons, List.sum_nil, Int.add_zero] at h1 h2
  show (lotE s [a]).1 - (lotE s [b]).2 ≤ (dgo c a).getD 0 - (dgo c b).getD 0 ∧ (dgo c a).getD 0 - (dgo c b).getD 0 ≤ (lotE s [a]).2 - (lotE s [b]).1
  omega
/-! first -/
theorem sub_len {d : List (Str × Int)} (nd : (ks d).Nodup) (L : List Str) : (d.filter fun z => decide (z.1 ∈ L)).length ≤ L.length := by
  have h1 := ks_fil (fun z => decide (z.1 ∈ L)) nd
  have h2 : (ks (d.filter fun z => decide (z.1 ∈ L))).length = (d.filter fun z => decide (z.1 ∈ L)).length := by unfold ks; rw [List.length_map]
  rw [← h2]
  refine h1.length_le_of_subset fun n hn => ?_
  obtain ⟨z, hz, rfl⟩ := List.mem_map.mp hn
  simpa using (List.mem_filter.mp hz).2
/-- the entries of so many names are at most the greatest so many -/
theorem top_names {c : List (Str × Int)} (nd : (ks c).Nodup) (hp : Nn c) {L : List Str} (hL : L.Nodup) {k : Nat} (hk : L.length ≤ k) : (L.map (gs c)).sum ≤ topS k (c.map (·.2)) := by
  rw [sum_gs c hL]
  unfold sv
  refine topS_ge (zs := (c.filter fun z => !decide (z.1 ∈ L)).map (·.2)) ?_ (fun x hx => ?_) ?_
  · rw [← List.map_append]
    exact (List.filter_append_perm _ c).map _
  · obtain ⟨z, hz, rfl⟩ := List.mem_map.mp hx
    exact hp z hz
  · rw [List.length_map]
    exact Nat.le_trans (sub_len nd L) hk
theorem fiE1 {s : Sk} {m : Int} (hm : 0 ≤ m) : fiE s m = (topS m.toNat (s.kept.map (·.2)) + min (m - (min m.toNat s.kept.length : Nat)) (lostL s), topS m.toNat (s.kept.map (·.2)) + min (m * s.off) (lostL s)) := by
  unfold fiE
  rw [cutA_take _ hm, sum_id, List.length_take, (revS_perm _).length_eq, List.length_map]
  rfl
theorem bd_first {s : Sk} (h : Sm s) {c : List (Str × Int)} (hc : Tr s c) {m : Int} (hm : 1 ≤ m) : (endsQ s (.first m)).1 ≤ valL c (.first m) ∧ valL c (.first m) ≤ (endsQ s (.first m)).2 := by
  have ev : valL c (.first m) = topS m.toNat (c.map (·.2)) := by
    show ((cutA (revS (c.map fun z => z.2)) none (some m)).map fun z => z).sum = _
    rw [cutA_take _ (by omega), sum_id]
    rfl
  have ee : endsQ s (.first m) = fiE s m := rfl
  rw [ev, ee, fiE1 (by omega)]
  constructor
  · show topS m.toNat (s.kept.map (·.2)) + min (m - (min m.toNat s.kept.length : Nat)) (lostL s) ≤ _
    by_cases q : m.toNat ≤ s.kept.length
    · obtain ⟨S, R, hp, hl, hs⟩ := tops s.kept m.toNat
      have ndS : (ks S).Nodup := by
        have := nd_perm hp.symm h.kp.nd
        unfold ks at this ⊢
        rw [List.map_append, List.nodup_append] at this
        exact this.1
      have h1 : ((ks S).map (gs s.kept)).sum = sv S := by
        unfold ks sv
        rw [List.map_map]
        congr 1
        refine List.map_congr_left fun z hz => ?_
        exact gs_mem h.kp.nd (hp.mem_iff.mp (List.mem_append_left _ hz))
      have h2 := sum_map_le (f := gs s.kept) (g := gs c) (l := ks S) fun n _ => hc.lo n
      have h3 := top_names hc.nd hc.pos.nn ndS (k := m.toNat) (by unfold ks; rw [List.length_map]; omega)
      have h4 := h.l12
      omega
    · rw [topS_all (by rw [List.length_map]; omega)]
      have e1 : (s.kept.map (·.2)).sum = sv s.kept := rfl
      rw [e1]
      by_cases q2 : c.length ≤ m.toNat
      · rw [topS_all (by rw [List.length_map]; omega)]
        have : (c.map (·.2)).sum = sv c := rfl
        rw [this, hc.sum]
        omega
      · have P := parts h.kp.nd h.kp.pos hc
        generalize c.filter (fun z => !decide (z.1 ∈ ks s.kept)) = B at P
        have hlen := P.perm.length_eq
        rw [List.length_append, List.length_map] at hlen
        have hv := topS_ge (k := m.toNat) (l := c.map (·.2)) (ys := ((s.kept.map fun z => (z.1, gs c z.1)) ++ B.take (m.toNat - s.kept.length)).map (·.2)) (zs := (B.drop (m.toNat - s.kept.length)).map (·.2)) (by
          rw [← List.map_append, List.append_assoc, List.take_append_drop]
          exact P.perm.symm.map _) (fun x hx => by
          obtain ⟨z, hz, rfl⟩ := List.mem_map.mp hx
          exact Int.le_of_lt (hc.pos z hz)) (by
          rw [List.length_map, List.length_append, List.length_map, List.length_take]
          omega)
        rw [List.map_append, List.sum_append_int, List.map_map] at hv
        have h2 : sv s.kept ≤ (s.kept.map ((fun z : Str × Int => z.2) ∘ fun z => (z.1, gs c z.1))).sum := sum_map_le (f := fun z : Str × Int => z.2) fun z hz => (P.kp z hz).1
        have h3 : ((B.take (m.toNat - s.kept.length)).map fun _ => (1 : Int)).sum ≤ ((B.take (m.toNat - s.kept.length)).map (·.2)).sum := sum_map_le fun z hz => (P.nb z (List.mem_of_mem_take hz)).1
        rw [sum_map_const, List.length_take] at h3
        omega
  · show _ ≤ topS m.toNat (s.kept.map (·.2)) + min (m * s.off) (lostL s)
    obtain ⟨S, R, hp, hl, hs⟩ := tops c m.toNat
    have ndS : (ks S).Nodup := by
      have := nd_perm hp.symm hc.nd
      unfold ks at this ⊢
      rw [List.map_append, List.nodup_append] at this
      exact this.1
    have h1 : ((ks S).map (gs c)).sum = sv S := by
      unfold ks sv
      rw [List.map_map]
      congr 1
      refine List.map_congr_left fun z hz => ?_
      exact gs_mem hc.nd (hp.mem_iff.mp (List.mem_append_left _ hz))
    have h2 := top_names h.kp.nd h.kp.pos.nn ndS (k := m.toNat) (by unfold ks; rw [List.length_map]; omega)
    have h3 := lot_hi h hc ndS
    have h4 : ((ks S).length : Int) * s.off ≤ m * s.off := Int.mul_le_mul_of_nonneg_right (by unfold ks; rw [List.length_map]; omega) h.sk.o0
    omega
/-! unlike -/
theorem bd_unlike {s : Sk} (h : Sm s) {c : List (Str × Int)} (hc : Tr s c) : (endsQ s .unlike).1 ≤ valL c .unlike ∧ valL c .unlike ≤ (endsQ s .unlike).2 := by
  have P := parts h.kp.nd h.kp.pos hc
  generalize c.filter (fun z => !decide (z.1 ∈ ks s.kept)) = B at P
  have hlen := P.perm.length_eq
  rw [List.length_append, List.length_map] at hlen
  have ev : valL c .unlike = (c.length : Int) := rfl
  have ee : endsQ s .unlike = unE s := rfl
  rw [ev, ee]
  unfold unE
  have h1 : (B.map fun _ => (1 : Int)).sum ≤ sv B := sum_map_le fun z hz => (P.nb z hz).1
  have h2 : sv B ≤ (B.map fun _ => s.off).sum := sum_map_le fun z hz => (P.nb z hz).2.1
  have h3 : (s.kept.map fun z => gs c z.1).sum ≤ (s.kept.map fun z => z.2 + s.off).sum := sum_map_le fun z hz => (P.kp z hz).2
  have h4 : sv s.kept ≤ (s.kept.map fun z => gs c z.1).sum := sum_map_le (f := fun z : Str × Int => z.2) fun z hz => (P.kp z hz).1
  rw [sum_map_add, sum_map_const] at h3
  rw [sum_map_const] at h1 h2
  have h5 := P.sum
  have h6 := h.l12
  have e1 : (s.kept.map fun z => z.2).sum = sv s.kept := rfl
  have e1' : (s.kept.map Prod.snd).sum = sv s.kept := rfl
  have h7 := h.len'
  rcases h.o with e | e | e <;> rw [e] at h2 h3 h7 ⊢ <;> constructor <;> dsimp only <;> (try split) <;> (try rename_i q; simp only [decide_eq_true_eq] at q) <;> omega
/-! squares -/
theorem sq2 (x : Int) : x ^ (2 : Int).toNat = x * x := by
  show x ^ 2 = x * x
  rw [Int.pow_succ, Int.pow_succ, Int.pow_zero, Int.one_mul]
theorem srtIS_perm (l : List (Int × Str)) : (srtIS l).Perm l := List.mergeSort_perm _ _
theorem bcL_perm (s : Sk) : (bcL s).Perm (ks s.kept) := by
  have := (srtIS_perm (s.kept.map fun z => (-z.2, z.1))).map (·.2)
  rw [List.map_map] at this
  exact this
/-- the kept counts raised by what can be taken -/
theorem raise_perm {s : Sk} (h : Sm s) {names : List Str} (hn : names.Nodup) (hk : ∀ n ∈ names, n ∈ ks s.kept) : (add s.kept (names.map fun n => (n, s.off))).Perm (s.kept.map fun z => (z.1, z.2 + if z.1 ∈ names then s.off else 0)) := by
  have hk2 : ks (s.kept.map fun z => (z.1, z.2 + if z.1 ∈ names then s.off else 0)) = ks s.kept := by
    unfold ks
    rw [List.map_map]
    rfl
  have ho := h.sk.o0
  have hnn : ∀ (d : List (Str × Int)), (∀ n, n ∈ ks d → n ∈ ks s.kept) → (ks d).Nodup → (∀ n ∈ ks d, 0 < gs d n) → Pos d := fun d _ nd hp z hz => by
    have := hp z.1 (mem_ks hz)
    rw [gs_mem nd hz] at this
    exact this
  have hg : ∀ n, gs (add s.kept (names.map fun n => (n, s.off))) n = gs s.kept n + if n ∈ names then s.off else 0 := fun n => by
    rw [gs_add _ _ h.kp.nd, gs_mapf (fun _ => s.off) names n hn]
  have hkk : ∀ n, n ∈ ks (add s.kept (names.map fun n => (n, s.off))) → n ∈ ks s.kept := fun n hm => by
    rcases (mem_ks_add _).mp hm with hm | hm
    · exact hm
    · unfold ks at hm
      rw [List.map_map] at hm
      obtain ⟨y, hy, rfl⟩ := List.mem_map.mp hm
      exact hk y hy
  refine perm_of_gs (nd_add _ h.kp.nd) (by rw [hk2]; exact h.kp.nd) (hnn _ hkk (nd_add _ h.kp.nd) fun n hm => ?_) (fun z hz => ?_) fun n => ?_
  · rw [hg]
    have := (gs_pos h.kp.nd h.kp.pos).mp (hkk n hm)
    split <;> omega
  · obtain ⟨y, hy, rfl⟩ := List.mem_map.mp hz
    have := h.kp.pos y hy
    show 0 < y.2 + _
    split <;> omega
  · rw [hg]
    by_cases hm : n ∈ ks s.kept
    · obtain ⟨y, hy, rfl⟩ := List.mem_map.mp hm
      have := gs_mem (z := (y.1, y.2 + if y.1 ∈ names then s.off else 0)) (d := s.kept.map fun z => (z.1, z.2 + if z.1 ∈ names then s.off else 0)) (by rw [hk2]; exact h.kp.nd) (List.mem_map.mpr ⟨y, hy, rfl⟩)
      rw [show gs (s.kept.map fun z => (z.1, z.2 + if z.1 ∈ names then s.off else 0)) y.1 = _ from this, gs_mem h.kp.nd hy]
    · rw [gs_notin hm, if_neg fun z => hm (hk n z), gs_notin (by rw [hk2]; exact hm)]
      rfl
/-- filled by counts: all get as much as can be -/
theorem bc_all {s : Sk} (h : Sm s) : filL s.off (lostL s) (bcL s) = ((bcL s).map fun n => (n, s.off), lostL s - s.kept.length * s.off) := by
  have hl := bcL_len s
  rw [fil_all h.sk.o0 _ (by rw [hl]; have := h.len'; have := h.sk.o0; omega), hl]
theorem bc_raise {s : Sk} (h : Sm s) : (add s.kept ((bcL s).map fun n => (n, s.off))).Perm (s.kept.map fun z => (z.1, z.2 + s.off)) := by
  have h1 := raise_perm h (names := bcL s) ((bcL_perm s).nodup_iff.mpr h.kp.nd) fun n hn => (bcL_perm s).mem_iff.mp hn
  have e : (s.kept.map fun z => (z.1, z.2 + if z.1 ∈ bcL s then s.off else 0)) = s.kept.map fun z => (z.1, z.2 + s.off) := List.map_congr_left fun z hz => by
    rw [if_pos ((bcL_perm s).mem_iff.mpr (mem_ks hz))]
  rw [e] at h1
  exact h1
theorem sqE1 {s : Sk} (h : Sm s) : sqE s = ((s.kept.map fun z => z.2 * z.2).sum + lostL s, (s.kept.map fun z => (z.2 + s.off) * (z.2 + s.off)).sum + (if s.off = 2 then 2 * (lostL s - s.kept.length * s.off) - (lostL s) % 2 else lostL s - s.kept.length * s.off)) := by
  have e1 : ((addAll s.kept ((bcL s).map fun n => (n, s.off))).map fun z => z.2 * z.2).sum = (s.kept.map fun z => (z.2 + s.off) * (z.2 + s.off)).sum := by
    rw [addAll_add, perm_sum ((bc_raise h).map fun z => z.2 * z.2), List.map_map]
    rfl
  have e2 : (((bcL s).map fun n => (n, s.off)).map fun z => z.2).sum = s.kept.length * s.off := by
    rw [List.map_map]
    show ((bcL s).map fun _ => s.off).sum = _
    rw [sum_map_const, bcL_len]
  unfold sqE
  rw [bc_all h, e1, e2, sq2, sq2]
  congr 1
  have h1 := h.len'
  have h2 := h.l12
  have h3 := h.sk.off0
  rcases h.o with e | e | e
  · rw [h3 e, e]
    simp
  · rw [e] at h1 ⊢
    rw [if_pos (by rw [decide_eq_true_eq]; omega), if_neg (by decide), Int.emod_one]
    omega
  · rw [e] at h1 ⊢
    rw [if_pos (by rw [decide_eq_true_eq]; omega), if_pos rfl]
    have : (lostL s - s.kept.length * 2) % 2 = 0 ∨ (lostL s - s.kept.length * 2) % 2 = 1 := by omega
    rcases this with q | q <;> rw [q] <;> omega
theorem bd_squares {s : Sk} (h : Sm s) {c : List (Str × Int)} (hc : Tr s c) : (endsQ s .squares).1 ≤ valL c .squares ∧ valL c .squares ≤ (endsQ s .squares).2 := by
  have P := parts h.kp.nd h.kp.pos hc
  generalize c.filter (fun z => !decide (z.1 ∈ ks s.kept)) = B at P
  have ev : valL c .squares = (s.kept.map fun z => gs c z.1 * gs c z.1).sum + (B.map fun z => z.2 * z.2).sum := by
    show (c.map fun z => z.2 ^ (2 : Int).toNat).sum = _
    have e : (c.map fun z => z.2 ^ (2 : Int).toNat) = c.map fun z => z.2 * z.2 := List.map_congr_left fun z _ => sq2 _
    rw [e, perm_sum (P.perm.map fun z => z.2 * z.2), List.map_append, List.sum_append_int, List.map_map]
    rfl
  have ee : endsQ s .squares = sqE s := rfl
  rw [ev, ee, sqE1 h]
  have h5 := P.sum
  have h2 : ∀ z ∈ s.kept, ∃ t, gs c z.1 = z.2 + t ∧ 0 ≤ t ∧ t ≤ s.off := fun z hz => ⟨gs c z.1 - z.2, by omega, by have := (P.kp z hz).1; omega, by have := (P.kp z hz).2; omega⟩
  have e0 : (s.kept.map fun z => z.2).sum = sv s.kept := rfl
  have eB : (B.map fun z => z.2).sum = sv B := rfl
  have e0' : (s.kept.map Prod.snd).sum = sv s.kept := rfl
  have eB' : (B.map Prod.snd).sum = sv B := rfl
  constructor
  · show (s.kept.map fun z => z.2 * z.2).sum + lostL s ≤ _
    have h6 : (s.kept.map fun z => z.2 * z.2 + (gs c z.1 - z.2)).sum ≤ (s.kept.map fun z => gs c z.1 * gs c z.1).sum := sum_map_le fun z hz => by
      obtain ⟨t, et, t0, t2⟩ := h2 z hz
      have hz1 := h.kp.pos z hz
      have : t = 0 ∨ t = 1 ∨ t = 2 := by have := h.sk.o2; omega
      rw [et]
      rcases this with rfl | rfl | rfl <;> grind
    rw [sum_map_add, sum_map_sub] at h6
    have h7 : sv B ≤ (B.map fun z => z.2 * z.2).sum := sum_map_le fun z hz => by
      have h8 := P.nb z hz
      have : z.2 = 1 ∨ z.2 = 2 := by have := h.sk.o2; omega
      rcases this with e | e <;> rw [e] <;> decide
    omega
  · show _ ≤ (s.kept.map fun z => (z.2 + s.off) * (z.2 + s.off)).sum + _
    rcases h.o with e | e | e
    · rw [if_neg (by omega)]
      have h6 : (s.kept.map fun z => gs c z.1 * gs c z.1).sum ≤ (s.kept.map fun z => (z.2 + s.off) * (z.2 + s.off)).sum := sum_map_le fun z hz => by
        obtain ⟨t, et, t0, t2⟩ := h2 z hz
        have : t = 0 := by omega
        rw [et, this, e]
        exact Int.le_refl _
      have h7 : (B.map fun z => z.2 * z.2).sum ≤ (B.map fun _ => 0).sum := sum_map_le fun z hz => by
        have h8 := P.nb z hz
        omega
      rw [sum_map_const] at h7
      have h8 := h.sk.off0 e
      rw [e] at h6
      rw [h8, e]
      omega
    · rw [if_neg (by omega)]
      have h6 : (s.kept.map fun z => gs c z.1 * gs c z.1).sum ≤ (s.kept.map fun z => ((z.2 + s.off) * (z.2 + s.off) - 1) + (gs c z.1 - z.2)).sum := sum_map_le fun z hz => by
        obtain ⟨t, et, t0, t2⟩ := h2 z hz
        have hz1 := h.kp.pos z hz
        have : t = 0 ∨ t = 1 := by omega
        rw [et, e]
        rcases this with rfl | rfl <;> grind
      rw [sum_map_add, sum_map_sub, sum_map_sub, sum_map_const] at h6
      have h7 : (B.map fun z => z.2 * z.2).sum ≤ sv B := sum_map_le fun z hz => by
        have h8 := P.nb z hz
        have : z.2 = 1 := by omega
        rw [this]
        decide
      rw [e] at h6 ⊢
      omega
    · rw [if_pos e]
      have h6 : (s.kept.map fun z => gs c z.1 * gs c z.1).sum ≤ (s.kept.map fun z => ((z.2 + s.off) * (z.2 + s.off) - 4) + (2 * (gs c z.1 - z.2) - (gs c z.1 - z.2) % 2)).sum := sum_map_le fun z hz => by
        obtain ⟨t, et, t0, t2⟩ := h2 z hz
        have hz1 := h.kp.pos z hz
        have : t = 0 ∨ t = 1 ∨ t = 2 := by omega
        have et2 : gs c z.1 - z.2 = t := by omega
        rw [et2, et, e]
        rcases this with rfl | rfl | rfl <;> grind
      rw [sum_map_add, sum_map_sub, sum_map_const, sum_map_sub, sum_map_mul, sum_map_sub] at h6
      have h7 : (B.map fun z => z.2 * z.2).sum ≤ (B.map fun z => 2 * z.2 - z.2 % 2).sum := sum_map_le fun z hz => by
        have h8 := P.nb z hz
        have : z.2 = 1 ∨ z.2 = 2 := by omega
        rcases this with e | e <;> rw [e] <;> decide
      rw [sum_map_sub, sum_map_mul] at h7
      have q1 : (s.kept.map fun z => (gs c z.1 - z.2)).sum = 2 * (s.kept.map fun z => (gs c z.1 - z.2) / 2).sum + (s.kept.map fun z => (gs c z.1 - z.2) % 2).sum := by
        rw [← sum_map_mul, ← sum_map_add]
        congr 1
        exact List.map_congr_left fun z _ => by omega
      have q2 : (B.map fun z => z.2).sum = 2 * (B.map fun z => z.2 / 2).sum + (B.map fun z => z.2 % 2).sum := by
        rw [← sum_map_mul, ← sum_map_add]
        congr 1
        exact List.map_congr_left fun z _ => by omega
      have q3 := sum_map_nn (f := fun z => (gs c z.1 - z.2) % 2) (l := s.kept) fun z _ => by omega
      have q4 := sum_map_nn (f := fun z : Str × Int => z.2 % 2) (l := B) fun z _ => by omega
      rw [sum_map_sub] at q1
      rw [e] at h6 ⊢
      omega
end KD

set_option Elab.async false
set_option linter.all false
set_option maxRecDepth 100000
/-! MF: the place of a name. -/
namespace KD
open PySem PySem.Spec L2 KM
local instance : Vol := volNone
theorem len_filter {α : Type} (p : α → Bool) (l : List α) : ((l.filter p).length : Int) = (l.map fun x => if p x = true then 1 else 0).sum := by
  induction l with
  | nil => rfl
  | cons a r ih =>
    rw [List.filter_cons, List.map_cons, List.sum_cons, ← ih]
    split
    · rw [List.length_cons]
      omega
    · omega
theorem sum_filter {α : Type} (p : α → Bool) (f : α → Int) (l : List α) : ((l.filter p).map f).sum = (l.map fun x => if p x = true then f x else 0).sum := by
  induction l with
  | nil => rfl
  | cons a r ih =>
    rw [List.filter_cons, List.map_cons, List.sum_cons, ← ih]
    split
    · rw [List.map_cons, List.sum_cons]
    · omega
theorem len_filter_mul {α : Type} (p : α → Bool) (w : Int) (l : List α) : ((l.filter p).length : Int) * w = (l.map fun x => if p x = true then w else 0).sum := by
  rw [len_filter, Int.mul_comm, ← sum_map_mul]
  congr 1
  refine List.map_congr_left fun x _ => ?_
  split <;> simp
theorem len_filter_le {α : Type} {p q : α → Bool} {l : List α} (h : ∀ x ∈ l, p x = true → q x = true) : ((l.filter p).length : Int) ≤ ((l.filter q).length : Int) := by
  rw [len_filter, len_filter]
  refine sum_map_le fun x hx => ?_
  have := h x hx
  split
  · rename_i e
    rw [if_pos (this e)]
    exact Int.le_refl _
  · split <;> decide
/-! raised -/
def need (own : Int) (v : Int) : Int := max 0 (own - v + 1)
theorem raF {off : Int} (ho : 0 ≤ off) : ∀ (xs : List (Int × Str)) (acc : List (Str × Int)) (l : Int), (∀ x ∈ xs, 0 ≤ x.1) → xs.length * off ≤ l →
    xs.foldl (raStep off) (acc, l) = (acc ++ (xs.filter fun x => decide (x.1 ≤ off)).map (fun x => (x.2, x.1)), l - ((xs.filter fun x => decide (x.1 ≤ off)).map (·.1)).sum)
  | [], acc, l, _, _ => by simp
  | x :: r, acc, l, h, hl => by
    have e1 : ((x :: r).length : Int) * off = r.length * off + off := by rw [List.length_cons, Int.natCast_add, Int.add_mul]; simp
    have e2 : 0 ≤ (r.length : Int) * off := Int.mul_nonneg (by omega) ho
    have h0 := h x List.mem_cons_self
    rw [e1] at hl
    rw [List.foldl_cons, List.filter_cons]
    by_cases q : x.1 ≤ off
    · rw [raStep_pos (by rw [decide_eq_true_eq]; show x.1 ≤ min off l; omega), raF ho r _ _ (fun y hy => h y (List.mem_cons_of_mem _ hy)) (by show _ ≤ l - x.1; omega), if_pos (decide_eq_true q), List.map_cons, List.map_cons, List.sum_cons]
      show (acc ++ [(x.2, x.1)] ++ _, l - x.1 - _) = _
      rw [List.append_assoc]
      have e3 : ∀ z : Int, l - x.1 - z = l - (x.1 + z) := fun z => by omega
      rw [e3]
      rfl
    · rw [raStep_neg (by rw [decide_eq_false_iff_not]; show ¬ x.1 ≤ min off l; omega), raF ho r _ _ (fun y hy => h y (List.mem_cons_of_mem _ hy)) (by omega), if_neg (by rw [decide_eq_true_eq]; exact q)]
/-- the kept others that can get above -/
def above (s : Sk) (n : Str) : List (Str × Int) := s.kept.filter fun z => !decide (z.1 = n) && decide (need (gs s.kept n) z.2 ≤ s.off)
structure Ra (s : Sk) (n : Str) : Prop where
  perm : (raL s n).1.Perm ((above s n).map fun z => (z.1, need (gs s.kept n) z.2))
  rest : (raL s n).2 = lostL s - ((above s n).map fun z => need (gs s.kept n) z.2).sum
theorem ra {s : Sk} (h : Sm s) (n : Str) : Ra s n := by
  have hl : (raNeed s n).length * s.off ≤ lostL s := by
    have h1 := Int.mul_le_mul_of_nonneg_right (a := ((raNeed s n).length : Int)) (b := s.kept.length) (c := s.off) (by have := raNeed_len s n; omega) h.sk.o0
    have h2 := h.len'
    have h3 := h.sk.o0
    omega
  have hp : (raNeed s n).Perm ((s.kept.filter fun z => !decide (z.1 = n)).map fun z => (need (gs s.kept n) z.2, z.1)) := by
    unfold raNeed
    rw [dk h]
    exact srtIS_perm _
  have e : raL s n = (((raNeed s n).filter fun x => decide (x.1 ≤ s.off)).map (fun x => (x.2, x.1)), lostL s - (((raNeed s n).filter fun x => decide (x.1 ≤ s.off)).map (·.1)).sum) := by
    unfold raL
    rw [raF h.sk.o0 _ _ _ (fun x hx => ?_) hl, List.nil_append]
    obtain ⟨z, _, rfl⟩ := List.mem_map.mp (hp.mem_iff.mp hx)
    show 0 ≤ max 0 _
    omega
  have hp2 := hp.filter fun x => decide (x.1 ≤ s.off)
  have e2 : ((s.kept.filter fun z => !decide (z.1 = n)).map fun z => (need (gs s.kept n) z.2, z.1)).filter (fun x => decide (x.1 ≤ s.off)) = (above s n).map fun z => (need (gs s.kept n) z.2, z.1) := by
    rw [List.filter_map]
    unfold above
    rw [List.filter_filter]
    congr 1
    exact List.filter_congr fun z _ => by
      show (decide (need (gs s.kept n) z.2 ≤ s.off) && !decide (z.1 = n)) = _
      rw [Bool.and_comm]
  rw [e2] at hp2
  constructor
  · rw [e]
    have := hp2.map fun x => (x.2, x.1)
    rw [List.map_map] at this
    exact this
  · rw [e]
    show lostL s - _ = _
    rw [perm_sum (hp2.map (·.1)), List.map_map]
    rfl
theorem plE1 {s : Sk} (h : Sm s) (n : Str) : plE s n = (1 + ((s.kept.filter fun z => decide (gs s.kept n + s.off < z.2)).length : Int), 1 + ((above s n).length : Int) + if gs s.kept n < s.off then (lostL s - ((above s n).map fun z => need (gs s.kept n) z.2).sum) / (gs s.kept n + 1) else 0) := by
  unfold plE
  rw [(ra h n).rest, (ra h n).perm.length_eq, List.length_map, dk h]
  simp only [decide_eq_true_eq]
theorem bd_place {s : Sk} (h : Sm s) {c : List (Str × Int)} (hc : Tr s c) (n : Str) : (endsQ s (.place n)).1 ≤ valL c (.place n) ∧ valL c (.place n) ≤ (endsQ s (.place n)).2 := by
  have P := parts h.kp.nd h.kp.pos hc
  generalize c.filter (fun z => !decide (z.1 ∈ ks s.kept)) = B at P
  have ev : valL c (.place n) = 1 + (((s.kept.filter fun z => decide (gs c n < gs c z.1)).length : Int) + ((B.filter fun z => decide (gs c n < z.2)).length : Int)) := by
    show 1 + ((c.filter fun z => decide ((dgo c n).getD 0 < z.2)).length : Int) = _
    rw [dgo_gs hc.nd, (P.perm.filter _).length_eq, List.filter_append, List.length_append, List.filter_map, List.length_map]
    rfl
  have ee : endsQ s (.place n) = plE s n := rfl
  rw [ev, ee, plE1 h]
  have o1 := hc.lo n
  have o2 := hc.hi n
  have own0 := gs_nn h.kp.pos.nn n
  generalize ew : gs s.kept n = w at *
  constructor
  · show 1 + ((s.kept.filter fun z => decide (w + s.off < z.2)).length : Int) ≤ _
    have := len_filter_le (l := s.kept) (p := fun z => decide (w + s.off < z.2)) (q := fun z => decide (gs c n < gs c z.1)) fun z hz e => by
      have e := of_decide_eq_true e
      have h1 := (P.kp z hz).1
      exact decide_eq_true (by omega)
    omega
  · show _ ≤ 1 + ((above s n).length : Int) + _
    have hpq : ∀ z ∈ s.kept, decide (gs c n < gs c z.1) = true → (!decide (z.1 = n) && decide (need (gs s.kept n) z.2 ≤ s.off)) = true ∧ need w z.2 ≤ gs c z.1 - z.2 := fun z hz e => by
      have e := of_decide_eq_true e
      have h1 := (P.kp z hz).1
      have h2 := (P.kp z hz).2
      have h3 : z.1 ≠ n := fun q => by rw [q] at e; omega
      rw [ew]
      unfold need
      simp only [Bool.and_eq_true, Bool.not_eq_true', decide_eq_false_iff_not, decide_eq_true_eq]
      exact ⟨⟨h3, by omega⟩, by omega⟩
    have ha : ((s.kept.filter fun z => decide (gs c n < gs c z.1)).length : Int) ≤ ((above s n).length : Int) := len_filter_le fun z hz e => (hpq z hz e).1
    by_cases q : w < s.off
    · rw [if_pos q]
      have hb : ((B.filter fun z => decide (gs c n < z.2)).length : Int) * (w + 1) ≤ sv B := by
        rw [len_filter_mul]
        refine sum_map_le fun z hz => ?_
        have := (P.nb z hz).1
        split
        · rename_i e
          have e := of_decide_eq_true e
          omega
        · omega
      have h1 : (s.kept.map fun z => if decide (gs c n < gs c z.1) = true then need w z.2 else 0).sum ≤ (s.kept.map fun z => gs c z.1 - z.2).sum := sum_map_le fun z hz => by
        have := (P.kp z hz).1
        split
        · rename_i e
          exact (hpq z hz e).2
        · omega
      rw [sum_map_sub] at h1
      have h2 : ((above s n).map fun z => need w z.2).sum - (s.kept.map fun z => if decide (gs c n < gs c z.1) = true then need w z.2 else 0).sum ≤ ((above s n).length : Int) * (w + 1) - ((s.kept.filter fun z => decide (gs c n < gs c z.1)).length : Int) * (w + 1) := by
        unfold above
        rw [sum_filter, len_filter_mul, len_filter_mul, ← sum_map_sub, ← sum_map_sub]
        refine sum_map_le fun z hz => ?_
        have hz1 := h.kp.pos z hz
        have hn : need w z.2 ≤ w + 1 ∧ 0 ≤ need w z.2 := by unfold need; omega
        by_cases e : decide (gs c n < gs c z.1) = true
        · rw [if_pos e, if_pos e, if_pos (hpq z hz e).1, if_pos (hpq z hz e).1]
          omega
        · rw [if_neg e, if_neg e]
          split <;> omega
      have h3 := P.sum
      have e0 : (s.kept.map fun z => z.2).sum = sv s.kept := rfl
      have e0' : (s.kept.map Prod.snd).sum = sv s.kept := rfl
      have h4 : (((s.kept.filter fun z => decide (gs c n < gs c z.1)).length : Int) + ((B.filter fun z => decide (gs c n < z.2)).length : Int) - ((above s n).length : Int)) * (w + 1) ≤ lostL s - ((above s n).map fun z => need w z.2).sum := by
        rw [Int.sub_mul, Int.add_mul]
        omega
      have h5 := (Int.le_ediv_iff_mul_le (by omega)).mpr h4
      omega
    · rw [if_neg q]
      have hb : (B.filter fun z => decide (gs c n < z.2)) = [] := List.filter_eq_nil_iff.mpr fun z hz => by
        have := (P.nb z hz).2.1
        rw [decide_eq_true_eq]
        omega
      rw [hb, List.length_nil]
      omega
theorem bound {s : Sk} (h : Sm s) {q : Qn} (hq : QnOk q) {c : List (Str × Int)} (hc : Tr s c) : (endsQ s q).1 ≤ valL c q ∧ valL c q ≤ (endsQ s q).2 := by
  cases q with
  | count n => exact bd_lot h hc (by simp)
  | lot ns => exact bd_lot h hc hq.2.2.nd
  | apart a b => exact bd_apart h hc a b
  | place n => exact bd_place h hc n
  | first m => exact bd_first h hc hq.1
  | unlike => exact bd_unlike h hc
  | squares => exact bd_squares h hc
end KD

set_option Elab.async false
set_option linter.all false
set_option maxRecDepth 100000
/-! MG: truth_with, told. -/
namespace KD
open PySem PySem.Spec L2 KM
local instance : Vol := volNone
theorem leftL_eq (l : Int) (ts : List (Str × Int)) : leftL l ts = l - sv ts := by
  unfold leftL
  induction ts generalizing l with
  | nil => rw [sv_nil]; show l = _; omega
  | cons t r ih =>
    rw [List.foldl_cons, ih, sv_cons]
    omega
theorem mem_ddS {xs : List Str} {x : Str} : x ∈ ddS xs ↔ x ∈ xs := by
  have key : ∀ (xs acc : List Str), x ∈ xs.foldl (fun acc k => if k ∈ acc then acc else acc ++ [k]) acc ↔ x ∈ acc ∨ x ∈ xs := by
    intro xs
    induction xs with
    | nil => intro acc; simp
    | cons a r ih =>
      intro acc
      rw [List.foldl_cons, ih, List.mem_cons]
      by_cases h : a ∈ acc
      · rw [if_pos h]
        constructor
        · rintro (q | q)
          · exact .inl q
          · exact .inr (.inr q)
        · rintro (q | q | q)
          · exact .inl q
          · exact .inl (q ▸ h)
          · exact .inr q
      · rw [if_neg h, List.mem_append, List.mem_singleton]
        constructor
        · rintro ((q | q) | q)
          · exact .inl q
          · exact .inr (.inl q)
          · exact .inr (.inr q)
        · rintro (q | q | q)
          · exact .inl (.inl q)
          · exact .inl (.inr q)
          · exact .inr q
  unfold ddS
  rw [key]
  simp
theorem letterS_inj {i j : Nat} (h : letterS i = letterS j) : i = j := by
  unfold letterS at h
  injection h with h
  have := congrArg Array.toList h
  simp at this
  omega
theorem candN_nd (L : List Str) (n : Nat) : (candN L n).Nodup := by
  unfold candN
  refine List.Nodup.sublist List.filter_sublist ?_
  rw [List.Nodup, List.pairwise_map]
  exact List.nodup_range.imp fun h e => h (letterS_inj e)
theorem candN_mem {L : List Str} {n : Nat} {x : Str} (h : x ∈ candN L n) : x ∉ L ∧ ∃ i, i < n ∧ x = letterS i := by
  obtain ⟨h1, h2⟩ := List.mem_filter.mp h
  obtain ⟨i, hi, rfl⟩ := List.mem_map.mp h1
  exact ⟨by simpa using h2, i, List.mem_range.mp hi, rfl⟩
theorem cand23 : (((List.range 26).map letterS).filter fun x => !decide (x ∈ NM5)).length = 23 := by decide +kernel
theorem candN_26 {L : List Str} (h : ∀ x ∈ L, x ∈ NM5) : 23 ≤ (candN L 26).length := by
  have := len_filter_le (l := (List.range 26).map letterS) (p := fun x => !decide (x ∈ NM5)) (q := fun x => !decide (x ∈ L)) fun x _ e => by
    simp only [Bool.not_eq_true', decide_eq_false_iff_not] at e ⊢
    exact fun z => e (h x z)
  rw [cand23] at this
  unfold candN
  omega
/-- looked at just so many -/
theorem find_n {f : Nat → Int} {m : Int} (h0 : f 0 = 0) (h1 : ∀ i, f (i + 1) ≤ f i + 1) (h26 : m ≤ f 26) (hm : 1 ≤ m) : let n := ((List.range 27).find? fun i => !decide (f i < m)).getD 0
    n ≤ 26 ∧ (∀ i, i ≤ n → decide (f i < m) = decide (i < n)) ∧ f n = m := by
  intro n
  cases e : (List.range 27).find? fun i => !decide (f i < m) with
  | none =>
    exfalso
    have := List.find?_eq_none.mp e 26 (by simp)
    simp only [Bool.not_eq_true', decide_eq_false_iff_not] at this
    omega
  | some k =>
    have en : n = k := by
      show (((List.range 27).find? fun i => !decide (f i < m)).getD 0) = k
      rw [e]
      rfl
    rw [en]
    have hk := List.find?_some e
    simp only [Bool.not_eq_true', decide_eq_false_iff_not] at hk
    have hk27 : k < 27 := List.mem_range.mp (List.mem_of_find?_eq_some e)
    have hlt : ∀ i, i < k → f i < m := by
      intro i hi
      rw [List.find?_range_eq_some] at e
      have := e.2.2 i hi
      simpa using this
    refine ⟨by omega, fun i hi => ?_, ?_⟩
    · by_cases q : i < k
      · rw [decide_eq_true q, decide_eq_true (hlt i q)]
      · have : i = k := by omega
        rw [this, decide_eq_false hk, decide_eq_false (Nat.lt_irrefl k)]
    · cases k with
      | zero => omega
      | succ j =>
        have := hlt j (by omega)
        have := h1 j
        omega
/-! values put in one behind another -/
def fvs (size : Int) : Nat → Int → List Int
  | 0, _ => []
  | k + 1, l => min size l :: fvs size k (l - min size l)
theorem fvs_len (size : Int) : ∀ (k : Nat) (l : Int), (fvs size k l).length = k
  | 0, _ => rfl
  | k + 1, l => by
    show (fvs size k _).length + 1 = _
    rw [fvs_len size k]
theorem fillT_eq (size : Int) : ∀ (names : List Str) (d : List (Str × Int)) (l : Int), names.Nodup → (∀ n ∈ names, n ∉ ks d) → (fillT size (d, l) names).1 = d ++ names.zip (fvs size names.length l)
  | [], d, l, _, _ => by
    show d = _
    simp
  | n :: r, d, l, hn, hd => by
    rw [List.nodup_cons] at hn
    have e0 : fillT size (d, l) (n :: r) = fillT size (putI d n (min size l), l - min size l) r := rfl
    have e1 : putI d n (min size l) = d ++ [(n, min size l)] := put_out _ (hd n List.mem_cons_self)
    rw [e0, e1, fillT_eq size r _ _ hn.2 fun m hm hk => ?_, List.append_assoc]
    · rfl
    · unfold ks at hk
      rw [List.map_append, List.mem_append] at hk
      rcases hk with hk | hk
      · exact hd m (List.mem_cons_of_mem _ hm) hk
      · have : m = n := by simpa using hk
        exact hn.1 (this ▸ hm)
/-- so many of one size, and a rest -/
def cutV (size l : Int) : List Int := List.replicate (l / size).toNat size ++ if l % size = 0 then [] else [l % size]
theorem fvs_cut {size : Int} (hs : size = 1 ∨ size = 2) : ∀ (k : Nat) (l : Int), 0 ≤ l → (k : Int) = (l + size - 1) / size → fvs size k l = cutV size l
  | 0, l, h0, hk => by
    have : l = 0 := by rcases hs with rfl | rfl <;> omega
    subst this
    unfold cutV
    simp [fvs]
  | k + 1, l, h0, hk => by
    show min size l :: fvs size k (l - min size l) = _
    rw [fvs_cut hs k _ (by omega) (by rcases hs with rfl | rfl <;> omega)]
    unfold cutV
    by_cases q : size ≤ l
    · have e1 : min size l = size := by omega
      have e2 : (l / size).toNat = ((l - size) / size).toNat + 1 := by rcases hs with rfl | rfl <;> omega
      have e3 : (l - size) % size = l % size := by rcases hs with rfl | rfl <;> omega
      rw [e1, e2, e3, List.replicate_succ]
      rfl
    · have e1 : l = 1 ∧ size = 2 := by rcases hs with rfl | rfl <;> omega
      rw [e1.1, e1.2]
      rfl
theorem cutV_zero (size : Int) : cutV size 0 = [] := by
  unfold cutV
  simp
theorem cutV_mem {size l : Int} (hs : size = 1 ∨ size = 2) (h0 : 0 ≤ l) {v : Int} (h : v ∈ cutV size l) : 1 ≤ v ∧ v ≤ size := by
  unfold cutV at h
  rcases List.mem_append.mp h with h | h
  · rw [(List.mem_replicate.mp h).2]
    omega
  · split at h
    · cases h
    · rw [List.mem_singleton.mp h]
      rcases hs with rfl | rfl <;> omega
theorem sum_replicate (n : Nat) (x : Int) : (List.replicate n x).sum = n * x := by
  induction n with
  | zero => simp
  | succ n ih =>
    rw [List.replicate_succ, List.sum_cons, ih, Int.natCast_add, Int.add_mul]
    simp
    omega
theorem cutV_sum {size l : Int} (hs : size = 1 ∨ size = 2) (h0 : 0 ≤ l) : (cutV size l).sum = l := by
  unfold cutV
  rw [List.sum_append_int, sum_replicate, Int.toNat_of_nonneg (by rcases hs with rfl | rfl <;> omega)]
  rcases hs with rfl | rfl
  · rw [Int.emod_one, if_pos rfl]
    simp
  · split
    · simp
      omega
    · simp
      omega
/-! truth_with -/
structure TkOk (s : Sk) (taken : List (Str × Int)) (size : Int) (barred : List Str) : Prop where
  nd : (ks taken).Nodup
  b : ∀ z ∈ taken, 0 ≤ z.2 ∧ z.2 ≤ s.off
  sum : sv taken ≤ lostL s
  sz : 0 < lostL s - sv taken → (size = 1 ∨ size = 2) ∧ size ≤ s.off
  k5 : ∀ n ∈ ks taken, n ∈ NM5
  b5 : ∀ n ∈ barred, n ∈ NM5
  bl : barred.length ≤ 1000
structure TwI (s : Sk) (taken : List (Str × Int)) (size : Int) (barred : List Str) (c Z : List (Str × Int)) : Prop where
  perm : c.Perm (KM.ps (add s.kept taken) ++ Z)
  zv : Z.map (·.2) = cutV size (lostL s - sv taken)
  zk : ∀ n ∈ ks Z, n ∉ ks s.kept ∧ n ∉ ks taken ∧ n ∉ barred
  zl : ∀ n ∈ ks Z, ∃ i, i < 26 ∧ n = letterS i
  znd : (ks Z).Nodup
theorem told5 {s : Sk} (h : Sm s) {taken : List (Str × Int)} {size : Int} {barred : List Str} (t : TkOk s taken size barred) : ∀ x ∈ ddS (barred ++ (addAll s.kept taken).map (·.1)), x ∈ NM5 := fun x hx => by
  rcases List.mem_append.mp (mem_ddS.mp hx) with hx | hx
  · exact t.b5 x hx
  · rcases (mem_ks_add taken).mp (show x ∈ ks (add s.kept taken) from hx) with hx | hx
    · exact h.kp.sub5 hx
    · exact t.k5 x hx
theorem tw_n {s : Sk} (h : Sm s) {taken : List (Str × Int)} {size : Int} {barred : List Str} (t : TkOk s taken size barred) (hl : 0 < lostL s - sv taken) : let K := ddS (barred ++ (addAll s.kept taken).map (·.1))
    let n := nTw s taken size barred
    n ≤ 26 ∧ (∀ i, i ≤ n → decide (((candN K i).length : Int) < (leftL (lostL s) taken + size - 1) / size) = decide (i < n)) ∧ ((candN K n).length : Int) = (leftL (lostL s) taken + size - 1) / size := by
  intro K n
  have h26 := candN_26 (told5 h t)
  obtain ⟨hs, _⟩ := t.sz hl
  have hl2 := h.l12.2
  have hsn : 0 ≤ sv taken := sv_nn fun z hz => (t.b z hz).1
  exact find_n (f := fun i => ((candN K i).length : Int)) rfl (fun i => by
    show ((candN K (i + 1)).length : Int) ≤ (candN K i).length + 1
    rw [candN_succ, List.length_append]
    split
    · simp
      omega
    · simp) (by
    show _ ≤ ((candN K 26).length : Int)
    have : (23 : Int) ≤ ((candN K 26).length : Int) := by exact_mod_cast h26
    rw [leftL_eq]
    rcases hs with rfl | rfl <;> omega) (by
    rw [leftL_eq]
    rcases hs with rfl | rfl <;> omega)
theorem tw_ok {s : Sk} (h : Sm s) {taken : List (Str × Int)} {size : Int} {barred : List Str} (t : TkOk s taken size barred) : TwOk s taken size barred (nTw s taken size barred) := by
  refine ⟨h.sk, ?_, fun hl => ?_, t.bl, fun hl => ?_⟩
  · have := t.nd.length_le_of_subset (fun n hn => t.k5 n hn)
    unfold ks at this
    rw [List.length_map] at this
    have e : NM5.length = 5 := rfl
    omega
  · rw [leftL_eq] at hl
    have := (t.sz hl).1
    omega
  · rw [leftL_eq] at hl
    have := tw_n h t hl
    exact ⟨this.1, this.2.1⟩
theorem tw_is {s : Sk} (h : Sm s) {taken : List (Str × Int)} {size : Int} {barred : List Str} (t : TkOk s taken size barred) : ∃ Z, TwI s taken size barred (twT s barred (taken, size)) Z := by
  have hp : ∀ l : List (Str × Int), (srtP l).Perm l := fun l => List.mergeSort_perm _ _
  have hnn : Nn (add s.kept taken) := nn_add _ h.kp.nd h.kp.pos.nn fun z hz => (t.b z hz).1
  by_cases hl : 0 < lostL s - sv taken
  · obtain ⟨hn1, _, hn3⟩ := tw_n h t hl
    have hz := (t.sz hl).1
    have e1 : twT s barred (taken, size) = srtP (((fillT size (add s.kept taken, leftL (lostL s) taken) (candN (ddS (barred ++ (addAll s.kept taken).map (·.1))) (nTw s taken size barred))).1.filter fun z => decide (0 < z.2)).map fun z => (z.1, z.2)) := by
      show srtP (((if decide (0 < leftL (lostL s) taken) = true then twNew (addAll s.kept taken) size (leftL (lostL s) taken) barred (nTw s taken size barred) else addAll s.kept taken).filter fun z => decide (0 < z.2)).map fun z => (z.1, z.2)) = _
      rw [if_pos (by rw [decide_eq_true_eq, leftL_eq]; exact hl)]
      rfl
    have hcn : ∀ n ∈ candN (ddS (barred ++ (addAll s.kept taken).map (·.1))) (nTw s taken size barred), n ∉ ks (add s.kept taken) ∧ n ∉ barred ∧ ∃ i, i < 26 ∧ n = letterS i := fun n hn => by
      obtain ⟨this, i, hi, e⟩ := candN_mem hn
      exact ⟨fun z => this (mem_ddS.mpr (List.mem_append_right _ z)), fun z => this (mem_ddS.mpr (List.mem_append_left _ z)), i, by omega, e⟩
    have e2 := fillT_eq size (candN (ddS (barred ++ (addAll s.kept taken).map (·.1))) (nTw s taken size barred)) (add s.kept taken) (leftL (lostL s) taken) (candN_nd _ _) (fun n hn => (hcn n hn).1)
    have hnd := candN_nd (ddS (barred ++ (addAll s.kept taken).map (·.1))) (nTw s taken size barred)
    generalize candN (ddS (barred ++ (addAll s.kept taken).map (·.1))) (nTw s taken size barred) = names at *
    have e3 := fvs_cut hz names.length (leftL (lostL s) taken) (by rw [leftL_eq]; omega) hn3
    rw [e3, leftL_eq] at e2
    have hzl : (cutV size (lostL s - sv taken)).length = names.length := by
      rw [← leftL_eq, ← e3, fvs_len]
    have hzv : (names.zip (cutV size (lostL s - sv taken))).map (·.2) = cutV size (lostL s - sv taken) := List.map_snd_zip (by omega)
    have hzk : ks (names.zip (cutV size (lostL s - sv taken))) = names := List.map_fst_zip (by omega)
    have hzp : Pos (names.zip (cutV size (lostL s - sv taken))) := fun z hz2 => by
      have := cutV_mem hz (by omega) (List.of_mem_zip hz2).2
      omega
    refine ⟨names.zip (cutV size (lostL s - sv taken)), ?_, hzv, fun n hn => ?_, fun n hn => ?_, by rw [hzk]; exact hnd⟩
    · rw [e1, leftL_eq, e2, map_eta]
      refine (hp _).trans ?_
      show (KM.ps _).Perm _
      rw [ps_append, ps_pos hzp]
    · rw [hzk] at hn
      obtain ⟨h1, h2, _⟩ := hcn n hn
      exact ⟨fun z => h1 ((mem_ks_add _).mpr (.inl z)), fun z => h1 ((mem_ks_add _).mpr (.inr z)), h2⟩
    · rw [hzk] at hn
      exact (hcn n hn).2.2
  · have e0 : lostL s - sv taken = 0 := by have := t.sum; omega
    refine ⟨[], ?_, by rw [e0, cutV_zero]; rfl, fun n hn => (nomatch hn), fun n hn => (nomatch hn), List.nodup_nil⟩
    have e1 : twT s barred (taken, size) = srtP (((add s.kept taken).filter fun z => decide (0 < z.2)).map fun z => (z.1, z.2)) := by
      show srtP (((if decide (0 < leftL (lostL s) taken) = true then twNew (addAll s.kept taken) size (leftL (lostL s) taken) barred (nTw s taken size barred) else addAll s.kept taken).filter fun z => decide (0 < z.2)).map fun z => (z.1, z.2)) = _
      rw [if_neg (by rw [decide_eq_true_eq, leftL_eq]; exact hl)]
      rfl
    rw [e1, map_eta, List.append_nil]
    exact hp _
section
variable {s : Sk} {taken Z c : List (Str × Int)} {size : Int} {barred : List Str}
theorem TwI.zp (h : Sm s) (t : TkOk s taken size barred) (w : TwI s taken size barred c Z) : ∀ z ∈ Z, 1 ≤ z.2 ∧ z.2 ≤ size ∧ z.2 ≤ s.off := fun z hz => by
  have hm : z.2 ∈ cutV size (lostL s - sv taken) := by
    rw [← w.zv]
    exact List.mem_map_of_mem hz
  by_cases hl : 0 < lostL s - sv taken
  · obtain ⟨h1, h2⟩ := t.sz hl
    have := cutV_mem h1 (by omega) hm
    omega
  · have e0 : lostL s - sv taken = 0 := by have := t.sum; omega
    rw [e0, cutV_zero] at hm
    cases hm
theorem TwI.zs (h : Sm s) (t : TkOk s taken size barred) (w : TwI s taken size barred c Z) : sv Z = lostL s - sv taken := by
  have e : sv Z = (Z.map (·.2)).sum := rfl
  rw [e, w.zv]
  by_cases hl : 0 < lostL s - sv taken
  · exact cutV_sum (t.sz hl).1 (by omega)
  · have e0 : lostL s - sv taken = 0 := by have := t.sum; omega
    rw [e0, cutV_zero]
    rfl
theorem TkOk.nn (t : TkOk s taken size barred) : Nn taken := fun z hz => (t.b z hz).1
theorem TwI.g (h : Sm s) (t : TkOk s taken size barred) (w : TwI s taken size barred c Z) (n : Str) : gs c n = gs s.kept n + gs taken n + gs Z n := by
  rw [gs_perm w.perm, gs_append, gs_ps (nn_add _ h.kp.nd h.kp.pos.nn t.nn), gs_add _ _ h.kp.nd]
theorem TwI.gk (h : Sm s) (t : TkOk s taken size barred) (w : TwI s taken size barred c Z) {n : Str} (hn : n ∈ ks s.kept ∨ n ∈ ks taken ∨ n ∈ barred) : gs c n = gs s.kept n + gs taken n := by
  rw [w.g h t, gs_notin (d := Z) fun z => ?_, Int.add_zero]
  have := w.zk n z
  rcases hn with hn | hn | hn
  · exact this.1 hn
  · exact this.2.1 hn
  · exact this.2.2 hn
theorem TkOk.gt (h : Sm s) (t : TkOk s taken size barred) (n : Str) : 0 ≤ gs taken n ∧ gs taken n ≤ s.off := by
  by_cases hn : n ∈ ks taken
  · exact t.b _ (mem_gs t.nd hn)
  · rw [gs_notin hn]
    have := h.sk.o0
    omega
theorem TwI.tr (h : Sm s) (t : TkOk s taken size barred) (w : TwI s taken size barred c Z) : Tr s c := by
  have hzp := w.zp h t
  refine ⟨?_, fun z hz => ?_, fun n => ?_, fun n => ?_, ?_⟩
  · refine nd_perm w.perm.symm ?_
    unfold ks
    rw [List.map_append, List.nodup_append]
    refine ⟨nd_ps (nd_add _ h.kp.nd), w.znd, fun a ha b hb e => ?_⟩
    subst e
    have h1 := w.zk a hb
    rcases (mem_ks_add _).mp (mem_kps ha) with q | q
    · exact h1.1 q
    · exact h1.2.1 q
  · rcases List.mem_append.mp (w.perm.mem_iff.mp hz) with hz | hz
    · exact pos_ps _ z hz
    · have := hzp z hz
      omega
  · rw [w.g h t]
    have h1 := (t.gt h n).1
    have h2 := gs_nn (d := Z) (fun z hz => by have := hzp z hz; omega) n
    omega
  · by_cases hn : n ∈ ks Z
    · rw [w.g h t, gs_notin (w.zk n hn).2.1]
      have h1 := hzp _ (mem_gs w.znd hn)
      have e : (n, gs Z n).2 = gs Z n := rfl
      omega
    · rw [w.g h t, gs_notin hn]
      have := (t.gt h n).2
      omega
  · rw [sv_perm w.perm, sv_append, sv_ps (nn_add _ h.kp.nd h.kp.pos.nn t.nn), sv_add _ h.kp.nd, w.zs h t]
    omega
end
end KD

set_option Elab.async false
set_option linter.all false
set_option maxRecDepth 100000
/-! MH: the end truths take the ends. -/
namespace KD
open PySem PySem.Spec L2 KM
local instance : Vol := volNone
section
variable {s : Sk}
theorem Sm.szo (h : Sm s) (hl : 0 < lostL s) : (s.off = 1 ∨ s.off = 2) ∧ s.off ≤ s.off := by
  have h1 := h.o
  have h2 := h.sk.off0
  refine ⟨?_, Int.le_refl _⟩
  rcases h1 with e | e | e
  · have := h2 e
    omega
  · exact .inl e
  · exact .inr e
theorem tk_nil (h : Sm s) {barred : List Str} (hb : ∀ n ∈ barred, n ∈ NM5) (hbl : barred.length ≤ 1000) : TkOk s [] s.off barred :=
  ⟨List.nodup_nil, fun z hz => (nomatch hz), h.l12.1, fun hl => h.szo (by rw [sv_nil] at hl; omega), fun n hn => (nomatch hn), hb, hbl⟩
theorem tk_nil1 (h : Sm s) {barred : List Str} (hb : ∀ n ∈ barred, n ∈ NM5) (hbl : barred.length ≤ 1000) : TkOk s [] 1 barred :=
  ⟨List.nodup_nil, fun z hz => (nomatch hz), h.l12.1, fun hl => ⟨.inl rfl, by have := (h.szo (by rw [sv_nil] at hl; omega)).1; omega⟩, fun n hn => (nomatch hn), hb, hbl⟩
theorem tk_fil (h : Sm s) {ns barred : List Str} (hn : ns.Nodup) (h5 : ∀ n ∈ ns, n ∈ NM5) (hb : ∀ n ∈ barred, n ∈ NM5) (hbl : barred.length ≤ 1000) : TkOk s (lotT s ns) s.off barred := by
  have f := fil h.sk.o0 h.l12.1 ns
  exact ⟨by show (ks (filL s.off (lostL s) ns).1).Nodup; rw [f.k]; exact hn, f.b, by show sv (filL s.off (lostL s) ns).1 ≤ _; rw [f.s]; omega, fun hl => h.szo (by
    have := sv_nn (d := lotT s ns) fun z hz => (f.b z hz).1
    omega), fun n hm => h5 n (by
    have hm : n ∈ ks (filL s.off (lostL s) ns).1 := hm
    rw [f.k] at hm
    exact hm), hb, hbl⟩
theorem bc5 (h : Sm s) : ∀ n ∈ bcL s, n ∈ NM5 := fun n hn => h.kp.sub5 ((bcL_perm s).mem_iff.mp hn)
theorem bc_nd (h : Sm s) : (bcL s).Nodup := (bcL_perm s).nodup_iff.mpr h.kp.nd
theorem above_sub {n : Str} {z : Str × Int} (hz : z ∈ above s n) : z ∈ s.kept ∧ z.1 ≠ n ∧ need (gs s.kept n) z.2 ≤ s.off := by
  obtain ⟨h1, h2⟩ := List.mem_filter.mp hz
  simp only [Bool.and_eq_true, Bool.not_eq_true', decide_eq_false_iff_not, decide_eq_true_eq] at h2
  exact ⟨h1, h2⟩
theorem tk_ra (h : Sm s) (n : Str) {barred : List Str} (hb : ∀ n ∈ barred, n ∈ NM5) (hbl : barred.length ≤ 1000) : TkOk s (raL s n).1 (if decide (((dgo s.kept n).getD 0) < s.off) = true then ((dgo s.kept n).getD 0) + 1 else s.off) barred := by
  have r := ra h n
  have hks : ks ((above s n).map fun z => (z.1, need (gs s.kept n) z.2)) = ks (above s n) := by
    unfold ks
    rw [List.map_map]
    rfl
  have hsv : sv (raL s n).1 = ((above s n).map fun z => need (gs s.kept n) z.2).sum := by
    rw [sv_perm r.perm]
    unfold sv
    rw [List.map_map]
    rfl
  have hb2 : ∀ z ∈ (raL s n).1, 0 ≤ z.2 ∧ z.2 ≤ s.off := fun z hz => by
    obtain ⟨y, hy, rfl⟩ := List.mem_map.mp (r.perm.mem_iff.mp hz)
    refine ⟨?_, (above_sub hy).2.2⟩
    show 0 ≤ max 0 _
    omega
  refine ⟨nd_perm r.perm.symm (by rw [hks]; exact ks_fil _ h.kp.nd), hb2, ?_, fun hl => ?_, fun m hm => ?_, hb, hbl⟩
  · rw [hsv]
    have h1 : ((above s n).map fun z => need (gs s.kept n) z.2).sum ≤ ((above s n).map fun _ => s.off).sum := sum_map_le fun z hz => (above_sub hz).2.2
    rw [sum_map_const] at h1
    have h2 := Int.mul_le_mul_of_nonneg_right (a := ((above s n).length : Int)) (b := s.kept.length) (c := s.off) (by have : (above s n).length ≤ s.kept.length := List.length_filter_le _ _; omega) h.sk.o0
    have h3 := h.len'
    have h4 := h.sk.o0
    omega
  · have h0 := sv_nn (d := (raL s n).1) fun z hz => (hb2 z hz).1
    have h1 := h.szo (by omega)
    rw [dk h]
    have h2 := gs_nn h.kp.pos.nn n
    split
    · rename_i q
      have q := of_decide_eq_true q
      omega
    · exact h1
  · have := (ks_perm r.perm).mem_iff.mp hm
    rw [hks] at this
    obtain ⟨z, hz, rfl⟩ := List.mem_map.mp this
    exact h.kp.sub5 (mem_ks (above_sub hz).1)
theorem nodup_len5 {ns : List Str} (hn : ns.Nodup) (h5 : ∀ n ∈ ns, n ∈ NM5) : ns.length ≤ 1000 := by
  have := hn.length_le_of_subset h5
  have e : NM5.length = 5 := rfl
  omega
theorem namesQ_nd {q : Qn} (hq : QnOk q) : (namesQ q).Nodup := by
  cases q with
  | count n => simp [namesQ]
  | lot ns => exact hq.2.2.nd
  | apart a b => simp [namesQ, hq.2.2]
  | place n => simp [namesQ]
  | first m => exact List.nodup_nil
  | unlike => exact List.nodup_nil
  | squares => exact List.nodup_nil
theorem tk_lt (h : Sm s) {q : Qn} (hq : QnOk q) (h5 : ∀ n ∈ namesQ q, n ∈ NM5) : TkOk s (ltQ s q).1 (ltQ s q).2 (namesQ q) := by
  have hb := nodup_len5 (namesQ_nd hq) h5
  cases q with
  | count n => exact tk_nil h h5 hb
  | lot ns => exact tk_nil h h5 hb
  | apart a b => exact tk_fil h (by simp) (fun n hn => h5 n (by simp at hn; simp [namesQ, hn])) h5 hb
  | place n => exact tk_fil h (by simp) (fun m hn => h5 m (by simp at hn; simp [namesQ, hn])) h5 hb
  | first m => exact tk_nil1 h h5 hb
  | unlike => exact tk_fil h (bc_nd h) (bc5 h) h5 hb
  | squares => exact tk_nil1 h h5 hb
theorem tk_gt (h : Sm s) {q : Qn} (hq : QnOk q) (h5 : ∀ n ∈ namesQ q, n ∈ NM5) : TkOk s (gtQ s q).1 (gtQ s q).2 (namesQ q) := by
  have hb := nodup_len5 (namesQ_nd hq) h5
  cases q with
  | count n => exact tk_fil h (by simp) (fun m hn => h5 m (by simp at hn; simp [namesQ, hn])) h5 hb
  | lot ns => exact tk_fil h hq.2.2.nd h5 h5 hb
  | apart a b => exact tk_fil h (by simp) (fun n hn => h5 n (by simp at hn; simp [namesQ, hn])) h5 hb
  | place n => exact tk_ra h n h5 hb
  | first m =>
    show TkOk s (lotT s (cutA (bcL s) none (some m))) s.off []
    rw [cutA_take _ (by have := hq.1; omega)]
    exact tk_fil h ((bc_nd h).sublist (List.take_sublist _ _)) (fun n hn => bc5 h n (List.mem_of_mem_take hn)) h5 hb
  | unlike => exact tk_nil1 h h5 hb
  | squares => exact tk_fil h (bc_nd h) (bc5 h) h5 hb
/-! values -/
theorem sum_gs_fil (h : Sm s) {ns : List Str} (hn : ns.Nodup) : (ns.map (gs (lotT s ns))).sum = min (ns.length * s.off) (lostL s) := by
  have f := fil h.sk.o0 h.l12.1 ns
  have : (ns.map (gs (lotT s ns))).sum = sv (lotT s ns) := sum_gs_all hn fun n hm => by
    have hm : n ∈ ks (filL s.off (lostL s) ns).1 := hm
    rw [f.k] at hm
    exact hm
  rw [this]
  exact f.s
theorem ks_fil2 (h : Sm s) (ns : List Str) : ks (lotT s ns) = ns := (fil h.sk.o0 h.l12.1 ns).k
theorem lo_lot (h : Sm s) {ns : List Str} {c Z : List (Str × Int)} (t : TkOk s [] s.off ns) (w : TwI s [] s.off ns c Z) : (ns.map fun z => (dgo c z).getD 0).sum = (lotE s ns).1 := by
  rw [lotE1 h]
  have hc := w.tr h t
  show _ = (ns.map (gs s.kept)).sum
  congr 1
  exact List.map_congr_left fun n hn => by rw [dgo_gs hc.nd, w.gk h t (.inr (.inr hn)), gs_nil, Int.add_zero]
theorem hi_lot (h : Sm s) {ns : List Str} (hn : ns.Nodup) {c Z : List (Str × Int)} (t : TkOk s (lotT s ns) s.off ns) (w : TwI s (lotT s ns) s.off ns c Z) : (ns.map fun z => (dgo c z).getD 0).sum = (lotE s ns).2 := by
  rw [lotE1 h]
  have hc := w.tr h t
  show _ = (ns.map (gs s.kept)).sum + min (ns.length * s.off) (lostL s)
  rw [← sum_gs_fil h hn, ← sum_map_add]
  congr 1
  exact List.map_congr_left fun n hm => by rw [dgo_gs hc.nd, w.gk h t (.inr (.inr hm))]
/-- what is taken from one name, of two -/
theorem one_two (h : Sm s) {a b n : Str} {c Z : List (Str × Int)} {barred : List Str} (t : TkOk s (lotT s [n]) s.off barred) (w : TwI s (lotT s [n]) s.off barred c Z) (hb : n ∈ barred) : gs c n = gs s.kept n + min s.off (lostL s) ∧ ∀ m ∈ barred, m ≠ n → gs c m = gs s.kept m := by
  have h1 := sum_gs_fil h (ns := [n]) (by simp)
  simp at h1
  refine ⟨by rw [w.gk h t (.inr (.inr hb)), h1], fun m hm hne => ?_⟩
  rw [w.gk h t (.inr (.inr hm)), gs_notin (d := lotT s [n]), Int.add_zero]
  rw [ks_fil2 h]
  simpa using hne
theorem lotE_one (h : Sm s) (n : Str) : lotE s [n] = (gs s.kept n, gs s.kept n + min s.off (lostL s)) := by
  rw [lotE1 h]
  simp
theorem lo_apart (h : Sm s) {a b : Str} (hab : a ≠ b) {c Z : List (Str × Int)} (t : TkOk s (lotT s [b]) s.off [a, b]) (w : TwI s (lotT s [b]) s.off [a, b] c Z) : valL c (.apart a b) = (endsQ s (.apart a b)).1 := by
  have hc := w.tr h t
  obtain ⟨h1, h2⟩ := one_two h (a := a) (b := b) t w (by simp)
  have h3 := h2 a (by simp) hab
  show (dgo c a).getD 0 - (dgo c b).getD 0 = (lotE s [a]).1 - (lotE s [b]).2
  rw [dgo_gs hc.nd, dgo_gs hc.nd, lotE_one h, lotE_one h, h1, h3]
theorem hi_apart (h : Sm s) {a b : Str} (hab : a ≠ b) {c Z : List (Str × Int)} (t : TkOk s (lotT s [a]) s.off [a, b]) (w : TwI s (lotT s [a]) s.off [a, b] c Z) : valL c (.apart a b) = (endsQ s (.apart a b)).2 := by
  have hc := w.tr h t
  obtain ⟨h1, h2⟩ := one_two h (a := a) (b := b) t w (by simp)
  have h3 := h2 b (by simp) fun e => hab e.symm
  show (dgo c a).getD 0 - (dgo c b).getD 0 = (lotE s [a]).2 - (lotE s [b]).1
  rw [dgo_gs hc.nd, dgo_gs hc.nd, lotE_one h, lotE_one h, h1, h3]
theorem val_place (h : Sm s) {c : List (Str × Int)} (hc : Tr s c) (n : Str) : valL c (.place n) = 1 + (((s.kept.filter fun z => decide (gs c n < gs c z.1)).length : Int) + (((c.filter fun z => !decide (z.1 ∈ ks s.kept)).filter fun z => decide (gs c n < z.2)).length : Int)) := by
  have P := parts h.kp.nd h.kp.pos hc
  show 1 + ((c.filter fun z => decide ((dgo c n).getD 0 < z.2)).length : Int) = _
  rw [dgo_gs hc.nd, (P.perm.filter _).length_eq, List.filter_append, List.length_append, List.filter_map, List.length_map]
  rfl
theorem lo_place (h : Sm s) {n : Str} {c Z : List (Str × Int)} (t : TkOk s (lotT s [n]) s.off [n]) (w : TwI s (lotT s [n]) s.off [n] c Z) : valL c (.place n) ≤ (endsQ s (.place n)).1 := by
  have hc := w.tr h t
  have P := parts h.kp.nd h.kp.pos hc
  obtain ⟨h1, _⟩ := one_two h (a := n) (b := n) t w (by simp)
  have h2 := h.ol
  have h3 := gs_nn h.kp.pos.nn n
  rw [val_place h hc, show endsQ s (.place n) = plE s n from rfl, plE1 h]
  show _ ≤ 1 + ((s.kept.filter fun z => decide (gs s.kept n + s.off < z.2)).length : Int)
  have hb : ((c.filter fun z => !decide (z.1 ∈ ks s.kept)).filter fun z => decide (gs c n < z.2)) = [] := List.filter_eq_nil_iff.mpr fun z hz => by
    have := (P.nb z hz).2.1
    rw [decide_eq_true_eq]
    omega
  rw [hb, List.length_nil]
  have ha := len_filter_le (l := s.kept) (p := fun z => decide (gs c n < gs c z.1)) (q := fun z => decide (gs s.kept n + s.off < z.2)) fun z hz e => by
    have e := of_decide_eq_true e
    refine decide_eq_true ?_
    have hne : z.1 ≠ n := fun q => by rw [q] at e; omega
    have e2 := w.gk h t (.inl (mem_ks hz))
    rw [gs_notin (d := lotT s [n]) (by rw [ks_fil2 h]; simpa using hne), gs_mem h.kp.nd hz] at e2
    omega
  omega
theorem filZ {taken Z c : List (Str × Int)} {size : Int} {barred : List Str} (w : TwI s taken size barred c Z) (p : Str × Int → Bool) : ((Z.filter p).length : Int) ≤ (((c.filter fun z => !decide (z.1 ∈ ks s.kept)).filter p).length : Int) := by
  have h1 := (w.perm.filter fun z => !decide (z.1 ∈ ks s.kept)).filter p
  have h2 : Z.filter (fun z => !decide (z.1 ∈ ks s.kept)) = Z := List.filter_eq_self.mpr fun z hz => by
    have := (w.zk z.1 (mem_ks hz)).1
    simpa using this
  rw [List.filter_append, h2, List.filter_append] at h1
  rw [h1.length_eq, List.length_append]
  omega
theorem filV (l : List (Str × Int)) (f : Int → Bool) : ((l.filter fun z => f z.2).length : Int) = (((l.map (·.2)).filter f).length : Int) := by
  rw [List.filter_map, List.length_map]
  rfl
theorem hi_place (h : Sm s) {n : Str} {c Z : List (Str × Int)} {size : Int} (hz : size = if decide (((dgo s.kept n).getD 0) < s.off) = true then ((dgo s.kept n).getD 0) + 1 else s.off) (t : TkOk s (raL s n).1 size [n]) (w : TwI s (raL s n).1 size [n] c Z) : (endsQ s (.place n)).2 ≤ valL c (.place n) := by
  have hc := w.tr h t
  have r := ra h n
  have hks : ks ((above s n).map fun z => (z.1, need (gs s.kept n) z.2)) = ks (above s n) := by
    unfold ks
    rw [List.map_map]
    rfl
  have hsv : sv (raL s n).1 = ((above s n).map fun z => need (gs s.kept n) z.2).sum := by
    rw [sv_perm r.perm]
    unfold sv
    rw [List.map_map]
    rfl
  have hn0 : gs (raL s n).1 n = 0 := gs_notin fun hm => by
    have := (ks_perm r.perm).mem_iff.mp hm
    rw [hks] at this
    obtain ⟨z, hz2, e⟩ := List.mem_map.mp this
    exact (above_sub hz2).2.1 e
  have hcn : gs c n = gs s.kept n := by
    rw [w.gk h t (.inr (.inr (by simp))), hn0, Int.add_zero]
  rw [val_place h hc, show endsQ s (.place n) = plE s n from rfl, plE1 h, hcn]
  rw [dk h] at hz
  show 1 + ((above s n).length : Int) + _ ≤ _
  have ha : ((above s n).length : Int) ≤ ((s.kept.filter fun z => decide (gs s.kept n < gs c z.1)).length : Int) := len_filter_le fun z hz e => by
    simp only [Bool.and_eq_true, Bool.not_eq_true', decide_eq_false_iff_not, decide_eq_true_eq] at e
    have hm : z ∈ above s n := List.mem_filter.mpr ⟨hz, by simpa using e⟩
    have e2 := w.gk h t (.inl (mem_ks hz))
    have e3 : gs (raL s n).1 z.1 = need (gs s.kept n) z.2 := by
      rw [gs_perm r.perm]
      exact gs_mem (z := (z.1, need (gs s.kept n) z.2)) (by rw [hks]; exact ks_fil _ h.kp.nd) (List.mem_map.mpr ⟨z, hm, rfl⟩)
    rw [e3, gs_mem h.kp.nd hz] at e2
    refine decide_eq_true ?_
    rw [e2]
    unfold need
    omega
  have hz1 := filZ w fun z => decide (gs s.kept n < z.2)
  split
  · rename_i q
    rw [if_pos (decide_eq_true q)] at hz
    have h3 := gs_nn h.kp.pos.nn n
    have hq : (lostL s - sv (raL s n).1) / size ≤ ((Z.filter fun z => decide (gs s.kept n < z.2)).length : Int) := by
      rw [filV Z fun v => decide (gs s.kept n < v), w.zv]
      unfold cutV
      rw [List.filter_append, List.length_append, List.filter_eq_self.mpr fun v hv => by
        rw [(List.mem_replicate.mp hv).2, decide_eq_true_eq]
        omega, List.length_replicate]
      omega
    rw [← hsv, ← hz]
    omega
  · omega
end
end KD

set_option Elab.async false
set_option linter.all false
set_option maxRecDepth 100000
/-! MI: orders; first, unlike, squares. -/
namespace KD
open PySem PySem.Spec L2 KM
local instance : Vol := volNone
/-! orders -/
theorem toP_pD (b : Str × Int) : toP (pD b) = .tuple [.str b.1, .int b.2] := by simp [toP, toPs, pD]
theorem toP_ipD (b : Int × Str) : toP (ipD b) = .tuple [.int b.1, .str b.2] := by simp [toP, toPs, ipD]
theorem str_ext {a b : Str} (h : a.cps.toList = b.cps.toList) : a = b := by
  cases a
  cases b
  congr 1
  exact Array.toList_inj.mp h
theorem dataLt_si (x x' : Str) (y y' : Int) : PySem.W.dataLt (.tuple [.str x, .int y]) (.tuple [.str x', .int y']) = decide (x.cps.toList < x'.cps.toList ∨ (x = x' ∧ y < y')) := by
  rw [PySem.W.dataLt_pair (by simp [PySem.W.alike]) (by simp [PySem.W.alike]), PySem.W.dataLt_int, PySem.W.dataLt_str]
  simp only [PyData.eqv, beq_iff_eq]
  by_cases h1 : x = x'
  · subst h1
    by_cases h2 : y = y' <;> simp [h2, List.lt_irrefl]
  · by_cases h2 : y = y' <;> simp [h1, h2]
theorem dataLt_is (x x' : Int) (y y' : Str) : PySem.W.dataLt (.tuple [.int x, .str y]) (.tuple [.int x', .str y']) = decide (x < x' ∨ (x = x' ∧ y.cps.toList < y'.cps.toList)) := by
  rw [PySem.W.dataLt_pair (by simp [PySem.W.alike]) (by simp [PySem.W.alike]), PySem.W.dataLt_int, PySem.W.dataLt_str]
  simp only [PyData.eqv, beq_iff_eq]
  by_cases h1 : x = x'
  · subst h1
    by_cases h2 : y = y'
    · subst h2
      simp [List.lt_irrefl]
    · simp [h2]
  · by_cases h2 : y = y' <;> simp [h1, h2]
def leP (a b : Str × Int) : Bool := !decide (b.1.cps.toList < a.1.cps.toList ∨ (b.1 = a.1 ∧ b.2 < a.2))
def leIS (a b : Int × Str) : Bool := !decide (b.1 < a.1 ∨ (b.1 = a.1 ∧ b.2.cps.toList < a.2.cps.toList))
theorem dataLe_si : PySem.W.dataLe false (fun b : Str × Int => toP (pD b)) = leP := by
  funext p q
  show (!PySem.W.dataLt (toP (pD q)) (toP (pD p))) = _
  rw [toP_pD, toP_pD, dataLt_si]
  rfl
theorem dataLe_is : PySem.W.dataLe false (fun b : Int × Str => toP (ipD b)) = leIS := by
  funext p q
  show (!PySem.W.dataLt (toP (ipD q)) (toP (ipD p))) = _
  rw [toP_ipD, toP_ipD, dataLt_is]
  rfl
theorem lt3 {a b : List Nat} (h : a ≠ b) : a < b ∨ b < a := by
  rcases List.le_total a b with q | q
  · exact .inl (Decidable.byContradiction fun z => h (List.le_antisymm q (List.not_lt.mp z)))
  · exact .inr (Decidable.byContradiction fun z => h (List.le_antisymm (List.not_lt.mp z) q))
theorem leP_iff {a b : Str × Int} : leP a b = true ↔ a.1.cps.toList < b.1.cps.toList ∨ (a.1 = b.1 ∧ a.2 ≤ b.2) := by
  unfold leP
  simp only [Bool.not_eq_true', decide_eq_false_iff_not, not_or, not_and]
  constructor
  · rintro ⟨h1, h2⟩
    by_cases e : a.1 = b.1
    · exact .inr ⟨e, by have := h2 e.symm; omega⟩
    · rcases lt3 (fun z => e (str_ext z)) with q | q
      · exact .inl q
      · exact absurd q h1
  · rintro (h | ⟨h1, h2⟩)
    · refine ⟨List.lt_asymm h, fun e => ?_⟩
      rw [e] at h
      exact absurd h (List.lt_irrefl _)
    · exact ⟨by rw [h1]; exact List.lt_irrefl _, fun _ => by omega⟩
theorem leP_trans (a b c : Str × Int) (h : leP a b = true) (h2 : leP b c = true) : leP a c = true := by
  rw [leP_iff] at *
  rcases h with h | ⟨h, h'⟩ <;> rcases h2 with h2 | ⟨h2, h2'⟩
  · exact .inl (List.lt_trans h h2)
  · exact .inl (h2 ▸ h)
  · exact .inl (h ▸ h2)
  · exact .inr ⟨h.trans h2, by omega⟩
theorem leP_total (a b : Str × Int) : (leP a b || leP b a) = true := by
  rw [Bool.or_eq_true, leP_iff, leP_iff]
  by_cases e : a.1 = b.1
  · by_cases q : a.2 ≤ b.2
    · exact .inl (.inr ⟨e, q⟩)
    · exact .inr (.inr ⟨e.symm, by omega⟩)
  · rcases lt3 (fun z => e (str_ext z)) with q | q
    · exact .inl (.inl q)
    · exact .inr (.inl q)
theorem srtP_perm (l : List (Str × Int)) : (srtP l).Perm l := List.mergeSort_perm _ _
theorem srtP_ord (l : List (Str × Int)) : (srtP l).Pairwise fun a b => leP a b = true := by
  unfold srtP
  rw [dataLe_si]
  exact List.pairwise_mergeSort leP_trans leP_total l
theorem srtP_asc {l : List (Str × Int)} (h : (ks l).Nodup) : AscS (ks (srtP l)) := by
  have h1 : (ks (srtP l)).Nodup := nd_perm (srtP_perm l).symm h
  have h2 := srtP_ord l
  unfold ks at h1 ⊢
  unfold AscS
  rw [List.Nodup, List.pairwise_map] at h1
  rw [List.pairwise_map]
  have := h1.and h2
  exact this.imp fun {a b} h => by
    rcases leP_iff.mp h.2 with q | ⟨q, _⟩
    · exact decide_eq_true q
    · exact absurd q h.1
theorem asc_leP {l : List (Str × Int)} (h : AscS (ks l)) : l.Pairwise fun a b => leP a b = true := by
  unfold AscS ks at h
  rw [List.pairwise_map] at h
  exact h.imp fun {a b} h => leP_iff.mpr (.inl (of_decide_eq_true h))
theorem srtP_self {l : List (Str × Int)} (h : AscS (ks l)) : srtP l = l := by
  unfold srtP
  rw [dataLe_si]
  exact List.mergeSort_of_pairwise (asc_leP h)
theorem leIS_fst {a b : Int × Str} (h : leIS a b = true) : a.1 ≤ b.1 := by
  unfold leIS at h
  simp only [Bool.not_eq_true', decide_eq_false_iff_not, not_or, not_and] at h
  omega
theorem leIS_iff {a b : Int × Str} : leIS a b = true ↔ a.1 < b.1 ∨ (a.1 = b.1 ∧ a.2.cps.toList ≤ b.2.cps.toList) := by
  unfold leIS
  simp only [Bool.not_eq_true', decide_eq_false_iff_not, not_or, not_and]
  constructor
  · rintro ⟨h1, h2⟩
    by_cases e : a.1 = b.1
    · exact .inr ⟨e, List.not_lt.mp (h2 e.symm)⟩
    · exact .inl (by omega)
  · rintro (h | ⟨h1, h2⟩)
    · exact ⟨by omega, fun e => by omega⟩
    · exact ⟨by omega, fun _ => List.not_lt.mpr h2⟩
theorem leIS_trans (a b c : Int × Str) (h : leIS a b = true) (h2 : leIS b c = true) : leIS a c = true := by
  rw [leIS_iff] at *
  rcases h with h | ⟨h, h'⟩ <;> rcases h2 with h2 | ⟨h2, h2'⟩
  · exact .inl (by omega)
  · exact .inl (by omega)
  · exact .inl (by omega)
  · exact .inr ⟨h.trans h2, List.le_trans h' h2'⟩
theorem leIS_total (a b : Int × Str) : (leIS a b || leIS b a) = true := by
  rw [Bool.or_eq_true, leIS_iff, leIS_iff]
  by_cases e : a.1 = b.1
  · rcases List.le_total a.2.cps.toList b.2.cps.toList with q | q
    · exact .inl (.inr ⟨e, q⟩)
    · exact .inr (.inr ⟨e.symm, q⟩)
  · by_cases q : a.1 < b.1
    · exact .inl (.inl q)
    · exact .inr (.inl (by omega))
theorem srtIS_ord (l : List (Int × Str)) : (srtIS l).Pairwise fun a b => leIS a b = true := by
  unfold srtIS
  rw [dataLe_is]
  exact List.pairwise_mergeSort leIS_trans leIS_total l
/-- the counts of the kept names, by counts -/
theorem bc_vals {s : Sk} (h : Sm s) : (bcL s).map (gs s.kept) = revS (s.kept.map (·.2)) := by
  have hp := srtIS_perm (s.kept.map fun z => (-z.2, z.1))
  have e : (bcL s).map (gs s.kept) = (srtIS (s.kept.map fun z => (-z.2, z.1))).map fun y => -y.1 := by
    unfold bcL
    rw [List.map_map]
    refine List.map_congr_left fun y hy => ?_
    obtain ⟨z, hz, rfl⟩ := List.mem_map.mp (hp.mem_iff.mp hy)
    show gs s.kept z.1 = - -z.2
    rw [gs_mem h.kp.nd hz]
    omega
  rw [e]
  refine revS_one ?_ ?_
  · have := hp.map fun y => -y.1
    rw [List.map_map] at this
    have e2 : (s.kept.map ((fun y : Int × Str => -y.1) ∘ fun z => (-z.2, z.1))) = s.kept.map (·.2) := List.map_congr_left fun z _ => by show - -z.2 = z.2; omega
    rw [e2] at this
    exact this
  · rw [List.pairwise_map]
    exact (srtIS_ord _).imp fun {a b} h => by
      have := leIS_fst h
      omega
theorem bc_top {s : Sk} (h : Sm s) (k : Nat) : (((bcL s).take k).map (gs s.kept)).sum = topS k (s.kept.map (·.2)) := by
  unfold topS
  rw [← bc_vals h, List.map_take]
/-! first -/
theorem val_first (c : List (Str × Int)) {m : Int} (hm : 1 ≤ m) : valL c (.first m) = topS m.toNat (c.map (·.2)) := by
  show ((cutA (revS (c.map fun z => z.2)) none (some m)).map fun z => z).sum = _
  rw [cutA_take _ (by omega), sum_id]
  rfl
theorem sum_ones {l : List Int} (h : ∀ v ∈ l, v = 1) : l.sum = l.length := by
  have e : l.map (fun z => z) = l.map fun _ => 1 := List.map_congr_left fun v hv => h v hv
  rw [← sum_id l, e, sum_map_const]
  omega
theorem topS_ones {K O : List Int} (hK : ∀ v ∈ K, 1 ≤ v) (hO : ∀ v ∈ O, v = 1) (k : Nat) : topS k (K ++ O) = topS k K + (min (k - K.length) O.length : Nat) := by
  have e : revS K ++ O = revS (K ++ O) := by
    refine revS_one ((revS_perm K).append_right O) ?_
    rw [List.pairwise_append]
    refine ⟨(revS_ord K).imp fun h => h, ?_, fun a ha b hb => ?_⟩
    · exact List.pairwise_of_forall_mem_list fun a ha b hb => by rw [hO a ha, hO b hb]; exact Int.le_refl _
    · have := hK a ((revS_perm K).mem_iff.mp ha)
      rw [hO b hb]
      exact this
  unfold topS
  rw [← e, List.take_append, List.sum_append_int, (revS_perm K).length_eq]
  congr 1
  rw [sum_ones fun v hv => hO v (List.mem_of_mem_take hv), List.length_take]
section
variable {s : Sk} {c Z : List (Str × Int)} {barred : List Str}
theorem nil_perm (h : Sm s) {size : Int} (w : TwI s [] size barred c Z) : c.Perm (s.kept ++ Z) := by
  have := w.perm
  rw [show add s.kept [] = s.kept from rfl, ps_pos h.kp.pos] at this
  exact this
theorem one_vals (h : Sm s) (t : TkOk s [] 1 barred) (w : TwI s [] 1 barred c Z) : (∀ v ∈ Z.map (·.2), v = 1) ∧ ((Z.map (·.2)).length : Int) = lostL s := by
  have h1 : ∀ v ∈ Z.map (·.2), v = 1 := fun v hv => by
    obtain ⟨z, hz, rfl⟩ := List.mem_map.mp hv
    have := w.zp h t z hz
    omega
  refine ⟨h1, ?_⟩
  rw [← sum_ones h1]
  have := w.zs h t
  rw [sv_nil] at this
  show sv Z = _
  omega
theorem lo_first (h : Sm s) {m : Int} (hm : 1 ≤ m) (t : TkOk s [] 1 barred) (w : TwI s [] 1 barred c Z) : valL c (.first m) ≤ (endsQ s (.first m)).1 := by
  obtain ⟨h1, h2⟩ := one_vals h t w
  rw [val_first c hm, show endsQ s (.first m) = fiE s m from rfl, fiE1 (by omega), topS_perm _ ((nil_perm h w).map (·.2)), List.map_append, topS_ones (fun v hv => by
    obtain ⟨z, hz, rfl⟩ := List.mem_map.mp hv
    have := h.kp.pos z hz
    omega) h1, List.length_map]
  show _ ≤ topS m.toNat (s.kept.map (·.2)) + min (m - (min m.toNat s.kept.length : Nat)) (lostL s)
  omega
theorem cut_take {size l : Int} (hs : size = 1 ∨ size = 2) (h0 : 0 ≤ l) (j : Nat) : min (j * size) l ≤ ((cutV size l).take j).sum := by
  by_cases q : j ≤ (l / size).toNat
  · unfold cutV
    rw [List.take_append_of_le_length (by rw [List.length_replicate]; exact q), List.take_replicate, sum_replicate, Nat.min_eq_left q]
    omega
  · have hl : (cutV size l).length ≤ j := by
      unfold cutV
      rw [List.length_append, List.length_replicate]
      split
      · simp
        omega
      · simp
        omega
    rw [List.take_of_length_le hl, cutV_sum hs h0]
    omega
theorem ps_bc (h : Sm s) : (KM.ps (add s.kept ((bcL s).map fun n => (n, s.off)))).Perm (s.kept.map fun z => (z.1, z.2 + s.off)) := by
  have h1 := bc_raise h
  have : Pos (add s.kept ((bcL s).map fun n => (n, s.off))) := fun z hz => by
    obtain ⟨y, hy, rfl⟩ := List.mem_map.mp (h1.mem_iff.mp hz)
    have h2 := h.kp.pos y hy
    have h3 := h.sk.o0
    show 0 < y.2 + s.off
    omega
  rw [ps_pos this]
  exact h1
theorem lotT_bc (h : Sm s) : lotT s (bcL s) = (bcL s).map fun n => (n, s.off) := by
  unfold lotT
  rw [bc_all h]
theorem sv_bc (h : Sm s) : sv (lotT s (bcL s)) = s.kept.length * s.off := by
  rw [lotT_bc h]
  unfold sv
  rw [List.map_map]
  show ((bcL s).map fun _ => s.off).sum = _
  rw [sum_map_const, bcL_len]
theorem bc_perm (h : Sm s) (w : TwI s (lotT s (bcL s)) s.off barred c Z) : c.Perm ((s.kept.map fun z => (z.1, z.2 + s.off)) ++ Z) := by
  have h1 := w.perm
  rw [lotT_bc h] at h1
  exact h1.trans ((ps_bc h).append_right Z)
theorem hi_first (h : Sm s) {m : Int} (hm : 1 ≤ m) (t : TkOk s (lotT s (cutA (bcL s) none (some m))) s.off barred) (w : TwI s (lotT s (cutA (bcL s) none (some m))) s.off barred c Z) : (endsQ s (.first m)).2 ≤ valL c (.first m) := by
  have hc := w.tr h t
  rw [val_first c hm, show endsQ s (.first m) = fiE s m from rfl, fiE1 (by omega)]
  show topS m.toNat (s.kept.map (·.2)) + min (m * s.off) (lostL s) ≤ _
  rw [cutA_take _ (by omega)] at t w
  by_cases q : s.kept.length ≤ m.toNat
  · rw [List.take_of_length_le (by rw [bcL_len]; exact q)] at t w
    rw [topS_all (by rw [List.length_map]; exact q)]
    have hv := topS_ge (k := m.toNat) (l := c.map (·.2)) (ys := (s.kept.map fun z => z.2 + s.off) ++ (Z.map (·.2)).take (m.toNat - s.kept.length)) (zs := (Z.map (·.2)).drop (m.toNat - s.kept.length)) (by
      rw [List.append_assoc, List.take_append_drop]
      have := (bc_perm h w).symm.map (·.2)
      rw [List.map_append, List.map_map] at this
      exact this) (fun x hx => by
      obtain ⟨z, hz, rfl⟩ := List.mem_map.mp hx
      exact Int.le_of_lt (hc.pos z hz)) (by
      rw [List.length_append, List.length_map, List.length_take]
      omega)
    rw [List.sum_append_int, sum_map_add, sum_map_const, w.zv, sv_bc h] at hv
    have e0 : (s.kept.map fun z => z.2).sum = sv s.kept := rfl
    have e0' : (s.kept.map Prod.snd).sum = sv s.kept := rfl
    have h2 := h.len'
    have h3 := h.l12
    have h4 := h.sk.o0
    by_cases hl : 0 < lostL s
    · have h5 := cut_take (h.szo hl).1 (l := lostL s - s.kept.length * s.off) (by omega) (m.toNat - s.kept.length)
      have e3 : m * s.off = ((m.toNat - s.kept.length : Nat) : Int) * s.off + s.kept.length * s.off := by
        rw [← Int.add_mul]
        congr 1
        omega
      omega
    · have e1 : lostL s = 0 := by omega
      have e2 : s.off = 0 := by have := h.ol; omega
      have h5 : 0 ≤ ((cutV s.off (lostL s - s.kept.length * s.off)).take (m.toNat - s.kept.length)).sum := by
        rw [e1, e2, Int.mul_zero]
        rw [show (0 : Int) - 0 = 0 from rfl, cutV_zero]
        simp
      rw [e2] at h5 ⊢
      rw [e2] at hv
      omega
  · have hl : ((bcL s).take m.toNat).length = m.toNat := by rw [List.length_take, bcL_len]; omega
    have hnd : ((bcL s).take m.toNat).Nodup := (bc_nd h).sublist (List.take_sublist _ _)
    have h1 := top_names hc.nd hc.pos.nn hnd (k := m.toNat) (by omega)
    have h2 : (((bcL s).take m.toNat).map (gs c)).sum = (((bcL s).take m.toNat).map fun n => gs s.kept n + s.off).sum := by
      congr 1
      refine List.map_congr_left fun n hn => ?_
      have hk := (bcL_perm s).mem_iff.mp (List.mem_of_mem_take hn)
      rw [w.gk h t (.inl hk)]
      congr 1
      have e : lotT s ((bcL s).take m.toNat) = ((bcL s).take m.toNat).map fun n => (n, s.off) := by
        unfold lotT
        rw [fil_all h.sk.o0 _ ?_]
        have h3 := Int.mul_le_mul_of_nonneg_right (a := (((bcL s).take m.toNat).length : Int)) (b := s.kept.length) (c := s.off) (by omega) h.sk.o0
        have h4 := h.len'
        have h5 := h.sk.o0
        omega
      rw [e, gs_mapf (fun _ => s.off) _ n hnd, if_pos hn]
    rw [sum_map_add, sum_map_const, bc_top h, hl] at h2
    have e3 : ((m.toNat : Nat) : Int) = m := Int.toNat_of_nonneg (by omega)
    rw [e3] at h2
    omega
/-! unlike, squares -/
theorem cutV_len {size l : Int} (hs : size = 1 ∨ size = 2) (h0 : 0 ≤ l) : ((cutV size l).length : Int) = (l + size - 1) / size := by
  unfold cutV
  rw [List.length_append, List.length_replicate]
  rcases hs with rfl | rfl
  · rw [Int.emod_one, if_pos rfl]
    simp
    omega
  · split
    · simp
      omega
    · simp
      omega
theorem lo_unlike (h : Sm s) (t : TkOk s (lotT s (bcL s)) s.off barred) (w : TwI s (lotT s (bcL s)) s.off barred c Z) : valL c .unlike ≤ (endsQ s .unlike).1 := by
  have e1 : Z.length = (Z.map (·.2)).length := by rw [List.length_map]
  show (c.length : Int) ≤ (unE s).1
  rw [(bc_perm h w).length_eq, List.length_append, List.length_map, e1, w.zv, sv_bc h]
  have h1 := h.len'
  have h2 := h.l12
  have h3 := h.sk.o0
  unfold unE
  show _ ≤ if decide (max 0 (lostL s - s.kept.length * s.off) = 0) = true then (s.kept.length : Int) else (s.kept.length : Int) + (max 0 (lostL s - s.kept.length * s.off) + s.off - 1) / s.off
  have e2 : max 0 (lostL s - s.kept.length * s.off) = lostL s - s.kept.length * s.off := by omega
  rw [e2]
  split
  · rename_i q
    have q := of_decide_eq_true q
    rw [q, cutV_zero]
    simp
  · have hl : 0 < lostL s := by
      rename_i q
      rw [decide_eq_true_eq] at q
      have h5 : 0 ≤ (s.kept.length : Int) * s.off := Int.mul_nonneg (by omega) h3
      omega
    have h4 := cutV_len (h.szo hl).1 (l := lostL s - s.kept.length * s.off) (by omega)
    rw [Int.natCast_add, h4]
    exact Int.le_refl _
theorem hi_unlike (h : Sm s) (t : TkOk s [] 1 barred) (w : TwI s [] 1 barred c Z) : (endsQ s .unlike).2 ≤ valL c .unlike := by
  obtain ⟨_, h2⟩ := one_vals h t w
  rw [List.length_map] at h2
  show (s.kept.length : Int) + lostL s ≤ (c.length : Int)
  rw [(nil_perm h w).length_eq, List.length_append]
  omega
theorem val_sq (c : List (Str × Int)) : valL c .squares = ((c.map (·.2)).map fun v => v * v).sum := by
  show (c.map fun z => z.2 ^ (2 : Int).toNat).sum = _
  rw [List.map_map]
  congr 1
  exact List.map_congr_left fun z _ => sq2 _
theorem lo_squares (h : Sm s) (t : TkOk s [] 1 barred) (w : TwI s [] 1 barred c Z) : valL c .squares ≤ (endsQ s .squares).1 := by
  obtain ⟨h1, h2⟩ := one_vals h t w
  rw [val_sq, perm_sum (((nil_perm h w).map (·.2)).map fun v => v * v), List.map_append, List.map_append, List.sum_append_int, show endsQ s .squares = sqE s from rfl, sqE1 h]
  show _ ≤ (s.kept.map fun z => z.2 * z.2).sum + lostL s
  have e : (Z.map (·.2)).map (fun v => v * v) = Z.map (·.2) := by
    have := List.map_congr_left (f := fun v : Int => v * v) (g := id) (l := Z.map (·.2)) fun v hv => by rw [h1 v hv]; rfl
    rw [this, List.map_id]
  rw [e, sum_ones h1, h2, List.map_map]
  exact Int.le_refl _
theorem hi_squares (h : Sm s) (t : TkOk s (lotT s (bcL s)) s.off barred) (w : TwI s (lotT s (bcL s)) s.off barred c Z) : (endsQ s .squares).2 ≤ valL c .squares := by
  rw [val_sq, perm_sum (((bc_perm h w).map (·.2)).map fun v => v * v), List.map_append, List.map_append, List.sum_append_int, show endsQ s .squares = sqE s from rfl, sqE1 h, w.zv, sv_bc h]
  show (s.kept.map fun z => (z.2 + s.off) * (z.2 + s.off)).sum + _ ≤ _
  have e : (((s.kept.map fun z => (z.1, z.2 + s.off)).map (·.2)).map fun v => v * v).sum = (s.kept.map fun z => (z.2 + s.off) * (z.2 + s.off)).sum := by
    rw [List.map_map, List.map_map]
    rfl
  rw [e]
  have h1 := h.len'
  have h2 := h.l12
  have key : ∀ l : Int, 0 ≤ l → (s.off = 0 → l = 0) → (if s.off = 2 then 2 * l - l % 2 else l) ≤ ((cutV s.off l).map fun v => v * v).sum := fun l h0 h3 => by
    unfold cutV
    rw [List.map_append, List.sum_append_int, List.map_replicate, sum_replicate]
    rcases h.o with e | e | e
    · rw [h3 e, e]
      simp
    · rw [e, Int.emod_one]
      simp
      omega
    · rw [e, if_pos rfl]
      split
      · rename_i q
        rw [q]
        simp
        omega
      · have : l % 2 = 1 := by omega
        rw [this]
        simp
        omega
  have h4 := key (lostL s - s.kept.length * s.off) (by have := h.sk.o0; omega) fun e => by rw [h.sk.off0 e, e]; simp
  split
  · rename_i q
    rw [if_pos q] at h4
    have : (lostL s - s.kept.length * s.off) % 2 = lostL s % 2 := by rw [q]; omega
    omega
  · rename_i q
    rw [if_neg q] at h4
    omega
end
/-- the end truths: truths, and they take the ends -/
theorem ends_taken {s : Sk} (h : Sm s) {q : Qn} (hq : QnOk q) (h5 : ∀ n ∈ namesQ q, n ∈ NM5) :
    (Tr s (twT s (namesQ q) (ltQ s q)) ∧ valL (twT s (namesQ q) (ltQ s q)) q = (endsQ s q).1) ∧ (Tr s (twT s (namesQ q) (gtQ s q)) ∧ valL (twT s (namesQ q) (gtQ s q)) q = (endsQ s q).2) := by
  have t1 := tk_lt h hq h5
  have t2 := tk_gt h hq h5
  obtain ⟨Z1, w1⟩ := tw_is h t1
  obtain ⟨Z2, w2⟩ := tw_is h t2
  have r1 := w1.tr h t1
  have r2 := w2.tr h t2
  have b1 := bound h hq r1
  have b2 := bound h hq r2
  have l1 : valL (twT s (namesQ q) ((ltQ s q).1, (ltQ s q).2)) q ≤ (endsQ s q).1 := by
    cases q with
    | count n => exact Int.le_of_eq (lo_lot h t1 w1)
    | lot ns => exact Int.le_of_eq (lo_lot h t1 w1)
    | apart a b => exact Int.le_of_eq (lo_apart h hq.2.2 t1 w1)
    | place n => exact lo_place h t1 w1
    | first m => exact lo_first h hq.1 t1 w1
    | unlike => exact lo_unlike h t1 w1
    | squares => exact lo_squares h t1 w1
  have l2 : (endsQ s q).2 ≤ valL (twT s (namesQ q) ((gtQ s q).1, (gtQ s q).2)) q := by
    cases q with
    | count n => exact Int.le_of_eq (hi_lot h (by simp) t2 w2).symm
    | lot ns => exact Int.le_of_eq (hi_lot h hq.2.2.nd t2 w2).symm
    | apart a b => exact Int.le_of_eq (hi_apart h hq.2.2 t2 w2).symm
    | place n => exact hi_place h rfl t2 w2
    | first m => exact hi_first h hq.1 t2 w2
    | unlike => exact hi_unlike h t2 w2
    | squares => exact hi_squares h t2 w2
  exact ⟨⟨r1, Int.le_antisymm l1 b1.1⟩, r2, Int.le_antisymm b2.2 l2⟩
end KD

set_option Elab.async false
set_option linter.all false
set_option maxRecDepth 100000
/-! MJ: what the law asks of its list of truths. -/
namespace KD
open PySem PySem.Spec L2 KM
local instance : Vol := volNone
/-! names -/
theorem ok5 : ∀ x ∈ NM5, NameOk x := by
  unfold NameOk
  decide +kernel
theorem okY : ∀ i, i < 13 → NameOk (yName i) := by
  unfold NameOk
  decide +kernel
theorem okL : ∀ i, i < 26 → NameOk (letterS i) := by
  unfold NameOk
  decide +kernel
theorem ya0 : yName 0 = "ya" := by decide +kernel
/-! truths pass the check -/
theorem counts_ok {off lost : Int} {kept c : List (Str × Int)} (hc : IsTr off lost kept c) (hn : ∀ n ∈ ks c, NameOk n) (hl : c.length ≤ 1000) : CountsOk (srtP c) := by
  have hp := srtP_perm c
  refine ⟨fun p hp' => ?_, srtP_asc hc.nd, by rw [hp.length_eq]; exact hl⟩
  have hm := hp.mem_iff.mp hp'
  have := hc.pos p hm
  exact ⟨hn _ (mem_ks hm), by omega⟩
theorem rit_true {s : Sk} (h : Sm s) {c : List (Str × Int)} (hc : Tr s c) : ritL s c = true := by
  unfold ritL
  have h1 : (s.kept.all fun z => (dgo c z.1).isSome) = true := List.all_eq_true.mpr fun z hz => by
    have hm : z.1 ∈ ks c := mem_of_gs (by
      have h1 := hc.lo z.1
      rw [gs_mem h.kp.nd hz] at h1
      have := h.kp.pos z hz
      omega)
    obtain ⟨y, hy, e⟩ := List.mem_map.mp hm
    rw [← e, dgo_mem' hc.nd hy]
    rfl
  have h2 : (c.all fun z => decide (0 ≤ z.2 - (dgo s.kept z.1).getD 0) && decide (z.2 - (dgo s.kept z.1).getD 0 ≤ s.off)) = true := List.all_eq_true.mpr fun z hz => by
    have h1 := hc.lo z.1
    have h2 := hc.hi z.1
    rw [gs_mem hc.nd hz] at h1 h2
    rw [dk h, Bool.and_eq_true, decide_eq_true_eq, decide_eq_true_eq]
    omega
  rw [h1, h2]
  show decide (sv c = s.many) = true
  rw [hc.sum, lost_eq, decide_eq_true_eq]
  omega
theorem rit_false {s : Sk} {c : List (Str × Int)} (h : sv c ≠ s.many) : ritL s c = false := by
  unfold ritL
  split
  · rfl
  · split
    · rfl
    · exact decide_eq_false h
/-! one more of a name -/
theorem more_ok {s : Sk} (h : Sm s) {c : List (Str × Int)} (hc : Tr s c) (hn : ∀ n ∈ ks c, NameOk n) (hl : c.length ≤ 900) {n : Str} (hno : NameOk n) : CountsOk (srtP (putI c n ((dgo c n).getD 0 + 1))) ∧ ritL s (srtP (putI c n ((dgo c n).getD 0 + 1))) = false ∧ ((putI c n ((dgo c n).getD 0 + 1)).map (·.1)).Nodup ∧ (putI c n ((dgo c n).getD 0 + 1)).length ≤ 1000 := by
  have hnd : (ks (put c n (gs c n + 1))).Nodup := nd_put _ _ hc.nd
  have hlen : (putI c n ((dgo c n).getD 0 + 1)).length ≤ 1000 := by
    have := putI_len c n ((dgo c n).getD 0 + 1)
    omega
  rw [dgo_gs hc.nd, putI_put] at *
  have hp := srtP_perm (put c n (gs c n + 1))
  refine ⟨⟨fun p hp' => ?_, srtP_asc hnd, by rw [hp.length_eq]; exact hlen⟩, rit_false ?_, hnd, hlen⟩
  · have hm := hp.mem_iff.mp hp'
    refine ⟨?_, ?_⟩
    · rcases mem_ks_put.mp (mem_ks hm) with e | e
      · rw [e]
        exact hno
      · exact hn _ e
    · have h1 := gs_mem hnd hm
      have h2 := gs_nn hc.pos.nn n
      rw [gs_put _ _ _ hc.nd] at h1
      split at h1
      · omega
      · rename_i hne
        have hk : p.1 ∈ ks c := by
          rcases mem_ks_put.mp (mem_ks hm) with e | e
          · exact absurd e.symm hne
          · exact e
        have := (gs_pos hc.nd hc.pos).mp hk
        omega
  · rw [sv_perm hp, sv_put _ _ hc.nd, hc.sum, lost_eq]
    omega
/-! alike truths answer alike -/
theorem val_alike {c t : List (Str × Int)} (hc : (ks c).Nodup) (ht : (ks t).Nodup) (h : ∀ n ∈ NM5, gs t n = gs c n) (hp : (t.map (·.2)).Perm (c.map (·.2))) {q : Qn} (h5 : ∀ n ∈ namesQ q, n ∈ NM5) : valL t q = valL c q := by
  have hd : ∀ n ∈ NM5, (dgo t n).getD 0 = (dgo c n).getD 0 := fun n hn => by rw [dgo_gs hc, dgo_gs ht, h n hn]
  cases q with
  | count n => exact congrArg List.sum (List.map_congr_left fun m hm => hd m (h5 m hm))
  | lot ns => exact congrArg List.sum (List.map_congr_left fun m hm => hd m (h5 m hm))
  | apart a b =>
    show (dgo t a).getD 0 - (dgo t b).getD 0 = (dgo c a).getD 0 - (dgo c b).getD 0
    rw [hd a (h5 a (by simp [namesQ])), hd b (h5 b (by simp [namesQ]))]
  | place n =>
    show 1 + ((t.filter fun z => decide ((dgo t n).getD 0 < z.2)).length : Int) = 1 + ((c.filter fun z => decide ((dgo c n).getD 0 < z.2)).length : Int)
    rw [hd n (h5 n (by simp [namesQ])), filV t fun v => decide ((dgo c n).getD 0 < v), filV c fun v => decide ((dgo c n).getD 0 < v), (hp.filter _).length_eq]
  | first m =>
    show ((cutA (revS (t.map fun z => z.2)) none (some m)).map fun z => z).sum = ((cutA (revS (c.map fun z => z.2)) none (some m)).map fun z => z).sum
    rw [revS_permEq hp]
  | unlike =>
    show (t.length : Int) = c.length
    have := hp.length_eq
    rw [List.length_map, List.length_map] at this
    rw [this]
  | squares => rw [val_sq, val_sq, perm_sum (hp.map fun v => v * v)]
/-- the list of all truths -/
abbrev TS (s : Sk) : List (List (Str × Int)) := trL 13 s.off s.kept (lostL s)
section
variable {s : Sk}
theorem Sm.li (h : Sm s) {c : List (Str × Int)} (hc : c ∈ TS s) : Listed s.off (lostL s) s.kept c := listed h.sk.o0 h.l12.1 h.l12.2 h.kp hc
theorem Listed.ok {off lost : Int} {kept c : List (Str × Int)} (l : Listed off lost kept c) : ∀ n ∈ ks c, NameOk n := fun n hn => by
  rcases l.nm n hn with h | ⟨i, hi, rfl⟩
  · exact ok5 n h
  · exact okY i hi
theorem min_is (h : Sm s) {q : Qn} (hq : QnOk q) (h5 : ∀ n ∈ namesQ q, n ∈ NM5) : (∃ t ∈ TS s, valL t q = (endsQ s q).1) ∧ (∃ t ∈ TS s, valL t q = (endsQ s q).2) := by
  obtain ⟨⟨t1, e1⟩, t2, e2⟩ := ends_taken h hq h5
  obtain ⟨a, ha, ha1, ha2⟩ := alike h.sk.o0 h.l12.1 h.l12.2 h.kp t1
  obtain ⟨b, hb, hb1, hb2⟩ := alike h.sk.o0 h.l12.1 h.l12.2 h.kp t2
  exact ⟨⟨a, ha, by rw [val_alike t1.nd (h.li ha).tr.nd ha1 ha2 h5, e1]⟩, b, hb, by rw [val_alike t2.nd (h.li hb).tr.nd hb1 hb2 h5, e2]⟩
theorem ends_min (h : Sm s) {q : Qn} (hq : QnOk q) (h5 : ∀ n ∈ namesQ q, n ∈ NM5) : minL ((TS s).map fun c => valL c q) = (endsQ s q).1 ∧ maxL ((TS s).map fun c => valL c q) = (endsQ s q).2 := by
  obtain ⟨⟨a, ha, ea⟩, b, hb, eb⟩ := min_is h hq h5
  constructor
  · refine (minL_is _ _ (List.mem_map.mpr ⟨a, ha, ea⟩) fun y hy => ?_).symm
    obtain ⟨c, hc, rfl⟩ := List.mem_map.mp hy
    exact (bound h hq (h.li hc).tr).1
  · refine (maxL_is _ _ (List.mem_map.mpr ⟨b, hb, eb⟩) fun y hy => ?_).symm
    obtain ⟨c, hc, rfl⟩ := List.mem_map.mp hy
    exact (bound h hq (h.li hc).tr).2
theorem ts_ne (h : Sm s) : TS s ≠ [] := by
  obtain ⟨⟨a, ha, _⟩, _⟩ := min_is h (q := .unlike) trivial (fun n hn => (nomatch hn))
  exact List.ne_nil_of_mem ha
theorem ts_len (h : Sm s) : (TS s).length ≤ 10000 := by
  have h1 := trF_len s.off h.sk.o2 NM5 [([], lostL s)]
  have h2 : (TS s).length ≤ (trRows s.off (lostL s)).length * 13 := flatMap_len fun r hr => by
    rw [List.length_map]
    have hr := row_is h.sk.o0 h.l12.1 hr
    have h3 := partL_len 13 r.2 s.off hr.2.2.1 h.sk.o2
    have h4 := sv_nn (row_nn hr)
    have h5 := hr.2.2.2
    have h6 := h.l12.2
    omega
  have h3 : (trRows s.off (lostL s)).length ≤ 1 * 3 ^ 5 := h1
  omega
/-! surely and perhaps above -/
theorem kept_ok (h : Sm s) {n : Str} (hn : n ∈ ks s.kept) : NameOk n := ok5 n (h.kp.sub5 hn)
theorem cnt_val (c : List (Str × Int)) (n : Str) : valL c (.count n) = (dgo c n).getD 0 := by
  show ([n].map fun z => (dgo c z).getD 0).sum = _
  simp
theorem all_above (h : Sm s) {n : Str} (hn : n ∈ ks s.kept) (m : Int) : ((TS s).all fun c => decide (m < (dgo c n).getD 0)) = decide (m < gs s.kept n) := by
  rw [Bool.eq_iff_iff, List.all_eq_true, decide_eq_true_eq]
  constructor
  · intro hh
    obtain ⟨⟨t, ht, e⟩, _⟩ := min_is h (q := .count n) (kept_ok h hn) (fun x hx => by rw [List.mem_singleton.mp hx]; exact h.kp.sub5 hn)
    have h1 := of_decide_eq_true (hh t ht)
    rw [cnt_val, show endsQ s (.count n) = lotE s [n] from rfl, lotE_one h] at e
    omega
  · intro hh c hc
    have l := (h.li hc).tr
    rw [dgo_gs l.nd, decide_eq_true_eq]
    have := l.lo n
    omega
theorem any_above (h : Sm s) {n : Str} (hn : n ∈ ks s.kept) (m : Int) : ((TS s).any fun c => decide (m < (dgo c n).getD 0)) = decide (m < gs s.kept n + s.off) := by
  rw [Bool.eq_iff_iff, List.any_eq_true, decide_eq_true_eq]
  constructor
  · rintro ⟨c, hc, e⟩
    have e := of_decide_eq_true e
    have l := (h.li hc).tr
    rw [dgo_gs l.nd] at e
    have := l.hi n
    omega
  · intro hh
    obtain ⟨_, t, ht, e⟩ := min_is h (q := .count n) (kept_ok h hn) (fun x hx => by rw [List.mem_singleton.mp hx]; exact h.kp.sub5 hn)
    refine ⟨t, ht, decide_eq_true ?_⟩
    rw [cnt_val, show endsQ s (.count n) = lotE s [n] from rfl, lotE_one h] at e
    have := h.ol
    have e : (dgo t n).getD 0 = gs s.kept n + min s.off (lostL s) := e
    omega
theorem ya_out (h : Sm s) : gs s.kept "ya" = 0 := gs_notin fun hm => by
  have := h.kp.sub5 hm
  rw [← ya0] at this
  exact nm5_y 0 this
/-- the truth with as much as can be in the first new name, nothing taken from others -/
theorem ya_most (h : Sm s) (ho : 0 < s.off) : ∃ t ∈ TS s, gs t "ya" = s.off ∧ ∀ z ∈ t, z.2 ≤ s.off ∨ z ∈ s.kept := by
  have hol := h.ol
  have hs := (h.szo (by omega)).1
  have hr := row_mem (off := s.off) (f := fun _ => 0) (fun n => ⟨Int.le_refl _, h.sk.o0⟩) NM5 [([], lostL s)] [] (lostL s) (List.mem_singleton.mpr rfl) (by rw [sum_map_const]; have := h.l12; omega)
  rw [List.nil_append, sum_map_const, Int.mul_zero, Int.sub_zero] at hr
  have hri := row_is h.sk.o0 h.l12.1 hr
  have h0 := h.l12.1
  have hp := part_mem 13 (cutV s.off (lostL s)) s.off (by rw [cutV_sum hs h0]; have := h.l12.2; omega) (fun v hv => cutV_mem hs h0 hv) (by
    unfold cutV
    rw [List.pairwise_append]
    refine ⟨List.pairwise_replicate.mpr (.inr (Int.le_refl _)), ?_, fun a ha b hb => ?_⟩
    · split
      · exact List.Pairwise.nil
      · exact List.pairwise_singleton _ _
    · rw [(List.mem_replicate.mp ha).2]
      split at hb
      · cases hb
      · rw [List.mem_singleton.mp hb]
        rcases hs with e | e <;> rw [e] <;> omega)
  rw [cutV_sum hs h0] at hp
  obtain ⟨e, hsub⟩ := trOne_eq h.kp hri (p := cutV s.off (lostL s)) fun v hv => (cutV_mem hs h0 hv).1
  have hnn : Nn (add s.kept (NM5.map fun n => (n, (0 : Int)))) := nn_add _ h.kp.nd h.kp.pos.nn (row_nn hri)
  refine ⟨_, List.mem_flatMap.mpr ⟨_, hr, List.mem_map.mpr ⟨_, hp, rfl⟩⟩, ?_, fun z hz => ?_⟩
  · show gs (trOne s.kept _ _) "ya" = _
    rw [e, gs_append, gs_ps hnn, gs_add _ _ h.kp.nd, ya_out h, gs_mapf (fun _ => 0) NM5 _ nm5_nd]
    have hq : (0 : Nat) < (cutV s.off (lostL s)).length := by
      unfold cutV
      rw [List.length_append, List.length_replicate]
      have : 1 ≤ lostL s / s.off := by rcases hs with e | e <;> rw [e] at hol ⊢ <;> omega
      omega
    have hm : (("ya" : Str), s.off) ∈ yL (cutV s.off (lostL s)) := by
      refine List.mem_map.mpr ⟨0, List.mem_range.mpr hq, ?_⟩
      rw [ya0]
      congr 1
      unfold cutV
      have : (lostL s / s.off).toNat = ((lostL s / s.off).toNat - 1) + 1 := by
        have : 1 ≤ lostL s / s.off := by rcases hs with e | e <;> rw [e] at hol ⊢ <;> omega
        omega
      rw [this, List.replicate_succ]
      rfl
    have := gs_mem (yL_nd _) hm
    rw [show gs (yL (cutV s.off (lostL s))) "ya" = s.off from this]
    split <;> omega
  · have hz : z ∈ trOne s.kept (NM5.map fun n => (n, (0 : Int))) (cutV s.off (lostL s)) := hz
    rw [e] at hz
    rcases List.mem_append.mp hz with hz | hz
    · right
      have hz2 := (List.mem_filter.mp hz).1
      have h1 := gs_mem (nd_add _ h.kp.nd) hz2
      rw [gs_add _ _ h.kp.nd, gs_mapf (fun _ => 0) NM5 _ nm5_nd] at h1
      have h2 := pos_ps _ z hz
      have h3 : gs s.kept z.1 = z.2 := by split at h1 <;> omega
      have h4 : z.1 ∈ ks s.kept := mem_of_gs (by omega)
      have h5 := mem_gs h.kp.nd h4
      rw [h3] at h5
      exact h5
    · left
      exact (cutV_mem hs h0 (yL_mem hz)).2
theorem any_new (h : Sm s) {m : Int} (hm : 0 ≤ m) : decide (m < s.off) = (TS s).any fun c => decide (m < (dgo c "ya").getD 0) := by
  rw [Bool.eq_iff_iff, List.any_eq_true, decide_eq_true_eq]
  constructor
  · intro hh
    obtain ⟨t, ht, e, _⟩ := ya_most h (by omega)
    refine ⟨t, ht, decide_eq_true ?_⟩
    rw [dgo_gs (h.li ht).tr.nd]
    omega
  · rintro ⟨c, hc, e⟩
    have e := of_decide_eq_true e
    have l := (h.li hc).tr
    rw [dgo_gs l.nd] at e
    have := l.hi "ya"
    rw [ya_out h] at this
    omega
theorem fil_keys {p : Str × Int → Bool} {q : Str → Bool} : ∀ (l : List (Str × Int)), (∀ z ∈ l, p z = q z.1) → (l.filter p).map (·.1) = (l.map (·.1)).filter q
  | [], _ => rfl
  | a :: r, h => by
    rw [List.map_cons, List.filter_cons, List.filter_cons, h a List.mem_cons_self, ← fil_keys r fun z hz => h z (List.mem_cons_of_mem _ hz)]
    split <;> rfl
theorem rising_pw : ∀ (r : List Str) (p : Str), PyProof.Rows.risingS p r = true → (p :: r).Pairwise fun a b => a.cps.toList ≤ b.cps.toList
  | [], p, _ => List.pairwise_singleton _ _
  | x :: r, p, h => by
    have h : (!ltCps x.cps.toList p.cps.toList && PyProof.Rows.risingS x r) = true := h
    rw [Bool.and_eq_true, PyProof.Rows.ltCps_eq, Bool.not_eq_true', decide_eq_false_iff_not] at h
    have ih := rising_pw r x h.2
    have h1 : p.cps.toList ≤ x.cps.toList := List.not_lt.mp h.1
    rw [List.pairwise_cons]
    refine ⟨fun b hb => ?_, ih⟩
    rcases List.mem_cons.mp hb with e | hb
    · rw [e]
      exact h1
    · exact List.le_trans h1 ((List.pairwise_cons.mp ih).1 b hb)
theorem sorted_pw : ∀ (r : List Str), PyProof.Rows.sortedS r = true → r.Pairwise fun a b => a.cps.toList ≤ b.cps.toList
  | [], _ => List.Pairwise.nil
  | x :: r, h => rising_pw r x h
theorem sorted_one {ys zs : List Str} (hp : ys.Perm zs) (hs : PyProof.Rows.sortedS ys = true) (ha : AscS zs) : ys = zs :=
  List.Perm.eq_of_pairwise (le := fun a b : Str => a.cps.toList ≤ b.cps.toList) (fun a b _ _ h1 h2 => str_ext (List.le_antisymm h1 h2)) (sorted_pw ys hs) (ha.imp fun h => List.le_of_lt (of_decide_eq_true h)) hp
theorem tl_ok (h : Sm s) : TlOk (TS s) s.kept := by
  refine ⟨ts_len h, fun c hc => (h.li hc).tr.nd, fun c hc => by have := (h.li hc).len; omega, fun c hc n hn => ?_, by have := h.kp.len; omega, fun ys hp hs => sorted_one hp hs h.sk.co.2.1⟩
  have l := (h.li hc).tr
  have h1 := (gs_pos h.kp.nd h.kp.pos).mp hn
  have h2 := l.lo n
  exact mem_of_gs (by omega)
theorem ab_ok (h : Sm s) {m : Int} (hm : 0 ≤ m) : AbOk s (TS s) s.kept m := by
  refine ⟨tl_ok h, h.sk, hm, fil_keys _ fun z hz => ?_, fil_keys _ fun z hz => ?_, any_new h hm⟩
  · rw [all_above h (mem_ks hz), gs_mem h.kp.nd hz]
  · rw [any_above h (mem_ks hz), gs_mem h.kp.nd hz]
end
end KD

set_option Elab.async false
set_option linter.all false
set_option maxRecDepth 100000
/-! MK: who is first. -/
namespace KD
open PySem PySem.Spec L2 KM
local instance : Vol := volNone
theorem maxL_le {x : Int} : ∀ {l : List Int}, l ≠ [] → (maxL l ≤ x ↔ ∀ y ∈ l, y ≤ x)
  | [], h => absurd rfl h
  | [a], _ => by
    show a ≤ x ↔ _
    simp
  | a :: b :: r, _ => by
    have ih := maxL_le (x := x) (l := b :: r) (by simp)
    show max a (maxL (b :: r)) ≤ x ↔ _
    rw [List.forall_mem_cons, ← ih]
    omega
theorem filter_one {α : Type} {p : α → Bool} {a : α} : ∀ {l : List α}, l.Nodup → a ∈ l → p a = true → (∀ b ∈ l, p b = true → b = a) → l.filter p = [a]
  | [], _, h, _, _ => nomatch h
  | b :: r, hn, ha, hp, h => by
    rw [List.nodup_cons] at hn
    rw [List.filter_cons]
    by_cases e : b = a
    · subst e
      rw [if_pos hp]
      congr 1
      refine List.filter_eq_nil_iff.mpr fun c hc hpc => ?_
      have := h c (List.mem_cons_of_mem _ hc) hpc
      exact hn.1 (this ▸ hc)
    · rw [if_neg fun z => e (h b List.mem_cons_self z)]
      exact filter_one hn.2 ((List.mem_cons.mp ha).resolve_left fun z => e z.symm) hp fun c hc => h c (List.mem_cons_of_mem _ hc)
section
variable {s : Sk}
theorem new5 : ("new" : Str) ∈ NM5 := by decide +kernel
theorem new_out (h : Sm s) : ("new" : Str) ∉ ks s.kept := fun hm => by
  have := h.kp.sub _ hm
  revert this
  decide +kernel
theorem fs_iff (h : Sm s) {n : Str} (hn : n ∈ ks s.kept) : fsB (TS s) n = true ↔ ∀ m ∈ NM5, m ≠ n → gs s.kept m + s.off < gs s.kept n := by
  unfold fsB
  rw [List.all_eq_true]
  have hnp := (gs_pos h.kp.nd h.kp.pos).mp hn
  constructor
  · intro hh m hm hne
    refine Decidable.byContradiction fun hlt => ?_
    obtain ⟨⟨t, ht, e⟩, _⟩ := min_is h (q := .apart n m) ⟨kept_ok h hn, ok5 m hm, fun z => hne z.symm⟩ (fun x hx => by
      simp only [namesQ, List.mem_cons, List.not_mem_nil, or_false] at hx
      rcases hx with rfl | rfl
      · exact h.kp.sub5 hn
      · exact hm)
    have l := (h.li ht).tr
    have e : (dgo t n).getD 0 - (dgo t m).getD 0 = (lotE s [n]).1 - (lotE s [m]).2 := e
    rw [lotE_one h, lotE_one h, dgo_gs l.nd, dgo_gs l.nd] at e
    have h1 := l.lo n
    have h2 := h.ol
    have e : gs t n - gs t m = gs s.kept n - (gs s.kept m + min s.off (lostL s)) := e
    have hmk : m ∈ ks t := mem_of_gs (by omega)
    have h3 := List.all_eq_true.mp (hh t ht) (m, gs t m) (List.mem_filter.mpr ⟨mem_gs l.nd hmk, by simpa using hne⟩)
    have h3 := of_decide_eq_true h3
    rw [dgo_gs l.nd] at h3
    have h3 : gs t m < gs t n := h3
    omega
  · intro hh c hc
    have l := (h.li hc).tr
    rw [List.all_eq_true]
    intro z hz
    obtain ⟨hz, hne⟩ := List.mem_filter.mp hz
    have hne : z.1 ≠ n := by simpa using hne
    rw [decide_eq_true_eq, dgo_gs l.nd]
    have h1 := l.hi z.1
    rw [gs_mem l.nd hz] at h1
    have h2 := l.lo n
    by_cases hm : z.1 ∈ ks s.kept
    · have := hh z.1 (h.kp.sub5 hm) hne
      omega
    · rw [gs_notin hm] at h1
      have := hh "new" new5 fun e => new_out h (by rw [e]; exact hn)
      rw [gs_notin (new_out h)] at this
      omega
/-- the kept names by counts -/
theorem bc_sorted (h : Sm s) : (bcL s).Pairwise fun a b => gs s.kept b ≤ gs s.kept a := by
  have := revS_ord (s.kept.map (·.2))
  rw [← bc_vals h, List.pairwise_map] at this
  exact this
theorem first_is (h : Sm s) : (if (decide (((bcL s).length : Int) = 0)) = true then D.non else (if (decide (((if (decide (1 < ((bcL s).length : Int))) = true then (dgo s.kept ((bcL s).getD 1 "")).getD 0 else 0) + s.off) < ((dgo s.kept ((bcL s).getD 0 "")).getD 0))) = true then (D.str ((bcL s).getD 0 "")) else D.non)) =
    (if (!PyData.eqv (toP (.lst (((KS s.kept).filter (fsB (TS s))).map D.str))) (toP (.lst []))) = true then (D.str (((KS s.kept).filter (fsB (TS s))).headD "")) else D.non) := by
  have hkn : (KS s.kept).Nodup := h.kp.nd
  have hb := bc_sorted h
  have hp := bcL_perm s
  have hbn := bc_nd h
  have none : (∀ n ∈ KS s.kept, fsB (TS s) n ≠ true) → (if (!PyData.eqv (toP (.lst (((KS s.kept).filter (fsB (TS s))).map D.str))) (toP (.lst []))) = true then (D.str (((KS s.kept).filter (fsB (TS s))).headD "")) else D.non) = D.non := fun hh => by
    rw [List.filter_eq_nil_iff.mpr hh]
    rw [if_neg (by decide)]
  have one : ∀ n, (KS s.kept).filter (fsB (TS s)) = [n] → (if (!PyData.eqv (toP (.lst (((KS s.kept).filter (fsB (TS s))).map D.str))) (toP (.lst []))) = true then (D.str (((KS s.kept).filter (fsB (TS s))).headD "")) else D.non) = D.str n := fun n hh => by
    rw [hh]
    rw [if_pos (by simp [toP, toPs, PyData.eqv, PyData.eqvAll])]
    rfl
  rw [dk h, dk h]
  generalize bcL s = bs at *
  cases bs with
  | nil =>
    rw [if_pos (by simp)]
    refine (none fun n hn => ?_).symm
    exact absurd (hp.mem_iff.mpr hn) (by simp)
  | cons a r =>
    have ha : a ∈ ks s.kept := hp.mem_iff.mp List.mem_cons_self
    rw [List.pairwise_cons] at hb
    rw [List.nodup_cons] at hbn
    rw [if_neg (by simp; omega)]
    show (if decide ((if decide (1 < ((a :: r).length : Int)) = true then gs s.kept ((a :: r).getD 1 "") else 0) + s.off < gs s.kept a) = true then D.str a else D.non) = _
    have oth : ∀ n ∈ ks s.kept, n ≠ a → fsB (TS s) n ≠ true := fun n hn hne he => by
      have := (fs_iff h hn).mp he a (h.kp.sub5 ha) fun e => hne e.symm
      have h2 := hb.1 n ((List.mem_cons.mp (hp.mem_iff.mpr hn)).resolve_left hne)
      have := h.sk.o0
      omega
    cases r with
    | nil =>
      have e1 : decide (1 < (([a] : List Str).length : Int)) = false := decide_eq_false (by rw [List.length_singleton]; decide)
      rw [e1, if_neg Bool.false_ne_true]
      by_cases q : 0 + s.off < gs s.kept a
      · rw [if_pos (decide_eq_true q)]
        refine (one a (filter_one hkn ha ((fs_iff h ha).mpr fun m hm hne => ?_) fun n hn he => Decidable.byContradiction fun z => oth n hn z he)).symm
        rw [gs_notin fun hk => hne (by simpa using hp.mem_iff.mpr hk)]
        omega
      · rw [if_neg (by rw [decide_eq_true_eq]; exact q)]
        refine (none fun n hn he => ?_).symm
        by_cases e : n = a
        · subst e
          have := (fs_iff h hn).mp he "new" new5 fun e => new_out h (by rw [e]; exact hn)
          rw [gs_notin (new_out h)] at this
          omega
        · exact oth n hn e he
    | cons b r =>
      have e1 : decide (1 < ((a :: b :: r).length : Int)) = true := decide_eq_true (by rw [List.length_cons, List.length_cons]; omega)
      rw [e1, if_pos rfl]
      show (if decide (gs s.kept b + s.off < gs s.kept a) = true then D.str a else D.non) = _
      have hbk : b ∈ ks s.kept := hp.mem_iff.mp (by simp)
      have hne : b ≠ a := fun e => hbn.1 (by rw [← e]; exact List.mem_cons_self)
      by_cases q : gs s.kept b + s.off < gs s.kept a
      · rw [if_pos (decide_eq_true q)]
        refine (one a (filter_one hkn ha ((fs_iff h ha).mpr fun m hm hne => ?_) fun n hn he => Decidable.byContradiction fun z => oth n hn z he)).symm
        have hb0 := gs_nn h.kp.pos.nn b
        by_cases hk : m ∈ ks s.kept
        · have hm2 := (List.mem_cons.mp (hp.mem_iff.mpr hk)).resolve_left hne
          rcases List.mem_cons.mp hm2 with e | hm3
          · rw [e]
            exact q
          · have := (List.pairwise_cons.mp hb.2).1 m hm3
            omega
        · rw [gs_notin hk]
          omega
      · rw [if_neg (by rw [decide_eq_true_eq]; exact q)]
        refine (none fun n hn he => ?_).symm
        by_cases e : n = a
        · subst e
          have := (fs_iff h hn).mp he b (h.kp.sub5 hbk) hne
          omega
        · exact oth n hn e he
theorem fp_iff (h : Sm s) {n : Str} (hn : n ∈ ks s.kept) : fpB (TS s) n = decide (maxL ((s.kept.map fun z => z.2) ++ [0]) ≤ gs s.kept n + s.off) := by
  unfold fpB
  rw [Bool.eq_iff_iff, List.any_eq_true, decide_eq_true_eq, maxL_le (by simp)]
  have hnp := (gs_pos h.kp.nd h.kp.pos).mp hn
  constructor
  · rintro ⟨t, ht, e⟩ y hy
    have l := (h.li ht).tr
    rcases List.mem_append.mp hy with hy | hy
    · obtain ⟨z, hz, rfl⟩ := List.mem_map.mp hy
      have hzk : z.1 ∈ ks t := (tl_ok h).has t ht _ (mem_ks hz)
      have h1 := of_decide_eq_true (List.all_eq_true.mp e _ (mem_gs l.nd hzk))
      rw [dgo_gs l.nd] at h1
      have h1 : gs t z.1 ≤ gs t n := h1
      have h2 := l.lo z.1
      rw [gs_mem h.kp.nd hz] at h2
      have h3 := l.hi n
      omega
    · rw [List.mem_singleton.mp hy]
      have := h.sk.o0
      omega
  · intro hh
    obtain ⟨⟨t, ht, e⟩, _⟩ := min_is h (q := .place n) (kept_ok h hn) (fun x hx => by rw [List.mem_singleton.mp hx]; exact h.kp.sub5 hn)
    refine ⟨t, ht, ?_⟩
    rw [show endsQ s (.place n) = plE s n from rfl, plE1 h] at e
    have e : 1 + ((t.filter fun z => decide ((dgo t n).getD 0 < z.2)).length : Int) = 1 + ((s.kept.filter fun z => decide (gs s.kept n + s.off < z.2)).length : Int) := e
    have h1 : (s.kept.filter fun z => decide (gs s.kept n + s.off < z.2)) = [] := List.filter_eq_nil_iff.mpr fun z hz => by
      rw [decide_eq_true_eq]
      have := hh z.2 (List.mem_append_left _ (List.mem_map.mpr ⟨z, hz, rfl⟩))
      omega
    rw [h1, List.length_nil] at e
    have h2 : t.filter (fun z => decide ((dgo t n).getD 0 < z.2)) = [] := List.length_eq_zero_iff.mp (by omega)
    rw [List.all_eq_true]
    intro z hz
    have := List.filter_eq_nil_iff.mp h2 z hz
    rw [decide_eq_true_eq] at this ⊢
    omega
theorem fn_iff (h : Sm s) : ((TS s).any fun z => decide ((maxL ((List.map (fun (z : Str × Int) => z.2) z) ++ [1])) ≤ ((dgo z "ya").getD 0))) = (decide (0 < s.off) && decide (maxL ((s.kept.map fun z => z.2) ++ [0]) ≤ s.off)) := by
  rw [Bool.eq_iff_iff, List.any_eq_true, Bool.and_eq_true, decide_eq_true_eq, decide_eq_true_eq, maxL_le (by simp)]
  constructor
  · rintro ⟨t, ht, e⟩
    have l := (h.li ht).tr
    have e := (maxL_le (by simp)).mp (of_decide_eq_true e)
    rw [dgo_gs l.nd] at e
    have h1 := l.hi "ya"
    rw [ya_out h] at h1
    have h2 := e 1 (by simp)
    refine ⟨by omega, fun y hy => ?_⟩
    rcases List.mem_append.mp hy with hy | hy
    · obtain ⟨z, hz, rfl⟩ := List.mem_map.mp hy
      have hzk : z.1 ∈ ks t := (tl_ok h).has t ht _ (mem_ks hz)
      have h3 := e (gs t z.1) (List.mem_append_left _ (List.mem_map.mpr ⟨_, mem_gs l.nd hzk, rfl⟩))
      have h4 := l.lo z.1
      rw [gs_mem h.kp.nd hz] at h4
      omega
    · rw [List.mem_singleton.mp hy]
      omega
  · rintro ⟨h1, h2⟩
    obtain ⟨t, ht, e, hz⟩ := ya_most h h1
    have l := (h.li ht).tr
    refine ⟨t, ht, decide_eq_true ((maxL_le (by simp)).mpr fun y hy => ?_)⟩
    rw [dgo_gs l.nd, e]
    rcases List.mem_append.mp hy with hy | hy
    · obtain ⟨z, hz2, rfl⟩ := List.mem_map.mp hy
      rcases hz z hz2 with q | q
      · exact q
      · exact h2 z.2 (List.mem_append_left _ (List.mem_map.mpr ⟨z, q, rfl⟩))
    · rw [List.mem_singleton.mp hy]
      omega
theorem perhaps_is (h : Sm s) : (D.tup [(if (decide (s.many = 0)) = true then (D.tup []) else (D.tup ((s.kept.filter fun x4 => decide ((maxL ((List.map (fun (z : Str × Int) => z.2) s.kept) ++ [0])) ≤ (x4.2 + s.off))).map (fun z => (.str z.1))))), (.bl (if (decide (s.many = 0)) = true then false else (decide (0 < s.off) && decide ((maxL ((List.map (fun (z : Str × Int) => z.2) s.kept) ++ [0])) ≤ s.off))))]) =
    .tup [(.tup (((KS s.kept).filter (fpB (TS s))).map D.str)), (.bl ((TS s).any fun z => decide ((maxL ((List.map (fun (z : Str × Int) => z.2) z) ++ [1])) ≤ ((dgo z "ya").getD 0))))] := by
  have e1 : (KS s.kept).filter (fpB (TS s)) = (s.kept.filter fun x4 => decide ((maxL ((List.map (fun (z : Str × Int) => z.2) s.kept) ++ [0])) ≤ (x4.2 + s.off))).map (·.1) := by
    refine (fil_keys _ fun z hz => ?_).symm
    rw [fp_iff h (mem_ks hz), gs_mem h.kp.nd hz]
  rw [e1, fn_iff h]
  by_cases q : s.many = 0
  · rw [if_pos (decide_eq_true q), if_pos (decide_eq_true q)]
    have h1 := h.l12.1
    have h2 := sv_nn h.kp.pos.nn
    have h3 := lost_eq s
    have h4 := h.ol
    have h5 := h.sk.o0
    have h6 : s.off = 0 := by omega
    have h7 : s.kept = [] := by
      cases e : s.kept with
      | nil => rfl
      | cons a r =>
        have ha := h.kp.pos a (by rw [e]; exact List.mem_cons_self)
        have hr := sv_nn (d := r) fun z hz => Int.le_of_lt (h.kp.pos z (by rw [e]; exact List.mem_cons_of_mem _ hz))
        rw [e, sv_cons] at h2 h3
        omega
    rw [h7, h6]
    simp
  · rw [if_neg (by rw [decide_eq_true_eq]; exact q), if_neg (by rw [decide_eq_true_eq]; exact q), List.map_map]
    rfl
end
end KD

set_option Elab.async false
set_option linter.all false
set_option maxRecDepth 100000
/-! ML: papers. -/
namespace KD
open PySem PySem.Spec L2 KM
local instance : Vol := volNone
/-! repeated names -/
theorem repL_cons (p : Str × Int) (r : List (Str × Int)) : repL (p :: r) = List.replicate p.2.toNat p.1 ++ repL r := by
  have e : p :: r = [p] ++ r := rfl
  rw [e, repL_app]
  rfl
theorem count_repL {ts : List (Str × Int)} (h : Nn ts) (n : Str) : ((repL ts).count n : Int) = gs ts n := by
  induction ts with
  | nil => rfl
  | cons p r ih =>
    have h1 := h p List.mem_cons_self
    rw [repL_cons, List.count_append, gs_cons, Int.natCast_add, ih fun z hz => h z (List.mem_cons_of_mem _ hz), List.count_replicate]
    congr 1
    by_cases e : p.1 = n
    · rw [if_pos e, if_pos (by simpa using e)]
      omega
    · rw [if_neg e, if_neg (by simpa using e)]
      rfl
theorem len_repL {ts : List (Str × Int)} (h : Nn ts) : ((repL ts).length : Int) = sv ts := by
  induction ts with
  | nil => rfl
  | cons p r ih =>
    have h1 := h p List.mem_cons_self
    rw [repL_cons, List.length_append, sv_cons, Int.natCast_add, ih fun z hz => h z (List.mem_cons_of_mem _ hz), List.length_replicate]
    omega
theorem repL_ks {ts : List (Str × Int)} {n : Str} (h : n ∈ repL ts) : n ∈ ks ts := by
  induction ts with
  | nil => exact absurd h (by simp [repL])
  | cons p r ih =>
    rw [repL_cons, List.mem_append] at h
    rcases h with h | h
    · rw [(List.mem_replicate.mp h).2]
      exact List.mem_cons_self
    · exact List.mem_cons_of_mem _ (ih h)
/-- the same name never stands so far apart -/
theorem rep_far {off : Int} : ∀ (ts : List (Str × Int)) (k : Nat), (ks ts).Nodup → (∀ z ∈ ts, z.2 ≤ off) → ((repL ts).zipIdx k).Pairwise fun p q => p.2 < q.2 ∧ (p.1 = q.1 → (q.2 : Int) < p.2 + off)
  | [], k, _, _ => by simp [repL]
  | p :: r, k, hn, hb => by
    have hn : (p.1 :: ks r).Nodup := hn
    rw [List.nodup_cons] at hn
    rw [repL_cons, List.zipIdx_append, List.pairwise_append]
    refine ⟨?_, rep_far r _ hn.2 fun z hz => hb z (List.mem_cons_of_mem _ hz), fun a ha b hb2 => ?_⟩
    · have key : ∀ (m k : Nat), (m : Int) ≤ off ∨ m = 0 → ((List.replicate m p.1).zipIdx k).Pairwise fun p q => p.2 < q.2 ∧ (p.1 = q.1 → (q.2 : Int) < p.2 + off) := by
        intro m
        induction m with
        | zero => intro k _; simp
        | succ m ih =>
          intro k hm
          rw [List.replicate_succ, List.zipIdx_cons, List.pairwise_cons]
          refine ⟨fun q hq => ?_, ih _ (by omega)⟩
          obtain ⟨h1, h2, _⟩ := List.mem_zipIdx hq
          rw [List.length_replicate] at h2
          show k < q.2 ∧ (_ → (q.2 : Int) < (k : Int) + off)
          refine ⟨by omega, fun _ => ?_⟩
          omega
      have h1 := hb p List.mem_cons_self
      exact key _ _ (by omega)
    · obtain ⟨x, i⟩ := a
      obtain ⟨y, j⟩ := b
      have h1 := List.mem_zipIdx ha
      have h2 := List.mem_zipIdx hb2
      refine ⟨by show i < j; omega, fun e => ?_⟩
      exfalso
      have e : x = y := e
      have hx : x ∈ List.replicate p.2.toNat p.1 := by rw [h1.2.2]; exact List.getElem_mem _
      have hy : y ∈ repL r := by rw [h2.2.2]; exact List.getElem_mem _
      rw [(List.mem_replicate.mp hx).2] at e
      exact hn.1 (by rw [e]; exact repL_ks hy)
/-! layers -/
theorem layer_nd {ts : List (Str × Int)} {off : Nat} (hn : (ks ts).Nodup) (hb : ∀ z ∈ ts, z.2 ≤ (off : Int)) (j : Nat) : (((repL ts).zipIdx.filter fun q => decide (q.2 % off = j)).map (·.1)).Nodup := by
  rw [List.Nodup, List.pairwise_map]
  have h := (rep_far ts 0 hn hb).sublist (List.filter_sublist (p := fun q => decide (q.2 % off = j)))
  refine List.Pairwise.imp_of_mem (fun {a b} ha hb h e => ?_) h
  have h1 := of_decide_eq_true (List.mem_filter.mp ha).2
  have h2 := of_decide_eq_true (List.mem_filter.mp hb).2
  obtain ⟨h3, h4⟩ := h
  have h4 := h4 e
  have h5 : b.2 - a.2 < off := by omega
  have h6 : (b.2 - a.2) % off = 0 := (Nat.sub_mod_eq_zero_of_mod_eq (by rw [h1, h2]))
  rw [Nat.mod_eq_of_lt h5] at h6
  omega
theorem layer_len (seq : List Str) (off j : Nat) : ((seq.zipIdx.filter fun q => decide (q.2 % off = j)).map (·.1)).length = ((List.range seq.length).filter fun i => decide (i % off = j)).length := by
  have e : List.range seq.length = seq.zipIdx.map (·.2) := by rw [List.zipIdx_map_snd, List.range_eq_range']
  rw [e, List.filter_map, List.length_map, List.length_map]
  rfl
theorem lens2 : ∀ n, n ≤ 12 → ((List.range n).filter fun i => decide (i % 2 = 0)).length = (n + 1) / 2 ∧ ((List.range n).filter fun i => decide (i % 2 = 1)).length = n / 2 := by decide +kernel
theorem lens1 : ∀ n, n ≤ 12 → ((List.range n).filter fun i => decide (i % 1 = 0)).length = n := by decide +kernel
/-- what the layers of a truth are -/
structure Lays (s : Sk) (seq : List Str) (lays : List (List Str)) : Prop where
  n : lays.length = s.off.toNat
  nd : ∀ l ∈ lays, l.Nodup
  lo : ∀ l ∈ lays, s.room < (l.length : Int)
  hi : ∀ l ∈ lays, (l.length : Int) ≤ 2 * s.room
  flat : lays.flatten.Perm seq
theorem lays_is {s : Sk} (h : Sm s) {ts : List (Str × Int)} (hn : (ks ts).Nodup) (hb : ∀ z ∈ ts, 0 ≤ z.2 ∧ z.2 ≤ s.off) (hs : sv ts = lostL s) : Lays s (repL ts) (layL s.off.toNat (repL ts)) := by
  have hlen := len_repL (ts := ts) fun z hz => (hb z hz).1
  have h12 := h.l12
  have hl1 := h.sk.l1
  have hl2 := h.sk.l2
  have hr1 := h.sk.r1
  have hr3 := h.sk.r3
  rcases h.o with e | e | e
  · have hl := h.sk.off0 e
    have e0 : repL ts = [] := List.length_eq_zero_iff.mp (by omega)
    have e1 : layL s.off.toNat (repL ts) = [] := by rw [e]; rfl
    rw [e1]
    exact ⟨by rw [e]; rfl, fun l hl => (nomatch hl), fun l hl => (nomatch hl), fun l hl => (nomatch hl), by rw [e0]; exact List.Perm.refl _⟩
  · have e1 : layL s.off.toNat (repL ts) = [((repL ts).zipIdx.filter fun q => decide (q.2 % 1 = 0)).map (·.1)] := by rw [e]; rfl
    have e2 : (repL ts).zipIdx.filter (fun q => decide (q.2 % 1 = 0)) = (repL ts).zipIdx := List.filter_eq_self.mpr fun q _ => by rw [Nat.mod_one]; rfl
    have e3 : ((repL ts).zipIdx.filter fun q => decide (q.2 % 1 = 0)).map (·.1) = repL ts := by rw [e2, List.zipIdx_map_fst]
    have hnd := layer_nd (off := 1) hn (fun z hz => by have := (hb z hz).2; omega) 0
    rw [e3] at hnd
    rw [e1, e3]
    rw [e] at hl1 hl2
    refine ⟨by rw [e]; rfl, fun l hl => ?_, fun l hl => ?_, fun l hl => ?_, ?_⟩
    · rw [List.mem_singleton.mp hl]; exact hnd
    · rw [List.mem_singleton.mp hl]; omega
    · rw [List.mem_singleton.mp hl]; omega
    · simp
  · have e1 : layL s.off.toNat (repL ts) = [((repL ts).zipIdx.filter fun q => decide (q.2 % 2 = 0)).map (·.1), ((repL ts).zipIdx.filter fun q => decide (q.2 % 2 = 1)).map (·.1)] := by rw [e]; rfl
    have n0 := layer_nd (off := 2) hn (fun z hz => by have := (hb z hz).2; omega) 0
    have n1 := layer_nd (off := 2) hn (fun z hz => by have := (hb z hz).2; omega) 1
    have l0 := layer_len (repL ts) 2 0
    have l1 := layer_len (repL ts) 2 1
    obtain ⟨q0, q1⟩ := lens2 (repL ts).length (by omega)
    rw [q0] at l0
    rw [q1] at l1
    have hf : [((repL ts).zipIdx.filter fun q => decide (q.2 % 2 = 0)).map (·.1), ((repL ts).zipIdx.filter fun q => decide (q.2 % 2 = 1)).map (·.1)].flatten.Perm (repL ts) := by
      have e2 : (repL ts).zipIdx.filter (fun q => decide (q.2 % 2 = 1)) = (repL ts).zipIdx.filter (fun q => !decide (q.2 % 2 = 0)) := List.filter_congr fun q _ => by
        rw [Bool.eq_iff_iff]
        simp
      have hp := (List.filter_append_perm (fun q : Str × Nat => decide (q.2 % 2 = 0)) (repL ts).zipIdx).map (·.1)
      rw [List.zipIdx_map_fst, List.map_append] at hp
      rw [e2]
      simpa using hp
    rw [e1]
    rw [e] at hl1 hl2
    refine ⟨by rw [e]; rfl, fun l hl => ?_, fun l hl => ?_, fun l hl => ?_, hf⟩
    · rcases List.mem_cons.mp hl with rfl | hl
      · exact n0
      · rw [List.mem_singleton.mp hl]; exact n1
    · rcases List.mem_cons.mp hl with rfl | hl
      · omega
      · rw [List.mem_singleton.mp hl]; omega
    · rcases List.mem_cons.mp hl with rfl | hl
      · omega
      · rw [List.mem_singleton.mp hl]; omega
/-! counted -/
def cnt (l : List Str) : List (Str × Int) := l.foldl cntStep []
theorem cnt_from (l : List Str) : ∀ {d : List (Str × Int)}, (ks d).Nodup → Pos d → (ks (l.foldl cntStep d)).Nodup ∧ Pos (l.foldl cntStep d) ∧ ∀ n, gs (l.foldl cntStep d) n = gs d n + l.count n := by
  induction l with
  | nil => intro d h1 h2; exact ⟨h1, h2, fun n => by simp⟩
  | cons a r ih =>
    intro d h1 h2
    have e : cntStep d a = put d a (gs d a + 1) := by
      unfold cntStep
      rw [dgo_gs h1]
      rfl
    have h3 := nd_put a (gs d a + 1) h1
    have h0 := gs_nn h2.nn a
    have h4 : Pos (put d a (gs d a + 1)) := fun z hz => by
      have h5 := gs_mem h3 hz
      rw [gs_put _ _ _ h1] at h5
      split at h5
      · omega
      · rename_i hne
        have := (gs_pos h1 h2).mp ((mem_ks_put.mp (mem_ks hz)).resolve_left fun e => hne e.symm)
        omega
    rw [List.foldl_cons, e]
    obtain ⟨g1, g2, g3⟩ := ih h3 h4
    refine ⟨g1, g2, fun n => ?_⟩
    rw [g3, gs_put _ _ _ h1, List.count_cons]
    by_cases q : a = n
    · rw [if_pos q, if_pos (by simpa using q), q]
      omega
    · rw [if_neg q, if_neg (by simpa using q)]
      omega
def namesT : List Stp → List Str
  | [] => []
  | .stream ns :: r => ns ++ namesT r
  | .pour :: r => namesT r
theorem counted_names : ∀ (tree : List Stp) (d : List (Str × Int)), tree.foldl cntS d = (namesT tree).foldl cntStep d
  | [], d => rfl
  | .stream ns :: r, d => by
    rw [List.foldl_cons, counted_names r]
    show _ = (ns ++ namesT r).foldl cntStep d
    rw [List.foldl_append]
    rfl
  | .pour :: r, d => by
    rw [List.foldl_cons, counted_names r]
    rfl
theorem namesT_app : ∀ (a b : List Stp), namesT (a ++ b) = namesT a ++ namesT b
  | [], b => rfl
  | .stream ns :: r, b => by
    show ns ++ namesT (r ++ b) = _
    rw [namesT_app r b, ← List.append_assoc]
    rfl
  | .pour :: r, b => namesT_app r b
def layT (room : Int) (ns : List Str) : List Stp := [.stream (ns.take room.toNat), .stream (ns.drop room.toNat), .pour, .pour]
theorem paper_eq (s : Sk) (h0 : 0 ≤ s.room) (lays : List (List Str)) : paperS s lays = .stream (repL s.kept) :: lays.flatMap (layT s.room) := by
  have key : ∀ (lays : List (List Str)) (acc : List Stp), lays.foldl (fun acc ns => acc ++ layerS s.room ns ++ [.pour]) acc = acc ++ lays.flatMap (layT s.room) := by
    intro lays
    induction lays with
    | nil => intro acc; simp
    | cons l r ih =>
      intro acc
      rw [List.foldl_cons, ih, List.flatMap_cons]
      have e : layerS s.room l ++ [.pour] = layT s.room l := by
        unfold layerS layT
        rw [cutA_take _ h0, cutA_drop _ h0]
        rfl
      rw [List.append_assoc acc, e, List.append_assoc]
  unfold paperS
  rw [key]
  rfl
theorem names_lays (room : Int) (lays : List (List Str)) : namesT (lays.flatMap (layT room)) = lays.flatten := by
  induction lays with
  | nil => rfl
  | cons l r ih =>
    rw [List.flatMap_cons, namesT_app, ih, List.flatten_cons]
    congr 1
    show l.take room.toNat ++ (l.drop room.toNat ++ []) = l
    rw [List.append_nil, List.take_append_drop]
/-! led -/
theorem fed_run {room o : Int} {a : Str} : ∀ (k : Nat) {d : List (Str × Int)} {v : Int}, a ∉ ks d → (List.replicate k a).foldl (fedL room) (o, d ++ [(a, v)]) = (o, d ++ [(a, v + k)])
  | 0, d, v, _ => by simp
  | k + 1, d, v, h => by
    rw [List.replicate_succ, List.foldl_cons]
    have hm : a ∈ ks (d ++ [(a, v)]) := by
      unfold ks
      rw [List.map_append]
      simp
    have e1 : dgo (d ++ [(a, v)]) a = some v := by
      have : ∀ d : List (Str × Int), a ∉ ks d → dgo (d ++ [(a, v)]) a = some v := by
        intro d
        induction d with
        | nil => intro _; exact dgo_cons.trans (if_pos rfl)
        | cons q r ih =>
          intro hn
          rw [List.cons_append, dgo_cons, if_neg fun e => hn (by rw [← e]; exact List.mem_cons_self)]
          exact ih fun z => hn (List.mem_cons_of_mem _ z)
      exact this d h
    have e2 : fedL room (o, d ++ [(a, v)]) a = (o, d ++ [(a, v + 1)]) := by
      unfold fedL
      show (if ((dgo (d ++ [(a, v)]) a).isSome || _) = true then (o, putI (d ++ [(a, v)]) a ((dgo (d ++ [(a, v)]) a).getD 0 + 1)) else _) = _
      rw [e1, if_pos (by simp)]
      congr 1
      rw [putI_put, put_in _ hm, List.map_append, map_ne h]
      simp
    rw [e2, fed_run k h]
    have : v + 1 + (k : Int) = v + ((k + 1 : Nat) : Int) := by omega
    rw [this]
theorem fed_new {room o : Int} {a : Str} {k : Nat} {d : List (Str × Int)} (h : a ∉ ks d) (hl : (d.length : Int) < room) (hk : 1 ≤ k) : (List.replicate k a).foldl (fedL room) (o, d) = (o, d ++ [(a, (k : Int))]) := by
  obtain ⟨j, rfl⟩ : ∃ j, k = j + 1 := ⟨k - 1, by omega⟩
  rw [List.replicate_succ, List.foldl_cons]
  have e1 : dgo d a = none := by
    unfold dgo
    have : (d.find? fun q => decide (q.1 = a)) = none := List.find?_eq_none.mpr fun q hq e => h (by rw [← of_decide_eq_true e]; exact mem_ks hq)
    rw [this]
    rfl
  have e2 : fedL room (o, d) a = (o, d ++ [(a, 1)]) := by
    unfold fedL
    show (if ((dgo d a).isSome || decide ((d.length : Int) < room)) = true then (o, putI d a ((dgo d a).getD 0 + 1)) else _) = _
    rw [if_pos (by rw [decide_eq_true hl, Bool.or_true]), e1, putI_put, put_out _ h]
    rfl
  rw [e2, fed_run j h]
  have : (1 : Int) + (j : Int) = ((j + 1 : Nat) : Int) := by omega
  rw [this]
theorem stream_rep {room : Int} : ∀ (ts d : List (Str × Int)) (o : Int), (ks (d ++ ts)).Nodup → ((d ++ ts).length : Int) ≤ room → Pos ts → (repL ts).foldl (fedL room) (o, d) = (o, d ++ ts)
  | [], d, o, _, _, _ => by simp [repL]
  | p :: r, d, o, hn, hl, hp => by
    have h1 := hp p List.mem_cons_self
    have hn2 : p.1 ∉ ks d := fun hm => by
      unfold ks at hn hm
      rw [List.map_append, List.nodup_append] at hn
      exact hn.2.2 p.1 hm p.1 (by simp) rfl
    rw [repL_cons, List.foldl_append, fed_new hn2 (by rw [List.length_append, List.length_cons] at hl; omega) (by omega)]
    have e : (p.1, (p.2.toNat : Int)) = p := by
      rw [Int.toNat_of_nonneg (by omega)]
    rw [e, stream_rep r (d ++ [p]) o (by rw [List.append_assoc]; exact hn) (by rw [List.append_assoc]; exact hl) fun z hz => hp z (List.mem_cons_of_mem _ hz), List.append_assoc]
    rfl
def ones (l : List Str) : List (Str × Int) := l.map fun n => (n, (1 : Int))
theorem ks_ones (l : List Str) : ks (ones l) = l := by
  unfold ks ones
  rw [List.map_map]
  exact List.map_id' _
theorem repL_ones : ∀ l : List Str, repL (ones l) = l
  | [] => rfl
  | a :: r => by
    show repL ((a, 1) :: ones r) = _
    rw [repL_cons, repL_ones r]
    rfl
theorem stream_ones {room : Int} {l : List Str} (hn : l.Nodup) (hl : (l.length : Int) ≤ room) : streamL room l = (0, ones l) := by
  have := stream_rep (room := room) (ones l) [] 0 (by rw [List.nil_append, ks_ones]; exact hn) (by rw [List.nil_append]; unfold ones; rw [List.length_map]; exact hl) fun z hz => by
    obtain ⟨n, _, rfl⟩ := List.mem_map.mp hz
    show (0 : Int) < 1
    decide
  rw [repL_ones, List.nil_append] at this
  exact this
theorem pourD_out : ∀ (b a : List (Str × Int)), (ks (a ++ b)).Nodup → pourD a b = a ++ b
  | [], a, _ => by simp [pourD]
  | p :: r, a, hn => by
    have hn2 : p.1 ∉ ks a := fun hm => by
      unfold ks at hn hm
      rw [List.map_append, List.nodup_append] at hn
      exact hn.2.2 p.1 hm p.1 (by simp) rfl
    have e : pourD a (p :: r) = pourD (putI a p.1 ((dgo a p.1).getD 0 + p.2)) r := rfl
    have e1 : dgo a p.1 = none := by
      unfold dgo
      have : (a.find? fun q => decide (q.1 = p.1)) = none := List.find?_eq_none.mpr fun q hq e => hn2 (by rw [← of_decide_eq_true e]; exact mem_ks hq)
      rw [this]
      rfl
    rw [e, e1, putI_put, put_out _ hn2]
    have e2 : (p.1, (none : Option Int).getD 0 + p.2) = p := by
      show (p.1, 0 + p.2) = p
      rw [Int.zero_add]
    rw [e2, pourD_out r (a ++ [p]) (by rw [List.append_assoc]; exact hn), List.append_assoc]
    rfl
theorem pour_ones {room : Int} (h0 : 0 ≤ room) {a b : List Str} (hn : (a ++ b).Nodup) (hl : room < ((a ++ b).length : Int)) : pouredL room (0, ones a) (0, ones b) = (1, []) := by
  have e1 : pourD (ones a) (ones b) = ones (a ++ b) := by
    rw [pourD_out _ _ (by
      have : ones a ++ ones b = ones (a ++ b) := by unfold ones; rw [List.map_append]
      rw [this, ks_ones]
      exact hn)]
    unfold ones
    rw [List.map_append]
  have e2 : ∀ v ∈ srtI ((ones (a ++ b)).map fun z => -z.2), v = -1 := fun v hv => by
    have hv := (show (srtI _).Perm _ from List.mergeSort_perm _ _).mem_iff.mp hv
    obtain ⟨z, hz, rfl⟩ := List.mem_map.mp hv
    obtain ⟨n, _, rfl⟩ := List.mem_map.mp hz
    rfl
  have e3 : (srtI ((ones (a ++ b)).map fun z => -z.2)).length = (a ++ b).length := by
    rw [(show (srtI _).Perm _ from List.mergeSort_perm _ _).length_eq]
    unfold ones
    rw [List.length_map, List.length_map]
  have e4 : (srtI ((ones (a ++ b)).map fun z => -z.2)).getD room.toNat 0 = -1 := by
    rw [List.getD_eq_getElem?_getD, List.getElem?_eq_getElem (by rw [e3]; omega)]
    exact e2 _ (List.getElem_mem _)
  have e5 : (ones (a ++ b)).filter (fun z => decide (1 < z.2)) = [] := List.filter_eq_nil_iff.mpr fun z hz => by
    obtain ⟨n, _, rfl⟩ := List.mem_map.mp hz
    show ¬ decide ((1 : Int) < 1) = true
    decide
  unfold pouredL
  dsimp only
  rw [e1, e3, if_pos (decide_eq_true hl), e4]
  show (0 + 0 + 1, ((ones (a ++ b)).filter (fun z => decide (1 < z.2))).map _) = _
  rw [e5]
  rfl
theorem pour_base {room o : Int} {K : List (Str × Int)} (hl : (K.length : Int) ≤ room) (hp : Pos K) : pouredL room (o, K) (1, []) = (o + 1, K) := by
  have e3 : (srtI (K.map fun z => -z.2)).length = K.length := by
    rw [(show (srtI _).Perm _ from List.mergeSort_perm _ _).length_eq, List.length_map]
  unfold pouredL
  dsimp only
  have e1 : pourD K [] = K := rfl
  rw [e1, e3, if_neg (by rw [decide_eq_true_eq]; omega)]
  have e2 : K.filter (fun z => decide (0 < z.2)) = K := List.filter_eq_self.mpr fun z hz => decide_eq_true (hp z hz)
  rw [e2]
  have e4 : (K.map fun z => (z.1, z.2 - 0)) = K := by
    have := List.map_congr_left (f := fun z : Str × Int => (z.1, z.2 - 0)) (g := id) (l := K) fun z _ => by rw [Int.sub_zero]; rfl
    rw [this, List.map_id]
  rw [e4, Int.add_zero]
end KD

set_option Elab.async false
set_option linter.all false
set_option maxRecDepth 100000
/-! MM: the paper of a truth is right. -/
namespace KD
open PySem PySem.Spec L2 KM
local instance : Vol := volNone
/-- one step more -/
theorem ledP_succ (room : Int) (tree : List Stp) {i : Nat} {x : Stp} (h : tree[i]? = some x) : ledP room tree (i + 1) = ledStep room (ledP room tree i) x := by
  unfold ledP
  rw [foldl_take h]
theorem ledP_all (room : Int) (tree : List Stp) {i : Nat} (h : tree.length ≤ i) : ledP room tree i = ledL room tree := by
  unfold ledP ledL
  rw [List.take_of_length_le h]
/-- the piles, told one by one -/
theorem led_by {room : Int} {tree : List Stp} {P : List (List (Int × List (Str × Int)))} (hl : P.length = tree.length + 1) (h0 : P[0]? = some []) (hs : ∀ (i : Nat) (x : Stp), tree[i]? = some x → P[i + 1]? = some (ledStep room (P.getD i []) x)) : ∀ i, i ≤ tree.length → ledP room tree i = P.getD i [] := by
  intro i
  induction i with
  | zero =>
    intro _
    rw [List.getD_eq_getElem?_getD, h0]
    rfl
  | succ i ih =>
    intro hi
    have hx : tree[i]? = some tree[i] := List.getElem?_eq_getElem (by omega)
    rw [ledP_succ room tree hx, ih (by omega), List.getD_eq_getElem?_getD (i := i + 1), hs i _ hx]
    rfl
def pilesL (K A B : List (Str × Int)) (o : Int) : List (List (Int × List (Str × Int))) := [[(o, K), (0, A)], [(o, K), (0, A), (0, B)], [(o, K), (1, [])], [(o + 1, K)]]
structure LayIs (room : Int) (l : List Str) : Prop where
  a : streamL room (l.take room.toNat) = (0, ones (l.take room.toNat))
  b : streamL room (l.drop room.toNat) = (0, ones (l.drop room.toNat))
  p : pouredL room (0, ones (l.take room.toNat)) (0, ones (l.drop room.toNat)) = (1, [])
  na : (ks (ones (l.take room.toNat))).Nodup
  nb : (ks (ones (l.drop room.toNat))).Nodup
  la : (ones (l.take room.toNat)).length ≤ 1000
  lb : (ones (l.drop room.toNat)).length ≤ 1000
theorem lay_is {room : Int} (h0 : 1 ≤ room) (h3 : room ≤ 3) {l : List Str} (hn : l.Nodup) (hlo : room < (l.length : Int)) (hhi : (l.length : Int) ≤ 2 * room) : LayIs room l := by
  have l1 : ((l.take room.toNat).length : Int) ≤ room := by rw [List.length_take]; omega
  have l2 : ((l.drop room.toNat).length : Int) ≤ room := by rw [List.length_drop]; omega
  have n1 := hn.sublist (List.take_sublist room.toNat l)
  have n2 := hn.sublist (List.drop_sublist room.toNat l)
  have o1 : (ones (l.take room.toNat)).length = (l.take room.toNat).length := by unfold ones; rw [List.length_map]
  have o2 : (ones (l.drop room.toNat)).length = (l.drop room.toNat).length := by unfold ones; rw [List.length_map]
  exact ⟨stream_ones n1 l1, stream_ones n2 l2, pour_ones (by omega) (by rw [List.take_append_drop]; exact hn) (by rw [List.take_append_drop]; exact hlo), by rw [ks_ones]; exact n1, by rw [ks_ones]; exact n2, by omega, by omega⟩
/-- what is wanted of the way back -/
structure Back (room : Int) (K : List (Str × Int)) (off : Int) (tree : List Stp) : Prop where
  ok : LedOk room tree
  led : ledL room tree = [(off, K)]
theorem back_of {room off : Int} {K : List (Str × Int)} {tree : List Stp} {P : List (List (Int × List (Str × Int)))} (h0 : 0 ≤ room) (hl : P.length = tree.length + 1) (hl2 : tree.length ≤ 1000) (hn : ∀ ns, Stp.stream ns ∈ tree → ns.length ≤ 1000) (hp0 : P[0]? = some []) (hs : ∀ (i : Nat) (x : Stp), tree[i]? = some x → P[i + 1]? = some (ledStep room (P.getD i []) x))
    (two : ∀ (i : Nat), tree[i]? = some .pour → 2 ≤ (P.getD i []).length) (el : ∀ p ∈ P, ∀ z ∈ p, (z.2.map (·.1)).Nodup ∧ z.2.length ≤ 40000) (hlast : P.getD tree.length [] = [(off, K)]) : Back room K off tree := by
  have hb := led_by hl hp0 hs
  have hled : ledL room tree = [(off, K)] := by rw [← ledP_all room tree (Nat.le_refl _), hb _ (Nat.le_refl _), hlast]
  refine ⟨⟨h0, hl2, hn, fun i hi => ?_, fun i z hz => ?_, by rw [hled]; simp⟩, hled⟩
  · have hi2 : i < tree.length := (List.getElem?_eq_some_iff.mp hi).1
    rw [hb i (by omega)]
    exact two i hi
  · have key : ∀ i, i ≤ tree.length → ∀ z ∈ ledP room tree i, (z.2.map (·.1)).Nodup ∧ z.2.length ≤ 40000 := fun i hi z hz => by
      rw [hb i hi, List.getD_eq_getElem?_getD, List.getElem?_eq_getElem (by omega)] at hz
      exact el _ (List.getElem_mem _) z hz
    by_cases q : i ≤ tree.length
    · exact key i q z hz
    · rw [ledP_all room tree (by omega), ← ledP_all room tree (Nat.le_refl _)] at hz
      exact key _ (Nat.le_refl _) z hz
theorem back {s : Sk} (h : Sm s) (hm : s.many ≤ 100) {seq : List Str} {lays : List (List Str)} (L : Lays s seq lays) : Back s.room s.kept s.off (paperS s lays) := by
  have hr1 := h.sk.r1
  have hr3 := h.sk.r3
  have hK : streamL s.room (repL s.kept) = (0, s.kept) := by
    have := stream_rep (room := s.room) s.kept [] 0 (by rw [List.nil_append]; exact h.kp.nd) (by rw [List.nil_append]; exact h.sk.kl) h.kp.pos
    rw [List.nil_append] at this
    exact this
  have hpb : ∀ o : Int, pouredL s.room (o, s.kept) (1, []) = (o + 1, s.kept) := fun o => pour_base h.sk.kl h.kp.pos
  have nK : (s.kept.map (·.1)).Nodup ∧ s.kept.length ≤ 40000 := ⟨h.kp.nd, by have := h.kp.len; omega⟩
  have rK : (repL s.kept).length ≤ 1000 := by
    have h1 := len_repL h.kp.pos.nn
    have h2 := h.l12
    have h3 := lost_eq s
    omega
  have n0 : (([] : List (Str × Int)).map (·.1)).Nodup ∧ ([] : List (Str × Int)).length ≤ 40000 := ⟨List.nodup_nil, by simp⟩
  have lay : ∀ l ∈ lays, LayIs s.room l ∧ (l.take s.room.toNat).length ≤ 1000 ∧ (l.drop s.room.toNat).length ≤ 1000 := fun l hl => by
    have h1 := L.hi l hl
    exact ⟨lay_is hr1 hr3 (L.nd l hl) (L.lo l hl) h1, by rw [List.length_take]; omega, by rw [List.length_drop]; omega⟩
  have hnum := L.n
  rw [paper_eq s (by omega)]
  rcases h.o with e | e | e
  · rw [e] at hnum
    have e0 : lays = [] := List.length_eq_zero_iff.mp (by simpa using hnum)
    subst e0
    rw [e]
    refine back_of (P := [[], [(0, s.kept)]]) (by omega) rfl (by simp) (fun ns hns => ?_) rfl (fun i x hx => ?_) (fun i hi => ?_) (fun p hp z hz => ?_) rfl
    · simp at hns
      rw [hns]
      exact rK
    · match i, hx with
      | 0, hx =>
        cases hx
        show some [(0, s.kept)] = some [streamL s.room (repL s.kept)]
        rw [hK]
    · match i, hi with
      | 0, hi => cases hi
    · simp at hp
      rcases hp with rfl | rfl
      · cases hz
      · rw [List.mem_singleton.mp hz]
        exact nK
  · rw [e] at hnum
    obtain ⟨l, e0⟩ : ∃ l, lays = [l] := List.length_eq_one_iff.mp (by simpa using hnum)
    subst e0
    obtain ⟨I, i1, i2⟩ := lay l (by simp)
    rw [e]
    refine back_of (P := [[], [(0, s.kept)], [(0, s.kept), (0, ones (l.take s.room.toNat))], [(0, s.kept), (0, ones (l.take s.room.toNat)), (0, ones (l.drop s.room.toNat))], [(0, s.kept), (1, [])], [(1, s.kept)]]) (by omega) rfl (by simp [layT]) (fun ns hns => ?_) rfl (fun i x hx => ?_) (fun i hi => ?_) (fun p hp z hz => ?_) rfl
    · simp [layT] at hns
      rcases hns with rfl | rfl | rfl
      · exact rK
      · exact i1
      · exact i2
    · match i, hx with
      | 0, hx =>
        cases hx
        show some [(0, s.kept)] = some [streamL s.room (repL s.kept)]
        rw [hK]
      | 1, hx =>
        cases hx
        show some [(0, s.kept), (0, ones (l.take s.room.toNat))] = some [(0, s.kept), streamL s.room (l.take s.room.toNat)]
        rw [I.a]
      | 2, hx =>
        cases hx
        show some [(0, s.kept), (0, ones (l.take s.room.toNat)), (0, ones (l.drop s.room.toNat))] = some [(0, s.kept), (0, ones (l.take s.room.toNat)), streamL s.room (l.drop s.room.toNat)]
        rw [I.b]
      | 3, hx =>
        cases hx
        show some [(0, s.kept), (1, [])] = some [(0, s.kept), pouredL s.room (0, ones (l.take s.room.toNat)) (0, ones (l.drop s.room.toNat))]
        rw [I.p]
      | 4, hx =>
        cases hx
        show some [(1, s.kept)] = some [pouredL s.room (0, s.kept) (1, [])]
        rw [hpb]
        rfl
    · match i, hi with
      | 0, hi => cases hi
      | 1, hi => cases hi
      | 2, hi => cases hi
      | 3, hi => exact Nat.le_of_ble_eq_true rfl
      | 4, hi => exact Nat.le_of_ble_eq_true rfl
    · have nA : ((ones (l.take s.room.toNat)).map (·.1)).Nodup ∧ (ones (l.take s.room.toNat)).length ≤ 40000 := ⟨I.na, by have := I.la; omega⟩
      have nB : ((ones (l.drop s.room.toNat)).map (·.1)).Nodup ∧ (ones (l.drop s.room.toNat)).length ≤ 40000 := ⟨I.nb, by have := I.lb; omega⟩
      simp only [List.mem_cons, List.not_mem_nil, or_false] at hp
      rcases hp with rfl | rfl | rfl | rfl | rfl | rfl <;> simp only [List.mem_cons, List.not_mem_nil, or_false] at hz
      · subst hz; exact nK
      · rcases hz with rfl | rfl
        · exact nK
        · exact nA
      · rcases hz with rfl | rfl | rfl
        · exact nK
        · exact nA
        · exact nB
      · rcases hz with rfl | rfl
        · exact nK
        · exact n0
      · subst hz; exact nK
  · rw [e] at hnum
    obtain ⟨l, m, e0⟩ : ∃ l m, lays = [l, m] := by
      match lays, hnum with
      | [l, m], _ => exact ⟨l, m, rfl⟩
    subst e0
    obtain ⟨I, i1, i2⟩ := lay l (by simp)
    obtain ⟨J, j1, j2⟩ := lay m (by simp)
    rw [e]
    refine back_of (P := [[], [(0, s.kept)], [(0, s.kept), (0, ones (l.take s.room.toNat))], [(0, s.kept), (0, ones (l.take s.room.toNat)), (0, ones (l.drop s.room.toNat))], [(0, s.kept), (1, [])], [(1, s.kept)], [(1, s.kept), (0, ones (m.take s.room.toNat))], [(1, s.kept), (0, ones (m.take s.room.toNat)), (0, ones (m.drop s.room.toNat))], [(1, s.kept), (1, [])], [(2, s.kept)]]) (by omega) rfl (by simp [layT]) (fun ns hns => ?_) rfl (fun i x hx => ?_) (fun i hi => ?_) (fun p hp z hz => ?_) rfl
    · simp [layT] at hns
      rcases hns with rfl | rfl | rfl | rfl | rfl
      · exact rK
      · exact i1
      · exact i2
      · exact j1
      · exact j2
    · match i, hx with
      | 0, hx =>
        cases hx
        show some [(0, s.kept)] = some [streamL s.room (repL s.kept)]
        rw [hK]
      | 1, hx =>
        cases hx
        show some [(0, s.kept), (0, ones (l.take s.room.toNat))] = some [(0, s.kept), streamL s.room (l.take s.room.toNat)]
        rw [I.a]
      | 2, hx =>
        cases hx
        show some [(0, s.kept), (0, ones (l.take s.room.toNat)), (0, ones (l.drop s.room.toNat))] = some [(0, s.kept), (0, ones (l.take s.room.toNat)), streamL s.room (l.drop s.room.toNat)]
        rw [I.b]
      | 3, hx =>
        cases hx
        show some [(0, s.kept), (1, [])] = some [(0, s.kept), pouredL s.room (0, ones (l.take s.room.toNat)) (0, ones (l.drop s.room.toNat))]
        rw [I.p]
      | 4, hx =>
        cases hx
        show some [(1, s.kept)] = some [pouredL s.room (0, s.kept) (1, [])]
        rw [hpb]
        rfl
      | 5, hx =>
        cases hx
        show some [(1, s.kept), (0, ones (m.take s.room.toNat))] = some [(1, s.kept), streamL s.room (m.take s.room.toNat)]
        rw [J.a]
      | 6, hx =>
        cases hx
        show some [(1, s.kept), (0, ones (m.take s.room.toNat)), (0, ones (m.drop s.room.toNat))] = some [(1, s.kept), (0, ones (m.take s.room.toNat)), streamL s.room (m.drop s.room.toNat)]
        rw [J.b]
      | 7, hx =>
        cases hx
        show some [(1, s.kept), (1, [])] = some [(1, s.kept), pouredL s.room (0, ones (m.take s.room.toNat)) (0, ones (m.drop s.room.toNat))]
        rw [J.p]
      | 8, hx =>
        cases hx
        show some [(2, s.kept)] = some [pouredL s.room (1, s.kept) (1, [])]
        rw [hpb]
        rfl
    · match i, hi with
      | 0, hi => cases hi
      | 1, hi => cases hi
      | 2, hi => cases hi
      | 3, hi => exact Nat.le_of_ble_eq_true rfl
      | 4, hi => exact Nat.le_of_ble_eq_true rfl
      | 5, hi => cases hi
      | 6, hi => cases hi
      | 7, hi => exact Nat.le_of_ble_eq_true rfl
      | 8, hi => exact Nat.le_of_ble_eq_true rfl
    · have nA : ((ones (l.take s.room.toNat)).map (·.1)).Nodup ∧ (ones (l.take s.room.toNat)).length ≤ 40000 := ⟨I.na, by have := I.la; omega⟩
      have nB : ((ones (l.drop s.room.toNat)).map (·.1)).Nodup ∧ (ones (l.drop s.room.toNat)).length ≤ 40000 := ⟨I.nb, by have := I.lb; omega⟩
      have nC : ((ones (m.take s.room.toNat)).map (·.1)).Nodup ∧ (ones (m.take s.room.toNat)).length ≤ 40000 := ⟨J.na, by have := J.la; omega⟩
      have nD : ((ones (m.drop s.room.toNat)).map (·.1)).Nodup ∧ (ones (m.drop s.room.toNat)).length ≤ 40000 := ⟨J.nb, by have := J.lb; omega⟩
      simp only [List.mem_cons, List.not_mem_nil, or_false] at hp
      rcases hp with rfl | rfl | rfl | rfl | rfl | rfl | rfl | rfl | rfl | rfl <;> simp only [List.mem_cons, List.not_mem_nil, or_false] at hz
      · subst hz; exact nK
      · rcases hz with rfl | rfl
        · exact nK
        · exact nA
      · rcases hz with rfl | rfl | rfl
        · exact nK
        · exact nA
        · exact nB
      · rcases hz with rfl | rfl
        · exact nK
        · exact n0
      · subst hz; exact nK
      · rcases hz with rfl | rfl
        · exact nK
        · exact nC
      · rcases hz with rfl | rfl | rfl
        · exact nK
        · exact nC
        · exact nD
      · rcases hz with rfl | rfl
        · exact nK
        · exact n0
      · subst hz; exact nK
theorem lay5 : ∀ x ∈ NM5, PyData.canLay0 (.str x) = true := by decide +kernel
theorem sum_stp : ∀ tree : List Stp, (tree.map stpN).sum = (namesT tree).length
  | [] => rfl
  | .stream ns :: r => by
    show ns.length + (r.map stpN).sum = (ns ++ namesT r).length
    rw [sum_stp r, List.length_append]
  | .pour :: r => by
    show 0 + (r.map stpN).sum = (namesT r).length
    rw [sum_stp r, Nat.zero_add]
theorem kept_lay {s : Sk} (h : Sm s) : ∀ q ∈ s.kept, PyData.canLay0 (.str q.1) = true := fun q hq => lay5 _ (h.kp.sub5 (mem_ks hq))
theorem pr_ok {s : Sk} (h : Sm s) (hm : s.many ≤ 100) {c : List (Str × Int)} (hc : Tr s c) (hn : ∀ n ∈ ks c, NameOk n) (hl : c.length ≤ 1000) : PrOk s c := by
  have hp := srtP_perm c
  have hcs := hc.perm hp.symm
  have hks : ks (tkL s (srtP c)) = ks (srtP c) := by
    unfold ks tkL
    rw [List.map_map]
    rfl
  have hnd : (ks (tkL s (srtP c))).Nodup := by rw [hks]; exact hcs.nd
  have hb : ∀ z ∈ tkL s (srtP c), 0 ≤ z.2 ∧ z.2 ≤ s.off := fun z hz => by
    obtain ⟨y, hy, rfl⟩ := List.mem_map.mp hz
    have h1 := hcs.lo y.1
    have h2 := hcs.hi y.1
    rw [gs_mem hcs.nd hy] at h1 h2
    show 0 ≤ y.2 - (dgo s.kept y.1).getD 0 ∧ y.2 - (dgo s.kept y.1).getD 0 ≤ s.off
    rw [dk h]
    omega
  have hkc : ∀ n ∈ ks s.kept, n ∈ ks (srtP c) := fun n hm => by
    refine mem_of_gs ?_
    have h1 := hcs.lo n
    have h2 := (gs_pos h.kp.nd h.kp.pos).mp hm
    omega
  have hgt : ∀ n, gs (tkL s (srtP c)) n = gs c n - gs s.kept n := fun n => by
    by_cases q : n ∈ ks (srtP c)
    · have h1 := mem_gs hcs.nd q
      have h2 : (n, gs (srtP c) n - (dgo s.kept n).getD 0) ∈ tkL s (srtP c) := List.mem_map.mpr ⟨_, h1, rfl⟩
      have h3 := gs_mem hnd h2
      have h3 : gs (tkL s (srtP c)) n = gs (srtP c) n - (dgo s.kept n).getD 0 := h3
      rw [h3, dk h, gs_perm hp]
    · rw [gs_notin (by rw [hks]; exact q), ← gs_perm hp n, gs_notin q, gs_notin fun z => q (hkc n z)]
      rfl
  have hs : sv (tkL s (srtP c)) = lostL s := by
    have h1 : sv (tkL s (srtP c)) = ((srtP c).map fun z => z.2 - gs s.kept z.1).sum := by
      unfold sv tkL
      rw [List.map_map]
      congr 1
      exact List.map_congr_left fun z _ => by
        show z.2 - (dgo s.kept z.1).getD 0 = _
        rw [dk h]
    have h2 : ((srtP c).map fun z => gs s.kept z.1).sum = sv s.kept := by
      have := sum_gs_all (d := s.kept) hcs.nd hkc
      unfold ks at this
      rw [List.map_map] at this
      exact this
    rw [h1, sum_map_sub, h2]
    have h3 : ((srtP c).map fun z => z.2).sum = sv (srtP c) := rfl
    rw [h3, hcs.sum]
    omega
  have L := lays_is h hnd hb hs
  have hnn : Nn (tkL s (srtP c)) := fun z hz => (hb z hz).1
  have hlen := len_repL hnn
  have h12 := h.l12
  have hlk := len_repL h.kp.pos.nn
  have hle := lost_eq s
  have B := back h hm L
  have hnames : namesT (paperS s (layL s.off.toNat (repL (tkL s (srtP c))))) = repL s.kept ++ (layL s.off.toNat (repL (tkL s (srtP c)))).flatten := by
    rw [paper_eq s (by have := h.sk.r1; omega)]
    show repL s.kept ++ namesT _ = _
    rw [names_lays]
  have hcount : (countedL (paperS s (layL s.off.toNat (repL (tkL s (srtP c)))))).Perm c := by
    have e : countedL (paperS s (layL s.off.toNat (repL (tkL s (srtP c))))) = cnt (repL s.kept ++ (layL s.off.toNat (repL (tkL s (srtP c)))).flatten) := by
      unfold countedL cnt
      rw [counted_names, hnames]
    obtain ⟨g1, g2, g3⟩ := cnt_from (repL s.kept ++ (layL s.off.toNat (repL (tkL s (srtP c)))).flatten) (d := []) List.nodup_nil fun z hz => (nomatch hz)
    rw [e]
    refine perm_of_gs g1 hc.nd g2 hc.pos fun n => ?_
    unfold cnt
    rw [g3, gs_nil, List.count_append, L.flat.count_eq, Int.natCast_add, count_repL h.kp.pos.nn, count_repL hnn, hgt]
    omega
  have hcnd := nd_perm hcount.symm hc.nd
  refine ⟨hc.nd, hl, ⟨h.sk, counts_ok hc hn hl, by omega, by omega, fun e => ?_, fun p hp => (hb p hp).1⟩, rit_true h hcs, ?_, hcount.length_eq, fun p hp => dgo_mem' hc.nd (hcount.mem_iff.mp hp), B.ok, ?_, ?_, ?_, kept_lay h⟩
  · have := h.sk.off0 e
    exact List.length_eq_zero_iff.mp (by omega)
  · unfold TreeOk
    rw [sum_stp, hnames, List.length_append, L.flat.length_eq]
    omega
  · rw [B.led]
    exact h.kp.nd
  · rw [B.led]
    show s.kept.length ≤ 1000
    have := h.kp.len
    omega
  · rw [B.led]
    show (⟨s.room, s.many, s.off, srtP s.kept⟩ : Sk) = s
    rw [srtP_self h.sk.co.2.1]
end KD

set_option Elab.async false
set_option linter.all false
set_option maxRecDepth 100000
set_option maxHeartbeats 2000000
/-! KP1: expressions that hand back one of some data; statements with several ends. -/
namespace KD
open PySem PySem.Spec PyProof.Rows L2
section
variable [Vol]
def SemE (X : Cx) (e : Expr) (ρ : List SV) (A : D → Prop) : Prop := ∀ (σ : L2.St) (F H : Hp) (Q : VK), Fz F H → SOk ρ σ F H → (∀ d v F' H', A d → Step F H F' H' → Rep F' v d → Q v H') → tS X e σ H Q
def SemNE (X : Cx) (e : Expr) (ρ : List SV) (A : D → Prop) : Prop := ∀ (σ : L2.St) (F H : Hp) (Q : VK), Fz F H → SOk ρ σ F H →
  (∀ d p o F' H', A d → Step F H F' H' → H p = none → F' p = none → H' p = some o → IsO F' o d → Q (.ref p) H') → tS X e σ H Q
def SemAE (X : Cx) (es : List Expr) (ρ : List SV) (A : List D → Prop) : Prop := ∀ (σ : L2.St) (F H : Hp) (Q : List V → Hp → Prop), Fz F H → SOk ρ σ F H → (∀ ds vs F' H', A ds → Step F H F' H' → Reps F' vs ds → Q vs H') → tSA X es σ H Q
section
variable {X : Cx} {e : Expr} {es : List Expr} {ρ : List SV} {d : D} {A B : D → Prop} {AL : List D → Prop} {ds : List D}
theorem SemF.ee (h : SemF X e ρ d) : SemE X e ρ (fun z => z = d) := fun σ F H Q f s q => h σ F H Q f s fun v F' H' t r => q d v F' H' rfl t r
theorem SemE.imp (h : SemE X e ρ A) (hA : ∀ d, A d → B d) : SemE X e ρ B := fun σ F H Q f s q => h σ F H Q f s fun d v F' H' a t r => q d v F' H' (hA d a) t r
theorem SemNE.imp (h : SemNE X e ρ A) (hA : ∀ d, A d → B d) : SemNE X e ρ B := fun σ F H Q f s q => h σ F H Q f s fun d p o F' H' a t r1 r2 r3 r4 => q d p o F' H' (hA d a) t r1 r2 r3 r4
theorem SemE.one (h : SemE X e ρ A) (hA : ∀ d', A d' → d' = d) : SemF X e ρ d := fun σ F H Q f s q => h σ F H Q f s fun d' v F' H' a t r => q v F' H' t (hA d' a ▸ r)
theorem SemN.ee (h : SemN X e ρ d) : SemNE X e ρ (fun z => z = d) := fun σ F H Q f s q => h σ F H Q f s fun p o F' H' t r1 r2 r3 r4 => q d p o F' H' rfl t r1 r2 r3 r4
theorem SemNE.f (h : SemNE X e ρ A) : SemE X e ρ A := fun σ F H Q f s k => h σ F H Q f s fun d p o F' H' a t h1 h2 h3 q =>
  k d _ (upd F' p o) H' a (t.freeze f h1 h3) (IsO.rep upd_same (IsO.mono (sub_upd h2) q))
theorem ae_nil : SemAE X [] ρ (fun ds => ds = []) := fun σ F H Q f s q => a_nil σ F H Q f s fun vs F' H' t r => q [] vs F' H' rfl t r
theorem ae_cons (ha : SemE X e ρ A) (hr : SemAE X es ρ AL) (hs : starEach (e :: es) X.env = (false, eval e X.env) :: starEach es X.env := by rfl) : SemAE X (e :: es) ρ (fun ds => ∃ d r, ds = d :: r ∧ A d ∧ AL r) := fun σ F H Q f s q pos pins st I =>
  (pa_cons peS paS hs).run pos pins st σ H Q I (ha σ F H _ f s fun d v F1 H1 a t1 r1 => hr σ F1 H1 _ t1.fz (s.step t1) fun ds vs F2 H2 al t2 r2 => q (d :: ds) _ F2 H2 ⟨d, ds, rfl, a, al⟩ (t1.trans t2) ⟨v, vs, rfl, Rep.mono t2.ex d r1, r2⟩)
theorem SemA.ee (h : SemA X es ρ ds) : SemAE X es ρ (fun z => z = ds) := fun σ F H Q f s q => h σ F H Q f s fun vs F' H' t r => q ds vs F' H' rfl t r
theorem SemAE.imp {BL : List D → Prop} (h : SemAE X es ρ AL) (hA : ∀ d, AL d → BL d) : SemAE X es ρ BL := fun σ F H Q f s q => h σ F H Q f s fun d v F' H' a t r => q d v F' H' (hA d a) t r
theorem e_tup {x1} {pos : Pos} (h : SemAE X es ρ AL) (hl : ∀ ds, AL ds → ds.length ≤ 1000) : SemE X (.Tuple es x1 pos) ρ (fun d => ∃ ds, AL ds ∧ d = .tup ds) := fun σ F H Q f s q =>
  peR (pe_tupZ paS) (h σ F H _ f s fun ds vs F1 H1 a t1 r1 => ⟨by rw [r1.len]; exact Nat.le_of_lt (small1000 (hl ds a)), fun p o hp ho => q _ _ (upd F1 p (.frz o (.tup vs))) _ ⟨ds, a, rfl⟩ (t1.trans (Step.new t1.fz hp)) ⟨p, vs, o, rfl, upd_same, ho, Reps.mono (sub_upd (t1.fz.none hp)) ds r1⟩⟩)
theorem ne_lst {pos : Pos} (h : SemAE X es ρ AL) (hl : ∀ ds, AL ds → ds.length ≤ 1000) : SemNE X (.List es pos) ρ (fun d => ∃ ds, AL ds ∧ d = .lst ds) := fun σ F H Q f s q =>
  peR (pe_lst paS) (h σ F H _ f s fun ds vs F1 H1 a t1 r1 => ⟨by rw [r1.len]; exact Nat.le_of_lt (small1000 (hl ds a)), fun p hp => q _ p _ F1 _ ⟨ds, a, rfl⟩ (t1.trans (Step.fresh t1.fz hp)) (t1.back hp) (t1.fz.none hp) upd_same r1⟩)
end
section
variable {X : Cx} {N : List Str} {sc : Scope} {k j : Nat} {ρ : List SV} {pos p : Pos} {e a b : Expr} {es : List Expr} {d : D} {x : Str} {Rl : List D → D → Prop} {A B : D → Prop} {AL : List D → Prop}
/-- n + e, n told -/
theorem e_add {n : Int} {P : Int → Prop} (ha : SemV X a ρ (.int n)) (hb : SemE X b ρ (fun d => ∃ r, P r ∧ d = .int r)) : SemE X (.BinOp a .Add b pos) ρ (fun d => ∃ r, P r ∧ d = .int (n + r)) := fun σ F H Q f s q =>
  peR (pe_op op_add peS peS) (ha σ F H _ f s fun vx F1 H1 t1 r1 => hb σ F1 H1 _ t1.fz (s.step t1) fun d vy F2 H2 hd t2 r2 => by
    obtain ⟨r, hp, rfl⟩ := hd
    exact ⟨n, r, r1, r2, q _ _ F2 H2 ⟨r, hp, rfl⟩ (t1.trans t2) rfl⟩)
/-- a call of a def, its arguments some of many, its answer told -/
theorem f_callE (g : Gd X N sc k) (c : Fn X.prog X.w X.K X.mg X.base x j Rl) (hj : j ≤ k) (ha : SemAE X (e :: es) ρ AL) (hR : ∀ ds, AL ds → Rl ds d) (hg : glB sc x = true := by rfl) (hdb : (x == ("__debug__" : Str)) = false := by decide)
    (he : starEach (e :: es) X.env = (false, eval e X.env) :: starEach es X.env := by rfl) (hpl : (backTo pos (starEach es X.env)).any (·.1) = false := by rfl) : SemF X (.Call (.Name x p) (e :: es) [] pos) ρ d := fun σ F H Q f s q => by
  obtain ⟨fa, fd, ps, h1, h2, h3, h4⟩ := c.ex
  exact peR (pe_call h4 (g.rm.mono hj) (gl_of g hg) h1 h2 h3 .nil pass0 paS hdb he hpl) (ha σ F H _ f s fun ds vs F1 H1 al t1 r1 => by
    rw [List.append_nil]
    exact ⟨F1, ds, d, t1.fz.plain, r1, hR ds al, fun v F2 H2 t2 r2 => q v F2 H2 (t1.trans (Step.lift t1.fz t2)) r2⟩)
/-- a def's promise: one of some data, lists that may change told by Vol -/
def PrE (Rl : List D → (D → Prop) → Prop) : Sp := fun vs H Q _ => ∃ F ds A, Fz F H ∧ Reps F vs ds ∧ Rl ds A ∧ ∀ d v F' H', A d → Step F H F' H' → Rep F' v d → Q v H'
structure FnE (P : Program) (w : World) (K : PySem.W.Frag) (mg : Str → Option Value) (base : Heap) (x : Str) (k : Nat) (Rl : List D → (D → Prop) → Prop) : Prop where
  ex : ∃ (f : Addr) (fd : FuncData) (ps : List Str), mg x = some (.ref f) ∧ PySem.W.keepIn K (.ref f) = true ∧ Binds K fd ps [] ∧ FnOk P w K mg base CX0 k f fd ps (PrE Rl)
theorem e_call {RlE : List D → (D → Prop) → Prop} (g : Gd X N sc k) (c : FnE X.prog X.w X.K X.mg X.base x j RlE) (hj : j ≤ k) (ha : SemAE X (e :: es) ρ AL) (hR : ∀ ds, AL ds → ∃ A, RlE ds A ∧ ∀ d, A d → B d) (hg : glB sc x = true := by rfl) (hdb : (x == ("__debug__" : Str)) = false := by decide)
    (he : starEach (e :: es) X.env = (false, eval e X.env) :: starEach es X.env := by rfl) (hpl : (backTo pos (starEach es X.env)).any (·.1) = false := by rfl) : SemE X (.Call (.Name x p) (e :: es) [] pos) ρ B := fun σ F H Q f s q => by
  obtain ⟨fa, fd, ps, h1, h2, h3, h4⟩ := c.ex
  exact peR (pe_call h4 (g.rm.mono hj) (gl_of g hg) h1 h2 h3 .nil pass0 paS hdb he hpl) (ha σ F H _ f s fun ds vs F1 H1 al t1 r1 => by
    rw [List.append_nil]
    obtain ⟨A, hA, hB⟩ := hR ds al
    exact ⟨F1, ds, A, t1.fz, r1, hA, fun d v F2 H2 a t2 r2 => q d v F2 H2 (hB d a) (t1.trans t2) r2⟩)
end
/-! ### statements -/
def DoE (X : Cx) (st : Stmt) (ρ : List SV) (O : Out → Prop) : Prop := ∀ (F0 H0 : Hp) (σ : L2.St) (F H : Hp) (E : Ends), SX F0 H0 ρ σ F H → (∀ out, O out → Fin F0 H0 E out) → tSs X st E σ H
def DosE (X : Cx) (st : List Stmt) (ρ : List SV) (O : Out → Prop) : Prop := ∀ (F0 H0 : Hp) (σ : L2.St) (F H : Hp) (E : Ends), SX F0 H0 ρ σ F H → (∀ out, O out → Fin F0 H0 E out) → tSl X st E σ H
def RtA (A : D → Prop) : Out → Prop := fun out => ∃ d, A d ∧ out = .rt d
def NxA (R : List SV → Prop) : Out → Prop := fun out => ∃ ρ, R ρ ∧ out = .nx ρ
section
variable {X : Cx} {N : List Str} {sc : Scope} {k : Nat} {ρ ρ1 ρ2 : List SV} {st : Stmt} {rest : List Stmt} {out : Out} {d : D} {e c : Expr} {b : Bool} {SA SB : List Stmt} {pos p1 : Pos} {O : Out → Prop} {A : D → Prop} {R : List SV → Prop} {x : Str}
theorem Do.ee (h : Do X st ρ (.nx ρ1)) : DoE X st ρ (NxA (fun z => z = ρ1)) := fun F0 H0 σ F H E s q => h F0 H0 σ F H E s (q _ ⟨ρ1, rfl, rfl⟩)
theorem Dos.ee (h : Dos X SA ρ (.nx ρ1)) : DosE X SA ρ (NxA (fun z => z = ρ1)) := fun F0 H0 σ F H E s q => h F0 H0 σ F H E s (q _ ⟨ρ1, rfl, rfl⟩)
theorem Dos.er (h : Dos X SA ρ (.rt d)) (ha : A d) : DosE X SA ρ (RtA A) := fun F0 H0 σ F H E s q => h F0 H0 σ F H E s (q _ ⟨d, ha, rfl⟩)
theorem se_consE (h : DoE X st ρ (NxA R)) (t : ∀ ρ1, R ρ1 → DosE X rest ρ1 O) : DosE X (st :: rest) ρ O := fun F0 H0 σ F H E s q =>
  pssR (pss_cons psS pssS) (h F0 H0 σ F H { E with nx := tSl X rest E } s fun out ho => by
    obtain ⟨ρ1, hr, rfl⟩ := ho
    exact fun σ1 F1 H1 s1 => t ρ1 hr F0 H0 σ1 F1 H1 E s1 q)
theorem se_cons (h : Do X st ρ (.nx ρ1)) (t : DosE X rest ρ1 O) : DosE X (st :: rest) ρ O := se_consE h.ee fun ρ2 e => by rw [e]; exact t
theorem se_last (h : DoE X st ρ (RtA A)) : DosE X (st :: rest) ρ (RtA A) := fun F0 H0 σ F H E s q =>
  pssR (pss_cons psS pss_never) (h F0 H0 σ F H { E with nx := tNever E } s fun out ho => by
    have := q out ho
    obtain ⟨d, _, rfl⟩ := ho
    exact this)
theorem se_imp {O' : Out → Prop} (h : DosE X SA ρ O') (ho : ∀ out, O' out → O out) : DosE X SA ρ O := fun F0 H0 σ F H E s q => h F0 H0 σ F H E s fun out a => q out (ho out a)
theorem se_frz (i : Nat) (hi : ρ[i]? = some (.ow d) := by rfl) (h : DosE X SA (ρ.set i (.fz d)) O) : DosE X SA ρ O := fun F0 H0 σ F H E s q => by
  obtain ⟨p, o, _, _, _, _, _, F', s'⟩ := s.own hi
  exact h F0 H0 σ F' H E s' q
theorem se_at (h : DosE X SA ρ1 O) (e : ρ = ρ1) : DosE X SA ρ O := e ▸ h
theorem se_nil : DosE X [] ρ (NxA (fun z => z = ρ)) := Dos.ee s_nil
theorem se_ret (h : SemE X e ρ A) : DoE X (.Return (some e) pos) ρ (RtA A) := fun F0 H0 σ F H E s q =>
  psR (ps_ret peS) (h σ F H _ s.st.fz s.ok fun d v F1 H1 a t r => q _ ⟨d, a, rfl⟩ v F1 H1 (s.st.trans t) r)
theorem se_set (g : Gf X N sc k) (j : Nat) (h : SemE X e ρ A) (hj : N[j]? = some x := by rfl) (hr : j < ρ.length := by exact Nat.le_of_ble_eq_true rfl) (hl : locC sc x = true := by rfl) (hs : swapsWith e (some (.Name x p1)) pos.line X.env = pure false := by rfl) :
    DoE X (.Assign [.Name x p1] e pos) ρ (NxA (fun z => ∃ d, A d ∧ z = ρ.set j (.fz d))) := fun F0 H0 σ F H E s q =>
  psR (ps_set g.g.ndX (by rw [g.g.hN]; exact hj) (by rw [g.g.hsc]; exact locC_of hl) peS hs (.inl (g.fn x))) (h σ F H _ s.st.fz s.ok fun d v F1 H1 a t r => q _ ⟨_, ⟨d, a, rfl⟩, rfl⟩ _ F1 H1 ((s.step t).set r hr))
theorem se_new (g : Gf X N sc k) (j : Nat) (h : SemNE X e ρ A) (hj : N[j]? = some x := by rfl) (hr : j < ρ.length := by exact Nat.le_of_ble_eq_true rfl) (hl : locC sc x = true := by rfl) (hs : swapsWith e (some (.Name x p1)) pos.line X.env = pure false := by rfl) :
    DoE X (.Assign [.Name x p1] e pos) ρ (NxA (fun z => ∃ d, A d ∧ z = ρ.set j (.ow d))) := fun F0 H0 σ F H E s q =>
  psR (ps_set g.g.ndX (by rw [g.g.hN]; exact hj) (by rw [g.g.hsc]; exact locC_of hl) peS hs (.inl (g.fn x))) (h σ F H _ s.st.fz s.ok fun d p o F1 H1 a t h0 hF hH r => q _ ⟨_, ⟨d, a, rfl⟩, rfl⟩ _ F1 H1 (s.setO t h0 hF hH r hr))
theorem se_par {a b : Expr} {y : Str} {kt k2 pt2 pt} {py : Pos} {AL : List D → Prop} (g : Gf X N sc k) (i j : Nat) (h : SemAE X [a, b] ρ AL) (hi : N[i]? = some x := by rfl) (hj : N[j]? = some y := by rfl) (hri : i < ρ.length := by exact Nat.le_of_ble_eq_true rfl) (hrj : j < ρ.length := by exact Nat.le_of_ble_eq_true rfl) (hij : i ≠ j := by decide) (hx : locB sc x = true := by rfl) (hy : locB sc y = true := by rfl)
    (h2 : ∀ ds, AL ds → ∃ d d', ds = [d, d']) (hw : swappedStores [.Tuple [.Name x p1, .Name y py] kt pt] (.Tuple [a, b] k2 pt2) (envOfC "" sc 0 0 .none) = pure (some [x, y]) := by rfl) (hs : swapsWithSole [.Tuple [.Name x p1, .Name y py] kt pt] (.Tuple [a, b] k2 pt2) pos.line X.env = pure false := by rfl) :
    DoE X (.Assign [.Tuple [.Name x p1, .Name y py] kt pt] (.Tuple [a, b] k2 pt2) pos) ρ (NxA (fun z => ∃ d d', AL [d, d'] ∧ z = (ρ.set i (.fz d)).set j (.fz d'))) := fun F0 H0 σ F H E s q =>
  psR (ps_par g.g.calm g.g.ndX (by rw [g.g.hN]; exact hi) (by rw [g.g.hN]; exact hj) hij (by rw [g.g.hsc]; exact loc_of hx) (by rw [g.g.hsc]; exact loc_of hy) paS ((sw_env g.g.hsc).trans hw) hs) (h σ F H _ s.st.fz s.ok fun ds vs F1 H1 al t r => by
    obtain ⟨d, d', rfl⟩ := h2 ds al
    obtain ⟨v, r1, e1, z1, w, r2, e2, z2, e3⟩ := r
    have e3 : r2 = [] := e3
    subst e3 e2 e1
    exact ⟨v, w, rfl, q _ ⟨_, ⟨d, d', al, rfl⟩, rfl⟩ _ _ _ (((s.step t).set z1 hri).set z2 (by rw [List.length_set]; exact hrj))⟩)
/-- what is walked is one of many -/
def ItE {α : Type} (X : Cx) (tg iter : Expr) (ρ : List SV) (B : List α → Prop) (enc : α → D) : Prop :=
  ∃ wi, PI X tg iter wi ∧ ∀ (σ : L2.St) (F H : Hp) (R : It → Hp → Prop), Fz F H → SOk ρ σ F H → (∀ xs J F1 H1, B xs → Step F H F1 H1 → WlkF J xs enc F1 → R J H1) → wi σ H R
theorem ItF.ee {α : Type} {tg iter : Expr} {xs : List α} {enc : α → D} (h : ItF X tg iter ρ xs enc) : ItE X tg iter ρ (fun z => z = xs) enc := by
  obtain ⟨wi, h1, h2⟩ := h
  exact ⟨wi, h1, fun σ F H R f s q => h2 σ F H R f s fun J F1 H1 t w => q xs J F1 H1 rfl t w⟩
/-- for tg in iter: body; RS i: what the slots may be ahead of turn i -/
theorem se_for {α : Type} {tg iter : Expr} {enc : α → D} {gt : TG} {body : List Stmt} {B : List α → Prop} {RS : List α → Nat → List SV → Prop} (g : Gf X N sc k) (hi : ItE X tg iter ρ B enc) (h0 : ∀ xs, B xs → ∃ ρ0, LeL ρ ρ0 ∧ RS xs 0 ρ0) (hg : PG X tg gt)
    (hB : ∀ xs, B xs → ∀ i x ρi, xs[i]? = some x → RS xs i ρi → ∃ ρt, TgX gt ρi (enc x) ρt ∧ DosE X body ρt (NxA (fun z => ∃ ρn, LeL z ρn ∧ RS xs (i + 1) ρn))) (hs : ∀ v, foldedSetIterable iter X.env v = pure v := by intro _; rfl) :
    DoE X (.For tg iter body [] pos) ρ (NxA (fun z => ∃ xs, B xs ∧ RS xs xs.length z)) := fun F0 H0 σ F H E s q => by
  obtain ⟨wi, hpi, hw⟩ := hi
  refine psR (ps_for g.own g.g.calm hpi hg pssS hs) (hw σ F H _ s.st.fz s.ok fun xs J F1 H1 hb t1 w1 => ?_)
  obtain ⟨ρ0, le0, rs0⟩ := h0 xs hb
  obtain ⟨Hb, sb, _, bk⟩ := (s.step t1).rebase
  refine ⟨fun i m σ' H' => m = xs.length - i ∧ i ≤ xs.length ∧ ∃ F' ρi, RS xs i ρi ∧ SX F1 Hb ρi σ' F' H', ⟨xs.length, by simp, Nat.zero_le _, F1, ρ0, rs0, sb.le le0⟩, ?_⟩
  rintro i m σ2 H2 ⟨rfl, hi, F2, ρi, hri, s2⟩
  obtain ⟨wgo, wstop⟩ := w1 F2 H2 s2.st.ex s2.st.fz
  by_cases e : i = xs.length
  · subst e
    exact .inl ⟨wstop, q _ ⟨ρi, ⟨xs, hb, hri⟩, rfl⟩ _ _ _ (bk s2)⟩
  · have hlt : i < xs.length := by omega
    obtain ⟨x, hx⟩ : ∃ x, xs[i]? = some x := ⟨_, List.getElem?_eq_getElem hlt⟩
    obtain ⟨go, yl⟩ := wgo i x hx
    obtain ⟨ρt, hT, hD⟩ := hB xs hb i x ρi hx hri
    refine .inr ⟨go, fun σ' H' => ∃ F' ρn, RS xs (i + 1) ρn ∧ SX F1 Hb ρn σ' F' H', fun σ' H' h' => ⟨xs.length - (i + 1), by omega, rfl, hlt, h'⟩, fun v H3 y => ?_⟩
    obtain ⟨e3, r3⟩ := yl v H3 y
    subst e3
    exact hT F1 Hb σ2 F2 _ v _ s2 r3 fun σ3 s3 => hD F1 Hb σ3 F2 _ _ s3 fun out ho => by
      obtain ⟨ρz, ⟨ρn, le, rn⟩, rfl⟩ := ho
      exact fun σ4 F4 H4 s4 => ⟨F4, ρn, rn, s4.le le⟩
end
/-! ### a list made of such -/
section
variable {X : Cx} {N : List Str} {sc scope : Scope} {k : Nat} {ρ : List SV} {pos p p1 ppos : Pos} {x : Str} {A : D → Prop} {elt a : Expr} {B : Nat → Prop}
/-- [elt for x in range(a)], a one of many numbers, elt one of many data -/
theorem ne_rng (g : Gd X N sc k) (j : Nat) (ha : SemE X a ρ (fun d => ∃ n : Nat, B n ∧ d = .int n)) (hb : ∀ n, B n → n ≤ 1000) (hm : X.mg "range" = none) (hE : ∀ n : Nat, InB X scope fun Y => SemE Y elt ((wipeR ρ [j]).set j (.fz (.int n))) A)
    (ok : BlkOk N sc scope [(x, j)] := by exact blkOk_by (by decide +kernel)) (hj : N[j]? = some x := by rfl) (hr : j < ρ.length := by exact Nat.le_of_ble_eq_true rfl) (hl : locD scope sc x = true := by rfl) (hgl : glB sc "range" = true := by rfl)
    (hs : starEach [a] X.env = [(false, eval a X.env)] := by rfl) (hsf : ∀ v, foldedSetIterable (.Call (.Name "range" p) [a] [] ppos) X.env v = pure v := by intro _; rfl) :
    SemNE X (.ListComp elt [⟨.Name x p1, .Call (.Name "range" p) [a] [] ppos, [], 0⟩] scope pos) ρ (fun d => ∃ ds, B ds.length ∧ (∀ z ∈ ds, A z) ∧ d = .lst ds) := fun σ F H Q f s q => by
  have hNd : X.N.Nodup := g.ndX
  have okX : BlkOk X.N X.env.scope scope [(x, j)] := by rw [g.hN, g.hsc]; exact ok
  refine peR (pe_lc (te := tSB X scope elt) g.calm hNd (pi_range1 (gl_of g hgl) hm (pa_cons peS pa_nil hs) hs) okX (pgb g j hj hl) (fun _ _ _ _ _ => pts_nil) (fun s H C cl fp => ⟨fun pins s' _ _ _ I h => h s H C cl fp pins s' I⟩) hsf) ?_
  refine ha σ F H _ f s fun d v F1 H1 hd t1 r1 => ?_
  obtain ⟨n, hn, rfl⟩ := hd
  have hn1 := hb n hn
  refine ⟨(n : Int), by rw [show v = _ from r1], by omega, by omega, ?_⟩
  intro Da hD
  refine ⟨fun i m H' => m = n - i ∧ i ≤ n ∧ ∃ F' acc ds, Step F1 H1 F' H' ∧ F' Da = none ∧ H' Da = some (.lst acc) ∧ Reps F' acc ds ∧ ds.length = i ∧ ∀ z ∈ ds, A z, ⟨n, by simp, Nat.zero_le _, F1, [], [], (Step.refl t1.fz).write hD (t1.fz.none hD), t1.fz.none hD, upd_same, rfl, rfl, fun z hz => (nomatch hz)⟩, ?_⟩
  rintro i m H2 ⟨rfl, hi, F2, acc, ds, t2, hF2, hH2, z2, hl2, hA2⟩
  by_cases e : i = n
  · subst e
    refine .inl ⟨by show _ ≤ _; rw [Int.toNat_natCast]; exact Nat.le_refl _, q _ Da _ F2 H2 ⟨ds, by rw [hl2]; exact hn, hA2, rfl⟩ (t1.trans t2) (t1.back hD) hF2 hH2 z2⟩
  · have hlt : i < n := by omega
    refine .inr ⟨by show i < _; rw [Int.toNat_natCast]; exact hlt, fun H' => (i + 1 ≤ n ∧ ∃ F' acc ds, Step F1 H1 F' H' ∧ F' Da = none ∧ H' Da = some (.lst acc) ∧ Reps F' acc ds ∧ ds.length = i + 1 ∧ ∀ z ∈ ds, A z), fun H' h' => ⟨n - (i + 1), by omega, rfl, h'⟩, fun v H3 y => ?_⟩
    have ev : v = .int (i : Int) := by
      have := y.2
      rw [Int.zero_add] at this
      exact this
    have eH : H3 = H2 := y.1
    subst eH
    have s2 := (s.step (t1.trans t2)).wipe [j]
    refine tg_name (vs := [j]) (d := .int (i : Int)) j (by simp) (by rw [wipeR_length]; exact hr) _ F2 _ v _ t2.fz s2 ev fun σ2 s3 hw2 => ⟨hw2.trans (wipe_wipe _), ?_⟩
    refine (if_pos (c := true = true) (e := True) rfl).mpr ?_
    intro s' H' C cl fp
    refine hE i s' H' C cl fp σ2 F2 _ _ t2.fz s3 fun dz w F5 H5 hz t5 r5 => ?_
    have hH5 := t5.hh _ _ (t1.fz.new hD) hH2
    have hF5 : F5 Da = none := t5.off Da hF2 (by rw [hH2]; exact fun z => nomatch z)
    have z5 : Reps F5 acc ds := Reps.mono t5.ex _ z2
    refine ⟨acc, hH5, ?_, hlt, F5, acc ++ [w], ds ++ [dz], (t2.trans t5).write hD hF5, hF5, upd_same, z5.snoc r5, by rw [List.length_append, hl2]; rfl, fun z hz2 => ?_⟩
    · rw [z5.len, hl2, sizeLine_eq]
      omega
    · rcases List.mem_append.mp hz2 with hz2 | hz2
      · exact hA2 z hz2
      · rw [List.mem_singleton.mp hz2]
        exact hz
end
end
end KD

set_option Elab.async false
set_option linter.all false
set_option maxRecDepth 100000
set_option maxHeartbeats 2000000
/-! KP2: the law's pot: a list of a list of ints, a list of ints, a turn, a sum. -/
namespace KD
open PySem PySem.Spec PyProof.Rows L2
structure Pot where
  P : Addr
  G : Addr
  S : Addr
  q : Int
  ss : List Int
structure PotOk (p : Pot) : Prop where
  pg : p.P ≠ p.G
  ps : p.P ≠ p.S
  gs : p.G ≠ p.S
  sn : p.ss ≠ []
  sl : p.ss.length ≤ 1000
def PotAt (p : Pot) (H : Hp) : Prop := ∃ (n : Int) (gl : List Int), H p.P = some (.lst [.ref p.G, .ref p.S, .int n, .int p.q]) ∧ H p.G = some (.lst (gl.map V.int)) ∧ H p.S = some (.lst (p.ss.map V.int))
@[reducible] def volP (p : Pot) : Vol where
  vol := fun a => a = p.P ∨ a = p.G ∨ a = p.S
  inv := PotAt p
  ls := fun {H a} ⟨n, gl, h1, h2, h3⟩ v => by
    rcases v with rfl | rfl | rfl
    · exact ⟨_, h1⟩
    · exact ⟨_, h2⟩
    · exact ⟨_, h3⟩
  kp := fun {H H'} ⟨n, gl, h1, h2, h3⟩ k => ⟨n, gl, k _ _ (.inl rfl) h1, k _ _ (.inr (.inl rfl)) h2, k _ _ (.inr (.inr rfl)) h3⟩
theorem Step.volw [Vol] {F0 H0 F H : Hp} (t : Step F0 H0 F H) {a : Addr} {o : HO} (v : Vol.vol a) (i : Vol.inv (upd H a o)) : Step F0 H0 F (upd H a o) := by
  refine ⟨t.ex, ⟨fun b u e => ?_, i⟩, fun b u nv e => ?_, t.off, t.iv0⟩
  · have h := t.fz b u e
    have n : b ≠ a := fun z => h.2 (z ▸ v)
    refine ⟨?_, h.2⟩
    rcases h.1 with q | ⟨m, ob, q⟩
    · exact .inl (by rw [upd_ne n]; exact q)
    · exact .inr ⟨m, ob, by rw [upd_ne n]; exact q⟩
  · have n : b ≠ a := fun z => nv (z ▸ v)
    rw [upd_ne n]
    exact t.hh b u nv e
theorem SX.volw [Vol] {F0 H0 F H : Hp} {ρ : List SV} {σ : L2.St} (s : SX F0 H0 ρ σ F H) {a : Addr} {o : HO} (v : Vol.vol a) (i : Vol.inv (upd H a o)) : SX F0 H0 ρ σ F (upd H a o) := by
  obtain ⟨ad, h1, h2, h3⟩ := s.ex
  refine ⟨s.st.volw v i, s.len, ad, h1, fun j d e => ?_, h3⟩
  obtain ⟨o2, x1, x2, x3, x4, x5⟩ := h2 j d e
  exact ⟨o2, x1, by rw [upd_ne fun z => s.st.nv x3 (by rw [z]; exact v)]; exact x2, x3, x4, x5⟩
section
variable [Vol] {p : Pot} {X : Cx} {N : List Str} {sc : Scope} {k : Nat} {ρ : List SV} {x : Str} {pos p1 p2 p3 p4 p5 p6 : Pos} {kk k2 : Nat} {σ : L2.St} {H : Hp} {Q : VK} {b c : Expr}
theorem at0 {α : Type} (x : α) (l : List α) : atI (x :: l) 0 = some x := by
  unfold atI ixN
  rw [if_pos (Int.le_refl _), if_pos (by rw [List.length_cons]; omega)]
  rfl
theorem ix0 (n : Nat) : ixN (n + 1) 0 = some 0 := by
  unfold ixN
  rw [if_pos (Int.le_refl _), if_pos (by omega)]
  rfl
theorem seq0 (n : Nat) : seqIndex? 0 (n + 1) = some 0 := by
  unfold seqIndex?
  have h : (0 : Int) < ((n + 1 : Nat) : Int) := by omega
  simp
theorem slot_adr {F : Hp} {a : Addr} {j : Nat} (s : SOk ρ σ F H) (h : ρ[j]? = some (.fz (.adr a))) : σ[j]? = some (some (.ref a)) := by
  obtain ⟨ad, h1, _, _⟩ := s.ex
  obtain ⟨v, e, r⟩ := h1 j _ h
  rw [e, show v = _ from r]
theorem slot_int {F : Hp} {i : Int} {j : Nat} (s : SOk ρ σ F H) (h : ρ[j]? = some (.fz (.int i))) : σ[j]? = some (some (.int i)) := by
  obtain ⟨ad, h1, _, _⟩ := s.ex
  obtain ⟨v, e, r⟩ := h1 j _ h
  rw [e, show v = _ from r]
/-- name[i] of a list that stands -/
theorem rd_ix (g : Gd X N sc k) (j : Nat) {P : Addr} {xs : List V} {i : Int} {v : V} (hσ : σ[j]? = some (some (.ref P))) (hH : H P = some (.lst xs)) (hx : atI xs i = some v) (q : Q v H) (hj : N[j]? = some x := by rfl) (hv : visB sc x = true := by rfl) (hd : (x == ("__debug__" : Str)) = false := by decide) (hcd : (x == ("__classdict__" : Str)) = false := by decide) :
    tS X (.Subscript (.Name x p1) (.Constant (.int i) kk p2) pos) σ H Q :=
  peR (pe_ix ix_list (pe_nm g hj hv hd hcd) pe_int (fun _ _ => rfl)) ⟨_, hσ, P, xs, i, v, rfl, rfl, .inl (.inl hH), hx, q⟩
/-- name[i][j] -/
theorem rd_ix2 (g : Gd X N sc k) (j : Nat) {P G : Addr} {xs ys : List V} {i i2 : Int} {v : V} (hσ : σ[j]? = some (some (.ref P))) (hH : H P = some (.lst xs)) (hx : atI xs i = some (.ref G)) (hG : H G = some (.lst ys)) (hy : atI ys i2 = some v) (q : Q v H) (hj : N[j]? = some x := by rfl) (hv : visB sc x = true := by rfl) (hd : (x == ("__debug__" : Str)) = false := by decide) (hcd : (x == ("__classdict__" : Str)) = false := by decide) :
    tS X (.Subscript (.Subscript (.Name x p1) (.Constant (.int i) kk p2) p3) (.Constant (.int i2) k2 p4) pos) σ H Q :=
  peR (pe_ix ix_list peS pe_int (fun _ _ => rfl)) (rd_ix g j hσ hH hx ⟨G, ys, i2, v, rfl, rfl, .inl (.inl hG), hy, q⟩ hj hv hd hcd)
/-- len(name[i]) -/
theorem rd_len (g : Gd X N sc k) (j : Nat) {P G : Addr} {xs ys : List V} {i : Int} (hσ : σ[j]? = some (some (.ref P))) (hH : H P = some (.lst xs)) (hx : atI xs i = some (.ref G)) (hG : H G = some (.lst ys)) (q : Q (.int ys.length) H) (hm : X.mg "len" = none) (hj : N[j]? = some x := by rfl) (hv : visB sc x = true := by rfl) (hd : (x == ("__debug__" : Str)) = false := by decide) (hcd : (x == ("__classdict__" : Str)) = false := by decide) (hg : glB sc "len" = true := by rfl) :
    tS X (.Call (.Name "len" p4) [.Subscript (.Name x p1) (.Constant (.int i) kk p2) p3] [] pos) σ H Q :=
  peR (pe_callB call_len_seq (gl_of g hg) hm boot_len (pa_cons peS pa_nil)) (rd_ix g j hσ hH hx ⟨G, ys, rfl, .inl (.inl (.inl hG)), q⟩ hj hv hd hcd)
theorem SemF.go {e : Expr} {d : D} (h : SemF X e ρ d) {σ : L2.St} {F H : Hp} {Q : VK} (f : Fz F H) (s : SOk ρ σ F H) (q : ∀ v F' H', Step F H F' H' → Rep F' v d → Q v H') : tS X e σ H Q := h σ F H Q f s q
def IntE (X : Cx) (e : Expr) (ρ : List SV) : Prop := SemE X e ρ (fun d => ∃ r : Int, True ∧ d = .int r)
theorem ie_of {a : Expr} {n : Int} (h : SemF X a ρ (.int n)) : IntE X a ρ := h.ee.imp fun d e => ⟨n, trivial, e⟩
theorem ie_add {a b : Expr} (ha : IntE X a ρ) (hb : IntE X b ρ) : IntE X (.BinOp a .Add b pos) ρ := fun σ F H Q f s q =>
  peR (pe_op op_add peS peS) (ha σ F H _ f s fun d vx F1 H1 hd t1 r1 => hb σ F1 H1 _ t1.fz (s.step t1) fun d' vy F2 H2 hd' t2 r2 => by
    obtain ⟨i, _, rfl⟩ := hd
    obtain ⟨j, _, rfl⟩ := hd'
    exact ⟨i, j, r1, r2, q _ _ F2 H2 ⟨i + j, trivial, rfl⟩ (t1.trans t2) rfl⟩)
theorem ie_mulR {a : Expr} {n : Int} (ha : IntE X a ρ) (hn : -(2 ^ 64) < n ∧ n < 2 ^ 64) : IntE X (.BinOp a .Mult (.Constant (.int n) kk p1) pos) ρ := fun σ F H Q f s q =>
  peR (pe_op op_mul peS pe_int) (ha σ F H _ f s fun d vx F1 H1 hd t1 r1 => by
    obtain ⟨i, _, rfl⟩ := hd
    exact ⟨i, n, r1, rfl, .inr hn, q _ _ F1 H1 ⟨i * n, trivial, rfl⟩ t1 rfl⟩)
theorem ie_mulL {b : Expr} {n : Int} (hb : IntE X b ρ) (hn : -(2 ^ 64) < n ∧ n < 2 ^ 64) : IntE X (.BinOp (.Constant (.int n) kk p1) .Mult b pos) ρ := fun σ F H Q f s q =>
  peR (pe_op op_mul pe_int peS) (hb σ F H _ f s fun d vx F1 H1 hd t1 r1 => by
    obtain ⟨i, _, rfl⟩ := hd
    exact ⟨n, i, rfl, r1, .inl hn, q _ _ F1 H1 ⟨n * i, trivial, rfl⟩ t1 rfl⟩)
/-- a statement that ends or goes on -/
theorem se_or {st : Stmt} {rest : List Stmt} {A : D → Prop} {ρ1 : List SV} (h : DoE X st ρ (fun out => RtA A out ∨ out = .nx ρ1)) (t : DosE X rest ρ1 (RtA A)) : DosE X (st :: rest) ρ (RtA A) := fun F0 H0 σ F H E s q =>
  pssR (pss_cons psS pssS) (h F0 H0 σ F H { E with nx := tSl X rest E } s fun out ho => by
    rcases ho with ho | rfl
    · have := q out ho
      obtain ⟨d, _, rfl⟩ := ho
      exact this
    · exact fun σ1 F1 H1 s1 => t F0 H0 σ1 F1 H1 E s1 q)
end
/-! ### a def by its body -/
def BodyE [Vol] (N : List Str) (sc : Scope) (k : Nat) (P : Program) (w : World) (K : PySem.W.Frag) (mg : Str → Option Value) (base : Heap) (body : List Stmt) (Rl : List D → (D → Prop) → Prop) : Prop :=
  ∀ X : Cx, Gf X N sc k → X.prog = P → X.w = w → X.K = K → X.mg = mg → X.base = base → ∀ ds A, Rl ds A → DosE X body (ds.map SV.fz ++ List.replicate (N.length - ds.length) .un) (RtA A)
section
variable [Vol] {P : Program} {w : World} {K : PySem.W.Frag} {mg : Str → Option Value} {base : Heap}
theorem fnE_mk {x qual : Str} {params : Arguments} {body : List Stmt} {sc : Scope} {f : Addr} {fd : FuncData} {N ps : List Str} {k : Nat} {Rl : List D → (D → Prop) → Prop}
    (Fd : FunD K x qual params body sc [] [] f fd) (hm : mg x = some (.ref f)) (S : FnScope N ps sc) (hb : Binds K fd ps []) (hl : ∀ ds A, Rl ds A → ds.length = ps.length) (h : BodyE N sc k P w K mg base body Rl) : FnE P w K mg base x (k + 1) Rl := by
  have hps : ps.length ≤ N.length := by
    have := congrArg List.length S.pre
    rw [List.length_take] at this
    omega
  refine ⟨f, fd, ps, hm, Fd.kp, hb, Fd.ok S (fun vs H Q E ⟨F, ds, A, f, r, hR, _⟩ => by rw [r.len, hl _ _ hR]) fun cdv A outer s H vs Q E hr ⟨F, ds, Ad, fz, r, hR, q⟩ => ?_⟩
  have hlen := hl _ _ hR
  have g : Gf (cxOf CX0 P w K mg base N qual sc f cdv A outer s H E).nox N sc k := ⟨⟨rfl, S.nd, rfl, rfl, hr, rfl⟩, fun _ => rfl, PassesOwn.never⟩
  have st := start_reps (N := N) fz r (by omega)
  exact ⟨_, (pssS (X := (cxOf CX0 P w K mg base N qual sc f cdv A outer s H E).nox)).nox, h _ g rfl rfl rfl rfl rfl ds Ad hR F H _ F H _ st fun out ho => by
    obtain ⟨d, hd, rfl⟩ := ho
    exact fun v F' H' t r' => q d v F' H' hd t r'⟩
theorem fnE_top (T : Top K w mg) (i : Nat) {x : Str} (N ps : List Str) {k : Nat} {Rl : List D → (D → Prop) → Prop} (hx : (i, x) ∈ nmT) (hS : C8.scC N ps (defScope (top i)) = true)
    (hb : ∀ (kV doc pm : Value) (an : Option Addr) (cdv ct : Value) (us : List Value), us.length = ps.length → bindArgs (PySem.W.fnOf x x (defArgs (top i)) (defBody (top i)) (defScope (top i)) .none kV doc pm an cdv ct) ⟨us, []⟩ = pure (ps.zip us))
    (hl : ∀ ds A, Rl ds A → ds.length = ps.length) (h : BodyE N (defScope (top i)) k P w K mg base (defBody (top i)) Rl) : FnE P w K mg base x (k + 1) Rl := by
  obtain ⟨f, fd, h1, h2⟩ := T.fn (i, x) hx
  exact fnE_mk h2 h1 (C8.fnScope_by hS) (h2.bindsN hb) hl h
end
/-! ### a draw -/
def RlDraw (p : Pot) : List D → (D → Prop) → Prop := fun ds A => ∃ many : Int, (0 < many ∧ many < 1000000) ∧ ds = [.adr p.P, .int many] ∧ A = fun d => ∃ r : Int, (0 ≤ r ∧ r < many) ∧ d = .int r
section
variable {P : Program} {w : World} {K : PySem.W.Frag} {mg : Str → Option Value} {base : Heap} {p : Pot}
theorem w_draw (T : Top K w mg) (hp : PotOk p) : @FnE (volP p) P w K mg base "_law_draw" 1 (RlDraw p) := by
  letI : Vol := volP p
  refine fnE_top T 75 ["_law_pot_here", "_law_many", "_law_turn", "_law_number", "_law_seed"] ["_law_pot_here", "_law_many"] (by decide) (by decide +kernel) (fun _ _ _ _ _ _ us hl => match us, hl with | [_, _], _ => rfl) (by rintro _ _ ⟨many, hm, rfl, rfl⟩; rfl) ?_
  intro X gf eP ew eK em eb ds d hR
  subst eP ew eK em eb
  obtain ⟨many, hm, rfl, rfl⟩ := hR
  have hsc := Eq.refl (defScope (top 75))
  conv at hsc => rhs; whnf
  rw [hsc] at gf
  have g := gf.g
  refine (?_ : DosE X _ [.fz (.adr p.P), .fz (.int many), .un, .un, .un] (RtA _))
  -- turn = pot[2]
  refine se_consE (R := fun z => ∃ n : Int, z = [.fz (.adr p.P), .fz (.int many), .fz (.int n), .un, .un]) (fun F0 H0 σ F H E s q => ?_) ?_
  · obtain ⟨n, gl, h1, h2, h3⟩ := s.st.fz.iv
    exact psR (ps_set gf.g.ndX (by rw [gf.g.hN]; rfl) (by rw [gf.g.hsc]; exact locC_of rfl) peS (by rfl) (.inl (gf.fn _))) (rd_ix g 0 (slot_adr s.ok rfl) h1 (i := 2) (v := .int n) rfl (q _ ⟨_, ⟨n, rfl⟩, rfl⟩ _ F H (s.set (i := 2) (v := .int n) (d := .int n) rfl (Nat.le_of_ble_eq_true rfl))))
  rintro _ ⟨n, rfl⟩
  -- pot[2] = turn + 1
  refine se_consE (R := fun z => z = [.fz (.adr p.P), .fz (.int many), .fz (.int n), .un, .un]) (fun F0 H0 σ F H E s q => ?_) ?_
  · obtain ⟨n', gl, h1, h2, h3⟩ := s.st.fz.iv
    refine psR (ps_asg peS (pg_sub (pe_nm g (i := 0) rfl rfl (by decide) (by decide)) pe_int set_list)) (peR (pe_op op_add (pe_nm g (i := 2) rfl rfl (by decide) (by decide)) pe_int) ⟨_, slot_int s.ok rfl, n, 1, rfl, rfl, ?_⟩)
    refine ⟨_, slot_adr s.ok rfl, p.P, _, 2, 2, rfl, rfl, h1, rfl, q _ ⟨_, rfl, rfl⟩ σ F _ (s.volw (a := p.P) (.inl rfl) ⟨n + 1, gl, upd_same, ?_, ?_⟩)⟩
    · rw [upd_ne hp.pg.symm]
      exact h2
    · rw [upd_ne hp.ps.symm]
      exact h3
  rintro _ rfl
  refine se_or (ρ1 := [.fz (.adr p.P), .fz (.int many), .fz (.int n), .un, .un]) (fun F0 H0 σ F H E s q => ?_) ?_
  · obtain ⟨n', gl, h1, h2, h3⟩ := s.st.fz.iv
    have sP := slot_adr s.ok (j := 0) rfl
    have sM := slot_int s.ok (j := 1) rfl
    refine psR (ps_if ptS pssS pssS) (ptR (pt_cmpR op_gt peS pe_int (by with_unfolding_all rfl)) (rd_len g 0 sP h1 rfl h2 ⟨_, 0, rfl, rfl, _, rfl, ?_⟩ (T.fr "len")))
    cases gl with
    | nil =>
      refine (if_neg (c := decide ((0 : Int) < (([] : List Int).map V.int).length) = true) (by decide)).mpr ?_
      exact pssR pss_nil (q _ (.inr rfl) σ F H s)
    | cons a r =>
      refine (if_pos (c := decide ((0 : Int) < (((a :: r).map V.int).length : Int)) = true) (decide_eq_true (by rw [List.length_map, List.length_cons]; omega))).mpr ?_
      -- number = pot[0][0]
      refine pssR (pss_cons psS pssS) (psR (ps_set gf.g.ndX (i := 3) (by rw [gf.g.hN]; rfl) (by rw [gf.g.hsc]; exact locC_of rfl) peS (by rfl) (.inl (gf.fn _))) (rd_ix2 g 0 sP h1 rfl h2 (i2 := 0) (v := .int a) (at0 _ _) ?_))
      have s1 := s.set (i := 3) (v := .int a) (d := .int a) rfl (Nat.le_of_ble_eq_true rfl)
      have sP := slot_adr s1.ok (j := 0) (a := p.P) rfl
      have sM := slot_int s1.ok (j := 1) (i := many) rfl
      have sA := slot_int s1.ok (j := 3) (i := a) rfl
      -- pot[0][0] = number // many
      refine pssR (pss_cons psS pssS) (psR (ps_asg peS (pg_sub peS pe_int set_list)) (peR (pe_op op_fdiv (pe_nm g (i := 3) rfl rfl (by decide) (by decide)) (pe_nm g (i := 1) rfl rfl (by decide) (by decide))) ⟨_, sA, _, sM, a, many, rfl, rfl, ⟨by omega, by omega⟩, ?_⟩))
      refine rd_ix g 0 sP h1 (i := 0) rfl ⟨p.G, _, 0, 0, rfl, rfl, h2, ix0 _, ?_⟩
      have i2 : PotAt p (upd H p.G (.lst ((V.int a :: r.map V.int).set 0 (.int (a / many))))) := ⟨n', (a / many) :: r, by rw [upd_ne hp.pg]; exact h1, upd_same, by rw [upd_ne hp.gs.symm]; exact h3⟩
      have s2 := s1.volw (a := p.G) (o := .lst ((V.int a :: r.map V.int).set 0 (.int (a / many)))) (.inr (.inl rfl)) i2
      -- if number < many: pot[0].pop(0)
      refine pssR (pss_cons psS pssS) (psR (ps_if ptS pssS pssS) (ptR (pt_cmpR op_lt (pe_nm g (i := 3) rfl rfl (by decide) (by decide)) (pe_nm g (i := 1) rfl rfl (by decide) (by decide)) (by with_unfolding_all rfl)) ⟨_, sA, _, sM, a, many, rfl, rfl, _, rfl, ?_⟩))
      have fin : ∀ {st : List Stmt}, Dos X st [.fz (.adr p.P), .fz (.int many), .fz (.int n), .fz (.int a), .un] (.rt (.int (a % many))) → ∀ Hz, SX F0 H0 [.fz (.adr p.P), .fz (.int many), .fz (.int n), .fz (.int a), .un] (σ.set 3 (some (.int a))) F Hz → tSl X st E (σ.set 3 (some (.int a))) Hz := fun h Hz sz =>
        h F0 H0 _ F Hz E sz (q _ (.inl ⟨_, ⟨a % many, ⟨Int.emod_nonneg _ (by omega), Int.emod_lt_of_pos _ hm.1⟩, rfl⟩, rfl⟩))
      by_cases c : a < many
      · refine (if_pos (c := decide (a < many) = true) (decide_eq_true c)).mpr ?_
        refine pssR (pss_one psS) (psR (ps_expr (pe_bm PySem.F.plainAttrs_list PySem.F.slot_list_pop PySem.F.type_list_pop mt_popAt peS (pa_cons pe_int pa_nil))) (rd_ix g 0 sP (by rw [upd_ne hp.pg]; exact h1) (i := 0) (v := .ref p.G) rfl ⟨.inl ⟨rfl, _, .inl (.inl upd_same)⟩, p.G, _, 0, 0, .int (a / many), rfl, rfl, upd_same, by decide, by decide, ?_, ?_, ?_⟩))
        · exact seq0 _
        · rfl
        · exact fin (s_one (s_ret (f_op (o_mod hm.1) ((f_callT g c_int (T.fr "int") (av_cons (f_name g 3).v av_nil)).v) ((f_name g 1).v)))) _ (s2.volw (a := p.G) (.inr (.inl rfl)) ⟨n', r, by rw [upd_ne hp.pg, upd_ne hp.pg]; exact h1, upd_same, by rw [upd_ne hp.gs.symm, upd_ne hp.gs.symm]; exact h3⟩)
      · refine (if_neg (c := decide (a < many) = true) (by rw [decide_eq_true_eq]; exact c)).mpr ?_
        exact pssR pss_nil (fin (s_one (s_ret (f_op (o_mod hm.1) ((f_callT g c_int (T.fr "int") (av_cons (f_name g 3).v av_nil)).v) ((f_name g 1).v)))) _ s2)
  -- seed = ..
  refine se_consE (se_set gf 4 (A := fun d => ∃ r : Int, True ∧ d = .int r) (ie_add (ie_add (ie_mulR ?_ ⟨by decide, by decide⟩) (ie_mulL (ie_of (f_name g 2)) ⟨by decide, by decide⟩)) (ie_mulR ?_ ⟨by decide, by decide⟩))) ?_
  · -- pot[1][int(turn) % len(pot[1])]
    intro σ F H Q f s q
    have sP := slot_adr s (j := 0) (a := p.P) rfl
    obtain ⟨n', gl, h1, h2, h3⟩ := id f.iv
    refine peR (pe_ix ix_list peS peS (fun _ _ => rfl)) (rd_ix g 0 sP h1 (i := 1) (v := .ref p.S) rfl ?_)
    refine peR (pe_op op_mod peS peS) (SemF.go (ρ := [.fz (.adr p.P), .fz (.int many), .fz (.int n), .un, .un]) (d := .int n) (f_callT g c_int (T.fr "int") (av_cons (f_name g 2).v av_nil)) f s fun v F1 H1 t1 r1 => ?_)
    obtain ⟨n'', gl', k1, k2, k3⟩ := id t1.fz.iv
    refine rd_len g 0 sP k1 (i := 1) rfl k3 ⟨n, _, r1, rfl, ?_, ?_⟩ (T.fr "len")
    · have := List.length_pos_iff.mpr hp.sn
      rw [List.length_map]
      omega
    · have hpos : 0 < (p.ss.length : Int) := by have := List.length_pos_iff.mpr hp.sn; omega
      have hb := Int.emod_nonneg n (b := (p.ss.length : Int)) (by omega)
      have hb2 := Int.emod_lt_of_pos n hpos
      have hi : (n % (p.ss.length : Int)).toNat < p.ss.length := by omega
      refine ⟨p.S, _, n % ((p.ss.map V.int).length : Int), .int (p.ss[(n % (p.ss.length : Int)).toNat]), rfl, rfl, .inl (.inl k3), ?_, q _ _ F1 H1 ⟨_, trivial, rfl⟩ t1 rfl⟩
      rw [List.length_map]
      unfold atI ixN
      rw [List.length_map, if_pos hb, if_pos hb2]
      show (p.ss.map V.int)[(n % (p.ss.length : Int)).toNat]? = _
      rw [List.getElem?_map, List.getElem?_eq_getElem hi]
      rfl
  · intro σ F H Q f s q
    obtain ⟨n', gl, h1, h2, h3⟩ := id f.iv
    exact rd_ix g 0 (slot_adr s (j := 0) (a := p.P) rfl) h1 (i := 3) (v := .int p.q) rfl (q _ _ F H ⟨p.q, trivial, rfl⟩ (.refl f) rfl)
  rintro _ ⟨_, ⟨s0, _, rfl⟩, rfl⟩
  have hmod : ∀ (i : Int) {m : Int}, 0 < m → 0 ≤ i % m ∧ i % m < m := fun i m h => ⟨Int.emod_nonneg i (by omega), Int.emod_lt_of_pos i h⟩
  let n1 := (s0 * 48271 + 11) % 2147483647
  let n2 := (n1 * (n1 / 1009 + 69621)) % 2147483629
  let n3 := (n2 * (n2 / 2003 + 40692) + n) % 2147483399
  have b1 := hmod (s0 * 48271 + 11) (m := 2147483647) (by decide)
  have b2 := hmod (n1 * (n1 / 1009 + 69621)) (m := 2147483629) (by decide)
  refine Dos.er (d := .int ((n3 / 64) % many)) (s_cons (ρ1 := [.fz (.adr p.P), .fz (.int many), .fz (.int n), .fz (.int n1), .fz (.int s0)]) (s_set gf 3 (f_op (o_mod (by decide)) ((f_callT g c_int (T.fr "int") (av_cons ((f_op o_add ((f_op (o_mul (.inr ⟨by decide, by decide⟩)) ((f_name g 4).v) (f_int.v)).v) (f_int.v)).v) av_nil)).v) (f_int.v))) <|
    s_cons (ρ1 := [.fz (.adr p.P), .fz (.int many), .fz (.int n), .fz (.int n2), .fz (.int s0)]) (s_set gf 3 (f_op (o_mod (by decide)) ((f_callT g c_int (T.fr "int") (av_cons ((f_op (o_mul (i := n1) (.inl ⟨by omega, by omega⟩)) ((f_name g 3).v) ((f_op o_add ((f_op (o_fdiv ⟨by decide, by decide⟩) ((f_name g 3).v) (f_int.v)).v) (f_int.v)).v)).v) av_nil)).v) (f_int.v))) <|
    s_cons (ρ1 := [.fz (.adr p.P), .fz (.int many), .fz (.int n), .fz (.int n3), .fz (.int s0)]) (s_set gf 3 (f_op (o_mod (by decide)) ((f_callT g c_int (T.fr "int") (av_cons ((f_op o_add ((f_op (o_mul (i := n2) (.inl ⟨by omega, by omega⟩)) ((f_name g 3).v) ((f_op o_add ((f_op (o_fdiv ⟨by decide, by decide⟩) ((f_name g 3).v) (f_int.v)).v) (f_int.v)).v)).v) ((f_name g 2).v)).v) av_nil)).v) (f_int.v))) <|
    s_last (s_ret (f_op (o_mod hm.1) ((f_callT g c_int (T.fr "int") (av_cons ((f_op (o_fdiv ⟨by decide, by decide⟩) ((f_name g 3).v) (f_int.v)).v) av_nil)).v) ((f_name g 1).v)))) ⟨_, hmod _ hm.1, rfl⟩
end
end KD

set_option Elab.async false
set_option linter.all false
set_option maxRecDepth 100000
set_option maxHeartbeats 2000000
/-! KP3: one of some things drawn. -/
namespace KD
open PySem PySem.Spec PyProof.Rows L2
section
variable [Vol] {X : Cx} {ρ : List SV} {pos : Pos} {a b : Expr} {ds : List D}
theorem e_ixL (ha : SemV X a ρ (.lst ds)) (hb : SemE X b ρ (fun d => ∃ r : Int, (0 ≤ r ∧ r < ds.length) ∧ d = .int r)) (hs : PlainIx b := by exact fun _ _ => rfl) : SemE X (.Subscript a b pos) ρ (fun d => d ∈ ds) := fun σ F H Q f s q =>
  peR (pe_ix ix_list peS peS hs) (ha σ F H _ f s fun vx F1 H1 t1 r1 => hb σ F1 H1 _ t1.fz (s.step t1) fun d vy F2 H2 hd t2 r2 => by
    obtain ⟨i, ⟨h0, h1⟩, rfl⟩ := hd
    obtain ⟨p, xs, e, r, z⟩ := r1.step t2
    have hi : i.toNat < ds.length := by omega
    have hd : atI ds i = some ds[i.toNat] := by
      unfold atI ixN
      rw [if_pos h0, if_pos h1]
      show ds[i.toNat]? = _
      rw [List.getElem?_eq_getElem hi]
    obtain ⟨v, ev, rv⟩ := z.at hd
    exact ⟨p, xs, i, v, e, r2, .inl r.1, ev, q _ v F2 H2 (List.getElem_mem hi) (t1.trans t2) rv⟩)
end
def RlAny (p : Pot) : List D → (D → Prop) → Prop := fun ds A => ∃ items : List D, (items ≠ [] ∧ items.length < 100000) ∧ ds = [.adr p.P, .lst items] ∧ A = fun d => d ∈ items
section
variable {P : Program} {w : World} {K : PySem.W.Frag} {mg : Str → Option Value} {base : Heap} {p : Pot}
theorem w_any (T : Top K w mg) (hp : PotOk p) : @FnE (volP p) P w K mg base "_law_any" 2 (RlAny p) := by
  letI : Vol := volP p
  refine fnE_top T 76 ["_law_pot_here", "_law_items"] ["_law_pot_here", "_law_items"] (by decide) (by decide +kernel) (fun _ _ _ _ _ _ us hl => match us, hl with | [_, _], _ => rfl) (by rintro _ _ ⟨items, hm, rfl, rfl⟩; rfl) ?_
  intro X gf eP ew eK em eb ds d hR
  subst eP ew eK em eb
  obtain ⟨items, hm, rfl, rfl⟩ := hR
  have hsc := Eq.refl (defScope (top 76))
  conv at hsc => rhs; whnf
  rw [hsc] at gf
  have g := gf.g
  have hpos := List.length_pos_iff.mpr hm.1
  refine (?_ : DosE X _ [.fz (.adr p.P), .fz (.lst items)] (RtA _))
  refine se_last (se_ret (e_ixL (f_name g 1).v (e_call g (w_draw T hp) (by decide) (SemA.ee (a_cons (f_name g 0) (a_cons (f_callB g c_lenL (T.fr "len") (av_cons (f_name g 1).v av_nil)) a_nil))) ?_)))
  rintro _ rfl
  exact ⟨_, ⟨items.length, ⟨by omega, by omega⟩, rfl, rfl⟩, fun d h => h⟩
end
end KD

set_option Elab.async false
set_option linter.all false
set_option maxRecDepth 100000
set_option maxHeartbeats 3200000
/-! KS: sets of texts, made of a list, sorted. -/
namespace KS
open PySem PySem.Spec PyProof.Rows L2
def keyT (e : Int × Value) : Str := match e.2 with
  | .str z _ => z
  | _ => Str.empty
def GoodT (w : World) (e : Int × Value) : Prop := ∃ z u, e.2 = Value.str z u ∧ e.1 = hashStr w z
/-- what a set's object holds: these texts, each once -/
structure Holds (w : World) (o : Obj) (es : Array (Int × Value)) (ep : Nat) (t : SetTable) (l : List Str) : Prop where
  x : o.ExactSet
  dt : o.data = .set es ep t
  good : ∀ e ∈ es.toList, GoodT w e
  keys : (es.toList.map keyT).Perm l
  nd : l.Nodup
  few : l.length < 64
  fit : t.fits es.size = true
  ris : Ris t.place.toList
  led : w.params.followText "set-order" = true ∨ t.led = true
def TxSet (w : World) (h : Heap) (a : Addr) (l : List Str) : Prop := ∃ o es ep t, h.get? a = some o ∧ Holds w o es ep t l
section
variable {P : Program} {w : World}
theorem Holds.size {o : Obj} {es : Array (Int × Value)} {ep : Nat} {t : SetTable} {l : List Str} (B : Holds w o es ep t l) : es.size = l.length := by
  have := B.keys.length_eq
  rw [List.length_map, Array.length_toList] at this
  exact this
theorem Holds.scan {o : Obj} {es : Array (Int × Value)} {ep : Nat} {t : SetTable} {l : List Str} (B : Holds w o es ep t l) : es.size < scanBound := by
  have h1 := B.size
  have h2 := B.few
  unfold scanBound
  omega
theorem TxSet.at {h h' : Heap} {a : Addr} {l : List Str} (R : TxSet w h a l) (k : ∀ o, h.get? a = some o → h'.get? a = some o) : TxSet w h' a l :=
  match R with
  | ⟨o, es, ep, t, ho, B⟩ => ⟨o, es, ep, t, k o ho, B⟩
theorem elems {l : List (Int × Value)} (g : ∀ e ∈ l, GoodT w e) : ElemsOf (strKind P w) l := fun e he =>
  match g e he with
  | ⟨z, u, q1, q2⟩ => ⟨⟨z, by rw [q1]; exact strKind_is P w z u, q2⟩, by rw [q1]; rfl⟩
theorem is_key {e : Int × Value} (g : GoodT w e) (z : Str) : (strKind P w).is z e.2 = true ↔ keyT e = z := by
  obtain ⟨y, u, q1, _⟩ := g
  unfold keyT
  rw [q1]
  constructor
  · intro h
    exact (strKind P w).inj _ _ _ (strKind_is P w y u) h
  · intro h
    have h : y = z := h
    rw [h]
    exact strKind_is P w z u
variable {A : Around} {E : Value → Shared → Prop} {s : Shared} {a : Addr} {l : List Str}
theorem quiet_rule {r : String} {c : Bool} {s' : Shared} {Q' : Unit → Shared → Prop} (q : Q' () s') : wpAny (model P w) A (match c with | true => rule r | false => pure ()) Q' E s' := by
  cases c
  · exact wpAny_pure q
  · exact wpAny_rule q
/-- the tail of a store: laid anew when it is too full -/
theorem store_tail {gv : Bool → Sem Unit} (hgv : ∀ (b : Bool) (s1 : Shared) (Q1 : Unit → Shared → Prop), Q1 () s1 → wpAny (model P w) A (gv b) Q1 E s1) {o : Obj} {es : Array (Int × Value)} {ep : Nat} {t : SetTable} (ho : s.heap.get? a = some o) (hex : o.ExactSet) (hd : o.data = .set es ep t)
    {fs : Array (Int × Value)} {u : SetTable} {l' : List Str} (g1 : ∀ e ∈ fs.toList, GoodT w e) (p1 : (fs.toList.map keyT).Perm l') (n1 : l'.Nodup) (f1 : l'.length < 64) (hf : u.fits fs.size = true) (hr : Ris u.place.toList) (hl : w.params.followText "set-order" = true ∨ u.led = true) {dm : Bool} {R : Option Bool → Shared → Prop}
    (hR : ∀ h2, Heap.SameBut a s.heap h2 → TxSet w h2 a l' → R (some true) { s with heap := h2 }) :
    wpAny (model P w) A (do
      storeSet a fs u
      if (!dm && u.tooFull) = true then do
        gv (relayAll u fs (SetTable.grown fs.size)).2.2
        storeSet a (relayAll u fs (SetTable.grown fs.size)).1 (relayAll u fs (SetTable.grown fs.size)).2.1
        pure (some true)
      else pure (some true)) R E s := by
  have z1 : fs.size = l'.length := by
    have := p1.length_eq
    rw [List.length_map, Array.length_toList] at this
    exact this
  have c1 : fs.size < scanBound := by unfold scanBound; omega
  have at1 := store_at (es' := fs) (t' := u) ho hd
  have same1 := Heap.SameBut.update s.heap a (Obj.putSet fs u)
  refine wpAny_bind (wpAny_storeSet_of ho hd ?_ (fits_of_scanBound c1))
  split
  · have pm := relayAll_perm u fs (SetTable.grown fs.size)
    have k1 := relayAll_fits u fs (SetTable.grown fs.size)
    have k2 := relayAll_ris u fs (SetTable.grown fs.size)
    have k3 := relayAll_led u fs (SetTable.grown fs.size)
    generalize relayAll u fs (SetTable.grown fs.size) = W at pm k1 k2 k3 ⊢
    obtain ⟨gs, v, gave⟩ := W
    dsimp only at pm k1 k2 k3 ⊢
    have z2 : gs.size = fs.size := by
      have := pm.length_eq
      rw [Array.length_toList, Array.length_toList] at this
      exact this
    refine wpAny_bind (hgv _ _ _ (wpAny_bind (wpAny_storeSet_of at1 rfl ?_ (fits_of_scanBound (by omega)))))
    exact wpAny_pure (hR _ (same1.trans (Heap.SameBut.update _ a _)) ⟨_, gs, _, v, store_at (es' := gs) (t' := v) at1 rfl, hex, rfl, fun e he => g1 e (pm.mem_iff.mp he), (pm.map keyT).trans p1, n1, f1, k1, k2, hl.imp id fun q => by rw [k3]; exact q⟩)
  · exact wpAny_pure (hR _ same1 ⟨_, fs, _, u, at1, hex, rfl, g1, p1, n1, f1, hf, hr, hl⟩)
/-- a text comes into the set -/
theorem add {z : Str} {u : Tok} {Q : Bool → Shared → Prop} (R : TxSet w s.heap a l) (room : l.length + 1 < 64) (h0 : z ∈ l → Q false s) (h1 : z ∉ l → ∀ h2, Heap.SameBut a s.heap h2 → TxSet w h2 a (z :: l) → Q true { s with heap := h2 }) :
    wpAny (model P w) A (setAddHashed a (.str z u) ((strKind P w).hash z)) Q E s := by
  obtain ⟨o, es, ep, t, ho, B⟩ := R
  have hk : (strKind P w).is z (.str z u) = true := strKind_is P w z u
  have hsc : (Value.str z u).scannable = true := rfl
  have hel : ElemsOf (strKind P w) es.toList := elems B.good
  unfold setAddHashed setAddHashedIn
  refine wpAny_holding (wpAny_bind (wpAny_setState_of ho B.dt B.fit ?_))
  dsimp only
  rw [byScan_of hsc B.scan hel]
  simp only [↓reduceIte]
  unfold setAddByScan
  refine wpAny_bind (wpAny_bind (wpAny_rule (wpAny_bind (wpAny_setScan_of hk ho B.dt B.fit hel ?_))))
  cases hf : List.findIdx? (fun e => (strKind P w).is z e.2) es.toList with
  | some j =>
    dsimp only
    obtain ⟨hj, pj, _⟩ := List.findIdx?_eq_some_iff_getElem.mp hf
    have hz : z ∈ l := B.keys.mem_iff.mp (List.mem_map.mpr ⟨es.toList[j], List.getElem_mem hj, (is_key (B.good _ (List.getElem_mem hj)) z).mp pj⟩)
    exact wpAny_pure (wpAny_pure (h0 hz))
  | none =>
    dsimp only
    have hz : z ∉ l := fun q => by
      obtain ⟨e, he, q2⟩ := List.mem_map.mp (B.keys.mem_iff.mpr q)
      have q3 := List.findIdx?_eq_none_iff.mp hf e he
      rw [(is_key (B.good e he) z).mpr q2] at q3
      cases q3
    have pm := layNew_perm t es ((strKind P w).hash z) (.str z u)
    have k1 := layNew_fits t es ((strKind P w).hash z) (.str z u)
    have k2 := layNew_ris t es ((strKind P w).hash z) (.str z u) B.ris
    have k3 := layNew_led t es ((strKind P w).hash z) (.str z u)
    generalize layNew t es ((strKind P w).hash z) (.str z u) = W at pm k1 k2 k3 ⊢
    obtain ⟨fs, v, dm, gave⟩ := W
    dsimp only at pm k1 k2 k3 ⊢
    rw [Array.toList_push] at pm
    have pc : fs.toList.Perm (((strKind P w).hash z, Value.str z u) :: es.toList) := pm.trans (List.perm_append_singleton _ _)
    have p1 : (fs.toList.map keyT).Perm (z :: l) := (pc.map keyT).trans (B.keys.cons z)
    have g1 : ∀ e ∈ fs.toList, GoodT w e := fun e he => by
      rcases List.mem_cons.mp (pc.mem_iff.mp he) with q | q
      · rw [q]
        exact ⟨z, u, rfl, rfl⟩
      · exact B.good e q
    have n1 : (z :: l).Nodup := List.nodup_cons.mpr ⟨hz, B.nd⟩
    have l1 : w.params.followText "set-order" = true ∨ v.led = true := B.led.imp id fun q => by rw [k3]; exact q
    refine wpAny_bind (quiet_rule ?_)
    split
    · refine wpAny_bind ?_
      rw [hashByValue_scannable 8 hsc]
      refine wpAny_pure (store_tail (fun b s1 Q1 q => by cases b <;> first | exact wpAny_pure q | exact wpAny_rule q) ho B.x B.dt g1 p1 n1 room ?_ ?_ ?_ fun h2 sb r => by dsimp only; exact wpAny_pure (h1 hz h2 sb r))
      · first | (split <;> first | exact k1 | exact SetTable.fits_plain_off k1) | exact k1
      · first | (split <;> exact k2) | exact k2
      · first | (split <;> exact l1) | exact l1
    · refine wpAny_bind (wpAny_pure ?_)
      simp only [↓reduceIte]
      exact store_tail (fun b s1 Q1 q => by cases b <;> first | exact wpAny_pure q | exact wpAny_rule q) ho B.x B.dt g1 p1 n1 room k1 k2 l1 fun h2 sb r => by dsimp only; exact wpAny_pure (h1 hz h2 sb r)
theorem fresh {h : Heap} (ho : h.get? a = some { cls := .type "set", dict := none, data := .set #[] 0 (.fresh 0 0 (!w.params.followText "set-order")) }) : TxSet w h a [] :=
  ⟨_, #[], 0, _, ho, ⟨rfl, rfl, rfl⟩, rfl, fun e he => by simp at he, List.Perm.refl _, List.nodup_nil, by decide, rfl, List.Pairwise.nil, by
    show _ ∨ (!w.params.followText "set-order") = true
    cases w.params.followText "set-order"
    · right; rfl
    · left; rfl⟩
/-- what the loop has met so far -/
def Met (xs : List Str) (i : Nat) (l : List Str) : Prop := (∀ z, z ∈ l ↔ z ∈ xs.take i) ∧ l.length ≤ i
/-- set.update, item by item -/
theorem update {I : Addr} {fp wr : List Addr} {G : Array GenState → Array GenState → Prop} {n : Nat} {Pv : Nat → Value → Prop} {St : Nat → Shared → Prop} {R : Result → Shared → Prop} (W : WalksS P w A.in1 I fp wr G n Pv St) (b : Addr) (hb : b ∉ fp) (xs : List Str) (hn : n = xs.length) (h64 : xs.length < 63)
    (hv : ∀ i v, Pv i v → ∃ z u, xs[i]? = some z ∧ v = .str z u) : ∀ (m i : Nat) (s : Shared), n - i = m → i ≤ n → St i s → (∃ l, Met xs i l ∧ TxSet w s.heap b l) →
      (∀ s' l, Moved (b :: wr) G s s' → Met xs n l → TxSet w s'.heap b l → R (.ok (.ret .none)) s') → codeAny (model P w) A (.builtin "set.update.loop" ⟨[.ref b, .ref I], []⟩) R s := by
  have hbw : b ∉ wr := fun q => hb (W.sub _ q)
  intro m
  induction m with
  | zero =>
    rintro i s hm hi hst ⟨l, hl, hS⟩ hR
    have ei : i = n := by omega
    subst ei
    refine codeAny_builtin F.entry_set_update_loop ?_
    rw [Around.under_plainId F.plain_set_update_loop _]
    refine (show wpAny _ A.in1 (pyNext (.ref I) >>= _) _ _ s from wpAny_bind (W.done s _ _ hst fun s' mv => ?_))
    refine (show wpAny _ A.in1 (ret Value.none) _ _ s' from wpAny_pure (hR s' l (mv.mono fun c q => List.mem_cons_of_mem _ q) hl (hS.at fun o e => mv.heap b o hbw e)))
  | succ m ih =>
    rintro i s hm hi hst ⟨l, hl, hS⟩ hR
    have hlt : i < n := by omega
    refine codeAny_builtin F.entry_set_update_loop ?_
    rw [Around.under_plainId F.plain_set_update_loop _]
    refine (show wpAny _ A.in1 (pyNext (.ref I) >>= _) _ _ s from wpAny_bind (W.item i s _ _ hlt hst fun v s' hP hst' mv => ?_))
    obtain ⟨z, u, hz, rfl⟩ := hv i v hP
    have hS1 : TxSet w s'.heap b l := hS.at fun o e => mv.heap b o hbw e
    have tk : xs.take (i + 1) = xs.take i ++ [z] := by rw [List.take_add_one, hz]; rfl
    refine (show wpAny _ A.in1 (holding [Value.str z u] (setAdd b (.str z u)) >>= _) _ _ s' from wpAny_bind (wpAny_holding ?_))
    unfold setAdd
    refine wpAny_holding (wpAny_bind ((strKind P w).pyHash (k := z) (strKind_is _ _ _ _) ?_))
    refine add (s := { s' with toks := s'.toks + 1 }) hS1 (by have := hl.2; omega) (fun q => ?_) fun q h2 sb r => ?_
    · have hl2 : Met xs (i + 1) l := ⟨fun y => by
        rw [tk, List.mem_append, List.mem_singleton, hl.1]
        exact ⟨.inl, fun k => k.elim id fun k => by rw [k]; exact (hl.1 z).mp q⟩, by have := hl.2; omega⟩
      refine wpAny_pure ⟨plainId_quiet F.plain_set_update_loop _, ih (i + 1) _ (by omega) hlt (W.frame _ s' _ _ hst' (Nat.le_succ _) fun c hc o e => e) ⟨l, hl2, hS1⟩ fun s2 l2 mv2 hl3 hS3 => ?_⟩
      exact hR s2 l2 (Moved.trans W.gtrans ((mv.mono fun c k => List.mem_cons_of_mem _ k).then_heap (Nat.le_succ _) fun c o hc e => e) mv2) hl3 hS3
    · have hl2 : Met xs (i + 1) (z :: l) := ⟨fun y => by
        rw [tk, List.mem_append, List.mem_singleton, List.mem_cons, hl.1]
        exact or_comm, by have := hl.2; rw [List.length_cons]; omega⟩
      refine wpAny_pure ⟨plainId_quiet F.plain_set_update_loop _, ih (i + 1) _ (by omega) hlt (W.frame _ s' _ _ hst' (Nat.le_succ _) fun c hc o e => (sb.2 c fun k : c = b => hb (k ▸ hc)).trans e) ⟨_, hl2, r⟩ fun s2 l2 mv2 hl3 hS3 => ?_⟩
      exact hR s2 l2 (Moved.trans W.gtrans ((mv.mono fun c k => List.mem_cons_of_mem _ k).then_heap (Nat.le_succ _) fun c o hc e => (sb.2 c fun k : c = b => hc (by rw [k]; exact List.mem_cons_self)).trans e) mv2) hl3 hS3
end
end KS

set_option Elab.async false
set_option linter.all false
set_option maxRecDepth 100000
set_option maxHeartbeats 3200000
/-! KS2: set(list of texts); sorted of such a set. -/
namespace KS
open PySem PySem.Spec PyProof.Rows L2
section
variable {P : Program} {w : World} {A : Around} {E : Value → Shared → Prop} {s : Shared}
/-- a set, from nothing -/
abbrev setO0 (w : World) : Obj := { cls := .type "set", dict := none, data := .set #[] 0 (.fresh 0 0 (!w.params.followText "set-order")) }
theorem strs_of {us : List Value} {xs : List Str} (h : StrsAre us xs) : ∀ (i : Nat) (v : Value), us[i]? = some v → ∃ (z : Str) (u : Tok), xs[i]? = some z ∧ v = Value.str z u := by
  induction h with
  | nil => intro i v e; simp at e
  | cons z u _ ih =>
    intro i v e
    cases i with
    | zero => exact ⟨z, u, rfl, (Option.some.inj e).symm⟩
    | succ i => exact ih i v e
/-- set(list of texts) -/
theorem call_set {L : Addr} {items : Array Value} (xs : List Str) {Q : Value → Shared → Prop} (hh : A.handled = none) (hl : s.heap.IsList L items) (hit : StrsAre items.toList xs) (h64 : xs.length < 63)
    (h : ∀ (h2 : Heap) (tk : Nat) (l : List Str), TxSet w h2 s.heap.objs.size l → (∀ z, z ∈ l ↔ z ∈ xs) → (∀ b o, s.heap.get? b = some o → h2.get? b = some o) → Q (.ref s.heap.objs.size) { s with heap := h2, toks := tk }) :
    wpAny (model P w) A (call (.type "set") [.ref L]) Q E s := by
  have hsz : items.size = xs.length := by
    have := StrsAre.length hit
    rw [Array.length_toList] at this
    exact this
  obtain ⟨c, tl, hmro⟩ := F.called_set.mro
  have hmade := F.called_set.made
  have hsub := F.called_set.sub
  refine wpAny_call (codeAny_of_tree (show wpAny _ _ (callAny (.type "set") _) _ _ _ from wpAny_pure ⟨Code.quiet_builtin _ (by decide +kernel), codeAny_builtin F.entry_type_call ?_⟩))
  rw [Around.under_plain (weight_type_call_type "set" [.ref L] []) rfl]
  have f1 := F.called_set.notType
  have f2 := F.called_set.canCreate
  have f3 := F.typeCall_set_1 (.ref L)
  repeat any_goals first | assumption | wp_step
  refine codeAny_mono (code_set_led1 (.ref L) (E := E) (Q₁ := fun ob s1 => ob = .ref s.heap.objs.size ∧ s1 = { s with heap := s.heap.push (setO0 w) }) ⟨rfl, rfl⟩) fun r s1 hr => ?_
  rcases r with e | fl
  · exact hr
  cases fl with
  | ret ob =>
    obtain ⟨rfl, rfl⟩ := hr
    have hS : (s.heap.push (setO0 w)).get? s.heap.objs.size = some (setO0 w) := Heap.get?_push_size _ rfl
    have hT : Shared.TypeIs { s with heap := s.heap.push (setO0 w) } (.ref s.heap.objs.size) "set" := ⟨_, hS, rfl⟩
    have f4 := F.called_set.init.lookup
    have f5 := F.called_set.init.bind (.ref s.heap.objs.size)
    repeat any_goals first | assumption | wp_step
    refine codeAny_mono (codeAny_call_builtin (R := wants (fun r s2 => r = .none ∧ ∃ h2 tk l, s2 = { s with heap := h2, toks := tk } ∧ TxSet w h2 s.heap.objs.size l ∧ (∀ z, z ∈ l ↔ z ∈ xs) ∧ ∀ b o, s.heap.get? b = some o → h2.get? b = some o) E) F.called_set.init.plain F.entry_set_init (check_set_init_1 hT ?_)) fun r2 s2 hr2 => ?_
    · obtain ⟨⟨oc, od, dt, osl⟩, hol, hcl, nl, hdl⟩ := hl
      simp only at hcl hdl
      subst hcl hdl
      have hol' : (s.heap.push (setO0 w)).get? L = some { cls := .type "list", dict := od, data := .seq items nl, slots := osl } := Heap.get?_push_of_some _ hol
      have f6 := F.sub_list_set
      have f7 := F.sub_list_frozenset
      have f8 : (Value.type "list" == Value.type "dict") = false := by decide
      have hl1 : (s.heap.push (setO0 w)).IsList L items := ⟨_, hol', rfl, nl, rfl⟩
      unfold Builtin.«set.__init__» noKeywords Builtin.Frozenset.updateFrom
      generalize hPI : pyIter = PI
      wp_walk
      subst hPI
      refine wpAny_pyIter_list hl1 (wpAny_bind (wpAny_runValue ?_))
      have hlS : L < s.heap.objs.size := Heap.lt_size hol
      have hh3 : A.in1.in1.in1.handled = none := by simp [hh]
      have hI : L ≠ (s.heap.push (setO0 w)).objs.size := by
        rw [Heap.size_push]
        exact fun q => Nat.lt_irrefl _ (Nat.lt_of_succ_lt (q ▸ hlS : s.heap.objs.size + 1 < s.heap.objs.size))
      have hSf : s.heap.objs.size ∉ [(s.heap.push (setO0 w)).objs.size, L] := by
        rw [Heap.size_push]
        intro q
        rcases List.mem_cons.mp q with q | q
        · exact Nat.lt_irrefl _ (show s.heap.objs.size < s.heap.objs.size from Nat.lt_of_lt_of_eq (Nat.lt_succ_self _) q.symm)
        · exact Nat.lt_irrefl _ (Nat.lt_of_le_of_lt (Nat.le_of_eq (List.mem_singleton.mp q)) hlS)
      refine update ((Walks.list hh3 _ L hI items).toS) s.heap.objs.size hSf xs hsz h64 (fun i v hv => strs_of hit i v (by rw [Array.getElem?_toList]; exact hv)) (items.size - 0) 0 _ (by omega) (Nat.zero_le _) ⟨⟨_, Heap.get?_push_size _ rfl, rfl, rfl⟩, hl1.push _⟩ ?start ?fin
      case start => exact ⟨[], ⟨fun z => by simp, Nat.le_refl _⟩, fresh (Heap.get?_push_of_some _ hS)⟩
      case fin =>
        intro s' l mv hl2 hS2
        obtain ⟨h2, g2, d2, tk, os2⟩ := s'
        have eg : g2 = s.gens := mv.gens
        have ed : d2 = s.drawn := mv.drawn
        have eo : os2 = s.os := mv.os
        subst eg ed eo
        refine (show wpAny _ _ _ _ _ _ from wpAny_pure (show wpAny _ _ (ret Value.none) _ _ _ from wpAny_pure ⟨rfl, h2, tk, l, rfl, hS2, fun z => ?_, fun b o e => ?_⟩))
        · rw [hl2.1, hsz, List.take_length]
        · have q := Heap.lt_size e
          refine mv.heap b o ?_ (Heap.get?_push_of_some _ (Heap.get?_push_of_some _ e))
          rw [Heap.size_push]
          intro q2
          rcases List.mem_cons.mp q2 with q2 | q2
          · exact Nat.lt_irrefl _ (Nat.lt_of_le_of_lt (Nat.le_of_eq q2.symm) q)
          · exact Nat.lt_irrefl _ (Nat.lt_of_succ_lt (Nat.lt_of_le_of_lt (Nat.le_of_eq (List.mem_singleton.mp q2).symm) q))
    · rcases r2 with e | fl2
      · exact hr2
      cases fl2 with
      | ret r =>
        obtain ⟨rfl, h2, tk, l, rfl, hS2, hl2, hk⟩ := hr2
        repeat any_goals first | assumption | wp_step
        exact h _ _ _ hS2 hl2 hk
      | _ => exact hr2.elim
  | _ => exact hr.elim
end
end KS

set_option Elab.async false
set_option linter.all false
set_option maxRecDepth 100000
set_option maxHeartbeats 3200000
/-! KS3: sorted(set(..)) of texts, over the layer and over data. -/
namespace KS
open PySem PySem.Spec PyProof.Rows L2
theorem strs_each : ∀ (us : List Value), (∀ v ∈ us, ∃ z u, v = Value.str z u) → StrsAre us (us.map fun v => keyT (0, v))
  | [], _ => .nil
  | v :: r, h => by
    obtain ⟨z, u, rfl⟩ := h v List.mem_cons_self
    exact .cons z u (strs_each r fun x hx => h x (List.mem_cons_of_mem _ hx))
section
variable {P : Program} {w : World} {A : Around} {E : Value → Shared → Prop} {s : Shared} {a : Addr} {l : List Str}
theorem sorted_tx {Q : Value → Shared → Prop} (R : TxSet w s.heap a l) (hh : A.handled = none)
    (hQ : ∀ s2 p (out : Array Value) (c : Nat) (ys : List Str), (∀ b o, s.heap.get? b = some o → s2.heap.get? b = some o) → s2.gens = s.gens → s2.os = s.os → s.heap.objs.size ≤ p → s2.heap.get? p = some (seqObj "list" out c) → StrsAre out.toList ys → ys.Perm l → sortedS ys = true → Q (.ref p) s2) :
    wpAny (model P w) A (call (.builtin "sorted") [.ref a]) Q E s := by
  obtain ⟨o, es, ep, t, ho, B⟩ := R
  refine Calls.call_function_entry kind_sorted plain_sorted entry_sorted (args_sorted1 _) ?_
  unfold Builtin.«sorted»
  refine wpAny_bind (m := checkCount "sorted" 1 1 _) (wpAny_pure (wpAny_bind (collect_set (A := A.in1) hh ⟨o, ho, B.x.1, B.dt⟩ B.fit B.scan B.ris B.led fun s1 vs k1 hz g1 o1 pm => ?_)))
  have hvl : vs.length = l.length := by rw [pm.length_eq, List.length_map, Array.length_toList, B.size]
  have hS : StrsAre vs (vs.map fun v => keyT (0, v)) := strs_each vs fun v hv => by
    obtain ⟨e, he, q⟩ := List.mem_map.mp (pm.mem_iff.mp hv)
    obtain ⟨z, u, q2, _⟩ := B.good e he
    exact ⟨z, u, by rw [← q]; exact q2⟩
  have pk : (vs.map fun v => keyT (0, v)).Perm l := by
    have q := pm.map fun v => keyT (0, v)
    rw [List.map_map] at q
    exact q.trans B.keys
  have few := B.few
  refine wpAny_bind (wpAny_newList ?_ (by rw [hvl, sizeLine_eq]; omega))
  have at0 : (s1.heap.push (seqObj "list" vs.toArray 0)).get? s1.heap.objs.size = some (seqObj "list" vs.toArray 0) := Heap.get?_push_size _ rfl
  refine wpAny_bind (wpAny_holding (wpAny_call_entry slot_list_sort ⟨_, at0, rfl⟩ entry_list_sort
    (list_sort_treeK strKind_oneLt (s := { s1 with heap := s1.heap.push (seqObj "list" vs.toArray 0) }) at0 hS.keysOf (fun v1 v2 rest e => keyKind_strs (by rw [← e]; exact hS)) (by rw [hvl]; exact few) fun st2 hp hs => ⟨_, rfl, ?_⟩) (args_list_sort _)))
  obtain ⟨ys, q1, q2, q3⟩ := sorted_out_str hS hp hs
  obtain ⟨c, hc⟩ := sortedHeap_at (vs := vs) (out := (arrOf st2).map (·.2)) at0
  refine wpAny_pure ⟨_, rfl, hQ _ s1.heap.objs.size _ c ys (fun b u e => ?_) g1 o1 hz hc q1 (q2.trans pk) q3⟩
  have q := k1 b u e
  have hlt := Heap.lt_size q
  refine (sortedHeap_old (Nat.ne_of_lt hlt) (by rw [size_push']; exact Nat.lt_succ_of_lt hlt)).trans ?_
  exact Heap.get?_push_of_some _ q
end
/-- the set at a -/
def TxO (w : World) (a : Addr) (l : List Str) : HO := .ext fun h => TxSet w h a l
section
variable {X : Cx}
theorem txO_new {w : World} {P : Program} {H : Hp} {h : Heap} {a : Addr} {l : List Str} (R : TxSet w h a l) : ObjOk P w H h a (TxO w a l) :=
  ⟨R, match R with | ⟨o, _, _, _, ho, _⟩ => ⟨o, ho⟩, fun h1 h2 p k => TxSet.at p k⟩
theorem txO_get {pins : List (Addr × Obj)} {σ : L2.St} {H : Hp} {s : Shared} {a : Addr} {l : List Str} (I : Inv X pins σ H s) (ha : H a = some (TxO X.w a l)) : TxSet X.w s.heap a l := (I.hok a _ ha).1
def rSetS (K : PySem.W.Frag) (w : World) : List V → Hp → VK → Prop := fun vs H Q => ∃ (L : Addr) (xs : List Str), vs = [V.ref L] ∧ SqL K H L (xs.map V.str) ∧ xs.length < 63 ∧
  ∀ (l : List Str) (p : Addr), (∀ z, z ∈ l ↔ z ∈ xs) → H p = none → Q (.ref p) (upd H p (TxO w p l))
theorem cr_setS (hc : X.calm = true) : CallR X (.type "set") (rSetS X.K X.w) := by
  rintro pins s σ H vs us Q I r ⟨L, xs, rfl, hq, h63, q⟩
  rw [Vals.ref1 r]
  obtain ⟨its, rv, pl, hz⟩ := I.list hq
  refine call_set xs (I.ok.hd hc) pl.isList (by simpa using strsAre_of rv) h63 fun h2 tk l hS hm hk => ?_
  have I2 : Inv X pins σ H { s with heap := h2, toks := tk } := I.kept (t' := tk) fun b o e => hk b o e
  have hn : H s.heap.objs.size = none := I.hok.fresh (Nat.le_refl _)
  have J : Inv X pins σ (upd H s.heap.objs.size (TxO X.w s.heap.objs.size l)) { s with heap := h2, toks := tk } := I.laid (t' := tk) (fun b u e => hk b u e) (Nat.le_refl _) (txO_new hS)
  exact ⟨.ref _, _, J, rfl, q l _ hm hn⟩
def rSrtS (w : World) : List V → Hp → VK → Prop := fun vs H Q => ∃ (a : Addr) (l : List Str), vs = [V.ref a] ∧ H a = some (TxO w a l) ∧
  ∀ (ys : List Str) (p : Addr), ys.Perm l → l.Nodup → sortedS ys = true → H p = none → Q (.ref p) (upd H p (.lst (ys.map V.str)))
theorem cr_srtS (hc : X.calm = true) : CallR X (.builtin "sorted") (rSrtS X.w) := by
  rintro pins s σ H vs us Q I r ⟨a, l, rfl, ha, q⟩
  have R := txO_get I ha
  rw [Vals.ref1 r]
  have nd : l.Nodup := match R with | ⟨_, _, _, _, _, B⟩ => B.nd
  have few : l.length < 64 := match R with | ⟨_, _, _, _, _, B⟩ => B.few
  refine sorted_tx R (I.ok.hd hc) fun s2 p out c ys k g o hp hg hs pm so => ?_
  have hlen : (ys.map V.str).length ≤ sizeLine := by
    rw [List.length_map, pm.length_eq, sizeLine_eq]
    omega
  have hn : H p = none := I.hok.fresh hp
  have J : Inv X pins σ (upd H p (.lst (ys.map V.str))) { s with heap := s2.heap, gens := s2.gens, drawn := s2.drawn, toks := s2.toks } :=
    I.call (ch := []) (Un.laid k hp hn) (I.hok.laid k hp ⟨hlen, out.toList, c, vals_of_strs hs, hg⟩) (by rw [g]; exact I.bare) (fun _ z => nomatch z)
  have e : s2 = { s with heap := s2.heap, gens := s2.gens, drawn := s2.drawn, toks := s2.toks } := by
    cases s2
    cases s
    cases o
    rfl
  rw [e]
  exact ⟨.ref p, _, J, rfl, q ys p pm nd so hn⟩
end
end KS
namespace KD
open PySem PySem.Spec PyProof.Rows L2
section
variable [Vol] {X : Cx} {N : List Str} {sc : Scope} {k : Nat} {ρ : List SV} {pos p1 p2 p3 : Pos} {e : Expr}
/-- tuple(sorted(set(xs))), texts -/
theorem e_tss (g : Gd X N sc k) {B : List Str → Prop} (h : SemNE X e ρ (fun d => ∃ xs : List Str, B xs ∧ d = .lst (xs.map D.str))) (hl : ∀ xs, B xs → xs.length < 63) (hm1 : X.mg "tuple" = none) (hm2 : X.mg "sorted" = none) (hm3 : X.mg "set" = none) (hg1 : glB sc "tuple" = true := by rfl) (hg2 : glB sc "sorted" = true := by rfl) (hg3 : glB sc "set" = true := by rfl)
    (hs1 : starEach [e] X.env = (false, eval e X.env) :: starEach [] X.env := by rfl) {q1 q2 q3 : Pos} :
    SemE X (.Call (.Name "tuple" p1) [.Call (.Name "sorted" p2) [.Call (.Name "set" p3) [e] [] q3] [] q2] [] q1) ρ (fun d => ∃ xs ys : List Str, B xs ∧ ys.Nodup ∧ (∀ z, z ∈ ys ↔ z ∈ xs) ∧ sortedS ys = true ∧ d = .tup (ys.map D.str)) := fun σ F H Q f s q => by
  refine peR (pe_callTy cr_tupZ (gl_of g hg1) hm1 (by decide +kernel) (pa_cons (pe_callB (KS.cr_srtS g.calm) (gl_of g hg2) hm2 (by decide +kernel) (pa_cons (pe_callTy (KS.cr_setS g.calm) (gl_of g hg3) hm3 (by decide +kernel) (pa_cons peS pa_nil hs1) (by decide) (by decide) hs1) pa_nil) (by decide) (by decide)) pa_nil) (by decide) (by decide)) ?_
  refine h σ F H _ f s fun d p o F1 H1 hd t1 h1 h2 h3 r1 => ?_
  obtain ⟨xs, hB, rfl⟩ := hd
  obtain ⟨vs, rfl, z1⟩ := isL r1
  have ez := z1.strs
  subst ez
  refine ⟨p, xs, rfl, .inl (.inl h3), hl xs hB, fun l c hm hc => ?_⟩
  have t2 := t1.trans (Step.fresh t1.fz (o := KS.TxO X.w c l) hc)
  refine ⟨c, l, rfl, upd_same, fun ys b pm nd so hb => ?_⟩
  have t3 := t2.trans (Step.fresh t2.fz (o := .lst (ys.map V.str)) hb)
  refine ⟨b, ys.map V.str, rfl, .inl (.inl upd_same), fun z ob hz ho => ?_⟩
  refine q _ _ (upd F1 z (.frz ob (.tup (ys.map V.str)))) _ ⟨xs, ys, hB, pm.nodup_iff.mpr nd, fun y => by rw [pm.mem_iff, hm], so, rfl⟩ (t3.trans (Step.new t3.fz hz)) ⟨z, _, ob, rfl, upd_same, ho, Reps.mk (f := D.str) (g := V.str) (fun a => rfl) ys⟩
end
end KD

set_option Elab.async false
set_option linter.all false
set_option maxRecDepth 100000
set_option maxHeartbeats 2000000
/-! KP4: a question drawn. -/
namespace KD
open PySem PySem.Spec PyProof.Rows L2
section
variable [Vol] {X : Cx} {ρ : List SV} {pos : Pos} {a b : Expr} {ds es : List D}
/-- a frozen list and a new one, one behind another -/
theorem n_catF (ha : SemF X a ρ (.lst ds)) (hb : SemN X b ρ (.lst es)) (hl : ds.length + es.length ≤ 1000000) : SemN X (.BinOp a .Add b pos) ρ (.lst (ds ++ es)) := fun σ F H Q f s q =>
  peR (pe_op op_cat peS peS) (ha σ F H _ f s fun v F1 H1 t1 r1 => hb σ F1 H1 _ t1.fz (s.step t1) fun p' o' F2 H2 t2 h1' h2' h3' r2 => by
    cases o' <;> first | exact False.elim r2 | skip
    have t := t1.trans t2
    obtain ⟨p, xs, ev, hp, z⟩ := Rep.mono t2.ex _ r1
    subst ev
    have hH : H2 p = some (.lst xs) := by
      rcases (t2.fz _ _ hp).1 with y | ⟨y, _⟩
      · exact y
      · exact y.elim
    exact ⟨p, p', _, _, rfl, rfl, hH, h3', by rw [z.len, Reps.len r2, sizeLine_eq]; omega, fun c hc => q c _ F2 _ (t.trans (Step.fresh t.fz hc)) (t.back hc) (t.fz.none hc) upd_same (z.append r2)⟩)
end
theorem doE_imp [Vol] {X : Cx} {st : Stmt} {ρ : List SV} {O O' : Out → Prop} (h : DoE X st ρ O') (ho : ∀ out, O' out → O out) : DoE X st ρ O := fun F0 H0 σ F H E s q => h F0 H0 σ F H E s fun out a => q out (ho out a)
def NQ : List Str := ["a", "b", "x", "zz", "new"]
theorem nq5 : ∀ n ∈ NQ, n ∈ NM5 := by decide +kernel
theorem sorted_asc {ys : List Str} (h : sortedS ys = true) (nd : ys.Nodup) : AscS ys := by
  have h1 := sorted_pw ys h
  exact (nd.and h1).imp fun {a b} h => by
    rcases lt3 (fun z => h.1 (str_ext z)) with q | q
    · exact decide_eq_true q
    · exact absurd q (List.not_lt.mpr h.2)
theorem strs_list {B : Str → Prop} : ∀ ds : List D, (∀ z ∈ ds, ∃ u, B u ∧ z = .str u) → ∃ xs : List Str, ds = xs.map D.str ∧ ∀ x ∈ xs, B x
  | [], _ => ⟨[], rfl, fun x h => nomatch h⟩
  | d :: r, h => by
    obtain ⟨u, hu, rfl⟩ := h d List.mem_cons_self
    obtain ⟨xs, rfl, hx⟩ := strs_list r fun z hz => h z (List.mem_cons_of_mem _ hz)
    exact ⟨u :: xs, rfl, fun x h => (List.mem_cons.mp h).elim (fun e => by rw [e]; exact hu) (hx x)⟩
def QnA : D → Prop := fun d => ∃ q : Qn, (QnOk q ∧ ∀ n ∈ namesQ q, n ∈ NM5) ∧ d = qD q
def RlQn (p : Pot) : List D → (D → Prop) → Prop := fun ds A => ds = [.adr p.P, .lst (NQ.map D.str)] ∧ A = QnA
section
variable {P : Program} {w : World} {K : PySem.W.Frag} {mg : Str → Option Value} {base : Heap} {p : Pot}
theorem w_question (T : Top K w mg) (hp : PotOk p) : @FnE (volP p) P w K mg base "_law_question" 3 (RlQn p) := by
  letI : Vol := volP p
  refine fnE_top T 84 ["_law_pot_here", "_law_names", "_law_one", "_law_other", "_law_lot", "_law_found", "_law_turn"] ["_law_pot_here", "_law_names"] (by decide) (by decide +kernel) (fun _ _ _ _ _ _ us hl => match us, hl with | [_, _], _ => rfl) (by rintro _ _ ⟨rfl, rfl⟩; rfl) ?_
  intro X gf eP ew eK em eb ds d hR
  subst eP ew eK em eb
  obtain ⟨rfl, rfl⟩ := hR
  have hsc := Eq.refl (defScope (top 84))
  conv at hsc => rhs; whnf
  rw [hsc] at gf
  have g := gf.g
  have anyN : ∀ ds, ds = [D.adr p.P, .lst (NQ.map D.str)] → ∃ A, RlAny p ds A ∧ ∀ d, A d → ∃ u, u ∈ NQ ∧ d = .str u := by
    rintro _ rfl
    refine ⟨_, ⟨NQ.map D.str, ⟨by simp [NQ], by simp [NQ]⟩, rfl, rfl⟩, fun d h => ?_⟩
    obtain ⟨u, hu, rfl⟩ := List.mem_map.mp h
    exact ⟨u, hu, rfl⟩
  refine (?_ : DosE X _ [.fz (.adr p.P), .fz (.lst (NQ.map D.str)), .un, .un, .un, .un, .un] (RtA _))
  refine se_consE (se_par gf 2 3 (ae_cons (e_call g (w_any T hp) (by decide) (SemA.ee (a_cons (f_name g 0) (a_cons (f_name g 1) a_nil))) anyN) (ae_cons (e_call g (w_any T hp) (by decide) (SemA.ee (a_cons (f_name g 0) (a_cons (f_name g 1) a_nil))) anyN) ae_nil)) (h2 := by
    rintro _ ⟨d, r, rfl, _, d', r', rfl, _, rfl⟩
    exact ⟨d, d', rfl⟩)) ?_
  rintro _ ⟨_, _, ⟨_, _, e1, ⟨u, hu, rfl⟩, _, _, e2, ⟨v, hv, rfl⟩, e3⟩, rfl⟩
  cases e3
  cases e2
  cases e1
  refine se_consE (se_set gf 4 (e_tss g (B := fun xs => xs.length ≤ 40 ∧ ∀ x ∈ xs, x ∈ NQ) ((ne_rng g 6 (A := fun d => ∃ u, u ∈ NQ ∧ d = .str u) (B := fun n => n ≤ 40) (e_call g (w_any T hp) (by decide) (SemA.ee (a_cons (f_name g 0) (a_cons (n_lst (a_cons f_int (a_cons f_int (a_cons f_int (a_cons f_int (a_cons f_int (a_cons f_int a_nil)))))) (by simp)).f a_nil))) ?_) (fun n h => by omega) (T.fr "range") (fun n => fun s' H' C cl fp => ?_)).imp ?_) (fun xs h => by have := h.1; omega) (T.fr "tuple") (T.fr "sorted") (T.fr "set"))) ?_
  · rintro _ rfl
    refine ⟨_, ⟨_, ⟨by simp, by simp⟩, rfl, rfl⟩, fun d h => ?_⟩
    simp only [List.mem_cons, List.not_mem_nil, or_false] at h
    rcases h with rfl | rfl | rfl | rfl | rfl | rfl
    · exact ⟨0, by decide, rfl⟩
    · exact ⟨1, by decide, rfl⟩
    · exact ⟨2, by decide, rfl⟩
    · exact ⟨3, by decide, rfl⟩
    · exact ⟨4, by decide, rfl⟩
    · exact ⟨40, by decide, rfl⟩
  · exact e_call (g.blk _ s' H' C cl fp) (w_any T hp) (by decide) (SemA.ee (a_cons (f_name (g.blk _ s' H' C cl fp) 0) (a_cons (f_name (g.blk _ s' H' C cl fp) 1) a_nil))) anyN
  · rintro _ ⟨ds, hl, hz, rfl⟩
    obtain ⟨xs, rfl, hx⟩ := strs_list ds hz
    exact ⟨xs, ⟨by rw [List.length_map] at hl; exact hl, hx⟩, rfl⟩
  rintro _ ⟨_, ⟨xs, ys, ⟨hxl, hxn⟩, hyn, hyx, hys, rfl⟩, rfl⟩
  have hym : ∀ y ∈ ys, y ∈ NQ := fun y hy => hxn y ((hyx y).mp hy)
  have hlot : QnOk (.lot ys) := ⟨by have := hyn.length_le_of_subset hym; have e : NQ.length = 5 := rfl; omega, fun y hy => ok5 y (nq5 y (hym y hy)), sorted_asc hys hyn⟩
  -- found
  refine se_consE (R := fun z => ∃ r : Int, (1 ≤ r ∧ r ≤ 40) ∧ z = [.fz (.adr p.P), .fz (.lst (NQ.map D.str)), .fz (.str u), .fz (.str v), .fz (.tup (ys.map D.str)), .ow (.lst [qD (.count u), qD (.lot ys), qD (.place u), qD (.first r), qD .unlike, qD .squares]), .un]) ?_ ?_
  · refine doE_imp (se_new gf 5 (ne_lst (ae_cons (f_tup (a_cons f_str (a_cons (f_name g 2) a_nil)) (by simp)).ee (ae_cons (f_tup (a_cons f_str (a_cons (f_name g 4) a_nil)) (by simp)).ee (ae_cons (f_tup (a_cons f_str (a_cons (f_name g 2) a_nil)) (by simp)).ee (ae_cons (e_tup (ae_cons f_str.ee (ae_cons (e_add (P := fun r => 0 ≤ r ∧ r < 5) f_int.v (e_call g (w_draw T hp) (by decide) (SemA.ee (a_cons (f_name g 0) (a_cons f_int a_nil))) ?_)) ae_nil)) ?_) (ae_cons (f_tup (a_cons f_str a_nil) (by simp)).ee (ae_cons (f_tup (a_cons f_str a_nil) (by simp)).ee ae_nil)))))) ?_)) ?_
    · rintro _ rfl
      exact ⟨_, ⟨5, ⟨by decide, by decide⟩, rfl, rfl⟩, fun d h => h⟩
    · rintro _ ⟨_, _, rfl, _, _, _, rfl, _, rfl⟩
      simp
    · rintro _ ⟨_, _, rfl, _, _, _, rfl, _, _, _, rfl, _, _, _, rfl, _, _, _, rfl, _, _, _, rfl, _, rfl⟩
      simp
    · rintro _ ⟨_, ⟨_, ⟨_, ⟨_, _, rfl, rfl, _, _, rfl, rfl, _, _, rfl, rfl, _, _, rfl, ⟨_, ⟨_, _, rfl, rfl, _, _, rfl, ⟨r, hr, rfl⟩, rfl⟩, rfl⟩, _, _, rfl, rfl, _, _, rfl, rfl, rfl⟩, rfl⟩, rfl⟩, rfl⟩
      exact ⟨_, ⟨1 + r, ⟨by omega, by omega⟩, rfl⟩, rfl⟩
  rintro _ ⟨r, hr, rfl⟩
  refine se_frz 5 rfl ?_
  obtain ⟨ql, hql, e1, e0⟩ : ∃ ql : Qn, (QnOk ql ∧ ∀ n ∈ namesQ ql, n ∈ NM5) ∧ ((!decide (u = v)) = true → qD (.apart u v) = qD ql) ∧ ((!decide (u = v)) = false → qD (.first 40) = qD ql) := by
    by_cases huv : u = v
    · exact ⟨.first 40, ⟨⟨by decide, by decide⟩, fun n h => nomatch h⟩, fun h => by simp [huv] at h, fun _ => rfl⟩
    · exact ⟨.apart u v, ⟨⟨ok5 u (nq5 u hu), ok5 v (nq5 v hv), huv⟩, fun n h => by
        simp only [namesQ, List.mem_cons, List.not_mem_nil, or_false] at h
        rcases h with rfl | rfl
        · exact nq5 _ hu
        · exact nq5 _ hv⟩, fun _ => rfl, fun h => by simp [huv] at h⟩
  refine se_last (se_ret (e_call g (w_any T hp) (by decide) (SemA.ee (a_cons (f_name g 0) (a_cons (n_catF (f_name g 5) (n_lst (a_cons (f_ite (k := !decide (u = v)) (d := qD ql) (t_cmp o_neS (f_name g 2).v (f_name g 3).v) (fun h => SemF.is (f_tup (a_cons f_str (a_cons (f_name g 2) (a_cons (f_name g 3) a_nil))) (by simp)) (e1 h)) (fun h => SemF.is (f_tup (a_cons f_str (a_cons f_int a_nil)) (by simp)) (e0 h))) a_nil) (by simp)) (by simp)).f a_nil))) ?_))
  rintro _ rfl
  refine ⟨_, ⟨_, ⟨by simp, by simp⟩, rfl, rfl⟩, fun d h => ?_⟩
  simp only [List.mem_append, List.mem_cons, List.not_mem_nil, or_false] at h
  have one : ∀ n ∈ [u], n ∈ NM5 := fun n h => by rw [List.mem_singleton.mp h]; exact nq5 u hu
  rcases h with (rfl | rfl | rfl | rfl | rfl | rfl) | rfl
  · exact ⟨.count u, ⟨ok5 u (nq5 u hu), one⟩, rfl⟩
  · exact ⟨.lot ys, ⟨hlot, fun n h => nq5 n (hym n h)⟩, rfl⟩
  · exact ⟨.place u, ⟨ok5 u (nq5 u hu), one⟩, rfl⟩
  · exact ⟨.first r, ⟨hr, fun n h => nomatch h⟩, rfl⟩
  · exact ⟨.unlike, ⟨trivial, fun n h => nomatch h⟩, rfl⟩
  · exact ⟨.squares, ⟨trivial, fun n h => nomatch h⟩, rfl⟩
  · exact ⟨ql, hql, rfl⟩
end
end KD

set_option Elab.async false
set_option linter.all false
set_option maxRecDepth 100000
set_option maxHeartbeats 2000000
/-! KP5: the pot made of the script. -/
namespace KD
open PySem PySem.Spec PyProof.Rows L2
section
variable [Vol] {X : Cx} {N : List Str} {sc scope : Scope} {k : Nat} {ρ : List SV} {x : Str} {pos p1 p2 p3 cpos : Pos} {kk : Nat} {tg elt : Expr}
def absI (i : Int) : Int := if i < 0 then -i else i
theorem c_abs {i : Int} : CaF X (.builtin "abs") [.int i] (.int (absI i)) := ⟨_, call_abs, fun F H vs Q f r q => by
  obtain ⟨v, e, ev⟩ := pv1 r
  subst e
  exact ⟨i, by rw [show v = _ from ev], q _ F H (.refl f) rfl⟩⟩
/-- script[:n], walked -/
theorem it_script (g : Gd X N sc k) (j : Nat) {a : Addr} {ns : List Int} {n : Int} (h0 : 0 ≤ n) (hρ : ρ[j]? = some (.fz (.adr a)) := by rfl) (hj : N[j]? = some x := by rfl) (hv : visB sc x = true := by rfl) (hd : (x == ("__debug__" : Str)) = false := by decide) (hcd : (x == ("__classdict__" : Str)) = false := by decide) :
    ItG X tg (.Subscript (.Name x p1) (.Slice none (some (.Constant (.int n) kk p2)) none p3) pos) ρ (ns.take n.toNat) D.int (fun _ _ H => SqL X.K H a (ns.map V.int)) := ⟨_, pi_list peS, fun σ F H R f s gg q => by
  have sA := slot_adr s hρ
  refine peR (pe_slice sl_list (pe_nm g hj hv hd hcd) po_none (po_some pe_int)) ⟨_, sA, ⟨n, rfl, a, _, rfl, gg, fun c hc => ?_⟩⟩
  have t1 : Step F H F (upd H c (.lst (L2.cutV (ns.map V.int) none (some n)))) := Step.fresh f hc
  have ecut : L2.cutV (ns.map V.int) none (some n) = (ns.take n.toNat).map V.int := by
    have e : L2.cutV (ns.map V.int) none (some n) = cutA (ns.map V.int) none (some n) := rfl
    rw [e, cutA_take _ h0, List.map_take]
  have r1 : Vl F (upd H c (.lst (L2.cutV (ns.map V.int) none (some n)))) (.ref c) (.lst ((ns.take n.toNat).map D.int)) := ⟨c, _, rfl, ⟨.inl upd_same, f.new hc⟩, by rw [ecut]; exact Reps.mk (f := D.int) (g := V.int) (fun a => rfl) _⟩
  refine ⟨c, rfl, ⟨_, .inl (.inl upd_same)⟩, q _ F _ t1 fun F' H' t => ?_⟩
  obtain ⟨p', vs', e', r', z'⟩ := r1.step t
  cases e'
  refine ⟨fun i x hx => ?_, ⟨vs', .inl r'.1, by rw [z'.len, List.length_map]; exact Nat.le_refl _⟩⟩
  obtain ⟨u, hu, ru⟩ := z'.get (map_get hx)
  refine ⟨⟨vs', u, .inl r'.1, hu⟩, fun v' H'' y => ⟨y.1, ?_⟩⟩
  have w := y.2 vs' (.inl r'.1)
  rw [hu] at w
  cases w
  exact ru⟩
/-- name = [..], under a guard -/
theorem lc_at (g : Gf X N sc k) (j : Nat) {own : List (Str × Nat)} {iter : Expr} {ifs : List Expr} {d : D} {G : Grd} {F0 H0 : Hp} {σ : L2.St} {F H : Hp} {E : Ends} (h : LcS X scope own tg iter ifs elt ρ d G) (s : SX F0 H0 ρ σ F H) (hG : G σ F H) (q : Fin F0 H0 E (.nx (ρ.set j (.ow d))))
    (hj : N[j]? = some x := by rfl) (hr : j < ρ.length := by exact Nat.le_of_ble_eq_true rfl) (hl : locB sc x = true := by rfl) (hk : sc.kind = .function := by rfl) (hl2 : (p1.line == cpos.line) = true := by rfl) (ha : (scope.names.any fun (n, k) => n == x && (k == .local || k == .cell)) = false := by rfl) (hs : ∀ v, foldedSetIterable iter X.env v = pure v := by intro _; rfl) :
    tSs X (.Assign [.Name x p1] (.ListComp elt [⟨tg, iter, ifs, 0⟩] scope cpos) pos) E σ H := by
  obtain ⟨wi, gt, tt, te, h1, h2, h3, h4, h5⟩ := h.ex
  exact psR (ps_setLc h.calm h.nd (by rw [g.g.hN]; exact hj) (by rw [g.g.hsc]; exact loc_of hl) (sw_true (by rw [g.g.hsc]; exact hk) (by rw [g.g.hsc]; exact loc_of hl) hl2 ha) h1 h.ok h2 h3 h4 hs) (h5 σ F H _ s.st.fz s.ok hG fun p o F1 H1 t h0 hF hH r => q _ F1 H1 (s.setO t h0 hF hH r hr))
end
theorem Do.go [Vol] {X : Cx} {st : Stmt} {ρ ρ1 : List SV} {F0 H0 : Hp} {σ : L2.St} {F H : Hp} {E : Ends} (h : Do X st ρ (.nx ρ1)) (s : SX F0 H0 ρ σ F H) (q : ∀ σ1 F1 H1, SX F0 H0 ρ1 σ1 F1 H1 → E.nx σ1 H1) : tSs X st E σ H := h F0 H0 σ F H E s q
/-- what the pot's def does -/
def SpPot (K : PySem.W.Frag) : Sp := fun vs H Q _ => ∃ (a : Addr) (ns : List Int), vs = [.ref a] ∧ SqL K H a (ns.map V.int) ∧ ∀ p H', PotOk p → PotAt p H' → (H p.P = none ∧ H p.G = none ∧ H p.S = none) → (∀ b o, H b = some o → H' b = some o) → Q (.ref p.P) H'
section
variable {P : Program} {w : World} {K : PySem.W.Frag} {mg : Str → Option Value} {base : Heap}
theorem fn_raw [Vol] {x qual : Str} {params : Arguments} {body : List Stmt} {sc : Scope} {f : Addr} {fd : FuncData} {N ps : List Str} {k : Nat} {sp : Sp} (Fd : FunD K x qual params body sc [] [] f fd) (S : FnScope N ps sc) (hl : ∀ vs H Q E, sp vs H Q E → vs.length = ps.length)
    (h : ∀ X : Cx, Gf X N sc k → X.prog = P → X.w = w → X.K = K → X.mg = mg → X.base = base → ∀ vs H Q E, sp vs H Q E → tSl X body { nx := fun _ H' => Q .non H', rt := Q } (L2.start N vs) H) : FnOk P w K mg base CX0 (k + 1) f fd ps sp :=
  Fd.ok S hl fun cdv A outer s H vs Q E hr hsp => ⟨_, (pssS (X := (cxOf CX0 P w K mg base N qual sc f cdv A outer s H E).nox)).nox, h (cxOf CX0 P w K mg base N qual sc f cdv A outer s H E).nox ⟨⟨rfl, S.nd, rfl, rfl, hr, rfl⟩, fun _ => rfl, PassesOwn.never⟩ rfl rfl rfl rfl rfl vs H Q E hsp⟩
theorem w_pot (T : Top K w mg) : ∃ (f : Addr) (fd : FuncData) (ps : List Str), mg "_law_pot" = some (.ref f) ∧ PySem.W.keepIn K (.ref f) = true ∧ Binds K fd ps [] ∧ FnOk P w K mg base CX0 1 f fd ps (SpPot K) := by
  letI : Vol := volNone
  obtain ⟨f, fd, h1, Fd⟩ := T.fn (74, "_law_pot") (by decide)
  have S : FnScope ["_law_script", "_law_cells", "_law_greats", "_law_smalls", "_law_item"] ["_law_script"] (defScope (top 74)) := C8.fnScope_by (by decide +kernel)
  refine ⟨f, fd, ["_law_script"], h1, Fd.kp, Fd.bindsN (fun _ _ _ _ _ _ us hl => match us, hl with | [_], _ => rfl), fn_raw Fd S (fun vs H Q E ⟨a, ns, e, _⟩ => by rw [e]; rfl) fun X gf eP ew eK em eb vs H Q E ⟨a, ns, e, hS, q⟩ => ?_⟩
  subst eP ew eK em eb e
  have hsc := Eq.refl (defScope (top 74))
  conv at hsc => rhs; whnf
  rw [hsc] at gf
  have g := gf.g
  have s0 : SX (fun _ => none) H [.fz (.adr a), .un, .un, .un, .un] (L2.start ["_law_script", "_law_cells", "_law_greats", "_law_smalls", "_law_item"] [.ref a]) (fun _ => none) H := start_reps (N := ["_law_script", "_law_cells", "_law_greats", "_law_smalls", "_law_item"]) (F := fun _ => none) (ds := [.adr a]) ⟨fun b o e => (by cases e), trivial⟩ ⟨.ref a, [], rfl, rfl, rfl⟩ (Nat.le_of_ble_eq_true rfl)
  -- cells
  refine pssR (pss_cons psS pssS) (lc_at gf 1 (lc_G (out := fun i => .int i) g (it_script g 0 (a := a) (ns := ns) (n := 63) (by decide)) (blkOk_by (own := [("_law_item", 4)]) (by decide +kernel)) (pgb g 4) (fun _ _ => tg_name 4) (fun s' H' C cl fp x _ => f_callT (g.blk _ s' H' C cl fp) c_int (T.fr "int") (av_cons (f_name (g.blk _ s' H' C cl fp) 4).v av_nil)) ?_) s0 hS fun σ1 F1 H1 s1 => ?_)
  · rw [List.length_take]
    omega
  generalize hn : ns.take (Int.toNat 63) = ns6 at s1
  have hl6 : ns6.length ≤ 63 := by
    rw [← hn, List.length_take]
    exact Nat.min_le_left _ _
  -- greats
  refine pssR (pss_cons psS pssS) (Do.go (ρ1 := [.fz (.adr a), .ow (.lst (ns6.map D.int)), .ow (.lst ((ns6.filter fun i => decide ((10 : Int) ^ (18 : Int).toNat ≤ absI i)).map fun i => .int (absI i))), .un, .un]) (ρ := [.fz (.adr a), .ow (.lst (ns6.map D.int)), .un, .un, .un])
    (s_lc gf 2 (lc_If (fl := fun i => decide ((10 : Int) ^ (18 : Int).toNat ≤ absI i)) (out := fun i => .int (absI i)) g (it_lst (xs := ns6) (enc := D.int) (v_own g 1)).g (blkOk_by (own := [("_law_item", 4)]) (by decide +kernel)) (pgb g 4) (fun _ _ => tg_name 4)
      (fun s' H' C cl fp x _ => t_cmp o_ge (f_callB (g.blk _ s' H' C cl fp) c_abs (T.fr "abs") (av_cons (f_name (g.blk _ s' H' C cl fp) 4).v av_nil)).v (f_op (o_pow ⟨by decide, by decide, by decide⟩) f_int.v f_int.v).v)
      (fun s' H' C cl fp x _ _ => f_callB (g.blk _ s' H' C cl fp) c_abs (T.fr "abs") (av_cons (f_name (g.blk _ s' H' C cl fp) 4).v av_nil)) (by omega))) s1 fun σ2 F2 H2 s2 => ?_)
  -- smalls
  refine pssR (pss_cons psS pssS) (Do.go (ρ1 := [.fz (.adr a), .ow (.lst (ns6.map D.int)), .ow (.lst ((ns6.filter fun i => decide ((10 : Int) ^ (18 : Int).toNat ≤ absI i)).map fun i => .int (absI i))), .ow (.lst (((ns6.filter fun i => decide (absI i < (10 : Int) ^ (18 : Int).toNat)).map fun i => .int (i % 1000000007)) ++ [.int ((ns6.length : Int) + 1)])), .un])
    (s_new gf 3 (n_cat (LcS.n (lc_If (fl := fun i => decide (absI i < (10 : Int) ^ (18 : Int).toNat)) (out := fun i => .int (i % 1000000007)) g (it_lst (xs := ns6) (enc := D.int) (v_own g 1)).g (blkOk_by (own := [("_law_item", 4)]) (by decide +kernel)) (pgb g 4) (fun _ _ => tg_name 4)
      (fun s' H' C cl fp x _ => t_cmp o_lt (f_callB (g.blk _ s' H' C cl fp) c_abs (T.fr "abs") (av_cons (f_name (g.blk _ s' H' C cl fp) 4).v av_nil)).v (f_op (o_pow ⟨by decide, by decide, by decide⟩) f_int.v f_int.v).v)
      (fun s' H' C cl fp x _ _ => f_op (o_mod (by decide)) (f_callT (g.blk _ s' H' C cl fp) c_int (T.fr "int") (av_cons (f_name (g.blk _ s' H' C cl fp) 4).v av_nil)).v f_int.v) (by omega))).n
      (n_lst (a_cons (f_op o_add (f_callB g c_lenLM (T.fr "len") (av_cons (v_own g 1) av_nil)).v f_int.v) a_nil) (by simp)) (by
        have := List.length_filter_le (fun i => decide (absI i < (10 : Int) ^ (18 : Int).toNat)) ns6
        simp only [List.length_map, List.length_cons, List.length_nil]
        omega))) s2 fun σ3 F3 H3 s3 => ?_)
  -- return [greats, smalls, 0, ..]
  obtain ⟨ad, k1, k2, k3⟩ := s3.ex
  obtain ⟨oG, eG, hG, fG, _, rG⟩ := k2 2 _ rfl
  obtain ⟨oS, eS, hSm, fS, _, rS⟩ := k2 3 _ rfl
  obtain ⟨xG, rfl, zG⟩ := isL rG
  obtain ⟨xS, rfl, zS⟩ := isL rS
  have hG1 : ((ns6.filter fun i => decide ((10 : Int) ^ (18 : Int).toNat ≤ absI i)).map fun i => D.int (absI i)) = ((ns6.filter fun i => decide ((10 : Int) ^ (18 : Int).toNat ≤ absI i)).map absI).map D.int := by
    rw [List.map_map]
    rfl
  have hS1 : (((ns6.filter fun i => decide (absI i < (10 : Int) ^ (18 : Int).toNat)).map fun i => D.int (i % 1000000007)) ++ [.int ((ns6.length : Int) + 1)]) = (((ns6.filter fun i => decide (absI i < (10 : Int) ^ (18 : Int).toNat)).map fun i => i % 1000000007) ++ [(ns6.length : Int) + 1]).map D.int := by
    rw [List.map_append, List.map_map]
    rfl
  have hlS : (((ns6.filter fun i => decide (absI i < (10 : Int) ^ (18 : Int).toNat)).map fun i => i % 1000000007) ++ [(ns6.length : Int) + 1]).length ≤ 1000 := by
    have := List.length_filter_le (fun i => decide (absI i < (10 : Int) ^ (18 : Int).toNat)) ns6
    rw [List.length_append, List.length_map, List.length_singleton]
    omega
  have hnS : (((ns6.filter fun i => decide (absI i < (10 : Int) ^ (18 : Int).toNat)).map fun i => i % 1000000007) ++ [(ns6.length : Int) + 1]) ≠ [] := by simp
  rw [hG1] at zG
  rw [hS1] at zS s3
  generalize ((ns6.filter fun i => decide ((10 : Int) ^ (18 : Int).toNat ≤ absI i)).map absI) = gl at zG
  generalize (((ns6.filter fun i => decide (absI i < (10 : Int) ^ (18 : Int).toNat)).map fun i => i % 1000000007) ++ [(ns6.length : Int) + 1]) = ss at zS s3 hlS hnS
  have eG2 := zG.ints
  have eS2 := zS.ints
  subst eG2 eS2
  have gs : ad 2 ≠ ad 3 := fun z => by
    have := k3 2 3 _ _ rfl rfl z
    omega
  refine pssR (pss_one psS) (psR (ps_ret (pe_lst (pa_cons (pe_nm g (i := 2) rfl rfl (by decide) (by decide)) (pa_cons (pe_nm g (i := 3) rfl rfl (by decide) (by decide)) (pa_cons pe_int (pa_cons peS pa_nil)))))) ⟨_, eG, _, eS, ?_⟩)
  refine SemF.go (d := .int ((ss.map fun z => z).sum % 999983)) (f_op (o_mod (by decide)) (f_callT g c_int (T.fr "int") (av_cons (f_callB g (c_sum g (as := ss) (f := fun z => z)) (T.fr "sum") (av_cons (v_own g 3) av_nil)).v av_nil)).v f_int.v) s3.st.fz s3.ok fun v F4 H4 t4 r4 => ?_
  refine ⟨by show 4 ≤ sizeLine; rw [sizeLine_eq]; decide, fun c hc => ?_⟩
  have ev : v = .int ((ss.map fun z => z).sum % 999983) := r4
  subst ev
  have kG := t4.hh _ _ (fun z => z) hG
  have kS := t4.hh _ _ (fun z => z) hSm
  have nG : ad 2 ≠ c := fun z => by rw [z, hc] at kG; cases kG
  have nS : ad 3 ≠ c := fun z => by rw [z, hc] at kS; cases kS
  have st := s3.st.trans t4
  refine q ⟨c, ad 2, ad 3, (ss.map fun z => z).sum % 999983, ss⟩ _ ⟨nG.symm, nS.symm, gs, hnS, hlS⟩ ⟨0, gl, upd_same, ?_, ?_⟩ ⟨st.back hc, fG, fS⟩ fun b o e => ?_
  · rw [upd_ne nG]
    exact kG
  · rw [upd_ne nS]
    exact kS
  · have e2 := st.hh b o (fun z => z) e
    rw [upd_ne fun z => by rw [z, hc] at e2; cases e2]
    exact e2
end
end KD

set_option Elab.async false
set_option linter.all false
set_option maxRecDepth 100000
set_option maxHeartbeats 2000000
/-! KP6: rules for the law's own body. -/
namespace KD
open PySem PySem.Spec PyProof.Rows L2
section
local instance : Vol := volNone
variable {P : Program} {w : World} {K : PySem.W.Frag} {mg : Str → Option Value} {base : Heap}
/-! ### all kinds of questions at once -/
theorem w_ends_q (T : Top K w mg) (q : Qn) : Fn P w K mg base "ends" 5 (fun ds d => ∃ s, (SkOk s ∧ QnOk q) ∧ ds = [skD s, qD q] ∧ d = .tup [.int (endsQ s q).1, .int (endsQ s q).2]) := by
  cases q with
  | count n => exact (w_ends_count T).imp fun ds d ⟨s, h, e1, e2⟩ => ⟨s, n, h, e1, e2⟩
  | lot ns => exact (w_ends_lot T).imp fun ds d ⟨s, h, e1, e2⟩ => ⟨s, ns, h, e1, e2⟩
  | apart a b => exact (w_ends_apart T).imp fun ds d ⟨s, h, e1, e2⟩ => ⟨s, a, b, h, e1, e2⟩
  | place n => exact (w_ends_place T).imp fun ds d ⟨s, h, e1, e2⟩ => ⟨s, n, h, e1, e2⟩
  | first m => exact (w_ends_first T).imp fun ds d ⟨s, h, e1, e2⟩ => ⟨s, m, h, e1, e2⟩
  | unlike => exact (w_ends_unlike T).imp fun ds d ⟨s, h, e1, e2⟩ => ⟨s, h, e1, e2⟩
  | squares => exact (w_ends_squares T).imp fun ds d ⟨s, h, e1, e2⟩ => ⟨s, h, e1, e2⟩
theorem w_value_q (T : Top K w mg) (q : Qn) : Fn P w K mg base "_law_value" 1 (fun ds d => ∃ c : List (Str × Int), ((c.map (·.1)).Nodup ∧ c.length ≤ 1000 ∧ (∀ z ∈ c, z.2.natAbs < 2 ^ 60) ∧ QnOk q) ∧ ds = [.dct c, qD q] ∧ d = .int (valL c q)) := by
  cases q with
  | count n => exact (w_law_value_count T).imp fun ds d ⟨c, h, e1, e2⟩ => ⟨c, n, h, e1, e2⟩
  | lot ns => exact (w_law_value_lot T).imp fun ds d ⟨c, h, e1, e2⟩ => ⟨c, ns, h, e1, e2⟩
  | apart a b => exact (w_law_value_apart T).imp fun ds d ⟨c, h, e1, e2⟩ => ⟨c, a, b, h, e1, e2⟩
  | place n => exact (w_law_value_place T).imp fun ds d ⟨c, h, e1, e2⟩ => ⟨c, n, h, e1, e2⟩
  | first m => exact (w_law_value_first T).imp fun ds d ⟨c, h, e1, e2⟩ => ⟨c, m, h, e1, e2⟩
  | unlike => exact (w_law_value_unlike T).imp fun ds d ⟨c, h, e1, e2⟩ => ⟨c, h, e1, e2⟩
  | squares => exact (w_law_value_squares T).imp fun ds d ⟨c, h, e1, e2⟩ => ⟨c, h, e1, e2⟩
def etL (s : Sk) (q : Qn) : List (List (Str × Int)) := [twT s (namesQ q) (ltQ s q), twT s (namesQ q) (gtQ s q)]
def cD (c : List (Str × Int)) : D := .tup (c.map pD)
theorem w_truths_q (T : Top K w mg) (q : Qn) : Fn P w K mg base "end_truths" 5 (fun ds d => ∃ s, (SkOk s ∧ QnOk q ∧ ∀ z ∈ [ltQ s q, gtQ s q], TwOk s z.1 z.2 (namesQ q) (nTw s z.1 z.2 (namesQ q))) ∧ ds = [skD s, qD q] ∧ d = .tup ((etL s q).map cD)) := by
  cases q with
  | count n => exact (w_end_truths_count T).imp fun ds d ⟨s, h, e1, e2⟩ => ⟨s, n, h, e1, e2⟩
  | lot ns => exact (w_end_truths_lot T).imp fun ds d ⟨s, h, e1, e2⟩ => ⟨s, ns, h, e1, e2⟩
  | apart a b => exact (w_end_truths_apart T).imp fun ds d ⟨s, h, e1, e2⟩ => ⟨s, a, b, h, e1, e2⟩
  | place n => exact (w_end_truths_place T).imp fun ds d ⟨s, h, e1, e2⟩ => ⟨s, n, h, e1, e2⟩
  | first m => exact (w_end_truths_first T).imp fun ds d ⟨s, h, e1, e2⟩ => ⟨s, m, h, e1, e2⟩
  | unlike => exact (w_end_truths_unlike T).imp fun ds d ⟨s, h, e1, e2⟩ => ⟨s, h, e1, e2⟩
  | squares => exact (w_end_truths_squares T).imp fun ds d ⟨s, h, e1, e2⟩ => ⟨s, h, e1, e2⟩
end
section
variable [Vol] {X : Cx} {N : List Str} {sc : Scope} {k : Nat} {ρ : List SV} {x : Str} {pos p1 p2 : Pos} {e a tg : Expr}
/-- dict(d), d one of some dicts -/
theorem ne_dict {C : List (Str × Int) → Prop} (g : Gd X N sc k) (h : SemE X e ρ (fun d => ∃ c, C c ∧ d = .dct c)) (hm : X.mg "dict" = none) (hg : glB sc "dict" = true := by rfl) (he : starEach [e] X.env = (false, eval e X.env) :: starEach [] X.env := by rfl) : SemNE X (.Call (.Name "dict" p1) [e] [] pos) ρ (fun d => ∃ c, C c ∧ d = .dct c) := fun σ F H Q f s q =>
  peR (pe_callTy call_dictD (gl_of g hg) hm (by decide +kernel) (pa_cons peS pa_nil he) (by decide) (by decide) he) (h σ F H _ f s fun d v F1 H1 hd t1 r1 => by
    obtain ⟨c, hc, rfl⟩ := hd
    obtain ⟨p, ev, hp⟩ := r1.vl t1.fz
    subst ev
    exact ⟨p, _, rfl, hp, fun b hb => q _ b _ F1 _ ⟨c, hc, rfl⟩ (t1.trans (Step.fresh t1.fz hb)) (t1.back hb) (t1.fz.none hb) upd_same rfl⟩)
/-- d[k] = n, n one of some -/
theorem se_dput (g : Gd X N sc k) (i : Nat) {kvs : List (Str × Int)} {ks : Str} {B : Int → Prop} {ke : Expr} (h : SemE X e ρ (fun d => ∃ r, B r ∧ d = .int r)) (hk : SemV X ke ρ (.str ks)) (hl : kvs.length ≤ 1000000) (hi : N[i]? = some x := by rfl) (hρ : ρ[i]? = some (.ow (.dct kvs)) := by rfl) (hv : visB sc x = true := by rfl) (hd : (x == ("__debug__" : Str)) = false := by decide) (hcd : (x == ("__classdict__" : Str)) = false := by decide)
    (hs : swapsWith e (some (.Subscript (.Name x p1) ke p2)) pos.line X.env = pure false := by rfl) :
    DoE X (.Assign [.Subscript (.Name x p1) ke p2] e pos) ρ (NxA (fun z => ∃ r, B r ∧ z = ρ.set i (.ow (.dct (putI kvs ks r))))) := fun F0 H0 σ F H E s q =>
  psR (ps_dput g.hu (pe_nm g hi hv hd hcd) peS peS hs) (h σ F H _ s.st.fz s.ok fun d v F1 H1 hd t r1 => by
    obtain ⟨n, hn, rfl⟩ := hd
    have s1 := s.step t
    obtain ⟨p, o, a, b, _, r, _, _⟩ := s1.own hρ
    refine ⟨_, a, hk σ F1 H1 _ s1.st.fz s1.ok fun kv F2 H2 t2 r2 => ?_⟩
    have s2 := s1.step t2
    obtain ⟨p', o', a', b', _, r', w, _⟩ := s2.own hρ
    have ep : p = p' := V.ref.inj (Option.some.inj (Option.some.inj (a.symm.trans a')))
    subst ep
    have eo := isD r'
    subst eo
    refine ⟨p, _, rfl, ?_, q _ ⟨_, ⟨n, hn, rfl⟩, rfl⟩ _ _ _ (w (.dK (kvI (putI kvs ks n))) _ rfl)⟩
    rw [show kv = .str ks from r2, show v = .int n from r1, kvI_put]
    exact DPut.k (k := Sum.inr ks) b' (by unfold kvI; rw [List.length_map, sizeLine_eq]; omega))
/-- xs[:e], e one of some numbers -/
theorem it_cutE {α : Type} {xs : List α} {enc : α → D} {m : Int} (ha : SemF X a ρ (.lst (xs.map enc))) (hb : SemE X e ρ (fun d => ∃ r : Int, (0 ≤ r ∧ r < m) ∧ d = .int r)) : ItE X tg (.Subscript a (.Slice none (some e) none p2) pos) ρ (fun zs => ∃ r : Int, (0 ≤ r ∧ r < m) ∧ zs = xs.take r.toNat) enc := ⟨_, pi_list peS, fun σ F H R f s q => by
  refine peR (pe_slice sl_list peS po_none (po_some peS)) (ha σ F H _ f s fun vx F1 H1 t1 r1 => hb σ F1 H1 _ t1.fz (s.step t1) fun d vy F2 H2 hd t2 r2 => ?_)
  obtain ⟨r, hr, rfl⟩ := hd
  obtain ⟨p, ys, ev, hp, z⟩ := Rep.vl t2.fz (Rep.mono t2.ex _ r1)
  subst ev
  refine ⟨r, r2, p, _, rfl, .inl hp.1, fun c hc => ?_⟩
  have ez : L2.cutV ys none (some r) = ys.take r.toNat := by
    have e : L2.cutV ys none (some r) = cutA ys none (some r) := rfl
    rw [e, cutA_take _ hr.1]
  have t3 := (t1.trans t2).trans (Step.new t2.fz (o := .lst (L2.cutV ys none (some r))) hc)
  have r3 : Rep (upd F2 c (.lst (L2.cutV ys none (some r)))) (.ref c) (.lst ((xs.take r.toNat).map enc)) := ⟨c, _, rfl, upd_same, by rw [ez, List.map_take]; exact Reps.mono (sub_upd (t2.fz.none hc)) _ (z.take _)⟩
  refine ⟨c, rfl, ⟨_, .inl (.inl upd_same)⟩, q _ _ _ _ ⟨r, hr, rfl⟩ t3 fun F' H' sb f' => ?_⟩
  obtain ⟨p', vs', e', r', z'⟩ := Rep.vl f' (Rep.mono sb _ r3)
  cases e'
  refine ⟨fun i x hx => ?_, ⟨vs', .inl r'.1, by rw [z'.len, List.length_map]; exact Nat.le_refl _⟩⟩
  obtain ⟨u, hu, ru⟩ := z'.get (map_get hx)
  refine ⟨⟨vs', u, .inl r'.1, hu⟩, fun v' H'' y => ⟨y.1, ?_⟩⟩
  have w := y.2 vs' (.inl r'.1)
  rw [hu] at w
  cases w
  exact ru⟩
end
end KD

set_option Elab.async false
set_option linter.all false
set_option maxRecDepth 100000
set_option maxHeartbeats 4000000
/-! KP7: one turn of the law: what holds of its lists. -/
namespace KD
open PySem PySem.Spec PyProof.Rows L2
def NL : List Str := ["_law_script", "_law_pot_here", "_law_turn", "_law_room", "_law_off", "_law_kept", "_law_name", "_law_lost", "_law_many", "_law_sketch_here", "_law_truths_here", "_law_counts", "_law_again", "_law_other", "_law_question_here", "_law_values", "_law_due", "_law_found", "_law_one", "_law_surely", "_law_perhaps"]
def lawBody : List Stmt := match (defBody (top 91)).getD 1 (.Pass ⟨0, 0, 0, 0⟩) with
  | .For _ _ b _ _ => b
  | _ => []
def lawRest (n : Nat) : List Stmt := lawBody.drop n
def rho0 (p : Pot) : List SV := [.un, .fz (.adr p.P), .un, .un, .un, .un, .un, .un, .un, .un, .un, .un, .un, .un, .un, .un, .un, .un, .un, .un, .un]
def Again (ρ : List SV) : Out → Prop := NxA (fun z => LeL z ρ)
section
local instance : Vol := volNone
theorem tr_val {s : Sk} (h : Sm s) {c : List (Str × Int)} (hc : Tr s c) : ∀ z ∈ c, z.2.natAbs < 2 ^ 60 := fun z hz => by
  have h1 := hc.pos z hz
  have h2 := KM.sum_gs_le hc.pos.nn (L := [z.1]) (by simp)
  have h3 := KM.gs_mem hc.nd hz
  have h4 := hc.sum
  have h5 : lostL s = s.many - KM.sv s.kept := rfl
  have h6 := h.sk.m1
  rw [List.map_singleton, List.sum_singleton, h3] at h2
  omega
theorem ts_val {s : Sk} (h : Sm s) : ∀ c ∈ TS s, (c.map (·.1)).Nodup ∧ c.length ≤ 1000 ∧ (∀ z ∈ c, z.2.natAbs < 2 ^ 60) := fun c hc => by
  have l := h.li hc
  exact ⟨l.tr.nd, by have := l.len; omega, tr_val h l.tr⟩
theorem tw_all {s : Sk} (h : Sm s) {taken : List (Str × Int)} {size : Int} {barred : List Str} (t : TkOk s taken size barred) (c : List (Str × Int)) (e : c = twT s barred (taken, size)) : CountsOk c ∧ ritL s c = true ∧ (c.map (·.1)).Nodup ∧ c.length ≤ 1000 ∧ ∀ z ∈ c, z.2.natAbs < 2 ^ 60 := by
  obtain ⟨Z, w⟩ := tw_is h t
  rw [← e] at w
  have r := w.tr h t
  have hk : ∀ n ∈ KM.ks c, n ∈ NM5 ∨ ∃ i, i < 26 ∧ n = letterS i := fun n hn => by
    have hn2 : n ∈ KM.ks (KM.ps (KM.add s.kept taken) ++ Z) := ((w.perm.map (·.1)).mem_iff).mp hn
    have hn3 : n ∈ KM.ks (KM.ps (KM.add s.kept taken)) ∨ n ∈ KM.ks Z := by
      unfold KM.ks at hn2 ⊢
      rw [List.map_append] at hn2
      exact List.mem_append.mp hn2
    rcases hn3 with q | q
    · rcases (KM.mem_ks_add taken).mp (mem_kps q) with q | q
      · exact .inl (h.kp.sub5 q)
      · exact .inl (t.k5 n q)
    · exact .inr (w.zl n q)
  have hl : c.length ≤ 1000 := by
    have := r.nd.length_le_of_subset (l₂ := NM5 ++ (List.range 26).map letterS) fun n hn => by
      rcases hk n hn with q | ⟨i, hi, rfl⟩
      · exact List.mem_append_left _ q
      · exact List.mem_append_right _ (List.mem_map.mpr ⟨i, List.mem_range.mpr hi, rfl⟩)
    unfold KM.ks at this
    rw [List.length_map, List.length_append, List.length_map, List.length_range] at this
    have e5 : NM5.length = 5 := rfl
    omega
  have hs : srtP c = c := by
    obtain ⟨X, eX⟩ : ∃ X, twT s barred (taken, size) = srtP X := ⟨_, rfl⟩
    rw [eX] at e
    have nX : (KM.ks X).Nodup := KM.nd_perm (srtP_perm X) (by rw [← e]; exact r.nd)
    exact srtP_self (by rw [e]; exact srtP_asc nX)
  refine ⟨?_, rit_true h r, r.nd, hl, tr_val h r⟩
  have := counts_ok r (fun n hn => by
    rcases hk n hn with q | ⟨i, hi, rfl⟩
    · exact ok5 n q
    · exact okL i hi) hl
  rw [hs] at this
  exact this
theorem et_ok {s : Sk} (h : Sm s) {q : Qn} (hq : QnOk q) (h5 : ∀ n ∈ namesQ q, n ∈ NM5) : ∀ c ∈ etL s q, CountsOk c ∧ ritL s c = true ∧ (c.map (·.1)).Nodup ∧ c.length ≤ 1000 ∧ ∀ z ∈ c, z.2.natAbs < 2 ^ 60 := fun c hc => by
  rcases List.mem_cons.mp hc with e | hc
  · exact tw_all h (tk_lt h hq h5) c e
  · exact tw_all h (tk_gt h hq h5) c (List.mem_singleton.mp hc)
theorem et_val {s : Sk} (h : Sm s) {q : Qn} (hq : QnOk q) (h5 : ∀ n ∈ namesQ q, n ∈ NM5) : (etL s q).map (fun c => valL c q) = [(endsQ s q).1, (endsQ s q).2] := by
  have := ends_taken h hq h5
  show [valL (twT s (namesQ q) (ltQ s q)) q, valL (twT s (namesQ q) (gtQ s q)) q] = _
  rw [this.1.2, this.2.2]
theorem et_tw {s : Sk} (h : Sm s) {q : Qn} (hq : QnOk q) (h5 : ∀ n ∈ namesQ q, n ∈ NM5) : ∀ z ∈ [ltQ s q, gtQ s q], TwOk s z.1 z.2 (namesQ q) (nTw s z.1 z.2 (namesQ q)) := fun z hz => by
  rcases List.mem_cons.mp hz with rfl | hz
  · exact tw_ok h (tk_lt h hq h5)
  · rw [List.mem_singleton.mp hz]
    exact tw_ok h (tk_gt h hq h5)
theorem isd_fst {n : Nat} {c : Prop} [Decidable c] {x : Str} : isd n (if c then D.str x else D.non) := by
  split
  · exact isd_str n x
  · exact isd_non n
end
end KD

set_option Elab.async false
set_option linter.all false
set_option maxRecDepth 100000
set_option maxHeartbeats 4000000
/-! KP8: one question of a turn. -/
namespace KD
open PySem PySem.Spec PyProof.Rows L2
def qnBody : List Stmt := match lawBody.getD 13 (.Pass ⟨0, 0, 0, 0⟩) with
  | .For _ _ b _ _ => b
  | _ => []
def rhoQ (p : Pot) (s : Sk) (m : SV) (t : SV) : List SV := [.un, .fz (.adr p.P), .un, .un, .un, .fz (.dct s.kept), .un, .un, .un, .fz (skD s), .fz (.lst ((TS s).map D.dct)), .un, m, .un, .un, .un, .un, .un, .un, .un, .un]
section
variable {P : Program} {w : World} {K : PySem.W.Frag} {mg : Str → Option Value} {base : Heap} {p : Pot} {X : Cx}
theorem qn_in (T : Top X.K X.w X.mg) (hp : PotOk p) (gf : Gf X NL (defScope (top 91)) 15) {s : Sk} (h : Sm s) (n : D) :
    @DosE (volP p) X qnBody (rhoQ p s (.fz n) .un) (NxA (fun z => ∃ a b c d, z = [.un, .fz (.adr p.P), .un, .un, .un, .fz (.dct s.kept), .un, .un, .un, .fz (skD s), .fz (.lst ((TS s).map D.dct)), .un, .fz n, .un, a, b, c, d, .un, .un, .un])) := by
  letI : Vol := volP p
  have hsc := Eq.refl (defScope (top 91))
  conv at hsc => rhs; whnf
  rw [hsc] at gf
  have g := gf.g
  unfold rhoQ
  -- a question
  refine se_consE (se_set gf 14 (e_call g (w_question T hp) (by decide) (SemA.ee (a_cons (f_name g 1) (a_cons (n_lst (a_cons f_str (a_cons f_str (a_cons f_str (a_cons f_str (a_cons f_str a_nil))))) (by simp)).f a_nil))) (by rintro _ rfl; exact ⟨_, ⟨rfl, rfl⟩, fun d h => h⟩))) ?_
  rintro _ ⟨_, ⟨q, ⟨hq, h5⟩, rfl⟩, rfl⟩
  have hmm := ends_min h hq h5
  have hne := ts_ne h
  have hv := ts_val h
  have het := et_ok h hq h5
  have hev : D.tup ((etL s q).map fun c => D.int (valL c q)) = .tup [.int (endsQ s q).1, .int (endsQ s q).2] := by
    rw [show ((etL s q).map fun c => D.int (valL c q)) = ((etL s q).map fun c => valL c q).map D.int from (List.map_map).symm, et_val h hq h5]
    rfl
  -- the values
  refine se_cons (s_lc gf 15 (lc_G g (xs := TS s) (enc := D.dct) (out := fun c => .int (valL c q)) (own := [("_law_counts", 11)]) (it_lst (f_name g 10).v).g (blkOk_by (by decide +kernel)) (pgb g 11) (fun _ _ => tg_name 11) (fun s' H' C cl fp c hc => f_call (g.blk _ s' H' C cl fp) (w_value_q T q) (by decide) (a_cons (f_name (g.blk _ s' H' C cl fp) 11) (a_cons (f_name (g.blk _ s' H' C cl fp) 14) a_nil)) ⟨c, ⟨(hv c hc).1, (hv c hc).2.1, (hv c hc).2.2, hq⟩, rfl, rfl⟩) (by have := ts_len h; omega))) ?_
  -- due
  refine se_cons (s_set gf 16 (d := .tup [.int (endsQ s q).1, .int (endsQ s q).2]) (SemF.is (f_tup (a_cons (f_callB g (c_minLM g (as := TS s) (f := fun c => valL c q) hne) (T.fr "min") (av_cons (v_own g 15) av_nil)) (a_cons (f_callB g (c_maxLM g (as := TS s) (f := fun c => valL c q) hne) (T.fr "max") (av_cons (v_own g 15) av_nil)) a_nil)) (by simp)) (by rw [hmm.1, hmm.2]))) ?_
  -- found
  refine se_cons (s_set gf 17 (f_call g (w_truths_q T q) (by decide) (a_cons (f_name g 9) (a_cons (f_name g 14) a_nil)) ⟨s, ⟨h.sk, hq, et_tw h hq h5⟩, rfl, rfl⟩)) ?_
  -- both hold
  refine se_cons (s_ifn (SemT.is (b' := false) (SemW.t (w_or (t_not (t_val (f_call g (w_law_is T 1) (by decide) (a_cons (f_call g (w_ends_q T q) (by decide) (a_cons (f_name g 9) (a_cons (f_name g 14) a_nil)) ⟨s, ⟨h.sk, hq⟩, rfl, rfl⟩) (a_cons (f_name g 16) a_nil)) ⟨_, isd_two (isd_int _ _) (isd_int _ _), rfl, rfl⟩))) (fun _ => w_or1 (t_not (t_val (f_callB g (c_all g (as := etL s q) (f := fun _ => true)) (T.fr "all") (av_cons ((LcS.n (lc_G g (xs := etL s q) (enc := cD) (out := fun _ => .bl true) (own := [("_law_one", 18)]) (it_tup (f_name g 17).v).g (blkOk_by (by decide +kernel)) (pgb g 18) (fun _ _ => tg_name 18) (fun s' H' C cl fp c hc => SemF.is (f_cmp o_isB (f_call (g.blk _ s' H' C cl fp) (d := .bl (ritL s c)) (w_is_truth T) (by decide) (a_cons (f_name (g.blk _ s' H' C cl fp) 9) (a_cons (f_name (g.blk _ s' H' C cl fp) 18) a_nil)) ⟨s, c, ⟨h.sk, (het c hc).1⟩, rfl, rfl⟩).v f_bl.v) (by rw [(het c hc).2.1]; rfl)) (by simp [etL]))).n).v av_nil))))))) (by simp))) ?_
  -- they take the ends
  refine se_cons (s_ifn (SemT.is (b' := false) (t_cmp (o_neP g (x := .tup [.int (endsQ s q).1, .int (endsQ s q).2]) (y := .tup [.int (endsQ s q).1, .int (endsQ s q).2]) rfl rfl (by rfl) (by rfl)) (SemF.is (f_callT g c_tupleL (T.fr "tuple") (av_cons ((LcS.n (lc_G g (xs := etL s q) (enc := cD) (out := fun c => D.int (valL c q)) (own := [("_law_one", 18)]) (it_tup (f_name g 17).v).g (blkOk_by (by decide +kernel)) (pgb g 18) (fun _ _ => tg_name 18) (fun s' H' C cl fp c hc => f_call (g.blk _ s' H' C cl fp) (w_value_q T q) (by decide) (a_cons (n_callT (g.blk _ s' H' C cl fp) (c_dictT (g.blk _ s' H' C cl fp) (kvs := c)) (T.fr "dict") (av_cons (f_name (g.blk _ s' H' C cl fp) 18).v av_nil)).f (a_cons (f_name (g.blk _ s' H' C cl fp) 14) a_nil)) ⟨c, ⟨(het c hc).2.2.1, (het c hc).2.2.2.1, (het c hc).2.2.2.2, hq⟩, by rw [mergeI_nil (het c hc).2.2.1], rfl⟩) (by simp [etL]))).n).v av_nil)) hev).v (f_name g 16).v) (by rw [SeqAt.eqv_refl _ (SeqAt.canLay_of_shaped rfl)]; rfl))) ?_
  exact se_imp se_nil (by rintro _ ⟨_, rfl, rfl⟩; exact ⟨_, ⟨_, _, _, _, rfl⟩, rfl⟩)
end
end KD

set_option Elab.async false
set_option linter.all false
set_option maxRecDepth 100000
set_option maxHeartbeats 4000000
/-! KP9: one turn of the law, its sketch given. -/
namespace KD
open PySem PySem.Spec PyProof.Rows L2
def NO : List Str := ["a", "b", "x", "ya", "zz"]
theorem no_ok : ∀ n ∈ NO, NameOk n := fun n hn => by
  simp only [NO, List.mem_cons, List.not_mem_nil, or_false] at hn
  rcases hn with rfl | rfl | rfl | rfl | rfl
  · exact ok5 _ (by decide +kernel)
  · exact ok5 _ (by decide +kernel)
  · exact ok5 _ (by decide +kernel)
  · exact ya0 ▸ okY 0 (by decide)
  · exact ok5 _ (by decide +kernel)
section
variable {P : Program} {w : World} {K : PySem.W.Frag} {mg : Str → Option Value} {base : Heap} {p : Pot} {X : Cx}
/-- the end of a turn -/
theorem law_end (T : Top X.K X.w X.mg) (hp : PotOk p) (gf : Gf X NL (defScope (top 91)) 15) {s : Sk} (h : Sm s) (m : SV) :
    @DosE (volP p) X (lawRest 14) (rhoQ p s m .un) (Again (rho0 p)) := by
  letI : Vol := volP p
  have hsc := Eq.refl (defScope (top 91))
  conv at hsc => rhs; whnf
  rw [hsc] at gf
  have g := gf.g
  unfold rhoQ
  refine se_cons (s_ifn (SemT.is (b' := false) (t_not (t_val (f_callE g (d := .bl true) (w_law_above_right T) (by decide) (ae_cons (f_name g 9).ee (ae_cons (f_name g 10).ee (ae_cons (f_name g 5).ee (ae_cons (e_call g (w_draw T hp) (by decide) (SemA.ee (a_cons (f_name g 1) (a_cons f_int a_nil))) (B := fun d => ∃ r : Int, (0 ≤ r ∧ r < 7) ∧ d = .int r) ?_) ae_nil)))) ?_))) rfl)) ?_
  · rintro _ rfl
    exact ⟨_, ⟨7, ⟨by decide, by decide⟩, rfl, rfl⟩, fun d h => h⟩
  · rintro _ ⟨_, _, rfl, rfl, _, _, rfl, rfl, _, _, rfl, rfl, _, _, rfl, ⟨r, hr, rfl⟩, rfl⟩
    exact ⟨s, TS s, s.kept, r, ab_ok h hr.1, rfl, rfl⟩
  refine se_cons (s_asg (f_call g (w_law_firsts T) (by decide) (a_cons (f_name g 10) (a_cons (f_name g 5) a_nil)) ⟨TS s, s.kept, ⟨tl_ok h, fun q hq => by
    obtain ⟨z, hz, rfl⟩ := List.mem_map.mp hq
    exact kept_lay h z hz⟩, rfl, rfl⟩) (gf.pg2 19 20) (tx_pair 19 20)) ?_
  refine se_cons (s_ifn (SemT.is (b' := false) (SemW.t (w_or (t_not (t_val (f_call g (w_law_is T 0) (by decide) (a_cons (f_call g (w_surely_first T) (by decide) (a_cons (f_name g 9) a_nil) ⟨s, h.sk, rfl, rfl⟩) (a_cons (f_name g 19) a_nil)) ⟨_, isd_fst, by rw [first_is h], rfl⟩))) (fun _ => w_or1 (t_not (t_val (f_call g (w_law_is T 2) (by decide) (a_cons (f_call g (w_perhaps_first T) (by decide) (a_cons (f_name g 9) a_nil) ⟨s, h.sk, rfl, rfl⟩) (a_cons (f_name g 20) a_nil)) ⟨_, isd_two (isd_strs ?_) (isd_bl _ _), by rw [perhaps_is h], rfl⟩)))))) (by simp))) ?_
  · have h1 := List.length_filter_le (fpB (TS s)) (KS s.kept)
    have h2 := h.kp.len
    have h3 : (KS s.kept).length = s.kept.length := List.length_map _
    omega
  exact se_imp se_nil (by rintro _ ⟨_, rfl, rfl⟩; exact ⟨_, by repeat (first | exact trivial | refine ⟨.inl rfl, ?_⟩ | refine ⟨.inr rfl, ?_⟩), rfl⟩)
end
end KD

set_option Elab.async false
set_option linter.all false
set_option maxRecDepth 100000
set_option maxHeartbeats 4000000
/-! KP10: one turn of the law, its sketch given: from the sketch on. -/
namespace KD
open PySem PySem.Spec PyProof.Rows L2
section
variable {P : Program} {w : World} {K : PySem.W.Frag} {mg : Str → Option Value} {base : Heap} {p : Pot} {X : Cx}
theorem law_ask (T : Top X.K X.w X.mg) (hp : PotOk p) (gf : Gf X NL (defScope (top 91)) 15) {s : Sk} (h : Sm s) :
    @DosE (volP p) X (lawRest 13) (rhoQ p s .un .un) (Again (rho0 p)) := by
  letI : Vol := volP p
  have gf0 := gf
  have hsc := Eq.refl (defScope (top 91))
  conv at hsc => rhs; whnf
  rw [hsc] at gf
  have g := gf.g
  refine se_consE (se_for gf (RS := fun _ _ z => ∃ m, z = rhoQ p s m .un) (ItF.ee (if_rng g (i := 8) f_int.v (by decide) (by decide) (T.fr "range"))) (fun xs _ => ⟨_, ?_, .un, rfl⟩) (gf.pg (j := 12) rfl rfl) (fun xs hxs i x ρi hx hr => ?_)) ?_
  · repeat (first | exact trivial | refine ⟨.inl rfl, ?_⟩ | refine ⟨.inr rfl, ?_⟩)
  · obtain ⟨m, rfl⟩ := hr
    exact ⟨_, tx_name 12, se_imp (qn_in T hp gf0 h _) (by rintro _ ⟨_, ⟨a, b, c, d, rfl⟩, rfl⟩; exact ⟨_, ⟨rhoQ p s .un .un, by repeat (first | exact trivial | refine ⟨.inl rfl, ?_⟩ | refine ⟨.inr rfl, ?_⟩), .un, rfl⟩, rfl⟩)⟩
  · rintro _ ⟨xs, _, m, rfl⟩
    exact law_end T hp gf0 h m
end
end KD

set_option Elab.async false
set_option linter.all false
set_option maxRecDepth 100000
set_option maxHeartbeats 4000000
/-! KP11: one turn of the law, its sketch given. -/
namespace KD
open PySem PySem.Spec PyProof.Rows L2
theorem se_le [Vol] {X : Cx} {SA : List Stmt} {ρ ρ' : List SV} {O : Out → Prop} (h : DosE X SA ρ' O) (l : LeL ρ ρ' := by repeat (first | exact trivial | refine ⟨.inl rfl, ?_⟩ | refine ⟨.inr rfl, ?_⟩)) : DosE X SA ρ O := fun F0 H0 σ F H E s q => h F0 H0 σ F H E (s.le l) q
section
variable {P : Program} {w : World} {K : PySem.W.Frag} {mg : Str → Option Value} {base : Heap} {p : Pot} {X : Cx}
theorem law_in (T : Top X.K X.w X.mg) (hp : PotOk p) (gf : Gf X NL (defScope (top 91)) 15) {s : Sk} (h : Sm s) (hm : s.many ≤ 100) (d2 d3 d4 d8 : D) :
    @DosE (volP p) X (lawRest 5) [.un, .fz (.adr p.P), .fz d2, .fz (.int s.room), .fz (.int s.off), .fz (.dct s.kept), .un, .fz (.int (lostL s)), .fz (.int s.many), .un, .un, .un, .un, .un, .un, .un, .un, .un, .un, .un, .un] (Again (rho0 p)) := by
  letI : Vol := volP p
  have gf0 := gf
  have hsc := Eq.refl (defScope (top 91))
  conv at hsc => rhs; whnf
  rw [hsc] at gf
  have g := gf.g
  have knd : (s.kept.map (·.1)).Nodup := h.kp.nd
  have klen := h.kp.len
  have esk : skS s.room s.many (s.off, s.kept) = s := by
    show (⟨s.room, s.many, s.off, srtP s.kept⟩ : Sk) = s
    rw [srtP_self h.sk.co.2.1]
  have cok : ∀ c ∈ TS s, CountsOk (srtP c) ∧ ritL s (srtP c) = true := fun c hc => ⟨counts_ok (h.li hc).tr (h.li hc).ok (by have := (h.li hc).len; omega), rit_true h ((h.li hc).tr.perm (srtP_perm c).symm)⟩
  have hne : (TS s).map D.dct ≠ [] := fun z => ts_ne h (List.map_eq_nil_iff.mp z)
  have hlt : ((TS s).map D.dct).length < 100000 := by have := ts_len h; rw [List.length_map]; omega
  have anyT : ∀ ds, ds = [D.adr p.P, .lst ((TS s).map D.dct)] → ∃ A, RlAny p ds A ∧ ∀ d, A d → ∃ c, c ∈ TS s ∧ d = .dct c := by
    rintro _ rfl
    refine ⟨_, ⟨(TS s).map D.dct, ⟨hne, hlt⟩, rfl, rfl⟩, fun d hd => ?_⟩
    obtain ⟨c, hc, rfl⟩ := List.mem_map.mp hd
    exact ⟨c, hc, rfl⟩
  -- sketch
  refine se_cons (ρ1 := [.un, .fz (.adr p.P), .fz d2, .fz (.int s.room), .fz (.int s.off), .fz (.dct s.kept), .un, .fz (.int (lostL s)), .fz (.int s.many), .fz (skD s), .un, .un, .un, .un, .un, .un, .un, .un, .un, .un, .un]) (s_set gf 9 (f_call g (w_law_sketch T) (by decide) (a_cons (f_name g 3) (a_cons (f_name g 8) (a_cons (f_tup (a_cons (f_name g 4) (a_cons (f_name g 5) a_nil)) (by simp)) a_nil))) ⟨s.room, s.many, (s.off, s.kept), ⟨knd, by show s.kept.length ≤ 1000; omega⟩, rfl, by rw [esk]⟩)) ?_
  -- truths
  refine se_cons (ρ1 := [.un, .fz (.adr p.P), .fz d2, .fz (.int s.room), .fz (.int s.off), .fz (.dct s.kept), .un, .fz (.int (lostL s)), .fz (.int s.many), .fz (skD s), .fz (.lst ((TS s).map D.dct)), .un, .un, .un, .un, .un, .un, .un, .un, .un, .un]) (s_set gf 10 (f_call g (w_law_truths T) (by decide) (a_cons (f_name g 4) (a_cons (f_name g 5) (a_cons (f_name g 7) a_nil))) ⟨s.off, s.kept, lostL s, ⟨h.sk.o0, h.sk.o2, h.l12.1, h.l12.2, knd, by omega⟩, rfl, rfl⟩)) ?_
  -- all are truths
  refine se_cons (s_ifn (SemT.is (b' := false) (t_not (t_val (f_callB g (c_all g (as := TS s) (f := fun _ => true)) (T.fr "all") (av_cons ((LcS.n (lc_G g (xs := TS s) (enc := D.dct) (out := fun _ => .bl true) (own := [("_law_counts", 11)]) (it_lst (f_name g 10).v).g (blkOk_by (by decide +kernel)) (pgb g 11) (fun _ _ => tg_name 11) (fun s' H' C cl fp c hc => SemF.is (f_cmp o_isB (f_call (g.blk _ s' H' C cl fp) (d := .bl (ritL s (srtP c))) (w_is_truth T) (by decide) (a_cons (f_name (g.blk _ s' H' C cl fp) 9) (a_cons (f_call (g.blk _ s' H' C cl fp) (d := .tup ((srtP c).map pD)) (w_law_as_counts T) (by decide) (a_cons (f_name (g.blk _ s' H' C cl fp) 11) a_nil) ⟨c, ⟨(ts_val h c hc).1, (ts_val h c hc).2.1⟩, rfl, rfl⟩) a_nil)) ⟨s, srtP c, ⟨h.sk, (cok c hc).1⟩, rfl, rfl⟩).v f_bl.v) (by rw [(cok c hc).2]; rfl)) (by have := ts_len h; omega))).n).v av_nil)))) (by simp))) ?_
  -- their papers
  refine se_cons (s_ifn (SemT.is (b' := false) (t_not (t_val (f_callB g (c_all g (as := List.range 12) (f := fun _ => true)) (T.fr "all") (av_cons ((LcS.n (lc_G g (xs := List.range 12) (enc := fun n => .int n) (out := fun _ => .bl true) (own := [("_law_again", 12)]) (it_rng g (i := 12) f_int.v (by decide) (by decide) (T.fr "range")).g (blkOk_by (by decide +kernel)) (pgb g 12) (fun _ _ => tg_name 12) (fun s' H' C cl fp c hc => f_callE (g.blk _ s' H' C cl fp) (w_law_paper_right T) (by decide) (ae_cons (f_name (g.blk _ s' H' C cl fp) 9).ee (ae_cons (e_call (g.blk _ s' H' C cl fp) (w_any T hp) (by decide) (SemA.ee (a_cons (f_name (g.blk _ s' H' C cl fp) 1) (a_cons (f_name (g.blk _ s' H' C cl fp) 10) a_nil))) anyT) ae_nil)) (by
    rintro _ ⟨_, _, rfl, rfl, _, _, rfl, ⟨c, hc, rfl⟩, rfl⟩
    have l := h.li hc
    exact ⟨s, c, pr_ok h hm l.tr l.ok (by have := l.len; omega), rfl, rfl⟩)) (by decide))).n).v av_nil)))) rfl)) ?_
  -- another
  refine se_consE (se_new gf 13 (ne_dict g (C := fun c => c ∈ TS s) (e_call g (w_any T hp) (by decide) (SemA.ee (a_cons (f_name g 1) (a_cons (f_name g 10) a_nil))) anyT) (T.fr "dict"))) ?_
  rintro _ ⟨_, ⟨c, hc, rfl⟩, rfl⟩
  have l := h.li hc
  refine se_consE (se_set gf 6 (A := fun d => ∃ u, u ∈ NO ∧ d = .str u) (e_call g (w_any T hp) (by decide) (SemA.ee (a_cons (f_name g 1) (a_cons (n_lst (a_cons f_str (a_cons f_str (a_cons f_str (a_cons f_str (a_cons f_str a_nil))))) (by simp)).f a_nil))) ?_)) ?_
  · rintro _ rfl
    refine ⟨_, ⟨NO.map D.str, ⟨by simp [NO], by simp [NO]⟩, rfl, rfl⟩, fun d h => ?_⟩
    obtain ⟨u, hu, rfl⟩ := List.mem_map.mp h
    exact ⟨u, hu, rfl⟩
  rintro _ ⟨_, ⟨u, hu, rfl⟩, rfl⟩
  have mo := more_ok h l.tr l.ok (by have := l.len; omega) (no_ok u hu)
  refine se_cons (s_dput g 13 (kvs := c) (ks := u) (n := (dgo c u).getD 0 + 1) (f_op o_add (f_get g (v_own g 13) (f_name g 6).v f_int.v).v f_int.v).v (f_name g 6).v (by have := l.len; omega)) ?_
  refine se_frz 13 rfl ?_
  refine se_cons (s_ifn (SemT.is (b' := false) (t_cmp o_notB (f_call g (d := .bl (ritL s (srtP (putI c u ((dgo c u).getD 0 + 1))))) (w_is_truth T) (by decide) (a_cons (f_name g 9) (a_cons (f_call g (d := .tup ((srtP (putI c u ((dgo c u).getD 0 + 1))).map pD)) (w_law_as_counts T) (by decide) (a_cons (f_name g 13) a_nil) ⟨_, ⟨mo.2.2.1, mo.2.2.2⟩, rfl, rfl⟩) a_nil)) ⟨s, _, ⟨h.sk, mo.1⟩, rfl, rfl⟩).v f_bl.v) (by rw [mo.2.1]; rfl))) ?_
  exact se_le (ρ' := rhoQ p s .un .un) (law_ask T hp gf0 h)
end
end KD

set_option Elab.async false
set_option linter.all false
set_option maxRecDepth 100000
set_option maxHeartbeats 4000000
/-! KP12: one turn of the law. -/
namespace KD
open PySem PySem.Spec PyProof.Rows L2
def ABX : List Str := ["a", "b", "x"]
theorem abx_asc : AscS ABX := by unfold AscS ABX; decide +kernel
theorem abx_nd : ABX.Nodup := by decide +kernel
theorem nodup_ij {α : Type} {l : List α} (h : l.Nodup) {i j : Nat} (hi : i < l.length) (hj : j < l.length) (e : l[i] = l[j]) : i = j := by
  have p := List.pairwise_iff_getElem.mp h
  rcases Nat.lt_trichotomy i j with q | q | q
  · exact absurd e (p i j hi hj q)
  · exact q
  · exact absurd e.symm (p j i hj hi q)
/-- the sketch of a turn -/
theorem sm_of {room off r lost many : Int} {kv : List (Str × Int)} {n : Nat} (h1 : 1 ≤ room) (h3 : room ≤ 3) (o0 : 0 ≤ off) (o2 : off ≤ 2) (hk : kv.map (·.1) = ABX.take n) (hn : (n : Int) ≤ room) (hv : ∀ z ∈ kv, 1 ≤ z.2 ∧ z.2 ≤ 4) (hr : 0 ≤ r ∧ r < (room - 1) * off + 1) (hl : lost = (room + 1) * off + r) (hm : many = lost + (kv.map fun z => z.2).sum) :
    Sm ⟨room, many, off, kv⟩ ∧ many ≤ 100 ∧ lostL ⟨room, many, off, kv⟩ = lost := by
  have e : lostL ⟨room, many, off, kv⟩ = lost := by
    show many - (kv.map fun z => z.2).sum = lost
    omega
  have hlen : kv.length = min n 3 := by
    have := congrArg List.length hk
    rw [List.length_map, List.length_take] at this
    exact this
  have hsub : ∀ x ∈ kv.map (·.1), x ∈ ABX := fun x hx => by
    rw [hk] at hx
    exact List.mem_of_mem_take hx
  have hasc : AscS (kv.map (·.1)) := by
    rw [hk]
    exact abx_asc.sublist (List.take_sublist _ _)
  have hnd : (kv.map (·.1)).Nodup := by
    rw [hk]
    exact abx_nd.sublist (List.take_sublist _ _)
  have hs0 : 0 ≤ (kv.map fun z => z.2).sum := KM.sum_map_nn fun z hz => by have := hv z hz; omega
  have hs1 : (kv.map fun z => z.2).sum ≤ kv.length * 4 := by
    have := KM.sum_map_le (f := fun z : Str × Int => z.2) (g := fun _ => 4) (l := kv) fun z hz => (hv z hz).2
    rw [KM.sum_map_const] at this
    exact this
  have hp : 0 ≤ (room + 1) * off := Int.mul_nonneg (by omega) o0
  have hb : (room + 1) * off + (room - 1) * off = 2 * room * off := by
    rw [← Int.add_mul]
    congr 1
    omega
  have hb2 : 2 * room * off ≤ 6 * 2 := Int.mul_le_mul (by omega) o2 o0 (by decide)
  have co : CountsOk kv := ⟨fun z hz => ⟨ok5 _ (abx5 _ (hsub _ (List.mem_map.mpr ⟨z, hz, rfl⟩))), (hv z hz).1⟩, hasc, by omega⟩
  have sk : SkOk ⟨room, many, off, kv⟩ := ⟨h1, h3, by show 0 ≤ many; omega, by show many ≤ 1500; omega, o0, o2, co, by show (kv.length : Int) ≤ room; omega, by rw [e]; show (room + 1) * off ≤ lost; omega, by rw [e]; show lost ≤ 2 * room * off; omega⟩
  exact ⟨⟨sk, ⟨hnd, fun z hz => by have := hv z hz; omega, hsub, by show kv.length ≤ 3; omega⟩⟩, by omega, e⟩
section
variable {P : Program} {w : World} {K : PySem.W.Frag} {mg : Str → Option Value} {base : Heap} {p : Pot} {X : Cx}
theorem law_turn (T : Top X.K X.w X.mg) (hp : PotOk p) (gf : Gf X NL (defScope (top 91)) 15) (d2 : D) :
    @DosE (volP p) X lawBody ((rho0 p).set 2 (.fz d2)) (Again (rho0 p)) := by
  letI : Vol := volP p
  have gf0 := gf
  have hsc := Eq.refl (defScope (top 91))
  conv at hsc => rhs; whnf
  rw [hsc] at gf
  have g := gf.g
  refine se_at (ρ1 := [.un, .fz (.adr p.P), .fz d2, .un, .un, .un, .un, .un, .un, .un, .un, .un, .un, .un, .un, .un, .un, .un, .un, .un, .un]) ?_ rfl
  -- room, off
  refine se_consE (se_par gf 3 4 (ae_cons (e_add (P := fun r => 0 ≤ r ∧ r < 3) f_int.v (e_call g (w_draw T hp) (by decide) (SemA.ee (a_cons (f_name g 1) (a_cons f_int a_nil))) ?_)) (ae_cons (e_call g (w_draw T hp) (by decide) (SemA.ee (a_cons (f_name g 1) (a_cons f_int a_nil))) (B := fun d => ∃ r : Int, (0 ≤ r ∧ r < 3) ∧ d = .int r) ?_) ae_nil)) (h2 := by
    rintro _ ⟨d, r, rfl, _, d', r', rfl, _, rfl⟩
    exact ⟨d, d', rfl⟩)) ?_
  · rintro _ rfl
    exact ⟨_, ⟨3, ⟨by decide, by decide⟩, rfl, rfl⟩, fun d h => h⟩
  · rintro _ rfl
    exact ⟨_, ⟨3, ⟨by decide, by decide⟩, rfl, rfl⟩, fun d h => h⟩
  rintro _ ⟨_, _, ⟨_, _, e1, ⟨r0, hr0, rfl⟩, _, _, e2, ⟨off, hoff, rfl⟩, e3⟩, rfl⟩
  cases e3
  cases e2
  cases e1
  obtain ⟨room, hroom⟩ : ∃ room : Int, room = 1 + r0 := ⟨_, rfl⟩
  rw [← hroom]
  -- kept
  refine se_cons (s_new gf 5 n_dnew) ?_
  refine se_consE (R := fun z => ∃ (n : Nat) (kv : List (Str × Int)) (nm : SV), ((n : Int) ≤ room ∧ kv.map (·.1) = ABX.take n ∧ ∀ z ∈ kv, 1 ≤ z.2 ∧ z.2 ≤ 4) ∧ z = [.un, .fz (.adr p.P), .fz d2, .fz (.int room), .fz (.int off), .ow (.dct kv), nm, .un, .un, .un, .un, .un, .un, .un, .un, .un, .un, .un, .un, .un, .un]) (doE_imp (se_for gf (RS := fun xs i z => ∃ (kv : List (Str × Int)) (nm : SV), (kv.map (·.1) = xs.take i ∧ ∀ z ∈ kv, 1 ≤ z.2 ∧ z.2 ≤ 4) ∧ z = [.un, .fz (.adr p.P), .fz d2, .fz (.int room), .fz (.int off), .ow (.dct kv), nm, .un, .un, .un, .un, .un, .un, .un, .un, .un, .un, .un, .un, .un, .un]) (it_cutE (xs := ABX) (enc := D.str) (m := room + 1) (n_lst (a_cons f_str (a_cons f_str (a_cons f_str a_nil))) (by simp)).f (e_call g (w_draw T hp) (by decide) (SemA.ee (a_cons (f_name g 1) (a_cons (f_op o_add (f_name g 3).v f_int.v) a_nil))) ?_)) (fun xs hxs => ⟨_, ?_, [], .un, ⟨rfl, fun z hz => nomatch hz⟩, rfl⟩) (gf.pg (j := 6) rfl rfl) (fun xs hxs i x ρi hx hr => ?_)) ?_) ?_
  · rintro _ rfl
    exact ⟨_, ⟨room + 1, ⟨by omega, by omega⟩, rfl, rfl⟩, fun d h => h⟩
  · repeat (first | exact trivial | refine ⟨.inl rfl, ?_⟩ | refine ⟨.inr rfl, ?_⟩)
  · obtain ⟨kv, nm, ⟨hk, hv⟩, rfl⟩ := hr
    obtain ⟨n, hn, rfl⟩ := hxs
    have hxi : i < (ABX.take n.toNat).length := (List.getElem?_eq_some_iff.mp hx).1
    have hli : kv.length = i := by
      have := congrArg List.length hk
      rw [List.length_map, List.length_take] at this
      omega
    have hl3 : (ABX.take n.toNat).length ≤ 3 := by
      have e3 : ABX.length = 3 := rfl
      rw [List.length_take]
      omega
    have hnx : x ∉ kv.map (·.1) := fun hm => by
      rw [hk] at hm
      have nd : (ABX.take n.toNat).Nodup := abx_nd.sublist (List.take_sublist _ _)
      obtain ⟨j, hj, e⟩ := List.mem_iff_getElem.mp hm
      have hj0 : j < i := by rw [List.length_take] at hj; omega
      rw [List.getElem_take] at e
      have ex := (List.getElem?_eq_some_iff.mp hx).2
      have hj2 : j < (ABX.take n.toNat).length := by omega
      have := nodup_ij nd hj2 hxi (e.trans ex.symm)
      omega
    refine ⟨_, tx_name 6, se_consE (se_dput g 5 (kvs := kv) (ks := x) (B := fun r => ∃ q : Int, (0 ≤ q ∧ q < 4) ∧ r = 1 + q) (e_add (P := fun r => 0 ≤ r ∧ r < 4) f_int.v (e_call g (w_draw T hp) (by decide) (SemA.ee (a_cons (f_name g 1) (a_cons f_int a_nil))) ?_) |>.imp ?_) (f_name g 6).v ?_) ?_⟩
    · rintro _ rfl
      exact ⟨_, ⟨4, ⟨by decide, by decide⟩, rfl, rfl⟩, fun d h => h⟩
    · rintro _ ⟨r, hr, rfl⟩
      exact ⟨_, ⟨r, hr, rfl⟩, rfl⟩
    · omega
    · rintro _ ⟨_, ⟨q, hq, rfl⟩, rfl⟩
      refine se_imp se_nil ?_
      rintro _ ⟨_, rfl, rfl⟩
      refine ⟨_, ⟨_, ?_, putI kv x (1 + q), .fz (.str x), ⟨?_, ?_⟩, rfl⟩, rfl⟩
      · repeat (first | exact trivial | refine ⟨.inl rfl, ?_⟩ | refine ⟨.inr rfl, ?_⟩)
      · rw [putI_new hnx, List.map_append, hk, List.map_singleton, List.take_add_one, hx]
        rfl
      · intro z hz
        rw [putI_new hnx] at hz
        rcases List.mem_append.mp hz with hz | hz
        · exact hv z hz
        · rw [List.mem_singleton.mp hz]
          exact ⟨by show 1 ≤ 1 + q; omega, by show 1 + q ≤ 4; omega⟩
  · rintro _ ⟨_, ⟨xs, ⟨r, hr, rfl⟩, kv, nm, ⟨hk, hv⟩, rfl⟩, rfl⟩
    refine ⟨_, ⟨r.toNat, kv, nm, ⟨by omega, ?_, hv⟩, rfl⟩, rfl⟩
    rw [hk, List.take_length]
  rintro _ ⟨n, kv, nm, ⟨hn, hk, hv⟩, rfl⟩
  refine se_frz 5 rfl ?_
  -- lost
  refine se_consE (se_set gf 7 (A := fun d => ∃ r : Int, (∃ q : Int, (0 ≤ q ∧ q < (room - 1) * off + 1) ∧ r = (room + 1) * off + q) ∧ d = .int r) (e_add (P := fun q => 0 ≤ q ∧ q < (room - 1) * off + 1) (f_op (o_mul ?_) (f_callT g c_int (T.fr "int") (av_cons (f_op o_add (f_name g 3).v f_int.v).v av_nil)).v (f_name g 4).v).v (e_call g (w_draw T hp) (by decide) (SemA.ee (a_cons (f_name g 1) (a_cons (f_op o_add (f_op (o_mul ?_) (f_callT g c_int (T.fr "int") (av_cons (f_op o_sub (f_name g 3).v f_int.v).v av_nil)).v (f_name g 4).v).v f_int.v) a_nil))) ?_) |>.imp ?_)) ?_
  · exact .inl ⟨by omega, by omega⟩
  · exact .inl ⟨by omega, by omega⟩
  · rintro _ rfl
    have hp0 : 0 ≤ (room - 1) * off := Int.mul_nonneg (by omega) hoff.1
    have hp1 : (room - 1) * off ≤ 2 * 2 := Int.mul_le_mul (by omega) (by omega) hoff.1 (by decide)
    exact ⟨_, ⟨(room - 1) * off + 1, ⟨by omega, by omega⟩, rfl, rfl⟩, fun d h => h⟩
  · rintro _ ⟨q, hq, rfl⟩
    exact ⟨_, ⟨q, hq, rfl⟩, rfl⟩
  rintro _ ⟨_, ⟨lost, ⟨q, hq, hlost⟩, rfl⟩, rfl⟩
  -- many
  have knd : (kv.map (·.1)).Nodup := by
    rw [hk]
    exact abx_nd.sublist (List.take_sublist _ _)
  have klen : kv.length ≤ 3 := by
    have := congrArg List.length hk
    rw [List.length_map, List.length_take] at this
    have : kv.length = min n 3 := this
    omega
  refine se_cons (s_set gf 8 (f_op o_add (f_name g 7).v (f_callB g (c_sum g (as := kv) (f := fun z => z.2)) (T.fr "sum") (av_cons (((SemNG.lock (d_name g 5) (LcS.n (lc_G g (xs := kv) (own := [("_law_name", 6)]) (out := fun z => .int z.2) it_keysI (blkOk_by (by decide +kernel)) (pgb g 6) (fun _ _ => tg_name 6) (fun s' H' C cl fp z hz => f_ixD (g.blk _ s' H' C cl fp) (f_name (g.blk _ s' H' C cl fp) 5).v (f_name (g.blk _ s' H' C cl fp) 6).v (dgo_mem knd hz)) (by omega))))).v) av_nil)).v)) ?_
  obtain ⟨hs, hmany, hl⟩ := sm_of (many := lost + (kv.map fun z => z.2).sum) (by omega) (by omega) hoff.1 (by omega) hk hn hv hq hlost rfl
  refine se_le (ρ' := [.un, .fz (.adr p.P), .fz d2, .fz (.int room), .fz (.int off), .fz (.dct kv), .un, .fz (.int lost), .fz (.int (lost + (kv.map fun z => z.2).sum)), .un, .un, .un, .un, .un, .un, .un, .un, .un, .un, .un, .un]) ?_
  exact se_at (law_in T hp gf0 hs hmany d2 d2 d2 d2) (by rw [hl])
end
end KD

set_option Elab.async false
set_option linter.all false
set_option maxRecDepth 100000
set_option maxHeartbeats 4000000
/-! KP13: the law. -/
namespace KD
open PySem PySem.Spec PyProof.Rows L2
/-- what the law does -/
def SpLaw (K : PySem.W.Frag) : Sp := fun vs H Q _ => ∃ (a : Addr) (ns : List Int), vs = [.ref a] ∧ SqL K H a (ns.map V.int) ∧ ∀ H', Q (.bl true) H'
section
variable {P : Program} {w : World} {K : PySem.W.Frag} {mg : Str → Option Value} {base : Heap}
theorem w_law (T : Top K w mg) {f : Addr} {fd : FuncData} (Fd : FunD K "law" "law" (defArgs (top 91)) (defBody (top 91)) (defScope (top 91)) [] [] f fd) : FnOk P w K mg base CX0 16 f fd ["_law_script"] (SpLaw K) := by
  have S : FnScope NL ["_law_script"] (defScope (top 91)) := C8.fnScope_by (by decide +kernel)
  refine @fn_raw _ _ _ _ _ volNone _ _ _ _ _ _ _ _ _ _ _ Fd S (fun vs H Q E ⟨a, ns, e, _⟩ => by rw [e]; rfl) fun X gf eP ew eK em eb vs H Q E ⟨a, ns, e, hS, q⟩ => ?_
  subst eP ew eK em eb e
  have gf0 := gf
  have hsc := Eq.refl (defScope (top 91))
  conv at hsc => rhs; whnf
  rw [hsc] at gf
  have g := gf.g
  letI vn : Vol := volNone
  obtain ⟨fa, fd2, ps, c1, c2, c3, c4⟩ := w_pot (P := X.prog) (base := X.base) T
  refine pssR (pss_cons psS pssS) (psR (ps_set gf.g.ndX (i := 1) (by rw [gf.g.hN]; rfl) (by rw [gf.g.hsc]; exact locC_of rfl) peS (by rfl) (.inl (gf.fn _))) (peR (pe_call c4 (g.rm.mono (by decide)) (gl_of g (by rfl)) c1 c2 c3 .nil pass0 (pa_cons (pe_nm g (i := 0) rfl rfl (by decide) (by decide)) pa_nil) (by decide) (by rfl) (by rfl)) ?_))
  refine ⟨_, rfl, ⟨a, ns, rfl, hS, fun p H' hp hat hno hk => ?_⟩⟩
  letI : Vol := volP p
  have s0 : SX (fun _ => none) H' [.fz (.adr a), .un, .un, .un, .un, .un, .un, .un, .un, .un, .un, .un, .un, .un, .un, .un, .un, .un, .un, .un, .un] (L2.start NL [.ref a]) (fun _ => none) H' := start_reps (N := NL) (F := fun _ => none) (ds := [.adr a]) ⟨fun b o e => (by cases e), hat⟩ ⟨.ref a, [], rfl, rfl, rfl⟩ (Nat.le_of_ble_eq_true rfl)
  have s1 := (s0.set (i := 1) (v := .ref p.P) (d := .adr p.P) rfl (Nat.le_of_ble_eq_true rfl)).le (ρ' := rho0 p) (by repeat (first | exact trivial | refine ⟨.inl rfl, ?_⟩ | refine ⟨.inr rfl, ?_⟩))
  refine (?_ : DosE X _ (rho0 p) (RtA (fun d => d = .bl true))) (fun _ => none) H' _ (fun _ => none) H' _ s1 ?_
  · refine se_consE (se_for gf (RS := fun _ _ z => z = rho0 p) (ItF.ee (if_rng g (i := 2) f_int.v (by decide) (by decide) (T.fr "range"))) (fun xs _ => ⟨_, ?_, rfl⟩) (gf.pg (j := 2) rfl rfl) (fun xs hxs i x ρi hx hr => ?_)) ?_
    · repeat (first | exact trivial | refine ⟨.inl rfl, ?_⟩ | refine ⟨.inr rfl, ?_⟩)
    · subst hr
      exact ⟨_, tx_name 2, se_imp (law_turn T hp gf0 _) (by rintro _ ⟨z, hz, rfl⟩; exact ⟨z, ⟨_, hz, rfl⟩, rfl⟩)⟩
    · rintro _ ⟨xs, _, rfl⟩
      exact se_last (se_ret f_bl.ee)
  · rintro _ ⟨_, rfl, rfl⟩ v F' H'' t r
    have ev : v = .bl true := r
    subst ev
    exact q _
end
end KD

set_option Elab.async false
set_option linter.all false
set_option maxRecDepth 100000
set_option maxHeartbeats 0
namespace KEnds
open PySem PySem.Spec PyProof.Rows L2
abbrev rowL : PySem.W.OpenLaw := PySem.Challenge.rw_knownends_k66_whole_small_sketches_by_al
def top (i : Nat) : Stmt := PySem.Challenge.pw_knownends_k66_whole_small_sketches_by_al.main.body.getD i (.Pass ⟨0, 0, 0, 0⟩)
abbrev s_is_integer : Stmt := top 8
abbrev s_is_between : Stmt := top 9
abbrev s_is_count : Stmt := top 10
abbrev s_is_tuple_of : Stmt := top 11
abbrev s_are_ascending : Stmt := top 12
abbrev s_is_name : Stmt := top 16
abbrev s_are_counts : Stmt := top 17
abbrev s_lost_of : Stmt := top 24
abbrev s_is_sketch : Stmt := top 25
abbrev s_check_sketch : Stmt := top 26
abbrev s_raw_is_truth : Stmt := top 30
abbrev s_is_truth : Stmt := top 31
abbrev s_check_told : Stmt := top 32
abbrev s_numbered_name : Stmt := top 33
abbrev s_new_names : Stmt := top 34
abbrev s_truth_with : Stmt := top 35
abbrev s_layer_steps : Stmt := top 36
abbrev s_layers_of : Stmt := top 37
abbrev s_repeated : Stmt := top 38
abbrev s_raw_paper : Stmt := top 39
abbrev s_paper : Stmt := top 40
abbrev s_is_lot : Stmt := top 51
abbrev s_is_question : Stmt := top 52
abbrev s_check_question : Stmt := top 53
abbrev s_named_by : Stmt := top 54
abbrev s_by_counts : Stmt := top 55
abbrev s_filled : Stmt := top 56
abbrev s_raised : Stmt := top 57
abbrev s_place_ends : Stmt := top 58
abbrev s_first_ends : Stmt := top 59
abbrev s_unlike_ends : Stmt := top 60
abbrev s_squares_ends : Stmt := top 61
abbrev s_lot_ends : Stmt := top 62
abbrev s_raw_ends : Stmt := top 63
abbrev s_ends : Stmt := top 64
abbrev s_least_taken : Stmt := top 65
abbrev s_greatest_taken : Stmt := top 66
abbrev s_end_truths : Stmt := top 67
abbrev s_check_most : Stmt := top 68
abbrev s_surely_above : Stmt := top 69
abbrev s_perhaps_above : Stmt := top 70
abbrev s_surely_first : Stmt := top 71
abbrev s_perhaps_first : Stmt := top 72
abbrev s_law_pot : Stmt := top 74
abbrev s_law_draw : Stmt := top 75
abbrev s_law_any : Stmt := top 76
abbrev s_law_counted : Stmt := top 77
abbrev s_law_fed : Stmt := top 78
abbrev s_law_poured : Stmt := top 79
abbrev s_law_led : Stmt := top 80
abbrev s_law_sketch : Stmt := top 81
abbrev s_law_is : Stmt := top 82
abbrev s_law_value : Stmt := top 83
abbrev s_law_question : Stmt := top 84
abbrev s_law_parts : Stmt := top 85
abbrev s_law_truths : Stmt := top 86
abbrev s_law_as_counts : Stmt := top 87
abbrev s_law_paper_right : Stmt := top 88
abbrev s_law_firsts : Stmt := top 89
abbrev s_law_above_right : Stmt := top 90
abbrev s_law : Stmt := top 91
def d_is_integer : He.DefD := ⟨("is_integer", none), "is_integer", "is_integer", defArgs s_is_integer, defBody s_is_integer, defScope s_is_integer, [], []⟩
def d_is_between : He.DefD := ⟨("is_between", none), "is_between", "is_between", defArgs s_is_between, defBody s_is_between, defScope s_is_between, [], []⟩
def d_is_count : He.DefD := ⟨("is_count", none), "is_count", "is_count", defArgs s_is_count, defBody s_is_count, defScope s_is_count, [], []⟩
def d_is_tuple_of : He.DefD := ⟨("is_tuple_of", none), "is_tuple_of", "is_tuple_of", defArgs s_is_tuple_of, defBody s_is_tuple_of, defScope s_is_tuple_of, [], []⟩
def d_are_ascending : He.DefD := ⟨("are_ascending", none), "are_ascending", "are_ascending", defArgs s_are_ascending, defBody s_are_ascending, defScope s_are_ascending, [], []⟩
def d_is_name : He.DefD := ⟨("is_name", none), "is_name", "is_name", defArgs s_is_name, defBody s_is_name, defScope s_is_name, [], []⟩
def d_are_counts : He.DefD := ⟨("are_counts", none), "are_counts", "are_counts", defArgs s_are_counts, defBody s_are_counts, defScope s_are_counts, [], []⟩
def d_lost_of : He.DefD := ⟨("lost_of", none), "lost_of", "lost_of", defArgs s_lost_of, defBody s_lost_of, defScope s_lost_of, [], []⟩
def d_is_sketch : He.DefD := ⟨("is_sketch", none), "is_sketch", "is_sketch", defArgs s_is_sketch, defBody s_is_sketch, defScope s_is_sketch, [], []⟩
def d_check_sketch : He.DefD := ⟨("check_sketch", none), "check_sketch", "check_sketch", defArgs s_check_sketch, defBody s_check_sketch, defScope s_check_sketch, [], []⟩
def d_raw_is_truth : He.DefD := ⟨("raw_is_truth", none), "raw_is_truth", "raw_is_truth", defArgs s_raw_is_truth, defBody s_raw_is_truth, defScope s_raw_is_truth, [], []⟩
def d_is_truth : He.DefD := ⟨("is_truth", none), "is_truth", "is_truth", defArgs s_is_truth, defBody s_is_truth, defScope s_is_truth, [], []⟩
def d_check_told : He.DefD := ⟨("check_told", none), "check_told", "check_told", defArgs s_check_told, defBody s_check_told, defScope s_check_told, [], []⟩
def d_numbered_name : He.DefD := ⟨("numbered_name", none), "numbered_name", "numbered_name", defArgs s_numbered_name, defBody s_numbered_name, defScope s_numbered_name, [], []⟩
def d_new_names : He.DefD := ⟨("new_names", none), "new_names", "new_names", defArgs s_new_names, defBody s_new_names, defScope s_new_names, [], []⟩
def d_truth_with : He.DefD := ⟨("truth_with", none), "truth_with", "truth_with", defArgs s_truth_with, defBody s_truth_with, defScope s_truth_with, [], []⟩
def d_layer_steps : He.DefD := ⟨("layer_steps", none), "layer_steps", "layer_steps", defArgs s_layer_steps, defBody s_layer_steps, defScope s_layer_steps, [], []⟩
def d_layers_of : He.DefD := ⟨("layers_of", none), "layers_of", "layers_of", defArgs s_layers_of, defBody s_layers_of, defScope s_layers_of, [], []⟩
def d_repeated : He.DefD := ⟨("repeated", none), "repeated", "repeated", defArgs s_repeated, defBody s_repeated, defScope s_repeated, [], []⟩
def d_raw_paper : He.DefD := ⟨("raw_paper", none), "raw_paper", "raw_paper", defArgs s_raw_paper, defBody s_raw_paper, defScope s_raw_paper, [], []⟩
def d_paper : He.DefD := ⟨("paper", none), "paper", "paper", defArgs s_paper, defBody s_paper, defScope s_paper, [], []⟩
def d_is_lot : He.DefD := ⟨("is_lot", none), "is_lot", "is_lot", defArgs s_is_lot, defBody s_is_lot, defScope s_is_lot, [], []⟩
def d_is_question : He.DefD := ⟨("is_question", none), "is_question", "is_question", defArgs s_is_question, defBody s_is_question, defScope s_is_question, [], []⟩
def d_check_question : He.DefD := ⟨("check_question", none), "check_question", "check_question", defArgs s_check_question, defBody s_check_question, defScope s_check_question, [], []⟩
def d_named_by : He.DefD := ⟨("named_by", none), "named_by", "named_by", defArgs s_named_by, defBody s_named_by, defScope s_named_by, [], []⟩
def d_by_counts : He.DefD := ⟨("by_counts", none), "by_counts", "by_counts", defArgs s_by_counts, defBody s_by_counts, defScope s_by_counts, [], []⟩
def d_filled : He.DefD := ⟨("filled", none), "filled", "filled", defArgs s_filled, defBody s_filled, defScope s_filled, [], []⟩
def d_raised : He.DefD := ⟨("raised", none), "raised", "raised", defArgs s_raised, defBody s_raised, defScope s_raised, [], []⟩
def d_place_ends : He.DefD := ⟨("place_ends", none), "place_ends", "place_ends", defArgs s_place_ends, defBody s_place_ends, defScope s_place_ends, [], []⟩
def d_first_ends : He.DefD := ⟨("first_ends", none), "first_ends", "first_ends", defArgs s_first_ends, defBody s_first_ends, defScope s_first_ends, [], []⟩
def d_unlike_ends : He.DefD := ⟨("unlike_ends", none), "unlike_ends", "unlike_ends", defArgs s_unlike_ends, defBody s_unlike_ends, defScope s_unlike_ends, [], []⟩
def d_squares_ends : He.DefD := ⟨("squares_ends", none), "squares_ends", "squares_ends", defArgs s_squares_ends, defBody s_squares_ends, defScope s_squares_ends, [], []⟩
def d_lot_ends : He.DefD := ⟨("lot_ends", none), "lot_ends", "lot_ends", defArgs s_lot_ends, defBody s_lot_ends, defScope s_lot_ends, [], []⟩
def d_raw_ends : He.DefD := ⟨("raw_ends", none), "raw_ends", "raw_ends", defArgs s_raw_ends, defBody s_raw_ends, defScope s_raw_ends, [], []⟩
def d_ends : He.DefD := ⟨("ends", none), "ends", "ends", defArgs s_ends, defBody s_ends, defScope s_ends, [], []⟩
def d_least_taken : He.DefD := ⟨("least_taken", none), "least_taken", "least_taken", defArgs s_least_taken, defBody s_least_taken, defScope s_least_taken, [], []⟩
def d_greatest_taken : He.DefD := ⟨("greatest_taken", none), "greatest_taken", "greatest_taken", defArgs s_greatest_taken, defBody s_greatest_taken, defScope s_greatest_taken, [], []⟩
def d_end_truths : He.DefD := ⟨("end_truths", none), "end_truths", "end_truths", defArgs s_end_truths, defBody s_end_truths, defScope s_end_truths, [], []⟩
def d_check_most : He.DefD := ⟨("check_most", none), "check_most", "check_most", defArgs s_check_most, defBody s_check_most, defScope s_check_most, [], []⟩
def d_surely_above : He.DefD := ⟨("surely_above", none), "surely_above", "surely_above", defArgs s_surely_above, defBody s_surely_above, defScope s_surely_above, [], []⟩
def d_perhaps_above : He.DefD := ⟨("perhaps_above", none), "perhaps_above", "perhaps_above", defArgs s_perhaps_above, defBody s_perhaps_above, defScope s_perhaps_above, [], []⟩
def d_surely_first : He.DefD := ⟨("surely_first", none), "surely_first", "surely_first", defArgs s_surely_first, defBody s_surely_first, defScope s_surely_first, [], []⟩
def d_perhaps_first : He.DefD := ⟨("perhaps_first", none), "perhaps_first", "perhaps_first", defArgs s_perhaps_first, defBody s_perhaps_first, defScope s_perhaps_first, [], []⟩
def d_law_pot : He.DefD := ⟨("_law_pot", none), "_law_pot", "_law_pot", defArgs s_law_pot, defBody s_law_pot, defScope s_law_pot, [], []⟩
def d_law_draw : He.DefD := ⟨("_law_draw", none), "_law_draw", "_law_draw", defArgs s_law_draw, defBody s_law_draw, defScope s_law_draw, [], []⟩
def d_law_any : He.DefD := ⟨("_law_any", none), "_law_any", "_law_any", defArgs s_law_any, defBody s_law_any, defScope s_law_any, [], []⟩
def d_law_counted : He.DefD := ⟨("_law_counted", none), "_law_counted", "_law_counted", defArgs s_law_counted, defBody s_law_counted, defScope s_law_counted, [], []⟩
def d_law_fed : He.DefD := ⟨("_law_fed", none), "_law_fed", "_law_fed", defArgs s_law_fed, defBody s_law_fed, defScope s_law_fed, [], []⟩
def d_law_poured : He.DefD := ⟨("_law_poured", none), "_law_poured", "_law_poured", defArgs s_law_poured, defBody s_law_poured, defScope s_law_poured, [], []⟩
def d_law_led : He.DefD := ⟨("_law_led", none), "_law_led", "_law_led", defArgs s_law_led, defBody s_law_led, defScope s_law_led, [], []⟩
def d_law_sketch : He.DefD := ⟨("_law_sketch", none), "_law_sketch", "_law_sketch", defArgs s_law_sketch, defBody s_law_sketch, defScope s_law_sketch, [], []⟩
def d_law_is : He.DefD := ⟨("_law_is", none), "_law_is", "_law_is", defArgs s_law_is, defBody s_law_is, defScope s_law_is, [], []⟩
def d_law_value : He.DefD := ⟨("_law_value", none), "_law_value", "_law_value", defArgs s_law_value, defBody s_law_value, defScope s_law_value, [], []⟩
def d_law_question : He.DefD := ⟨("_law_question", none), "_law_question", "_law_question", defArgs s_law_question, defBody s_law_question, defScope s_law_question, [], []⟩
def d_law_parts : He.DefD := ⟨("_law_parts", none), "_law_parts", "_law_parts", defArgs s_law_parts, defBody s_law_parts, defScope s_law_parts, [], []⟩
def d_law_truths : He.DefD := ⟨("_law_truths", none), "_law_truths", "_law_truths", defArgs s_law_truths, defBody s_law_truths, defScope s_law_truths, [], []⟩
def d_law_as_counts : He.DefD := ⟨("_law_as_counts", none), "_law_as_counts", "_law_as_counts", defArgs s_law_as_counts, defBody s_law_as_counts, defScope s_law_as_counts, [], []⟩
def d_law_paper_right : He.DefD := ⟨("_law_paper_right", none), "_law_paper_right", "_law_paper_right", defArgs s_law_paper_right, defBody s_law_paper_right, defScope s_law_paper_right, [], []⟩
def d_law_firsts : He.DefD := ⟨("_law_firsts", none), "_law_firsts", "_law_firsts", defArgs s_law_firsts, defBody s_law_firsts, defScope s_law_firsts, [], []⟩
def d_law_above_right : He.DefD := ⟨("_law_above_right", none), "_law_above_right", "_law_above_right", defArgs s_law_above_right, defBody s_law_above_right, defScope s_law_above_right, [], []⟩
def d_law : He.DefD := ⟨("law", none), "law", "law", defArgs s_law, defBody s_law, defScope s_law, [], []⟩
def fnAll : List He.DefD := ([d_is_integer, d_is_between, d_is_count, d_is_tuple_of, d_are_ascending, d_is_name, d_are_counts, d_lost_of, d_is_sketch, d_check_sketch, d_raw_is_truth, d_is_truth, d_check_told, d_numbered_name, d_new_names, d_truth_with, d_layer_steps, d_layers_of, d_repeated, d_raw_paper, d_paper, d_is_lot, d_is_question, d_check_question, d_named_by, d_by_counts, d_filled, d_raised, d_place_ends, d_first_ends] : List He.DefD) ++ ([d_unlike_ends, d_squares_ends, d_lot_ends, d_raw_ends, d_ends, d_least_taken, d_greatest_taken, d_end_truths, d_check_most, d_surely_above, d_perhaps_above, d_surely_first, d_perhaps_first, d_law_pot, d_law_draw, d_law_any, d_law_counted, d_law_fed, d_law_poured, d_law_led, d_law_sketch, d_law_is, d_law_value, d_law_question, d_law_parts, d_law_truths, d_law_as_counts, d_law_paper_right, d_law_firsts, d_law_above_right] : List He.DefD) ++ ([d_law] : List He.DefD)
def faAll : List He.Fa := ([.glo "is_integer", .glo "is_between", .glo "is_count", .glo "is_tuple_of", .glo "are_ascending", .glo "is_name", .glo "are_counts", .glo "lost_of", .glo "is_sketch", .glo "check_sketch", .glo "raw_is_truth", .glo "is_truth", .glo "check_told", .glo "numbered_name", .glo "new_names", .glo "truth_with", .glo "layer_steps", .glo "layers_of", .glo "repeated", .glo "raw_paper", .glo "paper", .glo "is_lot", .glo "is_question", .glo "check_question", .glo "named_by", .glo "by_counts", .glo "filled", .glo "raised", .glo "place_ends", .glo "first_ends"] : List He.Fa) ++ ([.glo "unlike_ends", .glo "squares_ends", .glo "lot_ends", .glo "raw_ends", .glo "ends", .glo "least_taken", .glo "greatest_taken", .glo "end_truths", .glo "check_most", .glo "surely_above", .glo "perhaps_above", .glo "surely_first", .glo "perhaps_first", .glo "_law_pot", .glo "_law_draw", .glo "_law_any", .glo "_law_counted", .glo "_law_fed", .glo "_law_poured", .glo "_law_led", .glo "_law_sketch", .glo "_law_is", .glo "_law_value", .glo "_law_question", .glo "_law_parts", .glo "_law_truths", .glo "_law_as_counts", .glo "_law_paper_right", .glo "_law_firsts", .glo "_law_above_right"] : List He.Fa) ++ ([.glo "law", .free "isinstance", .free "int", .free "bool", .free "str", .free "tuple", .free "list", .free "dict", .free "set", .free "len", .free "all", .free "any", .free "range", .free "sum", .free "min", .free "max", .free "sorted", .free "abs", .int "MOST_IN_NAME" 8, .int "MOST_ROOM" 64, .int "ROOM" 0, .int "MANY" 1, .int "OFF" 2, .int "KEPT" 3, .int "MOST_TOLD" 1500, .int "MOST_NAMES" 40, .str "LETTERS" "abcdefghijklmnopqrstuvwxyz", .str "SIGNS" "abcdefghijklmnopqrstuvwxyz", .str "COUNT" "count", .str "LOT" "lot"] : List He.Fa) ++ ([.str "APART" "apart", .str "PLACE" "place", .str "FIRST" "first", .str "UNLIKE" "unlike", .str "SQUARES" "squares", .glo "SIZES"] : List He.Fa)
def tsAll : List He.Tab := [(fun K => He.ga K "SIZES", ["count", "lot", "apart", "place", "first", "unlike", "squares"])]
abbrev R : PySem.W.OpenRow := PySem.W.OpenLaw.row rowL
def sizes : List (Str × He.Dv) := [("count", .int 2), ("lot", .int 2), ("apart", .int 3), ("place", .int 2), ("first", .int 2), ("unlike", .int 1), ("squares", .int 1)]
def exAll (K : PySem.W.Frag) : Bool := He.valsB K (He.ga K "SIZES") sizes
abbrev hk : PySem.W.Hook := He.hookX 4 faAll fnAll tsAll [] exAll
def ob (s : PySem.W.SharedT) : He.AlX := He.obsX 4 faAll fnAll tsAll [] exAll (HandSHeadRun.getT s)
theorem ob_eq (s : PySem.W.SharedT) : ob s = hk.obs s.abs := He.obsX_eq (HandSHeadRun.getT_eq s)
def loose : List Str := (["KnownError", "NoSketch", "NoNumber", "NoQuestion", "NoTruth", "TooMany", "is_integer", "is_between", "is_count", "is_tuple_of", "are_ascending", "MOST_IN_NAME", "LETTERS", "is_name", "are_counts", "MOST_ROOM", "ROOM", "MANY", "OFF", "KEPT", "lost_of", "is_sketch", "check_sketch", "MOST_TOLD", "SIGNS", "raw_is_truth", "is_truth", "check_told", "numbered_name", "new_names"] : List Str) ++ (["truth_with", "layer_steps", "layers_of", "repeated", "raw_paper", "paper", "COUNT", "LOT", "APART", "PLACE", "FIRST", "UNLIKE", "SQUARES", "MOST_NAMES", "SIZES", "is_lot", "is_question", "check_question", "named_by", "by_counts", "filled", "raised", "place_ends", "first_ends", "unlike_ends", "squares_ends", "lot_ends", "raw_ends", "ends", "least_taken"] : List Str) ++ (["greatest_taken", "end_truths", "check_most", "surely_above", "perhaps_above", "surely_first", "perhaps_first", "_law_pot", "_law_draw", "_law_any", "_law_counted", "_law_fed", "_law_poured", "_law_led", "_law_sketch", "_law_is", "_law_value", "_law_question", "_law_parts", "_law_truths", "_law_as_counts", "_law_paper_right", "_law_firsts", "_law_above_right"] : List Str)
theorem run_f (w : World) : HandSHeadRun.RunEq R (PySem.W.view R.prog [91]) hk ob 20000 loose (w.withFollow "special-get-raises" false) := by
  intro os
  kernel_rfl
theorem run_t (w : World) : HandSHeadRun.RunEq R (PySem.W.view R.prog [91]) hk ob 20000 loose (w.withFollow "special-get-raises" true) := by
  intro os
  kernel_rfl
theorem run (w : World) : HandSHeadRun.RunEq R (PySem.W.view R.prog [91]) hk ob 20000 loose w := PySem.W.byRow2 "special-get-raises" (P := fun w => HandSHeadRun.RunEq R (PySem.W.view R.prog [91]) hk ob 20000 loose w) run_f run_t w
end KEnds

set_option Elab.async false
set_option linter.all false
set_option maxRecDepth 100000
set_option maxHeartbeats 4000000
/-! Fin: the head tells the top; the law holds. -/
namespace KD
open PySem PySem.Spec PyProof.Rows L2
def mkD (p : Nat × Str) : He.DefD := ⟨(p.2, none), p.2, p.2, defArgs (top p.1), defBody (top p.1), defScope (top p.1), [], []⟩
theorem fn_eq : KEnds.fnAll = nmT.map mkD := by kernel_rfl
def gloN : List Str := KEnds.faAll.filterMap fun f => match f with | .glo x => some x | _ => none
def freN : List Str := KEnds.faAll.filterMap fun f => match f with | .free x => some x | _ => none
def intN : List (Str × Int) := KEnds.faAll.filterMap fun f => match f with | .int x i => some (x, i) | _ => none
def strN : List (Str × Str) := KEnds.faAll.filterMap fun f => match f with | .str x i => some (x, i) | _ => none
theorem glo_in {x : Str} (h : x ∈ gloN) : He.Fa.glo x ∈ KEnds.faAll := by
  obtain ⟨f, hf, e⟩ := List.mem_filterMap.mp h
  cases f <;> simp at e
  subst e
  exact hf
theorem fre_in {x : Str} (h : x ∈ freN) : He.Fa.free x ∈ KEnds.faAll := by
  obtain ⟨f, hf, e⟩ := List.mem_filterMap.mp h
  cases f <;> simp at e
  subst e
  exact hf
theorem int_in {x : Str × Int} (h : x ∈ intN) : He.Fa.int x.1 x.2 ∈ KEnds.faAll := by
  obtain ⟨f, hf, e⟩ := List.mem_filterMap.mp h
  cases f <;> simp at e
  subst e
  exact hf
theorem str_in {x : Str × Str} (h : x ∈ strN) : He.Fa.str x.1 x.2 ∈ KEnds.faAll := by
  obtain ⟨f, hf, e⟩ := List.mem_filterMap.mp h
  cases f <;> simp at e
  subst e
  exact hf
theorem fre_all : ∀ x ∈ freeT, x ∈ freN := by decide +kernel
theorem int_all : ∀ x ∈ intT, x ∈ intN := by decide +kernel
theorem str_all : ∀ x ∈ strT, x ∈ strN := by decide +kernel
theorem glo_all : ∀ p ∈ nmT, p.2 ∈ gloN := by decide +kernel
theorem glo_siz : ("SIZES" : Str) ∈ gloN := by decide +kernel
theorem siz_eq : KEnds.sizes = sizT.map fun p => (p.1, He.Dv.int p.2) := rfl
theorem top_of {w : World} {K : PySem.W.Frag} {h : Heap} {mg : Str → Option Value} (X : K.In h) (G : h.Ns mainGlobals mg) (c : He.SaysX KEnds.faAll KEnds.fnAll KEnds.tsAll [] KEnds.exAll w h K) : Top K w mg where
  siz := by
    obtain ⟨es, n, hd⟩ := c.t.tab 0
    exact ⟨_, es, n, He.glo_ok X G (c.t.d.facts (glo_in glo_siz)), hd, fun p hp => He.valsB_ok c.more (q := (p.1, .int p.2)) (by rw [siz_eq]; exact List.mem_map.mpr ⟨p, hp, rfl⟩)⟩
  free := fun x hx => He.free_ok X G (c.t.d.facts (fre_in (fre_all x hx)))
  int := fun p hp => He.int_ok X G (c.t.d.facts (int_in (int_all p hp)))
  str := fun p hp => He.str_ok X G (c.t.d.facts (str_in (str_all p hp)))
  fn := fun p hp => by
    obtain ⟨fd, F⟩ := c.t.d.defs (d := mkD p) (by rw [fn_eq]; exact List.mem_map.mpr ⟨p, hp, rfl⟩)
    exact ⟨_, fd, He.glo_ok X G (c.t.d.facts (glo_in (glo_all p hp))), F⟩
theorem facts {P : Program} {w : World} {K : PySem.W.Frag} {h : Heap} {mg : Str → Option Value} {f : Addr} (X : K.In h) (G : h.Ns mainGlobals mg) (hfa : mg ("law" : Str) = some (.ref f)) (c : He.SaysX KEnds.faAll KEnds.fnAll KEnds.tsAll [] KEnds.exAll w h K) :
    ∃ fd : FuncData, (∀ (s : Shared) (v : Value), BindsTo s fd ⟨[v], []⟩ [("_law_script", v)]) ∧ ∀ base : Heap, FnOk P w K mg base CX0 16 f fd ["_law_script"] (SpLaw K) := by
  have T := top_of X G c
  obtain ⟨f2, fd, h1, Fd⟩ := T.fn (91, "law") (by decide)
  have e := hfa.symm.trans h1
  cases e
  have b := FunD.bindsA (ps := ["_law_script"]) Fd fun _ _ _ _ _ _ us hl => match us, hl with | [_], _ => rfl
  exact ⟨fd, fun s v => b s [v] rfl, fun base => w_law T Fd⟩
end KD
open PySem PySem.W PySem.Calls PyProof.Rows
theorem PySem.Challenge.cw_knownends_k66_whole_small_sketches_by_al_holds : PySem.Challenge.rw_knownends_k66_whole_small_sketches_by_al.Holds := by
  w_on; o_law
  refine HandSHeadRun.head_any (r := OpenLaw.row PySem.Challenge.rw_knownends_k66_whole_small_sketches_by_al) (q := view (OpenLaw.row PySem.Challenge.rw_knownends_k66_whole_small_sketches_by_al).prog [91]) (H := KEnds.hk) (ob := KEnds.ob) (M := 20000) (loose := KEnds.loose) (d := HandSHeadRun.topDef (OpenLaw.row PySem.Challenge.rw_knownends_k66_whole_small_sketches_by_al).prog 91) (kwd := []) KEnds.ob_eq
    (by kernel_rfl) (fun s => by kernel_rfl) KEnds.run (by kernel_rfl) (by kernel_rfl) (by kernel_rfl) (by rfl) (by first | assumption | decide +kernel) (by decide +kernel) ⟨rfl, rfl, rfl, rfl, rfl, by decide +kernel⟩ ?hw ?hc
  case hw => w_witness2
  case hc =>
    refine L2.walk_ofE (l := PySem.Challenge.rw_knownends_k66_whole_small_sketches_by_al) (n := 63) (k := 16) (x := "_law_script") (CX := L2.CX0) rfl (by decide) (by kernel_rfl) ⟨rfl, by decide, by decide⟩ ?F (fun _ _ _ _ z => z)
    intro w mg fa h Y G hmg0
    obtain ⟨K, KX, c⟩ := Y
    have hmg : mg ("law" : PySem.Str) = some (.ref fa) := by
      have e : (HandSHeadRun.topDef (OpenLaw.row PySem.Challenge.rw_knownends_k66_whole_small_sketches_by_al).prog 91).name = ("law" : PySem.Str) := by kernel_rfl
      rw [← e]
      exact hmg0
    obtain ⟨fd, hb, hF⟩ := KD.facts (P := (PySem.Challenge.rw_knownends_k66_whole_small_sketches_by_al).prog) (w := w) KX G hmg c
    exact ⟨K, fd, KD.SpLaw K, KX, hb, fun H a ns hl _ hS => ⟨a, ns, rfl, hS, fun _ => rfl⟩, fun base _ _ => hF base⟩

