import PyProof.Rows.All
import Wide.All
import OpenK.AllK
import Wide.FinOn
import HandS.ForMost
import HandS.Wide
import HandS.Gcd
import HandS.IsInst
import HandS.NoneIn
import HandS.SetFor
import PyProof.EqKinds
import HandS.Iter
import HandS.Zip
import HandS.TupAny
import KE.GoesEnum
import PyProof.ReprRoads
import HandS.Defaults
import HandS.Style
import HandS.Dict
import PySem.Challenge.RW_nodice_k02_what_any_value_is
set_option Elab.async false
set_option linter.all false
set_option maxRecDepth 100000
set_option maxHeartbeats 2000000
/-! a layer of our own over the readings: what an expression comes to, as data (PyData), while some objects may change (M) and a word I n of them is kept -/
namespace Jl
open PySem PySem.Spec L2

abbrev BIG : Nat := 1000000
def ExM (M : Addr → Prop) (H H' : Hp) : Prop := ∀ a o, ¬ M a → H a = some o → H' a = some o
theorem ExM.refl {M : Addr → Prop} {H : Hp} : ExM M H H := fun _ _ _ h => h
theorem ExM.trans {M : Addr → Prop} {H H1 H2 : Hp} (a : ExM M H H1) (b : ExM M H1 H2) : ExM M H H2 := fun x o m h => b x o m (a x o m h)
theorem ExM.of {M : Addr → Prop} {H H' : Hp} (e : Same H H') : ExM M H H' := fun a o _ h => e a o h
theorem same_new {H : Hp} {p : Addr} {o : HO} (h : H p = none) : Same H (upd H p o) := fun b x e => by
  rw [upd_ne (ne_of_none e h)]; exact e
structure Wd where
  M : Addr → Prop
  F : Addr → Prop
  I : Nat → Hp → Prop
  mf : ∀ {a}, M a → F a
  sf : ∀ {n H H'}, (∀ a, F a → H' a = H a) → I n H → I n H'
  al : ∀ {n H a}, I n H → F a → H a ≠ none
  ml : ∀ {n H a}, I n H → M a → ∃ xs, H a = some (.lst xs)
  mo : ∀ {n m H}, n ≤ m → I n H → I m H
theorem Wd.fr (W : Wd) {n : Nat} {H : Hp} {p : Addr} (h : W.I n H) (hp : H p = none) : ¬ W.M p := fun m => by
  obtain ⟨xs, e⟩ := W.ml h m
  rw [hp] at e; cases e
theorem Wd.st (W : Wd) {n : Nat} {H H' : Hp} (s : Same H H') (h : W.I n H) : W.I n H' := W.sf (fun a f => by
  cases e : H a with
  | none => exact absurd e (W.al h f)
  | some o => exact s a o e) h
/-- nothing changes -/
def W0 : Wd := ⟨fun _ => False, fun _ => False, fun _ _ => True, fun h => h.elim, fun _ _ => trivial, fun _ h => h.elim, fun _ h => h.elim, fun _ _ => trivial⟩
theorem ex0 {H H' : Hp} (e : ExM W0.M H H') : Same H H' := fun a o h => e a o (fun z => z) h

section
variable (K : PySem.W.Frag) (M : Addr → Prop) (H : Hp)
def WrL (a : Addr) (xs : List V) : Prop := ∃ (o : Obj) (its : Array Value) (n : Nat), K.lookup a = some o ∧ o.cls = .type "list" ∧ o.dict = none ∧ o.data = .seq its n ∧ its.size ≤ sizeLine ∧ Vals xs its.toList
def WrT (a : Addr) (xs : List V) : Prop := ∃ (o : Obj) (its : Array Value) (n : Nat), K.lookup a = some o ∧ o.cls = .type "tuple" ∧ o.data = .seq its n ∧ its.size ≤ sizeLine ∧ Vals xs its.toList
def LsS (a : Addr) (xs : List V) : Prop := (¬ M a ∧ Rd H a (.lst xs)) ∨ WrL K a xs
def TuS (a : Addr) (xs : List V) : Prop := (¬ M a ∧ Rd H a (.tup xs)) ∨ WrT K a xs
mutual
/-- the value v is the data d, now and later -/
inductive DaM : V → PyData → Prop
  | non : DaM .non .none
  | bl (b : Bool) : DaM (.bl b) (.bool b)
  | int (i : Int) : DaM (.int i) (.int i)
  | str (x : Str) : DaM (.str x) (.str x)
  | lst {a : Addr} {xs : List V} {ds : List PyData} : LsS K M H a xs → DaML xs ds → DaM (.ref a) (.list ds)
  | tup {a : Addr} {xs : List V} {ds : List PyData} : TuS K M H a xs → DaML xs ds → DaM (.ref a) (.tuple ds)
  | dct {a : Addr} {kvs : List (Key × V)} {ds : List (PyData × PyData)} : ¬ M a → H a = some (.dK kvs) → DaM (.ref a) (.dict ds)
inductive DaML : List V → List PyData → Prop
  | nil : DaML [] []
  | cons {v : V} {vs : List V} {d : PyData} {ds : List PyData} : DaM v d → DaML vs ds → DaML (v :: vs) (d :: ds)
end
end
abbrev Da (K : PySem.W.Frag) (W : Wd) (H : Hp) (v : V) (d : PyData) : Prop := DaM K W.M H v d
abbrev DaL (K : PySem.W.Frag) (W : Wd) (H : Hp) (vs : List V) (ds : List PyData) : Prop := DaML K W.M H vs ds
variable {K : PySem.W.Frag} {W : Wd} {σ : St} {H H1 H2 : Hp} {v : V} {d : PyData} {n : Nat}
theorem rd_mono {M : Addr → Prop} {a : Addr} {u : HO} (e : ExM M H H1) (m : ¬ M a) (h : Rd H a u) : Rd H1 a u := by
  rcases h with h | ⟨o, h⟩
  · exact .inl (e a _ m h)
  · exact .inr ⟨o, e a _ m h⟩
theorem LsS.mono {M : Addr → Prop} {a : Addr} {xs : List V} (h : LsS K M H a xs) (e : ExM M H H1) : LsS K M H1 a xs := by
  rcases h with ⟨m, h⟩ | h
  · exact .inl ⟨m, rd_mono e m h⟩
  · exact .inr h
theorem TuS.mono {M : Addr → Prop} {a : Addr} {xs : List V} (h : TuS K M H a xs) (e : ExM M H H1) : TuS K M H1 a xs := by
  rcases h with ⟨m, h⟩ | h
  · exact .inl ⟨m, rd_mono e m h⟩
  · exact .inr h
theorem LsS.sq {M : Addr → Prop} {a : Addr} {xs : List V} (h : LsS K M H a xs) : SqL K H a xs := by
  rcases h with ⟨m, h⟩ | h
  · exact .inl h
  · exact .inr h
theorem TuS.sq {M : Addr → Prop} {a : Addr} {xs : List V} (h : TuS K M H a xs) : SqT K H a xs := by
  rcases h with ⟨m, h⟩ | h
  · exact .inl h
  · exact .inr h
mutual
theorem DaM.mono {M : Addr → Prop} (e : ExM M H H1) : ∀ (d : PyData) (v : V), DaM K M H v d → DaM K M H1 v d
  | .none, _, h => by cases h; exact .non
  | .bool _, _, h => by cases h; exact .bl _
  | .int _, _, h => by cases h; exact .int _
  | .str _, _, h => by cases h; exact .str _
  | .list ds, _, h => by
    cases h with
    | lst hs ha => exact .lst (hs.mono e) (DaML.mono e ds _ ha)
  | .tuple ds, _, h => by
    cases h with
    | tup hs ha => exact .tup (hs.mono e) (DaML.mono e ds _ ha)
  | .dict _, _, h => by
    cases h with
    | dct m x => exact .dct m (e _ _ m x)
theorem DaML.mono {M : Addr → Prop} (e : ExM M H H1) : ∀ (ds : List PyData) (vs : List V), DaML K M H vs ds → DaML K M H1 vs ds
  | [], _, h => by cases h; exact .nil
  | d :: ds, _, h => by
    cases h with
    | cons h1 h2 => exact .cons (DaM.mono e d _ h1) (DaML.mono e ds _ h2)
end
mutual
theorem DaM.dp {M : Addr → Prop} : ∀ (d : PyData) (v : V), d.hasDict = false → DaM K M H v d → Dp K H v d
  | .none, _, _, h => by cases h; exact .non
  | .bool _, _, _, h => by cases h; exact .bl _
  | .int _, _, _, h => by cases h; exact .int _
  | .str _, _, _, h => by cases h; exact .str _
  | .list ds, _, n, h => by
    cases h with
    | lst hs ha => exact .lst hs.sq (DaML.dp ds _ (by simpa [PyData.hasDict] using n) ha)
  | .tuple ds, _, n, h => by
    cases h with
    | tup hs ha => exact .tup hs.sq (DaML.dp ds _ (by simpa [PyData.hasDict] using n) ha)
  | .dict _, _, n, _ => by simp [PyData.hasDict] at n
theorem DaML.dp {M : Addr → Prop} : ∀ (ds : List PyData) (vs : List V), PyData.hasDictAll ds = false → DaML K M H vs ds → DpAll K H vs ds
  | [], _, _, h => by cases h; exact .nil
  | d :: ds, _, n, h => by
    cases h with
    | cons h1 h2 =>
      simp only [PyData.hasDictAll, Bool.or_eq_false_iff] at n
      exact .cons (DaM.dp d _ n.1 h1) (DaML.dp ds _ n.2 h2)
end
theorem Da.mono (h : Da K W H v d) (e : ExM W.M H H1) : Da K W H1 v d := DaM.mono e d v h
theorem DaL.mono {vs : List V} {ds : List PyData} (h : DaL K W H vs ds) (e : ExM W.M H H1) : DaL K W H1 vs ds := DaML.mono e ds vs h
theorem Da.dp (h : Da K W H v d) (n : d.hasDict = false) : Dp K H v d := DaM.dp d v n h
theorem Da.dpS (h : Da K W H v d) (n : SeqAt.shaped d = true) : Dp K H v d := h.dp (PyData.hasDict_of_canLay _ (SeqAt.canLay_of_shaped n))
theorem da_int {i : Int} : Da K W H (.int i) (.int i) := .int i
theorem da_bl {b : Bool} : Da K W H (.bl b) (.bool b) := .bl b
theorem da_non : Da K W H .non .none := .non
theorem da_str {x : Str} : Da K W H (.str x) (.str x) := .str x
theorem da_tup {a : Addr} {xs : List V} {ds : List PyData} (m : ¬ W.M a) (e : H a = some (.tup xs)) (h : DaL K W H xs ds) : Da K W H (.ref a) (.tuple ds) := .tup (.inl ⟨m, .inl e⟩) h
theorem da_lst {a : Addr} {xs : List V} {ds : List PyData} (m : ¬ W.M a) (e : H a = some (.lst xs)) (h : DaL K W H xs ds) : Da K W H (.ref a) (.list ds) := .lst (.inl ⟨m, .inl e⟩) h
theorem Da.int {i : Int} (h : Da K W H v (.int i)) : v = .int i := by cases h; rfl
theorem Da.bl {b : Bool} (h : Da K W H v (.bool b)) : v = .bl b := by cases h; rfl
theorem Da.non (h : Da K W H v .none) : v = .non := by cases h; rfl
theorem Da.str {x : Str} (h : Da K W H v (.str x)) : v = .str x := by cases h; rfl

/-! ### data without a list -/
mutual
def noL : PyData → Bool
  | .list _ => false
  | .tuple ds => noLs ds
  | _ => true
def noLs : List PyData → Bool
  | [] => true
  | d :: ds => noL d && noLs ds
end
mutual
theorem da_keep {M : Addr → Prop} (hI : ∀ a, M a → ∃ xs, H a = some (.lst xs)) : ∀ (d : PyData) (v : V), noL d = true → Da K W0 H v d → DaM K M H v d
  | .none, _, _, h => by cases h; exact .non
  | .bool _, _, _, h => by cases h; exact .bl _
  | .int _, _, _, h => by cases h; exact .int _
  | .str _, _, _, h => by cases h; exact .str _
  | .list _, _, n, _ => by simp [noL] at n
  | .dict _, _, _, h => by
    cases h with
    | dct m x =>
      refine .dct (fun m => ?_) x
      obtain ⟨_, z⟩ := hI _ m
      rw [x] at z; cases z
  | .tuple ds, _, n, h => by
    cases h with
    | @tup a xs _ hs ha =>
      refine .tup ?_ (dal_keep hI ds xs (by simpa [noL] using n) ha)
      rcases hs with ⟨_, h1⟩ | h1
      · refine .inl ⟨fun m => ?_, h1⟩
        obtain ⟨_, z⟩ := hI a m
        rcases h1 with h1 | ⟨o, h1⟩ <;> (rw [h1] at z; cases z)
      · exact .inr h1
theorem dal_keep {M : Addr → Prop} (hI : ∀ a, M a → ∃ xs, H a = some (.lst xs)) : ∀ (ds : List PyData) (vs : List V), noLs ds = true → DaL K W0 H vs ds → DaML K M H vs ds
  | [], _, _, h => by cases h; exact .nil
  | d :: ds, _, n, h => by
    cases h with
    | cons h1 h2 =>
      simp only [noLs, Bool.and_eq_true] at n
      exact .cons (da_keep hI d _ n.1 h1) (dal_keep hI ds _ n.2 h2)
end
theorem da_of (hI : W.I n H) (hn : noL d = true) (h : Da K W0 H v d) : Da K W H v d := da_keep (fun _ m => W.ml hI m) d v hn h
mutual
/-- to where nothing changes -/
theorem da_weak {M : Addr → Prop} : ∀ (d : PyData) (v : V), DaM K M H v d → Da K W0 H v d
  | .none, _, h => by cases h; exact DaM.non
  | .bool _, _, h => by cases h; exact DaM.bl _
  | .int _, _, h => by cases h; exact DaM.int _
  | .str _, _, h => by cases h; exact DaM.str _
  | .list ds, _, h => by
    cases h with
    | lst hs ha =>
      refine .lst ?_ (dal_weak ds _ ha)
      rcases hs with ⟨_, h1⟩ | h1
      · exact .inl ⟨fun z => z, h1⟩
      · exact .inr h1
  | .tuple ds, _, h => by
    cases h with
    | tup hs ha =>
      refine .tup ?_ (dal_weak ds _ ha)
      rcases hs with ⟨_, h1⟩ | h1
      · exact .inl ⟨fun z => z, h1⟩
      · exact .inr h1
  | .dict _, _, h => by
    cases h with
    | dct m x => exact .dct (fun z => z) x
theorem dal_weak {M : Addr → Prop} : ∀ (ds : List PyData) (vs : List V), DaML K M H vs ds → DaL K W0 H vs ds
  | [], _, h => by cases h; exact .nil
  | d :: ds, _, h => by
    cases h with
    | cons h1 h2 => exact .cons (da_weak d _ h1) (dal_weak ds _ h2)
end
theorem Da.w0 (h : Da K W H v d) : Da K W0 H v d := da_weak d v h
theorem DaL.w0 {vs : List V} {ds : List PyData} (h : DaL K W H vs ds) : DaL K W0 H vs ds := dal_weak ds vs h

/-! ### what an expression comes to -/
def J (W : Wd) (te : TE) (σ : St) (H : Hp) (c : Nat) (P : V → Hp → Prop) : Prop :=
  ∀ n H1, ExM W.M H H1 → W.I n H1 → n + c ≤ BIG → ∀ Q : VK, (∀ v H2, ExM W.M H1 H2 → W.I (n + c) H2 → P v H2 → Q v H2) → te σ H1 Q
def JA (W : Wd) (ta : TA) (σ : St) (H : Hp) (c : Nat) (P : List V → Hp → Prop) : Prop :=
  ∀ n H1, ExM W.M H H1 → W.I n H1 → n + c ≤ BIG → ∀ Q : List V → Hp → Prop, (∀ v H2, ExM W.M H1 H2 → W.I (n + c) H2 → P v H2 → Q v H2) → ta σ H1 Q
def JT (_K : PySem.W.Frag) (W : Wd) (tt : TT) (σ : St) (H : Hp) (c : Nat) (P : Bool → Prop) : Prop :=
  ∀ n H1, ExM W.M H H1 → W.I n H1 → n + c ≤ BIG → ∀ Q : Bool → Hp → Prop, (∀ b H2, ExM W.M H1 H2 → W.I (n + c) H2 → P b → Q b H2) → tt σ H1 Q
/-- exactly the data d; exactly the truth b -/
abbrev JD (K : PySem.W.Frag) (W : Wd) (te : TE) (σ : St) (H : Hp) (c : Nat) (d : PyData) : Prop := J W te σ H c fun v H2 => Da K W H2 v d
abbrev JX (K : PySem.W.Frag) (W : Wd) (te : TE) (σ : St) (H : Hp) (c : Nat) (φ : PyData → Prop) : Prop := J W te σ H c fun v H2 => ∃ d, φ d ∧ Da K W H2 v d
abbrev JDA (K : PySem.W.Frag) (W : Wd) (ta : TA) (σ : St) (H : Hp) (c : Nat) (ds : List PyData) : Prop := JA W ta σ H c fun v H2 => DaL K W H2 v ds
abbrev JB (K : PySem.W.Frag) (W : Wd) (tt : TT) (σ : St) (H : Hp) (c : Nat) (b : Bool) : Prop := JT K W tt σ H c fun x => x = b
variable {te ta tb : TE} {c c1 c2 : Nat} {P P1 P2 : V → Hp → Prop}
theorem J.mono (h : J W te σ H c P) (e : ExM W.M H H1) : J W te σ H1 c P := fun n H2 e2 => h n H2 (e.trans e2)
theorem JA.mono {ta : TA} {P : List V → Hp → Prop} (h : JA W ta σ H c P) (e : ExM W.M H H1) : JA W ta σ H1 c P := fun n H2 e2 => h n H2 (e.trans e2)
theorem JT.mono {tt : TT} {P : Bool → Prop} (h : JT K W tt σ H c P) (e : ExM W.M H H1) : JT K W tt σ H1 c P := fun n H2 e2 => h n H2 (e.trans e2)
theorem J.imp (h : J W te σ H c P) (f : ∀ v H2, P v H2 → P1 v H2) : J W te σ H c P1 := fun n H1 e hI hn Q q => h n H1 e hI hn Q fun v H2 e2 hI2 p => q v H2 e2 hI2 (f v H2 p)
theorem J.le (h : J W te σ H c P) (hc : c ≤ c1) : J W te σ H c1 P := fun n H1 e hI hn Q q => h n H1 e hI (by omega) Q fun v H2 e2 hI2 p => q v H2 e2 (W.mo (by omega) hI2) p
theorem JT.le {tt : TT} {P : Bool → Prop} (h : JT K W tt σ H c P) (hc : c ≤ c1) : JT K W tt σ H c1 P := fun n H1 e hI hn Q q => h n H1 e hI (by omega) Q fun v H2 e2 hI2 p => q v H2 e2 (W.mo (by omega) hI2) p
theorem JD.eq {e : PyData} (h : JD K W te σ H c d) (x : d = e) : JD K W te σ H c e := x ▸ h
theorem JB.eq {tt : TT} {a b : Bool} (h : JB K W tt σ H c a) (x : a = b) : JB K W tt σ H c b := x ▸ h
theorem j_v {i : Nat} (h : σ[i]? = some (some v)) : J W (tVar i) σ H 0 (fun x _ => x = v) := fun n H1 _ hI _ Q q => ⟨v, h, q v H1 ExM.refl hI rfl⟩
theorem jd_v {i : Nat} (h : σ[i]? = some (some v)) (hd : Da K W H v d) : JD K W (tVar i) σ H 0 d := fun n H1 e hI _ Q q => ⟨v, h, q v H1 ExM.refl hI (hd.mono e)⟩
theorem jd_vi {i : Nat} {k : Int} (h : σ[i]? = some (some (.int k))) : JD K W (tVar i) σ H 0 (.int k) := jd_v h da_int
theorem jd_c (hd : ∀ H, Da K W H v d) : JD K W (tC v) σ H 0 d := fun n H1 e hI _ Q q => q v H1 ExM.refl hI (hd H1)
theorem jd_int {i : Int} : JD K W (tC (.int i)) σ H 0 (.int i) := jd_c fun _ => da_int
theorem jd_bl {b : Bool} : JD K W (tC (.bl b)) σ H 0 (.bool b) := jd_c fun _ => da_bl
theorem jd_non : JD K W (tC .non) σ H 0 .none := jd_c fun _ => da_non
theorem jd_str {x : Str} : JD K W (tC (.str x)) σ H 0 (.str x) := jd_c fun _ => da_str
/-- two data, an operation upon them -/
theorem jd_op {r : R2} {d1 d2 : PyData} (ha : JD K W ta σ H c1 d1) (hb : JD K W tb σ H c2 d2)
    (hr : ∀ x y n H1, W.I n H1 → Da K W H1 x d1 → Da K W H1 y d2 → ∀ Q : VK, (∀ v H2, Same H1 H2 → Da K W H2 v d → Q v H2) → r x y H1 Q) : JD K W (tOp r ta tb) σ H (c1 + c2) d := fun n H1 e hI hn Q q =>
  ha n H1 e hI (by omega) _ fun x H2 e2 hI2 hx => hb (n + c1) H2 (e.trans e2) hI2 (by omega) _ fun y H3 e3 hI3 hy => hr x y _ H3 hI3 (hx.mono e3) hy Q fun v H4 e4 hv =>
    q v H4 ((e2.trans e3).trans (.of e4)) (W.st e4 (by rw [show n + (c1 + c2) = n + c1 + c2 by omega]; exact hI3)) hv
theorem jd_un {r : V → Hp → VK → Prop} {d1 : PyData} (ha : JD K W ta σ H c d1)
    (hr : ∀ x n H1, W.I n H1 → Da K W H1 x d1 → ∀ Q : VK, (∀ v H2, Same H1 H2 → Da K W H2 v d → Q v H2) → r x H1 Q) : JD K W (tUn r ta) σ H c d := fun n H1 e hI hn Q q =>
  ha n H1 e hI hn _ fun x H2 e2 hI2 hx => hr x _ H2 hI2 hx Q fun v H4 e4 hv => q v H4 (e2.trans (.of e4)) (W.st e4 hI2) hv
theorem jd_I {C : Int → Int → Prop} {g : Int → Int → V} {i j : Int} (ha : JD K W ta σ H c1 (.int i)) (hb : JD K W tb σ H c2 (.int j)) (hc : C i j) (hd : ∀ H, Da K W H (g i j) d) : JD K W (tOp (rI C g) ta tb) σ H (c1 + c2) d :=
  jd_op ha hb fun x y n H1 _ hx hy Q q => ⟨i, j, hx.int, hy.int, hc, q _ H1 (Same.refl _) (hd H1)⟩
theorem jd_I0 {g : Int → Int → V} {i j : Int} (ha : JD K W ta σ H c1 (.int i)) (hb : JD K W tb σ H c2 (.int j)) (hd : ∀ H, Da K W H (g i j) d) : JD K W (tOp (rI0 g) ta tb) σ H (c1 + c2) d :=
  jd_op ha hb fun x y n H1 _ hx hy Q q => ⟨i, j, hx.int, hy.int, q _ H1 (Same.refl _) (hd H1)⟩
/-- ints to an int, ints to a truth -/
theorem jd_Ii {C : Int → Int → Prop} {f : Int → Int → Int} {i j : Int} (ha : JD K W ta σ H c1 (.int i)) (hb : JD K W tb σ H c2 (.int j)) (hc : C i j) : JD K W (tOp (rI C fun i j => .int (f i j)) ta tb) σ H (c1 + c2) (.int (f i j)) := jd_I ha hb hc fun _ => da_int
theorem jd_I0i {f : Int → Int → Int} {i j : Int} (ha : JD K W ta σ H c1 (.int i)) (hb : JD K W tb σ H c2 (.int j)) : JD K W (tOp (rI0 fun i j => .int (f i j)) ta tb) σ H (c1 + c2) (.int (f i j)) := jd_I0 ha hb fun _ => da_int
theorem jd_I0b {f : Int → Int → Bool} {i j : Int} (ha : JD K W ta σ H c1 (.int i)) (hb : JD K W tb σ H c2 (.int j)) : JD K W (tOp (rI0 fun i j => .bl (f i j)) ta tb) σ H (c1 + c2) (.bool (f i j)) := jd_I0 ha hb fun _ => da_bl
theorem jd_neg {f : Int → Int} {i : Int} (ha : JD K W ta σ H c (.int i)) : JD K W (tUn (rU fun i => .int (f i)) ta) σ H c (.int (f i)) := jd_un ha fun x n H1 _ hx Q q => ⟨i, hx.int, q _ H1 (Same.refl _) da_int⟩
/-- two ints compared by the rule for scalars -/
theorem jd_eqI {i j : Int} (ha : JD K W ta σ H c1 (.int i)) (hb : JD K W tb σ H c2 (.int j)) : JD K W (tOp rEq ta tb) σ H (c1 + c2) (.bool (decide (i = j))) := jd_op ha hb fun x y n H1 _ hx hy Q q => by
  have e1 := hx.int; have e2 := hy.int; subst e1 e2
  refine ⟨rfl, ?_⟩
  have := q (.bl (decide (i = j))) H1 (Same.refl _) da_bl
  have e : decide (V.int i = V.int j) = decide (i = j) := by by_cases h : i = j <;> simp [h]
  rw [e]; exact this
theorem jd_neI {i j : Int} (ha : JD K W ta σ H c1 (.int i)) (hb : JD K W tb σ H c2 (.int j)) : JD K W (tOp rNe ta tb) σ H (c1 + c2) (.bool (!decide (i = j))) := jd_op ha hb fun x y n H1 _ hx hy Q q => by
  have e1 := hx.int; have e2 := hy.int; subst e1 e2
  refine ⟨rfl, ?_⟩
  have := q (.bl (!decide (i = j))) H1 (Same.refl _) da_bl
  have e : decide (V.int i = V.int j) = decide (i = j) := by by_cases h : i = j <;> simp [h]
  rw [e]; exact this
theorem jd_eqB {i j : Bool} (ha : JD K W ta σ H c1 (.bool i)) (hb : JD K W tb σ H c2 (.bool j)) : JD K W (tOp rEq ta tb) σ H (c1 + c2) (.bool (decide (i = j))) := jd_op ha hb fun x y n H1 _ hx hy Q q => by
  have e1 := hx.bl; have e2 := hy.bl; subst e1 e2
  refine ⟨rfl, ?_⟩
  have := q (.bl (decide (i = j))) H1 (Same.refl _) da_bl
  have e : decide (V.bl i = V.bl j) = decide (i = j) := by by_cases h : i = j <;> simp [h]
  rw [e]; exact this
theorem jd_neB {i j : Bool} (ha : JD K W ta σ H c1 (.bool i)) (hb : JD K W tb σ H c2 (.bool j)) : JD K W (tOp rNe ta tb) σ H (c1 + c2) (.bool (!decide (i = j))) := jd_op ha hb fun x y n H1 _ hx hy Q q => by
  have e1 := hx.bl; have e2 := hy.bl; subst e1 e2
  refine ⟨rfl, ?_⟩
  have := q (.bl (!decide (i = j))) H1 (Same.refl _) da_bl
  have e : decide (V.bl i = V.bl j) = decide (i = j) := by by_cases h : i = j <;> simp [h]
  rw [e]; exact this
theorem jd_eqD {d1 d2 : PyData} (ha : JD K W ta σ H c1 d1) (hb : JD K W tb σ H c2 d2) (s1 : SeqAt.shaped d1 = true) (s2 : SeqAt.shaped d2 = true) : JD K W (tOp (rEqD K) ta tb) σ H (c1 + c2) (.bool (PyData.eqv d1 d2)) :=
  jd_op ha hb fun x y n H1 _ hx hy Q q => ⟨d1, d2, hx.dpS s1, hy.dpS s2, s1, s2, q _ H1 (Same.refl _) da_bl⟩
theorem jd_neD {d1 d2 : PyData} (ha : JD K W ta σ H c1 d1) (hb : JD K W tb σ H c2 d2) (s1 : SeqAt.shaped d1 = true) (s2 : SeqAt.shaped d2 = true) : JD K W (tOp (rNeD K) ta tb) σ H (c1 + c2) (.bool (!PyData.eqv d1 d2)) :=
  jd_op ha hb fun x y n H1 _ hx hy Q q => ⟨d1, d2, hx.dpS s1, hy.dpS s2, s1, s2, q _ H1 (Same.refl _) da_bl⟩
def isNoneD : PyData → Bool
  | .none => true
  | _ => false
theorem da_isN (h : Da K W H v d) : decide (v = .non) = isNoneD d := by cases h <;> rfl
theorem jd_isN (ha : JD K W ta σ H c1 d) (hb : JD K W tb σ H c2 .none) : JD K W (tOp (fun x y H Q => y = .non ∧ Q (.bl (decide (x = .non))) H) ta tb) σ H (c1 + c2) (.bool (isNoneD d)) :=
  jd_op ha hb fun x y n H1 _ hx hy Q q => ⟨hy.non, by rw [da_isN hx]; exact q _ H1 (Same.refl _) da_bl⟩
theorem jd_notN (ha : JD K W ta σ H c1 d) (hb : JD K W tb σ H c2 .none) : JD K W (tOp (fun x y H Q => y = .non ∧ Q (.bl (!decide (x = .non))) H) ta tb) σ H (c1 + c2) (.bool (!isNoneD d)) :=
  jd_op ha hb fun x y n H1 _ hx hy Q q => ⟨hy.non, by rw [da_isN hx]; exact q _ H1 (Same.refl _) da_bl⟩
/-! items -/
theorem dal_len : ∀ {xs : List V} {ds : List PyData}, DaL K W H xs ds → xs.length = ds.length
  | _, _, .nil => rfl
  | _, _, .cons _ t => by rw [List.length_cons, List.length_cons, dal_len t]
theorem dal_at {xs : List V} : ∀ {ds : List PyData} {j : Nat} {d : PyData}, DaL K W H xs ds → ds[j]? = some d → ∃ x, xs[j]? = some x ∧ Da K W H x d := by
  induction xs with
  | nil => intro ds j d h e; cases h; cases e
  | cons v vs ih =>
    intro ds j x h e
    cases h with
    | cons h1 h2 =>
      cases j with
      | zero => cases e; exact ⟨v, rfl, h1⟩
      | succ j =>
        have z := ih h2 e
        exact z
theorem dal_get {xs : List V} : ∀ {ds : List PyData} {j : Nat} {x : V}, DaL K W H xs ds → xs[j]? = some x → ∃ d, ds[j]? = some d ∧ Da K W H x d := by
  induction xs with
  | nil => intro _ _ _ _ h; cases h
  | cons v vs ih =>
    intro ds j x h e
    cases h with
    | @cons _ _ d ds h1 h2 =>
      cases j with
      | zero => cases e; exact ⟨d, rfl, h1⟩
      | succ j =>
        have z := ih (ds := ds) h2 e
        exact z
theorem dal_atI {xs : List V} {ds : List PyData} {i : Int} {d : PyData} (h : DaL K W H xs ds) (e : atI ds i = some d) : ∃ x, atI xs i = some x ∧ Da K W H x d := by
  unfold atI at e ⊢
  rw [dal_len h]
  cases q : ixN ds.length i with
  | none => rw [q] at e; cases e
  | some j => rw [q] at e; exact dal_at h e
theorem jd_ixT {ds : List PyData} {i : Int} (ha : JD K W ta σ H c1 (.tuple ds)) (hb : JD K W tb σ H c2 (.int i)) (he : atI ds i = some d) : JD K W (tOp (rIxT K) ta tb) σ H (c1 + c2) d :=
  jd_op ha hb fun x y n H1 _ hx hy Q q => by
    cases hx with
    | tup hs hl =>
      obtain ⟨z, ez, dz⟩ := dal_atI (W := W) hl he
      exact ⟨_, _, i, z, rfl, hy.int, hs.sq, ez, q z H1 (Same.refl _) dz⟩
theorem jd_ixL {ds : List PyData} {i : Int} (ha : JD K W ta σ H c1 (.list ds)) (hb : JD K W tb σ H c2 (.int i)) (he : atI ds i = some d) : JD K W (tOp (rIxL K) ta tb) σ H (c1 + c2) d :=
  jd_op ha hb fun x y n H1 _ hx hy Q q => by
    cases hx with
    | lst hs hl =>
      obtain ⟨z, ez, dz⟩ := dal_atI (W := W) hl he
      exact ⟨_, _, i, z, rfl, hy.int, hs.sq, ez, q z H1 (Same.refl _) dz⟩

/-! ### arguments, displays, calls -/
theorem ja_nil : JDA K W tNil σ H 0 [] := fun n H1 _ hI _ Q q => q [] H1 ExM.refl hI .nil
theorem ja_cons {tr : TA} {ds : List PyData} (ha : JD K W ta σ H c1 d) (hr : JDA K W tr σ H c2 ds) : JDA K W (tCons ta tr) σ H (c1 + c2) (d :: ds) := fun n H1 e hI hn Q q =>
  ha n H1 e hI (by omega) _ fun x H2 e2 hI2 hx => hr (n + c1) H2 (e.trans e2) hI2 (by omega) _ fun xs H3 e3 hI3 hxs =>
    q (x :: xs) H3 (e2.trans e3) (by rw [show n + (c1 + c2) = n + c1 + c2 by omega]; exact hI3) (.cons (Da.mono hx e3) hxs)
theorem jd_tup {t : TA} {ds : List PyData} (h : JDA K W t σ H c ds) (hl : ds.length ≤ 100000) : JD K W (tTup t) σ H c (.tuple ds) := fun n H1 e hI hn Q q =>
  h n H1 e hI hn _ fun xs H2 e2 hI2 hx => ⟨by rw [dal_len hx]; exact Nat.le_trans hl (by decide), fun p hp =>
    q (.ref p) _ (e2.trans (.of (same_new hp))) (W.st (same_new hp) hI2) (da_tup (W.fr hI2 hp) upd_same (DaL.mono hx (.of (same_new hp))))⟩
theorem jd_lst {t : TA} {ds : List PyData} (h : JDA K W t σ H c ds) (hl : ds.length ≤ 100000) : JD K W (tLst t) σ H c (.list ds) := fun n H1 e hI hn Q q =>
  h n H1 e hI hn _ fun xs H2 e2 hI2 hx => ⟨by rw [dal_len hx]; exact Nat.le_trans hl (by decide), fun p hp =>
    q (.ref p) _ (e2.trans (.of (same_new hp))) (W.st (same_new hp) hI2) (da_lst (W.fr hI2 hp) upd_same (DaL.mono hx (.of (same_new hp))))⟩
/-- a def that changes nothing: data to data (without a list) -/
def spPure (K : PySem.W.Frag) (rel : List PyData → PyData → Prop) : Sp := fun vs H Q _ => ∃ (ds : List PyData) (r : PyData), DaL K W0 H vs ds ∧ rel ds r ∧ ∀ v H', Same H H' → Da K W0 H' v r → Q v H'
theorem jd_call {rel : List PyData → PyData → Prop} {ds : List PyData} {r : PyData} {E : XK} {t : TA} (h : JDA K W t σ H c ds) (hr : rel ds r) (hn : noL r = true) : JD K W (tCall (spPure K rel) [] E t) σ H c r := fun n H1 e hI hb Q q =>
  h n H1 e hI hb _ fun vs H2 e2 hI2 hv => ⟨ds, r, by rw [List.append_nil]; exact hv.w0, hr, fun v H' s hd => q v H' (e2.trans (.of s)) (W.st s hI2) (da_of (W.st s hI2) hn hd)⟩
/-- a built-in upon data -/
theorem jd_cb {r : List V → Hp → VK → Prop} {t : TA} {ds : List PyData} (h : JDA K W t σ H c ds) (hr : ∀ vs n H1, W.I n H1 → DaL K W H1 vs ds → ∀ Q : VK, (∀ v H2, Same H1 H2 → Da K W H2 v d → Q v H2) → r vs H1 Q) : JD K W (tCB r t) σ H c d := fun n H1 e hI hb Q q =>
  h n H1 e hI hb _ fun vs H2 e2 hI2 hv => hr vs _ H2 hI2 hv Q fun v H' s hd => q v H' (e2.trans (.of s)) (W.st s hI2) hd
theorem dal1 {d : PyData} {vs : List V} (h : DaL K W H vs [d]) : ∃ x, vs = [x] ∧ Da K W H x d := by
  cases h with
  | cons h1 h2 => cases h2; exact ⟨_, rfl, h1⟩
theorem dal2 {d e : PyData} {vs : List V} (h : DaL K W H vs [d, e]) : ∃ x y, vs = [x, y] ∧ Da K W H x d ∧ Da K W H y e := by
  cases h with
  | cons h1 h2 =>
    obtain ⟨y, rfl, h3⟩ := dal1 (W := W) h2
    exact ⟨_, y, rfl, h1, h3⟩
theorem dal3 {d e f : PyData} {vs : List V} (h : DaL K W H vs [d, e, f]) : ∃ x y z, vs = [x, y, z] ∧ Da K W H x d ∧ Da K W H y e ∧ Da K W H z f := by
  cases h with
  | cons h1 h2 =>
    obtain ⟨y, z, rfl, h3⟩ := dal2 (W := W) h2
    exact ⟨_, y, z, rfl, h1, h3⟩
theorem dal4 {d e f g : PyData} {vs : List V} (h : DaL K W H vs [d, e, f, g]) : ∃ x y z u, vs = [x, y, z, u] ∧ Da K W H x d ∧ Da K W H y e ∧ Da K W H z f ∧ Da K W H u g := by
  cases h with
  | cons h1 h2 =>
    obtain ⟨y, z, u, rfl, h3⟩ := dal3 (W := W) h2
    exact ⟨_, y, z, u, rfl, h1, h3⟩
theorem jd_abs {t : TA} {i : Int} (h : JDA K W t σ H c [.int i]) : JD K W (tCB (fun xs H Q => ∃ i, xs = [.int i] ∧ Q (.int (if i < 0 then -i else i)) H) t) σ H c (.int (if i < 0 then -i else i)) := jd_cb h fun vs n H1 _ hv Q q => by
  obtain ⟨x, rfl, hx⟩ := dal1 hv
  exact ⟨i, by rw [hx.int], q _ H1 (Same.refl _) da_int⟩
theorem jd_int1 {t : TA} {i : Int} (h : JDA K W t σ H c [.int i]) : JD K W (tCB (fun xs H Q => (∃ i, xs = [.int i] ∧ Q (.int i) H) ∨ ∃ k, xs = [.bl k] ∧ Q (.int (if k then 1 else 0)) H) t) σ H c (.int i) := jd_cb h fun vs n H1 _ hv Q q => by
  obtain ⟨x, rfl, hx⟩ := dal1 hv
  exact .inl ⟨i, by rw [hx.int], q _ H1 (Same.refl _) da_int⟩
theorem jd_intB {t : TA} {b : Bool} (h : JDA K W t σ H c [.bool b]) : JD K W (tCB (fun xs H Q => (∃ i, xs = [.int i] ∧ Q (.int i) H) ∨ ∃ k, xs = [.bl k] ∧ Q (.int (if k then 1 else 0)) H) t) σ H c (.int (if b then 1 else 0)) := jd_cb h fun vs n H1 _ hv Q q => by
  obtain ⟨x, rfl, hx⟩ := dal1 hv
  exact .inr ⟨b, by rw [hx.bl], q _ H1 (Same.refl _) da_int⟩
theorem jd_gcd {t : TA} {i j : Int} (h : JDA K W t σ H c [.int i, .int j]) : JD K W (tCB rGcd t) σ H c (.int ((Nat.gcd i.natAbs j.natAbs : Nat) : Int)) := jd_cb h fun vs n H1 _ hv Q q => by
  obtain ⟨x, y, rfl, hx, hy⟩ := dal2 hv
  exact ⟨i, j, by rw [hx.int, hy.int], q _ H1 (Same.refl _) da_int⟩
def lenD : PyData → Nat
  | .list ds => ds.length
  | .tuple ds => ds.length
  | _ => 0
def isSeq : PyData → Bool
  | .list _ => true
  | .tuple _ => true
  | _ => false
theorem jd_lenS {t : TA} (h : JDA K W t σ H c [d]) (hs : isSeq d = true) : JD K W (tCB (fun xs H Q => ∃ p ys, xs = [.ref p] ∧ (SqL K H p ys ∨ SqT K H p ys) ∧ Q (.int ys.length) H) t) σ H c (.int (lenD d)) := jd_cb h fun vs n H1 _ hv Q q => by
  obtain ⟨x, rfl, hx⟩ := dal1 hv
  cases hx with
  | @lst a xs ds hs' hl => exact ⟨a, xs, rfl, .inl hs'.sq, by rw [dal_len (W := W) hl]; exact q _ H1 (Same.refl _) da_int⟩
  | @tup a xs ds hs' hl => exact ⟨a, xs, rfl, .inr hs'.sq, by rw [dal_len (W := W) hl]; exact q _ H1 (Same.refl _) da_int⟩
  | _ => cases hs

/-! ### truths -/
variable {tt tu : TT} {b b1 b2 : Bool}
theorem jb_test (h : JD K W te σ H c (.bool b)) : JB K W (tTest te) σ H c b := fun n H1 e hI hn Q q => h n H1 e hI hn _ fun v H2 e2 hI2 hv => ⟨b, hv.bl, q b H2 e2 hI2 rfl⟩
theorem jb_B (h : JD K W te σ H c (.bool b)) : JB K W (tB te) σ H c b := fun n H1 e hI hn Q q => h n H1 e hI hn _ fun v H2 e2 hI2 hv => ⟨b, hv.bl, q b H2 e2 hI2 rfl⟩
theorem jb_not (h : JB K W tt σ H c b) : JB K W (tNot tt) σ H c (!b) := fun n H1 e hI hn Q q => h n H1 e hI hn _ fun x H2 e2 hI2 hx => q _ H2 e2 hI2 (by rw [hx])
theorem jb_and (h1 : JB K W tt σ H c1 b1) (h2 : b1 = true → JB K W tu σ H c2 b2) : JB K W (tAnd tt tu) σ H (c1 + c2) (b1 && b2) := fun n H1 e hI hn Q q => h1 n H1 e hI (by omega) _ fun x H2 e2 hI2 hx => by
  subst hx
  cases x with
  | false =>
    show Q false H2
    exact q _ H2 e2 (W.mo (by omega) hI2) rfl
  | true =>
    show tu σ H2 Q
    exact h2 rfl (n + c1) H2 (e.trans e2) hI2 (by omega) Q fun y H3 e3 hI3 hy => q y H3 (e2.trans e3) (W.mo (by omega) hI3) hy
theorem jb_or (h1 : JB K W tt σ H c1 b1) (h2 : b1 = false → JB K W tu σ H c2 b2) : JB K W (tOr tt tu) σ H (c1 + c2) (b1 || b2) := fun n H1 e hI hn Q q => h1 n H1 e hI (by omega) _ fun x H2 e2 hI2 hx => by
  subst hx
  cases x with
  | true =>
    show Q true H2
    exact q _ H2 e2 (W.mo (by omega) hI2) rfl
  | false =>
    show tu σ H2 Q
    exact h2 rfl (n + c1) H2 (e.trans e2) hI2 (by omega) Q fun y H3 e3 hI3 hy => q y H3 (e2.trans e3) (W.mo (by omega) hI3) hy
theorem jd_andV (h1 : JD K W ta σ H c1 (.bool b1)) (h2 : b1 = true → JD K W tb σ H c2 (.bool b2)) : JD K W (tAndV ta tb) σ H (c1 + c2) (.bool (b1 && b2)) := fun n H1 e hI hn Q q => h1 n H1 e hI (by omega) _ fun x H2 e2 hI2 hx => ⟨b1, hx.bl, by
  cases b1 with
  | false =>
    show Q (.bl false) H2
    exact q _ H2 e2 (W.mo (by omega) hI2) da_bl
  | true =>
    show tb σ H2 Q
    exact h2 rfl (n + c1) H2 (e.trans e2) hI2 (by omega) Q fun y H3 e3 hI3 hy => q y H3 (e2.trans e3) (W.mo (by omega) hI3) hy⟩
theorem jd_orV (h1 : JD K W ta σ H c1 (.bool b1)) (h2 : b1 = false → JD K W tb σ H c2 (.bool b2)) : JD K W (tOrV ta tb) σ H (c1 + c2) (.bool (b1 || b2)) := fun n H1 e hI hn Q q => h1 n H1 e hI (by omega) _ fun x H2 e2 hI2 hx => ⟨b1, hx.bl, by
  cases b1 with
  | true =>
    show Q (.bl true) H2
    exact q _ H2 e2 (W.mo (by omega) hI2) da_bl
  | false =>
    show tb σ H2 Q
    exact h2 rfl (n + c1) H2 (e.trans e2) hI2 (by omega) Q fun y H3 e3 hI3 hy => q y H3 (e2.trans e3) (W.mo (by omega) hI3) hy⟩
theorem jd_notV (h1 : JD K W ta σ H c (.bool b)) : JD K W (tNotV ta) σ H c (.bool (!b)) := fun n H1 e hI hn Q q => h1 n H1 e hI hn _ fun x H2 e2 hI2 hx => ⟨b, hx.bl, q _ H2 e2 hI2 da_bl⟩
theorem j_if {P : V → Hp → Prop} (h : JB K W tt σ H c b) (h1 : b = true → J W ta σ H c1 P) (h2 : b = false → J W tb σ H c1 P) : J W (tIf tt ta tb) σ H (c + c1) P := fun n H1 e hI hn Q q => h n H1 e hI (by omega) _ fun x H2 e2 hI2 hx => by
  subst hx
  cases x with
  | true =>
    show ta σ H2 Q
    exact h1 rfl (n + c) H2 (e.trans e2) hI2 (by omega) Q fun y H3 e3 hI3 hy => q y H3 (e2.trans e3) (W.mo (by omega) hI3) hy
  | false =>
    show tb σ H2 Q
    exact h2 rfl (n + c) H2 (e.trans e2) hI2 (by omega) Q fun y H3 e3 hI3 hy => q y H3 (e2.trans e3) (W.mo (by omega) hI3) hy

/-! ### statements -/
variable {D : Ends} {ts tr : TS}
theorem st_seq (h : ts { D with nx := tr D } σ H) : tSeq ts tr D σ H := h
theorem st_set {i : Nat} (hI : W.I n H) (h : J W te σ H c P) (hc : n + c ≤ BIG) (k : ∀ v H1, ExM W.M H H1 → W.I (n + c) H1 → P v H1 → D.nx (σ.set i (some v)) H1) : tAsg te (gName i) D σ H := h n H ExM.refl hI hc _ fun v H1 e hI1 p => k v H1 e hI1 p
theorem st_ret (hI : W.I n H) (h : J W te σ H c P) (hc : n + c ≤ BIG) (k : ∀ v H1, ExM W.M H H1 → W.I (n + c) H1 → P v H1 → D.rt v H1) : tRet te D σ H := h n H ExM.refl hI hc _ fun v H1 e hI1 p => k v H1 e hI1 p
theorem st_drop (hI : W.I n H) (h : J W te σ H c P) (hc : n + c ≤ BIG) (k : ∀ H1, ExM W.M H H1 → W.I (n + c) H1 → D.nx σ H1) : tDrop te D σ H := h n H ExM.refl hI hc _ fun v H1 e hI1 p => k H1 e hI1
theorem st_if (hI : W.I n H) (h : JB K W tt σ H c b) (hc : n + c ≤ BIG) (k1 : b = true → ∀ H1, ExM W.M H H1 → W.I (n + c) H1 → ts D σ H1) (k2 : b = false → ∀ H1, ExM W.M H H1 → W.I (n + c) H1 → tr D σ H1) : tIfS tt ts tr D σ H := h n H ExM.refl hI hc _ fun x H1 e hI1 hx => by
  subst hx
  cases x with
  | true => exact k1 rfl H1 e hI1
  | false => exact k2 rfl H1 e hI1
/-- a pure def's end -/
theorem pure_end {r : PyData} {Q : VK} {H0 : Hp} (e : ExM W0.M H0 H) (q : ∀ v H', Same H0 H' → Da K W0 H' v r → Q v H') (hd : Da K W0 H v r) : Q v H := q v H (ex0 e) hd
theorem dpl0 (ds : List PyData) (vs : List V) (h : DaL K W0 H vs ds) : DaL K W0 H vs ds := h
mutual
/-- data without lists stand when a list changes -/
theorem da_upd {M : Addr → Prop} {D : Addr} {acc : List V} {o : HO} (hD : H D = some (.lst acc)) : ∀ (d : PyData) (v : V), noL d = true → DaM K M H v d → DaM K M (upd H D o) v d
  | .none, _, _, h => by cases h; exact .non
  | .bool _, _, _, h => by cases h; exact .bl _
  | .int _, _, _, h => by cases h; exact .int _
  | .str _, _, _, h => by cases h; exact .str _
  | .list _, _, n, _ => by simp [noL] at n
  | .dict _, _, _, h => by
    cases h with
    | @dct a kv _ m x =>
      refine .dct (kvs := kv) m ?_
      by_cases z : a = D
      · subst z; rw [hD] at x; cases x
      · rw [upd_ne z]; exact x
  | .tuple ds, _, n, h => by
    cases h with
    | @tup a xs _ hs ha =>
      refine .tup ?_ (dal_upd hD ds _ (by simpa [noL] using n) ha)
      rcases hs with ⟨m, h1⟩ | h1
      · refine .inl ⟨m, ?_⟩
        rcases h1 with h1 | ⟨ob, h1⟩
        · refine .inl ?_
          rw [upd_ne (fun e => by rw [e, hD] at h1; cases h1)]; exact h1
        · refine .inr ⟨ob, ?_⟩
          rw [upd_ne (fun e => by rw [e, hD] at h1; cases h1)]; exact h1
      · exact .inr h1
theorem dal_upd {M : Addr → Prop} {D : Addr} {acc : List V} {o : HO} (hD : H D = some (.lst acc)) : ∀ (ds : List PyData) (vs : List V), noLs ds = true → DaML K M H vs ds → DaML K M (upd H D o) vs ds
  | [], _, _, h => by cases h; exact .nil
  | d :: ds, _, n, h => by
    cases h with
    | cons h1 h2 =>
      simp only [noLs, Bool.and_eq_true] at n
      exact .cons (da_upd hD d _ n.1 h1) (dal_upd hD ds _ n.2 h2)
end
theorem noLs_all : ∀ {ds : List PyData}, noLs ds = true ↔ ∀ d ∈ ds, noL d = true
  | [] => by simp [noLs]
  | d :: ds => by simp [noLs, noLs_all (ds := ds)]
theorem dal_app {xs ys : List V} : ∀ {ds es : List PyData}, DaL K W H xs ds → DaL K W H ys es → DaL K W H (xs ++ ys) (ds ++ es)
  | _, _, .nil, h => h
  | _, _, .cons h t, h2 => .cons h (dal_app t h2)

/-! ### walking a list or a tuple -/
def iSeq (K : PySem.W.Frag) (tl : TE) : TI := fun σ H R => tl σ H fun x H1 => ∃ a, x = .ref a ∧ (((∃ xs, SqL K H1 a xs) ∧ R (Itl K a) H1) ∨ ((∃ xs, SqT K H1 a xs) ∧ R (Itt K a) H1))
/-- an iterator laid at the heap's end -/
theorem pie_end {X : Cx} {pins : List (Addr × Obj)} {σ : St} {tg : Expr} {R : It → Hp → Prop} {s : Shared} {H : Hp} {J : It} {tn : Nat → Heap → Prop} {o : Obj} (I : Inv X pins σ H s) (T : Turn X.prog X.w X.K tg J [s.heap.objs.size] s.heap.objs.size tn)
    (t0 : tn 0 (s.heap.push o)) (q : R J H) : PIE X pins σ tg R (.ref s.heap.objs.size) { s with heap := s.heap.push o } :=
  ⟨s.heap.objs.size, [s.heap.objs.size], tn, J, H, rfl, I.kept (t' := s.toks) (fun _ _ => Heap.get?_push_of_some _), T, t0, fun x hx => by
    rw [List.mem_singleton.mp hx]
    exact I.fpOk (Nat.le_refl _) (I.hok.fresh (Nat.le_refl _)), q⟩
theorem pi_seq {X : Cx} {tg l : Expr} {tl : TE} (hl : PE X l tl) : PI X tg l (iSeq X.K tl) := ⟨fun pins s σ H R I h => thn (hl.run pins s σ H _ I h) fun v s1 ⟨x, H1, J1, rx, a, ea, w⟩ => by
  subst ea; cases rx
  cases w with
  | inl w =>
    obtain ⟨⟨xs, hx⟩, k⟩ := w
    obtain ⟨us, _, z, _⟩ := J1.list hx
    exact wpAny_pyIter_list z.isList (pie_end J1 (turn_list a _) ⟨_, Heap.get?_push_size _ rfl, rfl, rfl⟩ k)
  | inr w =>
    obtain ⟨⟨xs, hx⟩, k⟩ := w
    obtain ⟨us, _, z, _⟩ := J1.tuple hx
    exact wpAny_pyIter_tuple (show s1.heap.IsTuple a us.toArray from z) (pie_end J1 (turn_tuple a _) ⟨_, Heap.get?_push_size _ rfl, rfl, rfl⟩ k)⟩

def itemsD : PyData → List PyData
  | .list ds => ds
  | .tuple ds => ds
  | _ => []
/-- what a comprehension's list holds after i items -/
def Cw (K : PySem.W.Frag) (W : Wd) (H1 : Hp) (n : Nat) (Dl : Addr) (ds : List PyData) (H' : Hp) : Prop := H1 Dl = none ∧ ExM W.M H1 H' ∧ W.I n H' ∧ noLs ds = true ∧ ∃ acc, H' Dl = some (.lst acc) ∧ DaL K W H' acc ds
theorem cw_put {n : Nat} {Dl : Addr} {ds : List PyData} {y : V} {d : PyData} {H4 : Hp} (hI1 : ∃ n, W.I n H1) (h : Cw K W H1 n Dl ds H4) (hy : Da K W H4 y d) (hn : noL d = true) (hl : ds.length < 100000) :
    ∃ acc, H4 Dl = some (.lst acc) ∧ acc.length < sizeLine ∧ Cw K W H1 n Dl (ds ++ [d]) (upd H4 Dl (.lst (acc ++ [y]))) := by
  obtain ⟨p1, p2, p3, p4, acc, p5, p6⟩ := h
  obtain ⟨m, hI1⟩ := hI1
  refine ⟨acc, p5, by rw [dal_len p6]; exact Nat.lt_of_lt_of_le hl (by decide), p1, fun a o ma ha => ?_, W.sf (fun a f => ?_) p3, ?_, acc ++ [y], upd_same, ?_⟩
  · rw [upd_ne (ne_of_none ha p1)]; exact p2 a o ma ha
  · rw [upd_ne (fun e => W.al hI1 f (by rw [e]; exact p1))]
  · rw [noLs_all] at p4 ⊢
    intro e he
    rcases List.mem_append.mp he with h | h
    · exact p4 e h
    · rw [List.mem_singleton.mp h]; exact hn
  · exact dal_app (dal_upd p5 ds acc p4 p6) (.cons (da_upd p5 d y hn hy) .nil)
theorem cw_on {n m : Nat} {Dl : Addr} {ds : List PyData} {H3 H4 : Hp} (h : Cw K W H1 n Dl ds H3) (hD : ¬ W.M Dl) (e : ExM W.M H3 H4) (hI : W.I m H4) : Cw K W H1 m Dl ds H4 := by
  obtain ⟨p1, p2, p3, p4, acc, p5, p6⟩ := h
  exact ⟨p1, p2.trans e, hI, p4, acc, e Dl _ hD p5, p6.mono e⟩
/-- a list of one's own, just made -/
def NewL (K : PySem.W.Frag) (W : Wd) (H : Hp) (v : V) (ds : List PyData) : Prop := ∃ p acc, v = .ref p ∧ ¬ W.M p ∧ H p = some (.lst acc) ∧ DaL K W H acc ds
theorem NewL.da {ds : List PyData} (h : NewL K W H v ds) : Da K W H v (.list ds) := by
  obtain ⟨p, acc, rfl, m, e, h⟩ := h
  exact da_lst m e h
/-- [te for x in a list or tuple if tt], nothing drawn in it -/
theorem jl_lc {ds : List PyData} {d0 : PyData} {tl : TE} {tt : TT} {j : Nat} {vs : List Nat} (p : PyData → Bool) (f : PyData → PyData) (ha : JD K W tl σ H c d0) (hs : isSeq d0 = true) (hd : itemsD d0 = ds) (hl : ds.length < 100000) (hw : ∀ x, wipe ((wipe σ vs).set j (some x)) vs = wipe σ vs)
    (ht : ∀ d x H1, d ∈ ds → ExM W.M H H1 → Da K W H1 x d → JB K W tt ((wipe σ vs).set j (some x)) H1 0 (p d)) (he : ∀ d x H1, d ∈ ds → p d = true → ExM W.M H H1 → Da K W H1 x d → JD K W te ((wipe σ vs).set j (some x)) H1 0 (f d)) (hn : ∀ d, d ∈ ds → p d = true → noL (f d) = true) :
    J W (tLc (iSeq K tl) (gName j) tt te vs) σ H c (fun v H2 => NewL K W H2 v ((ds.filter p).map f)) := fun n H0 e hI hb Q q => ha n H0 e hI hb _ fun x H1 e1 hI1 hx => by
  have step : ∀ (i : Nat) (dd : PyData) (y : V) (Dl : Addr) (H' : Hp), dd ∈ ds → ds[i]? = some dd → (¬ W.M Dl) → Da K W H' y dd → Cw K W H1 (n + c) Dl (((ds.take i).filter p).map f) H' →
      wipe ((wipe σ vs).set j (some y)) vs = wipe σ vs ∧ tt ((wipe σ vs).set j (some y)) H' fun b H3 => if b = true then te ((wipe σ vs).set j (some y)) H3 fun y H4 => ∃ acc, H4 Dl = some (.lst acc) ∧ acc.length < sizeLine ∧ Cw K W H1 (n + c) Dl (((ds.take (i + 1)).filter p).map f) (upd H4 Dl (.lst (acc ++ [y]))) else Cw K W H1 (n + c) Dl (((ds.take (i + 1)).filter p).map f) H3 := by
    intro i dd y Dl H' hm hi mD hy hC
    have tk : ds.take (i + 1) = ds.take i ++ [dd] := by rw [List.take_add_one, hi]; rfl
    have lt : (((ds.take i).filter p).map f).length < 100000 := by
      rw [List.length_map]
      have h1 := List.length_filter_le p (ds.take i)
      have h2 : (ds.take i).length ≤ ds.length := by rw [List.length_take]; exact Nat.min_le_right _ _
      omega
    refine ⟨hw y, ht dd y H' hm (e.trans (e1.trans hC.2.1)) hy (n + c) H' ExM.refl hC.2.2.1 (by omega) _ fun b H3 e3 hI3 hb3 => ?_⟩
    have hC3 : Cw K W H1 (n + c) Dl (((ds.take i).filter p).map f) H3 := cw_on hC mD e3 hI3
    rw [tk, List.filter_append, List.map_append]
    subst hb3
    cases hp : p dd with
    | true =>
      show te _ H3 _
      refine he dd y H3 hm hp (e.trans (e1.trans (hC.2.1.trans e3))) (hy.mono e3) (n + c) H3 ExM.refl hI3 (by omega) _ fun z H4 e4 hI4 hz => ?_
      have := cw_put ⟨_, hI1⟩ (cw_on hC3 mD e4 hI4) hz (hn dd hm hp) lt
      rw [show List.filter p [dd] = [dd] by simp [hp]]
      exact this
    | false =>
      rw [show List.filter p [dd] = [] by simp [hp]]
      show Cw K W H1 (n + c) Dl _ H3
      simpa using hC3
  have st0 : ∀ Dl, H1 Dl = none → Cw K W H1 (n + c) Dl (((ds.take 0).filter p).map f) (upd H1 Dl (.lst [])) := fun Dl hD =>
    ⟨hD, .of (same_new hD), W.st (same_new hD) hI1, by simp [noLs], [], upd_same, by simpa using DaML.nil⟩
  have fin : ∀ Dl H', Cw K W H1 (n + c) Dl (((ds.take ds.length).filter p).map f) H' → Q (.ref Dl) H' := fun Dl H' hC => by
    rw [List.take_length] at hC
    obtain ⟨p1, p2, p3, p4, acc, p5, p6⟩ := hC
    exact q _ H' (e1.trans p2) p3 ⟨Dl, acc, rfl, W.fr hI1 p1, p5, p6⟩
  cases hx with
  | @lst a xs ds' hs' hl' =>
    cases hd
    refine ⟨a, rfl, .inl ⟨⟨xs, hs'.sq⟩, fun Dl hD => ?_⟩⟩
    refine lc_list (xs := xs) (fun i H' => Cw K W H1 (n + c) Dl (((ds'.take i).filter p).map f) H') (st0 Dl hD) (fun i H' _ hC => (LsS.mono hs' hC.2.1).sq) (fun i y H' hi hC => ?_) (fun H' hC => fin Dl H' (by have z := dal_len (W := W) hl'; rw [z] at hC; exact hC))
    obtain ⟨dd, h1, h2⟩ := dal_get (W := W) hl' hi
    exact step i dd y Dl H' (List.mem_of_getElem? h1) h1 (W.fr hI1 hD) (h2.mono hC.2.1) hC
  | @tup a xs ds' hs' hl' =>
    cases hd
    refine ⟨a, rfl, .inr ⟨⟨xs, hs'.sq⟩, fun Dl hD => ?_⟩⟩
    refine lc_tup (xs := xs) (fun i H' => Cw K W H1 (n + c) Dl (((ds'.take i).filter p).map f) H') (st0 Dl hD) (fun i H' _ hC => (TuS.mono hs' hC.2.1).sq) (fun i y H' hi hC => ?_) (fun H' hC => fin Dl H' (by have z := dal_len (W := W) hl'; rw [z] at hC; exact hC))
    obtain ⟨dd, h1, h2⟩ := dal_get (W := W) hl' hi
    exact step i dd y Dl H' (List.mem_of_getElem? h1) h1 (W.fr hI1 hD) (h2.mono hC.2.1) hC
  | _ => cases hs
theorem jd_lc {ds : List PyData} {d0 : PyData} {tl : TE} {tt : TT} {j : Nat} {vs : List Nat} (p : PyData → Bool) (f : PyData → PyData) (ha : JD K W tl σ H c d0) (hs : isSeq d0 = true) (hd : itemsD d0 = ds) (hl : ds.length < 100000) (hw : ∀ x, wipe ((wipe σ vs).set j (some x)) vs = wipe σ vs)
    (ht : ∀ d x H1, d ∈ ds → ExM W.M H H1 → Da K W H1 x d → JB K W tt ((wipe σ vs).set j (some x)) H1 0 (p d)) (he : ∀ d x H1, d ∈ ds → p d = true → ExM W.M H H1 → Da K W H1 x d → JD K W te ((wipe σ vs).set j (some x)) H1 0 (f d)) (hn : ∀ d, d ∈ ds → p d = true → noL (f d) = true) :
    JD K W (tLc (iSeq K tl) (gName j) tt te vs) σ H c (.list ((ds.filter p).map f)) := (jl_lc p f ha hs hd hl hw ht he hn).imp fun _ _ h => h.da
theorem jb_yes : JB K W tYes σ H 0 true := fun n H1 e hI _ Q q => q true H1 ExM.refl hI rfl
theorem jl_lc1 {ds : List PyData} {d0 : PyData} {tl : TE} {j : Nat} {vs : List Nat} (f : PyData → PyData) (ha : JD K W tl σ H c d0) (hs : isSeq d0 = true) (hd : itemsD d0 = ds) (hl : ds.length < 100000) (hw : ∀ x, wipe ((wipe σ vs).set j (some x)) vs = wipe σ vs)
    (he : ∀ d x H1, d ∈ ds → ExM W.M H H1 → Da K W H1 x d → JD K W te ((wipe σ vs).set j (some x)) H1 0 (f d)) (hn : ∀ d, d ∈ ds → noL (f d) = true) :
    J W (tLc (iSeq K tl) (gName j) tYes te vs) σ H c (fun v H2 => NewL K W H2 v (ds.map f)) := by
  have h := jl_lc (fun _ => true) f ha hs hd hl hw (fun _ _ _ _ _ _ => jb_yes) (fun d x H1 hm _ e hx => he d x H1 hm e hx) (fun d hm _ => hn d hm)
  rw [show List.filter (fun _ => true) ds = ds from List.filter_eq_self.mpr fun _ _ => rfl] at h
  exact h
theorem jd_lc1 {ds : List PyData} {d0 : PyData} {tl : TE} {j : Nat} {vs : List Nat} (f : PyData → PyData) (ha : JD K W tl σ H c d0) (hs : isSeq d0 = true) (hd : itemsD d0 = ds) (hl : ds.length < 100000) (hw : ∀ x, wipe ((wipe σ vs).set j (some x)) vs = wipe σ vs)
    (he : ∀ d x H1, d ∈ ds → ExM W.M H H1 → Da K W H1 x d → JD K W te ((wipe σ vs).set j (some x)) H1 0 (f d)) (hn : ∀ d, d ∈ ds → noL (f d) = true) :
    JD K W (tLc (iSeq K tl) (gName j) tYes te vs) σ H c (.list (ds.map f)) := by
  have h := jd_lc (fun _ => true) f ha hs hd hl hw (fun _ _ _ _ _ _ => jb_yes) (fun d x H1 hm _ e hx => he d x H1 hm e hx) (fun d hm _ => hn d hm)
  rw [show List.filter (fun _ => true) ds = ds from List.filter_eq_self.mpr fun _ _ => rfl] at h
  exact h
/-! all, any of truths; isinstance -/
theorem dal_bools : ∀ {bs : List Bool} {xs : List V}, DaL K W H xs (bs.map PyData.bool) → xs = bs.map V.bl
  | [], _, h => by cases h; rfl
  | b :: bs, _, h => by
    cases h with
    | cons h1 h2 => rw [Da.bl (W := W) h1, dal_bools h2]; rfl
theorem dal_ints : ∀ {bs : List Int} {xs : List V}, DaL K W H xs (bs.map PyData.int) → xs = bs.map V.int
  | [], _, h => by cases h; rfl
  | b :: bs, _, h => by
    cases h with
    | cons h1 h2 => rw [Da.int (W := W) h1, dal_ints h2]; rfl
theorem jd_all {t : TA} {bs : List Bool} (h : JDA K W t σ H c [.list (bs.map PyData.bool)]) : JD K W (tCB (rAll K) t) σ H c (.bool (bs.all id)) := jd_cb h fun vs n H1 _ hv Q q => by
  obtain ⟨x, rfl, hx⟩ := dal1 hv
  cases hx with
  | lst hs hl => exact ⟨_, bs, rfl, by rw [← dal_bools (W := W) hl]; exact hs.sq, q _ H1 (Same.refl _) da_bl⟩
def tyName : PyData → String
  | .none => "NoneType"
  | .bool _ => "bool"
  | .int _ => "int"
  | .str _ => "str"
  | .list _ => "list"
  | .tuple _ => "tuple"
  | .dict _ => "dict"
theorem da_ty (h : Da K W H v d) : TyX K H v (.type (tyName d)) := by
  cases h with
  | non => exact .base .non
  | bl b => exact .base (.bl b)
  | int i => exact .base (.int i)
  | str x => exact .base (.str x)
  | lst hs _ =>
    rcases hs with ⟨_, h | ⟨o, h⟩⟩ | ⟨o, its, n, h, hc, _⟩
    · exact .base (.lst h)
    · exact .base (.frz h)
    · exact .kList h hc
  | tup hs _ =>
    rcases hs with ⟨_, h | ⟨o, h⟩⟩ | ⟨o, its, n, h, hc, _⟩
    · exact .base (.tup h)
    · exact .fTuple h
    · exact .kTuple h hc
  | dct _ x => exact .base (.dK x)
theorem jd_isi {n : String} {b : Bool} (ha : JD K W ta σ H c d) (hk : kitB (tyName d) n = some b) : JD K W (tCB (rIsi K) (tCons ta (tCons (tC (.ty n)) tNil))) σ H c (.bool b) := fun m H1 e hI hb Q q =>
  ha m H1 e hI hb _ fun x H2 e2 hI2 hx => ⟨x, .ty n, _, _, b, rfl, .ty n, da_ty hx, kit_ty hk, q _ H2 e2 hI2 da_bl⟩
/-- isinstance(x, (n1, n2)) -/
theorem jd_isi2 {n1 n2 : String} {b1 b2 : Bool} (ha : JD K W ta σ H c d) (hk1 : kitB (tyName d) n1 = some b1) (hk2 : kitB (tyName d) n2 = some b2) :
    JD K W (tCB (rIsiT K) (tCons ta (tCons (tTup (tCons (tC (.ty n1)) (tCons (tC (.ty n2)) tNil))) tNil))) σ H c (.bool (b1 || b2)) := fun m H1 e hI hb Q q =>
  ha m H1 e hI hb _ fun x H2 e2 hI2 hx => ⟨(by decide : 2 ≤ sizeLine), fun p hp => ⟨x, p, [.ty n1, .ty n2], _, [.type n1, .type n2], b1 || b2, rfl, upd_same, .cons (.ty n1) (.cons (.ty n2) .nil), da_ty (hx.mono (.of (same_new hp))),
    kitAny_cons (kit_ty hk1) (fun e => kitAny_cons (kit_ty hk2) (fun e2 => by rw [e, e2]; exact kitAny_nil) (fun e2 => by rw [e2]; simp)) (fun e => by rw [e]; rfl),
    q _ _ (e2.trans (.of (same_new hp))) (W.st (same_new hp) hI2) da_bl⟩⟩
def isI : PyData → Bool
  | .int _ => true
  | _ => false
def isB : PyData → Bool
  | .bool _ => true
  | _ => false
theorem kit_int : kitB (tyName d) "int" = some (isI d || isB d) := by
  cases d with
  | none => exact (by decide +kernel : kitB "NoneType" "int" = some false)
  | bool _ => exact (by decide +kernel : kitB "bool" "int" = some true)
  | int _ => exact (by decide +kernel : kitB "int" "int" = some true)
  | str _ => exact (by decide +kernel : kitB "str" "int" = some false)
  | list _ => exact (by decide +kernel : kitB "list" "int" = some false)
  | tuple _ => exact (by decide +kernel : kitB "tuple" "int" = some false)
  | dict _ => exact (by decide +kernel : kitB "dict" "int" = some false)
theorem kit_bool : kitB (tyName d) "bool" = some (isB d) := by
  cases d with
  | none => exact (by decide +kernel : kitB "NoneType" "bool" = some false)
  | bool _ => exact (by decide +kernel : kitB "bool" "bool" = some true)
  | int _ => exact (by decide +kernel : kitB "int" "bool" = some false)
  | str _ => exact (by decide +kernel : kitB "str" "bool" = some false)
  | list _ => exact (by decide +kernel : kitB "list" "bool" = some false)
  | tuple _ => exact (by decide +kernel : kitB "tuple" "bool" = some false)
  | dict _ => exact (by decide +kernel : kitB "dict" "bool" = some false)
def isLst : PyData → Bool
  | .list _ => true
  | _ => false
def isTup : PyData → Bool
  | .tuple _ => true
  | _ => false
theorem kit_list : kitB (tyName d) "list" = some (isLst d) := by
  cases d with
  | none => exact (by decide +kernel : kitB "NoneType" "list" = some false)
  | bool _ => exact (by decide +kernel : kitB "bool" "list" = some false)
  | int _ => exact (by decide +kernel : kitB "int" "list" = some false)
  | str _ => exact (by decide +kernel : kitB "str" "list" = some false)
  | list _ => exact (by decide +kernel : kitB "list" "list" = some true)
  | tuple _ => exact (by decide +kernel : kitB "tuple" "list" = some false)
  | dict _ => exact (by decide +kernel : kitB "dict" "list" = some false)
theorem kit_tuple : kitB (tyName d) "tuple" = some (isTup d) := by
  cases d with
  | none => exact (by decide +kernel : kitB "NoneType" "tuple" = some false)
  | bool _ => exact (by decide +kernel : kitB "bool" "tuple" = some false)
  | int _ => exact (by decide +kernel : kitB "int" "tuple" = some false)
  | str _ => exact (by decide +kernel : kitB "str" "tuple" = some false)
  | list _ => exact (by decide +kernel : kitB "list" "tuple" = some false)
  | tuple _ => exact (by decide +kernel : kitB "tuple" "tuple" = some true)
  | dict _ => exact (by decide +kernel : kitB "dict" "tuple" = some false)
theorem seq_or : (isLst d || isTup d) = isSeq d := by cases d <;> rfl
/-- // by any divisor but 0 below 2 ^ 9000 -/
def CDivA (_ j : Int) : Prop := j ≠ 0 ∧ j.natAbs.log2 < 9000
theorem op_fdivA {X : Cx} : OpR X (binaryOp .FloorDiv) (rI CDivA fun i j => .int (i.fdiv j)) := opI fun i j _ _ _ _ _ hc q => PyProof.Rows.floordiv_int hc.1 q (.inl (PyProof.noPylong_of_log2 hc.2))
theorem jd_ix {i : Int} {d0 : PyData} (ha : JD K W ta σ H c1 d0) (hb : JD K W tb σ H c2 (.int i)) (hs : isSeq d0 = true) (he : atI (itemsD d0) i = some d) : JD K W (tOp (rIx K) ta tb) σ H (c1 + c2) d :=
  jd_op ha hb fun x y n H1 _ hx hy Q q => by
    cases hx with
    | tup h1 hl =>
      obtain ⟨z, ez, dz⟩ := dal_atI (W := W) hl he
      exact .inr (.inl ⟨_, _, i, z, rfl, hy.int, h1.sq, ez, q z H1 (Same.refl _) dz⟩)
    | lst h1 hl =>
      obtain ⟨z, ez, dz⟩ := dal_atI (W := W) hl he
      exact .inl ⟨_, _, i, z, rfl, hy.int, h1.sq, ez, q z H1 (Same.refl _) dz⟩
    | _ => cases hs
theorem pure_ret {r : PyData} {H0 : Hp} {D : Ends} (e : ExM W0.M H0 H) (q : ∀ v H', Same H0 H' → Da K W0 H' v r → D.rt v H') (h : JD K W0 te σ H c r) (hc : c ≤ BIG) : tRet te D σ H :=
  h 0 H ExM.refl trivial (by omega) _ fun v H1 e1 _ hv => q v H1 (ex0 (e.trans e1)) hv
theorem st_if0 {D : Ends} {tt : TT} {ts tr : TS} {b : Bool} (h : JB K W0 tt σ H c b) (hc : c ≤ BIG) (k1 : b = true → ∀ H1, ExM W0.M H H1 → ts D σ H1) (k2 : b = false → ∀ H1, ExM W0.M H H1 → tr D σ H1) : tIfS tt ts tr D σ H :=
  st_if (n := 0) trivial h (by omega) (fun e H1 x _ => k1 e H1 x) (fun e H1 x _ => k2 e H1 x)
theorem st_set0 {D : Ends} {i : Nat} {P : V → Hp → Prop} (h : J W0 te σ H c P) (hc : c ≤ BIG) (k : ∀ v H1, ExM W0.M H H1 → P v H1 → D.nx (σ.set i (some v)) H1) : tAsg te (gName i) D σ H :=
  st_set (n := 0) trivial h (by omega) (fun v H1 x _ p => k v H1 x p)
theorem JB.at {tt : TT} {a b : Bool} (h : JB K W tt σ H c a) (x : a = b) : JB K W tt σ H c b := x ▸ h
/-- every pure value by a known one -/
theorem isD_len {ds : List PyData} {vs : List V} (h : DaL K W0 H vs ds) : vs.length = ds.length := dal_len (W := W0) h
theorem jd0 {e : PyData} (h : JD K W te σ H c d) (x : d = e) (hc : c ≤ c1) : JD K W te σ H c1 e := J.le (x ▸ h) hc
theorem st_ifn {D : Ends} {tt : TT} {ts : TS} {b : Bool} (h : JB K W0 tt σ H c b) (hc : c ≤ BIG) (k1 : b = true → ∀ H1, ExM W0.M H H1 → ts D σ H1) (k2 : b = false → ∀ H1, ExM W0.M H H1 → D.nx σ H1) : tIfS tt ts tNext D σ H :=
  st_if0 h hc k1 k2
theorem st_next {D : Ends} (h : D.nx σ H) : tNext D σ H := h
theorem st_nx {t : St → Hp → Prop} {rt : VK} {bk ct : St → Hp → Prop} (h : t σ H) : tNext { nx := t, rt := rt, bk := bk, ct := ct } σ H := h
theorem nx_mk {t : St → Hp → Prop} {rt : VK} {bk ct : St → Hp → Prop} (h : t σ H) : Ends.nx { nx := t, rt := rt, bk := bk, ct := ct } σ H := h
theorem seq_hyp {d : PyData} (h : (!(isLst d || isTup d)) = false) : isSeq d = true := by
  rw [seq_or] at h; revert h; cases isSeq d <;> simp
/-! slices of lists -/
def JO (W : Wd) (to : TO) (σ : St) (H : Hp) (c : Nat) (o : Option Int) : Prop :=
  ∀ n H1, ExM W.M H H1 → W.I n H1 → n + c ≤ BIG → ∀ Q : Option Int → Hp → Prop, (∀ H2, ExM W.M H1 H2 → W.I (n + c) H2 → Q o H2) → to σ H1 Q
theorem jo_no : JO W tNoPart σ H 0 none := fun n H1 _ hI _ Q q => q H1 ExM.refl hI
theorem jo_int {i : Int} (h : JD K W te σ H c (.int i)) : JO W (tPart te) σ H c (some i) := fun n H1 e hI hn Q q => h n H1 e hI hn _ fun v H2 e2 hI2 hv => ⟨i, hv.int, q H2 e2 hI2⟩
def cutD (ds : List PyData) (lo hi : Option Int) : List PyData := (ds.drop (HT.sIx ds.length 0 lo)).take (HT.sIx ds.length ds.length hi - HT.sIx ds.length 0 lo)
theorem dal_drop : ∀ (k : Nat) {xs : List V} {ds : List PyData}, DaL K W H xs ds → DaL K W H (xs.drop k) (ds.drop k)
  | 0, _, _, h => h
  | k + 1, _, _, .nil => .nil
  | k + 1, _, _, .cons _ t => dal_drop k t
theorem dal_take : ∀ (k : Nat) {xs : List V} {ds : List PyData}, DaL K W H xs ds → DaL K W H (xs.take k) (ds.take k)
  | 0, _, _, _ => .nil
  | k + 1, _, _, .nil => .nil
  | k + 1, _, _, .cons h t => .cons h (dal_take k t)
theorem dal_cut {xs : List V} {ds : List PyData} {lo hi : Option Int} (h : DaL K W H xs ds) : DaL K W H (cutV xs lo hi) (cutD ds lo hi) := by
  unfold cutV cutD
  rw [dal_len h]
  exact dal_take _ (dal_drop _ h)
theorem jd_slL {ds : List PyData} {lo hi : Option Int} {tl th : TO} {c3 : Nat} (ha : JD K W ta σ H c1 (.list ds)) (h1 : JO W tl σ H c2 lo) (h2 : JO W th σ H c3 hi) : JD K W (tSl (rSlL K) ta tl th) σ H (c1 + c2 + c3) (.list (cutD ds lo hi)) := fun n H1 e hI hn Q q =>
  ha n H1 e hI (by omega) _ fun x H2 e2 hI2 hx => h1 (n + c1) H2 (e.trans e2) hI2 (by omega) _ fun H3 e3 hI3 => h2 (n + c1 + c2) H3 (e.trans (e2.trans e3)) hI3 (by omega) _ fun H4 e4 hI4 => by
    cases hx with
    | @lst a xs _ hs hl =>
      refine ⟨a, xs, rfl, (hs.mono (e3.trans e4)).sq, fun p hp => ?_⟩
      have s := same_new (o := .lst (cutV xs lo hi)) hp
      refine q _ _ (e2.trans (e3.trans (e4.trans (.of s)))) ?_ (da_lst (W.fr hI4 hp) upd_same (dal_cut (DaL.mono (W := W) hl (e3.trans (e4.trans (.of s))))))
      rw [show n + (c1 + c2 + c3) = n + c1 + c2 + c3 by omega]
      exact W.st s hI4
theorem cutD_to (ds : List PyData) (k : Nat) : cutD ds none (some (k : Int)) = ds.take k := by
  unfold cutD
  rw [HT.sIx_nat, HT.sIx_none, List.drop_zero, Nat.sub_zero]
  rcases Nat.le_total k ds.length with h | h
  · rw [Nat.min_eq_left h]
  · rw [Nat.min_eq_right h, List.take_length, List.take_of_length_le h]
theorem jd_nought {a : Addr} {i k : Int} (h : WrT K a [.int i, .int k]) : JD K W (tC (.ref a)) σ H 0 (.tuple [.int i, .int k]) := jd_c fun _ => .tup (.inr h) (.cons (.int i) (.cons (.int k) .nil))
end Jl

set_option Elab.async false
set_option linter.all false
/-! fractions: pairs and Lean's own rationals; sizes -/
namespace Jl
open PySem L2
/-- the data of a fraction -/
def frL (q : Rat) : List PyData := [.int q.num, .int q.den]
def frD (q : Rat) : PyData := .tuple (frL q)
/-- a fraction as a list or as a tuple -/
def isFr (d : PyData) (q : Rat) : Prop := isSeq d = true ∧ itemsD d = frL q
theorem isFr_D (q : Rat) : isFr (frD q) q := ⟨rfl, rfl⟩
theorem frD_noL (q : Rat) : noL (frD q) = true := rfl
/-- below 2 ^ n, above and below the line -/
def Bd (q : Rat) (n : Nat) : Prop := q.num.natAbs < 2 ^ n ∧ q.den < 2 ^ n
theorem Bd.mono {q : Rat} {n m : Nat} (h : Bd q n) (l : n ≤ m) : Bd q m :=
  ⟨Nat.lt_of_lt_of_le h.1 (Nat.pow_le_pow_right (by decide) l), Nat.lt_of_lt_of_le h.2 (Nat.pow_le_pow_right (by decide) l)⟩
/-- what least_pair tells -/
def lp (up down : Int) : PyData := .tuple [.int (up.fdiv (if down > 0 then (Nat.gcd up.natAbs down.natAbs : Nat) else -(Nat.gcd up.natAbs down.natAbs : Nat))), .int (down.fdiv (if down > 0 then (Nat.gcd up.natAbs down.natAbs : Nat) else -(Nat.gcd up.natAbs down.natAbs : Nat)))]
theorem fdiv_neg_dvd {a g : Int} (h : g ∣ a) (h0 : g ≠ 0) : a.fdiv (-g) = -(a / g) := by
  rw [Int.fdiv_eq_ediv_of_dvd (Int.neg_dvd.mpr h), Int.ediv_neg]
theorem lp_eq (up down : Int) (h : down ≠ 0) : lp up down = frD (Rat.divInt up down) := by
  have hg : (Nat.gcd up.natAbs down.natAbs : Int) = (Int.gcd down up : Int) := by
    rw [Nat.gcd_comm]; rfl
  have g0 : (Int.gcd down up : Int) ≠ 0 := by
    intro e
    have e2 : Int.gcd down up = 0 := by exact_mod_cast e
    rw [Int.gcd_eq_zero_iff] at e2
    exact h e2.1
  have d1 : (Int.gcd down up : Int) ∣ up := Int.gcd_dvd_right ..
  have d2 : (Int.gcd down up : Int) ∣ down := Int.gcd_dvd_left ..
  unfold lp frD frL
  rw [hg, Rat.num_divInt, Rat.den_divInt, if_neg h]
  by_cases hp : down > 0
  · rw [if_pos hp, Int.fdiv_eq_ediv_of_dvd d1, Int.fdiv_eq_ediv_of_dvd d2, Int.sign_eq_one_of_pos hp, Int.one_mul]
    congr 3
    rw [Int.natCast_ediv, Int.natAbs_of_nonneg (by omega)]
  · rw [if_neg hp, fdiv_neg_dvd d1 g0, fdiv_neg_dvd d2 g0, Int.sign_eq_neg_one_of_neg (by omega)]
    congr 3
    · rw [Int.neg_mul, Int.one_mul, Int.neg_ediv_of_dvd d1]
    · rw [Int.natCast_ediv, Int.ofNat_natAbs_of_nonpos (by omega), Int.neg_ediv_of_dvd d2]
theorem add_lp (p q : Rat) : Rat.divInt (p.num * q.den + q.num * p.den) (p.den * q.den) = p + q := by
  rw [Rat.add_def', ← Int.natCast_mul, Rat.divInt_ofNat]
theorem mul_lp (p q : Rat) : Rat.divInt (p.num * q.num) (p.den * q.den) = p * q := by
  rw [Rat.mul_def', ← Int.natCast_mul, Rat.divInt_ofNat]
theorem lt_lp (p q : Rat) : decide (p.num * q.den < q.num * p.den) = decide (p < q) := by
  rw [decide_eq_decide, Rat.lt_iff]
theorem den_ne (q : Rat) : (q.den : Int) ≠ 0 := by have := q.den_pos; omega
theorem mul_ne {a b : Int} (h : a ≠ 0) (h2 : b ≠ 0) : a * b ≠ 0 := by
  intro e; rcases Int.mul_eq_zero.mp e with e | e
  · exact h e
  · exact h2 e
/-- sizes of sums and products -/
theorem natAbs_div_le (a : Int) (n : Nat) : (a / (n : Int)).natAbs ≤ a.natAbs ∨ ¬ ((n : Int) ∣ a) := by
  by_cases h : (n : Int) ∣ a
  · left
    rw [Int.natAbs_ediv_of_dvd h]
    exact Nat.div_le_self _ _
  · exact .inr h
theorem num_le (a : Int) (b : Int) (h : 0 < b) : (Rat.divInt a b).num.natAbs ≤ a.natAbs ∧ (Rat.divInt a b).den ≤ b.natAbs := by
  rw [Rat.num_divInt, Rat.den_divInt, if_neg (by omega), Int.sign_eq_one_of_pos h, Int.one_mul]
  refine ⟨?_, Nat.div_le_self _ _⟩
  rcases natAbs_div_le a (b.gcd a) with h | h
  · exact h
  · exact absurd (Int.gcd_dvd_right ..) h
theorem pow_mul_lt {a b n m : Nat} (ha : a < 2 ^ n) (hb : b < 2 ^ m) : a * b < 2 ^ (n + m) := by
  rw [Nat.pow_add]; exact Nat.mul_lt_mul'' ha hb
theorem Bd.mul {p q : Rat} {n m : Nat} (hp : Bd p n) (hq : Bd q m) : Bd (p * q) (n + m) := by
  have h := num_le (p.num * q.num) (p.den * q.den) (by have := p.den_pos; have := q.den_pos; exact Int.mul_pos (by omega) (by omega))
  rw [mul_lp] at h
  refine ⟨Nat.lt_of_le_of_lt h.1 ?_, Nat.lt_of_le_of_lt h.2 ?_⟩
  · rw [Int.natAbs_mul]; exact pow_mul_lt hp.1 hq.1
  · rw [Int.natAbs_mul]; exact pow_mul_lt hp.2 hq.2
theorem Bd.add {p q : Rat} {n m : Nat} (hp : Bd p n) (hq : Bd q m) : Bd (p + q) (n + m + 1) := by
  have h := num_le (p.num * q.den + q.num * p.den) (p.den * q.den) (by have := p.den_pos; have := q.den_pos; exact Int.mul_pos (by omega) (by omega))
  rw [add_lp] at h
  refine ⟨Nat.lt_of_le_of_lt h.1 ?_, Nat.lt_of_le_of_lt h.2 ?_⟩
  · have h1 := Int.natAbs_add_le (p.num * q.den) (q.num * p.den)
    have h2 : (p.num * q.den).natAbs < 2 ^ (n + m) := by rw [Int.natAbs_mul]; exact pow_mul_lt hp.1 hq.2
    have h3 : (q.num * p.den).natAbs < 2 ^ (n + m) := by rw [Int.natAbs_mul, Nat.add_comm n m]; exact pow_mul_lt hq.1 hp.2
    rw [Nat.pow_succ]; omega
  · rw [Int.natAbs_mul, Nat.pow_succ]
    have := pow_mul_lt hp.2 hq.2
    have e : (p.den : Int).natAbs * (q.den : Int).natAbs = p.den * q.den := rfl
    omega
theorem Bd.neg {p : Rat} {n : Nat} (hp : Bd p n) : Bd (-p) n := by
  refine ⟨?_, hp.2⟩
  rw [Rat.neg_num, Int.natAbs_neg]; exact hp.1
theorem Bd.sub {p q : Rat} {n m : Nat} (hp : Bd p n) (hq : Bd q m) : Bd (p - q) (n + m + 1) := by
  rw [Rat.sub_eq_add_neg]; exact hp.add hq.neg
/-- equal data of fractions: equal fractions -/
theorem fr_inj {p q : Rat} (h : frD p = frD q) : p = q := by
  unfold frD frL at h
  injection h with h
  injection h with h1 h2
  injection h2 with h2 _
  injection h1 with h1
  injection h2 with h2
  exact Rat.ext h1 (by omega)
theorem eqv_fr (p q : Rat) : PyData.eqv (frD p) (frD q) = decide (p = q) := by
  have : PyData.eqv (frD p) (frD q) = (decide (p.num = q.num) && decide (p.den = q.den)) := by
    unfold frD frL
    simp only [PyData.eqv, PyData.eqvAll, Bool.and_true]
    congr 1
    rw [Bool.eq_iff_iff, beq_iff_eq, decide_eq_true_iff]
    omega
  rw [this]
  by_cases h : p = q
  · subst h; simp
  · rw [decide_eq_false h, Bool.and_eq_false_iff]
    by_cases h1 : p.num = q.num
    · right
      rw [decide_eq_false_iff_not]
      exact fun h2 => h (Rat.ext h1 h2)
    · left; exact decide_eq_false h1
theorem shaped_fr (p : Rat) : SeqAt.shaped (frD p) = true := by
  unfold frD frL
  simp [SeqAt.shaped, PyData.depth, PyData.depthAll, PyData.canLay0, PyData.canLayAll0]
theorem isFr_seq {d : PyData} {q : Rat} (h : isFr d q) : isSeq d = true := h.1
theorem at0 {d : PyData} {q : Rat} (h : isFr d q) : atI (itemsD d) 0 = some (.int q.num) := by rw [h.2]; rfl
theorem at1 {d : PyData} {q : Rat} (h : isFr d q) : atI (itemsD d) 1 = some (.int q.den) := by rw [h.2]; rfl
theorem cmulw {i j : Int} (hi : i.natAbs < 2 ^ 4000) (hj : j.natAbs < 2 ^ 4000) : CMulW i j := wide_mul hi hj (by decide) (by decide) (by decide)
def leD : PyData → PyData → Bool
  | .int i, .int j => decide (i ≤ j)
  | _, _ => false
def within (d lo hi : PyData) : Bool := isI d && ((isNoneD lo || leD lo d) && (isNoneD hi || leD d hi))
def areI (d : PyData) (n : Int) : Bool := isSeq d && decide ((lenD d : Int) = n) && (itemsD d).all isI
theorem areI2 {d : PyData} (h : areI d 2 = true) : ∃ a b, isSeq d = true ∧ itemsD d = [.int a, .int b] := by
  unfold areI at h
  simp only [Bool.and_eq_true, decide_eq_true_eq] at h
  obtain ⟨⟨h1, h2⟩, h3⟩ := h
  have key : ∀ ds : List PyData, (ds.length : Int) = 2 → ds.all isI = true → ∃ a b, ds = [.int a, .int b] := by
    intro ds hl ha
    match ds, hl, ha with
    | [x, y], _, ha =>
      simp only [List.all_cons, List.all_nil, Bool.and_true, Bool.and_eq_true] at ha
      cases x <;> cases y <;> first | exact ⟨_, _, rfl⟩ | (simp [isI] at ha)
  cases d with
  | list ds => obtain ⟨a, b, e⟩ := key ds h2 h3; exact ⟨a, b, rfl, e⟩
  | tuple ds => obtain ⟨a, b, e⟩ := key ds h2 h3; exact ⟨a, b, rfl, e⟩
  | _ => cases h1
theorem areI_pair {d : PyData} {a b : Int} (h : isSeq d = true) (e : itemsD d = [.int a, .int b]) : areI d 2 = true := by
  cases d with
  | list ds => cases e; rfl
  | tuple ds => cases e; rfl
  | _ => cases h
/-- whether any value tells a fraction -/
def isFrB (d : PyData) : Bool := match itemsD d with
  | [.int a, .int b] => isSeq d && (decide (0 < b) && decide ((Nat.gcd a.natAbs b.natAbs : Int) = 1))
  | _ => false
theorem isFrB_of {d : PyData} {q : Rat} (h : isFr d q) : isFrB d = true := by
  unfold isFrB
  rw [h.2]
  simp only [frL, h.1, Bool.true_and, Bool.and_eq_true, decide_eq_true_eq]
  refine ⟨by have := q.den_pos; omega, ?_⟩
  have := q.reduced
  exact_mod_cast this
theorem isFrB_pair {d : PyData} {a b : Int} (h : isSeq d = true) (e : itemsD d = [.int a, .int b]) : isFrB d = (decide (0 < b) && decide ((Nat.gcd a.natAbs b.natAbs : Int) = 1)) := by
  unfold isFrB; rw [e, h]; rfl
theorem isFrB_not {d : PyData} (h : areI d 2 = false) : isFrB d = false := by
  unfold isFrB
  split
  · rename_i a b e
    by_cases hs : isSeq d = true
    · rw [areI_pair hs e] at h; cases h
    · rw [Bool.not_eq_true] at hs; rw [hs]; rfl
  · rfl
theorem isFr_of {d : PyData} (h : isFrB d = true) : ∃ q, isFr d q := by
  unfold isFrB at h
  split at h
  · rename_i a b e
    simp only [Bool.and_eq_true, decide_eq_true_eq] at h
    obtain ⟨h1, h2, h3⟩ := h
    refine ⟨⟨a, b.toNat, by omega, ?_⟩, h1, ?_⟩
    · have : b.natAbs = b.toNat := by omega
      rw [← this]; show Nat.gcd _ _ = 1; exact_mod_cast h3
    · rw [e]; unfold frL
      have : ((b.toNat : Nat) : Int) = b := by omega
      simp [this]
  · cases h
theorem gcd_small {u w : Int} (hw : w ≠ 0) (h : w.natAbs < 2 ^ 8999) (x : Int) : CDivA x (if w > 0 then (Nat.gcd u.natAbs w.natAbs : Nat) else -(Nat.gcd u.natAbs w.natAbs : Nat)) := by
  have h1 : Nat.gcd u.natAbs w.natAbs ≤ w.natAbs := Nat.gcd_le_right _ (by omega)
  have h0 : 0 < Nat.gcd u.natAbs w.natAbs := Nat.gcd_pos_of_pos_right _ (by omega)
  have h2 : (if w > 0 then ((Nat.gcd u.natAbs w.natAbs : Nat) : Int) else -(Nat.gcd u.natAbs w.natAbs : Nat)).natAbs = Nat.gcd u.natAbs w.natAbs := by split <;> omega
  refine ⟨?_, ?_⟩
  · intro e; rw [e] at h2; simp at h2; omega
  · rw [h2]
    have := PySem.Flt.log2_lt_of (k := 8999) (by decide) (Nat.lt_of_le_of_lt h1 h)
    omega
theorem den_small {p q : Rat} (hp : Bd p 4000) (hq : Bd q 4000) : ((p.den : Int) * q.den).natAbs < 2 ^ 8999 := by
  rw [Int.natAbs_mul]
  exact Nat.lt_of_lt_of_le (pow_mul_lt hp.2 hq.2) (Nat.pow_le_pow_right (by decide) (by decide))
theorem num_le' (a : Int) (b : Int) (h : b ≠ 0) : (Rat.divInt a b).num.natAbs ≤ a.natAbs ∧ (Rat.divInt a b).den ≤ b.natAbs := by
  rcases Int.lt_or_gt_of_ne h with h1 | h1
  · have e : Rat.divInt a b = Rat.divInt (-a) (-b) := (Rat.neg_divInt_neg a b).symm
    rw [e]
    have := num_le (-a) (-b) (by omega)
    rw [Int.natAbs_neg, Int.natAbs_neg] at this
    exact this
  · exact num_le a b h1
theorem isFr_01 : isFr (.tuple [.int 0, .int 1]) 0 := ⟨rfl, rfl⟩
theorem isFr_11 : isFr (.tuple [.int 1, .int 1]) 1 := ⟨rfl, rfl⟩
theorem isFr_m11 : isFr (.tuple [.int (-1), .int 1]) (-1) := ⟨rfl, rfl⟩
theorem frD_0 : PyData.tuple [.int 0, .int 1] = frD 0 := rfl
theorem frD_1 : PyData.tuple [.int 1, .int 1] = frD 1 := rfl
theorem bd_0 : Bd 0 1 := ⟨by decide, by decide⟩
theorem bd_1 : Bd 1 1 := ⟨by decide, by decide⟩
theorem bd_m1 : Bd (-1) 1 := ⟨by decide, by decide⟩
theorem bd_le {q : Rat} {n : Nat} (h : Bd q n) (l : n ≤ 4000) : Bd q 4000 := h.mono l
theorem eqv_fr0 (p : Rat) : PyData.eqv (frD p) (.tuple [.int 0, .int 1]) = decide (p = 0) := eqv_fr p 0
theorem eqv_fr1 (p : Rat) : PyData.eqv (frD p) (.tuple [.int 1, .int 1]) = decide (p = 1) := eqv_fr p 1
theorem shaped_0 : SeqAt.shaped (.tuple [.int 0, .int 1]) = true := rfl
theorem shaped_1 : SeqAt.shaped (.tuple [.int 1, .int 1]) = true := rfl
/-- the three of one order -/
theorem count3 (p q : Rat) : ((([decide (p < q), decide (q < p), decide (p = q)] : List Bool).count true : Nat) : Int) = 1 := by
  rcases Classical.em (p = q) with h | h
  · subst h
    have : ¬ p < p := Rat.lt_irrefl
    simp [this]
  · by_cases h1 : p < q
    · have h2 : ¬ q < p := fun h2 => Rat.not_lt.mpr (Rat.le_of_lt h2) h1
      simp [h1, h2, h]
    · have h2 : q < p := Rat.lt_of_le_of_ne (Rat.not_lt.mp h1) (Ne.symm h)
      simp [h1, h2, h]

/-! the order's laws -/
theorem ord1 (p q r : Rat) : (!decide (decide (p + r < q + r) = decide (p < q)) || !decide (decide (0 - q < 0 - p) = decide (p < q))) = false := by
  have h1 : (p + r < q + r) ↔ p < q := Rat.add_lt_add_right
  have h2 : (0 - q < 0 - p) ↔ p < q := by
    rw [Rat.sub_eq_add_neg, Rat.sub_eq_add_neg, Rat.zero_add, Rat.zero_add]; exact Rat.neg_lt_neg_iff
  simp [h1, h2]
theorem ord2 (p q r : Rat) : (decide (p < q) && (decide (q < r) && !decide (p < r))) = false := by
  by_cases h1 : p < q
  · by_cases h2 : q < r
    · have h3 : p < r := by
        rcases Rat.lt_iff_le_and_ne.mp h1 with ⟨a1, a2⟩
        rcases Rat.lt_iff_le_and_ne.mp h2 with ⟨b1, b2⟩
        refine Rat.lt_of_le_of_ne (Rat.le_trans a1 b1) fun e => ?_
        subst e
        exact a2 (Rat.le_antisymm a1 b1)
      simp [h3]
    · simp [h2]
  · simp [h1]
theorem ord3 (p q r : Rat) : decide (decide (p * (r * r) < q * (r * r)) = (decide (p < q) && !decide (r = 0))) = true := by
  by_cases h : r = 0
  · subst h
    simp [Rat.mul_zero]
  · have hp : 0 < r * r := by
      rcases Classical.em (r < 0) with h1 | h1
      · have h2 : 0 < -r := by
          have := Rat.neg_lt_neg h1
          simpa using this
        have h3 := Rat.mul_pos h2 h2
        rw [Rat.neg_mul, Rat.mul_neg, Rat.neg_neg] at h3
        exact h3
      · have h2 : 0 < r := Rat.lt_of_le_of_ne (Rat.not_lt.mp h1) (Ne.symm h)
        exact Rat.mul_pos h2 h2
    have h3 : (p * (r * r) < q * (r * r)) ↔ p < q := Rat.mul_lt_mul_right hp
    simp [h3, h]

/-! lists of fractions -/
theorem eqvAll_frs : ∀ ps qs : List Rat, PyData.eqvAll (ps.map frD) (qs.map frD) = decide (ps = qs)
  | [], [] => by simp [PyData.eqvAll]
  | [], _ :: _ => by simp [PyData.eqvAll]
  | _ :: _, [] => by simp [PyData.eqvAll]
  | p :: ps, q :: qs => by
    have ih := eqvAll_frs ps qs
    show (PyData.eqv (frD p) (frD q) && PyData.eqvAll (ps.map frD) (qs.map frD)) = _
    rw [ih, eqv_fr]
    by_cases h : p = q <;> by_cases h2 : ps = qs <;> simp [h, h2]
theorem eqv_frs (ps qs : List Rat) : PyData.eqv (.list (ps.map frD)) (.list (qs.map frD)) = decide (ps = qs) := eqvAll_frs ps qs
theorem shaped_frs (ps : List Rat) : SeqAt.shaped (.list (ps.map frD)) = true := by
  have h1 : ∀ ps : List Rat, PyData.canLayAll0 (ps.map frD) = true := fun ps => by
    induction ps with
    | nil => rfl
    | cons x r ih =>
      show (PyData.canLay0 (frD x) && PyData.canLayAll0 (r.map frD)) = true
      rw [ih]; rfl
  have h2 : ∀ ps : List Rat, PyData.depthAll (ps.map frD) ≤ 1 := fun ps => by
    induction ps with
    | nil => exact Nat.zero_le _
    | cons x r ih =>
      show max (PyData.depth (frD x)) (PyData.depthAll (r.map frD)) ≤ 1
      have : PyData.depth (frD x) = 1 := rfl
      omega
  have h3 := h2 ps
  show (PyData.canLayAll0 (ps.map frD) && decide (PyData.depthAll (ps.map frD) + 1 ≤ 64)) = true
  rw [h1, Bool.true_and, decide_eq_true_eq]
  omega
theorem filter_frs (ps : List Rat) : (ps.map frD).filter (fun d => !isFrB d || !isTup d) = [] := by
  rw [List.filter_eq_nil_iff]
  intro d hd
  obtain ⟨x, _, rfl⟩ := List.mem_map.mp hd
  rw [isFrB_of (isFr_D x)]
  simp [isTup, frD]
theorem sub_add (p q : Rat) : p + q - q = p := Rat.add_sub_cancel
theorem sub_sub (p q : Rat) : p - (p - q) = q := by
  rw [Rat.sub_eq_add_neg p (p - q), Rat.neg_sub, Rat.sub_eq_add_neg, Rat.add_comm q, ← Rat.add_assoc, Rat.add_neg_cancel, Rat.zero_add]
theorem inv_lp (p : Rat) : Rat.divInt (p.den : Int) p.num = p⁻¹ := (Rat.inv_def p).symm
theorem bd_inv {p : Rat} {n : Nat} (h : Bd p n) (h0 : p.num ≠ 0) : Bd (Rat.divInt (p.den : Int) p.num) n := by
  have hb := num_le' (p.den : Int) p.num h0
  exact ⟨Nat.lt_of_le_of_lt hb.1 h.2, Nat.lt_of_le_of_lt hb.2 h.1⟩
theorem neg1_add (p : Rat) : p + -1 * p = 0 := by
  rw [Rat.neg_mul, Rat.one_mul, Rat.add_neg_cancel]
theorem isFr_21 : isFr (.tuple [.int 2, .int 1]) 2 := ⟨rfl, rfl⟩
theorem bd_2 : Bd 2 2 := ⟨by decide, by decide⟩
theorem noL_frs (qs : List Rat) : noL (.tuple (qs.map frD)) = true := by
  show noLs (qs.map frD) = true
  rw [noLs_all]
  intro d hd
  obtain ⟨x, _, rfl⟩ := List.mem_map.mp hd
  rfl
end Jl

set_option Elab.async false
set_option linter.all false
set_option maxRecDepth 100000
set_option maxHeartbeats 2000000
/-! drawing: the list that is drawn from (at b: its cells at c, how many were begun, what is left), ints that are not known, picks, loops -/
namespace Jl
open PySem PySem.Spec L2
/-- the list at b, its cells at c -/
def Sat (b c : Addr) (n : Nat) (H : Hp) : Prop := ∃ (at' rest : Int) (cs : List Int), H b = some (.lst [.ref c, .int at', .int rest]) ∧ H c = some (.lst (cs.map V.int)) ∧ 0 ≤ at' ∧ at' ≤ n ∧ 0 ≤ rest ∧ cs.length ≤ 60
def satW (b c : Addr) : Wd where
  M := fun a => a = b
  F := fun a => a = b ∨ a = c
  I := Sat b c
  mf := fun h => .inl h
  sf := fun s ⟨a, r, cs, h1, h2, h3⟩ => ⟨a, r, cs, by rw [s b (.inl rfl)]; exact h1, by rw [s c (.inr rfl)]; exact h2, h3⟩
  al := fun ⟨a, r, cs, h1, h2, h3⟩ f => by
    rcases f with rfl | rfl
    · rw [h1]; simp
    · rw [h2]; simp
  ml := fun {n H a} ⟨p, r, cs, h1, h2, h3⟩ m => by
    have m' : a = b := m
    subst m'
    exact ⟨_, h1⟩
  mo := fun l ⟨a, r, cs, h1, h2, h3, h4, h5⟩ => ⟨a, r, cs, h1, h2, h3, by omega, h5⟩
variable {K : PySem.W.Frag} {W : Wd} {σ : St} {H H1 H2 : Hp} {v : V} {d : PyData} {n c c1 c2 : Nat} {te ta tb to ti : TE} {P P1 P2 : V → Hp → Prop} {D : Ends}
theorem sat_cb {b c : Addr} (h : Sat b c n H) : c ≠ b := fun e => by
  obtain ⟨a, r, cs, h1, h2, _⟩ := h
  rw [e, h1] at h2
  injection h2 with h2; injection h2 with h2
  cases cs with
  | nil => cases h2
  | cons x r => cases h2

/-! ints that are not known -/
abbrev JI (W : Wd) (te : TE) (σ : St) (H : Hp) (c : Nat) (φ : Int → Prop) : Prop := J W te σ H c fun v _ => ∃ i, v = .int i ∧ φ i
variable {φ φ1 φ2 : Int → Prop}
theorem ji_of {i : Int} (h : JD K W te σ H c (.int i)) (p : φ i) : JI W te σ H c φ := h.imp fun v H2 hv => ⟨i, Da.int hv, p⟩
theorem ji_v {i : Nat} {k : Int} (h : σ[i]? = some (some (.int k))) (p : φ k) : JI W (tVar i) σ H 0 φ := fun n H1 _ hI _ Q q => ⟨_, h, q _ H1 ExM.refl hI ⟨k, rfl, p⟩⟩
theorem ji_op {C : Int → Int → Prop} {f : Int → Int → Int} (ha : JI W ta σ H c1 φ1) (hb : JI W tb σ H c2 φ2) (hc : ∀ i j, φ1 i → φ2 j → C i j) (hp : ∀ i j, φ1 i → φ2 j → φ (f i j)) : JI W (tOp (rI C fun i j => .int (f i j)) ta tb) σ H (c1 + c2) φ := fun n H1 e hI hn Q q =>
  ha n H1 e hI (by omega) _ fun x H2 e2 hI2 ⟨i, hx, p1⟩ => hb (n + c1) H2 (e.trans e2) hI2 (by omega) _ fun y H3 e3 hI3 ⟨j, hy, p2⟩ => ⟨i, j, hx, hy, hc i j p1 p2, q _ H3 (e2.trans e3) (by rw [show n + (c1 + c2) = n + c1 + c2 by omega]; exact hI3) ⟨_, rfl, hp i j p1 p2⟩⟩
theorem ji_op0 {f : Int → Int → Int} (ha : JI W ta σ H c1 φ1) (hb : JI W tb σ H c2 φ2) (hp : ∀ i j, φ1 i → φ2 j → φ (f i j)) : JI W (tOp (rI0 fun i j => .int (f i j)) ta tb) σ H (c1 + c2) φ := fun n H1 e hI hn Q q =>
  ha n H1 e hI (by omega) _ fun x H2 e2 hI2 ⟨i, hx, p1⟩ => hb (n + c1) H2 (e.trans e2) hI2 (by omega) _ fun y H3 e3 hI3 ⟨j, hy, p2⟩ => ⟨i, j, hx, hy, q _ H3 (e2.trans e3) (by rw [show n + (c1 + c2) = n + c1 + c2 by omega]; exact hI3) ⟨_, rfl, hp i j p1 p2⟩⟩
/-- a display whose items are known by a word alone -/
abbrev JXs (K : PySem.W.Frag) (W : Wd) (ta : TA) (σ : St) (H : Hp) (c : Nat) (ψ : PyData → Prop) (m : Nat) : Prop := JA W ta σ H c fun vs H2 => ∃ ds : List PyData, ds.length = m ∧ (∀ d ∈ ds, ψ d) ∧ DaL K W H2 vs ds
variable {ψ ψ1 : PyData → Prop} {m : Nat}
theorem jx_of (h : JD K W te σ H c d) (p : ψ d) : JX K W te σ H c ψ := h.imp fun v H2 hv => ⟨d, p, hv⟩
theorem jx_i (h : JI W te σ H c φ) (p : ∀ i, φ i → ψ (.int i)) : JX K W te σ H c ψ := h.imp fun v H2 ⟨i, e, q⟩ => ⟨.int i, p i q, by rw [e]; exact DaM.int i⟩
theorem jxs_nil : JXs K W tNil σ H 0 ψ 0 := fun n H1 _ hI _ Q q => q [] H1 ExM.refl hI ⟨[], rfl, by simp, .nil⟩
theorem jxs_cons {tr : TA} (ha : JX K W ta σ H c1 ψ) (hr : JXs K W tr σ H c2 ψ m) : JXs K W (tCons ta tr) σ H (c1 + c2) ψ (m + 1) := fun n H1 e hI hn Q q =>
  ha n H1 e hI (by omega) _ fun x H2 e2 hI2 ⟨d, p, hx⟩ => hr (n + c1) H2 (e.trans e2) hI2 (by omega) _ fun xs H3 e3 hI3 ⟨ds, hl, hp, hxs⟩ =>
    q (x :: xs) H3 (e2.trans e3) (by rw [show n + (c1 + c2) = n + c1 + c2 by omega]; exact hI3) ⟨d :: ds, by rw [List.length_cons, hl], fun y hy => by
      rcases List.mem_cons.mp hy with rfl | hy
      · exact p
      · exact hp y hy, .cons (Da.mono hx e3) hxs⟩
/-- the list itself -/
abbrev JXl (K : PySem.W.Frag) (W : Wd) (te : TE) (σ : St) (H : Hp) (c : Nat) (ψ : PyData → Prop) (m : Nat) : Prop := J W te σ H c fun v H2 => ∃ ds : List PyData, ds.length = m ∧ (∀ d ∈ ds, ψ d) ∧ Da K W H2 v (.list ds)
theorem jxl_lst {t : TA} (h : JXs K W t σ H c ψ m) (hl : m ≤ 100000) : JXl K W (tLst t) σ H c ψ m := fun n H1 e hI hn Q q =>
  h n H1 e hI hn _ fun xs H2 e2 hI2 ⟨ds, h1, h2, hx⟩ => ⟨by rw [dal_len hx, h1]; exact Nat.le_trans hl (by decide), fun p hp =>
    q (.ref p) _ (e2.trans (.of (same_new hp))) (W.st (same_new hp) hI2) ⟨ds, h1, h2, da_lst (W.fr hI2 hp) upd_same (DaL.mono hx (.of (same_new hp)))⟩⟩

/-! what the drawing defs promise -/
def spDraw : Sp := fun vs H Q _ => ∃ (b c : Addr) (n : Nat) (many : Int), vs = [.ref b, .int many] ∧ Sat b c n H ∧ n + 1 ≤ BIG ∧ 0 < many ∧ many < 536870912 ∧
  ∀ i H', 0 ≤ i → i < many → ExM (satW b c).M H H' → Sat b c (n + 1) H' → Q (.int i) H'
def spPick (K : PySem.W.Frag) : Sp := fun vs H Q _ => ∃ (b c : Addr) (n : Nat) (v : V) (d : PyData), vs = [.ref b, v] ∧ Sat b c n H ∧ n + 1 ≤ BIG ∧ Da K (satW b c) H v d ∧ isSeq d = true ∧ 0 < (itemsD d).length ∧ (itemsD d).length < 100000 ∧
  ∀ x e H', e ∈ itemsD d → ExM (satW b c).M H H' → Sat b c (n + 1) H' → Da K (satW b c) H' x e → Q x H'
variable {b cc : Addr}
theorem satI {H : Hp} : (satW b cc).I n H = Sat b cc n H := rfl
theorem ji_draw {many : Int} {E : XK} {i : Nat} {tm : TE} (hb : σ[i]? = some (some (.ref b))) (hm : JD K (satW b cc) tm σ H c (.int many)) (h0 : 0 < many ∧ many < 536870912) :
    JI (satW b cc) (tCall spDraw [] E (tCons (tVar i) (tCons tm tNil))) σ H (c + 1) (fun i => 0 ≤ i ∧ i < many) := fun n H1 e hI hn Q q =>
  ⟨.ref b, hb, hm n H1 e hI (by omega) _ fun x H2 e2 hI2 hx => ⟨b, cc, n + c, many, by rw [hx.int]; rfl, show Sat b cc (n + c) H2 from hI2, by omega, h0.1, h0.2, fun k H' k0 k1 eM hS => q _ H' (e2.trans eM) (show Sat b cc (n + (c + 1)) H' from hS) ⟨k, rfl, k0, k1⟩⟩⟩
theorem jx_pick {E : XK} {i : Nat} {tl : TE} (hb : σ[i]? = some (some (.ref b))) (hl : JXl K (satW b cc) tl σ H c ψ m) (h0 : 0 < m ∧ m < 100000) :
    JX K (satW b cc) (tCall (spPick K) [] E (tCons (tVar i) (tCons tl tNil))) σ H (c + 1) ψ := fun n H1 e hI hn Q q =>
  ⟨.ref b, hb, hl n H1 e hI (by omega) _ fun x H2 e2 hI2 ⟨ds, hl, hp, hx⟩ => ⟨b, cc, n + c, x, .list ds, rfl, show Sat b cc (n + c) H2 from hI2, by omega, hx, rfl, by show 0 < ds.length; omega, by show ds.length < 100000; omega,
    fun y e H' he eM hS hy => q y H' (e2.trans eM) (show Sat b cc (n + (c + 1)) H' from hS) ⟨e, hp e he, hy⟩⟩⟩

/-! stores, loops -/
theorem st_setitem {l : Addr} {xs : List V} {j : Nat} {i : Int} {Pv : V → Hp → Prop} (hv : J W0 te σ H c Pv) (ho : J W0 to σ H c1 (fun v _ => v = .ref l)) (hi : JD K W0 ti σ H c2 (.int i)) (hc : c ≤ BIG ∧ c1 ≤ BIG ∧ c2 ≤ BIG) (hl : H l = some (.lst xs)) (hj : ixN xs.length i = some j)
    (hP : ∀ {v H1 H2}, Same H1 H2 → Pv v H1 → Pv v H2) (k : ∀ v H1, Same H H1 → Pv v H1 → D.nx σ (upd H1 l (.lst (xs.set j v)))) : tAsg te (gSub to ti rSetL) D σ H :=
  hv 0 H ExM.refl trivial (by omega) _ fun v H1 e1 _ p => ho 0 H1 e1 trivial (by omega) _ fun o H2 e2 _ po => hi 0 H2 (e1.trans e2) trivial (by omega) _ fun y H3 e3 _ py => by
    subst po
    have s := ex0 (e1.trans (e2.trans e3))
    exact ⟨l, xs, i, j, rfl, Da.int py, s l _ hl, hj, k v H3 s (hP (ex0 (e2.trans e3)) p)⟩
theorem st_forR {ta : TA} {j : Nat} {nn : Int} {tb : TS} (hI : W.I n H) (h : JDA K W ta σ H c [.int nn]) (hc : n + c ≤ BIG) (hn : 0 ≤ nn ∧ nn < 2 ^ 62) (Pv : Nat → St → Hp → Prop) (h0 : ∀ H1, ExM W.M H H1 → W.I (n + c) H1 → Pv 0 σ H1)
    (hs : ∀ (i : Nat) σ' H', (i : Int) < nn → Pv i σ' H' → tb { D with nx := Pv (i + 1), ct := Pv (i + 1), bk := D.nx } (σ'.set j (some (.int (i : Int)))) H') (hd : ∀ σ' H', Pv nn.toNat σ' H' → D.nx σ' H') : tFor (iRng1 ta) (gName j) tb D σ H :=
  h n H ExM.refl hI hc _ fun vs H1 e hI1 hv => by
    obtain ⟨x, rfl, hx⟩ := dal1 hv
    exact ⟨nn, by rw [hx.int], by omega, hn.2, for_range (lo := 0) (n := nn.toNat) Pv (h0 H1 e hI1) (fun i σ' H' hi p => by
      have e0 : (0 : Int) + (i : Int) = (i : Int) := Int.zero_add _
      show tb { D with nx := Pv (i + 1), ct := Pv (i + 1), bk := D.nx } (σ'.set j (some (.int ((0 : Int) + (i : Int))))) H'
      rw [e0]
      exact hs i σ' H' (by omega) p) hd⟩
/-- [te for _ in range(nn)], something drawn in each -/
theorem jxl_lcR {ta : TA} {nn : Int} {j : Nat} {vs : List Nat} (h : JDA K W ta σ H c [.int nn]) (hn : 0 ≤ nn ∧ nn < 10000) (hw : ∀ x, wipe ((wipe σ vs).set j (some x)) vs = wipe σ vs)
    (he : ∀ (i : Nat) H1, ExM W.M H H1 → (i : Int) < nn → JX K W te ((wipe σ vs).set j (some (.int (i : Int)))) H1 c1 ψ) (hL : ∀ d, ψ d → noL d = true) :
    JXl K W (tLc (iRng1 ta) (gName j) tYes te vs) σ H (c + nn.toNat * c1) ψ nn.toNat := fun n H0 e hI hb Q q => h n H0 e hI (by omega) _ fun xs H1 e1 hI1 hx => by
  obtain ⟨x, rfl, hx2⟩ := dal1 hx
  refine ⟨nn, by rw [hx2.int], by omega, by omega, fun Dl hD => ?_⟩
  refine lc_range (lo := 0) (n := nn.toNat) (fun i H' => ∃ ds : List PyData, ds.length = i ∧ (∀ d ∈ ds, ψ d) ∧ Cw K W H1 (n + c + i * c1) Dl ds H') ?_ (fun i H' hi hC => ?_) (fun H' hC => ?_)
  · exact ⟨[], rfl, by simp, hD, .of (same_new hD), by rw [show n + c + 0 * c1 = n + c by omega]; exact W.st (same_new hD) hI1, by simp [noLs], [], upd_same, by simpa using DaML.nil⟩
  · obtain ⟨ds, hl, hp, hC⟩ := hC
    have e0 : (0 : Int) + (i : Int) = (i : Int) := Int.zero_add _
    show wipe ((wipe σ vs).set j (some (.int ((0 : Int) + (i : Int))))) vs = wipe σ vs ∧ te ((wipe σ vs).set j (some (.int ((0 : Int) + (i : Int))))) H' _
    rw [e0]
    have hmul : i * c1 + c1 ≤ nn.toNat * c1 := by
      have : (i + 1) * c1 ≤ nn.toNat * c1 := Nat.mul_le_mul_right _ hi
      rw [Nat.succ_mul] at this; exact this
    refine ⟨hw _, he i H' (e.trans (e1.trans hC.2.1)) (by omega) (n + c + i * c1) H' ExM.refl hC.2.2.1 (by omega) _ fun y H4 e4 hI4 ⟨d, pd, hy⟩ => ?_⟩
    have mD := W.fr hI1 hD
    obtain ⟨acc, a1, a2, a3⟩ := cw_put ⟨_, hI1⟩ (cw_on hC mD e4 hI4) hy (hL d pd) (by omega)
    refine ⟨acc, a1, a2, ds ++ [d], by rw [List.length_append, hl]; rfl, fun x hx => ?_, ?_⟩
    · rcases List.mem_append.mp hx with h | h
      · exact hp x h
      · rw [List.mem_singleton.mp h]; exact pd
    · rw [show n + c + (i + 1) * c1 = n + c + i * c1 + c1 by rw [Nat.succ_mul]; omega]; exact a3
  · obtain ⟨ds, hl, hp, p1, p2, p3, p4, acc, p5, p6⟩ := hC
    exact q _ H' (e1.trans p2) (by rw [show n + (c + nn.toNat * c1) = n + c + nn.toNat * c1 by omega]; exact p3) ⟨ds, hl, hp, da_lst (W.fr hI1 hD) p5 p6⟩
/-- a, b, .. = a list of that many -/
theorem gUnl_of {m : Nat} {t : TGs} {Q : St → Hp → Prop} {ds : List PyData} (h : Da K W H v (.list ds)) (hl : ds.length = m) (k : ∀ xs, DaL K W H xs ds → t xs σ H Q) : gUnl K m t v σ H Q := by
  cases h with
  | lst hs ha => exact ⟨_, _, rfl, hs.sq, by rw [dal_len (W := W) ha, hl], k _ ha⟩

/-! list.count of truths -/
def eqkB (k : Bool) (v : Value) : Bool := match v with
  | .bool b => b == k
  | _ => false
theorem eqkB_at {k : Bool} {A : Around} {s : Shared} : ∀ {bs : List Bool} {us : List Value}, Vals (bs.map V.bl) us → ∀ y ∈ us, SeqAt.EqAt A s y (.bool k) (eqkB k y)
  | [], _, h => fun y hy => by cases h; cases hy
  | b :: bs, _, h => fun y hy => by
    cases h with
    | cons r t =>
      cases r
      rcases List.mem_cons.mp hy with e | e
      · rw [e]; exact SeqAt.EqAt.bool_bool b k
      · exact eqkB_at t y e
theorem eqkB_count {k : Bool} : ∀ {bs : List Bool} {us : List Value}, Vals (bs.map V.bl) us → us.countP (eqkB k) = bs.count k
  | [], _, h => by cases h; rfl
  | b :: bs, _, h => by
    cases h with
    | cons r t =>
      cases r
      rw [List.countP_cons, List.count_cons, eqkB_count t] <;> rfl
def rCntB (K : PySem.W.Frag) : V → List V → Hp → VK → Prop := fun x xs H Q => ∃ (p : Addr) (bs : List Bool) (k : Bool), x = .ref p ∧ xs = [.bl k] ∧ SqL K H p (bs.map V.bl) ∧ Q (.int (bs.count k : Nat)) H
theorem mt_lcountB {X : Cx} : MtR X "list.count" (rCntB X.K) := fun pins s σ H x xs v us Q I rx rxs ⟨p, bs, k, ex, exs, hs, q⟩ => by
  subst ex exs
  cases rx
  obtain ⟨u, eu, ru⟩ := rxs.one
  subst eu; cases ru
  obtain ⟨its, rv, ⟨o, n, ho, h1, _, h2⟩, _⟩ := I.list hs
  obtain ⟨cls, dd, data, sl⟩ := o
  obtain rfl : cls = _ := h1
  obtain rfl : data = _ := h2
  have en : its.toArray.toList.countP (eqkB k) = bs.count k := eqkB_count rv
  exact call_meets PySem.F.slot_list_count ⟨_, ho, rfl⟩ PySem.F.entry_list_count (PySem.F.args_list_count_2 _ _) (SeqAt.list_countAt p its.toArray n dd sl (.bool k) (eqkB k))
    ⟨ho, fun y hy => eqkB_at rv y (by simpa using hy), .int (bs.count k : Nat), H, I.tok _, ⟨s.toks, congrArg (fun z : Nat => Value.int (z : Int) s.toks) en⟩, q⟩
theorem jd_countB {bs : List Bool} {k : Bool} (ha : JD K W to σ H c1 (.list (bs.map PyData.bool))) (hb : JD K W ta σ H c2 (.bool k)) : JD K W (tBM K "list" (rCntB K) to (tCons ta tNil)) σ H (c1 + c2) (.int (bs.count k : Nat)) := fun n H1 e hI hn Q q =>
  ha n H1 e hI (by omega) _ fun x H2 e2 hI2 hx => by
    cases hx with
    | @lst a xs ds hs hl =>
      have e1 := dal_bools (W := W) hl
      refine ⟨.inl ⟨rfl, xs, hs.sq⟩, hb (n + c1) H2 (e.trans e2) hI2 (by omega) _ fun y H3 e3 hI3 hy => ⟨a, bs, k, rfl, by rw [hy.bl], by rw [← e1]; exact (hs.mono e3).sq, q _ H3 (e2.trans e3) (by rw [show n + (c1 + c2) = n + c1 + c2 by omega]; exact hI3) da_int⟩⟩

/-! the body of a drawing def -/
abbrev dB (cs : List Int) (a r : Int) : PyData := .list [.list (cs.map PyData.int), .int a, .int r]
theorem dal_of_ints : ∀ (cs : List Int), DaL K W H (cs.map V.int) (cs.map PyData.int)
  | [] => DaML.nil
  | x :: r => DaML.cons (DaM.int x) (dal_of_ints r)
theorem satDa {b c : Addr} {cs : List Int} {a r : Int} (hb : H b = some (.lst [.ref c, .int a, .int r])) (hc : H c = some (.lst (cs.map V.int))) : Da K W0 H (.ref b) (dB cs a r) :=
  da_lst (fun z => z) hb (.cons (da_lst (W := W0) (fun z => z) hc (dal_of_ints cs)) (.cons (.int a) (.cons (.int r) .nil)))
theorem st_setI0 {i : Nat} {z z' : Int} (h : JD K W0 te σ H c (.int z)) (hz : z = z') (hc : c ≤ BIG) (k : ∀ H1, ExM W0.M H H1 → D.nx (σ.set i (some (.int z'))) H1) : tAsg te (gName i) D σ H :=
  st_set0 h hc fun v H1 e hv => by subst hz; have := Da.int (W := W0) hv; subst this; exact k H1 e
theorem st_retI0 {z z' : Int} (h : JD K W0 te σ H c (.int z)) (hz : z = z') (hc : c ≤ BIG) (k : ∀ H1, ExM W0.M H H1 → D.rt (.int z') H1) : tRet te D σ H :=
  st_ret (W := W0) (n := 0) trivial h (by omega) fun v H1 e _ hv => by subst hz; have := Da.int (W := W0) hv; subst this; exact k H1 e
theorem st_setitI {l : Addr} {xs : List V} {j : Nat} {i z z' : Int} (hv : JD K W0 te σ H c (.int z)) (hz : z = z') (hvar : σ[0]? = some (some (.ref l))) (hi : JD K W0 ti σ H c2 (.int i)) (hc : c ≤ BIG ∧ c2 ≤ BIG) (hl : H l = some (.lst xs)) (hj : ixN xs.length i = some j)
    (k : ∀ H1, Same H H1 → D.nx σ (upd H1 l (.lst (xs.set j (.int z'))))) : tAsg te (gSub (tVar 0) ti rSetL) D σ H :=
  st_setitem (Pv := fun v H2 => v = .int z) (hv.imp fun v H2 h => Da.int (W := W0) h) (j_v hvar) hi ⟨hc.1, by decide, hc.2⟩ hl hj (fun _ h => h) fun v H1 s e => by subst e; rw [hz]; exact k H1 s
theorem same_at {H H1 : Hp} (s : Same H H1) {a : Addr} {o : HO} (h : H a = some o) : H1 a = some o := s a o h
theorem exm_upd {b c : Addr} {o : HO} (s : ExM (satW b c).M H H1) : ExM (satW b c).M H (upd H1 b o) := fun a u m h => by
  have hne : a ≠ b := m
  rw [upd_ne hne]; exact s a u m h
theorem shaped_ints : ∀ cs : List Int, SeqAt.shaped (.list (cs.map PyData.int)) = true := fun cs => by
  have h1 : ∀ cs : List Int, PyData.canLayAll0 (cs.map PyData.int) = true := fun cs => by
    induction cs with
    | nil => rfl
    | cons x r ih => simp [PyData.canLayAll0, PyData.canLay0, ih]
  have h2 : ∀ cs : List Int, PyData.depthAll (cs.map PyData.int) = 0 := fun cs => by
    induction cs with
    | nil => rfl
    | cons x r ih => simp [PyData.depthAll, PyData.depth, ih]
  simp [SeqAt.shaped, PyData.canLay0, h1, PyData.depth, h2]
theorem eqv_nil : ∀ cs : List Int, PyData.eqv (.list (cs.map PyData.int)) (.list []) = cs.isEmpty
  | [] => rfl
  | _ :: _ => rfl
theorem at_mod {cs : List Int} (h : cs ≠ []) {a : Int} (h0 : 0 ≤ a) : ∃ x, atI (cs.map PyData.int) (a % (cs.length : Int)) = some (.int x) := by
  have hl : 0 < cs.length := List.length_pos_iff.mpr h
  have h1 := Int.emod_nonneg a (show (cs.length : Int) ≠ 0 by omega)
  have h2 := Int.emod_lt_of_pos a (show (0 : Int) < cs.length by omega)
  obtain ⟨k, hk⟩ : ∃ k : Nat, a % (cs.length : Int) = k := ⟨(a % (cs.length : Int)).toNat, by omega⟩
  have hk2 : k < cs.length := by omega
  refine ⟨cs[k], ?_⟩
  rw [hk]
  refine atI_nat ?_
  rw [List.getElem?_map, List.getElem?_eq_getElem hk2]; rfl

def spSat (K : PySem.W.Frag) : Sp := fun vs H Q _ => ∃ (a : Addr) (ns : List Int), vs = [.ref a] ∧ SqL K H a (ns.map V.int) ∧ ns.length ≤ 63 ∧ ∀ b c H', Same H H' → Sat b c 0 H' → Q (.ref b) H'
theorem da_sq {a : Addr} {xs : List V} {ds : List PyData} (h : SqL K H a xs) (hd : DaL K W0 H xs ds) : Da K W0 H (.ref a) (.list ds) := by
  refine .lst ?_ hd
  rcases h with h | h
  · exact .inl ⟨fun z => z, h⟩
  · exact .inr h
theorem mem_ints {ns : List Int} {d : PyData} (h : d ∈ ns.map PyData.int) : ∃ i, d = .int i := by
  obtain ⟨i, _, rfl⟩ := List.mem_map.mp h
  exact ⟨i, rfl⟩
theorem sat_ret {tx : TE} {ns : List Int} (hl : ns.length ≤ 60) (h : J W0 tx σ H 0 (fun v H2 => NewL K W0 H2 v (ns.map PyData.int))) (ha : JD K W0 ta σ H 0 (.int 0)) (hb : JD K W0 tb σ H 0 (.int 0)) (q : ∀ b c H', Same H H' → Sat b c 0 H' → D.rt (.ref b) H') :
    tRet (tLst (tCons tx (tCons ta (tCons tb tNil)))) D σ H := h 0 H ExM.refl trivial (by decide) _ fun v H1 e1 _ hv => ha 0 H1 e1 trivial (by decide) _ fun x H2 e2 _ hx => hb 0 H2 (e1.trans e2) trivial (by decide) _ fun y H3 e3 _ hy => by
  obtain ⟨p, acc, rfl, _, hp, hd⟩ := hv
  have e4 := dal_ints (W := W0) hd
  rw [e4] at hp
  have h3 : H3 p = some (.lst (ns.map V.int)) := ex0 (e2.trans e3) _ _ hp
  refine ⟨(by show 3 ≤ sizeLine; decide), fun l hl' => q l p _ (fun a o ho => same_new hl' a o (ex0 (e1.trans (e2.trans e3)) a o ho)) ⟨0, 0, ns, ?_, same_new hl' _ _ h3, by omega, by omega, by omega, hl⟩⟩
  rw [hx.int, hy.int]
  exact upd_same
/-- some[draw(b, len(some))] -/
theorem pick_ret {E : XK} {b cc : Addr} (hS : Sat b cc n H) (hn : n + 1 ≤ BIG) (hd : Da K (satW b cc) H v d) (hs : isSeq d = true) (hl0 : 0 < (itemsD d).length) (hl1 : (itemsD d).length < 100000)
    (h0 : σ[0]? = some (some (.ref b))) (h1 : σ[1]? = some (some v))
    (q : ∀ x e H', e ∈ itemsD d → ExM (satW b cc).M H H' → Sat b cc (n + 1) H' → Da K (satW b cc) H' x e → D.rt x H') :
    tRet (tOp (rIx K) (tVar 1) (tCall spDraw [] E (tCons (tVar 0) (tCons (tCB (fun xs H Q => ∃ p ys, xs = [.ref p] ∧ (SqL K H p ys ∨ SqT K H p ys) ∧ Q (.int ys.length) H) (tCons (tVar 1) tNil)) tNil)))) D σ H := by
  refine ⟨v, h1, .ref b, h0, v, h1, ?_⟩
  have hle : lenD d = (itemsD d).length := by cases d <;> first | rfl | cases hs
  have go : ∀ (p : Addr) (xs : List V), v = .ref p → (∀ H', ExM (satW b cc).M H H' → (LsS K (satW b cc).M H' p xs ∨ TuS K (satW b cc).M H' p xs) ∧ DaL K (satW b cc) H' xs (itemsD d)) →
      ∃ (p : Addr) (ys : List V), [v] = [V.ref p] ∧ (SqL K H p ys ∨ SqT K H p ys) ∧ spDraw ([.ref b, .int ys.length] ++ []) H (fun y H2 => rIx K v y H2 D.rt) E := by
    intro p xs hv hk
    obtain ⟨k1, k2⟩ := hk H ExM.refl
    have hlen := dal_len (W := satW b cc) k2
    refine ⟨p, xs, by rw [hv], ?_, b, cc, n, _, rfl, hS, hn, by omega, by omega, fun i H' i0 i1 eM hS' => ?_⟩
    · rcases k1 with k1 | k1
      · exact .inl k1.sq
      · exact .inr k1.sq
    · obtain ⟨m1, m2⟩ := hk H' eM
      obtain ⟨j, hj⟩ : ∃ j : Nat, i = j := ⟨i.toNat, by omega⟩
      subst hj
      have hjl : j < xs.length := by omega
      obtain ⟨e, he, hx⟩ := dal_get (W := satW b cc) m2 (List.getElem?_eq_getElem hjl)
      have hq := q xs[j] e H' (List.mem_of_getElem? he) eM hS' hx
      rcases m1 with m1 | m1
      · exact .inl ⟨p, xs, j, xs[j], hv, rfl, m1.sq, atI_nat (List.getElem?_eq_getElem hjl), hq⟩
      · exact .inr (.inl ⟨p, xs, j, xs[j], hv, rfl, m1.sq, atI_nat (List.getElem?_eq_getElem hjl), hq⟩)
  cases hd with
  | @lst p xs ds hs' hl' => exact go p xs rfl fun H' e => ⟨.inl (hs'.mono e), DaL.mono (W := satW b cc) hl' e⟩
  | @tup p xs ds hs' hl' => exact go p xs rfl fun H' e => ⟨.inr (hs'.mono e), DaL.mono (W := satW b cc) hl' e⟩
  | _ => cases hs

/-- a drawing def of one parameter, the satchel: its answer is known by a word -/
def spDX (K : PySem.W.Frag) (cost : Nat) (ψ : PyData → Prop) : Sp := fun vs H Q _ => ∃ (b c : Addr) (n : Nat), vs = [.ref b] ∧ Sat b c n H ∧ n + cost ≤ BIG ∧ ∀ v d H', ψ d → ExM (satW b c).M H H' → Sat b c (n + cost) H' → Da K (satW b c) H' v d → Q v H'
theorem jx_callD {E : XK} {i cost : Nat} {b cc : Addr} (hb : σ[i]? = some (some (.ref b))) : JX K (satW b cc) (tCall (spDX K cost ψ) [] E (tCons (tVar i) tNil)) σ H cost ψ := fun n H1 e hI hn Q q =>
  ⟨.ref b, hb, b, cc, n, rfl, hI, hn, fun v d H' p eM hS hv => q v H' eM hS ⟨d, p, hv⟩⟩
abbrev JAX (K : PySem.W.Frag) (W : Wd) (ta : TA) (σ : St) (H : Hp) (c : Nat) (θ : List PyData → Prop) : Prop := JA W ta σ H c fun vs H2 => ∃ ds, θ ds ∧ DaL K W H2 vs ds
theorem jax_nil : JAX K W tNil σ H 0 (fun ds => ds = []) := fun n H1 _ hI _ Q q => q [] H1 ExM.refl hI ⟨[], rfl, .nil⟩
theorem jax_cons {tr : TA} {θ : List PyData → Prop} (ha : JX K W ta σ H c1 ψ) (hr : JAX K W tr σ H c2 θ) : JAX K W (tCons ta tr) σ H (c1 + c2) (fun ds => ∃ d r, ds = d :: r ∧ ψ d ∧ θ r) := fun n H1 e hI hn Q q =>
  ha n H1 e hI (by omega) _ fun x H2 e2 hI2 ⟨d, p, hx⟩ => hr (n + c1) H2 (e.trans e2) hI2 (by omega) _ fun xs H3 e3 hI3 ⟨ds, hp, hxs⟩ =>
    q (x :: xs) H3 (e2.trans e3) (by rw [show n + (c1 + c2) = n + c1 + c2 by omega]; exact hI3) ⟨d :: ds, ⟨d, ds, rfl, p, hp⟩, .cons (Da.mono hx e3) hxs⟩
theorem jx_call {rel : List PyData → PyData → Prop} {E : XK} {t : TA} {θ : List PyData → Prop} (h : JAX K W t σ H c θ) (hr : ∀ ds, θ ds → ∃ r, rel ds r ∧ noL r = true ∧ ψ r) : JX K W (tCall (spPure K rel) [] E t) σ H c ψ := fun n H1 e hI hb Q q =>
  h n H1 e hI hb _ fun vs H2 e2 hI2 ⟨ds, hp, hv⟩ => by
    obtain ⟨r, h1, h2, h3⟩ := hr ds hp
    exact ⟨ds, r, by rw [List.append_nil]; exact hv.w0, h1, fun v H' s hd => q v H' (e2.trans (.of s)) (W.st s hI2) ⟨r, h3, da_of (W.st s hI2) h2 hd⟩⟩
theorem st_unl3 {i j k : Nat} (hI : W.I n H) (h : JXl K W te σ H c ψ 3) (hc : n + c ≤ BIG)
    (kk : ∀ x y z d1 d2 d3 H1, ψ d1 → ψ d2 → ψ d3 → Da K W H1 x d1 → Da K W H1 y d2 → Da K W H1 z d3 → ExM W.M H H1 → W.I (n + c) H1 → D.nx (((σ.set i (some x)).set j (some y)).set k (some z)) H1) :
    tAsg te (gUnl K 3 (gCons (gName i) (gCons (gName j) (gCons (gName k) gNil)))) D σ H := h n H ExM.refl hI hc _ fun v H1 e hI1 ⟨ds, hl, hp, hv⟩ => by
  match ds, hl, hp, hv with
  | [d1, d2, d3], _, hp, hv =>
    refine gUnl_of (W := W) hv rfl fun xs hx => ?_
    obtain ⟨x, y, z, rfl, h1, h2, h3⟩ := dal3 (W := W) hx
    exact ⟨x, _, rfl, y, _, rfl, z, _, rfl, rfl, kk x y z d1 d2 d3 H1 (hp _ (by simp)) (hp _ (by simp)) (hp _ (by simp)) h1 h2 h3 e hI1⟩
/-- if bad: return False, where nothing is bad -/
theorem st_ifF {tt : TT} {ts : TS} {b : Bool} (hI : W.I n H) (h : JB K W tt σ H c b) (hb : b = false) (hc : c = 0) (hn : n ≤ BIG) (k : ∀ H1, ExM W.M H H1 → W.I n H1 → D.nx σ H1) : tIfS tt ts tNext D σ H := by
  subst hb hc
  exact st_if hI h hn (fun e => by cases e) (fun _ H1 e hI1 => k H1 e hI1)
theorem st_setW {i : Nat} (hI : W.I n H) (h : JD K W te σ H c d) (hc : c = 0) (hn : n ≤ BIG) (k : ∀ v H1, ExM W.M H H1 → W.I n H1 → Da K W H1 v d → D.nx (σ.set i (some v)) H1) : tAsg te (gName i) D σ H := by
  subst hc
  exact st_set hI h hn k
theorem ji_ofX (h : JX K W te σ H c ψ) (p : ∀ d, ψ d → ∃ i, d = .int i ∧ φ i) : JI W te σ H c φ := h.imp fun v H2 ⟨d, q, hv⟩ => by
  obtain ⟨i, rfl, hi⟩ := p d q
  exact ⟨i, Da.int hv, hi⟩
theorem ji_drawX {B : Int} {E : XK} {i : Nat} {tm : TE} {b cc : Addr} (hb : σ[i]? = some (some (.ref b))) (hm : JI (satW b cc) tm σ H c φ) (h0 : ∀ m, φ m → 0 < m ∧ m < 536870912 ∧ m ≤ B) :
    JI (satW b cc) (tCall spDraw [] E (tCons (tVar i) (tCons tm tNil))) σ H (c + 1) (fun i => 0 ≤ i ∧ i < B) := fun n H1 e hI hn Q q =>
  ⟨.ref b, hb, hm n H1 e hI (by omega) _ fun x H2 e2 hI2 ⟨m, hx, pm⟩ => by
    obtain ⟨h1, h2, h3⟩ := h0 m pm
    refine ⟨b, cc, n + c, m, by rw [hx]; rfl, show Sat b cc (n + c) H2 from hI2, by omega, h1, h2, fun k H' k0 k1 eM hS => q _ H' (e2.trans eM) (show Sat b cc (n + (c + 1)) H' from hS) ⟨k, rfl, k0, by omega⟩⟩⟩
end Jl

set_option Elab.async false
set_option linter.all false
/-! rows of steps, chance's shares, first shares -/
namespace Jl
open PySem L2
/-- how many rows of t steps end at x -/
def wk : Nat → Int → Int
  | 0, x => if x = 0 then 1 else 0
  | t + 1, x => wk t (x - 1) + wk t (x + 1)
theorem wk_nonneg : ∀ (t : Nat) (x : Int), 0 ≤ wk t x
  | 0, x => by unfold wk; split <;> omega
  | t + 1, x => by have h1 := wk_nonneg t (x - 1); have h2 := wk_nonneg t (x + 1); unfold wk; omega
theorem wk_le : ∀ (t : Nat) (x : Int), wk t x ≤ 2 ^ t
  | 0, x => by unfold wk; split <;> simp
  | t + 1, x => by have h1 := wk_le t (x - 1); have h2 := wk_le t (x + 1); unfold wk; rw [Int.pow_succ]; omega
theorem wk_far : ∀ (t : Nat) (x : Int), (t : Int) < x ∨ x < -(t : Int) → wk t x = 0
  | 0, x, h => by unfold wk; rw [if_neg (by omega)]
  | t + 1, x, h => by unfold wk; rw [wk_far t (x - 1) (by omega), wk_far t (x + 1) (by omega)]; rfl
theorem wk_par : ∀ (t : Nat) (x : Int), (x + t) % 2 = 1 → wk t x = 0
  | 0, x, h => by unfold wk; rw [if_neg (by omega)]
  | t + 1, x, h => by unfold wk; rw [wk_par t (x - 1) (by omega), wk_par t (x + 1) (by omega)]; rfl
theorem wk_neg : ∀ (t : Nat) (x : Int), wk t (-x) = wk t x
  | 0, x => by unfold wk; by_cases h : x = 0 <;> simp [h]
  | t + 1, x => by
    unfold wk
    rw [show -x - 1 = -(x + 1) by omega, show -x + 1 = -(x - 1) by omega, wk_neg t (x + 1), wk_neg t (x - 1), Int.add_comm]
/-- neighbours of one colour -/
theorem wk_ratio : ∀ (t : Nat) (x : Int), (t - x) * wk t x = (t + x + 2) * wk t (x + 2)
  | 0, x => by
    unfold wk
    by_cases h : x = 0
    · subst h; simp
    · by_cases h2 : x + 2 = 0
      · rw [if_neg h, if_pos h2]; have : x = -2 := by omega
        subst this; decide
      · rw [if_neg h, if_neg h2]; simp
  | t + 1, x => by
    have h1 := wk_ratio t (x - 1)
    have h2 := wk_ratio t (x + 1)
    rw [show x - 1 + 2 = x + 1 by omega] at h1
    rw [show x + 1 + 2 = x + 3 by omega] at h2
    unfold wk
    rw [show x + 2 - 1 = x + 1 by omega, show x + 2 + 1 = x + 3 by omega]
    have e : ((t + 1 : Nat) : Int) = (t : Int) + 1 := by omega
    rw [e]
    grind
/-- how many of them come to d at the last step, and not before -/
def fp : Nat → Nat → Int
  | 0, 0 => 1
  | 0, _ + 1 => 0
  | _ + 1, 0 => 0
  | t + 1, d + 1 => fp t d + fp t (d + 2)
theorem fp_nonneg : ∀ (t d : Nat), 0 ≤ fp t d
  | 0, 0 => by decide
  | 0, _ + 1 => by simp [fp]
  | _ + 1, 0 => by simp [fp]
  | t + 1, d + 1 => by have h1 := fp_nonneg t d; have h2 := fp_nonneg t (d + 2); simp only [fp]; omega
theorem fp_le : ∀ (t d : Nat), fp t d ≤ 2 ^ t
  | 0, 0 => by decide
  | 0, _ + 1 => by simp [fp]
  | t + 1, 0 => by simp only [fp]; exact Int.le_of_lt (Int.pow_pos (by decide))
  | t + 1, d + 1 => by have h1 := fp_le t d; have h2 := fp_le t (d + 2); simp only [fp]; rw [Int.pow_succ]; omega
theorem fp_far : ∀ (t d : Nat), t < d → fp t d = 0
  | 0, 0, h => by omega
  | 0, _ + 1, _ => by simp [fp]
  | _ + 1, 0, h => by omega
  | t + 1, d + 1, h => by simp only [fp]; rw [fp_far t d (by omega), fp_far t (d + 2) (by omega)]; rfl
theorem fp_self : ∀ (n : Nat), fp n n = 1
  | 0 => rfl
  | n + 1 => by simp only [fp]; rw [fp_self n, fp_far n (n + 2) (by omega)]; rfl
/-- the ballot's rule -/
theorem fp_wk : ∀ (t d : Nat), (t : Int) * fp t d = d * wk t d
  | 0, 0 => by simp [fp, wk]
  | 0, d + 1 => by
    simp only [fp, wk]
    rw [if_neg (by omega)]; simp
  | t + 1, 0 => by simp [fp]
  | t + 1, d + 1 => by
    have h1 := fp_wk t d
    have h2 := fp_wk t (d + 2)
    have h3 := wk_ratio t d
    simp only [fp, wk]
    have e1 : ((d + 1 : Nat) : Int) - 1 = d := by omega
    have e2 : ((d + 1 : Nat) : Int) + 1 = (d : Int) + 2 := by omega
    rw [e1, e2]
    have e3 : ((d + 2 : Nat) : Int) = (d : Int) + 2 := by omega
    rw [e3] at h2
    have e4 : ((t + 1 : Nat) : Int) = (t : Int) + 1 := by omega
    have e5 : ((d + 1 : Nat) : Int) = (d : Int) + 1 := by omega
    rw [e4, e5]
    rcases Nat.eq_zero_or_pos t with h0 | h0
    · subst h0
      cases d with
      | zero => simp [fp, wk]
      | succ d => 
        simp only [fp, wk]
        rw [if_neg (by omega), if_neg (by omega)]; simp
    · have hz : (t : Int) ≠ 0 := by omega
      refine Int.eq_of_mul_eq_mul_left hz ?_
      grind
/-- to be there: to come there first, and to be there again -/
def conv (t d : Nat) : Nat → Int
  | 0 => 0
  | n + 1 => conv t d n + fp n d * wk (t - n) 0
theorem conv_zero (t : Nat) : ∀ n, conv t 0 (n + 1) = wk t 0
  | 0 => by simp [conv, fp]
  | n + 1 => by
    have ih := conv_zero t n
    show conv t 0 (n + 1) + fp (n + 1) 0 * wk (t - (n + 1)) 0 = _
    rw [ih]; simp [fp]
theorem conv_step (t d : Nat) : ∀ n, n ≤ t + 1 → conv (t + 1) (d + 1) (n + 1) = conv t d n + conv t (d + 2) n
  | 0, _ => by simp [conv, fp]
  | n + 1, h => by
    have ih := conv_step t d n (by omega)
    show conv (t + 1) (d + 1) (n + 1) + fp (n + 1) (d + 1) * wk (t + 1 - (n + 1)) 0 = (conv t d n + fp n d * wk (t - n) 0) + (conv t (d + 2) n + fp n (d + 2) * wk (t - n) 0)
    rw [ih, show t + 1 - (n + 1) = t - n by omega]
    simp only [fp]
    grind
theorem conv_eq : ∀ (t d : Nat), conv t d (t + 1) = wk t d
  | t, 0 => conv_zero t t
  | 0, d + 1 => by
    simp only [conv, fp, wk]
    rw [if_neg (by omega)]; simp
  | t + 1, d + 1 => by
    rw [conv_step t d (t + 1) (by omega), conv_eq t d, conv_eq t (d + 2)]
    simp only [wk]
    rw [show ((d + 1 : Nat) : Int) - 1 = (d : Int) by omega, show ((d + 1 : Nat) : Int) + 1 = ((d + 2 : Nat) : Int) by omega]

/-! choices -/
def ch : Nat → Nat → Int
  | _, 0 => 1
  | 0, _ + 1 => 0
  | n + 1, k + 1 => ch n k + ch n (k + 1)
theorem ch_nonneg : ∀ (n k : Nat), 0 ≤ ch n k
  | 0, 0 => by simp [ch]
  | _ + 1, 0 => by simp [ch]
  | 0, _ + 1 => by simp [ch]
  | n + 1, k + 1 => by have h1 := ch_nonneg n k; have h2 := ch_nonneg n (k + 1); simp only [ch]; omega
theorem ch_le : ∀ (n k : Nat), ch n k ≤ 2 ^ n
  | 0, 0 => by simp [ch]
  | n + 1, 0 => by
    simp only [ch]
    have : (0 : Int) < 2 ^ (n + 1) := Int.pow_pos (by decide)
    omega
  | 0, _ + 1 => by simp [ch]
  | n + 1, k + 1 => by have h1 := ch_le n k; have h2 := ch_le n (k + 1); simp only [ch]; rw [Int.pow_succ]; omega
theorem ch_zero (n : Nat) : ch n 0 = 1 := by cases n <;> rfl
theorem ch_step : ∀ (n k : Nat), ch n (k + 1) * (k + 1) = ch n k * (n - k)
  | 0, 0 => by simp [ch]
  | 0, k + 1 => by simp [ch]
  | n + 1, 0 => by
    have ih := ch_step n 0
    rw [ch_zero] at ih
    simp only [ch]
    have e : ((n + 1 : Nat) : Int) = (n : Int) + 1 := by omega
    rw [e]
    simp at ih ⊢
    omega
  | n + 1, k + 1 => by
    have h1 := ch_step n k
    have h2 := ch_step n (k + 1)
    simp only [ch]
    have e : ((n + 1 : Nat) : Int) = (n : Int) + 1 := by omega
    have e2 : ((k + 1 : Nat) : Int) = (k : Int) + 1 := by omega
    rw [e2] at h2
    rw [e, e2]
    grind
theorem ch_div (n k : Nat) : ch n k * (n - k) / (k + 1) = ch n (k + 1) := by
  rw [← ch_step]
  exact Int.mul_ediv_cancel _ (by omega)
theorem wk_ch : ∀ (t j : Nat), wk t (2 * j - t) = ch t j
  | 0, 0 => by simp [wk, ch]
  | 0, j + 1 => by simp only [wk, ch]; rw [if_neg (by omega)]
  | t + 1, 0 => by
    simp only [wk]
    rw [wk_far t _ (by omega), show (2 * ((0 : Nat) : Int) - ((t + 1 : Nat) : Int) + 1) = 2 * ((0 : Nat) : Int) - t by omega, wk_ch t 0, ch_zero, ch_zero]; rfl
  | t + 1, j + 1 => by
    simp only [wk, ch]
    rw [show (2 * ((j + 1 : Nat) : Int) - ((t + 1 : Nat) : Int) - 1) = 2 * (j : Int) - t by omega, show (2 * ((j + 1 : Nat) : Int) - ((t + 1 : Nat) : Int) + 1) = 2 * ((j + 1 : Nat) : Int) - t by omega, wk_ch t j, wk_ch t (j + 1)]
/-- rows_to by choices -/
theorem wk_rows (t : Nat) (x : Int) (h1 : ¬ ((t : Int) < (if x < 0 then -x else x))) (h2 : ¬ (x + t) % 2 = 1) : ch t (((t - (if x < 0 then -x else x)) / 2).toNat) = wk t x := by
  have key : ∀ y : Int, 0 ≤ y → y ≤ t → (y + t) % 2 = 0 → ch t ((((t : Int) - y) / 2).toNat) = wk t y := fun y a b c => by
    rw [← wk_ch, ← wk_neg t y]
    congr 1
    omega
  by_cases hx : x < 0
  · rw [if_pos hx] at h1 ⊢
    rw [key (-x) (by omega) (by omega) (by omega), wk_neg]
  · rw [if_neg hx] at h1 ⊢
    exact key x (by omega) (by omega) (by omega)

/-! shares as fractions -/
def PP (t : Nat) (x : Int) : Rat := Rat.divInt (wk t x) (2 ^ t)
def FF (t d : Nat) : Rat := Rat.divInt (fp t d) (2 ^ t)
theorem pow2_ne (t : Nat) : (2 : Int) ^ t ≠ 0 := by
  have : (0 : Int) < 2 ^ t := Int.pow_pos (by decide)
  omega
theorem pow2_abs (t : Nat) : ((2 : Int) ^ t).natAbs = 2 ^ t := by rw [Int.natAbs_pow]; rfl
theorem pow2_lt {t : Nat} (h : t ≤ 400) : ((2 : Int) ^ t).natAbs < 2 ^ 8999 := by
  rw [pow2_abs]; exact Nat.pow_lt_pow_right (by decide) (by omega)
theorem pow2_mul_lt {t : Nat} (h : t ≤ 400) : ((t : Int) * 2 ^ t).natAbs < 2 ^ 8999 := by
  rw [Int.natAbs_mul, pow2_abs]
  have h1 : (t : Int).natAbs < 2 ^ 400 := by
    rw [Int.natAbs_natCast]; exact Nat.lt_of_le_of_lt h (by decide)
  exact Nat.lt_of_lt_of_le (Nat.mul_lt_mul'' h1 (Nat.pow_lt_pow_right (by decide) (show t < 401 by omega))) (by rw [← Nat.pow_add]; exact Nat.pow_le_pow_right (by decide) (by decide))
theorem FF_far {t d : Nat} (h : t < d) : FF t d = 0 := by unfold FF; rw [fp_far t d h, Rat.zero_divInt]
theorem FF_eq {t d : Nat} (h : t ≠ 0) : Rat.divInt (d * wk t d) (t * 2 ^ t) = FF t d := by
  unfold FF
  rw [← fp_wk, Rat.divInt_mul_left (by omega)]
theorem pw_le {z : Int} {t : Nat} (h0 : 0 ≤ z) (h : z ≤ 2 ^ t) : Bd (Rat.divInt z (2 ^ t)) (t + 1) := by
  have hb := num_le z (2 ^ t) (Int.pow_pos (by decide))
  have h2 : z.natAbs ≤ 2 ^ t := by
    have h3 := pow2_abs t
    omega
  have hp : 2 ^ t < 2 ^ (t + 1) := by rw [Nat.pow_succ]; have : 0 < 2 ^ t := Nat.pow_pos (by decide); omega
  exact ⟨by omega, by have := pow2_abs t; omega⟩
theorem bd_PP (t : Nat) (x : Int) : Bd (PP t x) (t + 1) := pw_le (wk_nonneg t x) (wk_le t x)
theorem bd_FF (t d : Nat) : Bd (FF t d) (t + 1) := pw_le (fp_nonneg t d) (fp_le t d)

/-! rising, then falling: what greatest_in finds -/
def ts (x m : Nat) : List Nat := (List.range (((m : Int) + 2 - x) / 2).toNat).map fun k => x + 2 * k
def fs (x m : Nat) : List Rat := (ts x m).map fun t => FF t x
def gr : Rat → List Rat → Rat
  | f, [] => f
  | f, y :: ys => if y < f then f else gr y ys
def rows (m : Nat) : List Rat := (List.range m).map fun k => gr 0 (fs (k + 1) m)
theorem ts_le {x m t : Nat} (h : t ∈ ts x m) : x ≤ t ∧ t ≤ m := by
  unfold ts at h
  obtain ⟨k, hk, rfl⟩ := List.mem_map.mp h
  rw [List.mem_range] at hk
  omega
theorem gr_mem : ∀ (f : Rat) (l : List Rat), gr f l = f ∨ gr f l ∈ l
  | f, [] => .inl rfl
  | f, y :: ys => by
    unfold gr
    split
    · exact .inl rfl
    · rcases gr_mem y ys with h | h
      · right; rw [h]; exact List.mem_cons_self ..
      · right; exact List.mem_cons_of_mem _ h
theorem gr_ge : ∀ (f : Rat) (l : List Rat), f ≤ gr f l
  | f, [] => Rat.le_refl
  | f, y :: ys => by
    unfold gr
    split
    · exact Rat.le_refl
    · rename_i h
      exact Rat.le_trans (Rat.not_lt.mp h) (gr_ge y ys)
theorem gr_more : ∀ (f : Rat) (l r : List Rat), gr f l ≤ gr f (l ++ r)
  | f, [], r => gr_ge f r
  | f, y :: ys, r => by
    show (if y < f then f else gr y ys) ≤ (if y < f then f else gr y (ys ++ r))
    split
    · exact Rat.le_refl
    · exact gr_more y ys r
theorem bd_gr {x m : Nat} : Bd (gr 0 (fs x m)) (m + 1) := by
  rcases gr_mem 0 (fs x m) with h | h
  · rw [h]; exact bd_0.mono (by omega)
  · obtain ⟨t, ht, e⟩ := List.mem_map.mp h
    rw [← e]
    exact (bd_FF t x).mono (by have := ts_le ht; omega)
theorem ts_more (x m : Nat) : ∃ r, ts x (m + 1) = ts x m ++ r := by
  unfold ts
  obtain ⟨k, hk⟩ : ∃ k, ((((m + 1 : Nat) : Int) + 2 - x) / 2).toNat = (((m : Int) + 2 - x) / 2).toNat + k := ⟨((((m + 1 : Nat) : Int) + 2 - x) / 2).toNat - (((m : Int) + 2 - x) / 2).toNat, by omega⟩
  rw [hk, List.range_add, List.map_append]
  exact ⟨_, rfl⟩
theorem rows_more (k m : Nat) : gr 0 (fs k m) ≤ gr 0 (fs k (m + 1)) := by
  obtain ⟨r, e⟩ := ts_more k m
  unfold fs
  rw [e, List.map_append]
  exact gr_more _ _ _
theorem bd_sum {B : Nat} : ∀ (qs : List Rat), (∀ q ∈ qs, Bd q B) → Bd qs.sum (qs.length * (B + 1) + 1)
  | [], _ => bd_0.mono (by omega)
  | q :: qs, h => by
    rw [List.sum_cons]
    exact ((h q (List.mem_cons_self ..)).add (bd_sum qs fun x hx => h x (List.mem_cons_of_mem _ hx))).mono (by rw [List.length_cons, Nat.succ_mul]; omega)
theorem rows_bd {m : Nat} {q : Rat} (h : q ∈ rows m) : Bd q (m + 1) := by
  obtain ⟨k, _, rfl⟩ := List.mem_map.mp h
  exact bd_gr
theorem rows_len (m : Nat) : (rows m).length = m := by simp [rows]
theorem rows_take {m : Nat} (h : m ≤ 60) (k : Nat) : Bd ((rows m).take k).sum 4000 := by
  refine (bd_sum _ fun q hq => rows_bd (List.mem_of_mem_take hq)).mono ?_
  have h1 : ((rows m).take k).length ≤ m := by rw [List.length_take, rows_len]; omega
  have h2 : ((rows m).take k).length * (m + 1 + 1) ≤ 60 * 62 := Nat.mul_le_mul (by omega) (by omega)
  omega
theorem take_sum {qs : List Rat} {i : Nat} {q : Rat} (h : qs[i]? = some q) : (qs.take (i + 1)).sum = (qs.take i).sum + q := by
  rw [List.take_add_one, h]
  simp [List.sum_append, Rat.add_zero]
theorem rgc2 {a b : Int} (h0 : 0 ≤ a) (h1 : a ≤ 1000) (h2 : 0 ≤ b) (h3 : b ≤ 1000) : RgC a b 2 ((b + 1 - a) / 2).toNat := by
  have e : Builtin.Range.rangeSize a b 2 = (((b + 1 - a) / 2).toNat : Int) := by
    unfold Builtin.Range.rangeSize
    rw [if_pos (by decide)]
    split <;> omega
  refine ⟨by decide, by decide, ?_, e⟩
  unfold Builtin.Range.small
  rw [e]
  simp only [Builtin.Range.rangeFitsLong, Bool.and_eq_true, Bool.or_eq_true, decide_eq_true_eq, beq_iff_eq, show (2 : Int) > 0 by decide, if_true]
  omega
/-- the rows of shares_to -/
def shD (x m : Nat) : List PyData := (ts x m).map fun (t : Nat) => PyData.tuple [.int (t : Int), frD (FF t x)]
def fstD (d : PyData) : PyData := match itemsD d with
  | [a, _] => a
  | _ => .none
def sndD (d : PyData) : PyData := match itemsD d with
  | [_, b] => b
  | _ => .none
def natD (d : PyData) : Nat := match d with
  | .int i => i.toNat
  | _ => 0
def btk (x m : Nat) : List Nat := (ts x m).filter fun t => decide (FF t x = gr 0 (fs x m))

/-! k24 -/
def half : Rat := ⟨1, 2, by decide, by decide⟩
theorem isFr_12 : isFr (.tuple [.int 1, .int 2]) half := ⟨rfl, rfl⟩
theorem bd_half : Bd half 2 := ⟨by decide, by decide⟩
theorem half_eq : half = Rat.divInt 1 2 := by decide
theorem half_FF (u y : Nat) : half * (FF u (y + 2) + FF u y) = FF (u + 1) (y + 1) := by
  unfold FF
  have h2 := pow2_ne u
  rw [Rat.divInt_add_divInt _ _ h2 h2, half_eq, Rat.divInt_mul_divInt]
  rw [show (1 : Int) * (fp u (y + 2) * 2 ^ u + fp u y * 2 ^ u) = 2 ^ u * fp (u + 1) (y + 1) by simp only [fp]; grind, show (2 : Int) * (2 ^ u * 2 ^ u) = 2 ^ u * 2 ^ (u + 1) by rw [Int.pow_succ]; grind]
  rw [Rat.divInt_mul_left h2]
theorem FF_00 (u : Nat) : FF u 0 = if u = 0 then 1 else 0 := by
  cases u with
  | zero => rfl
  | succ u => rw [if_neg (by omega)]; unfold FF; simp [fp]
def CC (t d n : Nat) : Rat := Rat.divInt (conv t d n) (2 ^ t)
theorem conv_low (t d : Nat) : ∀ n, n ≤ d → conv t d n = 0
  | 0, _ => rfl
  | n + 1, h => by
    show conv t d n + fp n d * wk (t - n) 0 = 0
    rw [conv_low t d n (by omega), fp_far n d (by omega)]; simp
theorem conv_nonneg (t d : Nat) : ∀ n, 0 ≤ conv t d n
  | 0 => by simp [conv]
  | n + 1 => by
    have h1 := conv_nonneg t d n
    have h2 := Int.mul_nonneg (fp_nonneg n d) (wk_nonneg (t - n) 0)
    show 0 ≤ conv t d n + fp n d * wk (t - n) 0
    omega
theorem conv_mono (t d : Nat) {n m : Nat} (h : n ≤ m) : conv t d n ≤ conv t d m := by
  induction h with
  | refl => exact Int.le_refl _
  | step _ ih =>
    rename_i m _
    have h2 := Int.mul_nonneg (fp_nonneg m d) (wk_nonneg (t - m) 0)
    show _ ≤ conv t d m + fp m d * wk (t - m) 0
    omega
theorem bd_CC {t d n : Nat} (h : n ≤ t + 1) : Bd (CC t d n) (t + 1) := by
  refine pw_le (conv_nonneg t d n) ?_
  have h1 := conv_mono t d h
  rw [conv_eq] at h1
  exact Int.le_trans h1 (wk_le t d)
theorem CC_step {t d n : Nat} (h : n ≤ t) : CC t d n + FF n d * PP (t - n) 0 = CC t d (n + 1) := by
  unfold CC FF PP
  have h2 := pow2_ne t
  have e : (2 : Int) ^ n * 2 ^ (t - n) = 2 ^ t := by rw [← Int.pow_add]; congr 1; omega
  rw [Rat.divInt_mul_divInt, e, Rat.divInt_add_divInt _ _ h2 h2]
  show Rat.divInt (conv t d n * 2 ^ t + fp n d * wk (t - n) 0 * 2 ^ t) (2 ^ t * 2 ^ t) = Rat.divInt (conv t d n + fp n d * wk (t - n) 0) (2 ^ t)
  rw [← Int.add_mul, Rat.divInt_mul_right h2]
theorem CC_end (t d : Nat) : CC t d (d + (t + 1 - d)) = PP t d := by
  unfold CC PP
  by_cases h : d ≤ t + 1
  · rw [show d + (t + 1 - d) = t + 1 by omega, conv_eq]
  · rw [show d + (t + 1 - d) = d by omega, conv_low t d d (Nat.le_refl _), wk_far t d (by omega)]
theorem CC_start (t d : Nat) : CC t d d = 0 := by unfold CC; rw [conv_low t d d (Nat.le_refl _), Rat.zero_divInt]
theorem FF_self (n : Nat) : frD (FF n n) = .tuple [.int 1, .int (2 ^ n)] := by
  unfold frD frL FF
  have h0 : (0 : Int) < 2 ^ n := Int.pow_pos (by decide)
  rw [fp_self, Rat.num_divInt, Rat.den_divInt, if_neg (pow2_ne n), Int.sign_eq_one_of_pos h0]
  have g : Int.gcd ((2 : Int) ^ n) 1 = 1 := Int.gcd_one_right ..
  rw [g, pow2_abs]
  simp
theorem rows_succ (k : Nat) : ∃ ini, (rows (k + 1)) = ini ++ [FF (k + 1) (k + 1)] := by
  unfold rows
  rw [List.range_succ, List.map_append]
  refine ⟨(List.range k).map fun j => gr 0 (fs (j + 1) (k + 1)), ?_⟩
  congr 1
  show [gr 0 (fs (k + 1) (k + 1))] = _
  have e : fs (k + 1) (k + 1) = [FF (k + 1) (k + 1)] := by
    unfold fs ts
    rw [show ((((k + 1 : Nat) : Int) + 2 - ((k + 1 : Nat) : Int)) / 2).toNat = 1 by omega]; rfl
  rw [e]
  unfold gr
  have h : ¬ FF (k + 1) (k + 1) < 0 := by
    rw [Rat.not_lt]
    unfold FF
    rw [fp_self]
    exact Rat.divInt_nonneg (by decide) (Int.le_of_lt (Int.pow_pos (by decide)))
  rw [if_neg h]; rfl
/-- how the rows grow -/
def grow (k : Nat) : List Rat := List.zipWith (fun a b => 2 * (b - a)) (rows k ++ [0]) (rows (k + 1))
theorem zip_sum : ∀ (xs ys : List Rat), xs.length = ys.length → (List.zipWith (fun a b => 2 * (b - a)) xs ys).sum = 2 * ys.sum - 2 * xs.sum
  | [], [], _ => by simp [Rat.mul_zero, Rat.sub_self]
  | x :: xs, y :: ys, h => by
    have ih := zip_sum xs ys (by simpa using h)
    simp only [List.zipWith_cons_cons, List.sum_cons]
    rw [ih]
    grind
  | [], _ :: _, h => by simp at h
  | _ :: _, [], h => by simp at h
theorem grow_sum (k : Nat) : (grow k).sum = 2 * (rows (k + 1)).sum - 2 * (rows k).sum := by
  unfold grow
  rw [zip_sum _ _ (by simp [rows_len])]
  have : (rows k ++ [0]).sum = (rows k).sum := by simp [List.sum_append, Rat.add_zero]
  rw [this]
theorem sum_nonneg : ∀ (l : List Rat), (∀ x ∈ l, 0 ≤ x) → 0 ≤ l.sum
  | [], _ => Rat.le_refl
  | x :: l, h => by
    rw [List.sum_cons]
    exact Rat.add_nonneg (h x (List.mem_cons_self ..)) (sum_nonneg l fun y hy => h y (List.mem_cons_of_mem _ hy))
theorem rows_at {m i : Nat} (h : i < m) : (rows m)[i]? = some (gr 0 (fs (i + 1) m)) := by
  unfold rows; simp [h]
theorem grow_nonneg (k : Nat) : 0 ≤ (grow k).sum := by
  refine sum_nonneg _ fun x hx => ?_
  unfold grow at hx
  obtain ⟨i, hi⟩ := List.getElem?_of_mem hx
  rw [List.getElem?_zipWith] at hi
  have step : ∀ a b : Rat, a ≤ b → 0 ≤ 2 * (b - a) := fun a b h => Rat.mul_nonneg (by decide) ((Rat.le_iff_sub_nonneg a b).mp h)
  by_cases h1 : i < k
  · have e1 : (rows k ++ [0])[i]? = some (gr 0 (fs (i + 1) k)) := by
      rw [List.getElem?_append_left (by rw [rows_len]; exact h1)]; exact rows_at h1
    rw [e1, rows_at (show i < k + 1 by omega)] at hi
    have e := Option.some.inj hi
    rw [← e]
    exact step _ _ (rows_more (i + 1) k)
  · by_cases h2 : i = k
    · subst h2
      have e1 : (rows i ++ [0])[i]? = some 0 := by
        rw [List.getElem?_append_right (by rw [rows_len]; exact Nat.le_refl _), rows_len]; simp
      rw [e1, rows_at (show i < i + 1 by omega)] at hi
      have e := Option.some.inj hi
      rw [← e]
      exact step _ _ (gr_ge 0 _)
    · have e2 : (rows (k + 1))[i]? = none := List.getElem?_eq_none (by rw [rows_len]; omega)
      rw [e2] at hi
      cases h3 : (rows k ++ [0])[i]? <;> rw [h3] at hi <;> cases hi
theorem grow_bd {k : Nat} {x : Rat} (hx : x ∈ grow k) : Bd x (2 * k + 8) := by
  unfold grow at hx
  obtain ⟨i, hi⟩ := List.getElem?_of_mem hx
  rw [List.getElem?_zipWith] at hi
  cases h1 : (rows k ++ [0])[i]? with
  | none => rw [h1] at hi; cases hi
  | some a =>
    cases h2 : (rows (k + 1))[i]? with
    | none => rw [h1, h2] at hi; cases hi
    | some b =>
      rw [h1, h2] at hi
      have e := Option.some.inj hi
      rw [← e]
      have ha : Bd a (k + 1) := by
        rcases List.mem_append.mp (List.mem_of_getElem? h1) with h | h
        · exact rows_bd h
        · rw [List.mem_singleton.mp h]; exact bd_0.mono (by omega)
      exact (bd_2.mul ((rows_bd (List.mem_of_getElem? h2)).sub ha)).mono (by omega)
theorem grow_len (k : Nat) : (grow k).length = k + 1 := by simp [grow, rows_len]
theorem grow_take {k : Nat} (h : k ≤ 20) (i : Nat) : Bd ((grow k).take i).sum 4000 := by
  refine (bd_sum _ fun q hq => grow_bd (List.mem_of_mem_take hq)).mono ?_
  have h1 : ((grow k).take i).length ≤ k + 1 := by rw [List.length_take, grow_len]; omega
  have h2 : ((grow k).take i).length * (2 * k + 8 + 1) ≤ 21 * 49 := Nat.mul_le_mul (by omega) (by omega)
  omega
def ratD (d : PyData) : Rat := match itemsD d with
  | [.int a, .int b] => Rat.divInt a b
  | _ => 0
theorem ratD_fr (q : Rat) : ratD (frD q) = q := Rat.num_divInt_den q
def growD (d : PyData) : PyData := frD (2 * (ratD (sndD d) - ratD (fstD d)))
def zipWithD (ds es : List PyData) : List PyData := (List.zipWith (fun a b => PyData.tuple [a, b]) ds es).map growD
theorem zipD_frs (xs ys : List Rat) : zipWithD (xs.map frD) (ys.map frD) = (List.zipWith (fun a b => 2 * (b - a)) xs ys).map frD := by
  unfold zipWithD
  induction xs generalizing ys with
  | nil => rfl
  | cons x xs ih =>
    cases ys with
    | nil => rfl
    | cons y ys =>
      simp only [List.map_cons, List.zipWith_cons_cons]
      rw [ih ys]
      congr 1
      show frD (2 * (ratD (frD y) - ratD (frD x))) = _
      rw [ratD_fr, ratD_fr]
end Jl

set_option Elab.async false
set_option linter.all false
set_option maxRecDepth 100000
set_option maxHeartbeats 2000000
/-! what is walked, told by the data that it yields; loops and comprehensions over any such -/
namespace Jl
open PySem PySem.Spec L2
variable {K : PySem.W.Frag} {W : Wd} {σ : St} {H H1 H2 : Hp} {v : V} {d : PyData} {n c c1 c2 : Nat} {te ta tb tl : TE} {D : Ends} {wi : TI} {ds : List PyData} {b1 b2 : Bool}
/-- from H on the iterator J yields ds, one behind another, and stops -/
structure Gives (K : PySem.W.Frag) (W : Wd) (J : It) (H : Hp) (ds : List PyData) : Prop where
  go : ∀ i H', ExM W.M H H' → i < ds.length → J.go i H'
  stop : ∀ H', ExM W.M H H' → J.stop ds.length H'
  yld : ∀ i H' x H'', ExM W.M H H' → (∀ p, W.M p → H' p ≠ none) → i < ds.length → J.yld i H' x H'' → Same H' H'' ∧ ∃ d, ds[i]? = some d ∧ Da K W H'' x d
/-- who yields may ask that nothing that is watched changes: what it makes is new -/
def JIt (K : PySem.W.Frag) (W : Wd) (wi : TI) (σ : St) (H : Hp) (c : Nat) (ds : List PyData) : Prop :=
  ∀ n H1, ExM W.M H H1 → W.I n H1 → n + c ≤ BIG → ∀ R : It → Hp → Prop, (∀ J H2, ExM W.M H1 H2 → W.I (n + c) H2 → Gives K W J H2 ds → R J H2) → wi σ H1 R
theorem SqL.inj {a : Addr} {xs ys : List V} (h1 : SqL K H a xs) (h2 : H a = some (.lst ys)) : True := trivial
theorem JIt.eq {es : List PyData} (h : JIt K W wi σ H c ds) (e : ds = es) : JIt K W wi σ H c es := e ▸ h
theorem JIt.mono (h : JIt K W wi σ H c ds) (e : ExM W.M H H1) : JIt K W wi σ H1 c ds := fun n H2 e2 => h n H2 (e.trans e2)
theorem gives_l {a : Addr} {xs : List V} (hs : LsS K W.M H a xs) (hd : DaL K W H xs ds) : Gives K W (Itl K a) H ds where
  go := fun i H' e hi => by
    have hl := dal_len hd
    have h2 : i < xs.length := by omega
    exact ⟨xs, xs[i], (hs.mono e).sq, List.getElem?_eq_getElem h2⟩
  stop := fun H' e => ⟨xs, (hs.mono e).sq, by have := dal_len hd; omega⟩
  yld := fun i H' x H'' e _ _ ⟨hh, hx⟩ => by
    subst hh
    obtain ⟨d, h1, h2⟩ := dal_get (W := W) hd (hx xs (hs.mono e).sq)
    exact ⟨Same.refl _, d, h1, h2.mono e⟩
theorem gives_t {a : Addr} {xs : List V} (hs : TuS K W.M H a xs) (hd : DaL K W H xs ds) : Gives K W (Itt K a) H ds where
  go := fun i H' e hi => by
    have hl := dal_len hd
    have h2 : i < xs.length := by omega
    exact ⟨xs, xs[i], (hs.mono e).sq, List.getElem?_eq_getElem h2⟩
  stop := fun H' e => ⟨xs, (hs.mono e).sq, by have := dal_len hd; omega⟩
  yld := fun i H' x H'' e _ _ ⟨hh, hx⟩ => by
    subst hh
    obtain ⟨d, h1, h2⟩ := dal_get (W := W) hd (hx xs (hs.mono e).sq)
    exact ⟨Same.refl _, d, h1, h2.mono e⟩
theorem ji_seq {d0 : PyData} (ha : JD K W tl σ H c d0) (hs : isSeq d0 = true) : JIt K W (iSeq K tl) σ H c (itemsD d0) := fun n H1 e hI hn R q => ha n H1 e hI hn _ fun x H2 e2 hI2 hx => by
  cases hx with
  | lst h1 h2 => exact ⟨_, rfl, .inl ⟨⟨_, h1.sq⟩, q _ H2 e2 hI2 (gives_l h1 h2)⟩⟩
  | tup h1 h2 => exact ⟨_, rfl, .inr ⟨⟨_, h1.sq⟩, q _ H2 e2 hI2 (gives_t h1 h2)⟩⟩
  | _ => cases hs
/-- lo, lo + s, .. : m of them -/
def stepsD (lo s : Int) (m : Nat) : List PyData := (List.range m).map fun (k : Nat) => PyData.int (lo + (k : Int) * s)
theorem gives_r {lo : Int} {m : Nat} : Gives K W (Itr lo m) H (stepsD lo 1 m) where
  go := fun i H' e hi => by have : i < m := by simpa [stepsD] using hi
                            exact this
  stop := fun H' e => by
    have : m ≤ (stepsD lo 1 m).length := by simp [stepsD]
    exact this
  yld := fun i H' x H'' e _ hi ⟨hh, hx⟩ => by
    subst hh
    have h2 : i < m := by simpa [stepsD] using hi
    refine ⟨Same.refl _, .int (lo + i), ?_, by rw [hx]; exact DaM.int _⟩
    simp [stepsD, h2]
theorem gives_rc {lo s : Int} {m : Nat} : Gives K W (Itc lo s m) H (stepsD lo s m) where
  go := fun i H' e hi => by have : i < m := by simpa [stepsD] using hi
                            exact this
  stop := fun H' e => by
    have : m ≤ (stepsD lo s m).length := by simp [stepsD]
    exact this
  yld := fun i H' x H'' e _ hi ⟨hh, hx⟩ => by
    subst hh
    have h2 : i < m := by simpa [stepsD] using hi
    refine ⟨Same.refl _, .int (lo + i * s), ?_, by rw [hx]; exact DaM.int _⟩
    simp [stepsD, h2]
theorem ji_r1 {ta : TA} {hi : Int} (h : JDA K W ta σ H c [.int hi]) (hb : -(2 ^ 62) ≤ hi ∧ hi < 2 ^ 62) : JIt K W (iRng1 ta) σ H c (stepsD 0 1 hi.toNat) := fun n H1 e hI hn R q => h n H1 e hI hn _ fun vs H2 e2 hI2 hv => by
  obtain ⟨x, rfl, hx⟩ := dal1 hv
  exact ⟨hi, by rw [hx.int], hb.1, hb.2, q _ H2 e2 hI2 gives_r⟩
theorem ji_r2 {ta : TA} {lo hi : Int} (h : JDA K W ta σ H c [.int lo, .int hi]) (hb : -(2 ^ 62) ≤ lo ∧ lo < 2 ^ 62 ∧ -(2 ^ 62) ≤ hi ∧ hi < 2 ^ 62) : JIt K W (iRng2 ta) σ H c (stepsD lo 1 (hi - lo).toNat) := fun n H1 e hI hn R q => h n H1 e hI hn _ fun vs H2 e2 hI2 hv => by
  obtain ⟨x, y, rfl, hx, hy⟩ := dal2 hv
  exact ⟨lo, hi, by rw [hx.int, hy.int], hb, q _ H2 e2 hI2 gives_r⟩
theorem ji_r3 {ta : TA} {lo hi s : Int} {m : Nat} (h : JDA K W ta σ H c [.int lo, .int hi, .int s]) (hb : RgC lo hi s m) : JIt K W (iRng3 ta) σ H c (stepsD lo s m) := fun n H1 e hI hn R q => h n H1 e hI hn _ fun vs H2 e2 hI2 hv => by
  obtain ⟨x, y, z, rfl, hx, hy, hz⟩ := dal3 hv
  exact ⟨lo, hi, s, m, by rw [hx.int, hy.int, hz.int], hb, q _ H2 e2 hI2 gives_rc⟩
/-- pairs of two lists, of two tuples -/
def zipD (ds es : List PyData) : List PyData := List.zipWith (fun a b => .tuple [a, b]) ds es
theorem gives_zt {a b : Addr} {xs ys : List V} {es : List PyData} (hs : TuS K W.M H a xs) (hd : DaL K W H xs ds) (hs2 : TuS K W.M H b ys) (hd2 : DaL K W H ys es) : Gives K W (RZ.ItzT K a b) H (zipD ds es) where
  go := fun i H' e hi => by
    have h1 := dal_len hd; have h2 := dal_len hd2
    have h3 : i < ds.length ∧ i < es.length := by simp [zipD, List.length_zipWith] at hi; omega
    have hx : i < xs.length := by omega
    have hy : i < ys.length := by omega
    exact ⟨xs, ys, xs[i], ys[i], (hs.mono e).sq, (hs2.mono e).sq, List.getElem?_eq_getElem hx, List.getElem?_eq_getElem hy⟩
  stop := fun H' e => ⟨xs, ys, (hs.mono e).sq, (hs2.mono e).sq, by
    have h1 := dal_len hd; have h2 := dal_len hd2
    simp [zipD, List.length_zipWith]; omega⟩
  yld := fun i H' x H'' e hM hi ⟨T, x1, y1, ex, hT, eH, hx, hy⟩ => by
    subst ex eH
    obtain ⟨d, h1, h2⟩ := dal_get (W := W) hd (hx xs (hs.mono e).sq)
    obtain ⟨d2, h3, h4⟩ := dal_get (W := W) hd2 (hy ys (hs2.mono e).sq)
    have s := same_new (o := .tup [x1, y1]) hT
    refine ⟨s, .tuple [d, d2], ?_, da_tup (fun m => hM T m hT) upd_same (.cons ((h2.mono e).mono (.of s)) (.cons ((h4.mono e).mono (.of s)) .nil))⟩
    simp only [zipD, List.getElem?_zipWith, h1, h3]
theorem gives_zl {a b : Addr} {xs ys : List V} {es : List PyData} (hs : LsS K W.M H a xs) (hd : DaL K W H xs ds) (hs2 : LsS K W.M H b ys) (hd2 : DaL K W H ys es) : Gives K W (L2.Itz K a b) H (zipD ds es) where
  go := fun i H' e hi => by
    have h1 := dal_len hd; have h2 := dal_len hd2
    have h3 : i < ds.length ∧ i < es.length := by simp [zipD, List.length_zipWith] at hi; omega
    have hx : i < xs.length := by omega
    have hy : i < ys.length := by omega
    exact ⟨xs, ys, xs[i], ys[i], (hs.mono e).sq, (hs2.mono e).sq, List.getElem?_eq_getElem hx, List.getElem?_eq_getElem hy⟩
  stop := fun H' e => ⟨xs, ys, (hs.mono e).sq, (hs2.mono e).sq, by
    have h1 := dal_len hd; have h2 := dal_len hd2
    simp [zipD, List.length_zipWith]; omega⟩
  yld := fun i H' x H'' e hM hi ⟨T, x1, y1, ex, hT, eH, hx, hy⟩ => by
    subst ex eH
    obtain ⟨d, h1, h2⟩ := dal_get (W := W) hd (hx xs (hs.mono e).sq)
    obtain ⟨d2, h3, h4⟩ := dal_get (W := W) hd2 (hy ys (hs2.mono e).sq)
    have s := same_new (o := .tup [x1, y1]) hT
    refine ⟨s, .tuple [d, d2], ?_, da_tup (fun m => hM T m hT) upd_same (.cons ((h2.mono e).mono (.of s)) (.cons ((h4.mono e).mono (.of s)) .nil))⟩
    simp only [zipD, List.getElem?_zipWith, h1, h3]

theorem ji_zip {t : TA} {d1 d2 : PyData} (h : JDA K W t σ H c [d1, d2]) (hs : (isLst d1 = true ∧ isLst d2 = true) ∨ (isTup d1 = true ∧ isTup d2 = true)) : JIt K W (RZ.iZipA K t) σ H c (zipD (itemsD d1) (itemsD d2)) := fun n H1 e hI hn R q => h n H1 e hI hn _ fun vs H2 e2 hI2 hv => by
  obtain ⟨x, y, rfl, hx, hy⟩ := dal2 hv
  rcases hs with ⟨z1, z2⟩ | ⟨z1, z2⟩
  · cases hx with
    | lst h1 h2 =>
      cases hy with
      | lst h3 h4 => exact ⟨_, _, _, _, rfl, .inl ⟨h1.sq, h3.sq, q _ H2 e2 hI2 (gives_zl h1 h2 h3 h4)⟩⟩
      | _ => cases z2
    | _ => cases z1
  · cases hx with
    | tup h1 h2 =>
      cases hy with
      | tup h3 h4 => exact ⟨_, _, _, _, rfl, .inr ⟨h1.sq, h3.sq, q _ H2 e2 hI2 (gives_zt h1 h2 h3 h4)⟩⟩
      | _ => cases z2
    | _ => cases z1

/-! targets -/
/-- what a target does with an item that is the data d: the slots are as G says -/
def Tgt (K : PySem.W.Frag) (W : Wd) (g : TG) (σ : St) (G : PyData → Hp → St → Prop) : Prop := ∀ d x H (Q : St → Hp → Prop), Da K W H x d → (∀ σ2, G d H σ2 → Q σ2 H) → g x σ H Q
theorem tgt_name {i : Nat} : Tgt K W (gName i) σ (fun d H σ2 => ∃ x, Da K W H x d ∧ σ2 = σ.set i (some x)) := fun d x H Q hx q => q _ ⟨x, hx, rfl⟩
/-! a loop -/
theorem st_forI {g : TG} {tb : TS} {G : St → PyData → Hp → St → Prop} (hI : W.I n H) (h : JIt K W wi σ H c ds) (hc : n + c ≤ BIG) (Pv : Hp → Nat → St → Hp → Prop)
    (hg : ∀ (i : Nat) (d : PyData) H1 σ' H', ds[i]? = some d → Pv H1 i σ' H' → ∀ x H'' (Q : St → Hp → Prop), Same H' H'' → Da K W H'' x d → (∀ σ2, G σ' d H'' σ2 → Q σ2 H'') → g x σ' H'' Q)
    (h0 : ∀ H1, ExM W.M H H1 → W.I (n + c) H1 → Pv H1 0 σ H1) (hP : ∀ H1 i σ' H', Pv H1 i σ' H' → ExM W.M H1 H' ∧ ∃ m, W.I m H')
    (hs : ∀ H1 (i : Nat) (d : PyData) σ' H' H'' σ2, ExM W.M H H1 → ds[i]? = some d → Pv H1 i σ' H' → Same H' H'' → G σ' d H'' σ2 → tb { D with nx := Pv H1 (i + 1), ct := Pv H1 (i + 1), bk := D.nx } σ2 H'')
    (hd : ∀ H1 σ' H', ExM W.M H H1 → Pv H1 ds.length σ' H' → D.nx σ' H') : tFor wi g tb D σ H :=
  h n H ExM.refl hI hc _ fun J H1 e1 hI1 hJ => by
    refine ⟨fun i m σ' H' => m = ds.length - i ∧ i ≤ ds.length ∧ Pv H1 i σ' H', ⟨ds.length, rfl, Nat.zero_le _, h0 H1 e1 hI1⟩, ?_⟩
    rintro i m σ' H' ⟨rfl, hi, hp⟩
    obtain ⟨eP, k, hk⟩ := hP _ _ _ _ hp
    by_cases hlt : i < ds.length
    · refine .inr ⟨hJ.go i H' eP hlt, Pv H1 (i + 1), fun σ2 H2 hn => ⟨ds.length - (i + 1), by omega, rfl, hlt, hn⟩, fun x H'' hy => ?_⟩
      obtain ⟨s, d, hd', hx⟩ := hJ.yld i H' x H'' eP (fun p mp => W.al hk (W.mf mp)) hlt hy
      exact hg i d H1 σ' H' hd' hp x H'' _ s hx fun σ2 hG => hs H1 i d σ' H' H'' σ2 e1 hd' hp s hG
    · have e : i = ds.length := by omega
      subst e
      exact .inl ⟨hJ.stop H' eP, hd H1 σ' H' e1 hp⟩

/-! a comprehension, nothing drawn in it -/
theorem jl_lcI {g : TG} {tt : TT} {vs : List Nat} {G : PyData → Hp → St → Prop} (p : PyData → Bool) (f : PyData → PyData) (h : JIt K W wi σ H c ds) (hl : ds.length < 100000)
    (hg : ∀ d x H1 (Q : St → Hp → Prop), d ∈ ds → ExM W.M H H1 → Da K W H1 x d → (∀ σ2, G d H1 σ2 → Q σ2 H1) → g x (wipe σ vs) H1 Q)
    (hw : ∀ d H1 σ2, G d H1 σ2 → wipe σ2 vs = wipe σ vs)
    (ht : ∀ d H1 σ2, d ∈ ds → ExM W.M H H1 → G d H1 σ2 → JB K W tt σ2 H1 0 (p d)) (he : ∀ d H1 H2 σ2, d ∈ ds → p d = true → ExM W.M H H1 → ExM W.M H1 H2 → G d H1 σ2 → JD K W te σ2 H2 0 (f d)) (hn : ∀ d, d ∈ ds → p d = true → noL (f d) = true) :
    J W (tLc wi g tt te vs) σ H c (fun v H2 => NewL K W H2 v ((ds.filter p).map f)) := fun n H0 e hI hb Q q => h n H0 e hI hb _ fun J H1 e1 hI1 hJ => fun Dl hD => by
  have mD := W.fr hI1 hD
  refine ⟨fun i m H' => m = ds.length - i ∧ i ≤ ds.length ∧ Cw K W H1 (n + c) Dl (((ds.take i).filter p).map f) H', ⟨ds.length, rfl, Nat.zero_le _, hD, .of (same_new hD), W.st (same_new hD) hI1, by simp [noLs], [], upd_same, by simpa using DaML.nil⟩, ?_⟩
  rintro i m H' ⟨rfl, hi, hC⟩
  have eC := hC.2.1
  by_cases hlt : i < ds.length
  · refine .inr ⟨hJ.go i H' eC hlt, fun H2 => Cw K W H1 (n + c) Dl (((ds.take (i + 1)).filter p).map f) H2, fun H2 hn => ⟨ds.length - (i + 1), by omega, rfl, hlt, hn⟩, fun x H'' hy => ?_⟩
    obtain ⟨s, d, hd', hx⟩ := hJ.yld i H' x H'' eC (fun p mp => W.al hC.2.2.1 (W.mf mp)) hlt hy
    have hm : d ∈ ds := List.mem_of_getElem? hd'
    have hC2 : Cw K W H1 (n + c) Dl (((ds.take i).filter p).map f) H'' := cw_on hC mD (.of s) (W.st s hC.2.2.1)
    have eA : ExM W.M H H'' := e.trans (e1.trans hC2.2.1)
    refine hg d x H'' _ hm eA hx fun σ2 hG => ⟨hw d H'' σ2 hG, ht d H'' σ2 hm eA hG (n + c) H'' ExM.refl hC2.2.2.1 (by omega) _ fun b H3 e3 hI3 hb3 => ?_⟩
    have hC3 : Cw K W H1 (n + c) Dl (((ds.take i).filter p).map f) H3 := cw_on hC2 mD e3 hI3
    have tk : ds.take (i + 1) = ds.take i ++ [d] := by rw [List.take_add_one, hd']; rfl
    have lt : (((ds.take i).filter p).map f).length < 100000 := by
      rw [List.length_map]
      have h1 := List.length_filter_le p (ds.take i)
      have h2 : (ds.take i).length ≤ ds.length := by rw [List.length_take]; exact Nat.min_le_right _ _
      omega
    rw [tk, List.filter_append, List.map_append]
    subst hb3
    cases hp : p d with
    | true =>
      show te σ2 H3 _
      refine he d H'' H3 σ2 hm hp eA e3 hG (n + c) H3 ExM.refl hI3 (by omega) _ fun z H4 e4 hI4 hz => ?_
      have := cw_put ⟨_, hI1⟩ (cw_on hC3 mD e4 hI4) hz (hn d hm hp) lt
      rw [show List.filter p [d] = [d] by simp [hp]]
      exact this
    | false =>
      rw [show List.filter p [d] = [] by simp [hp]]
      show Cw K W H1 (n + c) Dl _ H3
      simpa using hC3
  · have ei : i = ds.length := by omega
    subst ei
    rw [List.take_length] at hC
    obtain ⟨p1, p2, p3, p4, acc, p5, p6⟩ := hC
    exact .inl ⟨hJ.stop H' eC, q _ H' (e1.trans p2) p3 ⟨Dl, acc, rfl, mD, p5, p6⟩⟩
/-- .. with a name for its target, without a test -/
theorem jl_lcN {j : Nat} {vs : List Nat} (f : PyData → PyData) (h : JIt K W wi σ H c ds) (hl : ds.length < 100000) (hw : ∀ x, wipe ((wipe σ vs).set j (some x)) vs = wipe σ vs)
    (he : ∀ d x H1, d ∈ ds → ExM W.M H H1 → Da K W H1 x d → JD K W te ((wipe σ vs).set j (some x)) H1 0 (f d)) (hn : ∀ d, d ∈ ds → noL (f d) = true) :
    J W (tLc wi (gName j) tYes te vs) σ H c (fun v H2 => NewL K W H2 v (ds.map f)) := by
  have h2 := jl_lcI (K := K) (tt := tYes) (te := te) (g := gName j) (vs := vs) (G := fun d H1 σ2 => ∃ x, Da K W H1 x d ∧ σ2 = (wipe σ vs).set j (some x)) (fun _ => true) f h hl
    (fun d x H1 Q _ _ hx q => q _ ⟨x, hx, rfl⟩) (fun d H1 σ2 ⟨x, _, e⟩ => by rw [e]; exact hw x) (fun _ _ _ _ _ _ => jb_yes)
    (fun d H1 H2 σ2 hm _ e1 e2 ⟨x, hx, e⟩ => by rw [e]; exact he d x H2 hm (e1.trans e2) (hx.mono e2)) (fun d hm _ => hn d hm)
  rw [show List.filter (fun _ => true) ds = ds from List.filter_eq_self.mpr fun _ _ => rfl] at h2
  exact h2
/-- .. with a pair of names, with a test -/
theorem jl_lcP {i j : Nat} {tt : TT} {vs : List Nat} (p : PyData → Bool) (f : PyData → PyData) (h : JIt K W wi σ H c ds) (hl : ds.length < 100000) (hp2 : ∀ d, d ∈ ds → ∃ a b, d = .tuple [a, b])
    (hw : ∀ x y, wipe (((wipe σ vs).set i (some x)).set j (some y)) vs = wipe σ vs)
    (ht : ∀ a b x y H1, .tuple [a, b] ∈ ds → ExM W.M H H1 → Da K W H1 x a → Da K W H1 y b → JB K W tt (((wipe σ vs).set i (some x)).set j (some y)) H1 0 (p (.tuple [a, b])))
    (he : ∀ a b x y H1, .tuple [a, b] ∈ ds → ExM W.M H H1 → Da K W H1 x a → Da K W H1 y b → JD K W te (((wipe σ vs).set i (some x)).set j (some y)) H1 0 (f (.tuple [a, b]))) (hn : ∀ d, d ∈ ds → noL (f d) = true) :
    J W (tLc wi (gTup K 2 (gCons (gName i) (gCons (gName j) gNil))) tt te vs) σ H c (fun v H2 => NewL K W H2 v ((ds.filter p).map f)) :=
  jl_lcI (K := K) (G := fun d H1 σ2 => ∃ a b x y, d = .tuple [a, b] ∧ Da K W H1 x a ∧ Da K W H1 y b ∧ σ2 = ((wipe σ vs).set i (some x)).set j (some y)) p f h hl
    (fun d x H1 Q hm _ hx q => by
      obtain ⟨a, b, rfl⟩ := hp2 d hm
      cases hx with
      | tup hs hl =>
        obtain ⟨x, y, rfl, hx, hy⟩ := dal2 (W := W) hl
        exact ⟨_, _, rfl, hs.sq, rfl, x, _, rfl, y, _, rfl, rfl, q _ ⟨a, b, x, y, rfl, hx, hy, rfl⟩⟩)
    (fun d H1 σ2 ⟨a, b, x, y, _, _, _, e⟩ => by rw [e]; exact hw x y)
    (fun d H1 σ2 hm e1 ⟨a, b, x, y, ed, hx, hy, e⟩ => by subst ed e; exact ht a b x y H1 hm e1 hx hy)
    (fun d H1 H2 σ2 hm _ e1 e2 ⟨a, b, x, y, ed, hx, hy, e⟩ => by subst ed e; exact he a b x y H2 hm (e1.trans e2) (hx.mono e2) (hy.mono e2)) (fun d hm _ => hn d hm)
theorem nl_da {te : TE} {ds : List PyData} (h : J W te σ H c (fun v H2 => NewL K W H2 v ds)) : JD K W te σ H c (.list ds) := h.imp fun _ _ h => h.da
theorem jd_tupleOf {t : TA} {ds : List PyData} (h : JDA K W t σ H c [.list ds]) : JD K W (tCB (fun xs H Q => ∃ p ys, xs = [.ref p] ∧ ((SqL K H p ys ∧ ∀ l, H l = none → Q (.ref l) (upd H l (.tup ys))) ∨ (SqT K H p ys ∧ Q (.ref p) H))) t) σ H c (.tuple ds) := jd_cb h fun vs n H1 hI hv Q q => by
  obtain ⟨x, rfl, hx⟩ := dal1 hv
  cases hx with
  | lst h1 h2 => exact ⟨_, _, rfl, .inl ⟨h1.sq, fun l hl => q _ _ (same_new hl) (da_tup (W.fr hI hl) upd_same (DaL.mono (W := W) h2 (.of (same_new hl))))⟩⟩
theorem jd_call0 {rel : List PyData → PyData → Prop} {r : PyData} {E : XK} {t : TA} (h : JDA K W0 t σ H c ds) (hr : rel ds r) : JD K W0 (tCall (spPure K rel) [] E t) σ H c r := fun n H1 e hI hb Q q =>
  h n H1 e hI hb _ fun vs H2 e2 hI2 hv => ⟨ds, r, by rw [List.append_nil]; exact hv, hr, fun v H' s hd => q v H' (e2.trans (.of s)) trivial hd⟩
theorem tgt2 {i j : Nat} {x : V} {Q : St → Hp → Prop} {a b : PyData} (hx : Da K W H x (.tuple [a, b])) (q : ∀ xa xb, Da K W H xa a → Da K W H xb b → Q ((σ.set i (some xa)).set j (some xb)) H) : gTup K 2 (gCons (gName i) (gCons (gName j) gNil)) x σ H Q := by
  cases hx with
  | tup hs hl =>
    obtain ⟨xa, xb, rfl, h1, h2⟩ := dal2 (W := W) hl
    exact ⟨_, _, rfl, hs.sq, rfl, xa, _, rfl, xb, _, rfl, rfl, q xa xb h1 h2⟩
/-- a loop over pairs -/
theorem st_forP {i j : Nat} {tb : TS} (hI : W.I n H) (h : JIt K W wi σ H c ds) (hc : n + c ≤ BIG) (hp2 : ∀ d, d ∈ ds → ∃ a b, d = .tuple [a, b]) (Pv : Hp → Nat → St → Hp → Prop)
    (h0 : ∀ H1, ExM W.M H H1 → W.I (n + c) H1 → Pv H1 0 σ H1) (hP : ∀ H1 k σ' H', Pv H1 k σ' H' → ExM W.M H1 H' ∧ ∃ m, W.I m H')
    (hs : ∀ H1 (k : Nat) a b xa xb σ' H' H'', ExM W.M H H1 → ds[k]? = some (.tuple [a, b]) → Pv H1 k σ' H' → Same H' H'' → Da K W H'' xa a → Da K W H'' xb b → tb { D with nx := Pv H1 (k + 1), ct := Pv H1 (k + 1), bk := D.nx } ((σ'.set i (some xa)).set j (some xb)) H'')
    (hd : ∀ H1 σ' H', ExM W.M H H1 → Pv H1 ds.length σ' H' → D.nx σ' H') : tFor wi (gTup K 2 (gCons (gName i) (gCons (gName j) gNil))) tb D σ H :=
  st_forI (K := K) (G := fun σ' d H'' σ2 => ∃ a b xa xb, d = .tuple [a, b] ∧ Da K W H'' xa a ∧ Da K W H'' xb b ∧ σ2 = (σ'.set i (some xa)).set j (some xb)) hI h hc Pv
    (fun k d H1 σ' H' hk hp x H'' Q s hx q => by
      obtain ⟨a, b, rfl⟩ := hp2 d (List.mem_of_getElem? hk)
      exact tgt2 (W := W) hx fun xa xb h1 h2 => q _ ⟨a, b, xa, xb, rfl, h1, h2, rfl⟩)
    h0 hP (fun H1 k d σ' H' H'' σ2 e1 hk hp s ⟨a, b, xa, xb, ed, ha, hb, e⟩ => by subst ed e; exact hs H1 k a b xa xb σ' H' H'' e1 hk hp s ha hb) hd
/-- a loop over single things -/
theorem st_forN {i : Nat} {tb : TS} (hI : W.I n H) (h : JIt K W wi σ H c ds) (hc : n + c ≤ BIG) (Pv : Hp → Nat → St → Hp → Prop)
    (h0 : ∀ H1, ExM W.M H H1 → W.I (n + c) H1 → Pv H1 0 σ H1) (hP : ∀ H1 k σ' H', Pv H1 k σ' H' → ExM W.M H1 H' ∧ ∃ m, W.I m H')
    (hs : ∀ H1 (k : Nat) d x σ' H' H'', ExM W.M H H1 → ds[k]? = some d → Pv H1 k σ' H' → Same H' H'' → Da K W H'' x d → tb { D with nx := Pv H1 (k + 1), ct := Pv H1 (k + 1), bk := D.nx } (σ'.set i (some x)) H'')
    (hd : ∀ H1 σ' H', ExM W.M H H1 → Pv H1 ds.length σ' H' → D.nx σ' H') : tFor wi (gName i) tb D σ H :=
  st_forI (K := K) (G := fun σ' d H'' σ2 => ∃ x, Da K W H'' x d ∧ σ2 = σ'.set i (some x)) hI h hc Pv
    (fun k d H1 σ' H' hk hp x H'' Q s hx q => q _ ⟨x, hx, rfl⟩)
    h0 hP (fun H1 k d σ' H' H'' σ2 e1 hk hp s ⟨x, hx, e⟩ => by subst e; exact hs H1 k d x σ' H' H'' e1 hk hp s hx) hd
theorem st_par {i j : Nat} {ta : TA} {d1 d2 : PyData} (hI : W.I n H) (h : JDA K W ta σ H c [d1, d2]) (hc : n + c ≤ BIG) (k : ∀ x y H1, ExM W.M H H1 → W.I (n + c) H1 → Da K W H1 x d1 → Da K W H1 y d2 → D.nx ((σ.set i (some x)).set j (some y)) H1) : tPar i j ta D σ H :=
  h n H ExM.refl hI hc _ fun vs H1 e hI1 hv => by
    obtain ⟨x, y, rfl, hx, hy⟩ := dal2 hv
    exact ⟨x, y, rfl, k x y H1 e hI1 hx hy⟩
/-- a name for its target, with a test -/
theorem jl_lcNT {j : Nat} {vs : List Nat} {tt : TT} (p : PyData → Bool) (f : PyData → PyData) (h : JIt K W wi σ H c ds) (hl : ds.length < 100000) (hw : ∀ x, wipe ((wipe σ vs).set j (some x)) vs = wipe σ vs)
    (ht : ∀ d x H1, d ∈ ds → ExM W.M H H1 → Da K W H1 x d → JB K W tt ((wipe σ vs).set j (some x)) H1 0 (p d))
    (he : ∀ d x H1, d ∈ ds → ExM W.M H H1 → Da K W H1 x d → JD K W te ((wipe σ vs).set j (some x)) H1 0 (f d)) (hn : ∀ d, d ∈ ds → noL (f d) = true) :
    J W (tLc wi (gName j) tt te vs) σ H c (fun v H2 => NewL K W H2 v ((ds.filter p).map f)) :=
  jl_lcI (K := K) (G := fun d H1 σ2 => ∃ x, Da K W H1 x d ∧ σ2 = (wipe σ vs).set j (some x)) p f h hl
    (fun d x H1 Q _ _ hx q => q _ ⟨x, hx, rfl⟩) (fun d H1 σ2 ⟨x, _, e⟩ => by rw [e]; exact hw x) (fun d H1 σ2 hm e1 ⟨x, hx, e⟩ => by rw [e]; exact ht d x H1 hm e1 hx)
    (fun d H1 H2 σ2 hm _ e1 e2 ⟨x, hx, e⟩ => by rw [e]; exact he d x H2 hm (e1.trans e2) (hx.mono e2)) (fun d hm _ => hn d hm)
end Jl

set_option Elab.async false
set_option linter.all false
set_option maxRecDepth 100000
set_option maxHeartbeats 2000000
/-! enumerate of a tuple -/
namespace Jl
open PySem PySem.Spec L2
section
variable {prog : Program} {w : World}
/-- what enumerate makes of anything whose iterator is one new object -/
theorem enum_new {v : Value} {o : Obj} {Z : Heap → Prop} (B : Begins v o Z) : Meets (Builtin.«enumerate.__new__» ⟨[.type "enumerate", v], []⟩) (fun _ R s => Z s.heap ∧ R (.ok (.ret (.ref (s.heap.push o).objs.size)))
    { s with heap := (s.heap.push o).push { cls := .type "enumerate", data := .fields #[.none, .bool false, .ref s.heap.objs.size, rawInt 0, .none, .none] } }) := .of_wp fun prog w A R ⟨hp, g, d, tk, os⟩ ⟨hz, hR⟩ => by
  have sub := sub_enumerate
  have step : ∀ {A' : Around} {E Q : Value → Shared → Prop}, Q (.ref hp.objs.size) ⟨hp.push o, g, d, tk, os⟩ → wpAny (model prog w) A' (pyIter v) Q E ⟨hp, g, d, tk, os⟩ := fun q => B.iter prog w _ _ _ _ hz q
  wp_walk using step
  refine wpAny_stack_any (fun _ => wpAny_pure ?_)
  split
  · rename_i cl _ _ _ _ _
    cases (cl == Value.type "enumerate") <;> (wp_walk using step; exact ⟨_, rfl, hR⟩)
  · wp_walk using step; exact ⟨_, rfl, hR⟩
theorem enum_tuple {A : Around} {E : Value → Shared → Prop} {s : Shared} {t : Addr} {items : Array Value} {Q : Value → Shared → Prop} (ht : s.heap.IsTuple t items)
    (h : ∀ h', IsEnum h' (s.heap.objs.size + 1) s.heap.objs.size 0 .none → h'.IsTupleIter s.heap.objs.size t 0 → (∀ b o, s.heap.get? b = some o → h'.get? b = some o) → Q (.ref (s.heap.objs.size + 1)) { s with heap := h' }) :
    wpAny (model prog w) A (call (.type "enumerate") [.ref t]) Q E s := by
  have B := begins_tuple t items
  refine callType_new F.called_enumerate (by decide) (F.typeCall_enumerate_1 _) (F.newCall_enumerate_1 _) (fun x => F.args_object_init_2 x _) F.entry_enumerate_new (enum_new B) ⟨ht, ?_⟩
  have sz : (s.heap.push { cls := .type "tuple_iterator", data := .fields #[.ref t, .int 0 0] }).objs.size = s.heap.objs.size + 1 := Heap.size_push ..
  have he := Heap.get?_push_size (s.heap.push { cls := .type "tuple_iterator", data := .fields #[.ref t, .int 0 0] }) (o := { cls := .type "enumerate", data := .fields #[.none, .bool false, .ref s.heap.objs.size, rawInt 0, .none, .none] }) rfl
  refine ⟨⟨_, he, rfl⟩, ?_⟩
  rw [sz] at he ⊢
  exact h _ he ⟨_, Heap.get?_push_of_some _ (Heap.get?_push_size _ rfl), rfl, rfl⟩ fun b o x => Heap.get?_push_of_some _ (Heap.get?_push_of_some _ x)
end
/-- the tuple at a, each item with its number in a new pair -/
def IteT (K : PySem.W.Frag) (a : Addr) : It where
  go := fun i H => ∃ (xs : List V) (x : V), SqT K H a xs ∧ xs[i]? = some x
  yld := fun i H v H' => ∃ T x, v = .ref T ∧ H T = none ∧ H' = upd H T (.tup [.int (i : Nat), x]) ∧ ∀ xs, SqT K H a xs → xs[i]? = some x
  stop := fun i H => ∃ xs : List V, SqT K H a xs ∧ xs.length = i
theorem enum_ne {h : Heap} {e it a : Addr} {i : Int} {old : Value} {items : Array Value} (he : IsEnum h e it i old) (ha : h.IsTuple a items) : e ≠ a := fun z => by
  subst z
  obtain ⟨o, ho, hc, _⟩ := ha
  have : h.get? e = some _ := he
  rw [ho] at this
  injection this with this
  rw [this] at hc
  simp at hc
theorem turn_enumT {P : Program} {w : World} {K : PySem.W.Frag} {elts : List Expr} {kk : Nat} {tpos : Pos} (a e it : Addr) :
    Turn P w K (.Tuple elts kk tpos) (IteT K a) [e, it] e (fun i h => (∃ old, IsEnum h e it ((i : Nat) : Int) old) ∧ h.IsTupleIter it a i ∧ e ≠ it ∧ a ≠ it) where
  mem := List.mem_cons_self ..
  obj := fun i h ⟨⟨old, he⟩, ⟨o, ho, hc, hd⟩, _⟩ b hb => by
    rcases List.mem_cons.mp hb with z | z
    · subst z; exact ⟨_, he, fun v q => nomatch q⟩
    · rw [List.mem_singleton.mp z]; exact ⟨o, ho, fun v q => by rw [hd] at q; cases q⟩
  keep := fun i h h' ⟨⟨old, he⟩, hi, hn⟩ k => ⟨⟨old, k e (by simp) _ he⟩, hi.at fun o q => k it (by simp) o q, hn⟩
  item := fun X hP hw hK hc i pins s σ H E I hf ⟨⟨old, he⟩, hit, hne, hai⟩ ⟨xs, x, hq, hx⟩ => by
    subst hP hw hK
    obtain ⟨its, rv, pt, _⟩ := I.tuple hq
    have hT : s.heap.IsTuple a its.toArray := pt
    obtain ⟨u, hu, ru⟩ := rv.get hx
    have lt : i < its.toArray.size := by rw [List.size_toArray]; exact (List.getElem?_eq_some_iff.mp hu).1
    have el := Heap.lt_size (show s.heap.get? e = some _ from he)
    have il : it < s.heap.objs.size := by obtain ⟨_, q, _⟩ := hit; exact Heap.lt_size q
    refine wpAny_pyNext_enum_itemD (Draws.tuple (show X.A.in1.handled = none from I.ok.hd hc) it a hai its.toArray) he ⟨hit, hT⟩ lt hne (fun m => ?_) fun y h' tk hy ho st hnew _ hk => ⟨_, rfl, ?_⟩
    · rcases List.mem_cons.mp m with z | z
      · exact hne z
      · exact enum_ne he hT (List.mem_singleton.mp z)
    have ey : y = u := by
      have hy' : its[i]? = some y := by simpa using hy
      rw [hu] at hy'; exact (Option.some.inj hy').symm
    subst ey
    refine wpAny_letOwnedTupleGo_enum (s := { s with heap := h', toks := tk + 1 }) ho fun h'' he' sb => ?_
    have hT2 := (sb.2 _ (Nat.ne_of_gt el)).trans hnew
    have nw : ObjOk X.prog X.w (upd H s.heap.objs.size (.tup [.int (i : Nat), x])) h'' s.heap.objs.size (.tup [.int (i : Nat), x]) :=
      ⟨(by decide : 2 ≤ sizeLine), _, .cons ⟨_, rfl⟩ (.cons ru .nil), ⟨_, hT2, rfl, _, rfl⟩⟩
    have I1 : Inv X pins σ (upd H s.heap.objs.size (.tup [.int (i : Nat), x])) { s with heap := h'', toks := tk + 1 } := I.turnedNew (ch := [e, it]) (fun b o hb q => by
      have h1 : b ≠ e := fun z => hb (by simp [z])
      have h2 : b ≠ it := fun z => hb (by simp [z])
      exact (sb.2 b h1).trans (hk b o h1 h2 q)) hf (Nat.le_refl _) nw
    refine ⟨.ref s.heap.objs.size, _, I1, rfl, ⟨_, x, rfl, I.hok.fresh (Nat.le_refl _), rfl, fun ys hy => by rw [I.tuple_inj hy hq]; exact hx⟩, ⟨⟨y, ?_⟩, st.1.at fun o q => (sb.2 it (Ne.symm hne)).trans q, hne, hai⟩, fun b hb => ?_⟩
    · rw [show ((i + 1 : Nat) : Int) = (i : Int) + 1 by omega]; exact he'
    · have hb' : b ≠ s.heap.objs.size := by
        rcases List.mem_cons.mp hb with z | z
        · rw [z]; exact Nat.ne_of_lt el
        · rw [List.mem_singleton.mp z]; exact Nat.ne_of_lt il
      rw [upd_ne hb']
      exact (hf b hb).1
  done := fun X hP hw hK hc i pins s σ H E I hf ⟨⟨old, he⟩, hit, hne, hai⟩ ⟨xs, hq, hl⟩ => by
    subst hP hw hK
    obtain ⟨its, rv, pt, _⟩ := I.tuple hq
    have hT : s.heap.IsTuple a its.toArray := pt
    obtain ⟨f0, f1, f2, f3, f4, f5⟩ := hf it (by simp)
    have hlen := rv.length
    have ei : i = its.toArray.size := by rw [List.size_toArray]; omega
    subst ei
    exact wpAny_pyNext_enum_endD (Draws.tuple (show X.A.in1.handled = none from I.ok.hd hc) it a hai its.toArray) he ⟨hit, hT⟩ fun h' eb => ⟨rfl, I.turned (t' := s.toks) (fun b o hb q => eb b o hb q) f0 f1 f3 f4 f5⟩
  self := fun A i s Q E ⟨⟨_, he⟩, _⟩ h => wpAny_pyIter_enum he h
/-- enumerate of a list or of a tuple -/
def iEnumS (K : PySem.W.Frag) (ta : TA) : TI := fun σ H R => ta σ H fun vs H1 => ∃ a xs, vs = [.ref a] ∧ ((SqL K H1 a xs ∧ R (Ite K a) H1) ∨ (SqT K H1 a xs ∧ R (IteT K a) H1))
theorem pi_enumS {X : Cx} {e : Expr} {ta : TA} {p pos tpos : Pos} {elts : List Expr} {kk : Nat} (hg : Gl X "enumerate") (hm : X.mg "enumerate" = none) (ha : PA X [e] ta) (hs : starEach [e] X.env = [(false, eval e X.env)] := by rfl) :
    PI X (.Tuple elts kk tpos) (.Call (.Name "enumerate" p) [e] [] pos) (iEnumS X.K ta) := ⟨fun pins s σ H R I h => by
  refine PyProof.Rows.Call_ (ld_blt I hg hm PyProof.Rows.boot_enumerate (PyProof.Rows.callWith_type1 (thn (ha.run pos pins s σ H _ I h) fun us s1 ⟨vs, H1, J1, rv, a, xs, ev, w⟩ => ?_) hs rfl))
  subst ev
  cases rv with
  | cons r rr =>
    cases rr; cases r
    have fpk : ∀ b ∈ [s1.heap.objs.size + 1, s1.heap.objs.size], FpOk X pins H1 b := fun b hb => by
      have : s1.heap.objs.size ≤ b := by simp at hb; omega
      exact J1.fpOk this (J1.hok.fresh this)
    rcases w with ⟨hq, q⟩ | ⟨hq, q⟩
    · obtain ⟨its, _, z, _⟩ := J1.list hq
      exact call_enumerate_list z.isList fun h' he hit _ hk => wpAny_pyIter_enum he ⟨_, [s1.heap.objs.size + 1, s1.heap.objs.size], _, _, H1, rfl, J1.kept (t' := s1.toks) hk, turn_enum a _ _, ⟨⟨.none, he⟩, hit, Nat.succ_ne_self _⟩, fpk, q⟩
    · obtain ⟨its, _, z, _⟩ := J1.tuple hq
      have hT : s1.heap.IsTuple a its.toArray := z
      have al : a < s1.heap.objs.size := by obtain ⟨o, ho, _⟩ := hT; exact Heap.lt_size ho
      exact enum_tuple hT fun h' he hit hk => wpAny_pyIter_enum he ⟨_, [s1.heap.objs.size + 1, s1.heap.objs.size], _, _, H1, rfl, J1.kept (t' := s1.toks) hk, turn_enumT a _ _, ⟨⟨.none, he⟩, hit, Nat.succ_ne_self _, Nat.ne_of_lt al⟩, fpk, q⟩⟩
variable {K : PySem.W.Frag} {W : Wd} {σ : St} {H H1 H2 : Hp} {v : V} {d : PyData} {n c c1 c2 : Nat} {te ta tb tl : TE} {ds : List PyData}
/-- each item with its number -/
def enumD (ds : List PyData) : List PyData := zipD ((List.range ds.length).map fun (k : Nat) => PyData.int k) ds
theorem enumD_len (ds : List PyData) : (enumD ds).length = ds.length := by simp [enumD, zipD]
theorem enumD_at {i : Nat} {d : PyData} (h : ds[i]? = some d) : (enumD ds)[i]? = some (.tuple [.int i, d]) := by
  have hi : i < ds.length := (List.getElem?_eq_some_iff.mp h).1
  simp [enumD, zipD, List.getElem?_zipWith, h, hi]
  exact (List.getElem?_eq_some_iff.mp h).2
theorem ji_enum {t : TA} {d0 : PyData} (h : JDA K W t σ H c [d0]) (hs : isSeq d0 = true) : JIt K W (iEnumS K t) σ H c (enumD (itemsD d0)) := fun n H1 e hI hn R q => h n H1 e hI hn _ fun vs H2 e2 hI2 hv => by
  obtain ⟨x, rfl, hx⟩ := dal1 hv
  cases hx with
  | @lst a xs es h1 h2 =>
    refine ⟨a, xs, rfl, .inl ⟨h1.sq, q _ H2 e2 hI2 ⟨fun i H' e hi => ?_, fun H' e => ?_, fun i H' x H'' e hM hi ⟨T, y, ex, hT, eH, hy⟩ => ?_⟩⟩⟩
    · have hl := dal_len (W := W) h2
      have hi' : i < es.length := by rw [enumD_len] at hi; exact hi
      have h3 : i < xs.length := by omega
      exact ⟨xs, xs[i], (h1.mono e).sq, List.getElem?_eq_getElem h3⟩
    · exact ⟨xs, (h1.mono e).sq, by rw [enumD_len, dal_len (W := W) h2]; exact Nat.le_refl _⟩
    · subst ex eH
      obtain ⟨d, h3, h4⟩ := dal_get (W := W) h2 (hy xs (h1.mono e).sq)
      have s := same_new (o := .tup [.int (i : Nat), y]) hT
      exact ⟨s, _, enumD_at h3, da_tup (fun m => hM T m hT) upd_same (.cons (.int _) (.cons ((Da.mono (W := W) h4 e).mono (.of s)) .nil))⟩
  | @tup a xs es h1 h2 =>
    refine ⟨a, xs, rfl, .inr ⟨h1.sq, q _ H2 e2 hI2 ⟨fun i H' e hi => ?_, fun H' e => ?_, fun i H' x H'' e hM hi ⟨T, y, ex, hT, eH, hy⟩ => ?_⟩⟩⟩
    · have hl := dal_len (W := W) h2
      have hi' : i < es.length := by rw [enumD_len] at hi; exact hi
      have h3 : i < xs.length := by omega
      exact ⟨xs, xs[i], (h1.mono e).sq, List.getElem?_eq_getElem h3⟩
    · exact ⟨xs, (h1.mono e).sq, by rw [enumD_len, dal_len (W := W) h2]; rfl⟩
    · subst ex eH
      obtain ⟨d, h3, h4⟩ := dal_get (W := W) h2 (hy xs (h1.mono e).sq)
      have s := same_new (o := .tup [.int (i : Nat), y]) hT
      exact ⟨s, _, enumD_at h3, da_tup (fun m => hM T m hT) upd_same (.cons (.int _) (.cons ((Da.mono (W := W) h4 e).mono (.of s)) .nil))⟩
  | _ => cases hs
theorem jd_catA {xs ys : List PyData} (ha : JD K W ta σ H c1 (.tuple xs)) (hb : JD K W tb σ H c2 (.tuple ys)) (hl : xs.length + ys.length ≤ 100000) : JD K W (tOp (rCatA K) ta tb) σ H (c1 + c2) (.tuple (xs ++ ys)) := jd_op ha hb fun x y n H1 hI hx hy Q q => by
  cases hx with
  | @tup a us _ h1 h2 =>
    cases hy with
    | @tup b ws _ h3 h4 =>
      have l1 := dal_len (W := W) h2
      have l2 := dal_len (W := W) h4
      refine ⟨a, b, us, ws, rfl, rfl, h1.sq, h3.sq, Nat.le_trans (by omega) (show 100000 ≤ sizeLine by decide), fun e => ?_, fun _ e => ?_, fun _ _ p hp => ?_⟩
      · subst e; cases h2
        exact q _ H1 (Same.refl _) (.tup h3 h4)
      · subst e; cases h4
        rw [List.append_nil] at q
        exact q _ H1 (Same.refl _) (.tup h1 h2)
      · exact q _ _ (same_new hp) (da_tup (W.fr hI hp) upd_same (dal_app (W := W) (DaL.mono (W := W) h2 (.of (same_new hp))) (DaL.mono (W := W) h4 (.of (same_new hp)))))
end Jl

set_option Elab.async false
set_option linter.all false
set_option maxRecDepth 100000
set_option maxHeartbeats 2000000
/-! the promise of a def under known guards (no repr is under way), its call, its proof, the law's head; then repr of data -/
namespace Jl
open PySem PySem.Spec L2
open PyProof.Rows (envOfC AllBare IntsAre)

/-- as FnOk, but wanted only where no repr is under way -/
structure FnG (P : Program) (w : World) (K : PySem.W.Frag) (mg : Str → Option Value) (base : Heap)
    (CX : CXT) (k : Nat) (f : Addr) (fd : FuncData) (ps : List Str) (sp : Sp) : Prop where
  ln : ∀ ys G R E, sp ys G R E → ys.length = ps.length
  go : ∀ (A : Around) (outer : List Env) (s : Shared) (G : Hp) (args : Args) (us : List Value) (ys : List V) (R : VK) (E : XK),
    A.guards = some [] → Room k A → Env0 P w K mg base A outer s G → BindsTo s fd args (ps.zip us) → Vals ys us → sp ys G R E →
    codeAny (model P w) A (.call (.ref f) args) (CR CX outer P w G s R E) s

section
variable {P : Program} {w : World} {K : PySem.W.Frag} {mg : Str → Option Value} {base : Heap} {CX : CXT} {k j : Nat} {f : Addr} {fd : FuncData} {ps : List Str} {sp : Sp}
theorem FnG.of (F : FnOk P w K mg base CX k f fd ps sp) : FnG P w K mg base CX k f fd ps sp :=
  ⟨F.len, fun A outer s G args us ys R E _ => F.run A outer s G args us ys R E⟩
theorem FnG.mono (F : FnG P w K mg base CX j f fd ps sp) (h : j ≤ k) : FnG P w K mg base CX k f fd ps sp :=
  ⟨F.ln, fun A outer s G args us ys R E hg hr => F.go A outer s G args us ys R E hg (hr.mono h)⟩
end

section
variable {X : Cx} {CX : CXT} {k : Nat} {f : Addr} {fd : FuncData} {ps : List Str} {sp : Sp} {dvs : List V} {ds : List Value} {E : XK} {x : Str} {p pos : Pos} {e : Expr} {es : List Expr} {t : TA}
/-- what is walked in stands where no repr is under way -/
abbrev NoRepr (X : Cx) : Prop := X.A.guards = some []

theorem run_fnG {pins : List (Addr × Obj)} {σ : St} {H : Hp} {s : Shared} {Q : VK} {us : List Value} {vs : List V} (F : FnG X.prog X.w X.K X.mg X.base CX k f fd ps sp)
    (hG : NoRepr X) (hr : Room k X.A) (hb : Binds X.K fd ps ds) (hd : Vals dvs ds) (hx : Passes CX X E)
    (I : Inv X pins σ H s) (r : Vals vs us) (h : sp (vs ++ dvs) H Q E) :
    wpAny (model X.prog X.w) X.A (call (.ref f) us) (EP X pins σ Q) X.xe s := by
  have r2 := r.append hd
  have hl : (us ++ ds).length = ps.length := r2.length.symm.trans (F.ln _ _ _ _ h)
  refine wpAny_call (codeAny_mono (F.go X.A X.stack s H ⟨us, []⟩ (us ++ ds) (vs ++ dvs) Q E hG hr I.env0 (hb s us I.kIn hl) r2 h) ?_)
  rintro (e | fl) s' hq
  · exact hx pins σ H s e s' I hq
  · cases fl <;> first | exact I.after hq | exact False.elim hq
theorem pe_callG (F : FnG X.prog X.w X.K X.mg X.base CX k f fd ps sp)
    (hG : NoRepr X) (hr : Room k X.A) (hg : Gl X x) (hm : X.mg x = some (.ref f)) (hk : PySem.W.keepIn X.K (.ref f) = true)
    (hb : Binds X.K fd ps ds) (hd : Vals dvs ds) (hx : Passes CX X E) (ha : PA X (e :: es) t)
    (hdb : (x == ("__debug__" : Str)) = false := by decide) (he : starEach (e :: es) X.env = (false, eval e X.env) :: starEach es X.env := by rfl)
    (hpl : (backTo pos (starEach es X.env)).any (·.1) = false := by rfl) : PE X (.Call (.Name x p) (e :: es) [] pos) (tCall sp dvs E t) :=
  ⟨fun pins s σ H Q I h => wpAny_Call_Name_kw (ld_glob I hg hm (PySem.W.callWith_K (h₀ := X.base) I.ok.mod.kin hk
    (thn (ha.run pos pins s σ H _ I h) fun us s1 ⟨vs, H1, I1, r, q⟩ => ⟨I1.kIn, run_fnG F hG hr hb hd hx I1 r q⟩) he hpl) hdb)⟩
theorem pe_callG0 (F : FnG X.prog X.w X.K X.mg X.base CX k f fd ps sp)
    (hG : NoRepr X) (hr : Room k X.A) (hg : Gl X x) (hm : X.mg x = some (.ref f)) (hk : PySem.W.keepIn X.K (.ref f) = true)
    (hb : Binds X.K fd ps ds) (hd : Vals dvs ds) (hx : Passes CX X E)
    (hdb : (x == ("__debug__" : Str)) = false := by decide) : PE X (.Call (.Name x p) [] [] pos) (tCall sp dvs E tNil) :=
  ⟨fun pins s σ H Q I h => wpAny_Call_Name_kw (ld_glob I hg hm (PySem.W.callWith_K0 I.kIn hk (run_fnG (us := []) F hG hr hb hd hx I .nil h)) hdb)⟩
end

/-- a def by its body, which may use that no repr is under way -/
theorem fnG_of {CX : CXT} {P : Program} {w : World} {K : PySem.W.Frag} {mg : Str → Option Value} {base : Heap} {k : Nat} {f : Addr}
    {name qual : Str} {params : Arguments} {body : List Stmt} {scope : Scope} {dV kV doc pm cdv ct oc : Value} {an od : Option Addr}
    {osl : Array (Option Value)} {N ps : List Str} {sp : Sp}
    (lk : K.lookup f = some ⟨oc, od, .func (PySem.W.fnOf name qual params body scope dV kV doc pm an cdv ct), osl⟩)
    (hcd : PySem.W.codeIn K cdv qual = true) (S : FnScope N ps scope)
    (ln : ∀ ys G R E, sp ys G R E → ys.length = ps.length)
    (hbody : ∀ (A : Around) (outer : List Env) (s : Shared) (G : Hp) (ys : List V) (R : VK) (E : XK), A.guards = some [] →
      Room k (A.deeper (envOfC qual scope s.heap.objs.size f cdv)) → sp ys G R E →
      ∃ t, PSs (cxOf CX P w K mg base N qual scope f cdv A outer s G E) body t ∧ t { nx := fun _ G' => R .non G', rt := R } (start N ys) G) :
    FnG P w K mg base CX (k + 1) f (PySem.W.fnOf name qual params body scope dV kV doc pm an cdv ct) ps sp := by
  refine ⟨ln, fun A outer s G args us ys R E hg hr e0 hb r hsp => ?_⟩
  have hn := ln _ _ _ _ hsp
  have kin : K.In s.heap := e0.mod.kin.keeps fun b o e => (e0.bs b o e).1
  have noL : s.heap.NoLimit := e0.mod.nolimit.keeps fun b o e => (e0.bs b o e).1
  refine codeAny_call_function hr.depth (kin _ _ lk) rfl S.co S.gen rfl (PySem.W.codeRec_of kin hcd) (hb _ _ _ _ ?_)
  refine wpAny_newFunctionEnv_cells S.kind (fun ⟨m, v⟩ hy => ?_) fun env he s1 x => ?_
  · rcases S.par m (List.of_mem_zip hy).1 with q | q
    · exact .inl q
    · exact .inr ⟨q, PySem.W.cellsFrom_some _ _ _ (.inl q)⟩
  subst he
  refine ⟨noL.keeps x.toInCall.keep, codeAny_func ?_⟩
  obtain ⟨t, ht, hq⟩ := hbody A outer s G ys R E hg (hr.deeper _) hsp
  have I := inv_start (CX := CX) (E := E) S hr.hd e0 hn r x
  refine wpAny_mono (ht.run [] s1 (start N ys) G _ I hq) ?_ fun e s' z => z
  rintro (_ | _ | _ | u) s' z
  · obtain ⟨σ1, G1, J, q⟩ := z
    exact ⟨.non, G1, J.os, J.bare, J.base, J.hok, rfl, q⟩
  · obtain ⟨_, _, _, q⟩ := z
    exact q.elim
  · obtain ⟨_, _, _, q⟩ := z
    exact q.elim
  · obtain ⟨v, σ1, G1, J, rv, q⟩ := z
    exact ⟨v, G1, J.os, J.bare, J.base, J.hok, rv, q⟩

section
variable {P : Program} {w : World} {K : PySem.W.Frag} {mg mb : Str → Option Value} {k : Nat} {fa a : Addr} {fd : FuncData} {x : Str} {sp : Sp} {s : Shared} {us : List Value} {zs : List Int}
/-- the law's def is called by the caller alone: no repr is under way there -/
theorem law_callG (kin : K.In s.heap) (nsg : s.heap.Ns mainGlobals mg) (nsb : s.heap.Ns builtinsNs mb)
    (bb : ∀ y : Str, y ≠ "__name__" → mb y = bootBuiltins y) (noL : s.heap.NoLimit) (gn : s.gens = #[])
    (ga : s.heap.get? a = some { cls := .type "list", data := .seq us.toArray }) (hi : IntsAre us zs) (hl : zs.length ≤ sizeLine) (hr : Room k callerA)
    (F : ∀ base : Heap, K.In base → base.Ns mainGlobals mg → FnG P w K mg base CX0 k fa fd [x] sp)
    (hb : ∀ (s : Shared) (u : Value), BindsTo s fd ⟨[u], []⟩ [(x, u)])
    (hsp : ∀ G : Hp, Only G → SqL K G a (zs.map V.int) → sp [.ref a] G (fun v _ => v = .bl true) fun _ _ _ => False) :
    codeAny (model P w) callerA (.call (.ref fa) ⟨[.ref a], []⟩)
      (fun r z => r = .ok (.ret (.bool true)) ∧ OldK s.heap z.heap ∧ z.os = s.os ∧ AllBare z.gens) s := by
  have rv := vals_ints hi
  have core : ∀ G : Hp, Only G → SqL K G a (zs.map V.int) → HOk P w G s.heap → (∀ b, G b ≠ none → b = a ∧ K.lookup a = none) →
      codeAny (model P w) callerA (.call (.ref fa) ⟨[.ref a], []⟩)
        (fun r z => r = .ok (.ret (.bool true)) ∧ OldK s.heap z.heap ∧ z.os = s.os ∧ AllBare z.gens) s := by
    intro G hO hS hok hA
    have off : ∀ {b : Addr} {o : Obj} {es : Array DictEntry} {ep : Nat}, s.heap.get? b = some o → o.data = .dict es ep → G b = none := by
      intro b o es ep e d
      by_cases q : G b = none
      · exact q
      · obtain ⟨rfl, _⟩ := hA b q
        rw [ga] at e; cases e; cases d
    have ns : ∀ {b : Addr} {m : Str → Option Value}, s.heap.Ns b m → (hidT s.heap G).Ns b m :=
      fun ⟨o, es, ep, e, d, r⟩ => ⟨o, es, ep, hidT_get e (off e d), d, r⟩
    have inB : K.In (hidT s.heap G) := fun b o e => hidT_get (kin b o e) (by
      by_cases q : G b = none
      · exact q
      · obtain ⟨rfl, z⟩ := hA b q
        rw [z] at e; cases e)
    obtain ⟨mc, m1, m2⟩ := noL
    have e0 : Env0 P w K mg (hidT s.heap G) callerA [] s G :=
      ⟨rfl, ⟨inB, ns nsg, ⟨mb, ns nsb, bb⟩, ⟨mc, ns m1, m2⟩⟩, fun b o e => of_hidT e, Nat.le_of_eq (hidT_size _ _), trivial, fun b hb => (List.not_mem_nil hb).elim, hok, .of_eq gn⟩
    refine codeAny_mono ((F _ inB (ns nsg)).go callerA [] s G ⟨[.ref a], []⟩ [.ref a] [.ref a] _ _ rfl hr e0 (hb s (.ref a)) (.cons rfl .nil) (hsp G hO hS)) ?_
    rintro (e | fl) z h
    · exact False.elim h
    · cases fl with
      | ret u =>
        obtain ⟨v, G1, os, bare, un, hok1, r1, q⟩ := h
        obtain rfl : v = .bl true := q
        obtain rfl : u = Value.bool true := r1
        refine ⟨rfl, OldK.of_keep fun b o e => ?_, os, bare⟩
        rcases hO b with q | ⟨ob, ys, q⟩
        · exact un.keep b o e q (fun y => (List.not_mem_nil y).elim) (by simp)
        · have e1 := (hok b _ q).1
          have e2 := (hok1 b _ (un.frzs b ob _ q)).1
          rw [e] at e1; cases e1
          exact e2
      | next => exact False.elim h
      | brk => exact False.elim h
      | cont => exact False.elim h
  by_cases hk : K.lookup a = none
  · refine core (fun b => if b = a then some (.frz { cls := .type "list", data := .seq us.toArray } (.lst (zs.map V.int))) else none)
      (fun b => ?_) (.inl (.inr ⟨{ cls := .type "list", data := .seq us.toArray }, if_pos rfl⟩)) (fun b u z => ?_) (fun b z => ?_)
    · by_cases q : b = a
      · exact .inr ⟨_, _, if_pos q⟩
      · exact .inl (if_neg q)
    · by_cases q : b = a
      · subst q
        dsimp only at z; rw [if_pos rfl] at z; cases z
        exact ⟨ga, by rw [List.length_map]; exact hl, us, _, rv, ga⟩
      · dsimp only at z; rw [if_neg q] at z; cases z
    · by_cases q : b = a
      · exact ⟨q, hk⟩
      · exact absurd (if_neg q) z
  · obtain ⟨o, e⟩ := Option.ne_none_iff_exists'.mp hk
    have e1 := kin a o e
    rw [ga] at e1; cases e1
    have len : us.length ≤ sizeLine := by rw [hi.length]; exact hl
    exact core (fun _ => none) (fun _ => .inl rfl) (.inr ⟨_, us.toArray, _, e, rfl, rfl, rfl, by rw [List.size_toArray]; exact len, by simpa using rv⟩)
      (fun b u z => nomatch z) (fun b z => absurd rfl z)
end

theorem walk_ofG {l : PySem.W.OpenLaw} {n k : Nat} {q : Program} {loose : List Str} {XP : (Str → Option Value) → Heap → Prop} {YP : World → Heap → Prop}
    {d : DefRec} {K : Params → PySem.W.Frag} {sp : World → Sp} {x : Str}
    (hn : l.most = some n) (hn2 : n ≤ sizeLine) (hdf : d.params.defaults = []) (hr : Room k callerA) (hY : ∀ (w : World) (h : Heap), YP w h → (K w.params).In h)
    (F : ∀ (w : World) (mg : Str → Option Value) (fa : Addr) (h : Heap), (K w.params).In h → h.Ns mainGlobals mg → mg d.name = some (.ref fa) →
      ∃ fd : FuncData, (∀ (s : Shared) (u : Value), BindsTo s fd ⟨[u], []⟩ [(x, u)]) ∧
        ∀ base : Heap, (K w.params).In base → base.Ns mainGlobals mg → FnG l.prog w (K w.params) mg base CX0 k fa fd [x] (sp w))
    (hsp : ∀ (w : World) (G : Hp) (a : Addr) (zs : List Int), zs.length ≤ n → Only G → SqL (K w.params) G a (zs.map V.int) →
      sp w [.ref a] G (fun v _ => v = .bl true) fun _ _ _ => False) :
    PySem.W.WalkO q loose XP YP l.row.toRowW d [] (fun f vs => PySem.call f vs) :=
  Att.attach_call hn hdf fun w s₀ s₁ mg mb fa o pm cd doc a vs ns G Y ho hd hcd hmg hobj hints hlen hg =>
    let ⟨fd, hb, hF⟩ := F w mg fa _ (hY w _ Y) G.T.g hmg
    law_callG (hY w _ Y) G.T.g G.T.b G.T.builtins G.T.nolimit hg hobj hints (Nat.le_trans hlen hn2) hr hF hb fun H hO hS => hsp w H a ns hlen hO hS

/-! ### repr of data -/
/-- the text of data may be made: no int of 1920 bits or more, not too deep, not too long -/
structure Tells (d : PyData) : Prop where
  sh : d.showable = true
  dp : d.depth ≤ 64
  ln : d.shown.length ≤ sizeLine
  nd : d.hasDict = false
def rRepr (K : PySem.W.Frag) : List V → Hp → VK → Prop := fun xs H Q => ∃ v d, xs = [v] ∧ Dp K H v d ∧ Tells d ∧ Q (.str d.shown) H
theorem call_reprD {X : Cx} (hG : NoRepr X) (hr : Room 0 X.A) : CallR X (.builtin "repr") (rRepr X.K) := by
  intro pins s σ H xs us Q I r h
  obtain ⟨v, d, rfl, hv, T, q⟩ := h
  obtain ⟨u, rfl, ru⟩ := vals1 r
  obtain ⟨as, R⟩ := Dp.reads I d v u hv ru
  have un := hr.un
  have dd := T.dp
  cases R with
  | none => exact PySem.P.repr_of_none ⟨.str _, H, I.tok _, ⟨_, rfl⟩, by simpa only [PyData.shown] using q⟩
  | bool b => exact PySem.P.repr_of_bool ⟨.str _, H, I.tok _, ⟨_, rfl⟩, by simpa only [PyData.shown] using q⟩
  | int i t => exact PySem.P.repr_of_int (by have := T.sh; simpa [PyData.showable] using this) ⟨.str _, H, I.tok _, ⟨_, rfl⟩, by simpa only [PyData.shown] using q⟩
  | str x t => exact PySem.P.repr_of_str ⟨.str _, H, I.tok _, ⟨_, rfl⟩, by simpa only [PyData.shown] using q⟩ (by have := T.ln; simpa only [PyData.shown] using this)
  | list h1 h2 h3 h4 => exact repr_of_reads' (.list h1 h2 h3 h4) T.sh (fun z => by rw [T.nd] at z; cases z) hG (by omega) (fun _ _ e => e) (fun h' u tk hk => ⟨.str _, H, I.kept hk, ⟨_, rfl⟩, q⟩) T.ln
  | tuple h1 h2 h3 h4 => exact repr_of_reads' (.tuple h1 h2 h3 h4) T.sh (fun z => by rw [T.nd] at z; cases z) hG (by omega) (fun _ _ e => e) (fun h' u tk hk => ⟨.str _, H, I.kept hk, ⟨_, rfl⟩, q⟩) T.ln
  | dict _ _ _ _ _ => exact absurd T.nd (by simp [PyData.hasDict])

/-- a bound of a text's length, and what Tells wants beside -/
structure Tb (k n : Nat) (d : PyData) : Prop where
  sh : d.showable = true
  dp : d.depth ≤ k
  ln : d.shown.length + 2 ≤ n
  nd : d.hasDict = false
structure TbL (k n : Nat) (ds : List PyData) : Prop where
  sh : PyData.showableAll ds = true
  dp : PyData.depthAll ds ≤ k
  ln : piled (PyData.shownAll ds) ≤ n
  nd : PyData.hasDictAll ds = false
theorem Tb.mono {k k1 n n1 : Nat} {d : PyData} (h : Tb k n d) (h1 : k ≤ k1) (h2 : n ≤ n1) : Tb k1 n1 d := ⟨h.sh, Nat.le_trans h.dp h1, Nat.le_trans h.ln h2, h.nd⟩
theorem Tb.int {i : Int} (h : i.natAbs < 2 ^ 1900) : Tb 0 1925 (.int i) := by
  have l : i.natAbs.log2 < 1920 := by
    by_cases z : i.natAbs = 0
    · rw [z]; decide
    · exact Nat.lt_trans ((Nat.log2_lt z).mpr h) (by decide)
  refine ⟨by simpa [PyData.showable] using l, by simp [PyData.depth], ?_, by simp [PyData.hasDict]⟩
  have e := int_text_length_le (k := 1920) (by decide) l
  rw [PyData.shown_int, ofString_length]; omega
theorem Tb.bool {b : Bool} : Tb 0 10 (.bool b) := ⟨by simp [PyData.showable], by simp [PyData.depth], by rw [PyData.shown_bool]; cases b <;> decide, by simp [PyData.hasDict]⟩
theorem Tb.none : Tb 0 10 .none := ⟨by simp [PyData.showable], by simp [PyData.depth], by rw [PyData.shown_none]; decide, by simp [PyData.hasDict]⟩
theorem TbL.nil {k n : Nat} : TbL k n [] := ⟨by simp [PyData.showableAll], by simp [PyData.depthAll], by simp [PyData.shownAll, piled], by simp [PyData.hasDictAll]⟩
theorem TbL.cons {k n m : Nat} {d : PyData} {ds : List PyData} (h : Tb k n d) (t : TbL k m ds) : TbL k (n + m) (d :: ds) :=
  ⟨by simp [PyData.showableAll, h.sh, t.sh], by have := h.dp; have := t.dp; simp only [PyData.depthAll]; omega,
    by have := h.ln; have := t.ln; rw [PyData.shownAll_cons, piled_cons]; omega, by simp [PyData.hasDictAll, h.nd, t.nd]⟩
theorem TbL.all {k n : Nat} : ∀ {ds : List PyData}, (∀ d ∈ ds, Tb k n d) → TbL k (n * ds.length) ds
  | [], _ => .nil
  | d :: ds, h => by
    have t := TbL.cons (h d (List.mem_cons_self ..)) (TbL.all fun e m => h e (List.mem_cons_of_mem _ m))
    rw [List.length_cons, Nat.mul_succ, Nat.add_comm]; exact t
theorem join_piled (ts : List Str) : (Str.join ", " ts).length ≤ piled ts := by
  by_cases h : ts = []
  · subst h; exact Nat.zero_le _
  · have := join_length_add ts h; omega
theorem Tb.list {k n : Nat} {ds : List PyData} (h : TbL k n ds) : Tb (k + 1) (n + 8) (.list ds) := by
  refine ⟨by simpa [PyData.showable] using h.sh, by simp only [PyData.depth]; have := h.dp; omega, ?_, by simpa [PyData.hasDict] using h.nd⟩
  have e1 : ((("[" : String) : Str)).length = 1 := rfl
  have e2 : ((("]" : String) : Str)).length = 1 := rfl
  have e3 := join_piled (PyData.shownAll ds)
  have e4 := h.ln
  rw [PyData.shown_list, strLen_append, strLen_append, e1, e2]; omega
theorem Tb.tuple {k n : Nat} {ds : List PyData} (h : TbL k n ds) : Tb (k + 1) (n + 8) (.tuple ds) := by
  refine ⟨by simpa [PyData.showable] using h.sh, by simp only [PyData.depth]; have := h.dp; omega, ?_, by simpa [PyData.hasDict] using h.nd⟩
  have e1 : ((("(" : String) : Str)).length = 1 := rfl
  have e2 : (((if ds.length == 1 then ",)" else ")" : String) : Str)).length ≤ 2 := by split <;> decide
  have e3 := join_piled (PyData.shownAll ds)
  have e4 := h.ln
  rw [PyData.shown_tuple, strLen_append, strLen_append, e1]; omega
theorem Tells.of {k n : Nat} {d : PyData} (h : Tb k n d) (h1 : k ≤ 64) (h2 : n ≤ 16777216) : Tells d :=
  ⟨h.sh, Nat.le_trans h.dp h1, by have := h.ln; rw [sizeLine_eq]; omega, h.nd⟩
theorem jd_repr {K : PySem.W.Frag} {W : Wd} {σ : St} {H : Hp} {c : Nat} {d : PyData} {t : TA} (h : JDA K W t σ H c [d]) (T : Tells d) :
    JD K W (tCB (rRepr K) t) σ H c (.str d.shown) := jd_cb h fun vs n H1 _ hv Q q => by
  obtain ⟨x, rfl, hx⟩ := dal1 hv
  exact ⟨x, d, rfl, hx.dp T.nd, T, q _ H1 (Same.refl _) da_str⟩

/-! ### calls with keywords -/
/-- some of a list, by their places -/
def pickN {α : Type} (l : List Nat) (xs : List α) : List α := l.filterMap fun i => xs[i]?
theorem vals_at : ∀ {vs : List V} {us : List Value}, Vals vs us → ∀ i : Nat, (∃ v u, vs[i]? = some v ∧ us[i]? = some u ∧ RelV v u) ∨ (vs[i]? = none ∧ us[i]? = none)
  | _, _, .nil, i => .inr ⟨rfl, rfl⟩
  | _, _, .cons h t, 0 => .inl ⟨_, _, rfl, rfl, h⟩
  | _, _, .cons h t, i + 1 => vals_at t i
theorem vals_pick {vs : List V} {us : List Value} (h : Vals vs us) : ∀ l : List Nat, Vals (pickN l vs) (pickN l us)
  | [] => .nil
  | i :: l => by
    rcases vals_at h i with ⟨v, u, e1, e2, r⟩ | ⟨e1, e2⟩
    · simp only [pickN, List.filterMap_cons, e1, e2]; exact .cons r (vals_pick h l)
    · simp only [pickN, List.filterMap_cons, e1, e2]; exact vals_pick h l
theorem dal_ix {K : PySem.W.Frag} {W : Wd} {H : Hp} : ∀ {vs : List V} {ds : List PyData}, DaL K W H vs ds → ∀ i : Nat, (∃ v d, vs[i]? = some v ∧ ds[i]? = some d ∧ Da K W H v d) ∨ (vs[i]? = none ∧ ds[i]? = none)
  | _, _, .nil, i => .inr ⟨rfl, rfl⟩
  | _, _, .cons h t, 0 => .inl ⟨_, _, rfl, rfl, h⟩
  | _, _, .cons h t, i + 1 => dal_ix (W := W) t i
theorem dal_pick {K : PySem.W.Frag} {W : Wd} {H : Hp} {vs : List V} {ds : List PyData} (h : DaL K W H vs ds) : ∀ l : List Nat, DaL K W H (pickN l vs) (pickN l ds)
  | [] => .nil
  | i :: l => by
    rcases dal_ix h i with ⟨v, u, e1, e2, r⟩ | ⟨e1, e2⟩
    · simp only [pickN, List.filterMap_cons, e1, e2]; exact .cons r (dal_pick h l)
    · simp only [pickN, List.filterMap_cons, e1, e2]; exact dal_pick h l
/-- n positional values, the keywords ks; l: where each parameter's value stands among them -/
abbrev gN {α : Type} (l : List Nat) (us ws : List α) : List α := pickN l (us ++ ws)
theorem kbn_of {K : PySem.W.Frag} {x qual : Str} {st : Stmt} {f : Addr} {fd : FuncData} {ps : List Str} (F : Fun K x qual st f fd) (n : Nat) (ks : List Str) (l : List Nat)
    (h : ∀ (kV doc pm : Value) (an : Option Addr) (cdv ct : Value) (us ws : List Value), us.length = n → ws.length = ks.length →
      bindArgs (PySem.W.fnOf x qual (defArgs st) (defBody st) (defScope st) .none kV doc pm an cdv ct) ⟨us, ks.zip ws⟩ = pure (ps.zip (gN l us ws))) :
    KBn K fd ps n ks (gN l) (gN l) := by
  obtain ⟨oc, od, kV, doc, pm, an, cdv, ct, osl, rfl, lk, hcd⟩ := F.ex
  exact ⟨fun s us ws _ l1 l2 => .of_eq (h kV doc pm an cdv ct us ws l1 l2), fun r1 r2 => vals_pick (r1.append r2) l⟩
theorem pe_callN0 {X : Cx} {CX : CXT} {k : Nat} {f : Addr} {fd : FuncData} {ps ks : List Str} {sp : Sp} {E : XK} {x : Str} {p pos : Pos} {kws : List Keyword} {tk : TA} {g : List Value → List Value → List Value} {gV : List V → List V → List V}
    (F : FnOk X.prog X.w X.K X.mg X.base CX k f fd ps sp) (hr : Room k X.A) (hg : Gl X x)
    (hm : X.mg x = some (.ref f)) (hk : PySem.W.keepIn X.K (.ref f) = true) (hb : KBn X.K fd ps 0 ks g gV) (hx : Passes CX X E) (hkw : PK X kws tk)
    (hall : (backToKw pos (keywordEach kws X.env)).all (·.1.isSome) = true := by rfl) (hks : (backToKw pos (keywordEach kws X.env)).filterMap (·.1) = ks := by rfl)
    (hdb : (x == ("__debug__" : Str)) = false := by decide)
    (hpl : ((backTo pos (starEach [] X.env)).any (·.1) || (backToKw pos (keywordEach kws X.env)).any (·.1.isNone)) = false := by rfl) :
    PE X (.Call (.Name x p) [] kws pos) (tCallN 0 ks.length sp gV E tNil tk) :=
  ⟨fun pins s σ H Q I h => wpAny_Call_Name_kw (ld_glob I hg hm (PySem.W.callWith_KW0 (h₀ := X.base) I.ok.mod.kin hk hall
    (thn (hkw.run pos pins s σ H _ I h) fun ws s2 ⟨zs, H2, I2, rz, l1, l2, q2⟩ => ⟨I2.kIn, by
      rw [hks]
      exact run_fnN (us := []) (vs := []) F hr hb hx I2 .nil rz rfl l2 q2⟩) hpl) hdb)⟩
theorem jd_callN {K : PySem.W.Frag} {W : Wd} {σ : St} {H : Hp} {c1 c2 : Nat} {n m : Nat} {l : List Nat} {rel : List PyData → PyData → Prop} {ds es : List PyData} {r : PyData} {E : XK} {t tk : TA}
    (h : JDA K W t σ H c1 ds) (hk : JDA K W tk σ H c2 es) (ln : ds.length = n) (lm : es.length = m) (hr : rel (pickN l (ds ++ es)) r) (hn : noL r = true) :
    JD K W (tCallN n m (spPure K rel) (gN l) E t tk) σ H (c1 + c2) r := fun k H1 e hI hb Q q =>
  h k H1 e hI (by omega) _ fun vs H2 e2 hI2 hv => hk (k + c1) H2 (e.trans e2) hI2 (by omega) _ fun zs H3 e3 hI3 hz => by
    have hv3 := hv.mono e3
    refine ⟨(dal_len hv3).trans ln, (dal_len hz).trans lm, _, r, (dal_pick (dal_app hv3 hz) l).w0, hr, fun v H' s hd => ?_⟩
    have hI4 := W.st s hI3
    rw [Nat.add_assoc] at hI4
    exact q v H' ((e2.trans e3).trans (.of s)) hI4 (da_of (W.st s hI3) hn hd)

/-! ### is, is not a truth, of any scalar; a dict; a text of an int -/
def rNotBX : R2 := fun x y H Q => ∃ b : Bool, y = .bl b ∧ ((∃ i : Int, x = .int i ∧ Q (.bl true) H) ∨ ∃ a : Bool, x = .bl a ∧ Q (.bl (!decide (a = b))) H)
theorem op_notBX {X : Cx} : OpR X (compareOp .IsNot) rNotBX := by
  intro pins s σ H x y v u Q I rx ry h
  obtain ⟨b, rfl, ⟨i, rfl, q⟩ | ⟨a, rfl, q⟩⟩ := h
  · obtain ⟨t, rfl⟩ := (show ∃ t, v = Value.int i t from rx)
    cases (show u = Value.bool b from ry)
    exact wpAny_isNot_other rfl (fun z => nomatch z) ⟨.bl true, H, I, rfl, q⟩
  · exact op_notBl pins s σ H _ _ v u Q I rx ry ⟨a, b, rfl, rfl, q⟩
def notB : PyData → Bool → Bool
  | .bool a, b => !decide (a = b)
  | _, _ => true
theorem jd_notB {K : PySem.W.Frag} {W : Wd} {σ : St} {H : Hp} {c1 c2 : Nat} {d : PyData} {b : Bool} {ta tb : TE} (ha : JD K W ta σ H c1 d) (hb : JD K W tb σ H c2 (.bool b))
    (hd : (isI d || isB d) = true) : JD K W (tOp rNotBX ta tb) σ H (c1 + c2) (.bool (notB d b)) := jd_op ha hb fun x y n H1 _ hx hy Q q => by
  have e2 := hy.bl; subst e2
  refine ⟨b, rfl, ?_⟩
  cases hx with
  | int i => exact .inl ⟨i, rfl, q _ H1 (Same.refl _) da_bl⟩
  | bl a => exact .inr ⟨a, rfl, q _ H1 (Same.refl _) da_bl⟩
  | _ => cases hd
theorem jd_dict1 {K : PySem.W.Frag} {W : Wd} {σ : St} {H : Hp} {c1 c2 : Nat} {i : Int} {d : PyData} {ta tb : TE} (ha : JD K W ta σ H c1 (.int i)) (hb : JD K W tb σ H c2 d) :
    JD K W (tDisp [(ta, tb)]) σ H (c1 + c2) (.dict []) := fun n H1 e hI hn Q q p hp => by
  have s := same_new (o := .dK []) hp
  have fr := W.fr hI hp
  refine ha n _ (e.trans (.of s)) (W.st s hI) (by omega) _ fun x H2 e2 hI2 hx => ?_
  refine hb (n + c1) H2 ((e.trans (.of s)).trans e2) hI2 (by omega) _ fun y H3 e3 hI3 hy => ?_
  have at3 : H3 p = some (.dK []) := e3 p _ fr (e2 p _ fr upd_same)
  refine ⟨at3, [(.inl i, y)], by rw [hx.int]; rfl, by simp, ?_⟩
  refine q _ _ (fun a o m z => ?_) ?_ (.dct fr upd_same)
  · have ne : a ≠ p := fun z2 => by subst z2; rw [hp] at z; cases z
    rw [upd_ne ne]
    exact e3 a o m (e2 a o m (s a o z))
  · rw [← Nat.add_assoc]
    exact W.sf (fun a f => upd_ne fun z2 => W.al hI (z2 ▸ f) hp) hI3
theorem jd_strI {K : PySem.W.Frag} {W : Wd} {σ : St} {H : Hp} {c : Nat} {i : Int} {t : TA} (h : JDA K W t σ H c [.int i]) (hi : i.natAbs.log2 < 1920) :
    JD K W (tCB (fun xs H Q => ∃ i, xs = [.int i] ∧ i.natAbs.log2 < 1920 ∧ Q (.str (toString i)) H) t) σ H c (.str (toString i)) := jd_cb h fun vs n H1 _ hv Q q => by
  obtain ⟨x, rfl, hx⟩ := dal1 hv
  rw [hx.int]
  exact ⟨i, rfl, hi, q _ H1 (Same.refl _) da_str⟩

/-- a def by its body, under known guards -/
theorem fun_okG {P : Program} {w : World} {K : PySem.W.Frag} {mg : Str → Option Value} {base : Heap} {x qual : Str} {st : Stmt} {f : Addr} {fd : FuncData} {N ps : List Str} {k : Nat} {sp : Sp}
    (F : Fun K x qual st f fd) (S : FnScope N ps (defScope st)) (ln : ∀ ys G R E, sp ys G R E → ys.length = ps.length)
    (hbody : ∀ (cdv : Value) (A : Around) (outer : List Env) (s : Shared) (G : Hp) (ys : List V) (R : VK) (E : XK), A.guards = some [] →
      Room k (A.deeper (envOfC qual (defScope st) s.heap.objs.size f cdv)) → sp ys G R E →
      ∃ t, PSs (cxOf CX0 P w K mg base N qual (defScope st) f cdv A outer s G E).nox (defBody st) t ∧ t { nx := fun _ G' => R .non G', rt := R } (start N ys) G) :
    FnG P w K mg base CX0 (k + 1) f fd ps sp := by
  obtain ⟨oc, od, kV, doc, pm, an, cdv, ct, osl, rfl, lk, hcd⟩ := F.ex
  refine fnG_of lk hcd S ln fun A outer s G ys R E hg hr hsp => ?_
  obtain ⟨t, h, z⟩ := hbody cdv A outer s G ys R E hg hr hsp
  exact ⟨t, h.nox, z⟩
section
variable {K : PySem.W.Frag} {W : Wd} {σ : St} {H : Hp} {c c1 c2 n : Nat} {te ta tb : TE}
/-- a list just made, by its items; two of them together -/
theorem jn_lst {t : TA} {ds : List PyData} (h : JDA K W t σ H c ds) (hl : ds.length ≤ 100000) : J W (tLst t) σ H c (fun v H2 => NewL K W H2 v ds) := fun m H1 e hI hn Q q =>
  h m H1 e hI hn _ fun vs H2 e2 hI2 hv => ⟨by rw [dal_len hv]; exact Nat.le_trans hl (by decide), fun p hp => q _ _ (e2.trans (.of (same_new hp))) (W.st (same_new hp) hI2)
    ⟨p, vs, rfl, W.fr hI2 hp, upd_same, hv.mono (.of (same_new hp))⟩⟩
theorem NewL.mono {H1 : Hp} {v : V} {ds : List PyData} (h : NewL K W H v ds) (e : ExM W.M H H1) : NewL K W H1 v ds :=
  let ⟨p, acc, e1, m, e2, d⟩ := h
  ⟨p, acc, e1, m, e p _ m e2, d.mono e⟩
theorem jn_cat {xs ys : List PyData} (ha : J W ta σ H c1 (fun v H2 => NewL K W H2 v xs)) (hb : J W tb σ H c2 (fun v H2 => NewL K W H2 v ys)) (hl : xs.length + ys.length ≤ 100000) :
    J W (tOp rCat ta tb) σ H (c1 + c2) (fun v H2 => NewL K W H2 v (xs ++ ys)) := fun m H1 e hI hn Q q =>
  ha m H1 e hI (by omega) _ fun x H2 e2 hI2 hx => hb (m + c1) H2 (e.trans e2) hI2 (by omega) _ fun y H3 e3 hI3 hy => by
    obtain ⟨p, us, rfl, mp, ep, dp⟩ := NewL.mono hx e3
    obtain ⟨r, ws, rfl, mr, er, dr⟩ := hy
    refine ⟨p, r, us, ws, rfl, rfl, ep, er, ?_, fun z hz => ?_⟩
    · have l1 := dal_len (W := W) dp
      have l2 := dal_len (W := W) dr
      exact Nat.le_trans (by omega) (show 100000 ≤ sizeLine by decide)
    · refine q _ _ ((e2.trans e3).trans (.of (same_new hz))) ?_ ⟨z, _, rfl, W.fr hI3 hz, upd_same, dal_app (dp.mono (.of (same_new hz))) (dr.mono (.of (same_new hz)))⟩
      rw [← Nat.add_assoc]
      exact W.st (same_new hz) hI3
theorem jn_v {i : Nat} {v : V} {ds : List PyData} (hv : σ[i]? = some (some v)) (h : NewL K W H v ds) : J W (tVar i) σ H 0 (fun v H2 => NewL K W H2 v ds) := fun m H1 e hI hn Q q =>
  ⟨v, hv, q v H1 .refl hI (NewL.mono h e)⟩
/-- while, where nothing changes: Pv is kept, m a measure -/
theorem st_while0 {D : Ends} {tt : TT} {tb : TS} (Pv : Nat → St → Hp → Prop) (m : Nat) (h0 : Pv m σ H)
    (ht : ∀ m σ H, Pv m σ H → ∃ b cc, JB K W0 tt σ H cc b ∧ cc ≤ BIG ∧ (b = false → ∀ H1, ExM W0.M H H1 → D.nx σ H1) ∧ (b = true → ∀ H1, ExM W0.M H H1 → ∀ N : St → Hp → Prop, (∀ m' σ' H', m' < m → Pv m' σ' H' → N σ' H') → tb { D with nx := N, ct := N, bk := D.nx } σ H1)) :
    tWhile tt tb D σ H := by
  refine ⟨Pv, ⟨m, h0⟩, fun m σ H w => ?_⟩
  obtain ⟨b, cc, h1, hc, h2, h3⟩ := ht m σ H w
  refine h1 0 H .refl trivial (by omega) _ fun x H1 e _ hx => ?_
  subst hx
  cases x with
  | false => rw [if_neg (by decide)]; exact h2 rfl H1 e
  | true => rw [if_pos rfl]; exact ⟨fun σ' H' => ∃ m', m' < m ∧ Pv m' σ' H', fun σ' H' z => z, h3 rfl H1 e _ fun m' σ' H' l z => ⟨m', l, z⟩⟩
theorem st_parX {D : Ends} {i j : Nat} {ta : TA} {ψ1 ψ2 : PyData → Prop} (hI : W.I n H)
    (h : JAX K W ta σ H c (fun ds => ∃ d r, ds = d :: r ∧ ψ1 d ∧ ∃ d2 r2, r = d2 :: r2 ∧ ψ2 d2 ∧ r2 = [])) (hc : n + c ≤ BIG)
    (k : ∀ x y d1 d2 H1, ExM W.M H H1 → W.I (n + c) H1 → ψ1 d1 → ψ2 d2 → Da K W H1 x d1 → Da K W H1 y d2 → D.nx ((σ.set i (some x)).set j (some y)) H1) : tPar i j ta D σ H :=
  h n H ExM.refl hI hc _ fun vs H1 e hI1 ⟨ds, ⟨d, r, e1, p1, d2, r2, e2, p2, e3⟩, hv⟩ => by
    subst e1 e2 e3
    obtain ⟨x, y, rfl, hx, hy⟩ := dal2 hv
    exact ⟨x, y, rfl, k x y d d2 H1 e hI1 p1 p2 hx hy⟩
theorem jxl_nl {ds : List PyData} {ψ : PyData → Prop} {m : Nat} (h : J W te σ H c (fun v H2 => NewL K W H2 v ds)) (hl : ds.length = m) (p : ∀ d ∈ ds, ψ d) : JXl K W te σ H c ψ m :=
  h.imp fun _ _ h => ⟨ds, hl, p, h.da⟩
/-! [x for x in xs if ..]: the items are those that stood there before, so lists may be among them -/
structure GivesS (K : PySem.W.Frag) (W : Wd) (J : It) (H : Hp) (ds : List PyData) : Prop where
  go : ∀ i H', ExM W.M H H' → i < ds.length → J.go i H'
  stop : ∀ H', ExM W.M H H' → J.stop ds.length H'
  yld : ∀ i H' x H'', ExM W.M H H' → i < ds.length → J.yld i H' x H'' → H'' = H' ∧ ∃ d, ds[i]? = some d ∧ Da K W H x d
theorem giveS_l {a : Addr} {xs : List V} {ds : List PyData} (hs : LsS K W.M H a xs) (hd : DaL K W H xs ds) : GivesS K W (Itl K a) H ds where
  go := (gives_l hs hd).go
  stop := (gives_l hs hd).stop
  yld := fun i H' x H'' e _ ⟨hh, hx⟩ => ⟨hh, dal_get (W := W) hd (hx xs (hs.mono e).sq)⟩
theorem giveS_t {a : Addr} {xs : List V} {ds : List PyData} (hs : TuS K W.M H a xs) (hd : DaL K W H xs ds) : GivesS K W (Itt K a) H ds where
  go := (gives_t hs hd).go
  stop := (gives_t hs hd).stop
  yld := fun i H' x H'' e _ ⟨hh, hx⟩ => ⟨hh, dal_get (W := W) hd (hx xs (hs.mono e).sq)⟩
theorem jb0 {tt : TT} {b b1 : Bool} (h : JB K W tt σ H c b) (x : b = b1) (hc : c ≤ c1) : JB K W tt σ H c1 b1 := fun m H1 e hI hn Q q =>
  h m H1 e hI (by omega) _ fun z H2 e2 hI2 hz => q z H2 e2 (W.mo (by omega) hI2) (hz.trans x)
theorem jl_lcS {tl : TE} {j : Nat} {vs : List Nat} {tt : TT} (p : PyData → Bool) {d0 : PyData} (ha : JD K W tl σ H c d0) (hq : isSeq d0 = true) (hl : (itemsD d0).length < 100000)
    (hw : ∀ x, wipe ((wipe σ vs).set j (some x)) vs = wipe σ vs) (hj : ∀ x, ((wipe σ vs).set j (some x))[j]? = some (some x))
    (ht : ∀ d x H1, d ∈ itemsD d0 → ExM W.M H H1 → Da K W H1 x d → JB K W tt ((wipe σ vs).set j (some x)) H1 0 (p d)) :
    J W (tLc (iSeq K tl) (gName j) tt (tVar j) vs) σ H c (fun v H2 => NewL K W H2 v ((itemsD d0).filter p)) := fun n H0 e hI hb Q q => by
  have core : ∀ (Jt : It) H1, ExM W.M H0 H1 → W.I (n + c) H1 → GivesS K W Jt H1 (itemsD d0) → ∀ Dl, H1 Dl = none →
      ∃ S : Nat → Nat → Hp → Prop, (∃ m, S 0 m (upd H1 Dl (.lst []))) ∧ ∀ i m H', S i m H' →
        (Jt.stop i H' ∧ Q (.ref Dl) H') ∨ (Jt.go i H' ∧ ∃ N : Hp → Prop, (∀ H2, N H2 → ∃ m', m' < m ∧ S (i + 1) m' H2) ∧ ∀ x H'', Jt.yld i H' x H'' →
          gName j x (wipe σ vs) H'' fun σ2 H2 => wipe σ2 vs = wipe σ vs ∧ tt σ2 H2 fun b H3 => if b = true then tVar j σ2 H3 fun y H4 => ∃ acc, H4 Dl = some (.lst acc) ∧ acc.length < sizeLine ∧ N (upd H4 Dl (.lst (acc ++ [y]))) else N H3) := by
    intro Jt H1 e1 hI1 hJ Dl hD
    have mD := W.fr hI1 hD
    refine ⟨fun i m H' => m = (itemsD d0).length - i ∧ i ≤ (itemsD d0).length ∧ ExM W.M H1 H' ∧ W.I (n + c) H' ∧ ∃ acc, H' Dl = some (.lst acc) ∧ DaL K W H1 acc (((itemsD d0).take i).filter p),
      ⟨_, rfl, Nat.zero_le _, .of (same_new hD), W.st (same_new hD) hI1, [], upd_same, by simpa using DaML.nil⟩, ?_⟩
    rintro i m H' ⟨rfl, hi, eC, iC, acc, ac, dc⟩
    by_cases hlt : i < (itemsD d0).length
    · refine .inr ⟨hJ.go i H' eC hlt, fun H2 => ExM W.M H1 H2 ∧ W.I (n + c) H2 ∧ ∃ acc, H2 Dl = some (.lst acc) ∧ DaL K W H1 acc (((itemsD d0).take (i + 1)).filter p),
        fun H2 ⟨z1, z2, z3⟩ => ⟨(itemsD d0).length - (i + 1), by omega, rfl, hlt, z1, z2, z3⟩, fun x H'' hy => ?_⟩
      obtain ⟨rfl, d, hd', hx⟩ := hJ.yld i H' x H'' eC hlt hy
      have hm : d ∈ itemsD d0 := List.mem_of_getElem? hd'
      have eA : ExM W.M H H'' := e.trans (e1.trans eC)
      refine ⟨hw x, ht d x H'' hm eA (hx.mono eC) (n + c) H'' .refl iC (by omega) _ fun b H3 e3 hI3 hb3 => ?_⟩
      have a3 := e3 Dl _ mD ac
      have tk : (itemsD d0).take (i + 1) = (itemsD d0).take i ++ [d] := by rw [List.take_add_one, hd']; rfl
      rw [tk, List.filter_append]
      subst hb3
      cases hp : p d with
      | true =>
        rw [show List.filter p [d] = [d] by simp [hp]]
        refine ⟨x, hj x, acc, a3, ?_, fun a o ma z => ?_, W.sf (fun a f => ?_) hI3, acc ++ [x], upd_same, dal_app dc (.cons hx .nil)⟩
        · have h1 := List.length_filter_le p ((itemsD d0).take i)
          have h2 : ((itemsD d0).take i).length ≤ (itemsD d0).length := by rw [List.length_take]; exact Nat.min_le_right _ _
          rw [dal_len (W := W) dc]
          exact Nat.lt_of_lt_of_le (by omega) (show 100000 ≤ sizeLine by decide)
        · rw [upd_ne (ne_of_none z hD)]; exact e3 a o ma (eC a o ma z)
        · rw [upd_ne (fun y => W.al hI1 f (by rw [y]; exact hD))]
      | false =>
        rw [show List.filter p [d] = [] by simp [hp], List.append_nil]
        exact ⟨eC.trans e3, hI3, acc, a3, dc⟩
    · have ei : i = (itemsD d0).length := by omega
      subst ei
      rw [List.take_length] at dc
      exact .inl ⟨hJ.stop H' eC, q _ H' (e1.trans eC) iC ⟨Dl, acc, rfl, mD, ac, dc.mono eC⟩⟩
  refine ha n H0 e hI hb _ fun x H1 e1 hI1 hx => ?_
  cases hx with
  | lst h1 h2 => exact ⟨_, rfl, .inl ⟨⟨_, h1.sq⟩, core _ H1 e1 hI1 (giveS_l h1 h2)⟩⟩
  | tup h1 h2 => exact ⟨_, rfl, .inr ⟨⟨_, h1.sq⟩, core _ H1 e1 hI1 (giveS_t h1 h2)⟩⟩
  | _ => cases hq
/-- a text out of signs of Lean's own may stand in data -/
theorem strOk_of (s : String) : PyData.strOk (Str.ofString s) = true := by
  rw [Str.ofString_eq_toList]
  unfold PyData.strOk
  rw [List.all_toArray, List.all_eq_true]
  intro c hc
  obtain ⟨d, _, rfl⟩ := List.mem_map.mp hc
  have h := d.valid
  have e : d.toNat = d.val.toNat := rfl
  refine decide_eq_true ?_
  rw [e]
  rcases h with h | ⟨_, h⟩
  · exact Nat.lt_trans h (by decide)
  · exact h
theorem eqv_nilD : ∀ xs : List PyData, PyData.eqv (.list xs) (.list []) = xs.isEmpty
  | [] => rfl
  | _ :: _ => rfl
theorem jd_neS {x y : Str} (ha : JD K W ta σ H c1 (.str x)) (hb : JD K W tb σ H c2 (.str y)) : JD K W (tOp rNe ta tb) σ H (c1 + c2) (.bool (!decide (x = y))) := jd_op ha hb fun u v n H1 _ hx hy Q q => by
  have e1 := hx.str; have e2 := hy.str; subst e1 e2
  refine ⟨rfl, ?_⟩
  have := q (.bl (!decide (x = y))) H1 (Same.refl _) da_bl
  have e : decide (V.str x = V.str y) = decide (x = y) := by by_cases h : x = y <;> simp [h]
  rw [e]; exact this
end
end Jl

set_option Elab.async false
set_option linter.all false
set_option maxRecDepth 100000
namespace K02
open PySem PySem.Spec PyProof.Rows L2 Jl

local macro_rules | `(tactic| walk_at "da") => `(tactic| first | assumption | exact da_int | exact da_bl | exact da_non | exact da_str | (refine' Da.mono ?k1 ?k2; (case k2 => assumption); (case k1 => walk_at "da")))
local macro_rules | `(tactic| walk_at "jc") => `(tactic| first | assumption | exact trivial | (refine cmulw ?_ ?_ <;> assumption) | (show (0 : Int) < _; omega) | (refine Or.inl ⟨?_, ?_⟩ <;> omega) | (refine Or.inr ⟨?_, ?_⟩ <;> omega))
local macro_rules | `(tactic| walk_at "j") => `(tactic| first
  | exact jd_int | exact jd_non | exact jd_bl | exact jd_str
  | exact jd_vi rfl
  | (refine' jd_v rfl ?k1; (case k1 => walk_at "da"))
  | (refine' jd_Ii ?k1 ?k2 ?k3; (case k1 => walk_at "j"); (case k2 => walk_at "j"); (case k3 => walk_at "jc"))
  | (refine' jd_I0i ?k1 ?k2; (case k1 => walk_at "j"); (case k2 => walk_at "j"))
  | (refine' jd_I0b ?k1 ?k2; (case k1 => walk_at "j"); (case k2 => walk_at "j"))
  | (refine' jd_neg ?k1; (case k1 => walk_at "j"))
  | (refine' jd_eqI ?k1 ?k2; (case k1 => walk_at "j"); (case k2 => walk_at "j"))
  | (refine' jd_neI ?k1 ?k2; (case k1 => walk_at "j"); (case k2 => walk_at "j"))
  | (refine' jd_eqB ?k1 ?k2; (case k1 => walk_at "j"); (case k2 => walk_at "j"))
  | (refine' jd_neB ?k1 ?k2; (case k1 => walk_at "j"); (case k2 => walk_at "j"))
  | (refine' jd_eqD ?k1 ?k2 ?k3 ?k4; (case k1 => walk_at "j"); (case k2 => walk_at "j"); (case k3 => walk_at "sh"); (case k4 => walk_at "sh"))
  | (refine' jd_neD ?k1 ?k2 ?k3 ?k4; (case k1 => walk_at "j"); (case k2 => walk_at "j"); (case k3 => walk_at "sh"); (case k4 => walk_at "sh"))
  | (refine' jd_ix ?k1 ?k2 ?k3 ?k4; (case k1 => walk_at "j"); (case k2 => walk_at "j"); (case k3 => walk_at "seq"); (case k4 => walk_at "at"))
  | (refine' jd_tup ?k1 ?k2; (case k1 => walk_at "ja"); (case k2 => (simp only [List.length_cons, List.length_nil]; decide)))
  | (refine' jd_lst ?k1 ?k2; (case k1 => walk_at "ja"); (case k2 => (simp only [List.length_cons, List.length_nil]; decide)))
  | (refine' jd_gcd ?k1; (case k1 => walk_at "ja"))
  | (refine' jd_lenS ?k1 ?k2; (case k1 => walk_at "ja"); (case k2 => walk_at "seq"))
  | (refine' jd_abs ?k1; (case k1 => walk_at "ja"))
  | (refine' jd_int1 ?k1; (case k1 => walk_at "ja"))
  | (refine' jd_intB ?k1; (case k1 => walk_at "ja"))
  | (refine' jd_isi ?k1 ?k2; (case k1 => walk_at "j"); (case k2 => first | exact kit_int | exact kit_bool | exact kit_list | exact kit_tuple))
  | (refine' jd_isi2 ?k1 ?k2 ?k3; (case k1 => walk_at "j"); (case k2 => exact kit_list); (case k3 => exact kit_tuple))
  | (refine' jd_isN ?k1 ?k2; (case k1 => walk_at "j"); (case k2 => exact jd_non))
  | (refine' jd_notN ?k1 ?k2; (case k1 => walk_at "j"); (case k2 => exact jd_non))
  | (refine' jd_andV ?k1 ?k2; (case k1 => walk_at "j"); (case k2 => first | exact (fun hyp => Bool.noConfusion (show false = true from hyp) : _ → JD _ _ _ _ _ 0 (PyData.bool true)) | (intro hyp; walk_at "j")))
  | (refine' jd_orV ?k1 ?k2; (case k1 => walk_at "j"); (case k2 => first | exact (fun hyp => Bool.noConfusion (show true = false from hyp) : _ → JD _ _ _ _ _ 0 (PyData.bool false)) | (intro hyp; walk_at "j")))
  | (refine' jd_notV ?k1; (case k1 => walk_at "j"))
  | (refine' jd_countB ?k1 ?k2; (case k1 => walk_at "j"); (case k2 => walk_at "j"))
  | (refine' jd_call ?k1 ?k2 ?k3; (case k1 => walk_at "ja"); (case k2 => walk_at "rel"); (case k3 => first | rfl | assumption)))
local macro_rules | `(tactic| walk_at "ja") => `(tactic| first | exact ja_nil | (refine' ja_cons ?k1 ?k2; (case k1 => walk_at "j"); (case k2 => walk_at "ja")))
local macro_rules | `(tactic| walk_at "jt") => `(tactic| first
  | (refine' jb_test ?k1; (case k1 => walk_at "j"))
  | (refine' jb_B ?k1; (case k1 => walk_at "j"))
  | (refine' jb_not ?k1; (case k1 => walk_at "jt"))
  | (refine' jb_and ?k1 ?k2; (case k1 => walk_at "jt"); (case k2 => (intro hyp; walk_at "jt")))
  | (refine' jb_or ?k1 ?k2; (case k1 => walk_at "jt"); (case k2 => (intro hyp; walk_at "jt"))))
local macro_rules | `(tactic| walk_at "seq") => `(tactic| first | rfl | assumption | exact seq_hyp (by assumption) | exact isFr_seq (by assumption))
local macro_rules | `(tactic| walk_at "at") => `(tactic| first | rfl | assumption | exact at0 (by assumption) | exact at1 (by assumption) | (walk_at "atx"))
local macro_rules | `(tactic| walk_at "ex") => `(tactic| first | exact ExM.refl | assumption | (refine' ExM.trans ?k1 ?k2; (case k2 => assumption); (case k1 => walk_at "ex")))
local macro_rules | `(tactic| walk_at "re") => `(tactic| rfl)
local macro_rules | `(tactic| walk_at "ret") => `(tactic| ((try refine st_nx ?_); (try refine nx_mk ?_); refine' pure_ret ?k0 (by assumption) (JD.eq ?k1 ?k2) ?k3; (case k1 => walk_at "j"); (case k2 => walk_at "re"); (case k3 => decide); (case k0 => walk_at "ex")))
local macro_rules | `(tactic| walk_at "nx") => `(tactic| ((first | refine st_nx ?_ | refine nx_mk ?_ | skip); try refine st_seq ?_))
local macro_rules | `(tactic| walk_at "sh") => `(tactic| first | exact shaped_fr _ | exact shaped_0 | exact shaped_1 | rfl)

local macro_rules | `(tactic| walk_at "j") => `(tactic| first
  | (refine' jd_notB ?k1 ?k2 ?k3; (case k1 => walk_at "j"); (case k2 => exact jd_bl); (case k3 => assumption))
  | (refine' jd_strI ?k1 ?k2; (case k1 => walk_at "ja"); (case k2 => assumption))
  | (refine' jd_dict1 ?k1 ?k2; (case k1 => walk_at "j"); (case k2 => walk_at "j"))
  | (refine' jd_callN ?k1 ?k2 ?k4 ?k5 ?k3 ?k6; (case k1 => walk_at "ja"); (case k2 => walk_at "ja"); (case k3 => walk_at "rel"); (case k4 => rfl); (case k5 => rfl); (case k6 => rfl)))

def topS (i : Nat) : Stmt := PySem.Challenge.pw_nodice_k02_what_any_value_is.main.body.getD i (.Pass ⟨0, 0, 0, 0⟩)
--DEF is_integer
abbrev s_is_integer : Stmt := topS 2
theorem sc_is_integer : FnScope ["value"] ["value"] (defScope s_is_integer) := ⟨rfl, rfl, rfl, by decide +kernel, rfl, by decide +kernel, by decide +kernel⟩
--DEF is_within
abbrev s_is_within : Stmt := topS 3
theorem sc_is_within : FnScope ["value", "least", "most"] ["value", "least", "most"] (defScope s_is_within) := ⟨rfl, rfl, rfl, by decide +kernel, rfl, by decide +kernel, by decide +kernel⟩
--DEF are_integers
abbrev s_are_integers : Stmt := topS 4
theorem sc_are_integers : FnScope ["value", "many", "each"] ["value", "many"] (defScope s_are_integers) := ⟨rfl, rfl, rfl, by decide +kernel, rfl, by decide +kernel, by decide +kernel⟩
--DEF is_fraction
abbrev s_is_fraction : Stmt := topS 5
theorem sc_is_fraction : FnScope ["value"] ["value"] (defScope s_is_fraction) := ⟨rfl, rfl, rfl, by decide +kernel, rfl, by decide +kernel, by decide +kernel⟩
--DEF _law_riddle
abbrev s__law_riddle : Stmt := topS 7
theorem sc__law_riddle : FnScope ["_law_script", "_law_cell"] ["_law_script"] (defScope s__law_riddle) := ⟨rfl, rfl, rfl, by decide +kernel, rfl, by decide +kernel, by decide +kernel⟩
--DEF _law_shake
abbrev s__law_shake : Stmt := topS 8
theorem sc__law_shake : FnScope ["_law_riddle_here", "_law_many", "_law_rest", "_law_at", "_law_cell", "_law_mixed"] ["_law_riddle_here", "_law_many"] (defScope s__law_shake) := ⟨rfl, rfl, rfl, by decide +kernel, rfl, by decide +kernel, by decide +kernel⟩
--DEF _law_pick
abbrev s__law_pick : Stmt := topS 9
theorem sc__law_pick : FnScope ["_law_riddle_here", "_law_some"] ["_law_riddle_here", "_law_some"] (defScope s__law_pick) := ⟨rfl, rfl, rfl, by decide +kernel, rfl, by decide +kernel, by decide +kernel⟩
--DEF _law_small
abbrev s__law_small : Stmt := topS 10
theorem sc__law_small : FnScope ["_law_riddle_here"] ["_law_riddle_here"] (defScope s__law_small) := ⟨rfl, rfl, rfl, by decide +kernel, rfl, by decide +kernel, by decide +kernel⟩
--DEF _law_any
abbrev s__law_any : Stmt := topS 11
theorem sc__law_any : FnScope ["_law_riddle_here", "_law_one", "_law_other", "_law_by", "_law_some"] ["_law_riddle_here"] (defScope s__law_any) := ⟨rfl, rfl, rfl, by decide +kernel, rfl, by decide +kernel, by decide +kernel⟩
--DEF _law_whole
abbrev s__law_whole : Stmt := topS 12
theorem sc__law_whole : FnScope ["_law_value"] ["_law_value"] (defScope s__law_whole) := ⟨rfl, rfl, rfl, by decide +kernel, rfl, by decide +kernel, by decide +kernel⟩
--DEF _law_divisor
abbrev s__law_divisor : Stmt := topS 13
theorem sc__law_divisor : FnScope ["_law_one", "_law_other"] ["_law_one", "_law_other"] (defScope s__law_divisor) := ⟨rfl, rfl, rfl, by decide +kernel, rfl, by decide +kernel, by decide +kernel⟩
--DEF _law_row
abbrev s__law_row : Stmt := topS 14
theorem sc__law_row : FnScope ["_law_value", "_law_many", "_law_each"] ["_law_value", "_law_many"] (defScope s__law_row) := ⟨rfl, rfl, rfl, by decide +kernel, rfl, by decide +kernel, by decide +kernel⟩
--DEF law
abbrev s_law : Stmt := topS 15
theorem sc_law : FnScope ["_law_script", "_law_riddle_here", "_law_turn", "_law_value", "_law_many", "_law_least", "_law_most", "_law_whole_here", "_law_within", "_law_fraction", "_law_told"] ["_law_script"] (defScope s_law) := ⟨rfl, rfl, rfl, by decide +kernel, rfl, by decide +kernel, by decide +kernel⟩
--SEC
section
variable {P : Program} {w : World} {K : PySem.W.Frag} {mg : Str → Option Value} {base : Heap}
--OK is_integer
def rel_is_integer : List PyData → PyData → Prop := fun ds r => ∃ d, ds = [d] ∧ r = .bool (isI d)
set_option maxHeartbeats 4000000 in
theorem ok_is_integer {f_is_integer : Addr} {fd_is_integer : FuncData} (F : Fun K "is_integer" "is_integer" s_is_integer f_is_integer fd_is_integer) (m_isinstance : mg "isinstance" = none)
    (m_int : mg "int" = none)
    (m_bool : mg "bool" = none) :
    FnOk P w K mg base CX0 1 f_is_integer fd_is_integer ["value"] (spPure K rel_is_integer) := by
  refine Fun.ok F sc_is_integer (fun vs H Q E h => ?_) (fun cdv A outer s H vs Q E hr h => ?_)
  · obtain ⟨ds, r, hd, hr0, _⟩ := h; obtain ⟨d, rfl, rfl⟩ := hr0; exact isD_len hd
  · obtain ⟨ds, r, hd, hr0, q⟩ := h
    obtain ⟨d, rfl, rfl⟩ := hr0
    obtain ⟨x0, rfl, h0⟩ := dal1 (W := W0) (dpl0 _ _ hd)
    refine ⟨_, (pss_one (ps_ret (pe_and (pe_callB (id := "isinstance") (r := rIsi K) call_isi (by rfl) m_isinstance (by decide +kernel) (pa_cons (pv 0) (pa_cons (pe_bltn (v := .ty "int") (by rfl) m_int (by decide +kernel) rfl) pa_nil))) (pe_one (pe_not (pe_callB (id := "isinstance") (r := rIsi K) call_isi (by rfl) m_isinstance (by decide +kernel) (pa_cons (pv 0) (pa_cons (pe_bltn (v := .ty "bool") (by rfl) m_bool (by decide +kernel) rfl) pa_nil)))))))), ?_⟩
    refine' pure_ret (ExM.refl) q (JD.eq ?j ?e) ?kc
    case j => walk_at "j"
    case e => (cases d <;> rfl)
    case kc => decide
--OK is_within
local macro_rules | `(tactic| walk_at "rel") => `(tactic| exact ⟨_, rfl, rfl⟩)
def rel_is_within : List PyData → PyData → Prop := fun ds r => ∃ d lo hi, ds = [d, lo, hi] ∧ (lo = .none ∨ ∃ i, lo = .int i) ∧ (hi = .none ∨ ∃ i, hi = .int i) ∧ r = .bool (within d lo hi)
set_option maxHeartbeats 4000000 in
theorem ok_is_within {f_is_within : Addr} {fd_is_within : FuncData} (F : Fun K "is_within" "is_within" s_is_within f_is_within fd_is_within) {f_is_integer : Addr} {fd_is_integer : FuncData} (G_is_integer : FnOk P w K mg base CX0 1 f_is_integer fd_is_integer ["value"] (spPure K rel_is_integer)) (g_is_integer : mg "is_integer" = some (.ref f_is_integer)) (k_is_integer : PySem.W.keepIn K (.ref f_is_integer) = true) (b_is_integer : Binds K fd_is_integer ["value"] []) :
    FnOk P w K mg base CX0 2 f_is_within fd_is_within ["value", "least", "most"] (spPure K rel_is_within) := by
  refine Fun.ok F sc_is_within (fun vs H Q E h => ?_) (fun cdv A outer s H vs Q E hr h => ?_)
  · obtain ⟨ds, r, hd, hr0, _⟩ := h; obtain ⟨d, lo, hi, rfl, hlo, hhi, rfl⟩ := hr0; exact isD_len hd
  · obtain ⟨ds, r, hd, hr0, q⟩ := h
    obtain ⟨d, lo, hi, rfl, hlo, hhi, rfl⟩ := hr0
    obtain ⟨x0, x1, x2, rfl, h0, h1, h2⟩ := dal3 (W := W0) (dpl0 _ _ hd)
    refine ⟨_, (pss_cons (ps_if (pt_not (pt_val (pe_call G_is_integer (hr.mono (by decide)) (by rfl) g_is_integer k_is_integer b_is_integer .nil pass0 (pa_cons (pv 0) pa_nil))))
      (pss_one (ps_ret pe_bl))
      pss_nil)
    (pss_one (ps_ret (pe_and (pe_or (pe_cmpR op_isN (pv 1) pe_non (nomark _)) (pe_one (pe_cmpR op_le (pv 1) (pv 0) (nomark _)))) (pe_one (pe_or (pe_cmpR op_isN (pv 2) pe_non (nomark _)) (pe_one (pe_cmpR op_le (pv 0) (pv 2) (nomark _))))))))), ?_⟩
    refine' st_if0 (K := K) (b := !isI d) (JB.eq ?jt ?jr) ?kc (fun hb H1 e1 => ?m1) (fun hb H1 e1 => ?m2)
    case jt => walk_at "jt"
    case jr => rfl
    case kc => decide
    case m1 =>
      refine' pure_ret e1 q (JD.eq ?j ?e) ?kc
      case j => walk_at "j"
      case e => (rw [Bool.not_eq_true'] at hb; unfold within; rw [hb]; rfl)
      case kc => decide
    case m2 =>
      cases d with
      | int i =>
        rcases hlo with rfl | ⟨lo, rfl⟩ <;> rcases hhi with rfl | ⟨hi, rfl⟩ <;> walk_at "ret"
      | _ => exact absurd hb (by simp [isI])
--OK are_integers
local macro_rules | `(tactic| walk_at "rel") => `(tactic| exact ⟨_, rfl, rfl⟩)
def rel_are_integers : List PyData → PyData → Prop := fun ds r => ∃ d n, ds = [d, .int n] ∧ (itemsD d).length < 100000 ∧ r = .bool (areI d n)
set_option maxHeartbeats 4000000 in
theorem ok_are_integers {f_are_integers : Addr} {fd_are_integers : FuncData} (F : Fun K "are_integers" "are_integers" s_are_integers f_are_integers fd_are_integers) (m_all : mg "all" = none)
    {f_is_integer : Addr} {fd_is_integer : FuncData} (G_is_integer : FnOk P w K mg base CX0 1 f_is_integer fd_is_integer ["value"] (spPure K rel_is_integer)) (g_is_integer : mg "is_integer" = some (.ref f_is_integer)) (k_is_integer : PySem.W.keepIn K (.ref f_is_integer) = true) (b_is_integer : Binds K fd_is_integer ["value"] [])
    (m_isinstance : mg "isinstance" = none)
    (m_tuple : mg "tuple" = none)
    (m_list : mg "list" = none)
    (m_len : mg "len" = none) :
    FnOk P w K mg base CX0 2 f_are_integers fd_are_integers ["value", "many"] (spPure K rel_are_integers) := by
  refine Fun.ok F sc_are_integers (fun vs H Q E h => ?_) (fun cdv A outer s H vs Q E hr h => ?_)
  · obtain ⟨ds, r, hd, hr0, _⟩ := h; obtain ⟨d, n, rfl, hl, rfl⟩ := hr0; exact isD_len hd
  · obtain ⟨ds, r, hd, hr0, q⟩ := h
    obtain ⟨d, n, rfl, hl, rfl⟩ := hr0
    obtain ⟨x0, x1, rfl, h0, h1⟩ := dal2 (W := W0) (dpl0 _ _ hd)
    refine ⟨_, (pss_cons (ps_if (PW.pt (pw_or (pt_not (pt_val (pe_callB (id := "isinstance") (r := rIsiT K) call_isiT (by rfl) m_isinstance (by decide +kernel) (pa_cons (pv 0) (pa_cons (pe_tup (pa_cons (pe_bltn (v := .ty "list") (by rfl) m_list (by decide +kernel) rfl) (pa_cons (pe_bltn (v := .ty "tuple") (by rfl) m_tuple (by decide +kernel) rfl) pa_nil))) pa_nil))))) (pw_or1 (pt_cmpR op_ne (pe_callB (id := "len") (r := (fun xs H Q => ∃ p ys, xs = [.ref p] ∧ (SqL K H p ys ∨ SqT K H p ys) ∧ Q (.int ys.length) H)) call_len_seq (by rfl) m_len (by decide +kernel) (pa_cons (pv 0) pa_nil)) (pv 1) (nomark _)))))
      (pss_one (ps_ret pe_bl))
      pss_nil)
    (pss_one (ps_ret (pe_callB (id := "all") (r := rAll K) (cr_all rfl) (by rfl) m_all (by decide +kernel) (pa_cons (pe_lc (own := [("each", 2)]) (g := gName 2) (tt := tYes) rfl sc_are_integers.nd (pi_seq (pv 0)) (blkOk_by (N := ["value", "many", "each"]) (sc := defScope s_are_integers) (by decide +kernel)) (fun _ _ _ _ _ => pg_name (i := 2) sc_are_integers.nd rfl (Or.inl rfl)) (fun _ _ _ _ _ => pts_nil) (fun _ _ _ _ _ => (pe_call G_is_integer (hr.mono (by decide)) (by rfl) g_is_integer k_is_integer b_is_integer .nil pass0 (pa_cons (pv 2) pa_nil)))) pa_nil))))), ?_⟩
    refine' st_if0 (K := K) (b := !(isLst d || isTup d) || !decide ((lenD d : Int) = n)) (JB.eq ?jt ?jr) ?kc (fun hb H1 e1 => ?m1) (fun hb H1 e1 => ?m2)
    case jt => (cases h1; walk_at "jt")
    case jr => rfl
    case kc => decide
    case m1 =>
      refine' pure_ret e1 q (JD.eq ?j ?e) ?kc
      case j => walk_at "j"
      case e => (rw [seq_or] at hb; unfold areI; revert hb; cases isSeq d <;> cases decide ((lenD d : Int) = n) <;> simp)
      case kc => decide
    case m2 =>
      rw [seq_or] at hb
      have hs : isSeq d = true := by revert hb; cases isSeq d <;> simp
      have hn : decide ((lenD d : Int) = n) = true := by revert hb; cases decide ((lenD d : Int) = n) <;> simp
      (first | refine st_nx ?_ | refine nx_mk ?_)
      refine' pure_ret e1 q (JD.eq (jd_all (bs := (itemsD d).map isI) ?j) ?e) ?kc
      case j =>
        refine' ja_cons (JD.eq (jd_lc1 (fun d => .bool (isI d)) ?k1 hs rfl hl (fun x => rfl) ?he ?hn) ?eq) ja_nil
        case k1 => walk_at "j"
        case he => intro d' x H2 _ e2 hx; refine' jd0 ?j3 rfl ?l3; (case j3 => walk_at "j"); (case l3 => decide)
        case hn => intro _ _; rfl
        case eq => rw [List.map_map]; rfl
      case e => (unfold areI; rw [hs, hn, List.all_map]; rfl)
      case kc => decide
--OK is_fraction
local macro_rules | `(tactic| walk_at "rel") => `(tactic| exact ⟨_, _, rfl, by assumption, rfl⟩)
local macro_rules | `(tactic| walk_at "atx") => `(tactic| (simp only [*]; rfl))
def rel_is_fraction : List PyData → PyData → Prop := fun ds r => ∃ d, ds = [d] ∧ (itemsD d).length < 100000 ∧ r = .bool (isFrB d)
set_option maxHeartbeats 4000000 in
theorem ok_is_fraction {f_is_fraction : Addr} {fd_is_fraction : FuncData} (F : Fun K "is_fraction" "is_fraction" s_is_fraction f_is_fraction fd_is_fraction) {f_are_integers : Addr} {fd_are_integers : FuncData} (G_are_integers : FnOk P w K mg base CX0 2 f_are_integers fd_are_integers ["value", "many"] (spPure K rel_are_integers)) (g_are_integers : mg "are_integers" = some (.ref f_are_integers)) (k_are_integers : PySem.W.keepIn K (.ref f_are_integers) = true) (b_are_integers : Binds K fd_are_integers ["value", "many"] [])
    (g_gcd : mg "gcd" = some (.builtin "math.gcd")) :
    FnOk P w K mg base CX0 3 f_is_fraction fd_is_fraction ["value"] (spPure K rel_is_fraction) := by
  refine Fun.ok F sc_is_fraction (fun vs H Q E h => ?_) (fun cdv A outer s H vs Q E hr h => ?_)
  · obtain ⟨ds, r, hd, hr0, _⟩ := h; obtain ⟨d, rfl, hl, rfl⟩ := hr0; exact isD_len hd
  · obtain ⟨ds, r, hd, hr0, q⟩ := h
    obtain ⟨d, rfl, hl, rfl⟩ := hr0
    obtain ⟨x0, rfl, h0⟩ := dal1 (W := W0) (dpl0 _ _ hd)
    refine ⟨_, (pss_one (ps_ret (pe_and (pe_call G_are_integers (hr.mono (by decide)) (by rfl) g_are_integers k_are_integers b_are_integers .nil pass0 (pa_cons (pv 0) (pa_cons pe_int pa_nil))) (pe_and (pe_cmpR op_gt (pe_ix (r := rIx K) ix_seq (pv 0) pe_int (fun _ _ => rfl)) pe_int (nomark _)) (pe_one (pe_cmpR op_eq (pe_callBfun cr_gcd (by rfl) g_gcd (pa_cons (pe_ix (r := rIx K) ix_seq (pv 0) pe_int (fun _ _ => rfl)) (pa_cons (pe_ix (r := rIx K) ix_seq (pv 0) pe_int (fun _ _ => rfl)) pa_nil))) pe_int (nomark _))))))), ?_⟩
    by_cases hB : areI d 2 = true
    · obtain ⟨a, b, hs, hi⟩ := areI2 hB
      refine' pure_ret ExM.refl q (JD.eq ?j ?e) ?kc
      case j => walk_at "j"
      case e => (rw [isFrB_pair hs hi, hB, Bool.true_and])
      case kc => decide
    · rw [Bool.not_eq_true] at hB
      refine' pure_ret ExM.refl q (JD.eq (jd_andV (JD.eq ?j1 ?e1) (fun hyp => (Bool.noConfusion (show false = true from hyp) : JD K W0 _ _ _ 0 (.bool true)))) ?e) ?kc
      case j1 => walk_at "j"
      case e1 => rw [hB]
      case e => (rw [isFrB_not hB]; rfl)
      case kc => decide
--OK _law_riddle
set_option maxHeartbeats 4000000 in
theorem ok__law_riddle {f__law_riddle : Addr} {fd__law_riddle : FuncData} (F : Fun K "_law_riddle" "_law_riddle" s__law_riddle f__law_riddle fd__law_riddle) (m_int : mg "int" = none) :
    FnOk P w K mg base CX0 1 f__law_riddle fd__law_riddle ["_law_script"] (spSat K) := by
  refine Fun.ok F sc__law_riddle (fun vs H Q E h => ?_) (fun cdv A outer s H vs Q E hr h => ?_)
  · obtain ⟨a, ns, rfl, _⟩ := h; rfl
  · obtain ⟨a, ns, rfl, hS, hlen, q⟩ := h
    refine ⟨_, (pss_one (ps_ret (pe_lst (pa_cons (pe_lc (own := [("_law_cell", 1)]) (g := gName 1) (tt := tYes) rfl sc__law_riddle.nd (pi_seq (pe_slice (r := rSlL K) sl_list (pv 0) po_none (po_some pe_int))) (blkOk_by (N := ["_law_script", "_law_cell"]) (sc := defScope s__law_riddle) (by decide +kernel)) (fun _ _ _ _ _ => pg_name (i := 1) sc__law_riddle.nd rfl (Or.inl rfl)) (fun _ _ _ _ _ => pts_nil) (fun _ _ _ _ _ => (pe_callTy (T := "int") call_int1 (by rfl) m_int (by decide +kernel) (pa_cons (pv 1) pa_nil)))) (pa_cons pe_int (pa_cons pe_int pa_nil)))))), ?_⟩
    have hA : Da K W0 H (.ref a) (.list (ns.map PyData.int)) := da_sq hS (dal_of_ints ns)
    refine sat_ret (K := K) (ns := ns.take 60) (by rw [List.length_take]; omega) ?_ ?_ ?_ q
    · refine' J.le (J.imp (jl_lc1 (K := K) (ds := (ns.map PyData.int).take 60) (d0 := .list ((ns.map PyData.int).take 60)) (fun d => d) (JD.eq (jd_slL (ds := ns.map PyData.int) (lo := none) (hi := some 60) ?j1 jo_no (jo_int (K := K) jd_int)) ?e1) rfl rfl ?l1 (fun x => rfl) ?he ?hn) ?im) ?l2
      case j1 => walk_at "j"
      case e1 => exact congrArg PyData.list (cutD_to (ns.map PyData.int) 60)
      case l1 => (show ((ns.map PyData.int).take 60).length < 100000; rw [List.length_take]; omega)
      case he =>
        intro d x H1 hm _ hx
        obtain ⟨i, rfl⟩ := mem_ints (List.mem_of_mem_take hm)
        cases hx
        refine' jd0 ?j3 rfl ?l3
        case j3 => walk_at "j"
        case l3 => decide
      case hn =>
        intro d hm
        obtain ⟨i, rfl⟩ := mem_ints (List.mem_of_mem_take hm)
        rfl
      case im =>
        intro v H2 h2
        rw [List.map_id', ← List.map_take] at h2
        exact h2
      case l2 => decide
    · exact jd_int
    · exact jd_int
--OK _law_shake
local macro_rules | `(tactic| walk_at "jc") => `(tactic| first | assumption | (show CDiv _ 64; exact ⟨by decide, by decide⟩) | (show (0 : Int) < _; omega) | exact Or.inl ⟨by decide, by decide⟩ | exact (⟨by decide, by decide, by decide⟩ : CPow 10 18))
local macro_rules | `(tactic| walk_at "at") => `(tactic| rfl)
set_option maxHeartbeats 4000000 in
theorem ok__law_shake {f__law_shake : Addr} {fd__law_shake : FuncData} (F : Fun K "_law_shake" "_law_shake" s__law_shake f__law_shake fd__law_shake) (m_int : mg "int" = none)
    (m_len : mg "len" = none)
    (m_abs : mg "abs" = none) :
    FnOk P w K mg base CX0 1 f__law_shake fd__law_shake ["_law_riddle_here", "_law_many"] spDraw := by
  refine Fun.ok F sc__law_shake (fun vs H Q E h => ?_) (fun cdv A outer s H vs Q E hr h => ?_)
  · obtain ⟨b, c, n, many, rfl, _⟩ := h; rfl
  · obtain ⟨b, c, n, many, rfl, hS, hn, hm0, hm1, q⟩ := h
    have hcb := sat_cb hS
    obtain ⟨at', rest, cs, hb, hc, ha0, ha1, hr0, hlen⟩ := hS
    have hB := satDa (K := K) hb hc
    have hat : at' ≤ 1000000 := by have : (BIG : Nat) = 1000000 := rfl; omega
    have hCD : CDiv rest many := ⟨hm0, by omega⟩
    refine ⟨_, (pss_cons (ps_if (pt_cmpR op_gt (pe_ix (r := rIx K) ix_seq (pv 0) pe_int (fun _ _ => rfl)) pe_int (nomark _))
      (pss_cons (ps_set (i := 2) sc__law_shake.nd rfl (.inl rfl) (pe_callTy (T := "int") call_int1 (by rfl) m_int (by decide +kernel) (pa_cons (pe_ix (r := rIx K) ix_seq (pv 0) pe_int (fun _ _ => rfl)) pa_nil)))
    (pss_cons (ps_asg (pe_op op_fdiv (pv 2) (pv 1)) (pg_sub (pv 0) pe_int set_list))
    (pss_one (ps_ret (pe_op op_mod (pe_callTy (T := "int") call_int1 (by rfl) m_int (by decide +kernel) (pa_cons (pv 2) pa_nil)) (pv 1))))))
      pss_nil)
    (pss_cons (ps_set (i := 3) sc__law_shake.nd rfl (.inl rfl) (pe_ix (r := rIx K) ix_seq (pv 0) pe_int (fun _ _ => rfl)))
    (pss_cons (ps_asg (pe_op op_add (pv 3) pe_int) (pg_sub (pv 0) pe_int set_list))
    (pss_cons (ps_if (pt_cmpR (r := rEqD K) (op_eqD hr.units) (pe_ix (r := rIx K) ix_seq (pv 0) pe_int (fun _ _ => rfl)) (pe_lst pa_nil) (nomark _))
      (pss_one (ps_ret pe_int))
      pss_nil)
    (pss_cons (ps_set (i := 4) sc__law_shake.nd rfl (.inl rfl) (pe_ix (r := rIx K) ix_seq (pe_ix (r := rIx K) ix_seq (pv 0) pe_int (fun _ _ => rfl)) (pe_op op_mod (pe_callTy (T := "int") call_int1 (by rfl) m_int (by decide +kernel) (pa_cons (pv 3) pa_nil)) (pe_callB (id := "len") (r := (fun xs H Q => ∃ p ys, xs = [.ref p] ∧ (SqL K H p ys ∨ SqT K H p ys) ∧ Q (.int ys.length) H)) call_len_seq (by rfl) m_len (by decide +kernel) (pa_cons (pe_ix (r := rIx K) ix_seq (pv 0) pe_int (fun _ _ => rfl)) pa_nil))) (fun _ _ => rfl)))
    (pss_cons (ps_if (PW.pt (pw_and (pt_cmpR op_lt (pv 3) (pe_callB (id := "len") (r := (fun xs H Q => ∃ p ys, xs = [.ref p] ∧ (SqL K H p ys ∨ SqT K H p ys) ∧ Q (.int ys.length) H)) call_len_seq (by rfl) m_len (by decide +kernel) (pa_cons (pe_ix (r := rIx K) ix_seq (pv 0) pe_int (fun _ _ => rfl)) pa_nil)) (nomark _)) (pw_and1 (pt_cmpR op_ge (pe_callB (id := "abs") call_abs (by rfl) m_abs (by decide +kernel) (pa_cons (pv 4) pa_nil)) (pe_op op_pow pe_int pe_int) (nomark _)))))
      (pss_cons (ps_set (i := 2) sc__law_shake.nd rfl (.inl rfl) (pe_op op_add (pe_op op_mul pe_int (pe_op op_sub (pe_callB (id := "abs") call_abs (by rfl) m_abs (by decide +kernel) (pa_cons (pv 4) pa_nil)) (pe_op op_pow pe_int pe_int))) (pe_callTy (T := "int") call_int1 (by rfl) m_int (by decide +kernel) (pa_cons (pe_cmpR op_lt (pv 4) pe_int (nomark _)) pa_nil))))
    (pss_cons (ps_asg (pe_op op_fdiv (pe_callTy (T := "int") call_int1 (by rfl) m_int (by decide +kernel) (pa_cons (pv 2) pa_nil)) (pv 1)) (pg_sub (pv 0) pe_int set_list))
    (pss_one (ps_ret (pe_op op_mod (pe_callTy (T := "int") call_int1 (by rfl) m_int (by decide +kernel) (pa_cons (pv 2) pa_nil)) (pv 1))))))
      pss_nil)
    (pss_cons (ps_set (i := 5) sc__law_shake.nd rfl (.inl rfl) (pe_op op_mod (pe_callTy (T := "int") call_int1 (by rfl) m_int (by decide +kernel) (pa_cons (pe_op op_pow (pe_op op_add (pe_op op_add (pe_op op_mod (pe_callTy (T := "int") call_int1 (by rfl) m_int (by decide +kernel) (pa_cons (pv 4) pa_nil)) pe_int) (pe_op op_mul pe_int (pv 3))) pe_int) pe_int) pa_nil)) pe_int))
    (pss_cons (ps_set (i := 5) sc__law_shake.nd rfl (.inl rfl) (pe_op op_mod (pe_callTy (T := "int") call_int1 (by rfl) m_int (by decide +kernel) (pa_cons (pe_op op_pow (pe_op op_add (pe_op op_add (pe_op op_mul (pv 5) (pe_op op_add (pe_op op_mul pe_int (pv 3)) pe_int)) (pe_op op_mul (pe_op op_mul pe_int (pv 3)) (pv 3))) pe_int) pe_int) pa_nil)) pe_int))
    (pss_one (ps_ret (pe_op op_mod (pe_callTy (T := "int") call_int1 (by rfl) m_int (by decide +kernel) (pa_cons (pe_op op_fdiv (pv 5) pe_int) pa_nil)) (pv 1)))))))))))), ?_⟩
    refine' st_if0 (K := K) (b := decide (0 < rest)) (JB.eq ?jt ?jr) ?kc (fun hp H1 e1 => ?m1) (fun hp H1 e1 => ?m2)
    case jt => walk_at "jt"
    case jr => rfl
    case kc => decide
    case m1 =>
      walk_at "nx"
      refine' st_setI0 (K := K) ?j1 rfl ?l1 (fun H2 e2 => ?k1)
      case j1 => walk_at "j"
      case l1 => decide
      case k1 =>
      walk_at "nx"
      have hb2 := same_at (ex0 (e1.trans e2)) hb
      have hc2 := same_at (ex0 (e1.trans e2)) hc
      have hB2 := satDa (K := K) hb2 hc2
      refine' st_setitI (i := 2) (j := 2) (K := K) ?j2 rfl rfl ?i2 ?l2 hb2 rfl (fun H3 s3 => ?k2)
      case j2 => walk_at "j"
      case i2 => walk_at "j"
      case l2 => decide
      case k2 =>
      walk_at "nx"
      refine' st_retI0 (K := K) ?j3 rfl ?l3 (fun H4 e4 => ?k3)
      case j3 => walk_at "j"
      case l3 => decide
      case k3 =>
      refine q _ _ (Int.emod_nonneg _ (by omega)) (Int.emod_lt_of_pos _ hm0) ((exm_upd (.of ((ex0 (e1.trans e2)).trans s3))).trans (.of (ex0 e4))) ⟨at', rest / many, cs, ex0 e4 _ _ upd_same, ex0 e4 _ _ (by rw [upd_ne hcb]; exact s3 _ _ hc2), ha0, by omega, Int.ediv_nonneg hr0 (by omega), hlen⟩
    case m2 =>
    walk_at "nx"
    -- at = ..
    have hB1 := hB.mono (W := W0) e1
    refine' st_setI0 (K := K) ?j1 rfl ?l1 (fun H2 e2 => ?k1)
    case j1 => walk_at "j"
    case l1 => decide
    case k1 =>
    walk_at "nx"
    have hb2 := same_at (ex0 (e1.trans e2)) hb
    have hc2 := same_at (ex0 (e1.trans e2)) hc
    have hB2 := satDa (K := K) hb2 hc2
    refine' st_setitI (i := 1) (j := 1) (K := K) ?j2 rfl rfl ?i2 ?l2 hb2 rfl (fun H3 s3 => ?k2)
    case j2 => walk_at "j"
    case i2 => walk_at "j"
    case l2 => decide
    case k2 =>
    walk_at "nx"
    have eM : ExM (satW b c).M H (upd H3 b (.lst [.ref c, .int (at' + 1), .int rest])) := exm_upd (.of ((ex0 (e1.trans e2)).trans s3))
    have hb3 : (upd H3 b (.lst [.ref c, .int (at' + 1), .int rest])) b = some (.lst [.ref c, .int (at' + 1), .int rest]) := upd_same
    have hc3 : (upd H3 b (.lst [.ref c, .int (at' + 1), .int rest])) c = some (.lst (cs.map V.int)) := by rw [upd_ne hcb]; exact s3 _ _ hc2
    have hB3 := satDa (K := K) hb3 hc3
    generalize hH3 : (upd H3 b (.lst [.ref c, .int (at' + 1), .int rest])) = H3' at eM hb3 hc3 hB3
    have hH3' : (upd H3 b (HO.lst ([V.ref c, V.int at', V.int rest].set 1 (V.int (at' + 1))))) = H3' := hH3
    rw [hH3']
    have hfin : ∀ H5, ExM W0.M H3' H5 → Sat b c (n + 1) H5 := fun H5 e5 => ⟨at' + 1, rest, cs, ex0 e5 _ _ hb3, ex0 e5 _ _ hc3, by omega, by omega, hr0, hlen⟩
    refine' st_ifn (K := K) (b := cs.isEmpty) (JB.eq ?jt ?jr) ?kc (fun he H4 e4 => ?m1) (fun he H4 e4 => ?m2)
    case jt =>
      refine' jb_test (jd_eqD ?j4 ?j5 (shaped_ints cs) (shaped_ints []))
      case j4 => walk_at "j"
      case j5 => (refine' jd_lst ja_nil ?l5; (case l5 => decide))
    case jr => exact eqv_nil cs
    case kc => decide
    case m1 =>
      refine' st_retI0 (K := K) ?j6 rfl ?l6 (fun H5 e5 => ?k6)
      case j6 => walk_at "j"
      case l6 => decide
      case k6 => exact q 0 _ (by omega) hm0 (eM.trans (.of (ex0 (e4.trans e5)))) (hfin _ (e4.trans e5))
    case m2 =>
    walk_at "nx"
    have hne : cs ≠ [] := fun z => by rw [z] at he; cases he
    have hlp : 0 < cs.length := List.length_pos_iff.mpr hne
    obtain ⟨cell, hcell⟩ := at_mod hne ha0
    have hB4 := hB3.mono (W := W0) e4
    -- cell = ..
    refine' st_setI0 (K := K) (z' := cell) ?j7 ?e7 ?l7 (fun H5 e5 => ?k7)
    case j7 =>
      refine' jd_ix ?a1 ?a2 ?a3 ?a4
      case a1 => walk_at "j"
      case a2 =>
        refine' jd_Ii ?b1 ?b2 ?b3
        case b1 => walk_at "j"
        case b2 => (refine' jd_lenS ?q1 ?q2; (case q1 => walk_at "ja"); (case q2 => rfl))
        case b3 => (show (0 : Int) < (((cs.map PyData.int).length : Nat) : Int); rw [List.length_map]; omega)
      case a3 => rfl
      case a4 => (show atI (cs.map PyData.int) (at' % (((cs.map PyData.int).length : Nat) : Int)) = _; rw [List.length_map]; exact hcell)
    case e7 => rfl
    case l7 => decide
    case k7 =>
    walk_at "nx"
    have hB5 := hB4.mono (W := W0) e5
    have hab : 0 ≤ (if cell < 0 then -cell else cell) := by split <;> omega
    refine' st_ifn (K := K) (b := decide (at' < (cs.length : Int)) && decide (1000000000000000000 ≤ (if cell < 0 then -cell else cell))) (JB.eq ?jt ?jr) ?kc (fun hp2 H6 e6 => ?m1) (fun hp2 H6 e6 => ?m2)
    case jt =>
      refine' jb_and ?t1 ?t2
      case t1 =>
        refine' jb_test (jd_I0b ?b1 ?b2)
        case b1 => walk_at "j"
        case b2 => (refine' jd_lenS ?q1 ?q2; (case q1 => walk_at "ja"); (case q2 => rfl))
      case t2 => (intro _; walk_at "jt")
    case jr =>
      show (decide (at' < (((cs.map PyData.int).length : Nat) : Int)) && decide ((10 : Int) ^ (18 : Int).toNat ≤ _)) = _
      rw [List.length_map]; rfl
    case kc => decide
    case m1 =>
      have hge : (1000000000000000000 : Int) ≤ (if cell < 0 then -cell else cell) := by
        rw [Bool.and_eq_true] at hp2; exact of_decide_eq_true hp2.2
      walk_at "nx"
      refine' st_setI0 (K := K) (z' := 2 * ((if cell < 0 then -cell else cell) - 1000000000000000000) + (if decide (cell < 0) then 1 else 0)) ?j8 ?e8 ?l8 (fun H7 e7 => ?k8)
      case j8 => walk_at "j"
      case e8 => rfl
      case l8 => decide
      case k8 =>
      walk_at "nx"
      have hrs : 0 ≤ 2 * ((if cell < 0 then -cell else cell) - 1000000000000000000) + (if decide (cell < 0) then (1 : Int) else 0) := by
        have : (0 : Int) ≤ (if decide (cell < 0) then (1 : Int) else 0) := by split <;> omega
        omega
      generalize 2 * ((if cell < 0 then -cell else cell) - 1000000000000000000) + (if decide (cell < 0) then (1 : Int) else 0) = rs at hrs
      have hCD2 : CDiv rs many := ⟨hm0, by omega⟩
      have e47 := (e4.trans (e5.trans (e6.trans e7)))
      have hb7 := same_at (ex0 e47) hb3
      have hc7 := same_at (ex0 e47) hc3
      refine' st_setitI (i := 2) (j := 2) (K := K) ?j9 rfl rfl ?i9 ?l9 hb7 rfl (fun H8 s8 => ?k9)
      case j9 => walk_at "j"
      case i9 => walk_at "j"
      case l9 => decide
      case k9 =>
      walk_at "nx"
      refine' st_retI0 (K := K) ?j3 rfl ?l3 (fun H9 e9 => ?k3)
      case j3 => walk_at "j"
      case l3 => decide
      case k3 =>
      refine q _ _ (Int.emod_nonneg _ (by omega)) (Int.emod_lt_of_pos _ hm0) ((exm_upd (eM.trans (.of ((ex0 e47).trans s8)))).trans (.of (ex0 e9))) ⟨at' + 1, rs / many, cs, ex0 e9 _ _ upd_same, ex0 e9 _ _ (by rw [upd_ne hcb]; exact s8 _ _ hc7), by omega, by omega, Int.ediv_nonneg hrs (by omega), hlen⟩
    case m2 =>
    walk_at "nx"
    -- the mixing
    have hmb1 : CPow (cell % 2147483587 + 37229 * at' + 9417) 5 := ⟨by decide, by decide, by show _ < 18446744073709551616; omega⟩
    refine' st_setI0 (K := K) ?j10 rfl ?l10 (fun H7 e7 => ?k10)
    case j10 => walk_at "j"
    case l10 => decide
    case k10 =>
    walk_at "nx"
    have hx0 := Int.emod_nonneg ((cell % 2147483587 + 37229 * at' + 9417) ^ (5 : Int).toNat) (show (2147483549 : Int) ≠ 0 by decide)
    have hx1 := Int.emod_lt_of_pos ((cell % 2147483587 + 37229 * at' + 9417) ^ (5 : Int).toNat) (show (0 : Int) < 2147483549 by decide)
    generalize (cell % 2147483587 + 37229 * at' + 9417) ^ (5 : Int).toNat % 2147483549 = mx at hx0 hx1
    have hcm1 : CMul mx (2 * at' + 9027) := .inl ⟨by omega, by omega⟩
    have hcm2 : CMul (96645 * at') at' := .inl ⟨by omega, by omega⟩
    have hp1 : 0 ≤ mx * (2 * at' + 9027) := Int.mul_nonneg hx0 (by omega)
    have hp2 : mx * (2 * at' + 9027) ≤ 2147483648 * 3000000 := Int.mul_le_mul (by omega) (by omega) (by omega) (by omega)
    have hp3 : 0 ≤ 96645 * at' * at' := Int.mul_nonneg (by omega) ha0
    have hp4 : 96645 * at' * at' ≤ 96645 * 1000000 * 1000000 := Int.mul_le_mul (by omega) (by omega) (by omega) (by omega)
    have hmb2 : CPow (mx * (2 * at' + 9027) + 96645 * at' * at' + 37229) 3 := ⟨by decide, by decide, by show _ < 18446744073709551616; omega⟩
    refine' st_setI0 (K := K) ?j11 rfl ?l11 (fun H8 e8 => ?k11)
    case j11 => walk_at "j"
    case l11 => decide
    case k11 =>
    walk_at "nx"
    refine' st_retI0 (K := K) ?j12 rfl ?l12 (fun H9 e9 => ?k12)
    case j12 => walk_at "j"
    case l12 => decide
    case k12 =>
    have e49 := e4.trans (e5.trans (e6.trans (e7.trans (e8.trans e9))))
    exact q _ _ (Int.emod_nonneg _ (by omega)) (Int.emod_lt_of_pos _ hm0) (eM.trans (.of (ex0 e49))) (hfin _ e49)
--OK _law_pick
set_option maxHeartbeats 4000000 in
theorem ok__law_pick {f__law_pick : Addr} {fd__law_pick : FuncData} (F : Fun K "_law_pick" "_law_pick" s__law_pick f__law_pick fd__law_pick) {f__law_shake : Addr} {fd__law_shake : FuncData} (G__law_shake : FnOk P w K mg base CX0 1 f__law_shake fd__law_shake ["_law_riddle_here", "_law_many"] spDraw) (g__law_shake : mg "_law_shake" = some (.ref f__law_shake)) (k__law_shake : PySem.W.keepIn K (.ref f__law_shake) = true) (b__law_shake : Binds K fd__law_shake ["_law_riddle_here", "_law_many"] [])
    (m_len : mg "len" = none) :
    FnOk P w K mg base CX0 2 f__law_pick fd__law_pick ["_law_riddle_here", "_law_some"] (spPick K) := by
  refine Fun.ok F sc__law_pick (fun vs H Q E h => ?_) (fun cdv A outer s H vs Q E hr h => ?_)
  · obtain ⟨b, c, n, v, d, rfl, _⟩ := h; rfl
  · obtain ⟨b, c, n, v, d, rfl, hS, hn, hd, hs, hl0, hl1, q⟩ := h
    refine ⟨_, (pss_one (ps_ret (pe_ix (r := rIx K) ix_seq (pv 1) (pe_call G__law_shake (hr.mono (by decide)) (by rfl) g__law_shake k__law_shake b__law_shake .nil pass0 (pa_cons (pv 0) (pa_cons (pe_callB (id := "len") (r := (fun xs H Q => ∃ p ys, xs = [.ref p] ∧ (SqL K H p ys ∨ SqT K H p ys) ∧ Q (.int ys.length) H)) call_len_seq (by rfl) m_len (by decide +kernel) (pa_cons (pv 1) pa_nil)) pa_nil))) (fun _ _ => rfl)))), ?_⟩
    exact pick_ret (K := K) hS hn hd hs hl0 hl1 rfl rfl q
--OK _law_small
def psiS : PyData → Prop := fun d => ∃ i : Int, d = .int i ∧ i.natAbs < 2 ^ 110
set_option maxHeartbeats 4000000 in
theorem ok__law_small {f__law_small : Addr} {fd__law_small : FuncData} (F : Fun K "_law_small" "_law_small" s__law_small f__law_small fd__law_small) {f__law_pick : Addr} {fd__law_pick : FuncData} (G__law_pick : FnOk P w K mg base CX0 2 f__law_pick fd__law_pick ["_law_riddle_here", "_law_some"] (spPick K)) (g__law_pick : mg "_law_pick" = some (.ref f__law_pick)) (k__law_pick : PySem.W.keepIn K (.ref f__law_pick) = true) (b__law_pick : Binds K fd__law_pick ["_law_riddle_here", "_law_some"] [])
    {f__law_shake : Addr} {fd__law_shake : FuncData} (G__law_shake : FnOk P w K mg base CX0 1 f__law_shake fd__law_shake ["_law_riddle_here", "_law_many"] spDraw) (g__law_shake : mg "_law_shake" = some (.ref f__law_shake)) (k__law_shake : PySem.W.keepIn K (.ref f__law_shake) = true) (b__law_shake : Binds K fd__law_shake ["_law_riddle_here", "_law_many"] []) :
    FnOk P w K mg base CX0 3 f__law_small fd__law_small ["_law_riddle_here"] (spDX K 3 psiS) := by
  refine Fun.ok F sc__law_small (fun vs H Q E h => ?_) (fun cdv A outer s H vs Q E hr h => ?_)
  · obtain ⟨b, c, n, rfl, _⟩ := h; rfl
  · obtain ⟨b, c, n, rfl, hS, hn, q⟩ := h
    refine ⟨_, (pss_one (ps_ret (pe_call G__law_pick (hr.mono (by decide)) (by rfl) g__law_pick k__law_pick b__law_pick .nil pass0 (pa_cons (pv 0) (pa_cons (pe_lst (pa_cons pe_int (pa_cons pe_int (pa_cons pe_int (pa_cons (pe_un un_neg pe_int) (pa_cons (pe_un un_neg pe_int) (pa_cons pe_int (pa_cons (pe_op op_sub (pe_call G__law_shake (hr.mono (by decide)) (by rfl) g__law_shake k__law_shake b__law_shake .nil pass0 (pa_cons (pv 0) (pa_cons pe_int pa_nil))) pe_int) (pa_cons (pe_op op_add (pe_op op_pow pe_int pe_int) (pe_call G__law_shake (hr.mono (by decide)) (by rfl) g__law_shake k__law_shake b__law_shake .nil pass0 (pa_cons (pv 0) (pa_cons pe_int pa_nil)))) (pa_cons (pe_un un_neg (pe_op op_pow pe_int pe_int)) pa_nil)))))))))) pa_nil))))), ?_⟩
    walk_at "nx"
    have key : ∀ {te : TE} {σ : L2.St} {i j : Int}, JD K (satW b c) te σ H 0 (.int i) → i = j → j.natAbs < 2 ^ 110 → JX K (satW b c) te σ H 0 psiS := fun h e p => jx_of h ⟨_, rfl, by rw [e]; exact p⟩
    refine' st_ret (W := satW b c) (n := n) hS (jx_pick (K := K) (b := b) (cc := c) (ψ := psiS) (m := 9) rfl (jxl_lst (jxs_cons (key jd_int rfl (by decide)) (jxs_cons (key jd_int rfl (by decide)) (jxs_cons (key jd_int rfl (by decide)) (jxs_cons (key (jd_neg jd_int) rfl (by decide)) (jxs_cons (key (jd_neg jd_int) rfl (by decide)) (jxs_cons (key jd_int rfl (by decide))
        (jxs_cons (jx_i (ji_op0 (φ := fun i => i.natAbs < 2 ^ 110) (φ2 := fun j => j = 20) (ji_draw (K := K) rfl jd_int (by decide)) (ji_of (K := K) jd_int rfl) ?a1) (fun i h => ⟨i, rfl, h⟩))
        (jxs_cons (jx_i (ji_op0 (φ := fun i => i.natAbs < 2 ^ 110) (φ1 := fun j => j = 10 ^ 30) (ji_of (K := K) (jd_Ii jd_int jd_int ?p1) rfl) (ji_draw (K := K) rfl jd_int (by decide)) ?a2) (fun i h => ⟨i, rfl, h⟩))
        (jxs_cons (key (jd_neg (jd_Ii jd_int jd_int ?p2)) rfl (by decide +kernel)) jxs_nil))))))))) (by decide)) (by decide)) ?l1 (fun v H1 e1 hS1 hv => ?k1)
    case a1 => (intro i j h1 h2; subst h2; show (i - 20).natAbs < 1298074214633706907132624082305024; omega)
    case a2 => (intro i j h1 h2; subst h1; show (1000000000000000000000000000000 + j).natAbs < 1298074214633706907132624082305024; omega)
    case p1 => exact ⟨by decide, by decide, by decide⟩
    case p2 => exact ⟨by decide, by decide, by decide⟩
    case l1 => omega
    case k1 =>
      obtain ⟨d, hd, hv2⟩ := hv
      exact q v d H1 hd e1 ((satW b c).mo (by omega) hS1) hv2
--OK _law_any
abbrev any1 (u w z : Int) : List PyData := [.int u, .tuple [.int u, .int w], .list [.int (u * z), .int (w * z)], .tuple [.int u, .int w, .int 1], .tuple [.int u], .list [], .tuple [.int u, .bool true], .list [.bool false, .int 1], .tuple [.int u, .str (toString w)], .tuple [.bool true, .int 1]]
abbrev any2 (u w : Int) : List PyData := [.none, .bool true, .str (toString u), .dict [], .list [.list [.int u], .int w], .tuple [.int u, .none], .str "12", .tuple [.int u, .int 0], .tuple [.int 0, .int w], .list [.int u, .int ((if w < 0 then -w else w) + 1)]]
def anyB (d : PyData) : Bool := decide ((itemsD d).length < 100) && (itemsD d).all fun e => e.canLay0 && decide (e.depth ≤ 5)
theorem log_small {i : Int} (h : i.natAbs < 2 ^ 110) : i.natAbs.log2 < 1920 := by
  by_cases z : i.natAbs = 0
  · rw [z]; decide
  · exact Nat.lt_of_lt_of_le ((Nat.log2_lt z).mpr h) (by decide)
set_option maxHeartbeats 4000000 in
theorem ok__law_any {f__law_any : Addr} {fd__law_any : FuncData} (F : Fun K "_law_any" "_law_any" s__law_any f__law_any fd__law_any) {f__law_pick : Addr} {fd__law_pick : FuncData} (G__law_pick : FnOk P w K mg base CX0 2 f__law_pick fd__law_pick ["_law_riddle_here", "_law_some"] (spPick K)) (g__law_pick : mg "_law_pick" = some (.ref f__law_pick)) (k__law_pick : PySem.W.keepIn K (.ref f__law_pick) = true) (b__law_pick : Binds K fd__law_pick ["_law_riddle_here", "_law_some"] [])
    (m_abs : mg "abs" = none)
    (m_str : mg "str" = none)
    {f__law_small : Addr} {fd__law_small : FuncData} (G__law_small : FnOk P w K mg base CX0 3 f__law_small fd__law_small ["_law_riddle_here"] (spDX K 3 psiS)) (g__law_small : mg "_law_small" = some (.ref f__law_small)) (k__law_small : PySem.W.keepIn K (.ref f__law_small) = true) (b__law_small : Binds K fd__law_small ["_law_riddle_here"] []) :
    FnOk P w K mg base CX0 4 f__law_any fd__law_any ["_law_riddle_here"] (spDX K 8 fun d => anyB d = true) := by
  refine Fun.ok F sc__law_any (fun vs H Q E h => ?_) (fun cdv A outer s H vs Q E hr h => ?_)
  · obtain ⟨b, c, n, rfl, _⟩ := h; rfl
  · obtain ⟨b, c, n, rfl, hS, hn, q⟩ := h
    refine ⟨_, (pss_cons (ps_par (i := 1) (j := 2) (by rfl) sc__law_any.nd rfl rfl (by decide) rfl rfl (pa_cons (pe_call G__law_small (hr.mono (by decide)) (by rfl) g__law_small k__law_small b__law_small .nil pass0 (pa_cons (pv 0) pa_nil)) (pa_cons (pe_call G__law_small (hr.mono (by decide)) (by rfl) g__law_small k__law_small b__law_small .nil pass0 (pa_cons (pv 0) pa_nil)) pa_nil)) (by rfl))
    (pss_cons (ps_set (i := 3) sc__law_any.nd rfl (.inl rfl) (pe_call G__law_pick (hr.mono (by decide)) (by rfl) g__law_pick k__law_pick b__law_pick .nil pass0 (pa_cons (pv 0) (pa_cons (pe_lst (pa_cons pe_int (pa_cons pe_int (pa_cons pe_int (pa_cons (pe_un un_neg pe_int) (pa_cons pe_int pa_nil)))))) pa_nil))))
    (pss_cons (ps_set (i := 4) sc__law_any.nd rfl (.inl rfl) (pe_lst (pa_cons (pv 1) (pa_cons (pe_tup (pa_cons (pv 1) (pa_cons (pv 2) pa_nil))) (pa_cons (pe_lst (pa_cons (pe_op op_mulW (pv 1) (pv 3)) (pa_cons (pe_op op_mulW (pv 2) (pv 3)) pa_nil))) (pa_cons (pe_tup (pa_cons (pv 1) (pa_cons (pv 2) (pa_cons pe_int pa_nil)))) (pa_cons (pe_tup (pa_cons (pv 1) pa_nil)) (pa_cons (pe_lst pa_nil) (pa_cons (pe_tup (pa_cons (pv 1) (pa_cons pe_bl pa_nil))) (pa_cons (pe_lst (pa_cons pe_bl (pa_cons pe_int pa_nil))) (pa_cons (pe_tup (pa_cons (pv 1) (pa_cons (pe_callTy (T := "str") (r := (fun xs H Q => ∃ i, xs = [.int i] ∧ i.natAbs.log2 < 1920 ∧ Q (.str (toString i)) H)) call_str_int (by rfl) m_str (by decide +kernel) (pa_cons (pv 2) pa_nil)) pa_nil))) (pa_cons (pe_tup (pa_cons pe_bl (pa_cons pe_int pa_nil))) pa_nil))))))))))))
    (pss_cons (ps_set (i := 4) sc__law_any.nd rfl (.inl rfl) (pe_op (r := rCat) op_cat (pv 4) (pe_lst (pa_cons pe_non (pa_cons pe_bl (pa_cons (pe_callTy (T := "str") (r := (fun xs H Q => ∃ i, xs = [.int i] ∧ i.natAbs.log2 < 1920 ∧ Q (.str (toString i)) H)) call_str_int (by rfl) m_str (by decide +kernel) (pa_cons (pv 1) pa_nil)) (pa_cons (pe_disp (pps_cons (pv 1) (pv 2) pps_nil) rfl rfl (by simp) (by decide)) (pa_cons (pe_lst (pa_cons (pe_lst (pa_cons (pv 1) pa_nil)) (pa_cons (pv 2) pa_nil))) (pa_cons (pe_tup (pa_cons (pv 1) (pa_cons pe_non pa_nil))) (pa_cons pe_str (pa_cons (pe_tup (pa_cons (pv 1) (pa_cons pe_int pa_nil))) (pa_cons (pe_tup (pa_cons pe_int (pa_cons (pv 2) pa_nil))) (pa_cons (pe_lst (pa_cons (pv 1) (pa_cons (pe_op op_add (pe_callB (id := "abs") call_abs (by rfl) m_abs (by decide +kernel) (pa_cons (pv 2) pa_nil)) pe_int) pa_nil))) pa_nil)))))))))))))
    (pss_one (ps_ret (pe_call G__law_pick (hr.mono (by decide)) (by rfl) g__law_pick k__law_pick b__law_pick .nil pass0 (pa_cons (pv 0) (pa_cons (pv 4) pa_nil))))))))), ?_⟩
    walk_at "nx"
    refine' st_parX (K := K) (W := satW b c) (n := n) (ψ1 := psiS) (ψ2 := psiS) hS (jax_cons (jx_callD rfl) (jax_cons (jx_callD rfl) jax_nil)) ?l1 (fun x y d1 d2 H1 e1 hS1 p1 p2 hx hy => ?k1)
    case l1 => omega
    case k1 =>
    obtain ⟨u, rfl, hu⟩ := p1
    obtain ⟨w, rfl, hw⟩ := p2
    have hxi := hx.int
    have hyi := hy.int
    subst hxi hyi
    walk_at "nx"
    refine' st_set (W := satW b c) (n := n + (3 + (3 + 0))) (P := fun v H3 => ∃ d, (∃ z : Int, d = .int z ∧ z.natAbs ≤ 3) ∧ Da K (satW b c) H3 v d) hS1 (jx_pick (K := K) (ψ := fun d => ∃ z : Int, d = .int z ∧ z.natAbs ≤ 3) (m := 5) rfl (jxl_lst (jxs_cons (jx_of (K := K) jd_int ⟨_, rfl, by decide⟩) (jxs_cons (jx_of (K := K) jd_int ⟨_, rfl, by decide⟩) (jxs_cons (jx_of (K := K) jd_int ⟨_, rfl, by decide⟩) (jxs_cons (jx_of (K := K) (jd_neg jd_int) ⟨_, rfl, by decide⟩) (jxs_cons (jx_of (K := K) jd_int ⟨_, rfl, by decide⟩) jxs_nil))))) (by decide)) (by decide)) ?l2 (fun v H2 e2 hS2 hv => ?k2)
    case l2 => omega
    case k2 =>
    obtain ⟨d, ⟨z, rfl, hz⟩, hv⟩ := hv
    have hvi := hv.int
    subst hvi
    have hlu := log_small hu
    have hlw := log_small hw
    have hu4 : u.natAbs < 2 ^ 4000 := Nat.lt_of_lt_of_le hu (Nat.pow_le_pow_right (by decide) (by decide))
    have hw4 : w.natAbs < 2 ^ 4000 := Nat.lt_of_lt_of_le hw (Nat.pow_le_pow_right (by decide) (by decide))
    have hz4 : z.natAbs < 2 ^ 4000 := Nat.lt_of_le_of_lt hz (Nat.lt_of_lt_of_le (by decide : 3 < 2 ^ 2) (Nat.pow_le_pow_right (by decide) (by decide)))
    walk_at "nx"
    refine' st_set (W := satW b c) (P := fun v H3 => NewL K (satW b c) H3 v (any1 u w z)) hS2 (jn_lst (K := K) (W := satW b c) ?ja ?la) ?l3 (fun v H3 e3 hS3 hv => ?k3)
    case ja => walk_at "ja"
    case la => (simp only [List.length_cons, List.length_nil]; decide)
    case l3 => omega
    case k3 =>
    walk_at "nx"
    refine' st_set (W := satW b c) (P := fun v H3 => NewL K (satW b c) H3 v (any1 u w z ++ any2 u w)) hS3 (jn_cat (K := K) (W := satW b c) (jn_v rfl hv) (jn_lst (K := K) (W := satW b c) ?jb ?lb) ?lc) ?l4 (fun v2 H4 e4 hS4 hv2 => ?k4)
    case jb => walk_at "ja"
    case lb => (simp only [List.length_cons, List.length_nil]; decide)
    case lc => (simp only [List.length_cons, List.length_nil]; decide)
    case l4 => omega
    case k4 =>
    walk_at "nx"
    refine' st_ret (W := satW b c) hS4 (jx_pick (K := K) (b := b) (cc := c) (ψ := fun d => anyB d = true) (m := 20) rfl (jxl_nl (ds := any1 u w z ++ any2 u w) (jn_v rfl hv2) rfl ?al) (by decide)) ?l5 (fun v3 H5 e5 hS5 hv3 => ?k5)
    case al => (intro d hd; simp only [any1, any2, List.cons_append, List.nil_append, List.mem_cons, List.not_mem_nil, or_false] at hd; rcases hd with rfl | rfl | rfl | rfl | rfl | rfl | rfl | rfl | rfl | rfl | rfl | rfl | rfl | rfl | rfl | rfl | rfl | rfl | rfl | rfl <;> simp [anyB, itemsD, PyData.canLay0, PyData.canLayAll0, PyData.depth, PyData.depthAll, strOk_of])
    case l5 => omega
    case k5 =>
      obtain ⟨d, hd, hv4⟩ := hv3
      exact q v3 d H5 hd ((((e1.trans e2).trans e3).trans e4).trans e5) ((satW b c).mo (by omega) hS5) hv4
--OK _law_whole
def rel__law_whole : List PyData → PyData → Prop := fun ds r => ∃ d, ds = [d] ∧ r = .bool (isI d)
set_option maxHeartbeats 4000000 in
theorem ok__law_whole {f__law_whole : Addr} {fd__law_whole : FuncData} (F : Fun K "_law_whole" "_law_whole" s__law_whole f__law_whole fd__law_whole) (m_isinstance : mg "isinstance" = none)
    (m_int : mg "int" = none) :
    FnOk P w K mg base CX0 1 f__law_whole fd__law_whole ["_law_value"] (spPure K rel__law_whole) := by
  refine Fun.ok F sc__law_whole (fun vs H Q E h => ?_) (fun cdv A outer s H vs Q E hr h => ?_)
  · obtain ⟨ds, r, hd, hr0, _⟩ := h; obtain ⟨d, rfl, rfl⟩ := hr0; exact isD_len hd
  · obtain ⟨ds, r, hd, hr0, q⟩ := h
    obtain ⟨d, rfl, rfl⟩ := hr0
    obtain ⟨x0, rfl, h0⟩ := dal1 (W := W0) (dpl0 _ _ hd)
    refine ⟨_, (pss_one (ps_ret (pe_and (pe_callB (id := "isinstance") (r := rIsi K) call_isi (by rfl) m_isinstance (by decide +kernel) (pa_cons (pv 0) (pa_cons (pe_bltn (v := .ty "int") (by rfl) m_int (by decide +kernel) rfl) pa_nil))) (pe_and (pe_cmpR (r := rNotBX) op_notBX (pv 0) pe_bl (nomark _)) (pe_one (pe_cmpR (r := rNotBX) op_notBX (pv 0) pe_bl (nomark _))))))), ?_⟩
    refine' pure_ret (ExM.refl) q (JD.eq ?j ?e) ?kc
    case j => walk_at "j"
    case e => (cases d with | bool b => (cases b <;> rfl) | _ => rfl)
    case kc => decide
--OK _law_divisor
def rel__law_divisor : List PyData → PyData → Prop := fun ds r => ∃ u w : Int, ds = [.int u, .int w] ∧ r = .int (Nat.gcd u.natAbs w.natAbs : Nat)
set_option maxHeartbeats 4000000 in
theorem ok__law_divisor {f__law_divisor : Addr} {fd__law_divisor : FuncData} (F : Fun K "_law_divisor" "_law_divisor" s__law_divisor f__law_divisor fd__law_divisor) (m_int : mg "int" = none)
    (m_abs : mg "abs" = none) :
    FnOk P w K mg base CX0 1 f__law_divisor fd__law_divisor ["_law_one", "_law_other"] (spPure K rel__law_divisor) := by
  refine Fun.ok F sc__law_divisor (fun vs H Q E h => ?_) (fun cdv A outer s H vs Q E hr h => ?_)
  · obtain ⟨ds, r, hd, hr0, _⟩ := h; obtain ⟨u, w, rfl, rfl⟩ := hr0; exact isD_len hd
  · obtain ⟨ds, r, hd, hr0, q⟩ := h
    obtain ⟨u, w, rfl, rfl⟩ := hr0
    obtain ⟨x0, x1, rfl, h0, h1⟩ := dal2 (W := W0) (dpl0 _ _ hd)
    refine ⟨_, (pss_cons (ps_par (i := 0) (j := 1) (by rfl) sc__law_divisor.nd rfl rfl (by decide) rfl rfl (pa_cons (pe_callB (id := "abs") call_abs (by rfl) m_abs (by decide +kernel) (pa_cons (pv 0) pa_nil)) (pa_cons (pe_callB (id := "abs") call_abs (by rfl) m_abs (by decide +kernel) (pa_cons (pv 1) pa_nil)) pa_nil)) (by rfl))
    (pss_cons (ps_while PassesOwn.never (pt_cmpR op_gt (pv 1) pe_int (nomark _))
      (pss_one (ps_par (i := 0) (j := 1) (by rfl) sc__law_divisor.nd rfl rfl (by decide) rfl rfl (pa_cons (pv 1) (pa_cons (pe_op op_mod (pe_callTy (T := "int") call_int1 (by rfl) m_int (by decide +kernel) (pa_cons (pv 0) pa_nil)) (pv 1)) pa_nil)) (by rfl))))
    (pss_one (ps_ret (pv 0))))), ?_⟩
    cases h0; cases h1
    walk_at "nx"
    have ab : ∀ i : Int, (if i < 0 then -i else i) = (i.natAbs : Int) := fun i => by split <;> omega
    refine' st_par (K := K) (W := W0) (n := 0) (d1 := .int (u.natAbs : Int)) (d2 := .int (w.natAbs : Int)) trivial (ja_cons (JD.eq ?j1 ?e1) (ja_cons (JD.eq ?j2 ?e2) ja_nil)) ?l1 (fun x y H1 e1 _ hx hy => ?k1)
    case j1 => walk_at "j"
    case e1 => rw [ab]
    case j2 => walk_at "j"
    case e2 => rw [ab]
    case l1 => decide
    case k1 =>
    have hxi := hx.int
    have hyi := hy.int
    subst hxi hyi
    walk_at "nx"
    refine' st_while0 (K := K) (fun m σ' H' => ∃ p s : Nat, σ' = [some (.int p), some (.int s)] ∧ m = s ∧ Nat.gcd p s = Nat.gcd u.natAbs w.natAbs ∧ ExM W0.M H H') w.natAbs ⟨u.natAbs, w.natAbs, rfl, rfl, rfl, e1⟩ ?t
    case t =>
    rintro m σ' H' ⟨p, s, rfl, rfl, hg, eH⟩
    refine' ⟨decide (0 < (m : Int)), _, JB.eq ?jt ?jr, ?kc0, fun hb H2 e2 => ?f, fun hb H2 e2 N hN => ?g⟩
    case jt => walk_at "jt"
    case jr => rfl
    case kc0 => decide
    case f =>
      have hm : m = 0 := by have := of_decide_eq_false hb; omega
      subst hm
      walk_at "nx"
      refine' pure_ret (eH.trans e2) q (JD.eq ?j3 ?e3) ?kc
      case j3 => walk_at "j"
      case e3 => (rw [← hg, Nat.gcd_zero_right])
      case kc => decide
    case g =>
      have hm : 0 < m := by have := of_decide_eq_true hb; omega
      refine' st_par (K := K) (W := W0) (n := 0) (d1 := .int (m : Int)) (d2 := .int ((p % m : Nat) : Int)) trivial (ja_cons (JD.eq ?j4 ?e4) (ja_cons (JD.eq ?j5 ?e5) ja_nil)) ?l4 (fun x y H3 e3 _ hx hy => ?k2)
      case j4 => walk_at "j"
      case e4 => rfl
      case j5 =>
        refine' jd_Ii ?i1 ?i2 ?i3
        case i1 => walk_at "j"
        case i2 => walk_at "j"
        case i3 => (show (0 : Int) < _; omega)
      case e5 => rw [Int.natCast_emod]
      case l4 => decide
      case k2 =>
        have hxi := hx.int
        have hyi := hy.int
        subst hxi hyi
        exact hN (p % m) _ _ (Nat.mod_lt _ hm) ⟨m, p % m, rfl, rfl, by rw [← hg, Nat.gcd_comm m (p % m), ← Nat.gcd_rec, Nat.gcd_comm], (eH.trans e2).trans e3⟩
--OK _law_row
local macro_rules | `(tactic| walk_at "rel") => `(tactic| exact ⟨_, rfl, rfl⟩)
theorem shaped_items {ds : List PyData} (h : ∀ e ∈ ds, e.canLay0 = true ∧ e.depth ≤ 5) : SeqAt.shaped (.list ds) = true := by
  have h1 : PyData.canLayAll0 ds = true := by
    induction ds with
    | nil => rfl
    | cons d ds ih => simp only [PyData.canLayAll0, (h d (List.mem_cons_self ..)).1, ih fun e m => h e (List.mem_cons_of_mem _ m), Bool.and_self]
  have h2 : PyData.depthAll ds ≤ 5 := by
    induction ds with
    | nil => exact Nat.zero_le _
    | cons d ds ih =>
      have a := (h d (List.mem_cons_self ..)).2
      have b := ih (fun e m => h e (List.mem_cons_of_mem _ m)) (by simp only [PyData.canLayAll0, Bool.and_eq_true] at h1; exact h1.2)
      simp only [PyData.depthAll]; omega
  unfold SeqAt.shaped
  rw [Bool.and_eq_true]
  exact ⟨by simpa only [PyData.canLay0] using h1, decide_eq_true (by simp only [PyData.depth]; omega)⟩
theorem any_it {ds : List PyData} (h : (ds.all fun e => e.canLay0 && decide (e.depth ≤ 5)) = true) (e : PyData) (m : e ∈ ds) : e.canLay0 = true ∧ e.depth ≤ 5 := by
  have := List.all_eq_true.mp h e m
  rw [Bool.and_eq_true] at this
  exact ⟨this.1, of_decide_eq_true this.2⟩
theorem filt_all : ∀ ds : List PyData, (ds.filter fun d => !isI d).isEmpty = ds.all isI
  | [] => rfl
  | d :: ds => by
    rw [List.filter_cons, List.all_cons]
    cases h : isI d with
    | true => simpa using filt_all ds
    | false => simp
def rel__law_row : List PyData → PyData → Prop := fun ds r => ∃ d n, ds = [d, .int n] ∧ anyB d = true ∧ r = .bool (areI d n)
set_option maxHeartbeats 4000000 in
theorem ok__law_row {f__law_row : Addr} {fd__law_row : FuncData} (F : Fun K "_law_row" "_law_row" s__law_row f__law_row fd__law_row) {f__law_whole : Addr} {fd__law_whole : FuncData} (G__law_whole : FnOk P w K mg base CX0 1 f__law_whole fd__law_whole ["_law_value"] (spPure K rel__law_whole)) (g__law_whole : mg "_law_whole" = some (.ref f__law_whole)) (k__law_whole : PySem.W.keepIn K (.ref f__law_whole) = true) (b__law_whole : Binds K fd__law_whole ["_law_value"] [])
    (m_isinstance : mg "isinstance" = none)
    (m_tuple : mg "tuple" = none)
    (m_list : mg "list" = none)
    (m_len : mg "len" = none) :
    FnOk P w K mg base CX0 2 f__law_row fd__law_row ["_law_value", "_law_many"] (spPure K rel__law_row) := by
  refine Fun.ok F sc__law_row (fun vs H Q E h => ?_) (fun cdv A outer s H vs Q E hr h => ?_)
  · obtain ⟨ds, r, hd, hr0, _⟩ := h; obtain ⟨d, n, rfl, ha, rfl⟩ := hr0; exact isD_len hd
  · obtain ⟨ds, r, hd, hr0, q⟩ := h
    obtain ⟨d, n, rfl, ha, rfl⟩ := hr0
    obtain ⟨x0, x1, rfl, h0, h1⟩ := dal2 (W := W0) (dpl0 _ _ hd)
    refine ⟨_, (pss_cons (ps_if (PW.pt (pw_or (pt_not (pt_val (pe_callB (id := "isinstance") (r := rIsiT K) call_isiT (by rfl) m_isinstance (by decide +kernel) (pa_cons (pv 0) (pa_cons (pe_tup (pa_cons (pe_bltn (v := .ty "list") (by rfl) m_list (by decide +kernel) rfl) (pa_cons (pe_bltn (v := .ty "tuple") (by rfl) m_tuple (by decide +kernel) rfl) pa_nil))) pa_nil))))) (pw_or1 (pt_cmpR op_ne (pe_callB (id := "len") (r := (fun xs H Q => ∃ p ys, xs = [.ref p] ∧ (SqL K H p ys ∨ SqT K H p ys) ∧ Q (.int ys.length) H)) call_len_seq (by rfl) m_len (by decide +kernel) (pa_cons (pv 0) pa_nil)) (pv 1) (nomark _)))))
      (pss_one (ps_ret pe_bl))
      pss_nil)
    (pss_one (ps_ret (pe_cmpR (r := rEqD K) (op_eqD hr.units) (pe_lc (own := [("_law_each", 2)]) (g := gName 2) rfl sc__law_row.nd (pi_seq (pv 0)) (blkOk_by (N := ["_law_value", "_law_many", "_law_each"]) (sc := defScope s__law_row) (by decide +kernel)) (fun _ _ _ _ _ => pg_name (i := 2) sc__law_row.nd rfl (Or.inl rfl)) (fun _ _ _ _ _ => pts_one (pt_not (pt_val (pe_call G__law_whole (hr.mono (by decide)) (by rfl) g__law_whole k__law_whole b__law_whole .nil pass0 (pa_cons (pv 2) pa_nil))))) (fun _ _ _ _ _ => (pv 2))) (pe_lst pa_nil) (nomark _))))), ?_⟩
    unfold anyB at ha
    rw [Bool.and_eq_true] at ha
    have hl : (itemsD d).length < 100 := of_decide_eq_true ha.1
    have hl5 : (itemsD d).length < 100000 := by omega
    refine' st_if0 (K := K) (b := !(isLst d || isTup d) || !decide ((lenD d : Int) = n)) (JB.eq ?jt ?jr) ?kc (fun hb H1 e1 => ?m1) (fun hb H1 e1 => ?m2)
    case jt => (cases h1; walk_at "jt")
    case jr => rfl
    case kc => decide
    case m1 =>
      refine' pure_ret e1 q (JD.eq ?j ?e) ?kc
      case j => walk_at "j"
      case e => (rw [seq_or] at hb; unfold areI; revert hb; cases isSeq d <;> cases decide ((lenD d : Int) = n) <;> simp)
      case kc => decide
    case m2 =>
      rw [seq_or] at hb
      have hs : isSeq d = true := by revert hb; cases isSeq d <;> simp
      have hn : decide ((lenD d : Int) = n) = true := by revert hb; cases decide ((lenD d : Int) = n) <;> simp
      walk_at "nx"
      refine' pure_ret e1 q (JD.eq (jd_eqD (nl_da (jl_lcS (K := K) (fun d => !isI d) ?k1 hs hl5 (fun x => rfl) (fun x => rfl) ?ht)) (jd_lst ja_nil (by decide)) ?s1 rfl) ?e) ?kc
      case k1 => walk_at "j"
      case ht => (intro d' x H2 _ e2 hx; refine' jb0 ?t1 ?t2 ?t3; (case t1 => walk_at "jt"); (case t2 => rfl); (case t3 => decide))
      case s1 => exact shaped_items fun e he => any_it ha.2 e (List.mem_filter.mp he).1
      case e => (rw [eqv_nilD, filt_all]; unfold areI; rw [hs, hn]; rfl)
      case kc => decide
--OK law
local macro_rules | `(tactic| walk_at "rel") => `(tactic| first | exact ⟨_, rfl, rfl⟩ | exact ⟨_, rfl, by assumption, rfl⟩ | exact ⟨_, _, rfl, rfl⟩ | exact ⟨_, _, rfl, by assumption, rfl⟩ | exact ⟨_, _, _, rfl, by assumption, by assumption, rfl⟩)
local macro_rules | `(tactic| walk_at "atx") => `(tactic| (simp only [*]; rfl))
def psiN : PyData → Prop := fun d => d = .none ∨ ∃ i : Int, d = .int i
theorem tells4 (a b c d : Bool) : Tells (.list [.bool a, .bool b, .bool c, .bool d]) := Tells.of (Tb.list (TbL.cons Tb.bool (TbL.cons Tb.bool (TbL.cons Tb.bool (TbL.cons Tb.bool (TbL.nil (n := 0))))))) (by decide) (by decide)
theorem eqv4 (a b c d : Bool) : PyData.eqv (.list [.bool a, .bool b, .bool c, .bool d]) (.list [.bool a, .bool b, .bool c, .bool d]) = true := by cases a <;> cases b <;> cases c <;> cases d <;> rfl
theorem nlt (a b : Int) : (!decide (a < b)) = decide (b ≤ a) := by by_cases h : a < b <;> simp [h] <;> omega
def sp_law (K : PySem.W.Frag) : Sp := fun vs H Q _ => ∃ (a : Addr) (ns : List Int), vs = [.ref a] ∧ SqL K H a (ns.map V.int) ∧ ns.length ≤ 63 ∧ ∀ H', Q (.bl true) H'
set_option maxHeartbeats 4000000 in
theorem ok_law {f_law : Addr} {fd_law : FuncData} (F : Fun K "law" "law" s_law f_law fd_law) {f_is_fraction : Addr} {fd_is_fraction : FuncData} (G_is_fraction : FnOk P w K mg base CX0 3 f_is_fraction fd_is_fraction ["value"] (spPure K rel_is_fraction)) (g_is_fraction : mg "is_fraction" = some (.ref f_is_fraction)) (k_is_fraction : PySem.W.keepIn K (.ref f_is_fraction) = true) (b_is_fraction : Binds K fd_is_fraction ["value"] []) (kb_is_fraction_0_value : KBn K fd_is_fraction ["value"] 0 ["value"] (gN [0]) (gN [0]))
    {f_are_integers : Addr} {fd_are_integers : FuncData} (G_are_integers : FnOk P w K mg base CX0 2 f_are_integers fd_are_integers ["value", "many"] (spPure K rel_are_integers)) (g_are_integers : mg "are_integers" = some (.ref f_are_integers)) (k_are_integers : PySem.W.keepIn K (.ref f_are_integers) = true) (b_are_integers : Binds K fd_are_integers ["value", "many"] []) (kb_are_integers_0_many_value : KBn K fd_are_integers ["value", "many"] 0 ["many", "value"] (gN [1, 0]) (gN [1, 0]))
    (m_range : mg "range" = none)
    {f_is_within : Addr} {fd_is_within : FuncData} (G_is_within : FnOk P w K mg base CX0 2 f_is_within fd_is_within ["value", "least", "most"] (spPure K rel_is_within)) (g_is_within : mg "is_within" = some (.ref f_is_within)) (k_is_within : PySem.W.keepIn K (.ref f_is_within) = true) (b_is_within : Binds K fd_is_within ["value", "least", "most"] []) (kb_is_within_0_most_value_least : KBn K fd_is_within ["value", "least", "most"] 0 ["most", "value", "least"] (gN [1, 2, 0]) (gN [1, 2, 0]))
    {f_is_integer : Addr} {fd_is_integer : FuncData} (G_is_integer : FnOk P w K mg base CX0 1 f_is_integer fd_is_integer ["value"] (spPure K rel_is_integer)) (g_is_integer : mg "is_integer" = some (.ref f_is_integer)) (k_is_integer : PySem.W.keepIn K (.ref f_is_integer) = true) (b_is_integer : Binds K fd_is_integer ["value"] []) (kb_is_integer_0_value : KBn K fd_is_integer ["value"] 0 ["value"] (gN [0]) (gN [0]))
    (m_repr : mg "repr" = none)
    {f__law_row : Addr} {fd__law_row : FuncData} (G__law_row : FnOk P w K mg base CX0 2 f__law_row fd__law_row ["_law_value", "_law_many"] (spPure K rel__law_row)) (g__law_row : mg "_law_row" = some (.ref f__law_row)) (k__law_row : PySem.W.keepIn K (.ref f__law_row) = true) (b__law_row : Binds K fd__law_row ["_law_value", "_law_many"] [])
    {f__law_divisor : Addr} {fd__law_divisor : FuncData} (G__law_divisor : FnOk P w K mg base CX0 1 f__law_divisor fd__law_divisor ["_law_one", "_law_other"] (spPure K rel__law_divisor)) (g__law_divisor : mg "_law_divisor" = some (.ref f__law_divisor)) (k__law_divisor : PySem.W.keepIn K (.ref f__law_divisor) = true) (b__law_divisor : Binds K fd__law_divisor ["_law_one", "_law_other"] [])
    {f__law_whole : Addr} {fd__law_whole : FuncData} (G__law_whole : FnOk P w K mg base CX0 1 f__law_whole fd__law_whole ["_law_value"] (spPure K rel__law_whole)) (g__law_whole : mg "_law_whole" = some (.ref f__law_whole)) (k__law_whole : PySem.W.keepIn K (.ref f__law_whole) = true) (b__law_whole : Binds K fd__law_whole ["_law_value"] [])
    {f__law_pick : Addr} {fd__law_pick : FuncData} (G__law_pick : FnOk P w K mg base CX0 2 f__law_pick fd__law_pick ["_law_riddle_here", "_law_some"] (spPick K)) (g__law_pick : mg "_law_pick" = some (.ref f__law_pick)) (k__law_pick : PySem.W.keepIn K (.ref f__law_pick) = true) (b__law_pick : Binds K fd__law_pick ["_law_riddle_here", "_law_some"] [])
    {f__law_shake : Addr} {fd__law_shake : FuncData} (G__law_shake : FnOk P w K mg base CX0 1 f__law_shake fd__law_shake ["_law_riddle_here", "_law_many"] spDraw) (g__law_shake : mg "_law_shake" = some (.ref f__law_shake)) (k__law_shake : PySem.W.keepIn K (.ref f__law_shake) = true) (b__law_shake : Binds K fd__law_shake ["_law_riddle_here", "_law_many"] [])
    {f__law_any : Addr} {fd__law_any : FuncData} (G__law_any : FnOk P w K mg base CX0 4 f__law_any fd__law_any ["_law_riddle_here"] (spDX K 8 fun d => anyB d = true)) (g__law_any : mg "_law_any" = some (.ref f__law_any)) (k__law_any : PySem.W.keepIn K (.ref f__law_any) = true) (b__law_any : Binds K fd__law_any ["_law_riddle_here"] [])
    {f__law_riddle : Addr} {fd__law_riddle : FuncData} (G__law_riddle : FnOk P w K mg base CX0 1 f__law_riddle fd__law_riddle ["_law_script"] (spSat K)) (g__law_riddle : mg "_law_riddle" = some (.ref f__law_riddle)) (k__law_riddle : PySem.W.keepIn K (.ref f__law_riddle) = true) (b__law_riddle : Binds K fd__law_riddle ["_law_script"] []) :
    FnG P w K mg base CX0 5 f_law fd_law ["_law_script"] (sp_law K) := by
  refine fun_okG F sc_law (fun vs H Q E h => ?_) (fun cdv A outer s H vs Q E hG hr h => ?_)
  · obtain ⟨a, ns, rfl, _⟩ := h; rfl
  · obtain ⟨a, ns, rfl, hS, hlen, q⟩ := h
    refine ⟨_, (pss_cons (ps_set (i := 1) sc_law.nd rfl (.inl rfl) (pe_call G__law_riddle (hr.mono (by decide)) (by rfl) g__law_riddle k__law_riddle b__law_riddle .nil pass0 (pa_cons (pv 0) pa_nil)))
    (pss_cons (ps_for PassesOwn.never rfl (pi_range1 (by rfl) m_range (pa_cons pe_int pa_nil)) (pg_name (i := 2) sc_law.nd rfl (.inl rfl))
      (pss_cons (ps_par (i := 3) (j := 4) (by rfl) sc_law.nd rfl rfl (by decide) rfl rfl (pa_cons (pe_call G__law_any (hr.mono (by decide)) (by rfl) g__law_any k__law_any b__law_any .nil pass0 (pa_cons (pv 1) pa_nil)) (pa_cons (pe_call G__law_shake (hr.mono (by decide)) (by rfl) g__law_shake k__law_shake b__law_shake .nil pass0 (pa_cons (pv 1) (pa_cons pe_int pa_nil))) pa_nil)) (by rfl))
    (pss_cons (ps_par (i := 5) (j := 6) (by rfl) sc_law.nd rfl rfl (by decide) rfl rfl (pa_cons (pe_call G__law_pick (hr.mono (by decide)) (by rfl) g__law_pick k__law_pick b__law_pick .nil pass0 (pa_cons (pv 1) (pa_cons (pe_lst (pa_cons pe_non (pa_cons pe_int (pa_cons (pe_un un_neg pe_int) (pa_cons pe_int (pa_cons (pe_un un_neg (pe_op op_pow pe_int pe_int)) pa_nil)))))) pa_nil))) (pa_cons (pe_call G__law_pick (hr.mono (by decide)) (by rfl) g__law_pick k__law_pick b__law_pick .nil pass0 (pa_cons (pv 1) (pa_cons (pe_lst (pa_cons pe_non (pa_cons pe_int (pa_cons pe_int (pa_cons pe_int (pa_cons (pe_op op_pow pe_int pe_int) pa_nil)))))) pa_nil))) pa_nil)) (by rfl))
    (pss_cons (ps_set (i := 7) sc_law.nd rfl (.inl rfl) (pe_call G__law_whole (hr.mono (by decide)) (by rfl) g__law_whole k__law_whole b__law_whole .nil pass0 (pa_cons (pv 3) pa_nil)))
    (pss_cons (ps_set (i := 8) sc_law.nd rfl (.inl rfl) (pe_and (pv 7) (pe_and (pe_or (pe_cmpR op_isN (pv 5) pe_non (nomark _)) (pe_one (pe_not (pe_cmpR op_lt (pv 3) (pv 5) (nomark _))))) (pe_one (pe_or (pe_cmpR op_isN (pv 6) pe_non (nomark _)) (pe_one (pe_not (pe_cmpR op_gt (pv 3) (pv 6) (nomark _)))))))))
    (pss_cons (ps_set (i := 9) sc_law.nd rfl (.inl rfl) (pe_and (pe_call G__law_row (hr.mono (by decide)) (by rfl) g__law_row k__law_row b__law_row .nil pass0 (pa_cons (pv 3) (pa_cons pe_int pa_nil))) (pe_and (pe_cmpR op_gt (pe_ix (r := rIx K) ix_seq (pv 3) pe_int (fun _ _ => rfl)) pe_int (nomark _)) (pe_one (pe_cmpR op_eq (pe_call G__law_divisor (hr.mono (by decide)) (by rfl) g__law_divisor k__law_divisor b__law_divisor .nil pass0 (pa_cons (pe_ix (r := rIx K) ix_seq (pv 3) pe_int (fun _ _ => rfl)) (pa_cons (pe_ix (r := rIx K) ix_seq (pv 3) pe_int (fun _ _ => rfl)) pa_nil))) pe_int (nomark _))))))
    (pss_cons (ps_set (i := 10) sc_law.nd rfl (.inl rfl) (pe_lst (pa_cons (pe_call G_is_integer (hr.mono (by decide)) (by rfl) g_is_integer k_is_integer b_is_integer .nil pass0 (pa_cons (pv 3) pa_nil)) (pa_cons (pe_call G_is_within (hr.mono (by decide)) (by rfl) g_is_within k_is_within b_is_within .nil pass0 (pa_cons (pv 3) (pa_cons (pv 5) (pa_cons (pv 6) pa_nil)))) (pa_cons (pe_call G_is_fraction (hr.mono (by decide)) (by rfl) g_is_fraction k_is_fraction b_is_fraction .nil pass0 (pa_cons (pv 3) pa_nil)) (pa_cons (pe_call G_are_integers (hr.mono (by decide)) (by rfl) g_are_integers k_are_integers b_are_integers .nil pass0 (pa_cons (pv 3) (pa_cons (pv 4) pa_nil))) pa_nil))))))
    (pss_cons (ps_if (pt_cmpR op_ne (pe_callB (id := "repr") (r := rRepr K) (call_reprD hG (hr.mono (Nat.zero_le _))) (by rfl) m_repr (by decide +kernel) (pa_cons (pv 10) pa_nil)) (pe_callB (id := "repr") (r := rRepr K) (call_reprD hG (hr.mono (Nat.zero_le _))) (by rfl) m_repr (by decide +kernel) (pa_cons (pe_lst (pa_cons (pv 7) (pa_cons (pv 8) (pa_cons (pv 9) (pa_cons (pe_call G__law_row (hr.mono (by decide)) (by rfl) g__law_row k__law_row b__law_row .nil pass0 (pa_cons (pv 3) (pa_cons (pv 4) pa_nil))) pa_nil))))) pa_nil)) (nomark _))
      (pss_one (ps_ret pe_bl))
      pss_nil)
    (pss_one (ps_if (pt_cmpR (r := rNeD K) (op_neD hr.units) (pe_lst (pa_cons (pe_callN0 G_is_integer (hr.mono (by decide)) (by rfl) g_is_integer k_is_integer kb_is_integer_0_value pass0 (pk_cons (pv 3) pk_nil)) (pa_cons (pe_callN0 G_is_within (hr.mono (by decide)) (by rfl) g_is_within k_is_within kb_is_within_0_most_value_least pass0 (pk_cons (pv 6) (pk_cons (pv 3) (pk_cons (pv 5) pk_nil)))) (pa_cons (pe_callN0 G_is_fraction (hr.mono (by decide)) (by rfl) g_is_fraction k_is_fraction kb_is_fraction_0_value pass0 (pk_cons (pv 3) pk_nil)) (pa_cons (pe_callN0 G_are_integers (hr.mono (by decide)) (by rfl) g_are_integers k_are_integers kb_are_integers_0_many_value pass0 (pk_cons (pv 4) (pk_cons (pv 3) pk_nil))) pa_nil))))) (pv 10) (nomark _))
      (pss_one (ps_ret pe_bl))
      pss_nil))))))))))
    (pss_one (ps_ret (pe_and (pe_call G_is_fraction (hr.mono (by decide)) (by rfl) g_is_fraction k_is_fraction b_is_fraction .nil pass0 (pa_cons (pe_tup (pa_cons pe_int (pa_cons pe_int pa_nil))) pa_nil)) (pe_and (pe_call G_is_fraction (hr.mono (by decide)) (by rfl) g_is_fraction k_is_fraction b_is_fraction .nil pass0 (pa_cons (pe_lst (pa_cons pe_int (pa_cons pe_int pa_nil))) pa_nil)) (pe_one (pe_call G_are_integers (hr.mono (by decide)) (by rfl) g_are_integers k_are_integers b_are_integers .nil pass0 (pa_cons (pe_lst pa_nil) (pa_cons pe_int pa_nil)))))))))), ?_⟩
    walk_at "nx"
    refine ⟨.ref a, rfl, a, ns, rfl, hS, hlen, fun b c H1 s1 hS1 => ?_⟩
    walk_at "nx"
    refine' st_forR (K := K) (W := satW b c) (n := 0) hS1 (ja_cons jd_int ja_nil) (by decide) (by decide) (fun i σ' H' => ∃ y2 y3 y4 y5 y6 y7 y8 y9 y10, σ' = [some (.ref a), some (.ref b), y2, y3, y4, y5, y6, y7, y8, y9, y10] ∧ Sat b c (11 * i) H') (fun H2 e2 hS2 => ⟨_, _, _, _, _, _, _, _, _, rfl, hS2⟩) ?turn ?done
    case done =>
      rintro σ' H' ⟨y2, y3, y4, y5, y6, y7, y8, y9, y10, rfl, hS'⟩
      walk_at "nx"
      have h01 : (itemsD (.tuple [.int 0, .int 1])).length < 100000 := by decide
      have h71 : (itemsD (.list [.int 7, .int 1])).length < 100000 := by decide
      have h00 : (itemsD (.list [])).length < 100000 := by decide
      refine' st_ret (W := satW b c) (n := 11 * 9) hS' (JD.eq (K := K) ?j ?e) ?l (fun v H3 e3 _ hv => ?k)
      case j => walk_at "j"
      case e => exact congrArg PyData.bool (by decide +kernel : (isFrB (.tuple [.int 0, .int 1]) && (isFrB (.list [.int 7, .int 1]) && areI (.list []) 0)) = true)
      case l => decide
      case k =>
        have := hv.bl
        subst this
        exact q H3
    case turn =>
    rintro i σ' H' hi ⟨y2, y3, y4, y5, y6, y7, y8, y9, y10, rfl, hS'⟩
    have hi9 : i < 9 := by omega
    have hB : 11 * (i + 1) ≤ 1000000 := by omega
    walk_at "nx"
    refine' st_parX (K := K) (W := satW b c) (n := 11 * i) (ψ1 := fun d => anyB d = true) (ψ2 := fun d => ∃ z : Int, d = .int z ∧ 0 ≤ z ∧ z < 4) hS' (jax_cons (jx_callD rfl) (jax_cons (jx_i (ji_draw (K := K) rfl jd_int (by decide)) (fun z h => ⟨z, rfl, h⟩)) jax_nil)) ?l1 (fun x y d1 d2 H2 e2 hS2 p1 p2 hx hy => ?k1)
    case l1 => (show 11 * i + _ ≤ 1000000; omega)
    case k1 =>
    obtain ⟨z, rfl, hz⟩ := p2
    have hyi := hy.int
    subst hyi
    have hS2' : Sat b c (11 * i + 9) H2 := hS2
    walk_at "nx"
    refine' st_parX (K := K) (W := satW b c) (n := 11 * i + 9) (ψ1 := psiN) (ψ2 := psiN) hS2' (jax_cons
      (jx_pick (K := K) (ψ := psiN) (m := 5) rfl (jxl_lst (jxs_cons (jx_of (K := K) jd_non (.inl rfl)) (jxs_cons (jx_of (K := K) jd_int (.inr ⟨_, rfl⟩)) (jxs_cons (jx_of (K := K) (jd_neg jd_int) (.inr ⟨_, rfl⟩)) (jxs_cons (jx_of (K := K) jd_int (.inr ⟨_, rfl⟩)) (jxs_cons (jx_of (K := K) (jd_neg (jd_Ii jd_int jd_int ?p1)) (.inr ⟨_, rfl⟩)) jxs_nil))))) (by decide)) (by decide)) (jax_cons
      (jx_pick (K := K) (ψ := psiN) (m := 5) rfl (jxl_lst (jxs_cons (jx_of (K := K) jd_non (.inl rfl)) (jxs_cons (jx_of (K := K) jd_int (.inr ⟨_, rfl⟩)) (jxs_cons (jx_of (K := K) jd_int (.inr ⟨_, rfl⟩)) (jxs_cons (jx_of (K := K) jd_int (.inr ⟨_, rfl⟩)) (jxs_cons (jx_of (K := K) (jd_Ii jd_int jd_int ?p2) (.inr ⟨_, rfl⟩)) jxs_nil))))) (by decide)) (by decide)) jax_nil)) ?l2 (fun vlo vhi lo hi' H3 e3 hS3 plo phi hlo hhi => ?k2)
    case p1 => exact ⟨by decide, by decide, by decide⟩
    case p2 => exact ⟨by decide, by decide, by decide⟩
    case l2 => (show 11 * i + 9 + _ ≤ 1000000; omega)
    case k2 =>
    have hS3' : Sat b c (11 * i + 11) H3 := hS3
    have hB11 : 11 * i + 11 ≤ BIG := by show 11 * i + 11 ≤ 1000000; omega
    have hv3 := hx.mono e3
    have ha1 := p1
    unfold anyB at ha1
    rw [Bool.and_eq_true] at ha1
    have hl5 : (itemsD d1).length < 100000 := by have := of_decide_eq_true ha1.1; omega
    walk_at "nx"
    refine' st_setW (K := K) (W := satW b c) (n := 11 * i + 11) hS3' (d := .bool (isI d1)) ?j1 ?f1 hB11 (fun v1 H4 e4 hI4 hv1 => ?k3)
    case j1 => walk_at "j"
    case f1 => rfl
    case k3 =>
    have hvi1 := hv1.bl
    subst hvi1
    have hv4 := hv3.mono e4
    have hlo4 := hlo.mono e4
    have hhi4 := hhi.mono e4
    walk_at "nx"
    refine' st_set (W := satW b c) (n := 11 * i + 11) (c := 0) (P := fun v H => Da K (satW b c) H v (.bool (within d1 lo hi'))) hI4 ?j2 hB11 (fun v2 H5 e5 hI5 hv2 => ?k4)
    case j2 =>
      by_cases hI : isI d1 = true
      · cases d1 with
        | int u =>
          rcases plo with rfl | ⟨lo, rfl⟩ <;> rcases phi with rfl | ⟨hi, rfl⟩
          · refine' jd0 ?ja ?ea ?la
            case ja => walk_at "j"
            case ea => rfl
            case la => decide
          · refine' jd0 ?jb ?eb ?lb
            case jb => walk_at "j"
            case eb => (rw [nlt]; rfl)
            case lb => decide
          · refine' jd0 ?jc ?ec ?lc
            case jc => walk_at "j"
            case ec => (rw [nlt]; rfl)
            case lc => decide
          · refine' jd0 ?jd ?ed ?ld
            case jd => walk_at "j"
            case ed => (rw [nlt, nlt]; rfl)
            case ld => decide
        | _ => cases hI
      · rw [Bool.not_eq_true] at hI
        refine' jd0 (jd_andV (JD.eq ?je ?ee) (fun hyp => (Bool.noConfusion (show false = true from hyp) : JD K (satW b c) _ _ _ 0 (.bool true)))) ?ef ?le
        case je => walk_at "j"
        case ee => rw [hI]
        case ef => (unfold within; rw [hI]; rfl)
        case le => decide
    case k4 =>
    have hvi2 := hv2.bl
    subst hvi2
    have hv5 := hv4.mono e5
    walk_at "nx"
    refine' st_set (W := satW b c) (n := 11 * i + 11) (c := 0) (P := fun v H => Da K (satW b c) H v (.bool (isFrB d1))) hI5 ?j3 hB11 (fun v3 H6 e6 hI6 hv3' => ?k5)
    case j3 =>
      by_cases hA : areI d1 2 = true
      · obtain ⟨u, w, hs, hit⟩ := areI2 hA
        refine' jd0 ?jg ?eg ?lg
        case jg =>
          refine' jd_andV ?g1 (fun hyp => jd_andV ?g2 (fun hyp2 => ?g3))
          case g1 => walk_at "j"
          case g2 => walk_at "j"
          case g3 =>
            refine' jd_eqI (jd_call (rel := rel__law_divisor) (ja_cons ?g4 (ja_cons ?g5 ja_nil)) ⟨u, w, rfl, rfl⟩ rfl) ?g6
            case g4 => walk_at "j"
            case g5 => walk_at "j"
            case g6 => walk_at "j"
        case eg => (rw [isFrB_pair hs hit, hA, Bool.true_and])
        case lg => decide
      · rw [Bool.not_eq_true] at hA
        refine' jd0 (jd_andV (JD.eq ?jh ?eh) (fun hyp => (Bool.noConfusion (show false = true from hyp) : JD K (satW b c) _ _ _ 0 (.bool true)))) ?ei ?lh
        case jh => walk_at "j"
        case eh => rw [hA]
        case ei => (rw [isFrB_not hA]; rfl)
        case lh => decide
    case k5 =>
    have hvi3 := hv3'.bl
    subst hvi3
    have hv6 := hv5.mono e6
    have hlo6 := (hlo4.mono e5).mono e6
    have hhi6 := (hhi4.mono e5).mono e6
    walk_at "nx"
    refine' st_setW (K := K) (W := satW b c) (n := 11 * i + 11) hI6 (d := .list [.bool (isI d1), .bool (within d1 lo hi'), .bool (isFrB d1), .bool (areI d1 z)]) ?j4 ?f4 hB11 (fun v4 H7 e7 hI7 hv4' => ?k6)
    case j4 => walk_at "j"
    case f4 => rfl
    case k6 =>
    have hv7 := hv6.mono e7
    have hlo7 := hlo6.mono e7
    have hhi7 := hhi6.mono e7
    walk_at "nx"
    refine' st_ifF (K := K) (W := satW b c) (n := 11 * i + 11) hI7 (jb_test (jd_neS (jd_repr (ja_cons ?j5 ja_nil) (tells4 (isI d1) (within d1 lo hi') (isFrB d1) (areI d1 z))) (jd_repr (ja_cons ?j6 ja_nil) (tells4 (isI d1) (within d1 lo hi') (isFrB d1) (areI d1 z))))) ?b5 ?f5 hB11 (fun H8 e8 hI8 => ?k7)
    case j5 => walk_at "j"
    case j6 => walk_at "j"
    case b5 => (rw [decide_eq_true rfl]; rfl)
    case f5 => rfl
    case k7 =>
    have hv8 := hv7.mono e8
    have hlo8 := hlo7.mono e8
    have hhi8 := hhi7.mono e8
    have hv4d := hv4'.mono e8
    walk_at "nx"
    refine' st_ifF (K := K) (W := satW b c) (n := 11 * i + 11) hI8 (jb_test (jd_neD (d1 := .list [.bool (isI d1), .bool (within d1 lo hi'), .bool (isFrB d1), .bool (areI d1 z)]) (d2 := .list [.bool (isI d1), .bool (within d1 lo hi'), .bool (isFrB d1), .bool (areI d1 z)]) ?j7 ?j8 rfl rfl)) ?b7 ?f7 hB11 (fun H9 e9 hI9 => ?k8)
    case j7 => walk_at "j"
    case j8 => walk_at "j"
    case b7 => (rw [eqv4]; rfl)
    case f7 => rfl
    case k8 => exact ⟨_, _, _, _, _, _, _, _, _, rfl, hI9⟩
--END
end
set_option maxHeartbeats 4000000 in
theorem all_mk {l : PySem.W.OpenLaw} {w : World} {K : PySem.W.Frag} {h : Heap} {mg : Str → Option Value} {fa : Addr} (X : K.In h) (G : h.Ns mainGlobals mg) (hfa : mg "law" = some (.ref fa))
    {f0 : Addr} {od0 an0 : Option Addr} {sl0 : Array (Option Value)} {oc0 kV0 dc0 pm0 cd0 ct0 : Value}
    (a0 : PySem.W.nsIn K mainGlobals "is_integer" = some (some (.ref f0))) (l0 : K.lookup f0 = some ⟨oc0, od0, .func (PySem.W.fnOf "is_integer" "is_integer" (defArgs s_is_integer) (defBody s_is_integer) (defScope s_is_integer) .none kV0 dc0 pm0 an0 cd0 ct0), sl0⟩) (c0 : PySem.W.codeIn K cd0 "is_integer" = true) (k0 : PySem.W.keepIn K (.ref f0) = true)
    {f1 : Addr} {od1 an1 : Option Addr} {sl1 : Array (Option Value)} {oc1 kV1 dc1 pm1 cd1 ct1 : Value}
    (a1 : PySem.W.nsIn K mainGlobals "is_within" = some (some (.ref f1))) (l1 : K.lookup f1 = some ⟨oc1, od1, .func (PySem.W.fnOf "is_within" "is_within" (defArgs s_is_within) (defBody s_is_within) (defScope s_is_within) .none kV1 dc1 pm1 an1 cd1 ct1), sl1⟩) (c1 : PySem.W.codeIn K cd1 "is_within" = true) (k1 : PySem.W.keepIn K (.ref f1) = true)
    {f2 : Addr} {od2 an2 : Option Addr} {sl2 : Array (Option Value)} {oc2 kV2 dc2 pm2 cd2 ct2 : Value}
    (a2 : PySem.W.nsIn K mainGlobals "are_integers" = some (some (.ref f2))) (l2 : K.lookup f2 = some ⟨oc2, od2, .func (PySem.W.fnOf "are_integers" "are_integers" (defArgs s_are_integers) (defBody s_are_integers) (defScope s_are_integers) .none kV2 dc2 pm2 an2 cd2 ct2), sl2⟩) (c2 : PySem.W.codeIn K cd2 "are_integers" = true) (k2 : PySem.W.keepIn K (.ref f2) = true)
    {f3 : Addr} {od3 an3 : Option Addr} {sl3 : Array (Option Value)} {oc3 kV3 dc3 pm3 cd3 ct3 : Value}
    (a3 : PySem.W.nsIn K mainGlobals "is_fraction" = some (some (.ref f3))) (l3 : K.lookup f3 = some ⟨oc3, od3, .func (PySem.W.fnOf "is_fraction" "is_fraction" (defArgs s_is_fraction) (defBody s_is_fraction) (defScope s_is_fraction) .none kV3 dc3 pm3 an3 cd3 ct3), sl3⟩) (c3 : PySem.W.codeIn K cd3 "is_fraction" = true) (k3 : PySem.W.keepIn K (.ref f3) = true)
    {f4 : Addr} {od4 an4 : Option Addr} {sl4 : Array (Option Value)} {oc4 kV4 dc4 pm4 cd4 ct4 : Value}
    (a4 : PySem.W.nsIn K mainGlobals "_law_riddle" = some (some (.ref f4))) (l4 : K.lookup f4 = some ⟨oc4, od4, .func (PySem.W.fnOf "_law_riddle" "_law_riddle" (defArgs s__law_riddle) (defBody s__law_riddle) (defScope s__law_riddle) .none kV4 dc4 pm4 an4 cd4 ct4), sl4⟩) (c4 : PySem.W.codeIn K cd4 "_law_riddle" = true) (k4 : PySem.W.keepIn K (.ref f4) = true)
    {f5 : Addr} {od5 an5 : Option Addr} {sl5 : Array (Option Value)} {oc5 kV5 dc5 pm5 cd5 ct5 : Value}
    (a5 : PySem.W.nsIn K mainGlobals "_law_shake" = some (some (.ref f5))) (l5 : K.lookup f5 = some ⟨oc5, od5, .func (PySem.W.fnOf "_law_shake" "_law_shake" (defArgs s__law_shake) (defBody s__law_shake) (defScope s__law_shake) .none kV5 dc5 pm5 an5 cd5 ct5), sl5⟩) (c5 : PySem.W.codeIn K cd5 "_law_shake" = true) (k5 : PySem.W.keepIn K (.ref f5) = true)
    {f6 : Addr} {od6 an6 : Option Addr} {sl6 : Array (Option Value)} {oc6 kV6 dc6 pm6 cd6 ct6 : Value}
    (a6 : PySem.W.nsIn K mainGlobals "_law_pick" = some (some (.ref f6))) (l6 : K.lookup f6 = some ⟨oc6, od6, .func (PySem.W.fnOf "_law_pick" "_law_pick" (defArgs s__law_pick) (defBody s__law_pick) (defScope s__law_pick) .none kV6 dc6 pm6 an6 cd6 ct6), sl6⟩) (c6 : PySem.W.codeIn K cd6 "_law_pick" = true) (k6 : PySem.W.keepIn K (.ref f6) = true)
    {f7 : Addr} {od7 an7 : Option Addr} {sl7 : Array (Option Value)} {oc7 kV7 dc7 pm7 cd7 ct7 : Value}
    (a7 : PySem.W.nsIn K mainGlobals "_law_small" = some (some (.ref f7))) (l7 : K.lookup f7 = some ⟨oc7, od7, .func (PySem.W.fnOf "_law_small" "_law_small" (defArgs s__law_small) (defBody s__law_small) (defScope s__law_small) .none kV7 dc7 pm7 an7 cd7 ct7), sl7⟩) (c7 : PySem.W.codeIn K cd7 "_law_small" = true) (k7 : PySem.W.keepIn K (.ref f7) = true)
    {f8 : Addr} {od8 an8 : Option Addr} {sl8 : Array (Option Value)} {oc8 kV8 dc8 pm8 cd8 ct8 : Value}
    (a8 : PySem.W.nsIn K mainGlobals "_law_any" = some (some (.ref f8))) (l8 : K.lookup f8 = some ⟨oc8, od8, .func (PySem.W.fnOf "_law_any" "_law_any" (defArgs s__law_any) (defBody s__law_any) (defScope s__law_any) .none kV8 dc8 pm8 an8 cd8 ct8), sl8⟩) (c8 : PySem.W.codeIn K cd8 "_law_any" = true) (k8 : PySem.W.keepIn K (.ref f8) = true)
    {f9 : Addr} {od9 an9 : Option Addr} {sl9 : Array (Option Value)} {oc9 kV9 dc9 pm9 cd9 ct9 : Value}
    (a9 : PySem.W.nsIn K mainGlobals "_law_whole" = some (some (.ref f9))) (l9 : K.lookup f9 = some ⟨oc9, od9, .func (PySem.W.fnOf "_law_whole" "_law_whole" (defArgs s__law_whole) (defBody s__law_whole) (defScope s__law_whole) .none kV9 dc9 pm9 an9 cd9 ct9), sl9⟩) (c9 : PySem.W.codeIn K cd9 "_law_whole" = true) (k9 : PySem.W.keepIn K (.ref f9) = true)
    {f10 : Addr} {od10 an10 : Option Addr} {sl10 : Array (Option Value)} {oc10 kV10 dc10 pm10 cd10 ct10 : Value}
    (a10 : PySem.W.nsIn K mainGlobals "_law_divisor" = some (some (.ref f10))) (l10 : K.lookup f10 = some ⟨oc10, od10, .func (PySem.W.fnOf "_law_divisor" "_law_divisor" (defArgs s__law_divisor) (defBody s__law_divisor) (defScope s__law_divisor) .none kV10 dc10 pm10 an10 cd10 ct10), sl10⟩) (c10 : PySem.W.codeIn K cd10 "_law_divisor" = true) (k10 : PySem.W.keepIn K (.ref f10) = true)
    {f11 : Addr} {od11 an11 : Option Addr} {sl11 : Array (Option Value)} {oc11 kV11 dc11 pm11 cd11 ct11 : Value}
    (a11 : PySem.W.nsIn K mainGlobals "_law_row" = some (some (.ref f11))) (l11 : K.lookup f11 = some ⟨oc11, od11, .func (PySem.W.fnOf "_law_row" "_law_row" (defArgs s__law_row) (defBody s__law_row) (defScope s__law_row) .none kV11 dc11 pm11 an11 cd11 ct11), sl11⟩) (c11 : PySem.W.codeIn K cd11 "_law_row" = true) (k11 : PySem.W.keepIn K (.ref f11) = true)
    {f12 : Addr} {od12 an12 : Option Addr} {sl12 : Array (Option Value)} {oc12 kV12 dc12 pm12 cd12 ct12 : Value}
    (a12 : PySem.W.nsIn K mainGlobals "law" = some (some (.ref f12))) (l12 : K.lookup f12 = some ⟨oc12, od12, .func (PySem.W.fnOf "law" "law" (defArgs s_law) (defBody s_law) (defScope s_law) .none kV12 dc12 pm12 an12 cd12 ct12), sl12⟩) (c12 : PySem.W.codeIn K cd12 "law" = true) (k12 : PySem.W.keepIn K (.ref f12) = true)
    (z_isinstance : PySem.W.nsIn K mainGlobals "isinstance" = some none)
    (z_int : PySem.W.nsIn K mainGlobals "int" = some none)
    (z_bool : PySem.W.nsIn K mainGlobals "bool" = some none)
    (z_all : PySem.W.nsIn K mainGlobals "all" = some none)
    (z_tuple : PySem.W.nsIn K mainGlobals "tuple" = some none)
    (z_list : PySem.W.nsIn K mainGlobals "list" = some none)
    (z_len : PySem.W.nsIn K mainGlobals "len" = some none)
    (z_abs : PySem.W.nsIn K mainGlobals "abs" = some none)
    (z_str : PySem.W.nsIn K mainGlobals "str" = some none)
    (z_range : PySem.W.nsIn K mainGlobals "range" = some none)
    (z_repr : PySem.W.nsIn K mainGlobals "repr" = some none)
    (y_gcd : PySem.W.nsIn K mainGlobals "gcd" = some (some (.builtin "math.gcd")))
    : ∃ fd : FuncData, (∀ (s : Shared) (v : Value), BindsTo s fd ⟨[v], []⟩ [("_law_script", v)]) ∧ ∀ base : Heap, K.In base → base.Ns mainGlobals mg → FnG l.prog w K mg base CX0 5 fa fd ["_law_script"] (sp_law K) := by
  have e := hfa.symm.trans (PySem.W.mg_of X G a12)
  cases e
  have m_isinstance := PySem.W.mg_none_of X G z_isinstance
  have m_int := PySem.W.mg_none_of X G z_int
  have m_bool := PySem.W.mg_none_of X G z_bool
  have m_all := PySem.W.mg_none_of X G z_all
  have m_tuple := PySem.W.mg_none_of X G z_tuple
  have m_list := PySem.W.mg_none_of X G z_list
  have m_len := PySem.W.mg_none_of X G z_len
  have m_abs := PySem.W.mg_none_of X G z_abs
  have m_str := PySem.W.mg_none_of X G z_str
  have m_range := PySem.W.mg_none_of X G z_range
  have m_repr := PySem.W.mg_none_of X G z_repr
  have g_gcd := PySem.W.mg_of X G y_gcd
  have F_is_integer := fun_mk (st := s_is_integer) l0 c0 k0
  have g_is_integer := PySem.W.mg_of X G a0
  have b_is_integer := F_is_integer.binds (ps := ["value"]) fun _ _ _ _ _ _ us hl => match us, hl with | [_], _ => rfl
  have F_is_within := fun_mk (st := s_is_within) l1 c1 k1
  have g_is_within := PySem.W.mg_of X G a1
  have b_is_within := F_is_within.binds (ps := ["value", "least", "most"]) fun _ _ _ _ _ _ us hl => match us, hl with | [_, _, _], _ => rfl
  have F_are_integers := fun_mk (st := s_are_integers) l2 c2 k2
  have g_are_integers := PySem.W.mg_of X G a2
  have b_are_integers := F_are_integers.binds (ps := ["value", "many"]) fun _ _ _ _ _ _ us hl => match us, hl with | [_, _], _ => rfl
  have F_is_fraction := fun_mk (st := s_is_fraction) l3 c3 k3
  have g_is_fraction := PySem.W.mg_of X G a3
  have b_is_fraction := F_is_fraction.binds (ps := ["value"]) fun _ _ _ _ _ _ us hl => match us, hl with | [_], _ => rfl
  have F__law_riddle := fun_mk (st := s__law_riddle) l4 c4 k4
  have g__law_riddle := PySem.W.mg_of X G a4
  have b__law_riddle := F__law_riddle.binds (ps := ["_law_script"]) fun _ _ _ _ _ _ us hl => match us, hl with | [_], _ => rfl
  have F__law_shake := fun_mk (st := s__law_shake) l5 c5 k5
  have g__law_shake := PySem.W.mg_of X G a5
  have b__law_shake := F__law_shake.binds (ps := ["_law_riddle_here", "_law_many"]) fun _ _ _ _ _ _ us hl => match us, hl with | [_, _], _ => rfl
  have F__law_pick := fun_mk (st := s__law_pick) l6 c6 k6
  have g__law_pick := PySem.W.mg_of X G a6
  have b__law_pick := F__law_pick.binds (ps := ["_law_riddle_here", "_law_some"]) fun _ _ _ _ _ _ us hl => match us, hl with | [_, _], _ => rfl
  have F__law_small := fun_mk (st := s__law_small) l7 c7 k7
  have g__law_small := PySem.W.mg_of X G a7
  have b__law_small := F__law_small.binds (ps := ["_law_riddle_here"]) fun _ _ _ _ _ _ us hl => match us, hl with | [_], _ => rfl
  have F__law_any := fun_mk (st := s__law_any) l8 c8 k8
  have g__law_any := PySem.W.mg_of X G a8
  have b__law_any := F__law_any.binds (ps := ["_law_riddle_here"]) fun _ _ _ _ _ _ us hl => match us, hl with | [_], _ => rfl
  have F__law_whole := fun_mk (st := s__law_whole) l9 c9 k9
  have g__law_whole := PySem.W.mg_of X G a9
  have b__law_whole := F__law_whole.binds (ps := ["_law_value"]) fun _ _ _ _ _ _ us hl => match us, hl with | [_], _ => rfl
  have F__law_divisor := fun_mk (st := s__law_divisor) l10 c10 k10
  have g__law_divisor := PySem.W.mg_of X G a10
  have b__law_divisor := F__law_divisor.binds (ps := ["_law_one", "_law_other"]) fun _ _ _ _ _ _ us hl => match us, hl with | [_, _], _ => rfl
  have F__law_row := fun_mk (st := s__law_row) l11 c11 k11
  have g__law_row := PySem.W.mg_of X G a11
  have b__law_row := F__law_row.binds (ps := ["_law_value", "_law_many"]) fun _ _ _ _ _ _ us hl => match us, hl with | [_, _], _ => rfl
  have F_law := fun_mk (st := s_law) l12 c12 k12
  have g_law := PySem.W.mg_of X G a12
  have b_law := F_law.binds (ps := ["_law_script"]) fun _ _ _ _ _ _ us hl => match us, hl with | [_], _ => rfl
  have kb_are_integers_0_many_value := kbn_of (ps := ["value", "many"]) F_are_integers 0 ["many", "value"] [1, 0] fun _ _ _ _ _ _ us ws h1 h2 => match us, h1, ws, h2 with | [], _, [_, _], _ => rfl
  have kb_is_fraction_0_value := kbn_of (ps := ["value"]) F_is_fraction 0 ["value"] [0] fun _ _ _ _ _ _ us ws h1 h2 => match us, h1, ws, h2 with | [], _, [_], _ => rfl
  have kb_is_within_0_most_value_least := kbn_of (ps := ["value", "least", "most"]) F_is_within 0 ["most", "value", "least"] [1, 2, 0] fun _ _ _ _ _ _ us ws h1 h2 => match us, h1, ws, h2 with | [], _, [_, _, _], _ => rfl
  have kb_is_integer_0_value := kbn_of (ps := ["value"]) F_is_integer 0 ["value"] [0] fun _ _ _ _ _ _ us ws h1 h2 => match us, h1, ws, h2 with | [], _, [_], _ => rfl
  refine ⟨PySem.W.fnOf "law" "law" (defArgs s_law) (defBody s_law) (defScope s_law) .none kV12 dc12 pm12 an12 cd12 ct12, fun s v => .of_eq rfl, fun base _ _ => ?_⟩
  have G_is_integer := ok_is_integer (P := l.prog) (w := w) (mg := mg) (base := base) F_is_integer m_isinstance m_int m_bool
  have G_is_within := ok_is_within (P := l.prog) (w := w) (mg := mg) (base := base) F_is_within G_is_integer g_is_integer F_is_integer.kp b_is_integer
  have G_are_integers := ok_are_integers (P := l.prog) (w := w) (mg := mg) (base := base) F_are_integers m_all G_is_integer g_is_integer F_is_integer.kp b_is_integer m_isinstance m_tuple m_list m_len
  have G_is_fraction := ok_is_fraction (P := l.prog) (w := w) (mg := mg) (base := base) F_is_fraction G_are_integers g_are_integers F_are_integers.kp b_are_integers g_gcd
  have G__law_riddle := ok__law_riddle (P := l.prog) (w := w) (mg := mg) (base := base) F__law_riddle m_int
  have G__law_shake := ok__law_shake (P := l.prog) (w := w) (mg := mg) (base := base) F__law_shake m_int m_len m_abs
  have G__law_pick := ok__law_pick (P := l.prog) (w := w) (mg := mg) (base := base) F__law_pick G__law_shake g__law_shake F__law_shake.kp b__law_shake m_len
  have G__law_small := ok__law_small (P := l.prog) (w := w) (mg := mg) (base := base) F__law_small G__law_pick g__law_pick F__law_pick.kp b__law_pick G__law_shake g__law_shake F__law_shake.kp b__law_shake
  have G__law_any := ok__law_any (P := l.prog) (w := w) (mg := mg) (base := base) F__law_any G__law_pick g__law_pick F__law_pick.kp b__law_pick m_abs m_str G__law_small g__law_small F__law_small.kp b__law_small
  have G__law_whole := ok__law_whole (P := l.prog) (w := w) (mg := mg) (base := base) F__law_whole m_isinstance m_int
  have G__law_divisor := ok__law_divisor (P := l.prog) (w := w) (mg := mg) (base := base) F__law_divisor m_int m_abs
  have G__law_row := ok__law_row (P := l.prog) (w := w) (mg := mg) (base := base) F__law_row G__law_whole g__law_whole F__law_whole.kp b__law_whole m_isinstance m_tuple m_list m_len
  have G_law := ok_law (P := l.prog) (w := w) (mg := mg) (base := base) F_law G_is_fraction g_is_fraction F_is_fraction.kp b_is_fraction kb_is_fraction_0_value G_are_integers g_are_integers F_are_integers.kp b_are_integers kb_are_integers_0_many_value m_range G_is_within g_is_within F_is_within.kp b_is_within kb_is_within_0_most_value_least G_is_integer g_is_integer F_is_integer.kp b_is_integer kb_is_integer_0_value m_repr G__law_row g__law_row F__law_row.kp b__law_row G__law_divisor g__law_divisor F__law_divisor.kp b__law_divisor G__law_whole g__law_whole F__law_whole.kp b__law_whole G__law_pick g__law_pick F__law_pick.kp b__law_pick G__law_shake g__law_shake F__law_shake.kp b__law_shake G__law_any g__law_any F__law_any.kp b__law_any G__law_riddle g__law_riddle F__law_riddle.kp b__law_riddle
  exact G_law
end K02
open PySem PySem.W PyProof.Rows
set_option maxRecDepth 100000 in
set_option maxHeartbeats 0 in
theorem PySem.Challenge.cw_nodice_k02_what_any_value_is_holds : PySem.Challenge.rw_nodice_k02_what_any_value_is.Holds := by
  w_on; o_law; k_head; (case hw => w_witness2)
  k_fill
  refine Jl.walk_ofG (l := PySem.Challenge.rw_nodice_k02_what_any_value_is) (n := 63) (k := 5) (x := "_law_script") (sp := fun w => K02.sp_law _) rfl (by decide) rfl ⟨rfl, by decide, by decide⟩ (fun w h Y => PySem.W.kIn_of Y) ?F (fun _ _ a ns hl _ hS => ⟨a, ns, rfl, hS, hl, fun _ => rfl⟩)
  case F =>
    intro w mg fa h KX G hmg
    refine' K02.all_mk KX G hmg ?a0 ?l0 ?c0 ?k0 ?a1 ?l1 ?c1 ?k1 ?a2 ?l2 ?c2 ?k2 ?a3 ?l3 ?c3 ?k3 ?a4 ?l4 ?c4 ?k4 ?a5 ?l5 ?c5 ?k5 ?a6 ?l6 ?c6 ?k6 ?a7 ?l7 ?c7 ?k7 ?a8 ?l8 ?c8 ?k8 ?a9 ?l9 ?c9 ?k9 ?a10 ?l10 ?c10 ?k10 ?a11 ?l11 ?c11 ?k11 ?a12 ?l12 ?c12 ?k12 ?z_isinstance ?z_int ?z_bool ?z_all ?z_tuple ?z_list ?z_len ?z_abs ?z_str ?z_range ?z_repr ?y_gcd
    (case a0 => k_is); (case l0 => k_is); (case c0 => k_is); (case k0 => k_is); (case a1 => k_is); (case l1 => k_is); (case c1 => k_is); (case k1 => k_is); (case a2 => k_is); (case l2 => k_is); (case c2 => k_is); (case k2 => k_is); (case a3 => k_is); (case l3 => k_is); (case c3 => k_is); (case k3 => k_is); (case a4 => k_is); (case l4 => k_is); (case c4 => k_is); (case k4 => k_is); (case a5 => k_is); (case l5 => k_is); (case c5 => k_is); (case k5 => k_is); (case a6 => k_is); (case l6 => k_is); (case c6 => k_is); (case k6 => k_is); (case a7 => k_is); (case l7 => k_is); (case c7 => k_is); (case k7 => k_is); (case a8 => k_is); (case l8 => k_is); (case c8 => k_is); (case k8 => k_is); (case a9 => k_is); (case l9 => k_is); (case c9 => k_is); (case k9 => k_is); (case a10 => k_is); (case l10 => k_is); (case c10 => k_is); (case k10 => k_is); (case a11 => k_is); (case l11 => k_is); (case c11 => k_is); (case k11 => k_is); (case a12 => k_is); (case l12 => k_is); (case c12 => k_is); (case k12 => k_is); (case z_isinstance => k_is); (case z_int => k_is); (case z_bool => k_is); (case z_all => k_is); (case z_tuple => k_is); (case z_list => k_is); (case z_len => k_is); (case z_abs => k_is); (case z_str => k_is); (case z_range => k_is); (case z_repr => k_is); (case y_gcd => k_is)

