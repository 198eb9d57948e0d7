import PyProof.Rows.All
import Wide.All
import OpenK.AllK
import Wide.FinOn
import HandS.ForMost
import HandS.Wide
import HandS.Gcd
import HandS.IsInst
import HandS.NoneIn
import HandS.SetFor
import PyProof.EqKinds
import HandS.Iter
import HandS.Zip
import HandS.TupAny
import KE.GoesEnum
import PySem.Challenge.RW_nodice_k24_whole_first_shares_step_by_st
set_option Elab.async false
set_option linter.all false
set_option maxRecDepth 100000
set_option maxHeartbeats 2000000
/-! a layer of our own over the readings: what an expression comes to, as data (PyData), while some objects may change (M) and a word I n of them is kept -/
namespace Jl
open PySem PySem.Spec L2

abbrev BIG : Nat := 1000000
def ExM (M : Addr → Prop) (H H' : Hp) : Prop := ∀ a o, ¬ M a → H a = some o → H' a = some o
theorem ExM.refl {M : Addr → Prop} {H : Hp} : ExM M H H := fun _ _ _ h => h
theorem ExM.trans {M : Addr → Prop} {H H1 H2 : Hp} (a : ExM M H H1) (b : ExM M H1 H2) : ExM M H H2 := fun x o m h => b x o m (a x o m h)
theorem ExM.of {M : Addr → Prop} {H H' : Hp} (e : Same H H') : ExM M H H' := fun a o _ h => e a o h
theorem same_new {H : Hp} {p : Addr} {o : HO} (h : H p = none) : Same H (upd H p o) := fun b x e => by
  rw [upd_ne (ne_of_none e h)]; exact e
structure Wd where
  M : Addr → Prop
  F : Addr → Prop
  I : Nat → Hp → Prop
  mf : ∀ {a}, M a → F a
  sf : ∀ {n H H'}, (∀ a, F a → H' a = H a) → I n H → I n H'
  al : ∀ {n H a}, I n H → F a → H a ≠ none
  ml : ∀ {n H a}, I n H → M a → ∃ xs, H a = some (.lst xs)
  mo : ∀ {n m H}, n ≤ m → I n H → I m H
theorem Wd.fr (W : Wd) {n : Nat} {H : Hp} {p : Addr} (h : W.I n H) (hp : H p = none) : ¬ W.M p := fun m => by
  obtain ⟨xs, e⟩ := W.ml h m
  rw [hp] at e; cases e
theorem Wd.st (W : Wd) {n : Nat} {H H' : Hp} (s : Same H H') (h : W.I n H) : W.I n H' := W.sf (fun a f => by
  cases e : H a with
  | none => exact absurd e (W.al h f)
  | some o => exact s a o e) h
/-- nothing changes -/
def W0 : Wd := ⟨fun _ => False, fun _ => False, fun _ _ => True, fun h => h.elim, fun _ _ => trivial, fun _ h => h.elim, fun _ h => h.elim, fun _ _ => trivial⟩
theorem ex0 {H H' : Hp} (e : ExM W0.M H H') : Same H H' := fun a o h => e a o (fun z => z) h

section
variable (K : PySem.W.Frag) (M : Addr → Prop) (H : Hp)
def WrL (a : Addr) (xs : List V) : Prop := ∃ (o : Obj) (its : Array Value) (n : Nat), K.lookup a = some o ∧ o.cls = .type "list" ∧ o.dict = none ∧ o.data = .seq its n ∧ its.size ≤ sizeLine ∧ Vals xs its.toList
def WrT (a : Addr) (xs : List V) : Prop := ∃ (o : Obj) (its : Array Value) (n : Nat), K.lookup a = some o ∧ o.cls = .type "tuple" ∧ o.data = .seq its n ∧ its.size ≤ sizeLine ∧ Vals xs its.toList
def LsS (a : Addr) (xs : List V) : Prop := (¬ M a ∧ Rd H a (.lst xs)) ∨ WrL K a xs
def TuS (a : Addr) (xs : List V) : Prop := (¬ M a ∧ Rd H a (.tup xs)) ∨ WrT K a xs
mutual
/-- the value v is the data d, now and later -/
inductive DaM : V → PyData → Prop
  | non : DaM .non .none
  | bl (b : Bool) : DaM (.bl b) (.bool b)
  | int (i : Int) : DaM (.int i) (.int i)
  | str (x : Str) : DaM (.str x) (.str x)
  | lst {a : Addr} {xs : List V} {ds : List PyData} : LsS K M H a xs → DaML xs ds → DaM (.ref a) (.list ds)
  | tup {a : Addr} {xs : List V} {ds : List PyData} : TuS K M H a xs → DaML xs ds → DaM (.ref a) (.tuple ds)
inductive DaML : List V → List PyData → Prop
  | nil : DaML [] []
  | cons {v : V} {vs : List V} {d : PyData} {ds : List PyData} : DaM v d → DaML vs ds → DaML (v :: vs) (d :: ds)
end
end
abbrev Da (K : PySem.W.Frag) (W : Wd) (H : Hp) (v : V) (d : PyData) : Prop := DaM K W.M H v d
abbrev DaL (K : PySem.W.Frag) (W : Wd) (H : Hp) (vs : List V) (ds : List PyData) : Prop := DaML K W.M H vs ds
variable {K : PySem.W.Frag} {W : Wd} {σ : St} {H H1 H2 : Hp} {v : V} {d : PyData} {n : Nat}
theorem rd_mono {M : Addr → Prop} {a : Addr} {u : HO} (e : ExM M H H1) (m : ¬ M a) (h : Rd H a u) : Rd H1 a u := by
  rcases h with h | ⟨o, h⟩
  · exact .inl (e a _ m h)
  · exact .inr ⟨o, e a _ m h⟩
theorem LsS.mono {M : Addr → Prop} {a : Addr} {xs : List V} (h : LsS K M H a xs) (e : ExM M H H1) : LsS K M H1 a xs := by
  rcases h with ⟨m, h⟩ | h
  · exact .inl ⟨m, rd_mono e m h⟩
  · exact .inr h
theorem TuS.mono {M : Addr → Prop} {a : Addr} {xs : List V} (h : TuS K M H a xs) (e : ExM M H H1) : TuS K M H1 a xs := by
  rcases h with ⟨m, h⟩ | h
  · exact .inl ⟨m, rd_mono e m h⟩
  · exact .inr h
theorem LsS.sq {M : Addr → Prop} {a : Addr} {xs : List V} (h : LsS K M H a xs) : SqL K H a xs := by
  rcases h with ⟨m, h⟩ | h
  · exact .inl h
  · exact .inr h
theorem TuS.sq {M : Addr → Prop} {a : Addr} {xs : List V} (h : TuS K M H a xs) : SqT K H a xs := by
  rcases h with ⟨m, h⟩ | h
  · exact .inl h
  · exact .inr h
mutual
theorem DaM.mono {M : Addr → Prop} (e : ExM M H H1) : ∀ (d : PyData) (v : V), DaM K M H v d → DaM K M H1 v d
  | .none, _, h => by cases h; exact .non
  | .bool _, _, h => by cases h; exact .bl _
  | .int _, _, h => by cases h; exact .int _
  | .str _, _, h => by cases h; exact .str _
  | .list ds, _, h => by
    cases h with
    | lst hs ha => exact .lst (hs.mono e) (DaML.mono e ds _ ha)
  | .tuple ds, _, h => by
    cases h with
    | tup hs ha => exact .tup (hs.mono e) (DaML.mono e ds _ ha)
  | .dict _, _, h => by cases h
theorem DaML.mono {M : Addr → Prop} (e : ExM M H H1) : ∀ (ds : List PyData) (vs : List V), DaML K M H vs ds → DaML K M H1 vs ds
  | [], _, h => by cases h; exact .nil
  | d :: ds, _, h => by
    cases h with
    | cons h1 h2 => exact .cons (DaM.mono e d _ h1) (DaML.mono e ds _ h2)
end
mutual
theorem DaM.dp {M : Addr → Prop} : ∀ (d : PyData) (v : V), DaM K M H v d → Dp K H v d
  | .none, _, h => by cases h; exact .non
  | .bool _, _, h => by cases h; exact .bl _
  | .int _, _, h => by cases h; exact .int _
  | .str _, _, h => by cases h; exact .str _
  | .list ds, _, h => by
    cases h with
    | lst hs ha => exact .lst hs.sq (DaML.dp ds _ ha)
  | .tuple ds, _, h => by
    cases h with
    | tup hs ha => exact .tup hs.sq (DaML.dp ds _ ha)
  | .dict _, _, h => by cases h
theorem DaML.dp {M : Addr → Prop} : ∀ (ds : List PyData) (vs : List V), DaML K M H vs ds → DpAll K H vs ds
  | [], _, h => by cases h; exact .nil
  | d :: ds, _, h => by
    cases h with
    | cons h1 h2 => exact .cons (DaM.dp d _ h1) (DaML.dp ds _ h2)
end
theorem Da.mono (h : Da K W H v d) (e : ExM W.M H H1) : Da K W H1 v d := DaM.mono e d v h
theorem DaL.mono {vs : List V} {ds : List PyData} (h : DaL K W H vs ds) (e : ExM W.M H H1) : DaL K W H1 vs ds := DaML.mono e ds vs h
theorem Da.dp (h : Da K W H v d) : Dp K H v d := DaM.dp d v h
theorem DaL.dp {vs : List V} {ds : List PyData} (h : DaL K W H vs ds) : DpAll K H vs ds := DaML.dp ds vs h
theorem da_int {i : Int} : Da K W H (.int i) (.int i) := .int i
theorem da_bl {b : Bool} : Da K W H (.bl b) (.bool b) := .bl b
theorem da_non : Da K W H .non .none := .non
theorem da_str {x : Str} : Da K W H (.str x) (.str x) := .str x
theorem da_tup {a : Addr} {xs : List V} {ds : List PyData} (m : ¬ W.M a) (e : H a = some (.tup xs)) (h : DaL K W H xs ds) : Da K W H (.ref a) (.tuple ds) := .tup (.inl ⟨m, .inl e⟩) h
theorem da_lst {a : Addr} {xs : List V} {ds : List PyData} (m : ¬ W.M a) (e : H a = some (.lst xs)) (h : DaL K W H xs ds) : Da K W H (.ref a) (.list ds) := .lst (.inl ⟨m, .inl e⟩) h
theorem Da.int {i : Int} (h : Da K W H v (.int i)) : v = .int i := by cases h; rfl
theorem Da.bl {b : Bool} (h : Da K W H v (.bool b)) : v = .bl b := by cases h; rfl
theorem Da.non (h : Da K W H v .none) : v = .non := by cases h; rfl
theorem Da.str {x : Str} (h : Da K W H v (.str x)) : v = .str x := by cases h; rfl

/-! ### data without a list -/
mutual
def noL : PyData → Bool
  | .list _ => false
  | .tuple ds => noLs ds
  | .dict _ => false
  | _ => true
def noLs : List PyData → Bool
  | [] => true
  | d :: ds => noL d && noLs ds
end
mutual
theorem dp_keep {M : Addr → Prop} (hI : ∀ a, M a → ∃ xs, H a = some (.lst xs)) : ∀ (d : PyData) (v : V), noL d = true → Dp K H v d → DaM K M H v d
  | .none, _, _, h => by cases h; exact .non
  | .bool _, _, _, h => by cases h; exact .bl _
  | .int _, _, _, h => by cases h; exact .int _
  | .str _, _, _, h => by cases h; exact .str _
  | .list _, _, n, _ => by simp [noL] at n
  | .dict _, _, n, _ => by simp [noL] at n
  | .tuple ds, _, n, h => by
    cases h with
    | @tup a xs _ hs ha =>
      refine .tup ?_ (dpl_keep hI ds xs (by simpa [noL] using n) ha)
      rcases hs with h1 | h1
      · refine .inl ⟨fun m => ?_, h1⟩
        obtain ⟨_, z⟩ := hI a m
        rcases h1 with h1 | ⟨o, h1⟩ <;> (rw [h1] at z; cases z)
      · exact .inr h1
theorem dpl_keep {M : Addr → Prop} (hI : ∀ a, M a → ∃ xs, H a = some (.lst xs)) : ∀ (ds : List PyData) (vs : List V), noLs ds = true → DpAll K H vs ds → DaML K M H vs ds
  | [], _, _, h => by cases h; exact .nil
  | d :: ds, _, n, h => by
    cases h with
    | cons h1 h2 =>
      simp only [noLs, Bool.and_eq_true] at n
      exact .cons (dp_keep hI d _ n.1 h1) (dpl_keep hI ds _ n.2 h2)
end
theorem da_of (hI : W.I n H) (hn : noL d = true) (h : Dp K H v d) : Da K W H v d := dp_keep (fun _ m => W.ml hI m) d v hn h

/-! ### what an expression comes to -/
def J (W : Wd) (te : TE) (σ : St) (H : Hp) (c : Nat) (P : V → Hp → Prop) : Prop :=
  ∀ n H1, ExM W.M H H1 → W.I n H1 → n + c ≤ BIG → ∀ Q : VK, (∀ v H2, ExM W.M H1 H2 → W.I (n + c) H2 → P v H2 → Q v H2) → te σ H1 Q
def JA (W : Wd) (ta : TA) (σ : St) (H : Hp) (c : Nat) (P : List V → Hp → Prop) : Prop :=
  ∀ n H1, ExM W.M H H1 → W.I n H1 → n + c ≤ BIG → ∀ Q : List V → Hp → Prop, (∀ v H2, ExM W.M H1 H2 → W.I (n + c) H2 → P v H2 → Q v H2) → ta σ H1 Q
def JT (_K : PySem.W.Frag) (W : Wd) (tt : TT) (σ : St) (H : Hp) (c : Nat) (P : Bool → Prop) : Prop :=
  ∀ n H1, ExM W.M H H1 → W.I n H1 → n + c ≤ BIG → ∀ Q : Bool → Hp → Prop, (∀ b H2, ExM W.M H1 H2 → W.I (n + c) H2 → P b → Q b H2) → tt σ H1 Q
/-- exactly the data d; exactly the truth b -/
abbrev JD (K : PySem.W.Frag) (W : Wd) (te : TE) (σ : St) (H : Hp) (c : Nat) (d : PyData) : Prop := J W te σ H c fun v H2 => Da K W H2 v d
abbrev JX (K : PySem.W.Frag) (W : Wd) (te : TE) (σ : St) (H : Hp) (c : Nat) (φ : PyData → Prop) : Prop := J W te σ H c fun v H2 => ∃ d, φ d ∧ Da K W H2 v d
abbrev JDA (K : PySem.W.Frag) (W : Wd) (ta : TA) (σ : St) (H : Hp) (c : Nat) (ds : List PyData) : Prop := JA W ta σ H c fun v H2 => DaL K W H2 v ds
abbrev JB (K : PySem.W.Frag) (W : Wd) (tt : TT) (σ : St) (H : Hp) (c : Nat) (b : Bool) : Prop := JT K W tt σ H c fun x => x = b
variable {te ta tb : TE} {c c1 c2 : Nat} {P P1 P2 : V → Hp → Prop}
theorem J.mono (h : J W te σ H c P) (e : ExM W.M H H1) : J W te σ H1 c P := fun n H2 e2 => h n H2 (e.trans e2)
theorem JA.mono {ta : TA} {P : List V → Hp → Prop} (h : JA W ta σ H c P) (e : ExM W.M H H1) : JA W ta σ H1 c P := fun n H2 e2 => h n H2 (e.trans e2)
theorem JT.mono {tt : TT} {P : Bool → Prop} (h : JT K W tt σ H c P) (e : ExM W.M H H1) : JT K W tt σ H1 c P := fun n H2 e2 => h n H2 (e.trans e2)
theorem J.imp (h : J W te σ H c P) (f : ∀ v H2, P v H2 → P1 v H2) : J W te σ H c P1 := fun n H1 e hI hn Q q => h n H1 e hI hn Q fun v H2 e2 hI2 p => q v H2 e2 hI2 (f v H2 p)
theorem J.le (h : J W te σ H c P) (hc : c ≤ c1) : J W te σ H c1 P := fun n H1 e hI hn Q q => h n H1 e hI (by omega) Q fun v H2 e2 hI2 p => q v H2 e2 (W.mo (by omega) hI2) p
theorem JT.le {tt : TT} {P : Bool → Prop} (h : JT K W tt σ H c P) (hc : c ≤ c1) : JT K W tt σ H c1 P := fun n H1 e hI hn Q q => h n H1 e hI (by omega) Q fun v H2 e2 hI2 p => q v H2 e2 (W.mo (by omega) hI2) p
theorem JD.eq {e : PyData} (h : JD K W te σ H c d) (x : d = e) : JD K W te σ H c e := x ▸ h
theorem JB.eq {tt : TT} {a b : Bool} (h : JB K W tt σ H c a) (x : a = b) : JB K W tt σ H c b := x ▸ h
theorem j_v {i : Nat} (h : σ[i]? = some (some v)) : J W (tVar i) σ H 0 (fun x _ => x = v) := fun n H1 _ hI _ Q q => ⟨v, h, q v H1 ExM.refl hI rfl⟩
theorem jd_v {i : Nat} (h : σ[i]? = some (some v)) (hd : Da K W H v d) : JD K W (tVar i) σ H 0 d := fun n H1 e hI _ Q q => ⟨v, h, q v H1 ExM.refl hI (hd.mono e)⟩
theorem jd_vi {i : Nat} {k : Int} (h : σ[i]? = some (some (.int k))) : JD K W (tVar i) σ H 0 (.int k) := jd_v h da_int
theorem jd_c (hd : ∀ H, Da K W H v d) : JD K W (tC v) σ H 0 d := fun n H1 e hI _ Q q => q v H1 ExM.refl hI (hd H1)
theorem jd_int {i : Int} : JD K W (tC (.int i)) σ H 0 (.int i) := jd_c fun _ => da_int
theorem jd_bl {b : Bool} : JD K W (tC (.bl b)) σ H 0 (.bool b) := jd_c fun _ => da_bl
theorem jd_non : JD K W (tC .non) σ H 0 .none := jd_c fun _ => da_non
theorem jd_str {x : Str} : JD K W (tC (.str x)) σ H 0 (.str x) := jd_c fun _ => da_str
/-- two data, an operation upon them -/
theorem jd_op {r : R2} {d1 d2 : PyData} (ha : JD K W ta σ H c1 d1) (hb : JD K W tb σ H c2 d2)
    (hr : ∀ x y n H1, W.I n H1 → Da K W H1 x d1 → Da K W H1 y d2 → ∀ Q : VK, (∀ v H2, Same H1 H2 → Da K W H2 v d → Q v H2) → r x y H1 Q) : JD K W (tOp r ta tb) σ H (c1 + c2) d := fun n H1 e hI hn Q q =>
  ha n H1 e hI (by omega) _ fun x H2 e2 hI2 hx => hb (n + c1) H2 (e.trans e2) hI2 (by omega) _ fun y H3 e3 hI3 hy => hr x y _ H3 hI3 (hx.mono e3) hy Q fun v H4 e4 hv =>
    q v H4 ((e2.trans e3).trans (.of e4)) (W.st e4 (by rw [show n + (c1 + c2) = n + c1 + c2 by omega]; exact hI3)) hv
theorem jd_un {r : V → Hp → VK → Prop} {d1 : PyData} (ha : JD K W ta σ H c d1)
    (hr : ∀ x n H1, W.I n H1 → Da K W H1 x d1 → ∀ Q : VK, (∀ v H2, Same H1 H2 → Da K W H2 v d → Q v H2) → r x H1 Q) : JD K W (tUn r ta) σ H c d := fun n H1 e hI hn Q q =>
  ha n H1 e hI hn _ fun x H2 e2 hI2 hx => hr x _ H2 hI2 hx Q fun v H4 e4 hv => q v H4 (e2.trans (.of e4)) (W.st e4 hI2) hv
theorem jd_I {C : Int → Int → Prop} {g : Int → Int → V} {i j : Int} (ha : JD K W ta σ H c1 (.int i)) (hb : JD K W tb σ H c2 (.int j)) (hc : C i j) (hd : ∀ H, Da K W H (g i j) d) : JD K W (tOp (rI C g) ta tb) σ H (c1 + c2) d :=
  jd_op ha hb fun x y n H1 _ hx hy Q q => ⟨i, j, hx.int, hy.int, hc, q _ H1 (Same.refl _) (hd H1)⟩
theorem jd_I0 {g : Int → Int → V} {i j : Int} (ha : JD K W ta σ H c1 (.int i)) (hb : JD K W tb σ H c2 (.int j)) (hd : ∀ H, Da K W H (g i j) d) : JD K W (tOp (rI0 g) ta tb) σ H (c1 + c2) d :=
  jd_op ha hb fun x y n H1 _ hx hy Q q => ⟨i, j, hx.int, hy.int, q _ H1 (Same.refl _) (hd H1)⟩
/-- ints to an int, ints to a truth -/
theorem jd_Ii {C : Int → Int → Prop} {f : Int → Int → Int} {i j : Int} (ha : JD K W ta σ H c1 (.int i)) (hb : JD K W tb σ H c2 (.int j)) (hc : C i j) : JD K W (tOp (rI C fun i j => .int (f i j)) ta tb) σ H (c1 + c2) (.int (f i j)) := jd_I ha hb hc fun _ => da_int
theorem jd_I0i {f : Int → Int → Int} {i j : Int} (ha : JD K W ta σ H c1 (.int i)) (hb : JD K W tb σ H c2 (.int j)) : JD K W (tOp (rI0 fun i j => .int (f i j)) ta tb) σ H (c1 + c2) (.int (f i j)) := jd_I0 ha hb fun _ => da_int
theorem jd_I0b {f : Int → Int → Bool} {i j : Int} (ha : JD K W ta σ H c1 (.int i)) (hb : JD K W tb σ H c2 (.int j)) : JD K W (tOp (rI0 fun i j => .bl (f i j)) ta tb) σ H (c1 + c2) (.bool (f i j)) := jd_I0 ha hb fun _ => da_bl
theorem jd_neg {f : Int → Int} {i : Int} (ha : JD K W ta σ H c (.int i)) : JD K W (tUn (rU fun i => .int (f i)) ta) σ H c (.int (f i)) := jd_un ha fun x n H1 _ hx Q q => ⟨i, hx.int, q _ H1 (Same.refl _) da_int⟩
/-- two ints compared by the rule for scalars -/
theorem jd_eqI {i j : Int} (ha : JD K W ta σ H c1 (.int i)) (hb : JD K W tb σ H c2 (.int j)) : JD K W (tOp rEq ta tb) σ H (c1 + c2) (.bool (decide (i = j))) := jd_op ha hb fun x y n H1 _ hx hy Q q => by
  have e1 := hx.int; have e2 := hy.int; subst e1 e2
  refine ⟨rfl, ?_⟩
  have := q (.bl (decide (i = j))) H1 (Same.refl _) da_bl
  have e : decide (V.int i = V.int j) = decide (i = j) := by by_cases h : i = j <;> simp [h]
  rw [e]; exact this
theorem jd_neI {i j : Int} (ha : JD K W ta σ H c1 (.int i)) (hb : JD K W tb σ H c2 (.int j)) : JD K W (tOp rNe ta tb) σ H (c1 + c2) (.bool (!decide (i = j))) := jd_op ha hb fun x y n H1 _ hx hy Q q => by
  have e1 := hx.int; have e2 := hy.int; subst e1 e2
  refine ⟨rfl, ?_⟩
  have := q (.bl (!decide (i = j))) H1 (Same.refl _) da_bl
  have e : decide (V.int i = V.int j) = decide (i = j) := by by_cases h : i = j <;> simp [h]
  rw [e]; exact this
theorem jd_eqB {i j : Bool} (ha : JD K W ta σ H c1 (.bool i)) (hb : JD K W tb σ H c2 (.bool j)) : JD K W (tOp rEq ta tb) σ H (c1 + c2) (.bool (decide (i = j))) := jd_op ha hb fun x y n H1 _ hx hy Q q => by
  have e1 := hx.bl; have e2 := hy.bl; subst e1 e2
  refine ⟨rfl, ?_⟩
  have := q (.bl (decide (i = j))) H1 (Same.refl _) da_bl
  have e : decide (V.bl i = V.bl j) = decide (i = j) := by by_cases h : i = j <;> simp [h]
  rw [e]; exact this
theorem jd_neB {i j : Bool} (ha : JD K W ta σ H c1 (.bool i)) (hb : JD K W tb σ H c2 (.bool j)) : JD K W (tOp rNe ta tb) σ H (c1 + c2) (.bool (!decide (i = j))) := jd_op ha hb fun x y n H1 _ hx hy Q q => by
  have e1 := hx.bl; have e2 := hy.bl; subst e1 e2
  refine ⟨rfl, ?_⟩
  have := q (.bl (!decide (i = j))) H1 (Same.refl _) da_bl
  have e : decide (V.bl i = V.bl j) = decide (i = j) := by by_cases h : i = j <;> simp [h]
  rw [e]; exact this
theorem jd_eqD {d1 d2 : PyData} (ha : JD K W ta σ H c1 d1) (hb : JD K W tb σ H c2 d2) (s1 : SeqAt.shaped d1 = true) (s2 : SeqAt.shaped d2 = true) : JD K W (tOp (rEqD K) ta tb) σ H (c1 + c2) (.bool (PyData.eqv d1 d2)) :=
  jd_op ha hb fun x y n H1 _ hx hy Q q => ⟨d1, d2, hx.dp, hy.dp, s1, s2, q _ H1 (Same.refl _) da_bl⟩
theorem jd_neD {d1 d2 : PyData} (ha : JD K W ta σ H c1 d1) (hb : JD K W tb σ H c2 d2) (s1 : SeqAt.shaped d1 = true) (s2 : SeqAt.shaped d2 = true) : JD K W (tOp (rNeD K) ta tb) σ H (c1 + c2) (.bool (!PyData.eqv d1 d2)) :=
  jd_op ha hb fun x y n H1 _ hx hy Q q => ⟨d1, d2, hx.dp, hy.dp, s1, s2, q _ H1 (Same.refl _) da_bl⟩
def isNoneD : PyData → Bool
  | .none => true
  | _ => false
theorem da_isN (h : Da K W H v d) : decide (v = .non) = isNoneD d := by cases h <;> rfl
theorem jd_isN (ha : JD K W ta σ H c1 d) (hb : JD K W tb σ H c2 .none) : JD K W (tOp (fun x y H Q => y = .non ∧ Q (.bl (decide (x = .non))) H) ta tb) σ H (c1 + c2) (.bool (isNoneD d)) :=
  jd_op ha hb fun x y n H1 _ hx hy Q q => ⟨hy.non, by rw [da_isN hx]; exact q _ H1 (Same.refl _) da_bl⟩
theorem jd_notN (ha : JD K W ta σ H c1 d) (hb : JD K W tb σ H c2 .none) : JD K W (tOp (fun x y H Q => y = .non ∧ Q (.bl (!decide (x = .non))) H) ta tb) σ H (c1 + c2) (.bool (!isNoneD d)) :=
  jd_op ha hb fun x y n H1 _ hx hy Q q => ⟨hy.non, by rw [da_isN hx]; exact q _ H1 (Same.refl _) da_bl⟩
/-! items -/
theorem dal_len : ∀ {xs : List V} {ds : List PyData}, DaL K W H xs ds → xs.length = ds.length
  | _, _, .nil => rfl
  | _, _, .cons _ t => by rw [List.length_cons, List.length_cons, dal_len t]
theorem dal_at {xs : List V} : ∀ {ds : List PyData} {j : Nat} {d : PyData}, DaL K W H xs ds → ds[j]? = some d → ∃ x, xs[j]? = some x ∧ Da K W H x d := by
  induction xs with
  | nil => intro ds j d h e; cases h; cases e
  | cons v vs ih =>
    intro ds j x h e
    cases h with
    | cons h1 h2 =>
      cases j with
      | zero => cases e; exact ⟨v, rfl, h1⟩
      | succ j =>
        have z := ih h2 e
        exact z
theorem dal_get {xs : List V} : ∀ {ds : List PyData} {j : Nat} {x : V}, DaL K W H xs ds → xs[j]? = some x → ∃ d, ds[j]? = some d ∧ Da K W H x d := by
  induction xs with
  | nil => intro _ _ _ _ h; cases h
  | cons v vs ih =>
    intro ds j x h e
    cases h with
    | @cons _ _ d ds h1 h2 =>
      cases j with
      | zero => cases e; exact ⟨d, rfl, h1⟩
      | succ j =>
        have z := ih (ds := ds) h2 e
        exact z
theorem dal_atI {xs : List V} {ds : List PyData} {i : Int} {d : PyData} (h : DaL K W H xs ds) (e : atI ds i = some d) : ∃ x, atI xs i = some x ∧ Da K W H x d := by
  unfold atI at e ⊢
  rw [dal_len h]
  cases q : ixN ds.length i with
  | none => rw [q] at e; cases e
  | some j => rw [q] at e; exact dal_at h e
theorem jd_ixT {ds : List PyData} {i : Int} (ha : JD K W ta σ H c1 (.tuple ds)) (hb : JD K W tb σ H c2 (.int i)) (he : atI ds i = some d) : JD K W (tOp (rIxT K) ta tb) σ H (c1 + c2) d :=
  jd_op ha hb fun x y n H1 _ hx hy Q q => by
    cases hx with
    | tup hs hl =>
      obtain ⟨z, ez, dz⟩ := dal_atI (W := W) hl he
      exact ⟨_, _, i, z, rfl, hy.int, hs.sq, ez, q z H1 (Same.refl _) dz⟩
theorem jd_ixL {ds : List PyData} {i : Int} (ha : JD K W ta σ H c1 (.list ds)) (hb : JD K W tb σ H c2 (.int i)) (he : atI ds i = some d) : JD K W (tOp (rIxL K) ta tb) σ H (c1 + c2) d :=
  jd_op ha hb fun x y n H1 _ hx hy Q q => by
    cases hx with
    | lst hs hl =>
      obtain ⟨z, ez, dz⟩ := dal_atI (W := W) hl he
      exact ⟨_, _, i, z, rfl, hy.int, hs.sq, ez, q z H1 (Same.refl _) dz⟩

/-! ### arguments, displays, calls -/
theorem ja_nil : JDA K W tNil σ H 0 [] := fun n H1 _ hI _ Q q => q [] H1 ExM.refl hI .nil
theorem ja_cons {tr : TA} {ds : List PyData} (ha : JD K W ta σ H c1 d) (hr : JDA K W tr σ H c2 ds) : JDA K W (tCons ta tr) σ H (c1 + c2) (d :: ds) := fun n H1 e hI hn Q q =>
  ha n H1 e hI (by omega) _ fun x H2 e2 hI2 hx => hr (n + c1) H2 (e.trans e2) hI2 (by omega) _ fun xs H3 e3 hI3 hxs =>
    q (x :: xs) H3 (e2.trans e3) (by rw [show n + (c1 + c2) = n + c1 + c2 by omega]; exact hI3) (.cons (Da.mono hx e3) hxs)
theorem jd_tup {t : TA} {ds : List PyData} (h : JDA K W t σ H c ds) (hl : ds.length ≤ 100000) : JD K W (tTup t) σ H c (.tuple ds) := fun n H1 e hI hn Q q =>
  h n H1 e hI hn _ fun xs H2 e2 hI2 hx => ⟨by rw [dal_len hx]; exact Nat.le_trans hl (by decide), fun p hp =>
    q (.ref p) _ (e2.trans (.of (same_new hp))) (W.st (same_new hp) hI2) (da_tup (W.fr hI2 hp) upd_same (DaL.mono hx (.of (same_new hp))))⟩
theorem jd_lst {t : TA} {ds : List PyData} (h : JDA K W t σ H c ds) (hl : ds.length ≤ 100000) : JD K W (tLst t) σ H c (.list ds) := fun n H1 e hI hn Q q =>
  h n H1 e hI hn _ fun xs H2 e2 hI2 hx => ⟨by rw [dal_len hx]; exact Nat.le_trans hl (by decide), fun p hp =>
    q (.ref p) _ (e2.trans (.of (same_new hp))) (W.st (same_new hp) hI2) (da_lst (W.fr hI2 hp) upd_same (DaL.mono hx (.of (same_new hp))))⟩
/-- a def that changes nothing: data to data (without a list) -/
def spPure (K : PySem.W.Frag) (rel : List PyData → PyData → Prop) : Sp := fun vs H Q _ => ∃ (ds : List PyData) (r : PyData), DpAll K H vs ds ∧ rel ds r ∧ ∀ v H', Same H H' → Dp K H' v r → Q v H'
theorem jd_call {rel : List PyData → PyData → Prop} {ds : List PyData} {r : PyData} {E : XK} {t : TA} (h : JDA K W t σ H c ds) (hr : rel ds r) (hn : noL r = true) : JD K W (tCall (spPure K rel) [] E t) σ H c r := fun n H1 e hI hb Q q =>
  h n H1 e hI hb _ fun vs H2 e2 hI2 hv => ⟨ds, r, by rw [List.append_nil]; exact DaL.dp hv, hr, fun v H' s hd => q v H' (e2.trans (.of s)) (W.st s hI2) (da_of (W.st s hI2) hn hd)⟩
/-- a built-in upon data -/
theorem jd_cb {r : List V → Hp → VK → Prop} {t : TA} {ds : List PyData} (h : JDA K W t σ H c ds) (hr : ∀ vs n H1, W.I n H1 → DaL K W H1 vs ds → ∀ Q : VK, (∀ v H2, Same H1 H2 → Da K W H2 v d → Q v H2) → r vs H1 Q) : JD K W (tCB r t) σ H c d := fun n H1 e hI hb Q q =>
  h n H1 e hI hb _ fun vs H2 e2 hI2 hv => hr vs _ H2 hI2 hv Q fun v H' s hd => q v H' (e2.trans (.of s)) (W.st s hI2) hd
theorem dal1 {d : PyData} {vs : List V} (h : DaL K W H vs [d]) : ∃ x, vs = [x] ∧ Da K W H x d := by
  cases h with
  | cons h1 h2 => cases h2; exact ⟨_, rfl, h1⟩
theorem dal2 {d e : PyData} {vs : List V} (h : DaL K W H vs [d, e]) : ∃ x y, vs = [x, y] ∧ Da K W H x d ∧ Da K W H y e := by
  cases h with
  | cons h1 h2 =>
    obtain ⟨y, rfl, h3⟩ := dal1 (W := W) h2
    exact ⟨_, y, rfl, h1, h3⟩
theorem dal3 {d e f : PyData} {vs : List V} (h : DaL K W H vs [d, e, f]) : ∃ x y z, vs = [x, y, z] ∧ Da K W H x d ∧ Da K W H y e ∧ Da K W H z f := by
  cases h with
  | cons h1 h2 =>
    obtain ⟨y, z, rfl, h3⟩ := dal2 (W := W) h2
    exact ⟨_, y, z, rfl, h1, h3⟩
theorem dal4 {d e f g : PyData} {vs : List V} (h : DaL K W H vs [d, e, f, g]) : ∃ x y z u, vs = [x, y, z, u] ∧ Da K W H x d ∧ Da K W H y e ∧ Da K W H z f ∧ Da K W H u g := by
  cases h with
  | cons h1 h2 =>
    obtain ⟨y, z, u, rfl, h3⟩ := dal3 (W := W) h2
    exact ⟨_, y, z, u, rfl, h1, h3⟩
theorem jd_abs {t : TA} {i : Int} (h : JDA K W t σ H c [.int i]) : JD K W (tCB (fun xs H Q => ∃ i, xs = [.int i] ∧ Q (.int (if i < 0 then -i else i)) H) t) σ H c (.int (if i < 0 then -i else i)) := jd_cb h fun vs n H1 _ hv Q q => by
  obtain ⟨x, rfl, hx⟩ := dal1 hv
  exact ⟨i, by rw [hx.int], q _ H1 (Same.refl _) da_int⟩
theorem jd_int1 {t : TA} {i : Int} (h : JDA K W t σ H c [.int i]) : JD K W (tCB (fun xs H Q => (∃ i, xs = [.int i] ∧ Q (.int i) H) ∨ ∃ k, xs = [.bl k] ∧ Q (.int (if k then 1 else 0)) H) t) σ H c (.int i) := jd_cb h fun vs n H1 _ hv Q q => by
  obtain ⟨x, rfl, hx⟩ := dal1 hv
  exact .inl ⟨i, by rw [hx.int], q _ H1 (Same.refl _) da_int⟩
theorem jd_intB {t : TA} {b : Bool} (h : JDA K W t σ H c [.bool b]) : JD K W (tCB (fun xs H Q => (∃ i, xs = [.int i] ∧ Q (.int i) H) ∨ ∃ k, xs = [.bl k] ∧ Q (.int (if k then 1 else 0)) H) t) σ H c (.int (if b then 1 else 0)) := jd_cb h fun vs n H1 _ hv Q q => by
  obtain ⟨x, rfl, hx⟩ := dal1 hv
  exact .inr ⟨b, by rw [hx.bl], q _ H1 (Same.refl _) da_int⟩
theorem jd_gcd {t : TA} {i j : Int} (h : JDA K W t σ H c [.int i, .int j]) : JD K W (tCB rGcd t) σ H c (.int ((Nat.gcd i.natAbs j.natAbs : Nat) : Int)) := jd_cb h fun vs n H1 _ hv Q q => by
  obtain ⟨x, y, rfl, hx, hy⟩ := dal2 hv
  exact ⟨i, j, by rw [hx.int, hy.int], q _ H1 (Same.refl _) da_int⟩
def lenD : PyData → Nat
  | .list ds => ds.length
  | .tuple ds => ds.length
  | _ => 0
def isSeq : PyData → Bool
  | .list _ => true
  | .tuple _ => true
  | _ => false
theorem jd_lenS {t : TA} (h : JDA K W t σ H c [d]) (hs : isSeq d = true) : JD K W (tCB (fun xs H Q => ∃ p ys, xs = [.ref p] ∧ (SqL K H p ys ∨ SqT K H p ys) ∧ Q (.int ys.length) H) t) σ H c (.int (lenD d)) := jd_cb h fun vs n H1 _ hv Q q => by
  obtain ⟨x, rfl, hx⟩ := dal1 hv
  cases hx with
  | @lst a xs ds hs' hl => exact ⟨a, xs, rfl, .inl hs'.sq, by rw [dal_len (W := W) hl]; exact q _ H1 (Same.refl _) da_int⟩
  | @tup a xs ds hs' hl => exact ⟨a, xs, rfl, .inr hs'.sq, by rw [dal_len (W := W) hl]; exact q _ H1 (Same.refl _) da_int⟩
  | _ => cases hs

/-! ### truths -/
variable {tt tu : TT} {b b1 b2 : Bool}
theorem jb_test (h : JD K W te σ H c (.bool b)) : JB K W (tTest te) σ H c b := fun n H1 e hI hn Q q => h n H1 e hI hn _ fun v H2 e2 hI2 hv => ⟨b, hv.bl, q b H2 e2 hI2 rfl⟩
theorem jb_B (h : JD K W te σ H c (.bool b)) : JB K W (tB te) σ H c b := fun n H1 e hI hn Q q => h n H1 e hI hn _ fun v H2 e2 hI2 hv => ⟨b, hv.bl, q b H2 e2 hI2 rfl⟩
theorem jb_not (h : JB K W tt σ H c b) : JB K W (tNot tt) σ H c (!b) := fun n H1 e hI hn Q q => h n H1 e hI hn _ fun x H2 e2 hI2 hx => q _ H2 e2 hI2 (by rw [hx])
theorem jb_and (h1 : JB K W tt σ H c1 b1) (h2 : b1 = true → JB K W tu σ H c2 b2) : JB K W (tAnd tt tu) σ H (c1 + c2) (b1 && b2) := fun n H1 e hI hn Q q => h1 n H1 e hI (by omega) _ fun x H2 e2 hI2 hx => by
  subst hx
  cases x with
  | false =>
    show Q false H2
    exact q _ H2 e2 (W.mo (by omega) hI2) rfl
  | true =>
    show tu σ H2 Q
    exact h2 rfl (n + c1) H2 (e.trans e2) hI2 (by omega) Q fun y H3 e3 hI3 hy => q y H3 (e2.trans e3) (W.mo (by omega) hI3) hy
theorem jb_or (h1 : JB K W tt σ H c1 b1) (h2 : b1 = false → JB K W tu σ H c2 b2) : JB K W (tOr tt tu) σ H (c1 + c2) (b1 || b2) := fun n H1 e hI hn Q q => h1 n H1 e hI (by omega) _ fun x H2 e2 hI2 hx => by
  subst hx
  cases x with
  | true =>
    show Q true H2
    exact q _ H2 e2 (W.mo (by omega) hI2) rfl
  | false =>
    show tu σ H2 Q
    exact h2 rfl (n + c1) H2 (e.trans e2) hI2 (by omega) Q fun y H3 e3 hI3 hy => q y H3 (e2.trans e3) (W.mo (by omega) hI3) hy
theorem jd_andV (h1 : JD K W ta σ H c1 (.bool b1)) (h2 : b1 = true → JD K W tb σ H c2 (.bool b2)) : JD K W (tAndV ta tb) σ H (c1 + c2) (.bool (b1 && b2)) := fun n H1 e hI hn Q q => h1 n H1 e hI (by omega) _ fun x H2 e2 hI2 hx => ⟨b1, hx.bl, by
  cases b1 with
  | false =>
    show Q (.bl false) H2
    exact q _ H2 e2 (W.mo (by omega) hI2) da_bl
  | true =>
    show tb σ H2 Q
    exact h2 rfl (n + c1) H2 (e.trans e2) hI2 (by omega) Q fun y H3 e3 hI3 hy => q y H3 (e2.trans e3) (W.mo (by omega) hI3) hy⟩
theorem jd_orV (h1 : JD K W ta σ H c1 (.bool b1)) (h2 : b1 = false → JD K W tb σ H c2 (.bool b2)) : JD K W (tOrV ta tb) σ H (c1 + c2) (.bool (b1 || b2)) := fun n H1 e hI hn Q q => h1 n H1 e hI (by omega) _ fun x H2 e2 hI2 hx => ⟨b1, hx.bl, by
  cases b1 with
  | true =>
    show Q (.bl true) H2
    exact q _ H2 e2 (W.mo (by omega) hI2) da_bl
  | false =>
    show tb σ H2 Q
    exact h2 rfl (n + c1) H2 (e.trans e2) hI2 (by omega) Q fun y H3 e3 hI3 hy => q y H3 (e2.trans e3) (W.mo (by omega) hI3) hy⟩
theorem jd_notV (h1 : JD K W ta σ H c (.bool b)) : JD K W (tNotV ta) σ H c (.bool (!b)) := fun n H1 e hI hn Q q => h1 n H1 e hI hn _ fun x H2 e2 hI2 hx => ⟨b, hx.bl, q _ H2 e2 hI2 da_bl⟩
theorem j_if {P : V → Hp → Prop} (h : JB K W tt σ H c b) (h1 : b = true → J W ta σ H c1 P) (h2 : b = false → J W tb σ H c1 P) : J W (tIf tt ta tb) σ H (c + c1) P := fun n H1 e hI hn Q q => h n H1 e hI (by omega) _ fun x H2 e2 hI2 hx => by
  subst hx
  cases x with
  | true =>
    show ta σ H2 Q
    exact h1 rfl (n + c) H2 (e.trans e2) hI2 (by omega) Q fun y H3 e3 hI3 hy => q y H3 (e2.trans e3) (W.mo (by omega) hI3) hy
  | false =>
    show tb σ H2 Q
    exact h2 rfl (n + c) H2 (e.trans e2) hI2 (by omega) Q fun y H3 e3 hI3 hy => q y H3 (e2.trans e3) (W.mo (by omega) hI3) hy

/-! ### statements -/
variable {D : Ends} {ts tr : TS}
theorem st_seq (h : ts { D with nx := tr D } σ H) : tSeq ts tr D σ H := h
theorem st_set {i : Nat} (hI : W.I n H) (h : J W te σ H c P) (hc : n + c ≤ BIG) (k : ∀ v H1, ExM W.M H H1 → W.I (n + c) H1 → P v H1 → D.nx (σ.set i (some v)) H1) : tAsg te (gName i) D σ H := h n H ExM.refl hI hc _ fun v H1 e hI1 p => k v H1 e hI1 p
theorem st_ret (hI : W.I n H) (h : J W te σ H c P) (hc : n + c ≤ BIG) (k : ∀ v H1, ExM W.M H H1 → W.I (n + c) H1 → P v H1 → D.rt v H1) : tRet te D σ H := h n H ExM.refl hI hc _ fun v H1 e hI1 p => k v H1 e hI1 p
theorem st_drop (hI : W.I n H) (h : J W te σ H c P) (hc : n + c ≤ BIG) (k : ∀ H1, ExM W.M H H1 → W.I (n + c) H1 → D.nx σ H1) : tDrop te D σ H := h n H ExM.refl hI hc _ fun v H1 e hI1 p => k H1 e hI1
theorem st_if (hI : W.I n H) (h : JB K W tt σ H c b) (hc : n + c ≤ BIG) (k1 : b = true → ∀ H1, ExM W.M H H1 → W.I (n + c) H1 → ts D σ H1) (k2 : b = false → ∀ H1, ExM W.M H H1 → W.I (n + c) H1 → tr D σ H1) : tIfS tt ts tr D σ H := h n H ExM.refl hI hc _ fun x H1 e hI1 hx => by
  subst hx
  cases x with
  | true => exact k1 rfl H1 e hI1
  | false => exact k2 rfl H1 e hI1
/-- a pure def's end -/
theorem pure_end {r : PyData} {Q : VK} {H0 : Hp} (e : ExM W0.M H0 H) (q : ∀ v H', Same H0 H' → Dp K H' v r → Q v H') (hd : Da K W0 H v r) : Q v H := q v H (ex0 e) (Da.dp hd)
mutual
theorem dp0 : ∀ (d : PyData) (v : V), Dp K H v d → Da K W0 H v d
  | .none, _, h => by cases h; exact DaM.non
  | .bool _, _, h => by cases h; exact DaM.bl _
  | .int _, _, h => by cases h; exact DaM.int _
  | .str _, _, h => by cases h; exact DaM.str _
  | .list ds, _, h => by
    cases h with
    | lst hs ha =>
      refine .lst ?_ (dpl0 ds _ ha)
      rcases hs with h1 | h1
      · exact .inl ⟨fun z => z, h1⟩
      · exact .inr h1
  | .tuple ds, _, h => by
    cases h with
    | tup hs ha =>
      refine .tup ?_ (dpl0 ds _ ha)
      rcases hs with h1 | h1
      · exact .inl ⟨fun z => z, h1⟩
      · exact .inr h1
  | .dict _, _, h => by cases h
theorem dpl0 : ∀ (ds : List PyData) (vs : List V), DpAll K H vs ds → DaL K W0 H vs ds
  | [], _, h => by cases h; exact .nil
  | d :: ds, _, h => by
    cases h with
    | cons h1 h2 => exact .cons (dp0 d _ h1) (dpl0 ds _ h2)
end
mutual
/-- data without lists stand when a list changes -/
theorem da_upd {M : Addr → Prop} {D : Addr} {acc : List V} {o : HO} (hD : H D = some (.lst acc)) : ∀ (d : PyData) (v : V), noL d = true → DaM K M H v d → DaM K M (upd H D o) v d
  | .none, _, _, h => by cases h; exact .non
  | .bool _, _, _, h => by cases h; exact .bl _
  | .int _, _, _, h => by cases h; exact .int _
  | .str _, _, _, h => by cases h; exact .str _
  | .list _, _, n, _ => by simp [noL] at n
  | .dict _, _, n, _ => by simp [noL] at n
  | .tuple ds, _, n, h => by
    cases h with
    | @tup a xs _ hs ha =>
      refine .tup ?_ (dal_upd hD ds _ (by simpa [noL] using n) ha)
      rcases hs with ⟨m, h1⟩ | h1
      · refine .inl ⟨m, ?_⟩
        rcases h1 with h1 | ⟨ob, h1⟩
        · refine .inl ?_
          rw [upd_ne (fun e => by rw [e, hD] at h1; cases h1)]; exact h1
        · refine .inr ⟨ob, ?_⟩
          rw [upd_ne (fun e => by rw [e, hD] at h1; cases h1)]; exact h1
      · exact .inr h1
theorem dal_upd {M : Addr → Prop} {D : Addr} {acc : List V} {o : HO} (hD : H D = some (.lst acc)) : ∀ (ds : List PyData) (vs : List V), noLs ds = true → DaML K M H vs ds → DaML K M (upd H D o) vs ds
  | [], _, _, h => by cases h; exact .nil
  | d :: ds, _, n, h => by
    cases h with
    | cons h1 h2 =>
      simp only [noLs, Bool.and_eq_true] at n
      exact .cons (da_upd hD d _ n.1 h1) (dal_upd hD ds _ n.2 h2)
end
theorem noLs_all : ∀ {ds : List PyData}, noLs ds = true ↔ ∀ d ∈ ds, noL d = true
  | [] => by simp [noLs]
  | d :: ds => by simp [noLs, noLs_all (ds := ds)]
theorem dal_app {xs ys : List V} : ∀ {ds es : List PyData}, DaL K W H xs ds → DaL K W H ys es → DaL K W H (xs ++ ys) (ds ++ es)
  | _, _, .nil, h => h
  | _, _, .cons h t, h2 => .cons h (dal_app t h2)

/-! ### walking a list or a tuple -/
def iSeq (K : PySem.W.Frag) (tl : TE) : TI := fun σ H R => tl σ H fun x H1 => ∃ a, x = .ref a ∧ (((∃ xs, SqL K H1 a xs) ∧ R (Itl K a) H1) ∨ ((∃ xs, SqT K H1 a xs) ∧ R (Itt K a) H1))
/-- an iterator laid at the heap's end -/
theorem pie_end {X : Cx} {pins : List (Addr × Obj)} {σ : St} {tg : Expr} {R : It → Hp → Prop} {s : Shared} {H : Hp} {J : It} {tn : Nat → Heap → Prop} {o : Obj} (I : Inv X pins σ H s) (T : Turn X.prog X.w X.K tg J [s.heap.objs.size] s.heap.objs.size tn)
    (t0 : tn 0 (s.heap.push o)) (q : R J H) : PIE X pins σ tg R (.ref s.heap.objs.size) { s with heap := s.heap.push o } :=
  ⟨s.heap.objs.size, [s.heap.objs.size], tn, J, H, rfl, I.kept (t' := s.toks) (fun _ _ => Heap.get?_push_of_some _), T, t0, fun x hx => by
    rw [List.mem_singleton.mp hx]
    exact I.fpOk (Nat.le_refl _) (I.hok.fresh (Nat.le_refl _)), q⟩
theorem pi_seq {X : Cx} {tg l : Expr} {tl : TE} (hl : PE X l tl) : PI X tg l (iSeq X.K tl) := ⟨fun pins s σ H R I h => thn (hl.run pins s σ H _ I h) fun v s1 ⟨x, H1, J1, rx, a, ea, w⟩ => by
  subst ea; cases rx
  cases w with
  | inl w =>
    obtain ⟨⟨xs, hx⟩, k⟩ := w
    obtain ⟨us, _, z, _⟩ := J1.list hx
    exact wpAny_pyIter_list z.isList (pie_end J1 (turn_list a _) ⟨_, Heap.get?_push_size _ rfl, rfl, rfl⟩ k)
  | inr w =>
    obtain ⟨⟨xs, hx⟩, k⟩ := w
    obtain ⟨us, _, z, _⟩ := J1.tuple hx
    exact wpAny_pyIter_tuple (show s1.heap.IsTuple a us.toArray from z) (pie_end J1 (turn_tuple a _) ⟨_, Heap.get?_push_size _ rfl, rfl, rfl⟩ k)⟩

def itemsD : PyData → List PyData
  | .list ds => ds
  | .tuple ds => ds
  | _ => []
/-- what a comprehension's list holds after i items -/
def Cw (K : PySem.W.Frag) (W : Wd) (H1 : Hp) (n : Nat) (Dl : Addr) (ds : List PyData) (H' : Hp) : Prop := H1 Dl = none ∧ ExM W.M H1 H' ∧ W.I n H' ∧ noLs ds = true ∧ ∃ acc, H' Dl = some (.lst acc) ∧ DaL K W H' acc ds
theorem cw_put {n : Nat} {Dl : Addr} {ds : List PyData} {y : V} {d : PyData} {H4 : Hp} (hI1 : ∃ n, W.I n H1) (h : Cw K W H1 n Dl ds H4) (hy : Da K W H4 y d) (hn : noL d = true) (hl : ds.length < 100000) :
    ∃ acc, H4 Dl = some (.lst acc) ∧ acc.length < sizeLine ∧ Cw K W H1 n Dl (ds ++ [d]) (upd H4 Dl (.lst (acc ++ [y]))) := by
  obtain ⟨p1, p2, p3, p4, acc, p5, p6⟩ := h
  obtain ⟨m, hI1⟩ := hI1
  refine ⟨acc, p5, by rw [dal_len p6]; exact Nat.lt_of_lt_of_le hl (by decide), p1, fun a o ma ha => ?_, W.sf (fun a f => ?_) p3, ?_, acc ++ [y], upd_same, ?_⟩
  · rw [upd_ne (ne_of_none ha p1)]; exact p2 a o ma ha
  · rw [upd_ne (fun e => W.al hI1 f (by rw [e]; exact p1))]
  · rw [noLs_all] at p4 ⊢
    intro e he
    rcases List.mem_append.mp he with h | h
    · exact p4 e h
    · rw [List.mem_singleton.mp h]; exact hn
  · exact dal_app (dal_upd p5 ds acc p4 p6) (.cons (da_upd p5 d y hn hy) .nil)
theorem cw_on {n m : Nat} {Dl : Addr} {ds : List PyData} {H3 H4 : Hp} (h : Cw K W H1 n Dl ds H3) (hD : ¬ W.M Dl) (e : ExM W.M H3 H4) (hI : W.I m H4) : Cw K W H1 m Dl ds H4 := by
  obtain ⟨p1, p2, p3, p4, acc, p5, p6⟩ := h
  exact ⟨p1, p2.trans e, hI, p4, acc, e Dl _ hD p5, p6.mono e⟩
/-- a list of one's own, just made -/
def NewL (K : PySem.W.Frag) (W : Wd) (H : Hp) (v : V) (ds : List PyData) : Prop := ∃ p acc, v = .ref p ∧ ¬ W.M p ∧ H p = some (.lst acc) ∧ DaL K W H acc ds
theorem NewL.da {ds : List PyData} (h : NewL K W H v ds) : Da K W H v (.list ds) := by
  obtain ⟨p, acc, rfl, m, e, h⟩ := h
  exact da_lst m e h
/-- [te for x in a list or tuple if tt], nothing drawn in it -/
theorem jl_lc {ds : List PyData} {d0 : PyData} {tl : TE} {tt : TT} {j : Nat} {vs : List Nat} (p : PyData → Bool) (f : PyData → PyData) (ha : JD K W tl σ H c d0) (hs : isSeq d0 = true) (hd : itemsD d0 = ds) (hl : ds.length < 100000) (hw : ∀ x, wipe ((wipe σ vs).set j (some x)) vs = wipe σ vs)
    (ht : ∀ d x H1, d ∈ ds → ExM W.M H H1 → Da K W H1 x d → JB K W tt ((wipe σ vs).set j (some x)) H1 0 (p d)) (he : ∀ d x H1, d ∈ ds → p d = true → ExM W.M H H1 → Da K W H1 x d → JD K W te ((wipe σ vs).set j (some x)) H1 0 (f d)) (hn : ∀ d, d ∈ ds → p d = true → noL (f d) = true) :
    J W (tLc (iSeq K tl) (gName j) tt te vs) σ H c (fun v H2 => NewL K W H2 v ((ds.filter p).map f)) := fun n H0 e hI hb Q q => ha n H0 e hI hb _ fun x H1 e1 hI1 hx => by
  have step : ∀ (i : Nat) (dd : PyData) (y : V) (Dl : Addr) (H' : Hp), dd ∈ ds → ds[i]? = some dd → (¬ W.M Dl) → Da K W H' y dd → Cw K W H1 (n + c) Dl (((ds.take i).filter p).map f) H' →
      wipe ((wipe σ vs).set j (some y)) vs = wipe σ vs ∧ tt ((wipe σ vs).set j (some y)) H' fun b H3 => if b = true then te ((wipe σ vs).set j (some y)) H3 fun y H4 => ∃ acc, H4 Dl = some (.lst acc) ∧ acc.length < sizeLine ∧ Cw K W H1 (n + c) Dl (((ds.take (i + 1)).filter p).map f) (upd H4 Dl (.lst (acc ++ [y]))) else Cw K W H1 (n + c) Dl (((ds.take (i + 1)).filter p).map f) H3 := by
    intro i dd y Dl H' hm hi mD hy hC
    have tk : ds.take (i + 1) = ds.take i ++ [dd] := by rw [List.take_add_one, hi]; rfl
    have lt : (((ds.take i).filter p).map f).length < 100000 := by
      rw [List.length_map]
      have h1 := List.length_filter_le p (ds.take i)
      have h2 : (ds.take i).length ≤ ds.length := by rw [List.length_take]; exact Nat.min_le_right _ _
      omega
    refine ⟨hw y, ht dd y H' hm (e.trans (e1.trans hC.2.1)) hy (n + c) H' ExM.refl hC.2.2.1 (by omega) _ fun b H3 e3 hI3 hb3 => ?_⟩
    have hC3 : Cw K W H1 (n + c) Dl (((ds.take i).filter p).map f) H3 := cw_on hC mD e3 hI3
    rw [tk, List.filter_append, List.map_append]
    subst hb3
    cases hp : p dd with
    | true =>
      show te _ H3 _
      refine he dd y H3 hm hp (e.trans (e1.trans (hC.2.1.trans e3))) (hy.mono e3) (n + c) H3 ExM.refl hI3 (by omega) _ fun z H4 e4 hI4 hz => ?_
      have := cw_put ⟨_, hI1⟩ (cw_on hC3 mD e4 hI4) hz (hn dd hm hp) lt
      rw [show List.filter p [dd] = [dd] by simp [hp]]
      exact this
    | false =>
      rw [show List.filter p [dd] = [] by simp [hp]]
      show Cw K W H1 (n + c) Dl _ H3
      simpa using hC3
  have st0 : ∀ Dl, H1 Dl = none → Cw K W H1 (n + c) Dl (((ds.take 0).filter p).map f) (upd H1 Dl (.lst [])) := fun Dl hD =>
    ⟨hD, .of (same_new hD), W.st (same_new hD) hI1, by simp [noLs], [], upd_same, by simpa using DaML.nil⟩
  have fin : ∀ Dl H', Cw K W H1 (n + c) Dl (((ds.take ds.length).filter p).map f) H' → Q (.ref Dl) H' := fun Dl H' hC => by
    rw [List.take_length] at hC
    obtain ⟨p1, p2, p3, p4, acc, p5, p6⟩ := hC
    exact q _ H' (e1.trans p2) p3 ⟨Dl, acc, rfl, W.fr hI1 p1, p5, p6⟩
  cases hx with
  | @lst a xs ds' hs' hl' =>
    cases hd
    refine ⟨a, rfl, .inl ⟨⟨xs, hs'.sq⟩, fun Dl hD => ?_⟩⟩
    refine lc_list (xs := xs) (fun i H' => Cw K W H1 (n + c) Dl (((ds'.take i).filter p).map f) H') (st0 Dl hD) (fun i H' _ hC => (LsS.mono hs' hC.2.1).sq) (fun i y H' hi hC => ?_) (fun H' hC => fin Dl H' (by have z := dal_len (W := W) hl'; rw [z] at hC; exact hC))
    obtain ⟨dd, h1, h2⟩ := dal_get (W := W) hl' hi
    exact step i dd y Dl H' (List.mem_of_getElem? h1) h1 (W.fr hI1 hD) (h2.mono hC.2.1) hC
  | @tup a xs ds' hs' hl' =>
    cases hd
    refine ⟨a, rfl, .inr ⟨⟨xs, hs'.sq⟩, fun Dl hD => ?_⟩⟩
    refine lc_tup (xs := xs) (fun i H' => Cw K W H1 (n + c) Dl (((ds'.take i).filter p).map f) H') (st0 Dl hD) (fun i H' _ hC => (TuS.mono hs' hC.2.1).sq) (fun i y H' hi hC => ?_) (fun H' hC => fin Dl H' (by have z := dal_len (W := W) hl'; rw [z] at hC; exact hC))
    obtain ⟨dd, h1, h2⟩ := dal_get (W := W) hl' hi
    exact step i dd y Dl H' (List.mem_of_getElem? h1) h1 (W.fr hI1 hD) (h2.mono hC.2.1) hC
  | _ => cases hs
theorem jd_lc {ds : List PyData} {d0 : PyData} {tl : TE} {tt : TT} {j : Nat} {vs : List Nat} (p : PyData → Bool) (f : PyData → PyData) (ha : JD K W tl σ H c d0) (hs : isSeq d0 = true) (hd : itemsD d0 = ds) (hl : ds.length < 100000) (hw : ∀ x, wipe ((wipe σ vs).set j (some x)) vs = wipe σ vs)
    (ht : ∀ d x H1, d ∈ ds → ExM W.M H H1 → Da K W H1 x d → JB K W tt ((wipe σ vs).set j (some x)) H1 0 (p d)) (he : ∀ d x H1, d ∈ ds → p d = true → ExM W.M H H1 → Da K W H1 x d → JD K W te ((wipe σ vs).set j (some x)) H1 0 (f d)) (hn : ∀ d, d ∈ ds → p d = true → noL (f d) = true) :
    JD K W (tLc (iSeq K tl) (gName j) tt te vs) σ H c (.list ((ds.filter p).map f)) := (jl_lc p f ha hs hd hl hw ht he hn).imp fun _ _ h => h.da
theorem jb_yes : JB K W tYes σ H 0 true := fun n H1 e hI _ Q q => q true H1 ExM.refl hI rfl
theorem jl_lc1 {ds : List PyData} {d0 : PyData} {tl : TE} {j : Nat} {vs : List Nat} (f : PyData → PyData) (ha : JD K W tl σ H c d0) (hs : isSeq d0 = true) (hd : itemsD d0 = ds) (hl : ds.length < 100000) (hw : ∀ x, wipe ((wipe σ vs).set j (some x)) vs = wipe σ vs)
    (he : ∀ d x H1, d ∈ ds → ExM W.M H H1 → Da K W H1 x d → JD K W te ((wipe σ vs).set j (some x)) H1 0 (f d)) (hn : ∀ d, d ∈ ds → noL (f d) = true) :
    J W (tLc (iSeq K tl) (gName j) tYes te vs) σ H c (fun v H2 => NewL K W H2 v (ds.map f)) := by
  have h := jl_lc (fun _ => true) f ha hs hd hl hw (fun _ _ _ _ _ _ => jb_yes) (fun d x H1 hm _ e hx => he d x H1 hm e hx) (fun d hm _ => hn d hm)
  rw [show List.filter (fun _ => true) ds = ds from List.filter_eq_self.mpr fun _ _ => rfl] at h
  exact h
theorem jd_lc1 {ds : List PyData} {d0 : PyData} {tl : TE} {j : Nat} {vs : List Nat} (f : PyData → PyData) (ha : JD K W tl σ H c d0) (hs : isSeq d0 = true) (hd : itemsD d0 = ds) (hl : ds.length < 100000) (hw : ∀ x, wipe ((wipe σ vs).set j (some x)) vs = wipe σ vs)
    (he : ∀ d x H1, d ∈ ds → ExM W.M H H1 → Da K W H1 x d → JD K W te ((wipe σ vs).set j (some x)) H1 0 (f d)) (hn : ∀ d, d ∈ ds → noL (f d) = true) :
    JD K W (tLc (iSeq K tl) (gName j) tYes te vs) σ H c (.list (ds.map f)) := by
  have h := jd_lc (fun _ => true) f ha hs hd hl hw (fun _ _ _ _ _ _ => jb_yes) (fun d x H1 hm _ e hx => he d x H1 hm e hx) (fun d hm _ => hn d hm)
  rw [show List.filter (fun _ => true) ds = ds from List.filter_eq_self.mpr fun _ _ => rfl] at h
  exact h
/-! all, any of truths; isinstance -/
theorem dal_bools : ∀ {bs : List Bool} {xs : List V}, DaL K W H xs (bs.map PyData.bool) → xs = bs.map V.bl
  | [], _, h => by cases h; rfl
  | b :: bs, _, h => by
    cases h with
    | cons h1 h2 => rw [Da.bl (W := W) h1, dal_bools h2]; rfl
theorem dal_ints : ∀ {bs : List Int} {xs : List V}, DaL K W H xs (bs.map PyData.int) → xs = bs.map V.int
  | [], _, h => by cases h; rfl
  | b :: bs, _, h => by
    cases h with
    | cons h1 h2 => rw [Da.int (W := W) h1, dal_ints h2]; rfl
theorem jd_all {t : TA} {bs : List Bool} (h : JDA K W t σ H c [.list (bs.map PyData.bool)]) : JD K W (tCB (rAll K) t) σ H c (.bool (bs.all id)) := jd_cb h fun vs n H1 _ hv Q q => by
  obtain ⟨x, rfl, hx⟩ := dal1 hv
  cases hx with
  | lst hs hl => exact ⟨_, bs, rfl, by rw [← dal_bools (W := W) hl]; exact hs.sq, q _ H1 (Same.refl _) da_bl⟩
def tyName : PyData → String
  | .none => "NoneType"
  | .bool _ => "bool"
  | .int _ => "int"
  | .str _ => "str"
  | .list _ => "list"
  | .tuple _ => "tuple"
  | .dict _ => "dict"
theorem da_ty (h : Da K W H v d) : TyX K H v (.type (tyName d)) := by
  cases h with
  | non => exact .base .non
  | bl b => exact .base (.bl b)
  | int i => exact .base (.int i)
  | str x => exact .base (.str x)
  | lst hs _ =>
    rcases hs with ⟨_, h | ⟨o, h⟩⟩ | ⟨o, its, n, h, hc, _⟩
    · exact .base (.lst h)
    · exact .base (.frz h)
    · exact .kList h hc
  | tup hs _ =>
    rcases hs with ⟨_, h | ⟨o, h⟩⟩ | ⟨o, its, n, h, hc, _⟩
    · exact .base (.tup h)
    · exact .fTuple h
    · exact .kTuple h hc
theorem jd_isi {n : String} {b : Bool} (ha : JD K W ta σ H c d) (hk : kitB (tyName d) n = some b) : JD K W (tCB (rIsi K) (tCons ta (tCons (tC (.ty n)) tNil))) σ H c (.bool b) := fun m H1 e hI hb Q q =>
  ha m H1 e hI hb _ fun x H2 e2 hI2 hx => ⟨x, .ty n, _, _, b, rfl, .ty n, da_ty hx, kit_ty hk, q _ H2 e2 hI2 da_bl⟩
/-- isinstance(x, (n1, n2)) -/
theorem jd_isi2 {n1 n2 : String} {b1 b2 : Bool} (ha : JD K W ta σ H c d) (hk1 : kitB (tyName d) n1 = some b1) (hk2 : kitB (tyName d) n2 = some b2) :
    JD K W (tCB (rIsiT K) (tCons ta (tCons (tTup (tCons (tC (.ty n1)) (tCons (tC (.ty n2)) tNil))) tNil))) σ H c (.bool (b1 || b2)) := fun m H1 e hI hb Q q =>
  ha m H1 e hI hb _ fun x H2 e2 hI2 hx => ⟨(by decide : 2 ≤ sizeLine), fun p hp => ⟨x, p, [.ty n1, .ty n2], _, [.type n1, .type n2], b1 || b2, rfl, upd_same, .cons (.ty n1) (.cons (.ty n2) .nil), da_ty (hx.mono (.of (same_new hp))),
    kitAny_cons (kit_ty hk1) (fun e => kitAny_cons (kit_ty hk2) (fun e2 => by rw [e, e2]; exact kitAny_nil) (fun e2 => by rw [e2]; simp)) (fun e => by rw [e]; rfl),
    q _ _ (e2.trans (.of (same_new hp))) (W.st (same_new hp) hI2) da_bl⟩⟩
def isI : PyData → Bool
  | .int _ => true
  | _ => false
def isB : PyData → Bool
  | .bool _ => true
  | _ => false
theorem kit_int : kitB (tyName d) "int" = some (isI d || isB d) := by
  cases d with
  | none => exact (by decide +kernel : kitB "NoneType" "int" = some false)
  | bool _ => exact (by decide +kernel : kitB "bool" "int" = some true)
  | int _ => exact (by decide +kernel : kitB "int" "int" = some true)
  | str _ => exact (by decide +kernel : kitB "str" "int" = some false)
  | list _ => exact (by decide +kernel : kitB "list" "int" = some false)
  | tuple _ => exact (by decide +kernel : kitB "tuple" "int" = some false)
  | dict _ => exact (by decide +kernel : kitB "dict" "int" = some false)
theorem kit_bool : kitB (tyName d) "bool" = some (isB d) := by
  cases d with
  | none => exact (by decide +kernel : kitB "NoneType" "bool" = some false)
  | bool _ => exact (by decide +kernel : kitB "bool" "bool" = some true)
  | int _ => exact (by decide +kernel : kitB "int" "bool" = some false)
  | str _ => exact (by decide +kernel : kitB "str" "bool" = some false)
  | list _ => exact (by decide +kernel : kitB "list" "bool" = some false)
  | tuple _ => exact (by decide +kernel : kitB "tuple" "bool" = some false)
  | dict _ => exact (by decide +kernel : kitB "dict" "bool" = some false)
def isLst : PyData → Bool
  | .list _ => true
  | _ => false
def isTup : PyData → Bool
  | .tuple _ => true
  | _ => false
theorem kit_list : kitB (tyName d) "list" = some (isLst d) := by
  cases d with
  | none => exact (by decide +kernel : kitB "NoneType" "list" = some false)
  | bool _ => exact (by decide +kernel : kitB "bool" "list" = some false)
  | int _ => exact (by decide +kernel : kitB "int" "list" = some false)
  | str _ => exact (by decide +kernel : kitB "str" "list" = some false)
  | list _ => exact (by decide +kernel : kitB "list" "list" = some true)
  | tuple _ => exact (by decide +kernel : kitB "tuple" "list" = some false)
  | dict _ => exact (by decide +kernel : kitB "dict" "list" = some false)
theorem kit_tuple : kitB (tyName d) "tuple" = some (isTup d) := by
  cases d with
  | none => exact (by decide +kernel : kitB "NoneType" "tuple" = some false)
  | bool _ => exact (by decide +kernel : kitB "bool" "tuple" = some false)
  | int _ => exact (by decide +kernel : kitB "int" "tuple" = some false)
  | str _ => exact (by decide +kernel : kitB "str" "tuple" = some false)
  | list _ => exact (by decide +kernel : kitB "list" "tuple" = some false)
  | tuple _ => exact (by decide +kernel : kitB "tuple" "tuple" = some true)
  | dict _ => exact (by decide +kernel : kitB "dict" "tuple" = some false)
theorem seq_or : (isLst d || isTup d) = isSeq d := by cases d <;> rfl
/-- // by any divisor but 0 below 2 ^ 9000 -/
def CDivA (_ j : Int) : Prop := j ≠ 0 ∧ j.natAbs.log2 < 9000
theorem op_fdivA {X : Cx} : OpR X (binaryOp .FloorDiv) (rI CDivA fun i j => .int (i.fdiv j)) := opI fun i j _ _ _ _ _ hc q => PyProof.Rows.floordiv_int hc.1 q (.inl (PyProof.noPylong_of_log2 hc.2))
theorem jd_ix {i : Int} {d0 : PyData} (ha : JD K W ta σ H c1 d0) (hb : JD K W tb σ H c2 (.int i)) (hs : isSeq d0 = true) (he : atI (itemsD d0) i = some d) : JD K W (tOp (rIx K) ta tb) σ H (c1 + c2) d :=
  jd_op ha hb fun x y n H1 _ hx hy Q q => by
    cases hx with
    | tup h1 hl =>
      obtain ⟨z, ez, dz⟩ := dal_atI (W := W) hl he
      exact .inr (.inl ⟨_, _, i, z, rfl, hy.int, h1.sq, ez, q z H1 (Same.refl _) dz⟩)
    | lst h1 hl =>
      obtain ⟨z, ez, dz⟩ := dal_atI (W := W) hl he
      exact .inl ⟨_, _, i, z, rfl, hy.int, h1.sq, ez, q z H1 (Same.refl _) dz⟩
    | _ => cases hs
theorem pure_ret {r : PyData} {H0 : Hp} {D : Ends} (e : ExM W0.M H0 H) (q : ∀ v H', Same H0 H' → Dp K H' v r → D.rt v H') (h : JD K W0 te σ H c r) (hc : c ≤ BIG) : tRet te D σ H :=
  h 0 H ExM.refl trivial (by omega) _ fun v H1 e1 _ hv => q v H1 (ex0 (e.trans e1)) (Da.dp hv)
theorem st_if0 {D : Ends} {tt : TT} {ts tr : TS} {b : Bool} (h : JB K W0 tt σ H c b) (hc : c ≤ BIG) (k1 : b = true → ∀ H1, ExM W0.M H H1 → ts D σ H1) (k2 : b = false → ∀ H1, ExM W0.M H H1 → tr D σ H1) : tIfS tt ts tr D σ H :=
  st_if (n := 0) trivial h (by omega) (fun e H1 x _ => k1 e H1 x) (fun e H1 x _ => k2 e H1 x)
theorem st_set0 {D : Ends} {i : Nat} {P : V → Hp → Prop} (h : J W0 te σ H c P) (hc : c ≤ BIG) (k : ∀ v H1, ExM W0.M H H1 → P v H1 → D.nx (σ.set i (some v)) H1) : tAsg te (gName i) D σ H :=
  st_set (n := 0) trivial h (by omega) (fun v H1 x _ p => k v H1 x p)
theorem JB.at {tt : TT} {a b : Bool} (h : JB K W tt σ H c a) (x : a = b) : JB K W tt σ H c b := x ▸ h
/-- every pure value by a known one -/
theorem isD_len {ds : List PyData} {vs : List V} (h : DpAll K H vs ds) : vs.length = ds.length := dal_len (W := W0) (dpl0 ds vs h)
theorem jd0 {e : PyData} (h : JD K W te σ H c d) (x : d = e) (hc : c ≤ c1) : JD K W te σ H c1 e := J.le (x ▸ h) hc
theorem st_ifn {D : Ends} {tt : TT} {ts : TS} {b : Bool} (h : JB K W0 tt σ H c b) (hc : c ≤ BIG) (k1 : b = true → ∀ H1, ExM W0.M H H1 → ts D σ H1) (k2 : b = false → ∀ H1, ExM W0.M H H1 → D.nx σ H1) : tIfS tt ts tNext D σ H :=
  st_if0 h hc k1 k2
theorem st_next {D : Ends} (h : D.nx σ H) : tNext D σ H := h
theorem st_nx {t : St → Hp → Prop} {rt : VK} {bk ct : St → Hp → Prop} (h : t σ H) : tNext { nx := t, rt := rt, bk := bk, ct := ct } σ H := h
theorem nx_mk {t : St → Hp → Prop} {rt : VK} {bk ct : St → Hp → Prop} (h : t σ H) : Ends.nx { nx := t, rt := rt, bk := bk, ct := ct } σ H := h
theorem seq_hyp {d : PyData} (h : (!(isLst d || isTup d)) = false) : isSeq d = true := by
  rw [seq_or] at h; revert h; cases isSeq d <;> simp
/-! slices of lists -/
def JO (W : Wd) (to : TO) (σ : St) (H : Hp) (c : Nat) (o : Option Int) : Prop :=
  ∀ n H1, ExM W.M H H1 → W.I n H1 → n + c ≤ BIG → ∀ Q : Option Int → Hp → Prop, (∀ H2, ExM W.M H1 H2 → W.I (n + c) H2 → Q o H2) → to σ H1 Q
theorem jo_no : JO W tNoPart σ H 0 none := fun n H1 _ hI _ Q q => q H1 ExM.refl hI
theorem jo_int {i : Int} (h : JD K W te σ H c (.int i)) : JO W (tPart te) σ H c (some i) := fun n H1 e hI hn Q q => h n H1 e hI hn _ fun v H2 e2 hI2 hv => ⟨i, hv.int, q H2 e2 hI2⟩
def cutD (ds : List PyData) (lo hi : Option Int) : List PyData := (ds.drop (HT.sIx ds.length 0 lo)).take (HT.sIx ds.length ds.length hi - HT.sIx ds.length 0 lo)
theorem dal_drop : ∀ (k : Nat) {xs : List V} {ds : List PyData}, DaL K W H xs ds → DaL K W H (xs.drop k) (ds.drop k)
  | 0, _, _, h => h
  | k + 1, _, _, .nil => .nil
  | k + 1, _, _, .cons _ t => dal_drop k t
theorem dal_take : ∀ (k : Nat) {xs : List V} {ds : List PyData}, DaL K W H xs ds → DaL K W H (xs.take k) (ds.take k)
  | 0, _, _, _ => .nil
  | k + 1, _, _, .nil => .nil
  | k + 1, _, _, .cons h t => .cons h (dal_take k t)
theorem dal_cut {xs : List V} {ds : List PyData} {lo hi : Option Int} (h : DaL K W H xs ds) : DaL K W H (cutV xs lo hi) (cutD ds lo hi) := by
  unfold cutV cutD
  rw [dal_len h]
  exact dal_take _ (dal_drop _ h)
theorem jd_slL {ds : List PyData} {lo hi : Option Int} {tl th : TO} {c3 : Nat} (ha : JD K W ta σ H c1 (.list ds)) (h1 : JO W tl σ H c2 lo) (h2 : JO W th σ H c3 hi) : JD K W (tSl (rSlL K) ta tl th) σ H (c1 + c2 + c3) (.list (cutD ds lo hi)) := fun n H1 e hI hn Q q =>
  ha n H1 e hI (by omega) _ fun x H2 e2 hI2 hx => h1 (n + c1) H2 (e.trans e2) hI2 (by omega) _ fun H3 e3 hI3 => h2 (n + c1 + c2) H3 (e.trans (e2.trans e3)) hI3 (by omega) _ fun H4 e4 hI4 => by
    cases hx with
    | @lst a xs _ hs hl =>
      refine ⟨a, xs, rfl, (hs.mono (e3.trans e4)).sq, fun p hp => ?_⟩
      have s := same_new (o := .lst (cutV xs lo hi)) hp
      refine q _ _ (e2.trans (e3.trans (e4.trans (.of s)))) ?_ (da_lst (W.fr hI4 hp) upd_same (dal_cut (DaL.mono (W := W) hl (e3.trans (e4.trans (.of s))))))
      rw [show n + (c1 + c2 + c3) = n + c1 + c2 + c3 by omega]
      exact W.st s hI4
theorem cutD_to (ds : List PyData) (k : Nat) : cutD ds none (some (k : Int)) = ds.take k := by
  unfold cutD
  rw [HT.sIx_nat, HT.sIx_none, List.drop_zero, Nat.sub_zero]
  rcases Nat.le_total k ds.length with h | h
  · rw [Nat.min_eq_left h]
  · rw [Nat.min_eq_right h, List.take_length, List.take_of_length_le h]
theorem jd_nought {a : Addr} {i k : Int} (h : WrT K a [.int i, .int k]) : JD K W (tC (.ref a)) σ H 0 (.tuple [.int i, .int k]) := jd_c fun _ => .tup (.inr h) (.cons (.int i) (.cons (.int k) .nil))
end Jl

set_option Elab.async false
set_option linter.all false
/-! fractions: pairs and Lean's own rationals; sizes -/
namespace Jl
open PySem L2
/-- the data of a fraction -/
def frL (q : Rat) : List PyData := [.int q.num, .int q.den]
def frD (q : Rat) : PyData := .tuple (frL q)
/-- a fraction as a list or as a tuple -/
def isFr (d : PyData) (q : Rat) : Prop := isSeq d = true ∧ itemsD d = frL q
theorem isFr_D (q : Rat) : isFr (frD q) q := ⟨rfl, rfl⟩
theorem frD_noL (q : Rat) : noL (frD q) = true := rfl
/-- below 2 ^ n, above and below the line -/
def Bd (q : Rat) (n : Nat) : Prop := q.num.natAbs < 2 ^ n ∧ q.den < 2 ^ n
theorem Bd.mono {q : Rat} {n m : Nat} (h : Bd q n) (l : n ≤ m) : Bd q m :=
  ⟨Nat.lt_of_lt_of_le h.1 (Nat.pow_le_pow_right (by decide) l), Nat.lt_of_lt_of_le h.2 (Nat.pow_le_pow_right (by decide) l)⟩
/-- what least_pair tells -/
def lp (up down : Int) : PyData := .tuple [.int (up.fdiv (if down > 0 then (Nat.gcd up.natAbs down.natAbs : Nat) else -(Nat.gcd up.natAbs down.natAbs : Nat))), .int (down.fdiv (if down > 0 then (Nat.gcd up.natAbs down.natAbs : Nat) else -(Nat.gcd up.natAbs down.natAbs : Nat)))]
theorem fdiv_neg_dvd {a g : Int} (h : g ∣ a) (h0 : g ≠ 0) : a.fdiv (-g) = -(a / g) := by
  rw [Int.fdiv_eq_ediv_of_dvd (Int.neg_dvd.mpr h), Int.ediv_neg]
theorem lp_eq (up down : Int) (h : down ≠ 0) : lp up down = frD (Rat.divInt up down) := by
  have hg : (Nat.gcd up.natAbs down.natAbs : Int) = (Int.gcd down up : Int) := by
    rw [Nat.gcd_comm]; rfl
  have g0 : (Int.gcd down up : Int) ≠ 0 := by
    intro e
    have e2 : Int.gcd down up = 0 := by exact_mod_cast e
    rw [Int.gcd_eq_zero_iff] at e2
    exact h e2.1
  have d1 : (Int.gcd down up : Int) ∣ up := Int.gcd_dvd_right ..
  have d2 : (Int.gcd down up : Int) ∣ down := Int.gcd_dvd_left ..
  unfold lp frD frL
  rw [hg, Rat.num_divInt, Rat.den_divInt, if_neg h]
  by_cases hp : down > 0
  · rw [if_pos hp, Int.fdiv_eq_ediv_of_dvd d1, Int.fdiv_eq_ediv_of_dvd d2, Int.sign_eq_one_of_pos hp, Int.one_mul]
    congr 3
    rw [Int.natCast_ediv, Int.natAbs_of_nonneg (by omega)]
  · rw [if_neg hp, fdiv_neg_dvd d1 g0, fdiv_neg_dvd d2 g0, Int.sign_eq_neg_one_of_neg (by omega)]
    congr 3
    · rw [Int.neg_mul, Int.one_mul, Int.neg_ediv_of_dvd d1]
    · rw [Int.natCast_ediv, Int.ofNat_natAbs_of_nonpos (by omega), Int.neg_ediv_of_dvd d2]
theorem add_lp (p q : Rat) : Rat.divInt (p.num * q.den + q.num * p.den) (p.den * q.den) = p + q := by
  rw [Rat.add_def', ← Int.natCast_mul, Rat.divInt_ofNat]
theorem mul_lp (p q : Rat) : Rat.divInt (p.num * q.num) (p.den * q.den) = p * q := by
  rw [Rat.mul_def', ← Int.natCast_mul, Rat.divInt_ofNat]
theorem lt_lp (p q : Rat) : decide (p.num * q.den < q.num * p.den) = decide (p < q) := by
  rw [decide_eq_decide, Rat.lt_iff]
theorem den_ne (q : Rat) : (q.den : Int) ≠ 0 := by have := q.den_pos; omega
theorem mul_ne {a b : Int} (h : a ≠ 0) (h2 : b ≠ 0) : a * b ≠ 0 := by
  intro e; rcases Int.mul_eq_zero.mp e with e | e
  · exact h e
  · exact h2 e
/-- sizes of sums and products -/
theorem natAbs_div_le (a : Int) (n : Nat) : (a / (n : Int)).natAbs ≤ a.natAbs ∨ ¬ ((n : Int) ∣ a) := by
  by_cases h : (n : Int) ∣ a
  · left
    rw [Int.natAbs_ediv_of_dvd h]
    exact Nat.div_le_self _ _
  · exact .inr h
theorem num_le (a : Int) (b : Int) (h : 0 < b) : (Rat.divInt a b).num.natAbs ≤ a.natAbs ∧ (Rat.divInt a b).den ≤ b.natAbs := by
  rw [Rat.num_divInt, Rat.den_divInt, if_neg (by omega), Int.sign_eq_one_of_pos h, Int.one_mul]
  refine ⟨?_, Nat.div_le_self _ _⟩
  rcases natAbs_div_le a (b.gcd a) with h | h
  · exact h
  · exact absurd (Int.gcd_dvd_right ..) h
theorem pow_mul_lt {a b n m : Nat} (ha : a < 2 ^ n) (hb : b < 2 ^ m) : a * b < 2 ^ (n + m) := by
  rw [Nat.pow_add]; exact Nat.mul_lt_mul'' ha hb
theorem Bd.mul {p q : Rat} {n m : Nat} (hp : Bd p n) (hq : Bd q m) : Bd (p * q) (n + m) := by
  have h := num_le (p.num * q.num) (p.den * q.den) (by have := p.den_pos; have := q.den_pos; exact Int.mul_pos (by omega) (by omega))
  rw [mul_lp] at h
  refine ⟨Nat.lt_of_le_of_lt h.1 ?_, Nat.lt_of_le_of_lt h.2 ?_⟩
  · rw [Int.natAbs_mul]; exact pow_mul_lt hp.1 hq.1
  · rw [Int.natAbs_mul]; exact pow_mul_lt hp.2 hq.2
theorem Bd.add {p q : Rat} {n m : Nat} (hp : Bd p n) (hq : Bd q m) : Bd (p + q) (n + m + 1) := by
  have h := num_le (p.num * q.den + q.num * p.den) (p.den * q.den) (by have := p.den_pos; have := q.den_pos; exact Int.mul_pos (by omega) (by omega))
  rw [add_lp] at h
  refine ⟨Nat.lt_of_le_of_lt h.1 ?_, Nat.lt_of_le_of_lt h.2 ?_⟩
  · have h1 := Int.natAbs_add_le (p.num * q.den) (q.num * p.den)
    have h2 : (p.num * q.den).natAbs < 2 ^ (n + m) := by rw [Int.natAbs_mul]; exact pow_mul_lt hp.1 hq.2
    have h3 : (q.num * p.den).natAbs < 2 ^ (n + m) := by rw [Int.natAbs_mul, Nat.add_comm n m]; exact pow_mul_lt hq.1 hp.2
    rw [Nat.pow_succ]; omega
  · rw [Int.natAbs_mul, Nat.pow_succ]
    have := pow_mul_lt hp.2 hq.2
    have e : (p.den : Int).natAbs * (q.den : Int).natAbs = p.den * q.den := rfl
    omega
theorem Bd.neg {p : Rat} {n : Nat} (hp : Bd p n) : Bd (-p) n := by
  refine ⟨?_, hp.2⟩
  rw [Rat.neg_num, Int.natAbs_neg]; exact hp.1
theorem Bd.sub {p q : Rat} {n m : Nat} (hp : Bd p n) (hq : Bd q m) : Bd (p - q) (n + m + 1) := by
  rw [Rat.sub_eq_add_neg]; exact hp.add hq.neg
/-- equal data of fractions: equal fractions -/
theorem fr_inj {p q : Rat} (h : frD p = frD q) : p = q := by
  unfold frD frL at h
  injection h with h
  injection h with h1 h2
  injection h2 with h2 _
  injection h1 with h1
  injection h2 with h2
  exact Rat.ext h1 (by omega)
theorem eqv_fr (p q : Rat) : PyData.eqv (frD p) (frD q) = decide (p = q) := by
  have : PyData.eqv (frD p) (frD q) = (decide (p.num = q.num) && decide (p.den = q.den)) := by
    unfold frD frL
    simp only [PyData.eqv, PyData.eqvAll, Bool.and_true]
    congr 1
    rw [Bool.eq_iff_iff, beq_iff_eq, decide_eq_true_iff]
    omega
  rw [this]
  by_cases h : p = q
  · subst h; simp
  · rw [decide_eq_false h, Bool.and_eq_false_iff]
    by_cases h1 : p.num = q.num
    · right
      rw [decide_eq_false_iff_not]
      exact fun h2 => h (Rat.ext h1 h2)
    · left; exact decide_eq_false h1
theorem shaped_fr (p : Rat) : SeqAt.shaped (frD p) = true := by
  unfold frD frL
  simp [SeqAt.shaped, PyData.depth, PyData.depthAll, PyData.canLay0, PyData.canLayAll0]
theorem isFr_seq {d : PyData} {q : Rat} (h : isFr d q) : isSeq d = true := h.1
theorem at0 {d : PyData} {q : Rat} (h : isFr d q) : atI (itemsD d) 0 = some (.int q.num) := by rw [h.2]; rfl
theorem at1 {d : PyData} {q : Rat} (h : isFr d q) : atI (itemsD d) 1 = some (.int q.den) := by rw [h.2]; rfl
theorem cmulw {i j : Int} (hi : i.natAbs < 2 ^ 4000) (hj : j.natAbs < 2 ^ 4000) : CMulW i j := wide_mul hi hj (by decide) (by decide) (by decide)
def leD : PyData → PyData → Bool
  | .int i, .int j => decide (i ≤ j)
  | _, _ => false
def within (d lo hi : PyData) : Bool := isI d && ((isNoneD lo || leD lo d) && (isNoneD hi || leD d hi))
def areI (d : PyData) (n : Int) : Bool := isSeq d && decide ((lenD d : Int) = n) && (itemsD d).all isI
theorem areI2 {d : PyData} (h : areI d 2 = true) : ∃ a b, isSeq d = true ∧ itemsD d = [.int a, .int b] := by
  unfold areI at h
  simp only [Bool.and_eq_true, decide_eq_true_eq] at h
  obtain ⟨⟨h1, h2⟩, h3⟩ := h
  have key : ∀ ds : List PyData, (ds.length : Int) = 2 → ds.all isI = true → ∃ a b, ds = [.int a, .int b] := by
    intro ds hl ha
    match ds, hl, ha with
    | [x, y], _, ha =>
      simp only [List.all_cons, List.all_nil, Bool.and_true, Bool.and_eq_true] at ha
      cases x <;> cases y <;> first | exact ⟨_, _, rfl⟩ | (simp [isI] at ha)
  cases d with
  | list ds => obtain ⟨a, b, e⟩ := key ds h2 h3; exact ⟨a, b, rfl, e⟩
  | tuple ds => obtain ⟨a, b, e⟩ := key ds h2 h3; exact ⟨a, b, rfl, e⟩
  | _ => cases h1
theorem areI_pair {d : PyData} {a b : Int} (h : isSeq d = true) (e : itemsD d = [.int a, .int b]) : areI d 2 = true := by
  cases d with
  | list ds => cases e; rfl
  | tuple ds => cases e; rfl
  | _ => cases h
/-- whether any value tells a fraction -/
def isFrB (d : PyData) : Bool := match itemsD d with
  | [.int a, .int b] => isSeq d && (decide (0 < b) && decide ((Nat.gcd a.natAbs b.natAbs : Int) = 1))
  | _ => false
theorem isFrB_of {d : PyData} {q : Rat} (h : isFr d q) : isFrB d = true := by
  unfold isFrB
  rw [h.2]
  simp only [frL, h.1, Bool.true_and, Bool.and_eq_true, decide_eq_true_eq]
  refine ⟨by have := q.den_pos; omega, ?_⟩
  have := q.reduced
  exact_mod_cast this
theorem isFrB_pair {d : PyData} {a b : Int} (h : isSeq d = true) (e : itemsD d = [.int a, .int b]) : isFrB d = (decide (0 < b) && decide ((Nat.gcd a.natAbs b.natAbs : Int) = 1)) := by
  unfold isFrB; rw [e, h]; rfl
theorem isFrB_not {d : PyData} (h : areI d 2 = false) : isFrB d = false := by
  unfold isFrB
  split
  · rename_i a b e
    by_cases hs : isSeq d = true
    · rw [areI_pair hs e] at h; cases h
    · rw [Bool.not_eq_true] at hs; rw [hs]; rfl
  · rfl
theorem isFr_of {d : PyData} (h : isFrB d = true) : ∃ q, isFr d q := by
  unfold isFrB at h
  split at h
  · rename_i a b e
    simp only [Bool.and_eq_true, decide_eq_true_eq] at h
    obtain ⟨h1, h2, h3⟩ := h
    refine ⟨⟨a, b.toNat, by omega, ?_⟩, h1, ?_⟩
    · have : b.natAbs = b.toNat := by omega
      rw [← this]; show Nat.gcd _ _ = 1; exact_mod_cast h3
    · rw [e]; unfold frL
      have : ((b.toNat : Nat) : Int) = b := by omega
      simp [this]
  · cases h
theorem gcd_small {u w : Int} (hw : w ≠ 0) (h : w.natAbs < 2 ^ 8999) (x : Int) : CDivA x (if w > 0 then (Nat.gcd u.natAbs w.natAbs : Nat) else -(Nat.gcd u.natAbs w.natAbs : Nat)) := by
  have h1 : Nat.gcd u.natAbs w.natAbs ≤ w.natAbs := Nat.gcd_le_right _ (by omega)
  have h0 : 0 < Nat.gcd u.natAbs w.natAbs := Nat.gcd_pos_of_pos_right _ (by omega)
  have h2 : (if w > 0 then ((Nat.gcd u.natAbs w.natAbs : Nat) : Int) else -(Nat.gcd u.natAbs w.natAbs : Nat)).natAbs = Nat.gcd u.natAbs w.natAbs := by split <;> omega
  refine ⟨?_, ?_⟩
  · intro e; rw [e] at h2; simp at h2; omega
  · rw [h2]
    have := PySem.Flt.log2_lt_of (k := 8999) (by decide) (Nat.lt_of_le_of_lt h1 h)
    omega
theorem den_small {p q : Rat} (hp : Bd p 4000) (hq : Bd q 4000) : ((p.den : Int) * q.den).natAbs < 2 ^ 8999 := by
  rw [Int.natAbs_mul]
  exact Nat.lt_of_lt_of_le (pow_mul_lt hp.2 hq.2) (Nat.pow_le_pow_right (by decide) (by decide))
theorem num_le' (a : Int) (b : Int) (h : b ≠ 0) : (Rat.divInt a b).num.natAbs ≤ a.natAbs ∧ (Rat.divInt a b).den ≤ b.natAbs := by
  rcases Int.lt_or_gt_of_ne h with h1 | h1
  · have e : Rat.divInt a b = Rat.divInt (-a) (-b) := (Rat.neg_divInt_neg a b).symm
    rw [e]
    have := num_le (-a) (-b) (by omega)
    rw [Int.natAbs_neg, Int.natAbs_neg] at this
    exact this
  · exact num_le a b h1
theorem isFr_01 : isFr (.tuple [.int 0, .int 1]) 0 := ⟨rfl, rfl⟩
theorem isFr_11 : isFr (.tuple [.int 1, .int 1]) 1 := ⟨rfl, rfl⟩
theorem isFr_m11 : isFr (.tuple [.int (-1), .int 1]) (-1) := ⟨rfl, rfl⟩
theorem frD_0 : PyData.tuple [.int 0, .int 1] = frD 0 := rfl
theorem frD_1 : PyData.tuple [.int 1, .int 1] = frD 1 := rfl
theorem bd_0 : Bd 0 1 := ⟨by decide, by decide⟩
theorem bd_1 : Bd 1 1 := ⟨by decide, by decide⟩
theorem bd_m1 : Bd (-1) 1 := ⟨by decide, by decide⟩
theorem bd_le {q : Rat} {n : Nat} (h : Bd q n) (l : n ≤ 4000) : Bd q 4000 := h.mono l
theorem eqv_fr0 (p : Rat) : PyData.eqv (frD p) (.tuple [.int 0, .int 1]) = decide (p = 0) := eqv_fr p 0
theorem eqv_fr1 (p : Rat) : PyData.eqv (frD p) (.tuple [.int 1, .int 1]) = decide (p = 1) := eqv_fr p 1
theorem shaped_0 : SeqAt.shaped (.tuple [.int 0, .int 1]) = true := rfl
theorem shaped_1 : SeqAt.shaped (.tuple [.int 1, .int 1]) = true := rfl
/-- the three of one order -/
theorem count3 (p q : Rat) : ((([decide (p < q), decide (q < p), decide (p = q)] : List Bool).count true : Nat) : Int) = 1 := by
  rcases Classical.em (p = q) with h | h
  · subst h
    have : ¬ p < p := Rat.lt_irrefl
    simp [this]
  · by_cases h1 : p < q
    · have h2 : ¬ q < p := fun h2 => Rat.not_lt.mpr (Rat.le_of_lt h2) h1
      simp [h1, h2, h]
    · have h2 : q < p := Rat.lt_of_le_of_ne (Rat.not_lt.mp h1) (Ne.symm h)
      simp [h1, h2, h]

/-! the order's laws -/
theorem ord1 (p q r : Rat) : (!decide (decide (p + r < q + r) = decide (p < q)) || !decide (decide (0 - q < 0 - p) = decide (p < q))) = false := by
  have h1 : (p + r < q + r) ↔ p < q := Rat.add_lt_add_right
  have h2 : (0 - q < 0 - p) ↔ p < q := by
    rw [Rat.sub_eq_add_neg, Rat.sub_eq_add_neg, Rat.zero_add, Rat.zero_add]; exact Rat.neg_lt_neg_iff
  simp [h1, h2]
theorem ord2 (p q r : Rat) : (decide (p < q) && (decide (q < r) && !decide (p < r))) = false := by
  by_cases h1 : p < q
  · by_cases h2 : q < r
    · have h3 : p < r := by
        rcases Rat.lt_iff_le_and_ne.mp h1 with ⟨a1, a2⟩
        rcases Rat.lt_iff_le_and_ne.mp h2 with ⟨b1, b2⟩
        refine Rat.lt_of_le_of_ne (Rat.le_trans a1 b1) fun e => ?_
        subst e
        exact a2 (Rat.le_antisymm a1 b1)
      simp [h3]
    · simp [h2]
  · simp [h1]
theorem ord3 (p q r : Rat) : decide (decide (p * (r * r) < q * (r * r)) = (decide (p < q) && !decide (r = 0))) = true := by
  by_cases h : r = 0
  · subst h
    simp [Rat.mul_zero]
  · have hp : 0 < r * r := by
      rcases Classical.em (r < 0) with h1 | h1
      · have h2 : 0 < -r := by
          have := Rat.neg_lt_neg h1
          simpa using this
        have h3 := Rat.mul_pos h2 h2
        rw [Rat.neg_mul, Rat.mul_neg, Rat.neg_neg] at h3
        exact h3
      · have h2 : 0 < r := Rat.lt_of_le_of_ne (Rat.not_lt.mp h1) (Ne.symm h)
        exact Rat.mul_pos h2 h2
    have h3 : (p * (r * r) < q * (r * r)) ↔ p < q := Rat.mul_lt_mul_right hp
    simp [h3, h]

/-! lists of fractions -/
theorem eqvAll_frs : ∀ ps qs : List Rat, PyData.eqvAll (ps.map frD) (qs.map frD) = decide (ps = qs)
  | [], [] => by simp [PyData.eqvAll]
  | [], _ :: _ => by simp [PyData.eqvAll]
  | _ :: _, [] => by simp [PyData.eqvAll]
  | p :: ps, q :: qs => by
    have ih := eqvAll_frs ps qs
    show (PyData.eqv (frD p) (frD q) && PyData.eqvAll (ps.map frD) (qs.map frD)) = _
    rw [ih, eqv_fr]
    by_cases h : p = q <;> by_cases h2 : ps = qs <;> simp [h, h2]
theorem eqv_frs (ps qs : List Rat) : PyData.eqv (.list (ps.map frD)) (.list (qs.map frD)) = decide (ps = qs) := eqvAll_frs ps qs
theorem shaped_frs (ps : List Rat) : SeqAt.shaped (.list (ps.map frD)) = true := by
  have h1 : ∀ ps : List Rat, PyData.canLayAll0 (ps.map frD) = true := fun ps => by
    induction ps with
    | nil => rfl
    | cons x r ih =>
      show (PyData.canLay0 (frD x) && PyData.canLayAll0 (r.map frD)) = true
      rw [ih]; rfl
  have h2 : ∀ ps : List Rat, PyData.depthAll (ps.map frD) ≤ 1 := fun ps => by
    induction ps with
    | nil => exact Nat.zero_le _
    | cons x r ih =>
      show max (PyData.depth (frD x)) (PyData.depthAll (r.map frD)) ≤ 1
      have : PyData.depth (frD x) = 1 := rfl
      omega
  have h3 := h2 ps
  show (PyData.canLayAll0 (ps.map frD) && decide (PyData.depthAll (ps.map frD) + 1 ≤ 64)) = true
  rw [h1, Bool.true_and, decide_eq_true_eq]
  omega
theorem filter_frs (ps : List Rat) : (ps.map frD).filter (fun d => !isFrB d || !isTup d) = [] := by
  rw [List.filter_eq_nil_iff]
  intro d hd
  obtain ⟨x, _, rfl⟩ := List.mem_map.mp hd
  rw [isFrB_of (isFr_D x)]
  simp [isTup, frD]
theorem sub_add (p q : Rat) : p + q - q = p := Rat.add_sub_cancel
theorem sub_sub (p q : Rat) : p - (p - q) = q := by
  rw [Rat.sub_eq_add_neg p (p - q), Rat.neg_sub, Rat.sub_eq_add_neg, Rat.add_comm q, ← Rat.add_assoc, Rat.add_neg_cancel, Rat.zero_add]
theorem inv_lp (p : Rat) : Rat.divInt (p.den : Int) p.num = p⁻¹ := (Rat.inv_def p).symm
theorem bd_inv {p : Rat} {n : Nat} (h : Bd p n) (h0 : p.num ≠ 0) : Bd (Rat.divInt (p.den : Int) p.num) n := by
  have hb := num_le' (p.den : Int) p.num h0
  exact ⟨Nat.lt_of_le_of_lt hb.1 h.2, Nat.lt_of_le_of_lt hb.2 h.1⟩
theorem neg1_add (p : Rat) : p + -1 * p = 0 := by
  rw [Rat.neg_mul, Rat.one_mul, Rat.add_neg_cancel]
theorem isFr_21 : isFr (.tuple [.int 2, .int 1]) 2 := ⟨rfl, rfl⟩
theorem bd_2 : Bd 2 2 := ⟨by decide, by decide⟩
theorem noL_frs (qs : List Rat) : noL (.tuple (qs.map frD)) = true := by
  show noLs (qs.map frD) = true
  rw [noLs_all]
  intro d hd
  obtain ⟨x, _, rfl⟩ := List.mem_map.mp hd
  rfl
end Jl

set_option Elab.async false
set_option linter.all false
set_option maxRecDepth 100000
set_option maxHeartbeats 2000000
/-! drawing: the list that is drawn from (at b: its cells at c, how many were begun, what is left), ints that are not known, picks, loops -/
namespace Jl
open PySem PySem.Spec L2
/-- the list at b, its cells at c -/
def Sat (b c : Addr) (n : Nat) (H : Hp) : Prop := ∃ (at' rest : Int) (cs : List Int), H b = some (.lst [.ref c, .int at', .int rest]) ∧ H c = some (.lst (cs.map V.int)) ∧ 0 ≤ at' ∧ at' ≤ n ∧ 0 ≤ rest ∧ cs.length ≤ 60
def satW (b c : Addr) : Wd where
  M := fun a => a = b
  F := fun a => a = b ∨ a = c
  I := Sat b c
  mf := fun h => .inl h
  sf := fun s ⟨a, r, cs, h1, h2, h3⟩ => ⟨a, r, cs, by rw [s b (.inl rfl)]; exact h1, by rw [s c (.inr rfl)]; exact h2, h3⟩
  al := fun ⟨a, r, cs, h1, h2, h3⟩ f => by
    rcases f with rfl | rfl
    · rw [h1]; simp
    · rw [h2]; simp
  ml := fun {n H a} ⟨p, r, cs, h1, h2, h3⟩ m => by
    have m' : a = b := m
    subst m'
    exact ⟨_, h1⟩
  mo := fun l ⟨a, r, cs, h1, h2, h3, h4, h5⟩ => ⟨a, r, cs, h1, h2, h3, by omega, h5⟩
variable {K : PySem.W.Frag} {W : Wd} {σ : St} {H H1 H2 : Hp} {v : V} {d : PyData} {n c c1 c2 : Nat} {te ta tb to ti : TE} {P P1 P2 : V → Hp → Prop} {D : Ends}
theorem sat_cb {b c : Addr} (h : Sat b c n H) : c ≠ b := fun e => by
  obtain ⟨a, r, cs, h1, h2, _⟩ := h
  rw [e, h1] at h2
  injection h2 with h2; injection h2 with h2
  cases cs with
  | nil => cases h2
  | cons x r => cases h2

/-! ints that are not known -/
abbrev JI (W : Wd) (te : TE) (σ : St) (H : Hp) (c : Nat) (φ : Int → Prop) : Prop := J W te σ H c fun v _ => ∃ i, v = .int i ∧ φ i
variable {φ φ1 φ2 : Int → Prop}
theorem ji_of {i : Int} (h : JD K W te σ H c (.int i)) (p : φ i) : JI W te σ H c φ := h.imp fun v H2 hv => ⟨i, Da.int hv, p⟩
theorem ji_v {i : Nat} {k : Int} (h : σ[i]? = some (some (.int k))) (p : φ k) : JI W (tVar i) σ H 0 φ := fun n H1 _ hI _ Q q => ⟨_, h, q _ H1 ExM.refl hI ⟨k, rfl, p⟩⟩
theorem ji_op {C : Int → Int → Prop} {f : Int → Int → Int} (ha : JI W ta σ H c1 φ1) (hb : JI W tb σ H c2 φ2) (hc : ∀ i j, φ1 i → φ2 j → C i j) (hp : ∀ i j, φ1 i → φ2 j → φ (f i j)) : JI W (tOp (rI C fun i j => .int (f i j)) ta tb) σ H (c1 + c2) φ := fun n H1 e hI hn Q q =>
  ha n H1 e hI (by omega) _ fun x H2 e2 hI2 ⟨i, hx, p1⟩ => hb (n + c1) H2 (e.trans e2) hI2 (by omega) _ fun y H3 e3 hI3 ⟨j, hy, p2⟩ => ⟨i, j, hx, hy, hc i j p1 p2, q _ H3 (e2.trans e3) (by rw [show n + (c1 + c2) = n + c1 + c2 by omega]; exact hI3) ⟨_, rfl, hp i j p1 p2⟩⟩
theorem ji_op0 {f : Int → Int → Int} (ha : JI W ta σ H c1 φ1) (hb : JI W tb σ H c2 φ2) (hp : ∀ i j, φ1 i → φ2 j → φ (f i j)) : JI W (tOp (rI0 fun i j => .int (f i j)) ta tb) σ H (c1 + c2) φ := fun n H1 e hI hn Q q =>
  ha n H1 e hI (by omega) _ fun x H2 e2 hI2 ⟨i, hx, p1⟩ => hb (n + c1) H2 (e.trans e2) hI2 (by omega) _ fun y H3 e3 hI3 ⟨j, hy, p2⟩ => ⟨i, j, hx, hy, q _ H3 (e2.trans e3) (by rw [show n + (c1 + c2) = n + c1 + c2 by omega]; exact hI3) ⟨_, rfl, hp i j p1 p2⟩⟩
/-- a display whose items are known by a word alone -/
abbrev JXs (K : PySem.W.Frag) (W : Wd) (ta : TA) (σ : St) (H : Hp) (c : Nat) (ψ : PyData → Prop) (m : Nat) : Prop := JA W ta σ H c fun vs H2 => ∃ ds : List PyData, ds.length = m ∧ (∀ d ∈ ds, ψ d) ∧ DaL K W H2 vs ds
variable {ψ ψ1 : PyData → Prop} {m : Nat}
theorem jx_of (h : JD K W te σ H c d) (p : ψ d) : JX K W te σ H c ψ := h.imp fun v H2 hv => ⟨d, p, hv⟩
theorem jx_i (h : JI W te σ H c φ) (p : ∀ i, φ i → ψ (.int i)) : JX K W te σ H c ψ := h.imp fun v H2 ⟨i, e, q⟩ => ⟨.int i, p i q, by rw [e]; exact DaM.int i⟩
theorem jxs_nil : JXs K W tNil σ H 0 ψ 0 := fun n H1 _ hI _ Q q => q [] H1 ExM.refl hI ⟨[], rfl, by simp, .nil⟩
theorem jxs_cons {tr : TA} (ha : JX K W ta σ H c1 ψ) (hr : JXs K W tr σ H c2 ψ m) : JXs K W (tCons ta tr) σ H (c1 + c2) ψ (m + 1) := fun n H1 e hI hn Q q =>
  ha n H1 e hI (by omega) _ fun x H2 e2 hI2 ⟨d, p, hx⟩ => hr (n + c1) H2 (e.trans e2) hI2 (by omega) _ fun xs H3 e3 hI3 ⟨ds, hl, hp, hxs⟩ =>
    q (x :: xs) H3 (e2.trans e3) (by rw [show n + (c1 + c2) = n + c1 + c2 by omega]; exact hI3) ⟨d :: ds, by rw [List.length_cons, hl], fun y hy => by
      rcases List.mem_cons.mp hy with rfl | hy
      · exact p
      · exact hp y hy, .cons (Da.mono hx e3) hxs⟩
/-- the list itself -/
abbrev JXl (K : PySem.W.Frag) (W : Wd) (te : TE) (σ : St) (H : Hp) (c : Nat) (ψ : PyData → Prop) (m : Nat) : Prop := J W te σ H c fun v H2 => ∃ ds : List PyData, ds.length = m ∧ (∀ d ∈ ds, ψ d) ∧ Da K W H2 v (.list ds)
theorem jxl_lst {t : TA} (h : JXs K W t σ H c ψ m) (hl : m ≤ 100000) : JXl K W (tLst t) σ H c ψ m := fun n H1 e hI hn Q q =>
  h n H1 e hI hn _ fun xs H2 e2 hI2 ⟨ds, h1, h2, hx⟩ => ⟨by rw [dal_len hx, h1]; exact Nat.le_trans hl (by decide), fun p hp =>
    q (.ref p) _ (e2.trans (.of (same_new hp))) (W.st (same_new hp) hI2) ⟨ds, h1, h2, da_lst (W.fr hI2 hp) upd_same (DaL.mono hx (.of (same_new hp)))⟩⟩

/-! what the drawing defs promise -/
def spDraw : Sp := fun vs H Q _ => ∃ (b c : Addr) (n : Nat) (many : Int), vs = [.ref b, .int many] ∧ Sat b c n H ∧ n + 1 ≤ BIG ∧ 0 < many ∧ many < 536870912 ∧
  ∀ i H', 0 ≤ i → i < many → ExM (satW b c).M H H' → Sat b c (n + 1) H' → Q (.int i) H'
def spPick (K : PySem.W.Frag) : Sp := fun vs H Q _ => ∃ (b c : Addr) (n : Nat) (v : V) (d : PyData), vs = [.ref b, v] ∧ Sat b c n H ∧ n + 1 ≤ BIG ∧ Da K (satW b c) H v d ∧ isSeq d = true ∧ 0 < (itemsD d).length ∧ (itemsD d).length < 100000 ∧
  ∀ x e H', e ∈ itemsD d → ExM (satW b c).M H H' → Sat b c (n + 1) H' → Da K (satW b c) H' x e → Q x H'
variable {b cc : Addr}
theorem satI {H : Hp} : (satW b cc).I n H = Sat b cc n H := rfl
theorem ji_draw {many : Int} {E : XK} {i : Nat} {tm : TE} (hb : σ[i]? = some (some (.ref b))) (hm : JD K (satW b cc) tm σ H c (.int many)) (h0 : 0 < many ∧ many < 536870912) :
    JI (satW b cc) (tCall spDraw [] E (tCons (tVar i) (tCons tm tNil))) σ H (c + 1) (fun i => 0 ≤ i ∧ i < many) := fun n H1 e hI hn Q q =>
  ⟨.ref b, hb, hm n H1 e hI (by omega) _ fun x H2 e2 hI2 hx => ⟨b, cc, n + c, many, by rw [hx.int]; rfl, show Sat b cc (n + c) H2 from hI2, by omega, h0.1, h0.2, fun k H' k0 k1 eM hS => q _ H' (e2.trans eM) (show Sat b cc (n + (c + 1)) H' from hS) ⟨k, rfl, k0, k1⟩⟩⟩
theorem jx_pick {E : XK} {i : Nat} {tl : TE} (hb : σ[i]? = some (some (.ref b))) (hl : JXl K (satW b cc) tl σ H c ψ m) (h0 : 0 < m ∧ m < 100000) :
    JX K (satW b cc) (tCall (spPick K) [] E (tCons (tVar i) (tCons tl tNil))) σ H (c + 1) ψ := fun n H1 e hI hn Q q =>
  ⟨.ref b, hb, hl n H1 e hI (by omega) _ fun x H2 e2 hI2 ⟨ds, hl, hp, hx⟩ => ⟨b, cc, n + c, x, .list ds, rfl, show Sat b cc (n + c) H2 from hI2, by omega, hx, rfl, by show 0 < ds.length; omega, by show ds.length < 100000; omega,
    fun y e H' he eM hS hy => q y H' (e2.trans eM) (show Sat b cc (n + (c + 1)) H' from hS) ⟨e, hp e he, hy⟩⟩⟩

/-! stores, loops -/
theorem st_setitem {l : Addr} {xs : List V} {j : Nat} {i : Int} {Pv : V → Hp → Prop} (hv : J W0 te σ H c Pv) (ho : J W0 to σ H c1 (fun v _ => v = .ref l)) (hi : JD K W0 ti σ H c2 (.int i)) (hc : c ≤ BIG ∧ c1 ≤ BIG ∧ c2 ≤ BIG) (hl : H l = some (.lst xs)) (hj : ixN xs.length i = some j)
    (hP : ∀ {v H1 H2}, Same H1 H2 → Pv v H1 → Pv v H2) (k : ∀ v H1, Same H H1 → Pv v H1 → D.nx σ (upd H1 l (.lst (xs.set j v)))) : tAsg te (gSub to ti rSetL) D σ H :=
  hv 0 H ExM.refl trivial (by omega) _ fun v H1 e1 _ p => ho 0 H1 e1 trivial (by omega) _ fun o H2 e2 _ po => hi 0 H2 (e1.trans e2) trivial (by omega) _ fun y H3 e3 _ py => by
    subst po
    have s := ex0 (e1.trans (e2.trans e3))
    exact ⟨l, xs, i, j, rfl, Da.int py, s l _ hl, hj, k v H3 s (hP (ex0 (e2.trans e3)) p)⟩
theorem st_forR {ta : TA} {j : Nat} {nn : Int} {tb : TS} (hI : W.I n H) (h : JDA K W ta σ H c [.int nn]) (hc : n + c ≤ BIG) (hn : 0 ≤ nn ∧ nn < 2 ^ 62) (Pv : Nat → St → Hp → Prop) (h0 : ∀ H1, ExM W.M H H1 → W.I (n + c) H1 → Pv 0 σ H1)
    (hs : ∀ (i : Nat) σ' H', (i : Int) < nn → Pv i σ' H' → tb { D with nx := Pv (i + 1), ct := Pv (i + 1), bk := D.nx } (σ'.set j (some (.int (i : Int)))) H') (hd : ∀ σ' H', Pv nn.toNat σ' H' → D.nx σ' H') : tFor (iRng1 ta) (gName j) tb D σ H :=
  h n H ExM.refl hI hc _ fun vs H1 e hI1 hv => by
    obtain ⟨x, rfl, hx⟩ := dal1 hv
    exact ⟨nn, by rw [hx.int], by omega, hn.2, for_range (lo := 0) (n := nn.toNat) Pv (h0 H1 e hI1) (fun i σ' H' hi p => by
      have e0 : (0 : Int) + (i : Int) = (i : Int) := Int.zero_add _
      show tb { D with nx := Pv (i + 1), ct := Pv (i + 1), bk := D.nx } (σ'.set j (some (.int ((0 : Int) + (i : Int))))) H'
      rw [e0]
      exact hs i σ' H' (by omega) p) hd⟩
/-- [te for _ in range(nn)], something drawn in each -/
theorem jxl_lcR {ta : TA} {nn : Int} {j : Nat} {vs : List Nat} (h : JDA K W ta σ H c [.int nn]) (hn : 0 ≤ nn ∧ nn < 10000) (hw : ∀ x, wipe ((wipe σ vs).set j (some x)) vs = wipe σ vs)
    (he : ∀ (i : Nat) H1, ExM W.M H H1 → (i : Int) < nn → JX K W te ((wipe σ vs).set j (some (.int (i : Int)))) H1 c1 ψ) (hL : ∀ d, ψ d → noL d = true) :
    JXl K W (tLc (iRng1 ta) (gName j) tYes te vs) σ H (c + nn.toNat * c1) ψ nn.toNat := fun n H0 e hI hb Q q => h n H0 e hI (by omega) _ fun xs H1 e1 hI1 hx => by
  obtain ⟨x, rfl, hx2⟩ := dal1 hx
  refine ⟨nn, by rw [hx2.int], by omega, by omega, fun Dl hD => ?_⟩
  refine lc_range (lo := 0) (n := nn.toNat) (fun i H' => ∃ ds : List PyData, ds.length = i ∧ (∀ d ∈ ds, ψ d) ∧ Cw K W H1 (n + c + i * c1) Dl ds H') ?_ (fun i H' hi hC => ?_) (fun H' hC => ?_)
  · exact ⟨[], rfl, by simp, hD, .of (same_new hD), by rw [show n + c + 0 * c1 = n + c by omega]; exact W.st (same_new hD) hI1, by simp [noLs], [], upd_same, by simpa using DaML.nil⟩
  · obtain ⟨ds, hl, hp, hC⟩ := hC
    have e0 : (0 : Int) + (i : Int) = (i : Int) := Int.zero_add _
    show wipe ((wipe σ vs).set j (some (.int ((0 : Int) + (i : Int))))) vs = wipe σ vs ∧ te ((wipe σ vs).set j (some (.int ((0 : Int) + (i : Int))))) H' _
    rw [e0]
    have hmul : i * c1 + c1 ≤ nn.toNat * c1 := by
      have : (i + 1) * c1 ≤ nn.toNat * c1 := Nat.mul_le_mul_right _ hi
      rw [Nat.succ_mul] at this; exact this
    refine ⟨hw _, he i H' (e.trans (e1.trans hC.2.1)) (by omega) (n + c + i * c1) H' ExM.refl hC.2.2.1 (by omega) _ fun y H4 e4 hI4 ⟨d, pd, hy⟩ => ?_⟩
    have mD := W.fr hI1 hD
    obtain ⟨acc, a1, a2, a3⟩ := cw_put ⟨_, hI1⟩ (cw_on hC mD e4 hI4) hy (hL d pd) (by omega)
    refine ⟨acc, a1, a2, ds ++ [d], by rw [List.length_append, hl]; rfl, fun x hx => ?_, ?_⟩
    · rcases List.mem_append.mp hx with h | h
      · exact hp x h
      · rw [List.mem_singleton.mp h]; exact pd
    · rw [show n + c + (i + 1) * c1 = n + c + i * c1 + c1 by rw [Nat.succ_mul]; omega]; exact a3
  · obtain ⟨ds, hl, hp, p1, p2, p3, p4, acc, p5, p6⟩ := hC
    exact q _ H' (e1.trans p2) (by rw [show n + (c + nn.toNat * c1) = n + c + nn.toNat * c1 by omega]; exact p3) ⟨ds, hl, hp, da_lst (W.fr hI1 hD) p5 p6⟩
/-- a, b, .. = a list of that many -/
theorem gUnl_of {m : Nat} {t : TGs} {Q : St → Hp → Prop} {ds : List PyData} (h : Da K W H v (.list ds)) (hl : ds.length = m) (k : ∀ xs, DaL K W H xs ds → t xs σ H Q) : gUnl K m t v σ H Q := by
  cases h with
  | lst hs ha => exact ⟨_, _, rfl, hs.sq, by rw [dal_len (W := W) ha, hl], k _ ha⟩

/-! list.count of truths -/
def eqkB (k : Bool) (v : Value) : Bool := match v with
  | .bool b => b == k
  | _ => false
theorem eqkB_at {k : Bool} {A : Around} {s : Shared} : ∀ {bs : List Bool} {us : List Value}, Vals (bs.map V.bl) us → ∀ y ∈ us, SeqAt.EqAt A s y (.bool k) (eqkB k y)
  | [], _, h => fun y hy => by cases h; cases hy
  | b :: bs, _, h => fun y hy => by
    cases h with
    | cons r t =>
      cases r
      rcases List.mem_cons.mp hy with e | e
      · rw [e]; exact SeqAt.EqAt.bool_bool b k
      · exact eqkB_at t y e
theorem eqkB_count {k : Bool} : ∀ {bs : List Bool} {us : List Value}, Vals (bs.map V.bl) us → us.countP (eqkB k) = bs.count k
  | [], _, h => by cases h; rfl
  | b :: bs, _, h => by
    cases h with
    | cons r t =>
      cases r
      rw [List.countP_cons, List.count_cons, eqkB_count t] <;> rfl
def rCntB (K : PySem.W.Frag) : V → List V → Hp → VK → Prop := fun x xs H Q => ∃ (p : Addr) (bs : List Bool) (k : Bool), x = .ref p ∧ xs = [.bl k] ∧ SqL K H p (bs.map V.bl) ∧ Q (.int (bs.count k : Nat)) H
theorem mt_lcountB {X : Cx} : MtR X "list.count" (rCntB X.K) := fun pins s σ H x xs v us Q I rx rxs ⟨p, bs, k, ex, exs, hs, q⟩ => by
  subst ex exs
  cases rx
  obtain ⟨u, eu, ru⟩ := rxs.one
  subst eu; cases ru
  obtain ⟨its, rv, ⟨o, n, ho, h1, _, h2⟩, _⟩ := I.list hs
  obtain ⟨cls, dd, data, sl⟩ := o
  obtain rfl : cls = _ := h1
  obtain rfl : data = _ := h2
  have en : its.toArray.toList.countP (eqkB k) = bs.count k := eqkB_count rv
  exact call_meets PySem.F.slot_list_count ⟨_, ho, rfl⟩ PySem.F.entry_list_count (PySem.F.args_list_count_2 _ _) (SeqAt.list_countAt p its.toArray n dd sl (.bool k) (eqkB k))
    ⟨ho, fun y hy => eqkB_at rv y (by simpa using hy), .int (bs.count k : Nat), H, I.tok _, ⟨s.toks, congrArg (fun z : Nat => Value.int (z : Int) s.toks) en⟩, q⟩
theorem jd_countB {bs : List Bool} {k : Bool} (ha : JD K W to σ H c1 (.list (bs.map PyData.bool))) (hb : JD K W ta σ H c2 (.bool k)) : JD K W (tBM K "list" (rCntB K) to (tCons ta tNil)) σ H (c1 + c2) (.int (bs.count k : Nat)) := fun n H1 e hI hn Q q =>
  ha n H1 e hI (by omega) _ fun x H2 e2 hI2 hx => by
    cases hx with
    | @lst a xs ds hs hl =>
      have e1 := dal_bools (W := W) hl
      refine ⟨.inl ⟨rfl, xs, hs.sq⟩, hb (n + c1) H2 (e.trans e2) hI2 (by omega) _ fun y H3 e3 hI3 hy => ⟨a, bs, k, rfl, by rw [hy.bl], by rw [← e1]; exact (hs.mono e3).sq, q _ H3 (e2.trans e3) (by rw [show n + (c1 + c2) = n + c1 + c2 by omega]; exact hI3) da_int⟩⟩

/-! the body of a drawing def -/
abbrev dB (cs : List Int) (a r : Int) : PyData := .list [.list (cs.map PyData.int), .int a, .int r]
theorem dal_of_ints : ∀ (cs : List Int), DaL K W H (cs.map V.int) (cs.map PyData.int)
  | [] => DaML.nil
  | x :: r => DaML.cons (DaM.int x) (dal_of_ints r)
theorem satDa {b c : Addr} {cs : List Int} {a r : Int} (hb : H b = some (.lst [.ref c, .int a, .int r])) (hc : H c = some (.lst (cs.map V.int))) : Da K W0 H (.ref b) (dB cs a r) :=
  da_lst (fun z => z) hb (.cons (da_lst (W := W0) (fun z => z) hc (dal_of_ints cs)) (.cons (.int a) (.cons (.int r) .nil)))
theorem st_setI0 {i : Nat} {z z' : Int} (h : JD K W0 te σ H c (.int z)) (hz : z = z') (hc : c ≤ BIG) (k : ∀ H1, ExM W0.M H H1 → D.nx (σ.set i (some (.int z'))) H1) : tAsg te (gName i) D σ H :=
  st_set0 h hc fun v H1 e hv => by subst hz; have := Da.int (W := W0) hv; subst this; exact k H1 e
theorem st_retI0 {z z' : Int} (h : JD K W0 te σ H c (.int z)) (hz : z = z') (hc : c ≤ BIG) (k : ∀ H1, ExM W0.M H H1 → D.rt (.int z') H1) : tRet te D σ H :=
  st_ret (W := W0) (n := 0) trivial h (by omega) fun v H1 e _ hv => by subst hz; have := Da.int (W := W0) hv; subst this; exact k H1 e
theorem st_setitI {l : Addr} {xs : List V} {j : Nat} {i z z' : Int} (hv : JD K W0 te σ H c (.int z)) (hz : z = z') (hvar : σ[0]? = some (some (.ref l))) (hi : JD K W0 ti σ H c2 (.int i)) (hc : c ≤ BIG ∧ c2 ≤ BIG) (hl : H l = some (.lst xs)) (hj : ixN xs.length i = some j)
    (k : ∀ H1, Same H H1 → D.nx σ (upd H1 l (.lst (xs.set j (.int z'))))) : tAsg te (gSub (tVar 0) ti rSetL) D σ H :=
  st_setitem (Pv := fun v H2 => v = .int z) (hv.imp fun v H2 h => Da.int (W := W0) h) (j_v hvar) hi ⟨hc.1, by decide, hc.2⟩ hl hj (fun _ h => h) fun v H1 s e => by subst e; rw [hz]; exact k H1 s
theorem same_at {H H1 : Hp} (s : Same H H1) {a : Addr} {o : HO} (h : H a = some o) : H1 a = some o := s a o h
theorem exm_upd {b c : Addr} {o : HO} (s : ExM (satW b c).M H H1) : ExM (satW b c).M H (upd H1 b o) := fun a u m h => by
  have hne : a ≠ b := m
  rw [upd_ne hne]; exact s a u m h
theorem shaped_ints : ∀ cs : List Int, SeqAt.shaped (.list (cs.map PyData.int)) = true := fun cs => by
  have h1 : ∀ cs : List Int, PyData.canLayAll0 (cs.map PyData.int) = true := fun cs => by
    induction cs with
    | nil => rfl
    | cons x r ih => simp [PyData.canLayAll0, PyData.canLay0, ih]
  have h2 : ∀ cs : List Int, PyData.depthAll (cs.map PyData.int) = 0 := fun cs => by
    induction cs with
    | nil => rfl
    | cons x r ih => simp [PyData.depthAll, PyData.depth, ih]
  simp [SeqAt.shaped, PyData.canLay0, h1, PyData.depth, h2]
theorem eqv_nil : ∀ cs : List Int, PyData.eqv (.list (cs.map PyData.int)) (.list []) = cs.isEmpty
  | [] => rfl
  | _ :: _ => rfl
theorem at_mod {cs : List Int} (h : cs ≠ []) {a : Int} (h0 : 0 ≤ a) : ∃ x, atI (cs.map PyData.int) (a % (cs.length : Int)) = some (.int x) := by
  have hl : 0 < cs.length := List.length_pos_iff.mpr h
  have h1 := Int.emod_nonneg a (show (cs.length : Int) ≠ 0 by omega)
  have h2 := Int.emod_lt_of_pos a (show (0 : Int) < cs.length by omega)
  obtain ⟨k, hk⟩ : ∃ k : Nat, a % (cs.length : Int) = k := ⟨(a % (cs.length : Int)).toNat, by omega⟩
  have hk2 : k < cs.length := by omega
  refine ⟨cs[k], ?_⟩
  rw [hk]
  refine atI_nat ?_
  rw [List.getElem?_map, List.getElem?_eq_getElem hk2]; rfl

def spSat (K : PySem.W.Frag) : Sp := fun vs H Q _ => ∃ (a : Addr) (ns : List Int), vs = [.ref a] ∧ SqL K H a (ns.map V.int) ∧ ns.length ≤ 63 ∧ ∀ b c H', Same H H' → Sat b c 0 H' → Q (.ref b) H'
theorem da_sq {a : Addr} {xs : List V} {ds : List PyData} (h : SqL K H a xs) (hd : DaL K W0 H xs ds) : Da K W0 H (.ref a) (.list ds) := by
  refine .lst ?_ hd
  rcases h with h | h
  · exact .inl ⟨fun z => z, h⟩
  · exact .inr h
theorem mem_ints {ns : List Int} {d : PyData} (h : d ∈ ns.map PyData.int) : ∃ i, d = .int i := by
  obtain ⟨i, _, rfl⟩ := List.mem_map.mp h
  exact ⟨i, rfl⟩
theorem sat_ret {tx : TE} {ns : List Int} (hl : ns.length ≤ 60) (h : J W0 tx σ H 0 (fun v H2 => NewL K W0 H2 v (ns.map PyData.int))) (ha : JD K W0 ta σ H 0 (.int 0)) (hb : JD K W0 tb σ H 0 (.int 0)) (q : ∀ b c H', Same H H' → Sat b c 0 H' → D.rt (.ref b) H') :
    tRet (tLst (tCons tx (tCons ta (tCons tb tNil)))) D σ H := h 0 H ExM.refl trivial (by decide) _ fun v H1 e1 _ hv => ha 0 H1 e1 trivial (by decide) _ fun x H2 e2 _ hx => hb 0 H2 (e1.trans e2) trivial (by decide) _ fun y H3 e3 _ hy => by
  obtain ⟨p, acc, rfl, _, hp, hd⟩ := hv
  have e4 := dal_ints (W := W0) hd
  rw [e4] at hp
  have h3 : H3 p = some (.lst (ns.map V.int)) := ex0 (e2.trans e3) _ _ hp
  refine ⟨(by show 3 ≤ sizeLine; decide), fun l hl' => q l p _ (fun a o ho => same_new hl' a o (ex0 (e1.trans (e2.trans e3)) a o ho)) ⟨0, 0, ns, ?_, same_new hl' _ _ h3, by omega, by omega, by omega, hl⟩⟩
  rw [hx.int, hy.int]
  exact upd_same
/-- some[draw(b, len(some))] -/
theorem pick_ret {E : XK} {b cc : Addr} (hS : Sat b cc n H) (hn : n + 1 ≤ BIG) (hd : Da K (satW b cc) H v d) (hs : isSeq d = true) (hl0 : 0 < (itemsD d).length) (hl1 : (itemsD d).length < 100000)
    (h0 : σ[0]? = some (some (.ref b))) (h1 : σ[1]? = some (some v))
    (q : ∀ x e H', e ∈ itemsD d → ExM (satW b cc).M H H' → Sat b cc (n + 1) H' → Da K (satW b cc) H' x e → D.rt x H') :
    tRet (tOp (rIx K) (tVar 1) (tCall spDraw [] E (tCons (tVar 0) (tCons (tCB (fun xs H Q => ∃ p ys, xs = [.ref p] ∧ (SqL K H p ys ∨ SqT K H p ys) ∧ Q (.int ys.length) H) (tCons (tVar 1) tNil)) tNil)))) D σ H := by
  refine ⟨v, h1, .ref b, h0, v, h1, ?_⟩
  have hle : lenD d = (itemsD d).length := by cases d <;> first | rfl | cases hs
  have go : ∀ (p : Addr) (xs : List V), v = .ref p → (∀ H', ExM (satW b cc).M H H' → (LsS K (satW b cc).M H' p xs ∨ TuS K (satW b cc).M H' p xs) ∧ DaL K (satW b cc) H' xs (itemsD d)) →
      ∃ (p : Addr) (ys : List V), [v] = [V.ref p] ∧ (SqL K H p ys ∨ SqT K H p ys) ∧ spDraw ([.ref b, .int ys.length] ++ []) H (fun y H2 => rIx K v y H2 D.rt) E := by
    intro p xs hv hk
    obtain ⟨k1, k2⟩ := hk H ExM.refl
    have hlen := dal_len (W := satW b cc) k2
    refine ⟨p, xs, by rw [hv], ?_, b, cc, n, _, rfl, hS, hn, by omega, by omega, fun i H' i0 i1 eM hS' => ?_⟩
    · rcases k1 with k1 | k1
      · exact .inl k1.sq
      · exact .inr k1.sq
    · obtain ⟨m1, m2⟩ := hk H' eM
      obtain ⟨j, hj⟩ : ∃ j : Nat, i = j := ⟨i.toNat, by omega⟩
      subst hj
      have hjl : j < xs.length := by omega
      obtain ⟨e, he, hx⟩ := dal_get (W := satW b cc) m2 (List.getElem?_eq_getElem hjl)
      have hq := q xs[j] e H' (List.mem_of_getElem? he) eM hS' hx
      rcases m1 with m1 | m1
      · exact .inl ⟨p, xs, j, xs[j], hv, rfl, m1.sq, atI_nat (List.getElem?_eq_getElem hjl), hq⟩
      · exact .inr (.inl ⟨p, xs, j, xs[j], hv, rfl, m1.sq, atI_nat (List.getElem?_eq_getElem hjl), hq⟩)
  cases hd with
  | @lst p xs ds hs' hl' => exact go p xs rfl fun H' e => ⟨.inl (hs'.mono e), DaL.mono (W := satW b cc) hl' e⟩
  | @tup p xs ds hs' hl' => exact go p xs rfl fun H' e => ⟨.inr (hs'.mono e), DaL.mono (W := satW b cc) hl' e⟩
  | _ => cases hs

/-- a drawing def of one parameter, the satchel: its answer is known by a word -/
def spDX (K : PySem.W.Frag) (cost : Nat) (ψ : PyData → Prop) : Sp := fun vs H Q _ => ∃ (b c : Addr) (n : Nat), vs = [.ref b] ∧ Sat b c n H ∧ n + cost ≤ BIG ∧ ∀ v d H', ψ d → ExM (satW b c).M H H' → Sat b c (n + cost) H' → Da K (satW b c) H' v d → Q v H'
theorem jx_callD {E : XK} {i cost : Nat} {b cc : Addr} (hb : σ[i]? = some (some (.ref b))) : JX K (satW b cc) (tCall (spDX K cost ψ) [] E (tCons (tVar i) tNil)) σ H cost ψ := fun n H1 e hI hn Q q =>
  ⟨.ref b, hb, b, cc, n, rfl, hI, hn, fun v d H' p eM hS hv => q v H' eM hS ⟨d, p, hv⟩⟩
abbrev JAX (K : PySem.W.Frag) (W : Wd) (ta : TA) (σ : St) (H : Hp) (c : Nat) (θ : List PyData → Prop) : Prop := JA W ta σ H c fun vs H2 => ∃ ds, θ ds ∧ DaL K W H2 vs ds
theorem jax_nil : JAX K W tNil σ H 0 (fun ds => ds = []) := fun n H1 _ hI _ Q q => q [] H1 ExM.refl hI ⟨[], rfl, .nil⟩
theorem jax_cons {tr : TA} {θ : List PyData → Prop} (ha : JX K W ta σ H c1 ψ) (hr : JAX K W tr σ H c2 θ) : JAX K W (tCons ta tr) σ H (c1 + c2) (fun ds => ∃ d r, ds = d :: r ∧ ψ d ∧ θ r) := fun n H1 e hI hn Q q =>
  ha n H1 e hI (by omega) _ fun x H2 e2 hI2 ⟨d, p, hx⟩ => hr (n + c1) H2 (e.trans e2) hI2 (by omega) _ fun xs H3 e3 hI3 ⟨ds, hp, hxs⟩ =>
    q (x :: xs) H3 (e2.trans e3) (by rw [show n + (c1 + c2) = n + c1 + c2 by omega]; exact hI3) ⟨d :: ds, ⟨d, ds, rfl, p, hp⟩, .cons (Da.mono hx e3) hxs⟩
theorem jx_call {rel : List PyData → PyData → Prop} {E : XK} {t : TA} {θ : List PyData → Prop} (h : JAX K W t σ H c θ) (hr : ∀ ds, θ ds → ∃ r, rel ds r ∧ noL r = true ∧ ψ r) : JX K W (tCall (spPure K rel) [] E t) σ H c ψ := fun n H1 e hI hb Q q =>
  h n H1 e hI hb _ fun vs H2 e2 hI2 ⟨ds, hp, hv⟩ => by
    obtain ⟨r, h1, h2, h3⟩ := hr ds hp
    exact ⟨ds, r, by rw [List.append_nil]; exact DaL.dp hv, h1, fun v H' s hd => q v H' (e2.trans (.of s)) (W.st s hI2) ⟨r, h3, da_of (W.st s hI2) h2 hd⟩⟩
theorem st_unl3 {i j k : Nat} (hI : W.I n H) (h : JXl K W te σ H c ψ 3) (hc : n + c ≤ BIG)
    (kk : ∀ x y z d1 d2 d3 H1, ψ d1 → ψ d2 → ψ d3 → Da K W H1 x d1 → Da K W H1 y d2 → Da K W H1 z d3 → ExM W.M H H1 → W.I (n + c) H1 → D.nx (((σ.set i (some x)).set j (some y)).set k (some z)) H1) :
    tAsg te (gUnl K 3 (gCons (gName i) (gCons (gName j) (gCons (gName k) gNil)))) D σ H := h n H ExM.refl hI hc _ fun v H1 e hI1 ⟨ds, hl, hp, hv⟩ => by
  match ds, hl, hp, hv with
  | [d1, d2, d3], _, hp, hv =>
    refine gUnl_of (W := W) hv rfl fun xs hx => ?_
    obtain ⟨x, y, z, rfl, h1, h2, h3⟩ := dal3 (W := W) hx
    exact ⟨x, _, rfl, y, _, rfl, z, _, rfl, rfl, kk x y z d1 d2 d3 H1 (hp _ (by simp)) (hp _ (by simp)) (hp _ (by simp)) h1 h2 h3 e hI1⟩
/-- if bad: return False, where nothing is bad -/
theorem st_ifF {tt : TT} {ts : TS} {b : Bool} (hI : W.I n H) (h : JB K W tt σ H c b) (hb : b = false) (hc : c = 0) (hn : n ≤ BIG) (k : ∀ H1, ExM W.M H H1 → W.I n H1 → D.nx σ H1) : tIfS tt ts tNext D σ H := by
  subst hb hc
  exact st_if hI h hn (fun e => by cases e) (fun _ H1 e hI1 => k H1 e hI1)
theorem st_setW {i : Nat} (hI : W.I n H) (h : JD K W te σ H c d) (hc : c = 0) (hn : n ≤ BIG) (k : ∀ v H1, ExM W.M H H1 → W.I n H1 → Da K W H1 v d → D.nx (σ.set i (some v)) H1) : tAsg te (gName i) D σ H := by
  subst hc
  exact st_set hI h hn k
theorem ji_ofX (h : JX K W te σ H c ψ) (p : ∀ d, ψ d → ∃ i, d = .int i ∧ φ i) : JI W te σ H c φ := h.imp fun v H2 ⟨d, q, hv⟩ => by
  obtain ⟨i, rfl, hi⟩ := p d q
  exact ⟨i, Da.int hv, hi⟩
theorem ji_drawX {B : Int} {E : XK} {i : Nat} {tm : TE} {b cc : Addr} (hb : σ[i]? = some (some (.ref b))) (hm : JI (satW b cc) tm σ H c φ) (h0 : ∀ m, φ m → 0 < m ∧ m < 536870912 ∧ m ≤ B) :
    JI (satW b cc) (tCall spDraw [] E (tCons (tVar i) (tCons tm tNil))) σ H (c + 1) (fun i => 0 ≤ i ∧ i < B) := fun n H1 e hI hn Q q =>
  ⟨.ref b, hb, hm n H1 e hI (by omega) _ fun x H2 e2 hI2 ⟨m, hx, pm⟩ => by
    obtain ⟨h1, h2, h3⟩ := h0 m pm
    refine ⟨b, cc, n + c, m, by rw [hx]; rfl, show Sat b cc (n + c) H2 from hI2, by omega, h1, h2, fun k H' k0 k1 eM hS => q _ H' (e2.trans eM) (show Sat b cc (n + (c + 1)) H' from hS) ⟨k, rfl, k0, by omega⟩⟩⟩
end Jl

set_option Elab.async false
set_option linter.all false
/-! rows of steps, chance's shares, first shares -/
namespace Jl
open PySem L2
/-- how many rows of t steps end at x -/
def wk : Nat → Int → Int
  | 0, x => if x = 0 then 1 else 0
  | t + 1, x => wk t (x - 1) + wk t (x + 1)
theorem wk_nonneg : ∀ (t : Nat) (x : Int), 0 ≤ wk t x
  | 0, x => by unfold wk; split <;> omega
  | t + 1, x => by have h1 := wk_nonneg t (x - 1); have h2 := wk_nonneg t (x + 1); unfold wk; omega
theorem wk_le : ∀ (t : Nat) (x : Int), wk t x ≤ 2 ^ t
  | 0, x => by unfold wk; split <;> simp
  | t + 1, x => by have h1 := wk_le t (x - 1); have h2 := wk_le t (x + 1); unfold wk; rw [Int.pow_succ]; omega
theorem wk_far : ∀ (t : Nat) (x : Int), (t : Int) < x ∨ x < -(t : Int) → wk t x = 0
  | 0, x, h => by unfold wk; rw [if_neg (by omega)]
  | t + 1, x, h => by unfold wk; rw [wk_far t (x - 1) (by omega), wk_far t (x + 1) (by omega)]; rfl
theorem wk_par : ∀ (t : Nat) (x : Int), (x + t) % 2 = 1 → wk t x = 0
  | 0, x, h => by unfold wk; rw [if_neg (by omega)]
  | t + 1, x, h => by unfold wk; rw [wk_par t (x - 1) (by omega), wk_par t (x + 1) (by omega)]; rfl
theorem wk_neg : ∀ (t : Nat) (x : Int), wk t (-x) = wk t x
  | 0, x => by unfold wk; by_cases h : x = 0 <;> simp [h]
  | t + 1, x => by
    unfold wk
    rw [show -x - 1 = -(x + 1) by omega, show -x + 1 = -(x - 1) by omega, wk_neg t (x + 1), wk_neg t (x - 1), Int.add_comm]
/-- neighbours of one colour -/
theorem wk_ratio : ∀ (t : Nat) (x : Int), (t - x) * wk t x = (t + x + 2) * wk t (x + 2)
  | 0, x => by
    unfold wk
    by_cases h : x = 0
    · subst h; simp
    · by_cases h2 : x + 2 = 0
      · rw [if_neg h, if_pos h2]; have : x = -2 := by omega
        subst this; decide
      · rw [if_neg h, if_neg h2]; simp
  | t + 1, x => by
    have h1 := wk_ratio t (x - 1)
    have h2 := wk_ratio t (x + 1)
    rw [show x - 1 + 2 = x + 1 by omega] at h1
    rw [show x + 1 + 2 = x + 3 by omega] at h2
    unfold wk
    rw [show x + 2 - 1 = x + 1 by omega, show x + 2 + 1 = x + 3 by omega]
    have e : ((t + 1 : Nat) : Int) = (t : Int) + 1 := by omega
    rw [e]
    grind
/-- how many of them come to d at the last step, and not before -/
def fp : Nat → Nat → Int
  | 0, 0 => 1
  | 0, _ + 1 => 0
  | _ + 1, 0 => 0
  | t + 1, d + 1 => fp t d + fp t (d + 2)
theorem fp_nonneg : ∀ (t d : Nat), 0 ≤ fp t d
  | 0, 0 => by decide
  | 0, _ + 1 => by simp [fp]
  | _ + 1, 0 => by simp [fp]
  | t + 1, d + 1 => by have h1 := fp_nonneg t d; have h2 := fp_nonneg t (d + 2); simp only [fp]; omega
theorem fp_le : ∀ (t d : Nat), fp t d ≤ 2 ^ t
  | 0, 0 => by decide
  | 0, _ + 1 => by simp [fp]
  | t + 1, 0 => by simp only [fp]; exact Int.le_of_lt (Int.pow_pos (by decide))
  | t + 1, d + 1 => by have h1 := fp_le t d; have h2 := fp_le t (d + 2); simp only [fp]; rw [Int.pow_succ]; omega
theorem fp_far : ∀ (t d : Nat), t < d → fp t d = 0
  | 0, 0, h => by omega
  | 0, _ + 1, _ => by simp [fp]
  | _ + 1, 0, h => by omega
  | t + 1, d + 1, h => by simp only [fp]; rw [fp_far t d (by omega), fp_far t (d + 2) (by omega)]; rfl
theorem fp_self : ∀ (n : Nat), fp n n = 1
  | 0 => rfl
  | n + 1 => by simp only [fp]; rw [fp_self n, fp_far n (n + 2) (by omega)]; rfl
/-- the ballot's rule -/
theorem fp_wk : ∀ (t d : Nat), (t : Int) * fp t d = d * wk t d
  | 0, 0 => by simp [fp, wk]
  | 0, d + 1 => by
    simp only [fp, wk]
    rw [if_neg (by omega)]; simp
  | t + 1, 0 => by simp [fp]
  | t + 1, d + 1 => by
    have h1 := fp_wk t d
    have h2 := fp_wk t (d + 2)
    have h3 := wk_ratio t d
    simp only [fp, wk]
    have e1 : ((d + 1 : Nat) : Int) - 1 = d := by omega
    have e2 : ((d + 1 : Nat) : Int) + 1 = (d : Int) + 2 := by omega
    rw [e1, e2]
    have e3 : ((d + 2 : Nat) : Int) = (d : Int) + 2 := by omega
    rw [e3] at h2
    have e4 : ((t + 1 : Nat) : Int) = (t : Int) + 1 := by omega
    have e5 : ((d + 1 : Nat) : Int) = (d : Int) + 1 := by omega
    rw [e4, e5]
    rcases Nat.eq_zero_or_pos t with h0 | h0
    · subst h0
      cases d with
      | zero => simp [fp, wk]
      | succ d => 
        simp only [fp, wk]
        rw [if_neg (by omega), if_neg (by omega)]; simp
    · have hz : (t : Int) ≠ 0 := by omega
      refine Int.eq_of_mul_eq_mul_left hz ?_
      grind
/-- to be there: to come there first, and to be there again -/
def conv (t d : Nat) : Nat → Int
  | 0 => 0
  | n + 1 => conv t d n + fp n d * wk (t - n) 0
theorem conv_zero (t : Nat) : ∀ n, conv t 0 (n + 1) = wk t 0
  | 0 => by simp [conv, fp]
  | n + 1 => by
    have ih := conv_zero t n
    show conv t 0 (n + 1) + fp (n + 1) 0 * wk (t - (n + 1)) 0 = _
    rw [ih]; simp [fp]
theorem conv_step (t d : Nat) : ∀ n, n ≤ t + 1 → conv (t + 1) (d + 1) (n + 1) = conv t d n + conv t (d + 2) n
  | 0, _ => by simp [conv, fp]
  | n + 1, h => by
    have ih := conv_step t d n (by omega)
    show conv (t + 1) (d + 1) (n + 1) + fp (n + 1) (d + 1) * wk (t + 1 - (n + 1)) 0 = (conv t d n + fp n d * wk (t - n) 0) + (conv t (d + 2) n + fp n (d + 2) * wk (t - n) 0)
    rw [ih, show t + 1 - (n + 1) = t - n by omega]
    simp only [fp]
    grind
theorem conv_eq : ∀ (t d : Nat), conv t d (t + 1) = wk t d
  | t, 0 => conv_zero t t
  | 0, d + 1 => by
    simp only [conv, fp, wk]
    rw [if_neg (by omega)]; simp
  | t + 1, d + 1 => by
    rw [conv_step t d (t + 1) (by omega), conv_eq t d, conv_eq t (d + 2)]
    simp only [wk]
    rw [show ((d + 1 : Nat) : Int) - 1 = (d : Int) by omega, show ((d + 1 : Nat) : Int) + 1 = ((d + 2 : Nat) : Int) by omega]

/-! choices -/
def ch : Nat → Nat → Int
  | _, 0 => 1
  | 0, _ + 1 => 0
  | n + 1, k + 1 => ch n k + ch n (k + 1)
theorem ch_nonneg : ∀ (n k : Nat), 0 ≤ ch n k
  | 0, 0 => by simp [ch]
  | _ + 1, 0 => by simp [ch]
  | 0, _ + 1 => by simp [ch]
  | n + 1, k + 1 => by have h1 := ch_nonneg n k; have h2 := ch_nonneg n (k + 1); simp only [ch]; omega
theorem ch_le : ∀ (n k : Nat), ch n k ≤ 2 ^ n
  | 0, 0 => by simp [ch]
  | n + 1, 0 => by
    simp only [ch]
    have : (0 : Int) < 2 ^ (n + 1) := Int.pow_pos (by decide)
    omega
  | 0, _ + 1 => by simp [ch]
  | n + 1, k + 1 => by have h1 := ch_le n k; have h2 := ch_le n (k + 1); simp only [ch]; rw [Int.pow_succ]; omega
theorem ch_zero (n : Nat) : ch n 0 = 1 := by cases n <;> rfl
theorem ch_step : ∀ (n k : Nat), ch n (k + 1) * (k + 1) = ch n k * (n - k)
  | 0, 0 => by simp [ch]
  | 0, k + 1 => by simp [ch]
  | n + 1, 0 => by
    have ih := ch_step n 0
    rw [ch_zero] at ih
    simp only [ch]
    have e : ((n + 1 : Nat) : Int) = (n : Int) + 1 := by omega
    rw [e]
    simp at ih ⊢
    omega
  | n + 1, k + 1 => by
    have h1 := ch_step n k
    have h2 := ch_step n (k + 1)
    simp only [ch]
    have e : ((n + 1 : Nat) : Int) = (n : Int) + 1 := by omega
    have e2 : ((k + 1 : Nat) : Int) = (k : Int) + 1 := by omega
    rw [e2] at h2
    rw [e, e2]
    grind
theorem ch_div (n k : Nat) : ch n k * (n - k) / (k + 1) = ch n (k + 1) := by
  rw [← ch_step]
  exact Int.mul_ediv_cancel _ (by omega)
theorem wk_ch : ∀ (t j : Nat), wk t (2 * j - t) = ch t j
  | 0, 0 => by simp [wk, ch]
  | 0, j + 1 => by simp only [wk, ch]; rw [if_neg (by omega)]
  | t + 1, 0 => by
    simp only [wk]
    rw [wk_far t _ (by omega), show (2 * ((0 : Nat) : Int) - ((t + 1 : Nat) : Int) + 1) = 2 * ((0 : Nat) : Int) - t by omega, wk_ch t 0, ch_zero, ch_zero]; rfl
  | t + 1, j + 1 => by
    simp only [wk, ch]
    rw [show (2 * ((j + 1 : Nat) : Int) - ((t + 1 : Nat) : Int) - 1) = 2 * (j : Int) - t by omega, show (2 * ((j + 1 : Nat) : Int) - ((t + 1 : Nat) : Int) + 1) = 2 * ((j + 1 : Nat) : Int) - t by omega, wk_ch t j, wk_ch t (j + 1)]
/-- rows_to by choices -/
theorem wk_rows (t : Nat) (x : Int) (h1 : ¬ ((t : Int) < (if x < 0 then -x else x))) (h2 : ¬ (x + t) % 2 = 1) : ch t (((t - (if x < 0 then -x else x)) / 2).toNat) = wk t x := by
  have key : ∀ y : Int, 0 ≤ y → y ≤ t → (y + t) % 2 = 0 → ch t ((((t : Int) - y) / 2).toNat) = wk t y := fun y a b c => by
    rw [← wk_ch, ← wk_neg t y]
    congr 1
    omega
  by_cases hx : x < 0
  · rw [if_pos hx] at h1 ⊢
    rw [key (-x) (by omega) (by omega) (by omega), wk_neg]
  · rw [if_neg hx] at h1 ⊢
    exact key x (by omega) (by omega) (by omega)

/-! shares as fractions -/
def PP (t : Nat) (x : Int) : Rat := Rat.divInt (wk t x) (2 ^ t)
def FF (t d : Nat) : Rat := Rat.divInt (fp t d) (2 ^ t)
theorem pow2_ne (t : Nat) : (2 : Int) ^ t ≠ 0 := by
  have : (0 : Int) < 2 ^ t := Int.pow_pos (by decide)
  omega
theorem pow2_abs (t : Nat) : ((2 : Int) ^ t).natAbs = 2 ^ t := by rw [Int.natAbs_pow]; rfl
theorem pow2_lt {t : Nat} (h : t ≤ 400) : ((2 : Int) ^ t).natAbs < 2 ^ 8999 := by
  rw [pow2_abs]; exact Nat.pow_lt_pow_right (by decide) (by omega)
theorem pow2_mul_lt {t : Nat} (h : t ≤ 400) : ((t : Int) * 2 ^ t).natAbs < 2 ^ 8999 := by
  rw [Int.natAbs_mul, pow2_abs]
  have h1 : (t : Int).natAbs < 2 ^ 400 := by
    rw [Int.natAbs_natCast]; exact Nat.lt_of_le_of_lt h (by decide)
  exact Nat.lt_of_lt_of_le (Nat.mul_lt_mul'' h1 (Nat.pow_lt_pow_right (by decide) (show t < 401 by omega))) (by rw [← Nat.pow_add]; exact Nat.pow_le_pow_right (by decide) (by decide))
theorem FF_far {t d : Nat} (h : t < d) : FF t d = 0 := by unfold FF; rw [fp_far t d h, Rat.zero_divInt]
theorem FF_eq {t d : Nat} (h : t ≠ 0) : Rat.divInt (d * wk t d) (t * 2 ^ t) = FF t d := by
  unfold FF
  rw [← fp_wk, Rat.divInt_mul_left (by omega)]
theorem pw_le {z : Int} {t : Nat} (h0 : 0 ≤ z) (h : z ≤ 2 ^ t) : Bd (Rat.divInt z (2 ^ t)) (t + 1) := by
  have hb := num_le z (2 ^ t) (Int.pow_pos (by decide))
  have h2 : z.natAbs ≤ 2 ^ t := by
    have h3 := pow2_abs t
    omega
  have hp : 2 ^ t < 2 ^ (t + 1) := by rw [Nat.pow_succ]; have : 0 < 2 ^ t := Nat.pow_pos (by decide); omega
  exact ⟨by omega, by have := pow2_abs t; omega⟩
theorem bd_PP (t : Nat) (x : Int) : Bd (PP t x) (t + 1) := pw_le (wk_nonneg t x) (wk_le t x)
theorem bd_FF (t d : Nat) : Bd (FF t d) (t + 1) := pw_le (fp_nonneg t d) (fp_le t d)

/-! rising, then falling: what greatest_in finds -/
def ts (x m : Nat) : List Nat := (List.range (((m : Int) + 2 - x) / 2).toNat).map fun k => x + 2 * k
def fs (x m : Nat) : List Rat := (ts x m).map fun t => FF t x
def gr : Rat → List Rat → Rat
  | f, [] => f
  | f, y :: ys => if y < f then f else gr y ys
def rows (m : Nat) : List Rat := (List.range m).map fun k => gr 0 (fs (k + 1) m)
theorem ts_le {x m t : Nat} (h : t ∈ ts x m) : x ≤ t ∧ t ≤ m := by
  unfold ts at h
  obtain ⟨k, hk, rfl⟩ := List.mem_map.mp h
  rw [List.mem_range] at hk
  omega
theorem gr_mem : ∀ (f : Rat) (l : List Rat), gr f l = f ∨ gr f l ∈ l
  | f, [] => .inl rfl
  | f, y :: ys => by
    unfold gr
    split
    · exact .inl rfl
    · rcases gr_mem y ys with h | h
      · right; rw [h]; exact List.mem_cons_self ..
      · right; exact List.mem_cons_of_mem _ h
theorem gr_ge : ∀ (f : Rat) (l : List Rat), f ≤ gr f l
  | f, [] => Rat.le_refl
  | f, y :: ys => by
    unfold gr
    split
    · exact Rat.le_refl
    · rename_i h
      exact Rat.le_trans (Rat.not_lt.mp h) (gr_ge y ys)
theorem gr_more : ∀ (f : Rat) (l r : List Rat), gr f l ≤ gr f (l ++ r)
  | f, [], r => gr_ge f r
  | f, y :: ys, r => by
    show (if y < f then f else gr y ys) ≤ (if y < f then f else gr y (ys ++ r))
    split
    · exact Rat.le_refl
    · exact gr_more y ys r
theorem bd_gr {x m : Nat} : Bd (gr 0 (fs x m)) (m + 1) := by
  rcases gr_mem 0 (fs x m) with h | h
  · rw [h]; exact bd_0.mono (by omega)
  · obtain ⟨t, ht, e⟩ := List.mem_map.mp h
    rw [← e]
    exact (bd_FF t x).mono (by have := ts_le ht; omega)
theorem ts_more (x m : Nat) : ∃ r, ts x (m + 1) = ts x m ++ r := by
  unfold ts
  obtain ⟨k, hk⟩ : ∃ k, ((((m + 1 : Nat) : Int) + 2 - x) / 2).toNat = (((m : Int) + 2 - x) / 2).toNat + k := ⟨((((m + 1 : Nat) : Int) + 2 - x) / 2).toNat - (((m : Int) + 2 - x) / 2).toNat, by omega⟩
  rw [hk, List.range_add, List.map_append]
  exact ⟨_, rfl⟩
theorem rows_more (k m : Nat) : gr 0 (fs k m) ≤ gr 0 (fs k (m + 1)) := by
  obtain ⟨r, e⟩ := ts_more k m
  unfold fs
  rw [e, List.map_append]
  exact gr_more _ _ _
theorem bd_sum {B : Nat} : ∀ (qs : List Rat), (∀ q ∈ qs, Bd q B) → Bd qs.sum (qs.length * (B + 1) + 1)
  | [], _ => bd_0.mono (by omega)
  | q :: qs, h => by
    rw [List.sum_cons]
    exact ((h q (List.mem_cons_self ..)).add (bd_sum qs fun x hx => h x (List.mem_cons_of_mem _ hx))).mono (by rw [List.length_cons, Nat.succ_mul]; omega)
theorem rows_bd {m : Nat} {q : Rat} (h : q ∈ rows m) : Bd q (m + 1) := by
  obtain ⟨k, _, rfl⟩ := List.mem_map.mp h
  exact bd_gr
theorem rows_len (m : Nat) : (rows m).length = m := by simp [rows]
theorem rows_take {m : Nat} (h : m ≤ 60) (k : Nat) : Bd ((rows m).take k).sum 4000 := by
  refine (bd_sum _ fun q hq => rows_bd (List.mem_of_mem_take hq)).mono ?_
  have h1 : ((rows m).take k).length ≤ m := by rw [List.length_take, rows_len]; omega
  have h2 : ((rows m).take k).length * (m + 1 + 1) ≤ 60 * 62 := Nat.mul_le_mul (by omega) (by omega)
  omega
theorem take_sum {qs : List Rat} {i : Nat} {q : Rat} (h : qs[i]? = some q) : (qs.take (i + 1)).sum = (qs.take i).sum + q := by
  rw [List.take_add_one, h]
  simp [List.sum_append, Rat.add_zero]
theorem rgc2 {a b : Int} (h0 : 0 ≤ a) (h1 : a ≤ 1000) (h2 : 0 ≤ b) (h3 : b ≤ 1000) : RgC a b 2 ((b + 1 - a) / 2).toNat := by
  have e : Builtin.Range.rangeSize a b 2 = (((b + 1 - a) / 2).toNat : Int) := by
    unfold Builtin.Range.rangeSize
    rw [if_pos (by decide)]
    split <;> omega
  refine ⟨by decide, by decide, ?_, e⟩
  unfold Builtin.Range.small
  rw [e]
  simp only [Builtin.Range.rangeFitsLong, Bool.and_eq_true, Bool.or_eq_true, decide_eq_true_eq, beq_iff_eq, show (2 : Int) > 0 by decide, if_true]
  omega
/-- the rows of shares_to -/
def shD (x m : Nat) : List PyData := (ts x m).map fun (t : Nat) => PyData.tuple [.int (t : Int), frD (FF t x)]
def fstD (d : PyData) : PyData := match itemsD d with
  | [a, _] => a
  | _ => .none
def sndD (d : PyData) : PyData := match itemsD d with
  | [_, b] => b
  | _ => .none
def natD (d : PyData) : Nat := match d with
  | .int i => i.toNat
  | _ => 0
def btk (x m : Nat) : List Nat := (ts x m).filter fun t => decide (FF t x = gr 0 (fs x m))

/-! k24 -/
def half : Rat := ⟨1, 2, by decide, by decide⟩
theorem isFr_12 : isFr (.tuple [.int 1, .int 2]) half := ⟨rfl, rfl⟩
theorem bd_half : Bd half 2 := ⟨by decide, by decide⟩
theorem half_eq : half = Rat.divInt 1 2 := by decide
theorem half_FF (u y : Nat) : half * (FF u (y + 2) + FF u y) = FF (u + 1) (y + 1) := by
  unfold FF
  have h2 := pow2_ne u
  rw [Rat.divInt_add_divInt _ _ h2 h2, half_eq, Rat.divInt_mul_divInt]
  rw [show (1 : Int) * (fp u (y + 2) * 2 ^ u + fp u y * 2 ^ u) = 2 ^ u * fp (u + 1) (y + 1) by simp only [fp]; grind, show (2 : Int) * (2 ^ u * 2 ^ u) = 2 ^ u * 2 ^ (u + 1) by rw [Int.pow_succ]; grind]
  rw [Rat.divInt_mul_left h2]
theorem FF_00 (u : Nat) : FF u 0 = if u = 0 then 1 else 0 := by
  cases u with
  | zero => rfl
  | succ u => rw [if_neg (by omega)]; unfold FF; simp [fp]
def CC (t d n : Nat) : Rat := Rat.divInt (conv t d n) (2 ^ t)
theorem conv_low (t d : Nat) : ∀ n, n ≤ d → conv t d n = 0
  | 0, _ => rfl
  | n + 1, h => by
    show conv t d n + fp n d * wk (t - n) 0 = 0
    rw [conv_low t d n (by omega), fp_far n d (by omega)]; simp
theorem conv_nonneg (t d : Nat) : ∀ n, 0 ≤ conv t d n
  | 0 => by simp [conv]
  | n + 1 => by
    have h1 := conv_nonneg t d n
    have h2 := Int.mul_nonneg (fp_nonneg n d) (wk_nonneg (t - n) 0)
    show 0 ≤ conv t d n + fp n d * wk (t - n) 0
    omega
theorem conv_mono (t d : Nat) {n m : Nat} (h : n ≤ m) : conv t d n ≤ conv t d m := by
  induction h with
  | refl => exact Int.le_refl _
  | step _ ih =>
    rename_i m _
    have h2 := Int.mul_nonneg (fp_nonneg m d) (wk_nonneg (t - m) 0)
    show _ ≤ conv t d m + fp m d * wk (t - m) 0
    omega
theorem bd_CC {t d n : Nat} (h : n ≤ t + 1) : Bd (CC t d n) (t + 1) := by
  refine pw_le (conv_nonneg t d n) ?_
  have h1 := conv_mono t d h
  rw [conv_eq] at h1
  exact Int.le_trans h1 (wk_le t d)
theorem CC_step {t d n : Nat} (h : n ≤ t) : CC t d n + FF n d * PP (t - n) 0 = CC t d (n + 1) := by
  unfold CC FF PP
  have h2 := pow2_ne t
  have e : (2 : Int) ^ n * 2 ^ (t - n) = 2 ^ t := by rw [← Int.pow_add]; congr 1; omega
  rw [Rat.divInt_mul_divInt, e, Rat.divInt_add_divInt _ _ h2 h2]
  show Rat.divInt (conv t d n * 2 ^ t + fp n d * wk (t - n) 0 * 2 ^ t) (2 ^ t * 2 ^ t) = Rat.divInt (conv t d n + fp n d * wk (t - n) 0) (2 ^ t)
  rw [← Int.add_mul, Rat.divInt_mul_right h2]
theorem CC_end (t d : Nat) : CC t d (d + (t + 1 - d)) = PP t d := by
  unfold CC PP
  by_cases h : d ≤ t + 1
  · rw [show d + (t + 1 - d) = t + 1 by omega, conv_eq]
  · rw [show d + (t + 1 - d) = d by omega, conv_low t d d (Nat.le_refl _), wk_far t d (by omega)]
theorem CC_start (t d : Nat) : CC t d d = 0 := by unfold CC; rw [conv_low t d d (Nat.le_refl _), Rat.zero_divInt]
theorem FF_self (n : Nat) : frD (FF n n) = .tuple [.int 1, .int (2 ^ n)] := by
  unfold frD frL FF
  have h0 : (0 : Int) < 2 ^ n := Int.pow_pos (by decide)
  rw [fp_self, Rat.num_divInt, Rat.den_divInt, if_neg (pow2_ne n), Int.sign_eq_one_of_pos h0]
  have g : Int.gcd ((2 : Int) ^ n) 1 = 1 := Int.gcd_one_right ..
  rw [g, pow2_abs]
  simp
theorem rows_succ (k : Nat) : ∃ ini, (rows (k + 1)) = ini ++ [FF (k + 1) (k + 1)] := by
  unfold rows
  rw [List.range_succ, List.map_append]
  refine ⟨(List.range k).map fun j => gr 0 (fs (j + 1) (k + 1)), ?_⟩
  congr 1
  show [gr 0 (fs (k + 1) (k + 1))] = _
  have e : fs (k + 1) (k + 1) = [FF (k + 1) (k + 1)] := by
    unfold fs ts
    rw [show ((((k + 1 : Nat) : Int) + 2 - ((k + 1 : Nat) : Int)) / 2).toNat = 1 by omega]; rfl
  rw [e]
  unfold gr
  have h : ¬ FF (k + 1) (k + 1) < 0 := by
    rw [Rat.not_lt]
    unfold FF
    rw [fp_self]
    exact Rat.divInt_nonneg (by decide) (Int.le_of_lt (Int.pow_pos (by decide)))
  rw [if_neg h]; rfl
/-- how the rows grow -/
def grow (k : Nat) : List Rat := List.zipWith (fun a b => 2 * (b - a)) (rows k ++ [0]) (rows (k + 1))
theorem zip_sum : ∀ (xs ys : List Rat), xs.length = ys.length → (List.zipWith (fun a b => 2 * (b - a)) xs ys).sum = 2 * ys.sum - 2 * xs.sum
  | [], [], _ => by simp [Rat.mul_zero, Rat.sub_self]
  | x :: xs, y :: ys, h => by
    have ih := zip_sum xs ys (by simpa using h)
    simp only [List.zipWith_cons_cons, List.sum_cons]
    rw [ih]
    grind
  | [], _ :: _, h => by simp at h
  | _ :: _, [], h => by simp at h
theorem grow_sum (k : Nat) : (grow k).sum = 2 * (rows (k + 1)).sum - 2 * (rows k).sum := by
  unfold grow
  rw [zip_sum _ _ (by simp [rows_len])]
  have : (rows k ++ [0]).sum = (rows k).sum := by simp [List.sum_append, Rat.add_zero]
  rw [this]
theorem sum_nonneg : ∀ (l : List Rat), (∀ x ∈ l, 0 ≤ x) → 0 ≤ l.sum
  | [], _ => Rat.le_refl
  | x :: l, h => by
    rw [List.sum_cons]
    exact Rat.add_nonneg (h x (List.mem_cons_self ..)) (sum_nonneg l fun y hy => h y (List.mem_cons_of_mem _ hy))
theorem rows_at {m i : Nat} (h : i < m) : (rows m)[i]? = some (gr 0 (fs (i + 1) m)) := by
  unfold rows; simp [h]
theorem grow_nonneg (k : Nat) : 0 ≤ (grow k).sum := by
  refine sum_nonneg _ fun x hx => ?_
  unfold grow at hx
  obtain ⟨i, hi⟩ := List.getElem?_of_mem hx
  rw [List.getElem?_zipWith] at hi
  have step : ∀ a b : Rat, a ≤ b → 0 ≤ 2 * (b - a) := fun a b h => Rat.mul_nonneg (by decide) ((Rat.le_iff_sub_nonneg a b).mp h)
  by_cases h1 : i < k
  · have e1 : (rows k ++ [0])[i]? = some (gr 0 (fs (i + 1) k)) := by
      rw [List.getElem?_append_left (by rw [rows_len]; exact h1)]; exact rows_at h1
    rw [e1, rows_at (show i < k + 1 by omega)] at hi
    have e := Option.some.inj hi
    rw [← e]
    exact step _ _ (rows_more (i + 1) k)
  · by_cases h2 : i = k
    · subst h2
      have e1 : (rows i ++ [0])[i]? = some 0 := by
        rw [List.getElem?_append_right (by rw [rows_len]; exact Nat.le_refl _), rows_len]; simp
      rw [e1, rows_at (show i < i + 1 by omega)] at hi
      have e := Option.some.inj hi
      rw [← e]
      exact step _ _ (gr_ge 0 _)
    · have e2 : (rows (k + 1))[i]? = none := List.getElem?_eq_none (by rw [rows_len]; omega)
      rw [e2] at hi
      cases h3 : (rows k ++ [0])[i]? <;> rw [h3] at hi <;> cases hi
theorem grow_bd {k : Nat} {x : Rat} (hx : x ∈ grow k) : Bd x (2 * k + 8) := by
  unfold grow at hx
  obtain ⟨i, hi⟩ := List.getElem?_of_mem hx
  rw [List.getElem?_zipWith] at hi
  cases h1 : (rows k ++ [0])[i]? with
  | none => rw [h1] at hi; cases hi
  | some a =>
    cases h2 : (rows (k + 1))[i]? with
    | none => rw [h1, h2] at hi; cases hi
    | some b =>
      rw [h1, h2] at hi
      have e := Option.some.inj hi
      rw [← e]
      have ha : Bd a (k + 1) := by
        rcases List.mem_append.mp (List.mem_of_getElem? h1) with h | h
        · exact rows_bd h
        · rw [List.mem_singleton.mp h]; exact bd_0.mono (by omega)
      exact (bd_2.mul ((rows_bd (List.mem_of_getElem? h2)).sub ha)).mono (by omega)
theorem grow_len (k : Nat) : (grow k).length = k + 1 := by simp [grow, rows_len]
theorem grow_take {k : Nat} (h : k ≤ 20) (i : Nat) : Bd ((grow k).take i).sum 4000 := by
  refine (bd_sum _ fun q hq => grow_bd (List.mem_of_mem_take hq)).mono ?_
  have h1 : ((grow k).take i).length ≤ k + 1 := by rw [List.length_take, grow_len]; omega
  have h2 : ((grow k).take i).length * (2 * k + 8 + 1) ≤ 21 * 49 := Nat.mul_le_mul (by omega) (by omega)
  omega
def ratD (d : PyData) : Rat := match itemsD d with
  | [.int a, .int b] => Rat.divInt a b
  | _ => 0
theorem ratD_fr (q : Rat) : ratD (frD q) = q := Rat.num_divInt_den q
def growD (d : PyData) : PyData := frD (2 * (ratD (sndD d) - ratD (fstD d)))
def zipWithD (ds es : List PyData) : List PyData := (List.zipWith (fun a b => PyData.tuple [a, b]) ds es).map growD
theorem zipD_frs (xs ys : List Rat) : zipWithD (xs.map frD) (ys.map frD) = (List.zipWith (fun a b => 2 * (b - a)) xs ys).map frD := by
  unfold zipWithD
  induction xs generalizing ys with
  | nil => rfl
  | cons x xs ih =>
    cases ys with
    | nil => rfl
    | cons y ys =>
      simp only [List.map_cons, List.zipWith_cons_cons]
      rw [ih ys]
      congr 1
      show frD (2 * (ratD (frD y) - ratD (frD x))) = _
      rw [ratD_fr, ratD_fr]
end Jl

set_option Elab.async false
set_option linter.all false
set_option maxRecDepth 100000
set_option maxHeartbeats 2000000
/-! what is walked, told by the data that it yields; loops and comprehensions over any such -/
namespace Jl
open PySem PySem.Spec L2
variable {K : PySem.W.Frag} {W : Wd} {σ : St} {H H1 H2 : Hp} {v : V} {d : PyData} {n c c1 c2 : Nat} {te ta tb tl : TE} {D : Ends} {wi : TI} {ds : List PyData} {b1 b2 : Bool}
/-- from H on the iterator J yields ds, one behind another, and stops -/
structure Gives (K : PySem.W.Frag) (W : Wd) (J : It) (H : Hp) (ds : List PyData) : Prop where
  go : ∀ i H', ExM W.M H H' → i < ds.length → J.go i H'
  stop : ∀ H', ExM W.M H H' → J.stop ds.length H'
  yld : ∀ i H' x H'', ExM W.M H H' → (∀ p, W.M p → H' p ≠ none) → i < ds.length → J.yld i H' x H'' → Same H' H'' ∧ ∃ d, ds[i]? = some d ∧ Da K W H'' x d
/-- who yields may ask that nothing that is watched changes: what it makes is new -/
def JIt (K : PySem.W.Frag) (W : Wd) (wi : TI) (σ : St) (H : Hp) (c : Nat) (ds : List PyData) : Prop :=
  ∀ n H1, ExM W.M H H1 → W.I n H1 → n + c ≤ BIG → ∀ R : It → Hp → Prop, (∀ J H2, ExM W.M H1 H2 → W.I (n + c) H2 → Gives K W J H2 ds → R J H2) → wi σ H1 R
theorem SqL.inj {a : Addr} {xs ys : List V} (h1 : SqL K H a xs) (h2 : H a = some (.lst ys)) : True := trivial
theorem JIt.eq {es : List PyData} (h : JIt K W wi σ H c ds) (e : ds = es) : JIt K W wi σ H c es := e ▸ h
theorem JIt.mono (h : JIt K W wi σ H c ds) (e : ExM W.M H H1) : JIt K W wi σ H1 c ds := fun n H2 e2 => h n H2 (e.trans e2)
theorem gives_l {a : Addr} {xs : List V} (hs : LsS K W.M H a xs) (hd : DaL K W H xs ds) : Gives K W (Itl K a) H ds where
  go := fun i H' e hi => by
    have hl := dal_len hd
    have h2 : i < xs.length := by omega
    exact ⟨xs, xs[i], (hs.mono e).sq, List.getElem?_eq_getElem h2⟩
  stop := fun H' e => ⟨xs, (hs.mono e).sq, by have := dal_len hd; omega⟩
  yld := fun i H' x H'' e _ _ ⟨hh, hx⟩ => by
    subst hh
    obtain ⟨d, h1, h2⟩ := dal_get (W := W) hd (hx xs (hs.mono e).sq)
    exact ⟨Same.refl _, d, h1, h2.mono e⟩
theorem gives_t {a : Addr} {xs : List V} (hs : TuS K W.M H a xs) (hd : DaL K W H xs ds) : Gives K W (Itt K a) H ds where
  go := fun i H' e hi => by
    have hl := dal_len hd
    have h2 : i < xs.length := by omega
    exact ⟨xs, xs[i], (hs.mono e).sq, List.getElem?_eq_getElem h2⟩
  stop := fun H' e => ⟨xs, (hs.mono e).sq, by have := dal_len hd; omega⟩
  yld := fun i H' x H'' e _ _ ⟨hh, hx⟩ => by
    subst hh
    obtain ⟨d, h1, h2⟩ := dal_get (W := W) hd (hx xs (hs.mono e).sq)
    exact ⟨Same.refl _, d, h1, h2.mono e⟩
theorem ji_seq {d0 : PyData} (ha : JD K W tl σ H c d0) (hs : isSeq d0 = true) : JIt K W (iSeq K tl) σ H c (itemsD d0) := fun n H1 e hI hn R q => ha n H1 e hI hn _ fun x H2 e2 hI2 hx => by
  cases hx with
  | lst h1 h2 => exact ⟨_, rfl, .inl ⟨⟨_, h1.sq⟩, q _ H2 e2 hI2 (gives_l h1 h2)⟩⟩
  | tup h1 h2 => exact ⟨_, rfl, .inr ⟨⟨_, h1.sq⟩, q _ H2 e2 hI2 (gives_t h1 h2)⟩⟩
  | _ => cases hs
/-- lo, lo + s, .. : m of them -/
def stepsD (lo s : Int) (m : Nat) : List PyData := (List.range m).map fun (k : Nat) => PyData.int (lo + (k : Int) * s)
theorem gives_r {lo : Int} {m : Nat} : Gives K W (Itr lo m) H (stepsD lo 1 m) where
  go := fun i H' e hi => by have : i < m := by simpa [stepsD] using hi
                            exact this
  stop := fun H' e => by
    have : m ≤ (stepsD lo 1 m).length := by simp [stepsD]
    exact this
  yld := fun i H' x H'' e _ hi ⟨hh, hx⟩ => by
    subst hh
    have h2 : i < m := by simpa [stepsD] using hi
    refine ⟨Same.refl _, .int (lo + i), ?_, by rw [hx]; exact DaM.int _⟩
    simp [stepsD, h2]
theorem gives_rc {lo s : Int} {m : Nat} : Gives K W (Itc lo s m) H (stepsD lo s m) where
  go := fun i H' e hi => by have : i < m := by simpa [stepsD] using hi
                            exact this
  stop := fun H' e => by
    have : m ≤ (stepsD lo s m).length := by simp [stepsD]
    exact this
  yld := fun i H' x H'' e _ hi ⟨hh, hx⟩ => by
    subst hh
    have h2 : i < m := by simpa [stepsD] using hi
    refine ⟨Same.refl _, .int (lo + i * s), ?_, by rw [hx]; exact DaM.int _⟩
    simp [stepsD, h2]
theorem ji_r1 {ta : TA} {hi : Int} (h : JDA K W ta σ H c [.int hi]) (hb : -(2 ^ 62) ≤ hi ∧ hi < 2 ^ 62) : JIt K W (iRng1 ta) σ H c (stepsD 0 1 hi.toNat) := fun n H1 e hI hn R q => h n H1 e hI hn _ fun vs H2 e2 hI2 hv => by
  obtain ⟨x, rfl, hx⟩ := dal1 hv
  exact ⟨hi, by rw [hx.int], hb.1, hb.2, q _ H2 e2 hI2 gives_r⟩
theorem ji_r2 {ta : TA} {lo hi : Int} (h : JDA K W ta σ H c [.int lo, .int hi]) (hb : -(2 ^ 62) ≤ lo ∧ lo < 2 ^ 62 ∧ -(2 ^ 62) ≤ hi ∧ hi < 2 ^ 62) : JIt K W (iRng2 ta) σ H c (stepsD lo 1 (hi - lo).toNat) := fun n H1 e hI hn R q => h n H1 e hI hn _ fun vs H2 e2 hI2 hv => by
  obtain ⟨x, y, rfl, hx, hy⟩ := dal2 hv
  exact ⟨lo, hi, by rw [hx.int, hy.int], hb, q _ H2 e2 hI2 gives_r⟩
theorem ji_r3 {ta : TA} {lo hi s : Int} {m : Nat} (h : JDA K W ta σ H c [.int lo, .int hi, .int s]) (hb : RgC lo hi s m) : JIt K W (iRng3 ta) σ H c (stepsD lo s m) := fun n H1 e hI hn R q => h n H1 e hI hn _ fun vs H2 e2 hI2 hv => by
  obtain ⟨x, y, z, rfl, hx, hy, hz⟩ := dal3 hv
  exact ⟨lo, hi, s, m, by rw [hx.int, hy.int, hz.int], hb, q _ H2 e2 hI2 gives_rc⟩
/-- pairs of two lists, of two tuples -/
def zipD (ds es : List PyData) : List PyData := List.zipWith (fun a b => .tuple [a, b]) ds es
theorem gives_zt {a b : Addr} {xs ys : List V} {es : List PyData} (hs : TuS K W.M H a xs) (hd : DaL K W H xs ds) (hs2 : TuS K W.M H b ys) (hd2 : DaL K W H ys es) : Gives K W (RZ.ItzT K a b) H (zipD ds es) where
  go := fun i H' e hi => by
    have h1 := dal_len hd; have h2 := dal_len hd2
    have h3 : i < ds.length ∧ i < es.length := by simp [zipD, List.length_zipWith] at hi; omega
    have hx : i < xs.length := by omega
    have hy : i < ys.length := by omega
    exact ⟨xs, ys, xs[i], ys[i], (hs.mono e).sq, (hs2.mono e).sq, List.getElem?_eq_getElem hx, List.getElem?_eq_getElem hy⟩
  stop := fun H' e => ⟨xs, ys, (hs.mono e).sq, (hs2.mono e).sq, by
    have h1 := dal_len hd; have h2 := dal_len hd2
    simp [zipD, List.length_zipWith]; omega⟩
  yld := fun i H' x H'' e hM hi ⟨T, x1, y1, ex, hT, eH, hx, hy⟩ => by
    subst ex eH
    obtain ⟨d, h1, h2⟩ := dal_get (W := W) hd (hx xs (hs.mono e).sq)
    obtain ⟨d2, h3, h4⟩ := dal_get (W := W) hd2 (hy ys (hs2.mono e).sq)
    have s := same_new (o := .tup [x1, y1]) hT
    refine ⟨s, .tuple [d, d2], ?_, da_tup (fun m => hM T m hT) upd_same (.cons ((h2.mono e).mono (.of s)) (.cons ((h4.mono e).mono (.of s)) .nil))⟩
    simp only [zipD, List.getElem?_zipWith, h1, h3]
theorem gives_zl {a b : Addr} {xs ys : List V} {es : List PyData} (hs : LsS K W.M H a xs) (hd : DaL K W H xs ds) (hs2 : LsS K W.M H b ys) (hd2 : DaL K W H ys es) : Gives K W (L2.Itz K a b) H (zipD ds es) where
  go := fun i H' e hi => by
    have h1 := dal_len hd; have h2 := dal_len hd2
    have h3 : i < ds.length ∧ i < es.length := by simp [zipD, List.length_zipWith] at hi; omega
    have hx : i < xs.length := by omega
    have hy : i < ys.length := by omega
    exact ⟨xs, ys, xs[i], ys[i], (hs.mono e).sq, (hs2.mono e).sq, List.getElem?_eq_getElem hx, List.getElem?_eq_getElem hy⟩
  stop := fun H' e => ⟨xs, ys, (hs.mono e).sq, (hs2.mono e).sq, by
    have h1 := dal_len hd; have h2 := dal_len hd2
    simp [zipD, List.length_zipWith]; omega⟩
  yld := fun i H' x H'' e hM hi ⟨T, x1, y1, ex, hT, eH, hx, hy⟩ => by
    subst ex eH
    obtain ⟨d, h1, h2⟩ := dal_get (W := W) hd (hx xs (hs.mono e).sq)
    obtain ⟨d2, h3, h4⟩ := dal_get (W := W) hd2 (hy ys (hs2.mono e).sq)
    have s := same_new (o := .tup [x1, y1]) hT
    refine ⟨s, .tuple [d, d2], ?_, da_tup (fun m => hM T m hT) upd_same (.cons ((h2.mono e).mono (.of s)) (.cons ((h4.mono e).mono (.of s)) .nil))⟩
    simp only [zipD, List.getElem?_zipWith, h1, h3]

theorem ji_zip {t : TA} {d1 d2 : PyData} (h : JDA K W t σ H c [d1, d2]) (hs : (isLst d1 = true ∧ isLst d2 = true) ∨ (isTup d1 = true ∧ isTup d2 = true)) : JIt K W (RZ.iZipA K t) σ H c (zipD (itemsD d1) (itemsD d2)) := fun n H1 e hI hn R q => h n H1 e hI hn _ fun vs H2 e2 hI2 hv => by
  obtain ⟨x, y, rfl, hx, hy⟩ := dal2 hv
  rcases hs with ⟨z1, z2⟩ | ⟨z1, z2⟩
  · cases hx with
    | lst h1 h2 =>
      cases hy with
      | lst h3 h4 => exact ⟨_, _, _, _, rfl, .inl ⟨h1.sq, h3.sq, q _ H2 e2 hI2 (gives_zl h1 h2 h3 h4)⟩⟩
      | _ => cases z2
    | _ => cases z1
  · cases hx with
    | tup h1 h2 =>
      cases hy with
      | tup h3 h4 => exact ⟨_, _, _, _, rfl, .inr ⟨h1.sq, h3.sq, q _ H2 e2 hI2 (gives_zt h1 h2 h3 h4)⟩⟩
      | _ => cases z2
    | _ => cases z1

/-! targets -/
/-- what a target does with an item that is the data d: the slots are as G says -/
def Tgt (K : PySem.W.Frag) (W : Wd) (g : TG) (σ : St) (G : PyData → Hp → St → Prop) : Prop := ∀ d x H (Q : St → Hp → Prop), Da K W H x d → (∀ σ2, G d H σ2 → Q σ2 H) → g x σ H Q
theorem tgt_name {i : Nat} : Tgt K W (gName i) σ (fun d H σ2 => ∃ x, Da K W H x d ∧ σ2 = σ.set i (some x)) := fun d x H Q hx q => q _ ⟨x, hx, rfl⟩
/-! a loop -/
theorem st_forI {g : TG} {tb : TS} {G : St → PyData → Hp → St → Prop} (hI : W.I n H) (h : JIt K W wi σ H c ds) (hc : n + c ≤ BIG) (Pv : Hp → Nat → St → Hp → Prop)
    (hg : ∀ (i : Nat) (d : PyData) H1 σ' H', ds[i]? = some d → Pv H1 i σ' H' → ∀ x H'' (Q : St → Hp → Prop), Same H' H'' → Da K W H'' x d → (∀ σ2, G σ' d H'' σ2 → Q σ2 H'') → g x σ' H'' Q)
    (h0 : ∀ H1, ExM W.M H H1 → W.I (n + c) H1 → Pv H1 0 σ H1) (hP : ∀ H1 i σ' H', Pv H1 i σ' H' → ExM W.M H1 H' ∧ ∃ m, W.I m H')
    (hs : ∀ H1 (i : Nat) (d : PyData) σ' H' H'' σ2, ExM W.M H H1 → ds[i]? = some d → Pv H1 i σ' H' → Same H' H'' → G σ' d H'' σ2 → tb { D with nx := Pv H1 (i + 1), ct := Pv H1 (i + 1), bk := D.nx } σ2 H'')
    (hd : ∀ H1 σ' H', ExM W.M H H1 → Pv H1 ds.length σ' H' → D.nx σ' H') : tFor wi g tb D σ H :=
  h n H ExM.refl hI hc _ fun J H1 e1 hI1 hJ => by
    refine ⟨fun i m σ' H' => m = ds.length - i ∧ i ≤ ds.length ∧ Pv H1 i σ' H', ⟨ds.length, rfl, Nat.zero_le _, h0 H1 e1 hI1⟩, ?_⟩
    rintro i m σ' H' ⟨rfl, hi, hp⟩
    obtain ⟨eP, k, hk⟩ := hP _ _ _ _ hp
    by_cases hlt : i < ds.length
    · refine .inr ⟨hJ.go i H' eP hlt, Pv H1 (i + 1), fun σ2 H2 hn => ⟨ds.length - (i + 1), by omega, rfl, hlt, hn⟩, fun x H'' hy => ?_⟩
      obtain ⟨s, d, hd', hx⟩ := hJ.yld i H' x H'' eP (fun p mp => W.al hk (W.mf mp)) hlt hy
      exact hg i d H1 σ' H' hd' hp x H'' _ s hx fun σ2 hG => hs H1 i d σ' H' H'' σ2 e1 hd' hp s hG
    · have e : i = ds.length := by omega
      subst e
      exact .inl ⟨hJ.stop H' eP, hd H1 σ' H' e1 hp⟩

/-! a comprehension, nothing drawn in it -/
theorem jl_lcI {g : TG} {tt : TT} {vs : List Nat} {G : PyData → Hp → St → Prop} (p : PyData → Bool) (f : PyData → PyData) (h : JIt K W wi σ H c ds) (hl : ds.length < 100000)
    (hg : ∀ d x H1 (Q : St → Hp → Prop), d ∈ ds → ExM W.M H H1 → Da K W H1 x d → (∀ σ2, G d H1 σ2 → Q σ2 H1) → g x (wipe σ vs) H1 Q)
    (hw : ∀ d H1 σ2, G d H1 σ2 → wipe σ2 vs = wipe σ vs)
    (ht : ∀ d H1 σ2, d ∈ ds → ExM W.M H H1 → G d H1 σ2 → JB K W tt σ2 H1 0 (p d)) (he : ∀ d H1 H2 σ2, d ∈ ds → p d = true → ExM W.M H H1 → ExM W.M H1 H2 → G d H1 σ2 → JD K W te σ2 H2 0 (f d)) (hn : ∀ d, d ∈ ds → p d = true → noL (f d) = true) :
    J W (tLc wi g tt te vs) σ H c (fun v H2 => NewL K W H2 v ((ds.filter p).map f)) := fun n H0 e hI hb Q q => h n H0 e hI hb _ fun J H1 e1 hI1 hJ => fun Dl hD => by
  have mD := W.fr hI1 hD
  refine ⟨fun i m H' => m = ds.length - i ∧ i ≤ ds.length ∧ Cw K W H1 (n + c) Dl (((ds.take i).filter p).map f) H', ⟨ds.length, rfl, Nat.zero_le _, hD, .of (same_new hD), W.st (same_new hD) hI1, by simp [noLs], [], upd_same, by simpa using DaML.nil⟩, ?_⟩
  rintro i m H' ⟨rfl, hi, hC⟩
  have eC := hC.2.1
  by_cases hlt : i < ds.length
  · refine .inr ⟨hJ.go i H' eC hlt, fun H2 => Cw K W H1 (n + c) Dl (((ds.take (i + 1)).filter p).map f) H2, fun H2 hn => ⟨ds.length - (i + 1), by omega, rfl, hlt, hn⟩, fun x H'' hy => ?_⟩
    obtain ⟨s, d, hd', hx⟩ := hJ.yld i H' x H'' eC (fun p mp => W.al hC.2.2.1 (W.mf mp)) hlt hy
    have hm : d ∈ ds := List.mem_of_getElem? hd'
    have hC2 : Cw K W H1 (n + c) Dl (((ds.take i).filter p).map f) H'' := cw_on hC mD (.of s) (W.st s hC.2.2.1)
    have eA : ExM W.M H H'' := e.trans (e1.trans hC2.2.1)
    refine hg d x H'' _ hm eA hx fun σ2 hG => ⟨hw d H'' σ2 hG, ht d H'' σ2 hm eA hG (n + c) H'' ExM.refl hC2.2.2.1 (by omega) _ fun b H3 e3 hI3 hb3 => ?_⟩
    have hC3 : Cw K W H1 (n + c) Dl (((ds.take i).filter p).map f) H3 := cw_on hC2 mD e3 hI3
    have tk : ds.take (i + 1) = ds.take i ++ [d] := by rw [List.take_add_one, hd']; rfl
    have lt : (((ds.take i).filter p).map f).length < 100000 := by
      rw [List.length_map]
      have h1 := List.length_filter_le p (ds.take i)
      have h2 : (ds.take i).length ≤ ds.length := by rw [List.length_take]; exact Nat.min_le_right _ _
      omega
    rw [tk, List.filter_append, List.map_append]
    subst hb3
    cases hp : p d with
    | true =>
      show te σ2 H3 _
      refine he d H'' H3 σ2 hm hp eA e3 hG (n + c) H3 ExM.refl hI3 (by omega) _ fun z H4 e4 hI4 hz => ?_
      have := cw_put ⟨_, hI1⟩ (cw_on hC3 mD e4 hI4) hz (hn d hm hp) lt
      rw [show List.filter p [d] = [d] by simp [hp]]
      exact this
    | false =>
      rw [show List.filter p [d] = [] by simp [hp]]
      show Cw K W H1 (n + c) Dl _ H3
      simpa using hC3
  · have ei : i = ds.length := by omega
    subst ei
    rw [List.take_length] at hC
    obtain ⟨p1, p2, p3, p4, acc, p5, p6⟩ := hC
    exact .inl ⟨hJ.stop H' eC, q _ H' (e1.trans p2) p3 ⟨Dl, acc, rfl, mD, p5, p6⟩⟩
/-- .. with a name for its target, without a test -/
theorem jl_lcN {j : Nat} {vs : List Nat} (f : PyData → PyData) (h : JIt K W wi σ H c ds) (hl : ds.length < 100000) (hw : ∀ x, wipe ((wipe σ vs).set j (some x)) vs = wipe σ vs)
    (he : ∀ d x H1, d ∈ ds → ExM W.M H H1 → Da K W H1 x d → JD K W te ((wipe σ vs).set j (some x)) H1 0 (f d)) (hn : ∀ d, d ∈ ds → noL (f d) = true) :
    J W (tLc wi (gName j) tYes te vs) σ H c (fun v H2 => NewL K W H2 v (ds.map f)) := by
  have h2 := jl_lcI (K := K) (tt := tYes) (te := te) (g := gName j) (vs := vs) (G := fun d H1 σ2 => ∃ x, Da K W H1 x d ∧ σ2 = (wipe σ vs).set j (some x)) (fun _ => true) f h hl
    (fun d x H1 Q _ _ hx q => q _ ⟨x, hx, rfl⟩) (fun d H1 σ2 ⟨x, _, e⟩ => by rw [e]; exact hw x) (fun _ _ _ _ _ _ => jb_yes)
    (fun d H1 H2 σ2 hm _ e1 e2 ⟨x, hx, e⟩ => by rw [e]; exact he d x H2 hm (e1.trans e2) (hx.mono e2)) (fun d hm _ => hn d hm)
  rw [show List.filter (fun _ => true) ds = ds from List.filter_eq_self.mpr fun _ _ => rfl] at h2
  exact h2
/-- .. with a pair of names, with a test -/
theorem jl_lcP {i j : Nat} {tt : TT} {vs : List Nat} (p : PyData → Bool) (f : PyData → PyData) (h : JIt K W wi σ H c ds) (hl : ds.length < 100000) (hp2 : ∀ d, d ∈ ds → ∃ a b, d = .tuple [a, b])
    (hw : ∀ x y, wipe (((wipe σ vs).set i (some x)).set j (some y)) vs = wipe σ vs)
    (ht : ∀ a b x y H1, .tuple [a, b] ∈ ds → ExM W.M H H1 → Da K W H1 x a → Da K W H1 y b → JB K W tt (((wipe σ vs).set i (some x)).set j (some y)) H1 0 (p (.tuple [a, b])))
    (he : ∀ a b x y H1, .tuple [a, b] ∈ ds → ExM W.M H H1 → Da K W H1 x a → Da K W H1 y b → JD K W te (((wipe σ vs).set i (some x)).set j (some y)) H1 0 (f (.tuple [a, b]))) (hn : ∀ d, d ∈ ds → noL (f d) = true) :
    J W (tLc wi (gTup K 2 (gCons (gName i) (gCons (gName j) gNil))) tt te vs) σ H c (fun v H2 => NewL K W H2 v ((ds.filter p).map f)) :=
  jl_lcI (K := K) (G := fun d H1 σ2 => ∃ a b x y, d = .tuple [a, b] ∧ Da K W H1 x a ∧ Da K W H1 y b ∧ σ2 = ((wipe σ vs).set i (some x)).set j (some y)) p f h hl
    (fun d x H1 Q hm _ hx q => by
      obtain ⟨a, b, rfl⟩ := hp2 d hm
      cases hx with
      | tup hs hl =>
        obtain ⟨x, y, rfl, hx, hy⟩ := dal2 (W := W) hl
        exact ⟨_, _, rfl, hs.sq, rfl, x, _, rfl, y, _, rfl, rfl, q _ ⟨a, b, x, y, rfl, hx, hy, rfl⟩⟩)
    (fun d H1 σ2 ⟨a, b, x, y, _, _, _, e⟩ => by rw [e]; exact hw x y)
    (fun d H1 σ2 hm e1 ⟨a, b, x, y, ed, hx, hy, e⟩ => by subst ed e; exact ht a b x y H1 hm e1 hx hy)
    (fun d H1 H2 σ2 hm _ e1 e2 ⟨a, b, x, y, ed, hx, hy, e⟩ => by subst ed e; exact he a b x y H2 hm (e1.trans e2) (hx.mono e2) (hy.mono e2)) (fun d hm _ => hn d hm)
theorem nl_da {te : TE} {ds : List PyData} (h : J W te σ H c (fun v H2 => NewL K W H2 v ds)) : JD K W te σ H c (.list ds) := h.imp fun _ _ h => h.da
theorem jd_tupleOf {t : TA} {ds : List PyData} (h : JDA K W t σ H c [.list ds]) : JD K W (tCB (fun xs H Q => ∃ p ys, xs = [.ref p] ∧ ((SqL K H p ys ∧ ∀ l, H l = none → Q (.ref l) (upd H l (.tup ys))) ∨ (SqT K H p ys ∧ Q (.ref p) H))) t) σ H c (.tuple ds) := jd_cb h fun vs n H1 hI hv Q q => by
  obtain ⟨x, rfl, hx⟩ := dal1 hv
  cases hx with
  | lst h1 h2 => exact ⟨_, _, rfl, .inl ⟨h1.sq, fun l hl => q _ _ (same_new hl) (da_tup (W.fr hI hl) upd_same (DaL.mono (W := W) h2 (.of (same_new hl))))⟩⟩
theorem jd_call0 {rel : List PyData → PyData → Prop} {r : PyData} {E : XK} {t : TA} (h : JDA K W0 t σ H c ds) (hr : rel ds r) : JD K W0 (tCall (spPure K rel) [] E t) σ H c r := fun n H1 e hI hb Q q =>
  h n H1 e hI hb _ fun vs H2 e2 hI2 hv => ⟨ds, r, by rw [List.append_nil]; exact DaL.dp hv, hr, fun v H' s hd => q v H' (e2.trans (.of s)) trivial (dp0 r v hd)⟩
theorem tgt2 {i j : Nat} {x : V} {Q : St → Hp → Prop} {a b : PyData} (hx : Da K W H x (.tuple [a, b])) (q : ∀ xa xb, Da K W H xa a → Da K W H xb b → Q ((σ.set i (some xa)).set j (some xb)) H) : gTup K 2 (gCons (gName i) (gCons (gName j) gNil)) x σ H Q := by
  cases hx with
  | tup hs hl =>
    obtain ⟨xa, xb, rfl, h1, h2⟩ := dal2 (W := W) hl
    exact ⟨_, _, rfl, hs.sq, rfl, xa, _, rfl, xb, _, rfl, rfl, q xa xb h1 h2⟩
/-- a loop over pairs -/
theorem st_forP {i j : Nat} {tb : TS} (hI : W.I n H) (h : JIt K W wi σ H c ds) (hc : n + c ≤ BIG) (hp2 : ∀ d, d ∈ ds → ∃ a b, d = .tuple [a, b]) (Pv : Hp → Nat → St → Hp → Prop)
    (h0 : ∀ H1, ExM W.M H H1 → W.I (n + c) H1 → Pv H1 0 σ H1) (hP : ∀ H1 k σ' H', Pv H1 k σ' H' → ExM W.M H1 H' ∧ ∃ m, W.I m H')
    (hs : ∀ H1 (k : Nat) a b xa xb σ' H' H'', ExM W.M H H1 → ds[k]? = some (.tuple [a, b]) → Pv H1 k σ' H' → Same H' H'' → Da K W H'' xa a → Da K W H'' xb b → tb { D with nx := Pv H1 (k + 1), ct := Pv H1 (k + 1), bk := D.nx } ((σ'.set i (some xa)).set j (some xb)) H'')
    (hd : ∀ H1 σ' H', ExM W.M H H1 → Pv H1 ds.length σ' H' → D.nx σ' H') : tFor wi (gTup K 2 (gCons (gName i) (gCons (gName j) gNil))) tb D σ H :=
  st_forI (K := K) (G := fun σ' d H'' σ2 => ∃ a b xa xb, d = .tuple [a, b] ∧ Da K W H'' xa a ∧ Da K W H'' xb b ∧ σ2 = (σ'.set i (some xa)).set j (some xb)) hI h hc Pv
    (fun k d H1 σ' H' hk hp x H'' Q s hx q => by
      obtain ⟨a, b, rfl⟩ := hp2 d (List.mem_of_getElem? hk)
      exact tgt2 (W := W) hx fun xa xb h1 h2 => q _ ⟨a, b, xa, xb, rfl, h1, h2, rfl⟩)
    h0 hP (fun H1 k d σ' H' H'' σ2 e1 hk hp s ⟨a, b, xa, xb, ed, ha, hb, e⟩ => by subst ed e; exact hs H1 k a b xa xb σ' H' H'' e1 hk hp s ha hb) hd
/-- a loop over single things -/
theorem st_forN {i : Nat} {tb : TS} (hI : W.I n H) (h : JIt K W wi σ H c ds) (hc : n + c ≤ BIG) (Pv : Hp → Nat → St → Hp → Prop)
    (h0 : ∀ H1, ExM W.M H H1 → W.I (n + c) H1 → Pv H1 0 σ H1) (hP : ∀ H1 k σ' H', Pv H1 k σ' H' → ExM W.M H1 H' ∧ ∃ m, W.I m H')
    (hs : ∀ H1 (k : Nat) d x σ' H' H'', ExM W.M H H1 → ds[k]? = some d → Pv H1 k σ' H' → Same H' H'' → Da K W H'' x d → tb { D with nx := Pv H1 (k + 1), ct := Pv H1 (k + 1), bk := D.nx } (σ'.set i (some x)) H'')
    (hd : ∀ H1 σ' H', ExM W.M H H1 → Pv H1 ds.length σ' H' → D.nx σ' H') : tFor wi (gName i) tb D σ H :=
  st_forI (K := K) (G := fun σ' d H'' σ2 => ∃ x, Da K W H'' x d ∧ σ2 = σ'.set i (some x)) hI h hc Pv
    (fun k d H1 σ' H' hk hp x H'' Q s hx q => q _ ⟨x, hx, rfl⟩)
    h0 hP (fun H1 k d σ' H' H'' σ2 e1 hk hp s ⟨x, hx, e⟩ => by subst e; exact hs H1 k d x σ' H' H'' e1 hk hp s hx) hd
theorem st_par {i j : Nat} {ta : TA} {d1 d2 : PyData} (hI : W.I n H) (h : JDA K W ta σ H c [d1, d2]) (hc : n + c ≤ BIG) (k : ∀ x y H1, ExM W.M H H1 → W.I (n + c) H1 → Da K W H1 x d1 → Da K W H1 y d2 → D.nx ((σ.set i (some x)).set j (some y)) H1) : tPar i j ta D σ H :=
  h n H ExM.refl hI hc _ fun vs H1 e hI1 hv => by
    obtain ⟨x, y, rfl, hx, hy⟩ := dal2 hv
    exact ⟨x, y, rfl, k x y H1 e hI1 hx hy⟩
/-- a name for its target, with a test -/
theorem jl_lcNT {j : Nat} {vs : List Nat} {tt : TT} (p : PyData → Bool) (f : PyData → PyData) (h : JIt K W wi σ H c ds) (hl : ds.length < 100000) (hw : ∀ x, wipe ((wipe σ vs).set j (some x)) vs = wipe σ vs)
    (ht : ∀ d x H1, d ∈ ds → ExM W.M H H1 → Da K W H1 x d → JB K W tt ((wipe σ vs).set j (some x)) H1 0 (p d))
    (he : ∀ d x H1, d ∈ ds → ExM W.M H H1 → Da K W H1 x d → JD K W te ((wipe σ vs).set j (some x)) H1 0 (f d)) (hn : ∀ d, d ∈ ds → noL (f d) = true) :
    J W (tLc wi (gName j) tt te vs) σ H c (fun v H2 => NewL K W H2 v ((ds.filter p).map f)) :=
  jl_lcI (K := K) (G := fun d H1 σ2 => ∃ x, Da K W H1 x d ∧ σ2 = (wipe σ vs).set j (some x)) p f h hl
    (fun d x H1 Q _ _ hx q => q _ ⟨x, hx, rfl⟩) (fun d H1 σ2 ⟨x, _, e⟩ => by rw [e]; exact hw x) (fun d H1 σ2 hm e1 ⟨x, hx, e⟩ => by rw [e]; exact ht d x H1 hm e1 hx)
    (fun d H1 H2 σ2 hm _ e1 e2 ⟨x, hx, e⟩ => by rw [e]; exact he d x H2 hm (e1.trans e2) (hx.mono e2)) (fun d hm _ => hn d hm)
end Jl

set_option Elab.async false
set_option linter.all false
set_option maxRecDepth 100000
set_option maxHeartbeats 2000000
/-! enumerate of a tuple -/
namespace Jl
open PySem PySem.Spec L2
section
variable {prog : Program} {w : World}
/-- what enumerate makes of anything whose iterator is one new object -/
theorem enum_new {v : Value} {o : Obj} {Z : Heap → Prop} (B : Begins v o Z) : Meets (Builtin.«enumerate.__new__» ⟨[.type "enumerate", v], []⟩) (fun _ R s => Z s.heap ∧ R (.ok (.ret (.ref (s.heap.push o).objs.size)))
    { s with heap := (s.heap.push o).push { cls := .type "enumerate", data := .fields #[.none, .bool false, .ref s.heap.objs.size, rawInt 0, .none, .none] } }) := .of_wp fun prog w A R ⟨hp, g, d, tk, os⟩ ⟨hz, hR⟩ => by
  have sub := sub_enumerate
  have step : ∀ {A' : Around} {E Q : Value → Shared → Prop}, Q (.ref hp.objs.size) ⟨hp.push o, g, d, tk, os⟩ → wpAny (model prog w) A' (pyIter v) Q E ⟨hp, g, d, tk, os⟩ := fun q => B.iter prog w _ _ _ _ hz q
  wp_walk using step
  refine wpAny_stack_any (fun _ => wpAny_pure ?_)
  split
  · rename_i cl _ _ _ _ _
    cases (cl == Value.type "enumerate") <;> (wp_walk using step; exact ⟨_, rfl, hR⟩)
  · wp_walk using step; exact ⟨_, rfl, hR⟩
theorem enum_tuple {A : Around} {E : Value → Shared → Prop} {s : Shared} {t : Addr} {items : Array Value} {Q : Value → Shared → Prop} (ht : s.heap.IsTuple t items)
    (h : ∀ h', IsEnum h' (s.heap.objs.size + 1) s.heap.objs.size 0 .none → h'.IsTupleIter s.heap.objs.size t 0 → (∀ b o, s.heap.get? b = some o → h'.get? b = some o) → Q (.ref (s.heap.objs.size + 1)) { s with heap := h' }) :
    wpAny (model prog w) A (call (.type "enumerate") [.ref t]) Q E s := by
  have B := begins_tuple t items
  refine callType_new F.called_enumerate (by decide) (F.typeCall_enumerate_1 _) (F.newCall_enumerate_1 _) (fun x => F.args_object_init_2 x _) F.entry_enumerate_new (enum_new B) ⟨ht, ?_⟩
  have sz : (s.heap.push { cls := .type "tuple_iterator", data := .fields #[.ref t, .int 0 0] }).objs.size = s.heap.objs.size + 1 := Heap.size_push ..
  have he := Heap.get?_push_size (s.heap.push { cls := .type "tuple_iterator", data := .fields #[.ref t, .int 0 0] }) (o := { cls := .type "enumerate", data := .fields #[.none, .bool false, .ref s.heap.objs.size, rawInt 0, .none, .none] }) rfl
  refine ⟨⟨_, he, rfl⟩, ?_⟩
  rw [sz] at he ⊢
  exact h _ he ⟨_, Heap.get?_push_of_some _ (Heap.get?_push_size _ rfl), rfl, rfl⟩ fun b o x => Heap.get?_push_of_some _ (Heap.get?_push_of_some _ x)
end
/-- the tuple at a, each item with its number in a new pair -/
def IteT (K : PySem.W.Frag) (a : Addr) : It where
  go := fun i H => ∃ (xs : List V) (x : V), SqT K H a xs ∧ xs[i]? = some x
  yld := fun i H v H' => ∃ T x, v = .ref T ∧ H T = none ∧ H' = upd H T (.tup [.int (i : Nat), x]) ∧ ∀ xs, SqT K H a xs → xs[i]? = some x
  stop := fun i H => ∃ xs : List V, SqT K H a xs ∧ xs.length = i
theorem enum_ne {h : Heap} {e it a : Addr} {i : Int} {old : Value} {items : Array Value} (he : IsEnum h e it i old) (ha : h.IsTuple a items) : e ≠ a := fun z => by
  subst z
  obtain ⟨o, ho, hc, _⟩ := ha
  have : h.get? e = some _ := he
  rw [ho] at this
  injection this with this
  rw [this] at hc
  simp at hc
theorem turn_enumT {P : Program} {w : World} {K : PySem.W.Frag} {elts : List Expr} {kk : Nat} {tpos : Pos} (a e it : Addr) :
    Turn P w K (.Tuple elts kk tpos) (IteT K a) [e, it] e (fun i h => (∃ old, IsEnum h e it ((i : Nat) : Int) old) ∧ h.IsTupleIter it a i ∧ e ≠ it ∧ a ≠ it) where
  mem := List.mem_cons_self ..
  obj := fun i h ⟨⟨old, he⟩, ⟨o, ho, hc, hd⟩, _⟩ b hb => by
    rcases List.mem_cons.mp hb with z | z
    · subst z; exact ⟨_, he, fun v q => nomatch q⟩
    · rw [List.mem_singleton.mp z]; exact ⟨o, ho, fun v q => by rw [hd] at q; cases q⟩
  keep := fun i h h' ⟨⟨old, he⟩, hi, hn⟩ k => ⟨⟨old, k e (by simp) _ he⟩, hi.at fun o q => k it (by simp) o q, hn⟩
  item := fun X hP hw hK hc i pins s σ H E I hf ⟨⟨old, he⟩, hit, hne, hai⟩ ⟨xs, x, hq, hx⟩ => by
    subst hP hw hK
    obtain ⟨its, rv, pt, _⟩ := I.tuple hq
    have hT : s.heap.IsTuple a its.toArray := pt
    obtain ⟨u, hu, ru⟩ := rv.get hx
    have lt : i < its.toArray.size := by rw [List.size_toArray]; exact (List.getElem?_eq_some_iff.mp hu).1
    have el := Heap.lt_size (show s.heap.get? e = some _ from he)
    have il : it < s.heap.objs.size := by obtain ⟨_, q, _⟩ := hit; exact Heap.lt_size q
    refine wpAny_pyNext_enum_itemD (Draws.tuple (show X.A.in1.handled = none from I.ok.hd hc) it a hai its.toArray) he ⟨hit, hT⟩ lt hne (fun m => ?_) fun y h' tk hy ho st hnew _ hk => ⟨_, rfl, ?_⟩
    · rcases List.mem_cons.mp m with z | z
      · exact hne z
      · exact enum_ne he hT (List.mem_singleton.mp z)
    have ey : y = u := by
      have hy' : its[i]? = some y := by simpa using hy
      rw [hu] at hy'; exact (Option.some.inj hy').symm
    subst ey
    refine wpAny_letOwnedTupleGo_enum (s := { s with heap := h', toks := tk + 1 }) ho fun h'' he' sb => ?_
    have hT2 := (sb.2 _ (Nat.ne_of_gt el)).trans hnew
    have nw : ObjOk X.prog X.w (upd H s.heap.objs.size (.tup [.int (i : Nat), x])) h'' s.heap.objs.size (.tup [.int (i : Nat), x]) :=
      ⟨(by decide : 2 ≤ sizeLine), _, .cons ⟨_, rfl⟩ (.cons ru .nil), ⟨_, hT2, rfl, _, rfl⟩⟩
    have I1 : Inv X pins σ (upd H s.heap.objs.size (.tup [.int (i : Nat), x])) { s with heap := h'', toks := tk + 1 } := I.turnedNew (ch := [e, it]) (fun b o hb q => by
      have h1 : b ≠ e := fun z => hb (by simp [z])
      have h2 : b ≠ it := fun z => hb (by simp [z])
      exact (sb.2 b h1).trans (hk b o h1 h2 q)) hf (Nat.le_refl _) nw
    refine ⟨.ref s.heap.objs.size, _, I1, rfl, ⟨_, x, rfl, I.hok.fresh (Nat.le_refl _), rfl, fun ys hy => by rw [I.tuple_inj hy hq]; exact hx⟩, ⟨⟨y, ?_⟩, st.1.at fun o q => (sb.2 it (Ne.symm hne)).trans q, hne, hai⟩, fun b hb => ?_⟩
    · rw [show ((i + 1 : Nat) : Int) = (i : Int) + 1 by omega]; exact he'
    · have hb' : b ≠ s.heap.objs.size := by
        rcases List.mem_cons.mp hb with z | z
        · rw [z]; exact Nat.ne_of_lt el
        · rw [List.mem_singleton.mp z]; exact Nat.ne_of_lt il
      rw [upd_ne hb']
      exact (hf b hb).1
  done := fun X hP hw hK hc i pins s σ H E I hf ⟨⟨old, he⟩, hit, hne, hai⟩ ⟨xs, hq, hl⟩ => by
    subst hP hw hK
    obtain ⟨its, rv, pt, _⟩ := I.tuple hq
    have hT : s.heap.IsTuple a its.toArray := pt
    obtain ⟨f0, f1, f2, f3, f4, f5⟩ := hf it (by simp)
    have hlen := rv.length
    have ei : i = its.toArray.size := by rw [List.size_toArray]; omega
    subst ei
    exact wpAny_pyNext_enum_endD (Draws.tuple (show X.A.in1.handled = none from I.ok.hd hc) it a hai its.toArray) he ⟨hit, hT⟩ fun h' eb => ⟨rfl, I.turned (t' := s.toks) (fun b o hb q => eb b o hb q) f0 f1 f3 f4 f5⟩
  self := fun A i s Q E ⟨⟨_, he⟩, _⟩ h => wpAny_pyIter_enum he h
/-- enumerate of a list or of a tuple -/
def iEnumS (K : PySem.W.Frag) (ta : TA) : TI := fun σ H R => ta σ H fun vs H1 => ∃ a xs, vs = [.ref a] ∧ ((SqL K H1 a xs ∧ R (Ite K a) H1) ∨ (SqT K H1 a xs ∧ R (IteT K a) H1))
theorem pi_enumS {X : Cx} {e : Expr} {ta : TA} {p pos tpos : Pos} {elts : List Expr} {kk : Nat} (hg : Gl X "enumerate") (hm : X.mg "enumerate" = none) (ha : PA X [e] ta) (hs : starEach [e] X.env = [(false, eval e X.env)] := by rfl) :
    PI X (.Tuple elts kk tpos) (.Call (.Name "enumerate" p) [e] [] pos) (iEnumS X.K ta) := ⟨fun pins s σ H R I h => by
  refine PyProof.Rows.Call_ (ld_blt I hg hm PyProof.Rows.boot_enumerate (PyProof.Rows.callWith_type1 (thn (ha.run pos pins s σ H _ I h) fun us s1 ⟨vs, H1, J1, rv, a, xs, ev, w⟩ => ?_) hs rfl))
  subst ev
  cases rv with
  | cons r rr =>
    cases rr; cases r
    have fpk : ∀ b ∈ [s1.heap.objs.size + 1, s1.heap.objs.size], FpOk X pins H1 b := fun b hb => by
      have : s1.heap.objs.size ≤ b := by simp at hb; omega
      exact J1.fpOk this (J1.hok.fresh this)
    rcases w with ⟨hq, q⟩ | ⟨hq, q⟩
    · obtain ⟨its, _, z, _⟩ := J1.list hq
      exact call_enumerate_list z.isList fun h' he hit _ hk => wpAny_pyIter_enum he ⟨_, [s1.heap.objs.size + 1, s1.heap.objs.size], _, _, H1, rfl, J1.kept (t' := s1.toks) hk, turn_enum a _ _, ⟨⟨.none, he⟩, hit, Nat.succ_ne_self _⟩, fpk, q⟩
    · obtain ⟨its, _, z, _⟩ := J1.tuple hq
      have hT : s1.heap.IsTuple a its.toArray := z
      have al : a < s1.heap.objs.size := by obtain ⟨o, ho, _⟩ := hT; exact Heap.lt_size ho
      exact enum_tuple hT fun h' he hit hk => wpAny_pyIter_enum he ⟨_, [s1.heap.objs.size + 1, s1.heap.objs.size], _, _, H1, rfl, J1.kept (t' := s1.toks) hk, turn_enumT a _ _, ⟨⟨.none, he⟩, hit, Nat.succ_ne_self _, Nat.ne_of_lt al⟩, fpk, q⟩⟩
variable {K : PySem.W.Frag} {W : Wd} {σ : St} {H H1 H2 : Hp} {v : V} {d : PyData} {n c c1 c2 : Nat} {te ta tb tl : TE} {ds : List PyData}
/-- each item with its number -/
def enumD (ds : List PyData) : List PyData := zipD ((List.range ds.length).map fun (k : Nat) => PyData.int k) ds
theorem enumD_len (ds : List PyData) : (enumD ds).length = ds.length := by simp [enumD, zipD]
theorem enumD_at {i : Nat} {d : PyData} (h : ds[i]? = some d) : (enumD ds)[i]? = some (.tuple [.int i, d]) := by
  have hi : i < ds.length := (List.getElem?_eq_some_iff.mp h).1
  simp [enumD, zipD, List.getElem?_zipWith, h, hi]
  exact (List.getElem?_eq_some_iff.mp h).2
theorem ji_enum {t : TA} {d0 : PyData} (h : JDA K W t σ H c [d0]) (hs : isSeq d0 = true) : JIt K W (iEnumS K t) σ H c (enumD (itemsD d0)) := fun n H1 e hI hn R q => h n H1 e hI hn _ fun vs H2 e2 hI2 hv => by
  obtain ⟨x, rfl, hx⟩ := dal1 hv
  cases hx with
  | @lst a xs es h1 h2 =>
    refine ⟨a, xs, rfl, .inl ⟨h1.sq, q _ H2 e2 hI2 ⟨fun i H' e hi => ?_, fun H' e => ?_, fun i H' x H'' e hM hi ⟨T, y, ex, hT, eH, hy⟩ => ?_⟩⟩⟩
    · have hl := dal_len (W := W) h2
      have hi' : i < es.length := by rw [enumD_len] at hi; exact hi
      have h3 : i < xs.length := by omega
      exact ⟨xs, xs[i], (h1.mono e).sq, List.getElem?_eq_getElem h3⟩
    · exact ⟨xs, (h1.mono e).sq, by rw [enumD_len, dal_len (W := W) h2]; exact Nat.le_refl _⟩
    · subst ex eH
      obtain ⟨d, h3, h4⟩ := dal_get (W := W) h2 (hy xs (h1.mono e).sq)
      have s := same_new (o := .tup [.int (i : Nat), y]) hT
      exact ⟨s, _, enumD_at h3, da_tup (fun m => hM T m hT) upd_same (.cons (.int _) (.cons ((Da.mono (W := W) h4 e).mono (.of s)) .nil))⟩
  | @tup a xs es h1 h2 =>
    refine ⟨a, xs, rfl, .inr ⟨h1.sq, q _ H2 e2 hI2 ⟨fun i H' e hi => ?_, fun H' e => ?_, fun i H' x H'' e hM hi ⟨T, y, ex, hT, eH, hy⟩ => ?_⟩⟩⟩
    · have hl := dal_len (W := W) h2
      have hi' : i < es.length := by rw [enumD_len] at hi; exact hi
      have h3 : i < xs.length := by omega
      exact ⟨xs, xs[i], (h1.mono e).sq, List.getElem?_eq_getElem h3⟩
    · exact ⟨xs, (h1.mono e).sq, by rw [enumD_len, dal_len (W := W) h2]; rfl⟩
    · subst ex eH
      obtain ⟨d, h3, h4⟩ := dal_get (W := W) h2 (hy xs (h1.mono e).sq)
      have s := same_new (o := .tup [.int (i : Nat), y]) hT
      exact ⟨s, _, enumD_at h3, da_tup (fun m => hM T m hT) upd_same (.cons (.int _) (.cons ((Da.mono (W := W) h4 e).mono (.of s)) .nil))⟩
  | _ => cases hs
theorem jd_catA {xs ys : List PyData} (ha : JD K W ta σ H c1 (.tuple xs)) (hb : JD K W tb σ H c2 (.tuple ys)) (hl : xs.length + ys.length ≤ 100000) : JD K W (tOp (rCatA K) ta tb) σ H (c1 + c2) (.tuple (xs ++ ys)) := jd_op ha hb fun x y n H1 hI hx hy Q q => by
  cases hx with
  | @tup a us _ h1 h2 =>
    cases hy with
    | @tup b ws _ h3 h4 =>
      have l1 := dal_len (W := W) h2
      have l2 := dal_len (W := W) h4
      refine ⟨a, b, us, ws, rfl, rfl, h1.sq, h3.sq, Nat.le_trans (by omega) (show 100000 ≤ sizeLine by decide), fun e => ?_, fun _ e => ?_, fun _ _ p hp => ?_⟩
      · subst e; cases h2
        exact q _ H1 (Same.refl _) (.tup h3 h4)
      · subst e; cases h4
        rw [List.append_nil] at q
        exact q _ H1 (Same.refl _) (.tup h1 h2)
      · exact q _ _ (same_new hp) (da_tup (W.fr hI hp) upd_same (dal_app (W := W) (DaL.mono (W := W) h2 (.of (same_new hp))) (DaL.mono (W := W) h4 (.of (same_new hp)))))
end Jl

set_option Elab.async false
set_option linter.all false
set_option maxRecDepth 100000
namespace K24
open PySem PySem.Spec PyProof.Rows L2 Jl

local macro_rules | `(tactic| walk_at "da") => `(tactic| first | assumption | exact da_int | exact da_bl | exact da_non | exact da_str | (refine' Da.mono ?k1 ?k2; (case k2 => assumption); (case k1 => walk_at "da")))
local macro_rules | `(tactic| walk_at "jc") => `(tactic| first | assumption | exact trivial | (refine cmulw ?_ ?_ <;> assumption) | (show (0 : Int) < _; omega) | (refine Or.inl ⟨?_, ?_⟩ <;> omega) | (refine Or.inr ⟨?_, ?_⟩ <;> omega))
local macro_rules | `(tactic| walk_at "j") => `(tactic| first
  | exact jd_int | exact jd_non | exact jd_bl | exact jd_str
  | exact jd_vi rfl
  | (refine' jd_v rfl ?k1; (case k1 => walk_at "da"))
  | (refine' jd_Ii ?k1 ?k2 ?k3; (case k1 => walk_at "j"); (case k2 => walk_at "j"); (case k3 => walk_at "jc"))
  | (refine' jd_I0i ?k1 ?k2; (case k1 => walk_at "j"); (case k2 => walk_at "j"))
  | (refine' jd_I0b ?k1 ?k2; (case k1 => walk_at "j"); (case k2 => walk_at "j"))
  | (refine' jd_neg ?k1; (case k1 => walk_at "j"))
  | (refine' jd_eqI ?k1 ?k2; (case k1 => walk_at "j"); (case k2 => walk_at "j"))
  | (refine' jd_neI ?k1 ?k2; (case k1 => walk_at "j"); (case k2 => walk_at "j"))
  | (refine' jd_eqB ?k1 ?k2; (case k1 => walk_at "j"); (case k2 => walk_at "j"))
  | (refine' jd_neB ?k1 ?k2; (case k1 => walk_at "j"); (case k2 => walk_at "j"))
  | (refine' jd_eqD ?k1 ?k2 ?k3 ?k4; (case k1 => walk_at "j"); (case k2 => walk_at "j"); (case k3 => walk_at "sh"); (case k4 => walk_at "sh"))
  | (refine' jd_neD ?k1 ?k2 ?k3 ?k4; (case k1 => walk_at "j"); (case k2 => walk_at "j"); (case k3 => walk_at "sh"); (case k4 => walk_at "sh"))
  | (refine' jd_ix ?k1 ?k2 ?k3 ?k4; (case k1 => walk_at "j"); (case k2 => walk_at "j"); (case k3 => walk_at "seq"); (case k4 => walk_at "at"))
  | (refine' jd_tup ?k1 ?k2; (case k1 => walk_at "ja"); (case k2 => (simp only [List.length_cons, List.length_nil]; decide)))
  | (refine' jd_lst ?k1 ?k2; (case k1 => walk_at "ja"); (case k2 => (simp only [List.length_cons, List.length_nil]; decide)))
  | (refine' jd_gcd ?k1; (case k1 => walk_at "ja"))
  | (refine' jd_lenS ?k1 ?k2; (case k1 => walk_at "ja"); (case k2 => walk_at "seq"))
  | (refine' jd_abs ?k1; (case k1 => walk_at "ja"))
  | (refine' jd_int1 ?k1; (case k1 => walk_at "ja"))
  | (refine' jd_intB ?k1; (case k1 => walk_at "ja"))
  | (refine' jd_isi ?k1 ?k2; (case k1 => walk_at "j"); (case k2 => first | exact kit_int | exact kit_bool | exact kit_list | exact kit_tuple))
  | (refine' jd_isi2 ?k1 ?k2 ?k3; (case k1 => walk_at "j"); (case k2 => exact kit_list); (case k3 => exact kit_tuple))
  | (refine' jd_isN ?k1 ?k2; (case k1 => walk_at "j"); (case k2 => exact jd_non))
  | (refine' jd_notN ?k1 ?k2; (case k1 => walk_at "j"); (case k2 => exact jd_non))
  | (refine' jd_andV ?k1 ?k2; (case k1 => walk_at "j"); (case k2 => first | exact (fun hyp => Bool.noConfusion (show false = true from hyp) : _ → JD _ _ _ _ _ 0 (PyData.bool true)) | (intro hyp; walk_at "j")))
  | (refine' jd_orV ?k1 ?k2; (case k1 => walk_at "j"); (case k2 => first | exact (fun hyp => Bool.noConfusion (show true = false from hyp) : _ → JD _ _ _ _ _ 0 (PyData.bool false)) | (intro hyp; walk_at "j")))
  | (refine' jd_notV ?k1; (case k1 => walk_at "j"))
  | (refine' jd_countB ?k1 ?k2; (case k1 => walk_at "j"); (case k2 => walk_at "j"))
  | (refine' jd_call ?k1 ?k2 ?k3; (case k1 => walk_at "ja"); (case k2 => walk_at "rel"); (case k3 => first | rfl | assumption)))
local macro_rules | `(tactic| walk_at "ja") => `(tactic| first | exact ja_nil | (refine' ja_cons ?k1 ?k2; (case k1 => walk_at "j"); (case k2 => walk_at "ja")))
local macro_rules | `(tactic| walk_at "jt") => `(tactic| first
  | (refine' jb_test ?k1; (case k1 => walk_at "j"))
  | (refine' jb_B ?k1; (case k1 => walk_at "j"))
  | (refine' jb_not ?k1; (case k1 => walk_at "jt"))
  | (refine' jb_and ?k1 ?k2; (case k1 => walk_at "jt"); (case k2 => (intro hyp; walk_at "jt")))
  | (refine' jb_or ?k1 ?k2; (case k1 => walk_at "jt"); (case k2 => (intro hyp; walk_at "jt"))))
local macro_rules | `(tactic| walk_at "seq") => `(tactic| first | rfl | assumption | exact seq_hyp (by assumption) | exact isFr_seq (by assumption))
local macro_rules | `(tactic| walk_at "at") => `(tactic| first | rfl | assumption | exact at0 (by assumption) | exact at1 (by assumption) | (walk_at "atx"))
local macro_rules | `(tactic| walk_at "ex") => `(tactic| first | exact ExM.refl | assumption | (refine' ExM.trans ?k1 ?k2; (case k2 => assumption); (case k1 => walk_at "ex")))
local macro_rules | `(tactic| walk_at "re") => `(tactic| rfl)
local macro_rules | `(tactic| walk_at "ret") => `(tactic| ((try refine st_nx ?_); (try refine nx_mk ?_); refine' pure_ret ?k0 (by assumption) (JD.eq ?k1 ?k2) ?k3; (case k1 => walk_at "j"); (case k2 => walk_at "re"); (case k3 => decide); (case k0 => walk_at "ex")))
local macro_rules | `(tactic| walk_at "nx") => `(tactic| ((first | refine st_nx ?_ | refine nx_mk ?_ | skip); try refine st_seq ?_))
local macro_rules | `(tactic| walk_at "sh") => `(tactic| first | exact shaped_fr _ | exact shaped_0 | exact shaped_1 | rfl)

def topS (i : Nat) : Stmt := PySem.Challenge.pw_nodice_k24_whole_first_shares_step_by_st.main.body.getD i (.Pass ⟨0, 0, 0, 0⟩)
--DEF is_integer
abbrev s_is_integer : Stmt := topS 5
theorem sc_is_integer : FnScope ["value"] ["value"] (defScope s_is_integer) := ⟨rfl, rfl, rfl, by decide +kernel, rfl, by decide +kernel, by decide +kernel⟩
--DEF is_within
abbrev s_is_within : Stmt := topS 6
theorem sc_is_within : FnScope ["value", "least", "most"] ["value", "least", "most"] (defScope s_is_within) := ⟨rfl, rfl, rfl, by decide +kernel, rfl, by decide +kernel, by decide +kernel⟩
--DEF are_integers
abbrev s_are_integers : Stmt := topS 7
theorem sc_are_integers : FnScope ["value", "many", "each"] ["value", "many"] (defScope s_are_integers) := ⟨rfl, rfl, rfl, by decide +kernel, rfl, by decide +kernel, by decide +kernel⟩
--DEF is_fraction
abbrev s_is_fraction : Stmt := topS 8
theorem sc_is_fraction : FnScope ["value"] ["value"] (defScope s_is_fraction) := ⟨rfl, rfl, rfl, by decide +kernel, rfl, by decide +kernel, by decide +kernel⟩
--DEF need_number
abbrev s_need_number : Stmt := topS 9
theorem sc_need_number : FnScope ["value", "part", "least", "most"] ["value", "part", "least", "most"] (defScope s_need_number) := ⟨rfl, rfl, rfl, by decide +kernel, rfl, by decide +kernel, by decide +kernel⟩
--DEF need_fraction
abbrev s_need_fraction : Stmt := topS 10
theorem sc_need_fraction : FnScope ["value", "part"] ["value", "part"] (defScope s_need_fraction) := ⟨rfl, rfl, rfl, by decide +kernel, rfl, by decide +kernel, by decide +kernel⟩
--DEF least_pair
abbrev s_least_pair : Stmt := topS 13
theorem sc_least_pair : FnScope ["up", "down", "common"] ["up", "down"] (defScope s_least_pair) := ⟨rfl, rfl, rfl, by decide +kernel, rfl, by decide +kernel, by decide +kernel⟩
--DEF both
abbrev s_both : Stmt := topS 14
theorem sc_both : FnScope ["one", "other"] ["one", "other"] (defScope s_both) := ⟨rfl, rfl, rfl, by decide +kernel, rfl, by decide +kernel, by decide +kernel⟩
--DEF times
abbrev s_times : Stmt := topS 15
theorem sc_times : FnScope ["one", "other"] ["one", "other"] (defScope s_times) := ⟨rfl, rfl, rfl, by decide +kernel, rfl, by decide +kernel, by decide +kernel⟩
--DEF turned
abbrev s_turned : Stmt := topS 16
theorem sc_turned : FnScope ["one"] ["one"] (defScope s_turned) := ⟨rfl, rfl, rfl, by decide +kernel, rfl, by decide +kernel, by decide +kernel⟩
--DEF is_less
abbrev s_is_less : Stmt := topS 17
theorem sc_is_less : FnScope ["one", "other"] ["one", "other"] (defScope s_is_less) := ⟨rfl, rfl, rfl, by decide +kernel, rfl, by decide +kernel, by decide +kernel⟩
--DEF total_of
abbrev s_total_of : Stmt := topS 18
theorem sc_total_of : FnScope ["fractions", "total", "each"] ["fractions"] (defScope s_total_of) := ⟨rfl, rfl, rfl, by decide +kernel, rfl, by decide +kernel, by decide +kernel⟩
--DEF added
abbrev s_added : Stmt := topS 19
theorem sc_added : FnScope ["one", "other"] ["one", "other"] (defScope s_added) := ⟨rfl, rfl, rfl, by decide +kernel, rfl, by decide +kernel, by decide +kernel⟩
--DEF less
abbrev s_less : Stmt := topS 20
theorem sc_less : FnScope ["one", "other"] ["one", "other"] (defScope s_less) := ⟨rfl, rfl, rfl, by decide +kernel, rfl, by decide +kernel, by decide +kernel⟩
--DEF multiplied
abbrev s_multiplied : Stmt := topS 21
theorem sc_multiplied : FnScope ["one", "other"] ["one", "other"] (defScope s_multiplied) := ⟨rfl, rfl, rfl, by decide +kernel, rfl, by decide +kernel, by decide +kernel⟩
--DEF below
abbrev s_below : Stmt := topS 22
theorem sc_below : FnScope ["one", "other"] ["one", "other"] (defScope s_below) := ⟨rfl, rfl, rfl, by decide +kernel, rfl, by decide +kernel, by decide +kernel⟩
--DEF choices
abbrev s_choices : Stmt := topS 26
theorem sc_choices : FnScope ["many", "some", "found", "at"] ["many", "some"] (defScope s_choices) := ⟨rfl, rfl, rfl, by decide +kernel, rfl, by decide +kernel, by decide +kernel⟩
--DEF rows_to
abbrev s_rows_to : Stmt := topS 27
theorem sc_rows_to : FnScope ["far", "ticks"] ["far", "ticks"] (defScope s_rows_to) := ⟨rfl, rfl, rfl, by decide +kernel, rfl, by decide +kernel, by decide +kernel⟩
--DEF share_in
abbrev s_share_in : Stmt := topS 28
theorem sc_share_in : FnScope ["far", "ticks"] ["far", "ticks"] (defScope s_share_in) := ⟨rfl, rfl, rfl, by decide +kernel, rfl, by decide +kernel, by decide +kernel⟩
--DEF share_of
abbrev s_share_of : Stmt := topS 29
theorem sc_share_of : FnScope ["far", "ticks"] ["far", "ticks"] (defScope s_share_of) := ⟨rfl, rfl, rfl, by decide +kernel, rfl, by decide +kernel, by decide +kernel⟩
--DEF first_in
abbrev s_first_in : Stmt := topS 31
theorem sc_first_in : FnScope ["far", "ticks"] ["far", "ticks"] (defScope s_first_in) := ⟨rfl, rfl, rfl, by decide +kernel, rfl, by decide +kernel, by decide +kernel⟩
--DEF shares_to
abbrev s_shares_to : Stmt := topS 32
theorem sc_shares_to : FnScope ["far", "most", "ticks"] ["far", "most"] (defScope s_shares_to) := ⟨rfl, rfl, rfl, by decide +kernel, rfl, by decide +kernel, by decide +kernel⟩
--DEF greatest_in
abbrev s_greatest_in : Stmt := topS 33
theorem sc_greatest_in : FnScope ["far", "most", "found", "_", "share"] ["far", "most"] (defScope s_greatest_in) := ⟨rfl, rfl, rfl, by decide +kernel, rfl, by decide +kernel, by decide +kernel⟩
--DEF first_share
abbrev s_first_share : Stmt := topS 34
theorem sc_first_share : FnScope ["far", "ticks"] ["far", "ticks"] (defScope s_first_share) := ⟨rfl, rfl, rfl, by decide +kernel, rfl, by decide +kernel, by decide +kernel⟩
--DEF best_ticks
abbrev s_best_ticks : Stmt := topS 35
theorem sc_best_ticks : FnScope ["far", "most", "greatest", "ticks", "share"] ["far", "most"] (defScope s_best_ticks) := ⟨rfl, rfl, rfl, by decide +kernel, rfl, by decide +kernel, by decide +kernel⟩
--DEF reach_rows
abbrev s_reach_rows : Stmt := topS 36
theorem sc_reach_rows : FnScope ["ticks", "far"] ["ticks"] (defScope s_reach_rows) := ⟨rfl, rfl, rfl, by decide +kernel, rfl, by decide +kernel, by decide +kernel⟩
--DEF reach
abbrev s_reach : Stmt := topS 37
theorem sc_reach : FnScope ["ticks"] ["ticks"] (defScope s_reach) := ⟨rfl, rfl, rfl, by decide +kernel, rfl, by decide +kernel, by decide +kernel⟩
--DEF _law_turnpike
abbrev s__law_turnpike : Stmt := topS 39
theorem sc__law_turnpike : FnScope ["_law_script", "_law_cell"] ["_law_script"] (defScope s__law_turnpike) := ⟨rfl, rfl, rfl, by decide +kernel, rfl, by decide +kernel, by decide +kernel⟩
--DEF _law_toll
abbrev s__law_toll : Stmt := topS 40
theorem sc__law_toll : FnScope ["_law_turnpike_here", "_law_many", "_law_rest", "_law_at", "_law_cell", "_law_mixed"] ["_law_turnpike_here", "_law_many"] (defScope s__law_toll) := ⟨rfl, rfl, rfl, by decide +kernel, rfl, by decide +kernel, by decide +kernel⟩
--DEF _law_coin
abbrev s__law_coin : Stmt := topS 41
theorem sc__law_coin : FnScope ["_law_turnpike_here", "_law_some"] ["_law_turnpike_here", "_law_some"] (defScope s__law_coin) := ⟨rfl, rfl, rfl, by decide +kernel, rfl, by decide +kernel, by decide +kernel⟩
--DEF law
abbrev s_law : Stmt := topS 42
theorem sc_law : FnScope ["_law_script", "_law_turnpike_here", "_law_turn", "_law_far", "_law_ticks", "_law_before", "_law_found", "_law_first", "_law_most", "_law_rows", "_law_later", "_law_grown", "_law_total", "_law_each", "_law_at", "_law_share", "_law_one", "_law_two", "_law_tick"] ["_law_script"] (defScope s_law) := ⟨rfl, rfl, rfl, by decide +kernel, rfl, by decide +kernel, by decide +kernel⟩
--SEC
section
variable {P : Program} {w : World} {K : PySem.W.Frag} {mg : Str → Option Value} {base : Heap}
--OK is_integer
def rel_is_integer : List PyData → PyData → Prop := fun ds r => ∃ d, ds = [d] ∧ r = .bool (isI d)
set_option maxHeartbeats 4000000 in
theorem ok_is_integer {f_is_integer : Addr} {fd_is_integer : FuncData} (F : Fun K "is_integer" "is_integer" s_is_integer f_is_integer fd_is_integer) (m_isinstance : mg "isinstance" = none)
    (m_int : mg "int" = none)
    (m_bool : mg "bool" = none) :
    FnOk P w K mg base CX0 1 f_is_integer fd_is_integer ["value"] (spPure K rel_is_integer) := by
  refine F.ok sc_is_integer (fun vs H Q E h => ?_) (fun cdv A outer s H vs Q E hr h => ?_)
  · obtain ⟨ds, r, hd, hr0, _⟩ := h; obtain ⟨d, rfl, rfl⟩ := hr0; exact isD_len hd
  · obtain ⟨ds, r, hd, hr0, q⟩ := h
    obtain ⟨d, rfl, rfl⟩ := hr0
    obtain ⟨x0, rfl, h0⟩ := dal1 (W := W0) (dpl0 _ _ hd)
    refine ⟨_, (pss_one (ps_ret (pe_and (pe_callB (id := "isinstance") (r := rIsi K) call_isi (by rfl) m_isinstance (by decide +kernel) (pa_cons (pv 0) (pa_cons (pe_bltn (v := .ty "int") (by rfl) m_int (by decide +kernel) rfl) pa_nil))) (pe_one (pe_not (pe_callB (id := "isinstance") (r := rIsi K) call_isi (by rfl) m_isinstance (by decide +kernel) (pa_cons (pv 0) (pa_cons (pe_bltn (v := .ty "bool") (by rfl) m_bool (by decide +kernel) rfl) pa_nil)))))))), ?_⟩
    refine' pure_ret (ExM.refl) q (JD.eq ?j ?e) ?kc
    case j => walk_at "j"
    case e => (cases d <;> rfl)
    case kc => decide
--OK is_within
local macro_rules | `(tactic| walk_at "rel") => `(tactic| exact ⟨_, rfl, rfl⟩)
def rel_is_within : List PyData → PyData → Prop := fun ds r => ∃ d lo hi, ds = [d, lo, hi] ∧ (lo = .none ∨ ∃ i, lo = .int i) ∧ (hi = .none ∨ ∃ i, hi = .int i) ∧ r = .bool (within d lo hi)
set_option maxHeartbeats 4000000 in
theorem ok_is_within {f_is_within : Addr} {fd_is_within : FuncData} (F : Fun K "is_within" "is_within" s_is_within f_is_within fd_is_within) {f_is_integer : Addr} {fd_is_integer : FuncData} (G_is_integer : FnOk P w K mg base CX0 1 f_is_integer fd_is_integer ["value"] (spPure K rel_is_integer)) (g_is_integer : mg "is_integer" = some (.ref f_is_integer)) (k_is_integer : PySem.W.keepIn K (.ref f_is_integer) = true) (b_is_integer : Binds K fd_is_integer ["value"] []) :
    FnOk P w K mg base CX0 2 f_is_within fd_is_within ["value", "least", "most"] (spPure K rel_is_within) := by
  refine F.ok sc_is_within (fun vs H Q E h => ?_) (fun cdv A outer s H vs Q E hr h => ?_)
  · obtain ⟨ds, r, hd, hr0, _⟩ := h; obtain ⟨d, lo, hi, rfl, hlo, hhi, rfl⟩ := hr0; exact isD_len hd
  · obtain ⟨ds, r, hd, hr0, q⟩ := h
    obtain ⟨d, lo, hi, rfl, hlo, hhi, rfl⟩ := hr0
    obtain ⟨x0, x1, x2, rfl, h0, h1, h2⟩ := dal3 (W := W0) (dpl0 _ _ hd)
    refine ⟨_, (pss_cons (ps_if (pt_not (pt_val (pe_call G_is_integer (hr.mono (by decide)) (by rfl) g_is_integer k_is_integer b_is_integer .nil pass0 (pa_cons (pv 0) pa_nil))))
      (pss_one (ps_ret pe_bl))
      pss_nil)
    (pss_one (ps_ret (pe_and (pe_or (pe_cmpR op_isN (pv 1) pe_non (nomark _)) (pe_one (pe_cmpR op_le (pv 1) (pv 0) (nomark _)))) (pe_one (pe_or (pe_cmpR op_isN (pv 2) pe_non (nomark _)) (pe_one (pe_cmpR op_le (pv 0) (pv 2) (nomark _))))))))), ?_⟩
    refine' st_if0 (K := K) (b := !isI d) (JB.eq ?jt ?jr) ?kc (fun hb H1 e1 => ?m1) (fun hb H1 e1 => ?m2)
    case jt => walk_at "jt"
    case jr => rfl
    case kc => decide
    case m1 =>
      refine' pure_ret e1 q (JD.eq ?j ?e) ?kc
      case j => walk_at "j"
      case e => (rw [Bool.not_eq_true'] at hb; unfold within; rw [hb]; rfl)
      case kc => decide
    case m2 =>
      cases d with
      | int i =>
        rcases hlo with rfl | ⟨lo, rfl⟩ <;> rcases hhi with rfl | ⟨hi, rfl⟩ <;> walk_at "ret"
      | _ => exact absurd hb (by simp [isI])
--OK are_integers
local macro_rules | `(tactic| walk_at "rel") => `(tactic| exact ⟨_, rfl, rfl⟩)
def rel_are_integers : List PyData → PyData → Prop := fun ds r => ∃ d n, ds = [d, .int n] ∧ (itemsD d).length < 100000 ∧ r = .bool (areI d n)
set_option maxHeartbeats 4000000 in
theorem ok_are_integers {f_are_integers : Addr} {fd_are_integers : FuncData} (F : Fun K "are_integers" "are_integers" s_are_integers f_are_integers fd_are_integers) (m_all : mg "all" = none)
    {f_is_integer : Addr} {fd_is_integer : FuncData} (G_is_integer : FnOk P w K mg base CX0 1 f_is_integer fd_is_integer ["value"] (spPure K rel_is_integer)) (g_is_integer : mg "is_integer" = some (.ref f_is_integer)) (k_is_integer : PySem.W.keepIn K (.ref f_is_integer) = true) (b_is_integer : Binds K fd_is_integer ["value"] [])
    (m_isinstance : mg "isinstance" = none)
    (m_tuple : mg "tuple" = none)
    (m_list : mg "list" = none)
    (m_len : mg "len" = none) :
    FnOk P w K mg base CX0 2 f_are_integers fd_are_integers ["value", "many"] (spPure K rel_are_integers) := by
  refine F.ok sc_are_integers (fun vs H Q E h => ?_) (fun cdv A outer s H vs Q E hr h => ?_)
  · obtain ⟨ds, r, hd, hr0, _⟩ := h; obtain ⟨d, n, rfl, hl, rfl⟩ := hr0; exact isD_len hd
  · obtain ⟨ds, r, hd, hr0, q⟩ := h
    obtain ⟨d, n, rfl, hl, rfl⟩ := hr0
    obtain ⟨x0, x1, rfl, h0, h1⟩ := dal2 (W := W0) (dpl0 _ _ hd)
    refine ⟨_, (pss_cons (ps_if (PW.pt (pw_or (pt_not (pt_val (pe_callB (id := "isinstance") (r := rIsiT K) call_isiT (by rfl) m_isinstance (by decide +kernel) (pa_cons (pv 0) (pa_cons (pe_tup (pa_cons (pe_bltn (v := .ty "list") (by rfl) m_list (by decide +kernel) rfl) (pa_cons (pe_bltn (v := .ty "tuple") (by rfl) m_tuple (by decide +kernel) rfl) pa_nil))) pa_nil))))) (pw_or1 (pt_cmpR op_ne (pe_callB (id := "len") (r := (fun xs H Q => ∃ p ys, xs = [.ref p] ∧ (SqL K H p ys ∨ SqT K H p ys) ∧ Q (.int ys.length) H)) call_len_seq (by rfl) m_len (by decide +kernel) (pa_cons (pv 0) pa_nil)) (pv 1) (nomark _)))))
      (pss_one (ps_ret pe_bl))
      pss_nil)
    (pss_one (ps_ret (pe_callB (id := "all") (r := rAll K) (cr_all rfl) (by rfl) m_all (by decide +kernel) (pa_cons (pe_lc (own := [("each", 2)]) (g := gName 2) (tt := tYes) rfl sc_are_integers.nd (pi_seq (pv 0)) (blkOk_by (N := ["value", "many", "each"]) (sc := defScope s_are_integers) (by decide +kernel)) (fun _ _ _ _ _ => pg_name (i := 2) sc_are_integers.nd rfl (Or.inl rfl)) (fun _ _ _ _ _ => pts_nil) (fun _ _ _ _ _ => (pe_call G_is_integer (hr.mono (by decide)) (by rfl) g_is_integer k_is_integer b_is_integer .nil pass0 (pa_cons (pv 2) pa_nil)))) pa_nil))))), ?_⟩
    refine' st_if0 (K := K) (b := !(isLst d || isTup d) || !decide ((lenD d : Int) = n)) (JB.eq ?jt ?jr) ?kc (fun hb H1 e1 => ?m1) (fun hb H1 e1 => ?m2)
    case jt => (cases h1; walk_at "jt")
    case jr => rfl
    case kc => decide
    case m1 =>
      refine' pure_ret e1 q (JD.eq ?j ?e) ?kc
      case j => walk_at "j"
      case e => (rw [seq_or] at hb; unfold areI; revert hb; cases isSeq d <;> cases decide ((lenD d : Int) = n) <;> simp)
      case kc => decide
    case m2 =>
      rw [seq_or] at hb
      have hs : isSeq d = true := by revert hb; cases isSeq d <;> simp
      have hn : decide ((lenD d : Int) = n) = true := by revert hb; cases decide ((lenD d : Int) = n) <;> simp
      (first | refine st_nx ?_ | refine nx_mk ?_)
      refine' pure_ret e1 q (JD.eq (jd_all (bs := (itemsD d).map isI) ?j) ?e) ?kc
      case j =>
        refine' ja_cons (JD.eq (jd_lc1 (fun d => .bool (isI d)) ?k1 hs rfl hl (fun x => rfl) ?he ?hn) ?eq) ja_nil
        case k1 => walk_at "j"
        case he => intro d' x H2 _ e2 hx; refine' jd0 ?j3 rfl ?l3; (case j3 => walk_at "j"); (case l3 => decide)
        case hn => intro _ _; rfl
        case eq => rw [List.map_map]; rfl
      case e => (unfold areI; rw [hs, hn, List.all_map]; rfl)
      case kc => decide
--OK is_fraction
local macro_rules | `(tactic| walk_at "rel") => `(tactic| exact ⟨_, _, rfl, by assumption, rfl⟩)
local macro_rules | `(tactic| walk_at "atx") => `(tactic| (simp only [*]; rfl))
def rel_is_fraction : List PyData → PyData → Prop := fun ds r => ∃ d, ds = [d] ∧ (itemsD d).length < 100000 ∧ r = .bool (isFrB d)
set_option maxHeartbeats 4000000 in
theorem ok_is_fraction {f_is_fraction : Addr} {fd_is_fraction : FuncData} (F : Fun K "is_fraction" "is_fraction" s_is_fraction f_is_fraction fd_is_fraction) {f_are_integers : Addr} {fd_are_integers : FuncData} (G_are_integers : FnOk P w K mg base CX0 2 f_are_integers fd_are_integers ["value", "many"] (spPure K rel_are_integers)) (g_are_integers : mg "are_integers" = some (.ref f_are_integers)) (k_are_integers : PySem.W.keepIn K (.ref f_are_integers) = true) (b_are_integers : Binds K fd_are_integers ["value", "many"] [])
    (g_gcd : mg "gcd" = some (.builtin "math.gcd")) :
    FnOk P w K mg base CX0 3 f_is_fraction fd_is_fraction ["value"] (spPure K rel_is_fraction) := by
  refine F.ok sc_is_fraction (fun vs H Q E h => ?_) (fun cdv A outer s H vs Q E hr h => ?_)
  · obtain ⟨ds, r, hd, hr0, _⟩ := h; obtain ⟨d, rfl, hl, rfl⟩ := hr0; exact isD_len hd
  · obtain ⟨ds, r, hd, hr0, q⟩ := h
    obtain ⟨d, rfl, hl, rfl⟩ := hr0
    obtain ⟨x0, rfl, h0⟩ := dal1 (W := W0) (dpl0 _ _ hd)
    refine ⟨_, (pss_one (ps_ret (pe_and (pe_call G_are_integers (hr.mono (by decide)) (by rfl) g_are_integers k_are_integers b_are_integers .nil pass0 (pa_cons (pv 0) (pa_cons pe_int pa_nil))) (pe_and (pe_cmpR op_gt (pe_ix (r := rIx K) ix_seq (pv 0) pe_int (fun _ _ => rfl)) pe_int (nomark _)) (pe_one (pe_cmpR op_eq (pe_callBfun cr_gcd (by rfl) g_gcd (pa_cons (pe_ix (r := rIx K) ix_seq (pv 0) pe_int (fun _ _ => rfl)) (pa_cons (pe_ix (r := rIx K) ix_seq (pv 0) pe_int (fun _ _ => rfl)) pa_nil))) pe_int (nomark _))))))), ?_⟩
    by_cases hB : areI d 2 = true
    · obtain ⟨a, b, hs, hi⟩ := areI2 hB
      refine' pure_ret ExM.refl q (JD.eq ?j ?e) ?kc
      case j => walk_at "j"
      case e => (rw [isFrB_pair hs hi, hB, Bool.true_and])
      case kc => decide
    · rw [Bool.not_eq_true] at hB
      refine' pure_ret ExM.refl q (JD.eq (jd_andV (JD.eq ?j1 ?e1) (fun hyp => (Bool.noConfusion (show false = true from hyp) : JD K W0 _ _ _ 0 (.bool true)))) ?e) ?kc
      case j1 => walk_at "j"
      case e1 => rw [hB]
      case e => (rw [isFrB_not hB]; rfl)
      case kc => decide
--OK need_number
local macro_rules | `(tactic| walk_at "rel") => `(tactic| exact ⟨_, _, _, rfl, by assumption, by assumption, rfl⟩)
def rel_need_number : List PyData → PyData → Prop := fun ds r => ∃ d p lo hi, ds = [d, p, lo, hi] ∧ (lo = .none ∨ ∃ i, lo = .int i) ∧ (hi = .none ∨ ∃ i, hi = .int i) ∧ within d lo hi = true ∧ r = .none
set_option maxHeartbeats 4000000 in
theorem ok_need_number {f_need_number : Addr} {fd_need_number : FuncData} (F : Fun K "need_number" "need_number" s_need_number f_need_number fd_need_number) {f_is_within : Addr} {fd_is_within : FuncData} (G_is_within : FnOk P w K mg base CX0 2 f_is_within fd_is_within ["value", "least", "most"] (spPure K rel_is_within)) (g_is_within : mg "is_within" = some (.ref f_is_within)) (k_is_within : PySem.W.keepIn K (.ref f_is_within) = true) (b_is_within : Binds K fd_is_within ["value", "least", "most"] []) :
    FnOk P w K mg base CX0 3 f_need_number fd_need_number ["value", "part", "least", "most"] (spPure K rel_need_number) := by
  refine F.ok sc_need_number (fun vs H Q E h => ?_) (fun cdv A outer s H vs Q E hr h => ?_)
  · obtain ⟨ds, r, hd, hr0, _⟩ := h; obtain ⟨d, p, lo, hi, rfl, hlo, hhi, hw, rfl⟩ := hr0; exact isD_len hd
  · obtain ⟨ds, r, hd, hr0, q⟩ := h
    obtain ⟨d, p, lo, hi, rfl, hlo, hhi, hw, rfl⟩ := hr0
    obtain ⟨x0, x1, x2, x3, rfl, h0, h1, h2, h3⟩ := dal4 (W := W0) (dpl0 _ _ hd)
    refine ⟨_, (pss_one (ps_if (pt_not (pt_val (pe_call G_is_within (hr.mono (by decide)) (by rfl) g_is_within k_is_within b_is_within .nil pass0 (pa_cons (pv 0) (pa_cons (pv 2) (pa_cons (pv 3) pa_nil))))))
      (pss_one ps_never)
      pss_nil)), ?_⟩
    refine' st_if0 (K := K) (b := !within d lo hi) (JB.eq ?jt ?jr) ?kc (fun hb H1 e1 => ?m1) (fun hb H1 e1 => ?m2)
    case jt => walk_at "jt"
    case jr => rfl
    case kc => decide
    case m1 => (rw [hw] at hb; cases hb)
    case m2 => exact q .non H1 (ex0 e1) .non
--OK need_fraction
local macro_rules | `(tactic| walk_at "rel") => `(tactic| exact ⟨_, rfl, by assumption, rfl⟩)
def rel_need_fraction : List PyData → PyData → Prop := fun ds r => ∃ d p x, ds = [d, p] ∧ isFr d x ∧ r = frD x
set_option maxHeartbeats 4000000 in
theorem ok_need_fraction {f_need_fraction : Addr} {fd_need_fraction : FuncData} (F : Fun K "need_fraction" "need_fraction" s_need_fraction f_need_fraction fd_need_fraction) {f_is_fraction : Addr} {fd_is_fraction : FuncData} (G_is_fraction : FnOk P w K mg base CX0 3 f_is_fraction fd_is_fraction ["value"] (spPure K rel_is_fraction)) (g_is_fraction : mg "is_fraction" = some (.ref f_is_fraction)) (k_is_fraction : PySem.W.keepIn K (.ref f_is_fraction) = true) (b_is_fraction : Binds K fd_is_fraction ["value"] []) :
    FnOk P w K mg base CX0 4 f_need_fraction fd_need_fraction ["value", "part"] (spPure K rel_need_fraction) := by
  refine F.ok sc_need_fraction (fun vs H Q E h => ?_) (fun cdv A outer s H vs Q E hr h => ?_)
  · obtain ⟨ds, r, hd, hr0, _⟩ := h; obtain ⟨d, p, x, rfl, hx, rfl⟩ := hr0; exact isD_len hd
  · obtain ⟨ds, r, hd, hr0, q⟩ := h
    obtain ⟨d, p, x, rfl, hx, rfl⟩ := hr0
    obtain ⟨x0, x1, rfl, h0, h1⟩ := dal2 (W := W0) (dpl0 _ _ hd)
    refine ⟨_, (pss_cons (ps_if (pt_not (pt_val (pe_call G_is_fraction (hr.mono (by decide)) (by rfl) g_is_fraction k_is_fraction b_is_fraction .nil pass0 (pa_cons (pv 0) pa_nil))))
      (pss_one ps_never)
      pss_nil)
    (pss_one (ps_ret (pe_tup (pa_cons (pe_ix (r := rIx K) ix_seq (pv 0) pe_int (fun _ _ => rfl)) (pa_cons (pe_ix (r := rIx K) ix_seq (pv 0) pe_int (fun _ _ => rfl)) pa_nil)))))), ?_⟩
    have hl : (itemsD d).length < 100000 := by rw [hx.2]; show 2 < _; decide
    refine' st_if0 (K := K) (b := !isFrB d) (JB.eq ?jt ?jr) ?kc (fun hb H1 e1 => ?m1) (fun hb H1 e1 => ?m2)
    case jt => walk_at "jt"
    case jr => rfl
    case kc => decide
    case m1 => (rw [isFrB_of hx] at hb; cases hb)
    case m2 => walk_at "ret"
--OK least_pair
local macro_rules | `(tactic| walk_at "jc") => `(tactic| exact gcd_small (by assumption) (by assumption) _)
def rel_least_pair : List PyData → PyData → Prop := fun ds r => ∃ u w : Int, ds = [.int u, .int w] ∧ w ≠ 0 ∧ w.natAbs < 2 ^ 8999 ∧ r = frD (Rat.divInt u w)
set_option maxHeartbeats 4000000 in
theorem ok_least_pair {f_least_pair : Addr} {fd_least_pair : FuncData} (F : Fun K "least_pair" "least_pair" s_least_pair f_least_pair fd_least_pair) (g_gcd : mg "gcd" = some (.builtin "math.gcd")) :
    FnOk P w K mg base CX0 1 f_least_pair fd_least_pair ["up", "down"] (spPure K rel_least_pair) := by
  refine F.ok sc_least_pair (fun vs H Q E h => ?_) (fun cdv A outer s H vs Q E hr h => ?_)
  · obtain ⟨ds, r, hd, hr0, _⟩ := h; obtain ⟨u, w, rfl, hw, hz, rfl⟩ := hr0; exact isD_len hd
  · obtain ⟨ds, r, hd, hr0, q⟩ := h
    obtain ⟨u, w, rfl, hw, hz, rfl⟩ := hr0
    obtain ⟨x0, x1, rfl, h0, h1⟩ := dal2 (W := W0) (dpl0 _ _ hd)
    refine ⟨_, (pss_cons (ps_set (i := 2) sc_least_pair.nd rfl (.inl rfl) (pe_ifExp (pt_cmpR op_gt (pv 1) pe_int (nomark _)) (pe_callBfun cr_gcd (by rfl) g_gcd (pa_cons (pv 0) (pa_cons (pv 1) pa_nil))) (pe_un un_neg (pe_callBfun cr_gcd (by rfl) g_gcd (pa_cons (pv 0) (pa_cons (pv 1) pa_nil))))))
    (pss_one (ps_ret (pe_tup (pa_cons (pe_op op_fdivA (pv 0) (pv 2)) (pa_cons (pe_op op_fdivA (pv 1) (pv 2)) pa_nil)))))), ?_⟩
    refine' st_set0 (P := fun v H2 => Da K W0 H2 v (.int (if w > 0 then (Nat.gcd u.natAbs w.natAbs : Nat) else -(Nat.gcd u.natAbs w.natAbs : Nat)))) (c := 0) ?j (by decide) (fun v H1 e1 hv => ?m1)
    case j =>
      cases h0; cases h1
      refine' J.le (j_if (K := K) (c1 := 0) ?t ?g1 ?g2) ?l
      case t => walk_at "jt"
      case g1 => (intro hb; refine' jd0 ?j1 ?e1 ?l1; (case j1 => walk_at "j"); (case e1 => rw [if_pos (of_decide_eq_true hb)]); (case l1 => decide))
      case g2 => (intro hb; refine' jd0 ?j2 ?e2 ?l2; (case j2 => walk_at "j"); (case e2 => rw [if_neg (of_decide_eq_false hb)]); (case l2 => decide))
      case l => decide
    case m1 =>
      have hv2 := hv.int
      subst hv2
      cases h0; cases h1
      (first | refine st_nx ?_ | refine nx_mk ?_)
      refine' pure_ret e1 q (JD.eq ?j ?e) ?kc
      case j => walk_at "j"
      case e => exact lp_eq u w hw
      case kc => decide
--OK both
local macro_rules | `(tactic| walk_at "rel") => `(tactic| exact ⟨_, _, rfl, mul_ne (den_ne _) (den_ne _), den_small (by assumption) (by assumption), rfl⟩)
def rel_both : List PyData → PyData → Prop := fun ds r => ∃ d e p x, ds = [d, e] ∧ isFr d p ∧ isFr e x ∧ Bd p 4000 ∧ Bd x 4000 ∧ r = frD (p + x)
set_option maxHeartbeats 4000000 in
theorem ok_both {f_both : Addr} {fd_both : FuncData} (F : Fun K "both" "both" s_both f_both fd_both) {f_least_pair : Addr} {fd_least_pair : FuncData} (G_least_pair : FnOk P w K mg base CX0 1 f_least_pair fd_least_pair ["up", "down"] (spPure K rel_least_pair)) (g_least_pair : mg "least_pair" = some (.ref f_least_pair)) (k_least_pair : PySem.W.keepIn K (.ref f_least_pair) = true) (b_least_pair : Binds K fd_least_pair ["up", "down"] []) :
    FnOk P w K mg base CX0 2 f_both fd_both ["one", "other"] (spPure K rel_both) := by
  refine F.ok sc_both (fun vs H Q E h => ?_) (fun cdv A outer s H vs Q E hr h => ?_)
  · obtain ⟨ds, r, hd, hr0, _⟩ := h; obtain ⟨d, e, p, x, rfl, hd1, he1, hp, hq, rfl⟩ := hr0; exact isD_len hd
  · obtain ⟨ds, r, hd, hr0, q⟩ := h
    obtain ⟨d, e, p, x, rfl, hd1, he1, hp, hq, rfl⟩ := hr0
    obtain ⟨x0, x1, rfl, h0, h1⟩ := dal2 (W := W0) (dpl0 _ _ hd)
    refine ⟨_, (pss_one (ps_ret (pe_call G_least_pair (hr.mono (by decide)) (by rfl) g_least_pair k_least_pair b_least_pair .nil pass0 (pa_cons (pe_op op_add (pe_op op_mulW (pe_ix (r := rIx K) ix_seq (pv 0) pe_int (fun _ _ => rfl)) (pe_ix (r := rIx K) ix_seq (pv 1) pe_int (fun _ _ => rfl))) (pe_op op_mulW (pe_ix (r := rIx K) ix_seq (pv 1) pe_int (fun _ _ => rfl)) (pe_ix (r := rIx K) ix_seq (pv 0) pe_int (fun _ _ => rfl)))) (pa_cons (pe_op op_mulW (pe_ix (r := rIx K) ix_seq (pv 0) pe_int (fun _ _ => rfl)) (pe_ix (r := rIx K) ix_seq (pv 1) pe_int (fun _ _ => rfl))) pa_nil))))), ?_⟩
    have hp1 := hp.1
    have hp2 : (p.den : Int).natAbs < 2 ^ 4000 := hp.2
    have hq1 := hq.1
    have hq2 : (x.den : Int).natAbs < 2 ^ 4000 := hq.2
    
    refine' pure_ret (ExM.refl) q (JD.eq ?j ?e) ?kc
    case j => walk_at "j"
    case e => rw [add_lp]
    case kc => decide
--OK times
def rel_times : List PyData → PyData → Prop := fun ds r => ∃ d e p x, ds = [d, e] ∧ isFr d p ∧ isFr e x ∧ Bd p 4000 ∧ Bd x 4000 ∧ r = frD (p * x)
set_option maxHeartbeats 4000000 in
theorem ok_times {f_times : Addr} {fd_times : FuncData} (F : Fun K "times" "times" s_times f_times fd_times) {f_least_pair : Addr} {fd_least_pair : FuncData} (G_least_pair : FnOk P w K mg base CX0 1 f_least_pair fd_least_pair ["up", "down"] (spPure K rel_least_pair)) (g_least_pair : mg "least_pair" = some (.ref f_least_pair)) (k_least_pair : PySem.W.keepIn K (.ref f_least_pair) = true) (b_least_pair : Binds K fd_least_pair ["up", "down"] []) :
    FnOk P w K mg base CX0 2 f_times fd_times ["one", "other"] (spPure K rel_times) := by
  refine F.ok sc_times (fun vs H Q E h => ?_) (fun cdv A outer s H vs Q E hr h => ?_)
  · obtain ⟨ds, r, hd, hr0, _⟩ := h; obtain ⟨d, e, p, x, rfl, hd1, he1, hp, hq, rfl⟩ := hr0; exact isD_len hd
  · obtain ⟨ds, r, hd, hr0, q⟩ := h
    obtain ⟨d, e, p, x, rfl, hd1, he1, hp, hq, rfl⟩ := hr0
    obtain ⟨x0, x1, rfl, h0, h1⟩ := dal2 (W := W0) (dpl0 _ _ hd)
    refine ⟨_, (pss_one (ps_ret (pe_call G_least_pair (hr.mono (by decide)) (by rfl) g_least_pair k_least_pair b_least_pair .nil pass0 (pa_cons (pe_op op_mulW (pe_ix (r := rIx K) ix_seq (pv 0) pe_int (fun _ _ => rfl)) (pe_ix (r := rIx K) ix_seq (pv 1) pe_int (fun _ _ => rfl))) (pa_cons (pe_op op_mulW (pe_ix (r := rIx K) ix_seq (pv 0) pe_int (fun _ _ => rfl)) (pe_ix (r := rIx K) ix_seq (pv 1) pe_int (fun _ _ => rfl))) pa_nil))))), ?_⟩
    have hp1 := hp.1
    have hp2 : (p.den : Int).natAbs < 2 ^ 4000 := hp.2
    have hq1 := hq.1
    have hq2 : (x.den : Int).natAbs < 2 ^ 4000 := hq.2
    
    refine' pure_ret (ExM.refl) q (JD.eq ?j ?e) ?kc
    case j => walk_at "j"
    case e => rw [mul_lp]
    case kc => decide
--OK turned
def rel_turned : List PyData → PyData → Prop := fun ds r => ∃ d p, ds = [d] ∧ isFr d p ∧ r = frD (-p)
set_option maxHeartbeats 4000000 in
theorem ok_turned {f_turned : Addr} {fd_turned : FuncData} (F : Fun K "turned" "turned" s_turned f_turned fd_turned)  :
    FnOk P w K mg base CX0 1 f_turned fd_turned ["one"] (spPure K rel_turned) := by
  refine F.ok sc_turned (fun vs H Q E h => ?_) (fun cdv A outer s H vs Q E hr h => ?_)
  · obtain ⟨ds, r, hd, hr0, _⟩ := h; obtain ⟨d, p, rfl, hd1, rfl⟩ := hr0; exact isD_len hd
  · obtain ⟨ds, r, hd, hr0, q⟩ := h
    obtain ⟨d, p, rfl, hd1, rfl⟩ := hr0
    obtain ⟨x0, rfl, h0⟩ := dal1 (W := W0) (dpl0 _ _ hd)
    refine ⟨_, (pss_one (ps_ret (pe_tup (pa_cons (pe_un un_neg (pe_ix (r := rIx K) ix_seq (pv 0) pe_int (fun _ _ => rfl))) (pa_cons (pe_ix (r := rIx K) ix_seq (pv 0) pe_int (fun _ _ => rfl)) pa_nil))))), ?_⟩
    refine' pure_ret (ExM.refl) q (JD.eq ?j ?e) ?kc
    case j => walk_at "j"
    case e => rfl
    case kc => decide
--OK is_less
def rel_is_less : List PyData → PyData → Prop := fun ds r => ∃ d e p x, ds = [d, e] ∧ isFr d p ∧ isFr e x ∧ Bd p 4000 ∧ Bd x 4000 ∧ r = .bool (decide (p < x))
set_option maxHeartbeats 4000000 in
theorem ok_is_less {f_is_less : Addr} {fd_is_less : FuncData} (F : Fun K "is_less" "is_less" s_is_less f_is_less fd_is_less)  :
    FnOk P w K mg base CX0 1 f_is_less fd_is_less ["one", "other"] (spPure K rel_is_less) := by
  refine F.ok sc_is_less (fun vs H Q E h => ?_) (fun cdv A outer s H vs Q E hr h => ?_)
  · obtain ⟨ds, r, hd, hr0, _⟩ := h; obtain ⟨d, e, p, x, rfl, hd1, he1, hp, hq, rfl⟩ := hr0; exact isD_len hd
  · obtain ⟨ds, r, hd, hr0, q⟩ := h
    obtain ⟨d, e, p, x, rfl, hd1, he1, hp, hq, rfl⟩ := hr0
    obtain ⟨x0, x1, rfl, h0, h1⟩ := dal2 (W := W0) (dpl0 _ _ hd)
    refine ⟨_, (pss_one (ps_ret (pe_cmpR op_lt (pe_op op_mulW (pe_ix (r := rIx K) ix_seq (pv 0) pe_int (fun _ _ => rfl)) (pe_ix (r := rIx K) ix_seq (pv 1) pe_int (fun _ _ => rfl))) (pe_op op_mulW (pe_ix (r := rIx K) ix_seq (pv 1) pe_int (fun _ _ => rfl)) (pe_ix (r := rIx K) ix_seq (pv 0) pe_int (fun _ _ => rfl))) (nomark _)))), ?_⟩
    have hp1 := hp.1
    have hp2 : (p.den : Int).natAbs < 2 ^ 4000 := hp.2
    have hq1 := hq.1
    have hq2 : (x.den : Int).natAbs < 2 ^ 4000 := hq.2
    
    refine' pure_ret (ExM.refl) q (JD.eq ?j ?e) ?kc
    case j => walk_at "j"
    case e => rw [lt_lp]
    case kc => decide
--OK total_of
def rel_total_of : List PyData → PyData → Prop := fun ds r => ∃ (d : PyData) (qs : List Rat), ds = [d] ∧ isSeq d = true ∧ itemsD d = qs.map frD ∧ (∀ x ∈ qs, Bd x 4000) ∧ (∀ k, Bd (qs.take k).sum 4000) ∧ r = frD qs.sum
set_option maxHeartbeats 4000000 in
theorem ok_total_of {f_total_of : Addr} {fd_total_of : FuncData} (F : Fun K "total_of" "total_of" s_total_of f_total_of fd_total_of) {f_both : Addr} {fd_both : FuncData} (G_both : FnOk P w K mg base CX0 2 f_both fd_both ["one", "other"] (spPure K rel_both)) (g_both : mg "both" = some (.ref f_both)) (k_both : PySem.W.keepIn K (.ref f_both) = true) (b_both : Binds K fd_both ["one", "other"] [])
    {a_NOUGHT : Addr} (g_NOUGHT : mg "NOUGHT" = some (.ref a_NOUGHT)) (w_NOUGHT : WrT K a_NOUGHT [.int 0, .int 1]) :
    FnOk P w K mg base CX0 3 f_total_of fd_total_of ["fractions"] (spPure K rel_total_of) := by
  refine F.ok sc_total_of (fun vs H Q E h => ?_) (fun cdv A outer s H vs Q E hr h => ?_)
  · obtain ⟨ds, r, hd, hr0, _⟩ := h; obtain ⟨d, qs, rfl, hs, hi, hb, hk, rfl⟩ := hr0; exact isD_len hd
  · obtain ⟨ds, r, hd, hr0, q⟩ := h
    obtain ⟨d, qs, rfl, hs, hi, hb, hk, rfl⟩ := hr0
    obtain ⟨x0, rfl, h0⟩ := dal1 (W := W0) (dpl0 _ _ hd)
    refine ⟨_, (pss_cons (ps_set (i := 1) sc_total_of.nd rfl (.inl rfl) (pe_glob (v := .ref a_NOUGHT) (by rfl) g_NOUGHT rfl))
    (pss_cons (ps_for PassesOwn.never rfl (pi_seq (pv 0)) (pg_name (i := 2) sc_total_of.nd rfl (.inl rfl))
      (pss_one (ps_set (i := 1) sc_total_of.nd rfl (.inl rfl) (pe_call G_both (hr.mono (by decide)) (by rfl) g_both k_both b_both .nil pass0 (pa_cons (pv 1) (pa_cons (pv 2) pa_nil))))))
    (pss_one (ps_ret (pv 1))))), ?_⟩
    refine' st_set0 (P := fun v H2 => Da K W0 H2 v (frD 0)) (jd_nought w_NOUGHT) (Nat.zero_le _) (fun v H1 e1 hv => ?k1)
    case k1 =>
    walk_at "nx"
    refine' st_forN (K := K) (W := W0) (n := 0) (ds := qs.map frD) trivial (JIt.eq (ji_seq (jd_v rfl (h0.mono e1)) hs) hi) (Nat.zero_le _)
      (fun H2 i σ' H' => ExM W0.M H2 H' ∧ Same H H' ∧ ∃ vf y2, σ' = [some x0, some vf, y2] ∧ Da K W0 H' vf (frD (qs.take i).sum))
      (fun H2 e2 _ => ⟨ExM.refl, ex0 (e1.trans e2), v, _, rfl, hv.mono e2⟩) (fun H2 i σ' H' hp => ⟨hp.1, 0, trivial⟩) ?turn ?done
    case turn =>
      rintro H2 i d2 x σ' H' H'' e2 hd2 ⟨eM, sM, vf, y2, rfl, hf⟩ s hx
      rw [List.getElem?_map] at hd2
      cases ht : qs[i]? with
      | none => rw [ht] at hd2; cases hd2
      | some t =>
        rw [ht] at hd2
        have ed := Option.some.inj hd2
        subst ed
        have hbt := hb t (List.mem_of_getElem? ht)
        refine' st_set0 (P := fun v H2 => Da K W0 H2 v (frD (qs.take (i + 1)).sum)) (JD.eq (jd_call (rel := rel_both) (ja_cons (jd_v rfl (hf.mono (.of s))) (ja_cons (jd_v rfl hx) ja_nil)) ⟨_, _, _, _, rfl, isFr_D _, isFr_D _, hk i, hbt, rfl⟩ rfl) (by rw [take_sum ht])) (Nat.zero_le _) (fun v2 H3 e3 hv3 => ?k2)
        case k2 => exact ⟨eM.trans (.of (s.trans (ex0 e3))), sM.trans (s.trans (ex0 e3)), v2, _, rfl, hv3⟩
    case done =>
      rintro H2 σ' H' e2 ⟨eM, sM, vf, y2, rfl, hf⟩
      walk_at "nx"
      refine' pure_ret (H0 := H) (.of sM) q (JD.eq (jd_v rfl hf) ?z4) (Nat.zero_le _)
      case z4 => rw [List.length_map, List.take_length]
--OK added
local macro_rules | `(tactic| walk_at "rel") => `(tactic| first | exact ⟨_, _, _, rfl, by assumption, rfl⟩ | exact ⟨_, _, rfl, isFr_D _, rfl⟩ | exact ⟨_, _, _, _, rfl, isFr_D _, isFr_D _, by assumption, by first | assumption | exact Bd.neg (by assumption), rfl⟩)
def rel_added : List PyData → PyData → Prop := fun ds r => ∃ d e p x, ds = [d, e] ∧ isFr d p ∧ isFr e x ∧ Bd p 4000 ∧ Bd x 4000 ∧ r = frD (p + x)
set_option maxHeartbeats 4000000 in
theorem ok_added {f_added : Addr} {fd_added : FuncData} (F : Fun K "added" "added" s_added f_added fd_added) {f_both : Addr} {fd_both : FuncData} (G_both : FnOk P w K mg base CX0 2 f_both fd_both ["one", "other"] (spPure K rel_both)) (g_both : mg "both" = some (.ref f_both)) (k_both : PySem.W.keepIn K (.ref f_both) = true) (b_both : Binds K fd_both ["one", "other"] [])
    {f_need_fraction : Addr} {fd_need_fraction : FuncData} (G_need_fraction : FnOk P w K mg base CX0 4 f_need_fraction fd_need_fraction ["value", "part"] (spPure K rel_need_fraction)) (g_need_fraction : mg "need_fraction" = some (.ref f_need_fraction)) (k_need_fraction : PySem.W.keepIn K (.ref f_need_fraction) = true) (b_need_fraction : Binds K fd_need_fraction ["value", "part"] []) :
    FnOk P w K mg base CX0 5 f_added fd_added ["one", "other"] (spPure K rel_added) := by
  refine F.ok sc_added (fun vs H Q E h => ?_) (fun cdv A outer s H vs Q E hr h => ?_)
  · obtain ⟨ds, r, hd, hr0, _⟩ := h; obtain ⟨d, e, p, x, rfl, hd1, he1, hp, hq, rfl⟩ := hr0; exact isD_len hd
  · obtain ⟨ds, r, hd, hr0, q⟩ := h
    obtain ⟨d, e, p, x, rfl, hd1, he1, hp, hq, rfl⟩ := hr0
    obtain ⟨x0, x1, rfl, h0, h1⟩ := dal2 (W := W0) (dpl0 _ _ hd)
    refine ⟨_, (pss_one (ps_ret (pe_call G_both (hr.mono (by decide)) (by rfl) g_both k_both b_both .nil pass0 (pa_cons (pe_call G_need_fraction (hr.mono (by decide)) (by rfl) g_need_fraction k_need_fraction b_need_fraction .nil pass0 (pa_cons (pv 0) (pa_cons pe_str pa_nil))) (pa_cons (pe_call G_need_fraction (hr.mono (by decide)) (by rfl) g_need_fraction k_need_fraction b_need_fraction .nil pass0 (pa_cons (pv 1) (pa_cons pe_str pa_nil))) pa_nil))))), ?_⟩
    refine' pure_ret (ExM.refl) q (JD.eq ?j ?e) ?kc
    case j => walk_at "j"
    case e => first | rfl | rw [Rat.sub_eq_add_neg]
    case kc => decide
--OK less
local macro_rules | `(tactic| walk_at "rel") => `(tactic| first | exact ⟨_, _, _, rfl, by assumption, rfl⟩ | exact ⟨_, _, rfl, isFr_D _, rfl⟩ | exact ⟨_, _, _, _, rfl, isFr_D _, isFr_D _, by assumption, by first | assumption | exact Bd.neg (by assumption), rfl⟩)
def rel_less : List PyData → PyData → Prop := fun ds r => ∃ d e p x, ds = [d, e] ∧ isFr d p ∧ isFr e x ∧ Bd p 4000 ∧ Bd x 4000 ∧ r = frD (p - x)
set_option maxHeartbeats 4000000 in
theorem ok_less {f_less : Addr} {fd_less : FuncData} (F : Fun K "less" "less" s_less f_less fd_less) {f_both : Addr} {fd_both : FuncData} (G_both : FnOk P w K mg base CX0 2 f_both fd_both ["one", "other"] (spPure K rel_both)) (g_both : mg "both" = some (.ref f_both)) (k_both : PySem.W.keepIn K (.ref f_both) = true) (b_both : Binds K fd_both ["one", "other"] [])
    {f_turned : Addr} {fd_turned : FuncData} (G_turned : FnOk P w K mg base CX0 1 f_turned fd_turned ["one"] (spPure K rel_turned)) (g_turned : mg "turned" = some (.ref f_turned)) (k_turned : PySem.W.keepIn K (.ref f_turned) = true) (b_turned : Binds K fd_turned ["one"] [])
    {f_need_fraction : Addr} {fd_need_fraction : FuncData} (G_need_fraction : FnOk P w K mg base CX0 4 f_need_fraction fd_need_fraction ["value", "part"] (spPure K rel_need_fraction)) (g_need_fraction : mg "need_fraction" = some (.ref f_need_fraction)) (k_need_fraction : PySem.W.keepIn K (.ref f_need_fraction) = true) (b_need_fraction : Binds K fd_need_fraction ["value", "part"] []) :
    FnOk P w K mg base CX0 5 f_less fd_less ["one", "other"] (spPure K rel_less) := by
  refine F.ok sc_less (fun vs H Q E h => ?_) (fun cdv A outer s H vs Q E hr h => ?_)
  · obtain ⟨ds, r, hd, hr0, _⟩ := h; obtain ⟨d, e, p, x, rfl, hd1, he1, hp, hq, rfl⟩ := hr0; exact isD_len hd
  · obtain ⟨ds, r, hd, hr0, q⟩ := h
    obtain ⟨d, e, p, x, rfl, hd1, he1, hp, hq, rfl⟩ := hr0
    obtain ⟨x0, x1, rfl, h0, h1⟩ := dal2 (W := W0) (dpl0 _ _ hd)
    refine ⟨_, (pss_one (ps_ret (pe_call G_both (hr.mono (by decide)) (by rfl) g_both k_both b_both .nil pass0 (pa_cons (pe_call G_need_fraction (hr.mono (by decide)) (by rfl) g_need_fraction k_need_fraction b_need_fraction .nil pass0 (pa_cons (pv 0) (pa_cons pe_str pa_nil))) (pa_cons (pe_call G_turned (hr.mono (by decide)) (by rfl) g_turned k_turned b_turned .nil pass0 (pa_cons (pe_call G_need_fraction (hr.mono (by decide)) (by rfl) g_need_fraction k_need_fraction b_need_fraction .nil pass0 (pa_cons (pv 1) (pa_cons pe_str pa_nil))) pa_nil)) pa_nil))))), ?_⟩
    refine' pure_ret (ExM.refl) q (JD.eq ?j ?e) ?kc
    case j => walk_at "j"
    case e => first | rfl | rw [Rat.sub_eq_add_neg]
    case kc => decide
--OK multiplied
local macro_rules | `(tactic| walk_at "rel") => `(tactic| first | exact ⟨_, _, _, rfl, by assumption, rfl⟩ | exact ⟨_, _, rfl, isFr_D _, rfl⟩ | exact ⟨_, _, _, _, rfl, isFr_D _, isFr_D _, by assumption, by first | assumption | exact Bd.neg (by assumption), rfl⟩)
def rel_multiplied : List PyData → PyData → Prop := fun ds r => ∃ d e p x, ds = [d, e] ∧ isFr d p ∧ isFr e x ∧ Bd p 4000 ∧ Bd x 4000 ∧ r = frD (p * x)
set_option maxHeartbeats 4000000 in
theorem ok_multiplied {f_multiplied : Addr} {fd_multiplied : FuncData} (F : Fun K "multiplied" "multiplied" s_multiplied f_multiplied fd_multiplied) {f_times : Addr} {fd_times : FuncData} (G_times : FnOk P w K mg base CX0 2 f_times fd_times ["one", "other"] (spPure K rel_times)) (g_times : mg "times" = some (.ref f_times)) (k_times : PySem.W.keepIn K (.ref f_times) = true) (b_times : Binds K fd_times ["one", "other"] [])
    {f_need_fraction : Addr} {fd_need_fraction : FuncData} (G_need_fraction : FnOk P w K mg base CX0 4 f_need_fraction fd_need_fraction ["value", "part"] (spPure K rel_need_fraction)) (g_need_fraction : mg "need_fraction" = some (.ref f_need_fraction)) (k_need_fraction : PySem.W.keepIn K (.ref f_need_fraction) = true) (b_need_fraction : Binds K fd_need_fraction ["value", "part"] []) :
    FnOk P w K mg base CX0 5 f_multiplied fd_multiplied ["one", "other"] (spPure K rel_multiplied) := by
  refine F.ok sc_multiplied (fun vs H Q E h => ?_) (fun cdv A outer s H vs Q E hr h => ?_)
  · obtain ⟨ds, r, hd, hr0, _⟩ := h; obtain ⟨d, e, p, x, rfl, hd1, he1, hp, hq, rfl⟩ := hr0; exact isD_len hd
  · obtain ⟨ds, r, hd, hr0, q⟩ := h
    obtain ⟨d, e, p, x, rfl, hd1, he1, hp, hq, rfl⟩ := hr0
    obtain ⟨x0, x1, rfl, h0, h1⟩ := dal2 (W := W0) (dpl0 _ _ hd)
    refine ⟨_, (pss_one (ps_ret (pe_call G_times (hr.mono (by decide)) (by rfl) g_times k_times b_times .nil pass0 (pa_cons (pe_call G_need_fraction (hr.mono (by decide)) (by rfl) g_need_fraction k_need_fraction b_need_fraction .nil pass0 (pa_cons (pv 0) (pa_cons pe_str pa_nil))) (pa_cons (pe_call G_need_fraction (hr.mono (by decide)) (by rfl) g_need_fraction k_need_fraction b_need_fraction .nil pass0 (pa_cons (pv 1) (pa_cons pe_str pa_nil))) pa_nil))))), ?_⟩
    refine' pure_ret (ExM.refl) q (JD.eq ?j ?e) ?kc
    case j => walk_at "j"
    case e => first | rfl | rw [Rat.sub_eq_add_neg]
    case kc => decide
--OK below
local macro_rules | `(tactic| walk_at "rel") => `(tactic| first | exact ⟨_, _, _, rfl, by assumption, rfl⟩ | exact ⟨_, _, rfl, isFr_D _, rfl⟩ | exact ⟨_, _, _, _, rfl, isFr_D _, isFr_D _, by assumption, by first | assumption | exact Bd.neg (by assumption), rfl⟩)
def rel_below : List PyData → PyData → Prop := fun ds r => ∃ d e p x, ds = [d, e] ∧ isFr d p ∧ isFr e x ∧ Bd p 4000 ∧ Bd x 4000 ∧ r = .bool (decide (p < x))
set_option maxHeartbeats 4000000 in
theorem ok_below {f_below : Addr} {fd_below : FuncData} (F : Fun K "below" "below" s_below f_below fd_below) {f_is_less : Addr} {fd_is_less : FuncData} (G_is_less : FnOk P w K mg base CX0 1 f_is_less fd_is_less ["one", "other"] (spPure K rel_is_less)) (g_is_less : mg "is_less" = some (.ref f_is_less)) (k_is_less : PySem.W.keepIn K (.ref f_is_less) = true) (b_is_less : Binds K fd_is_less ["one", "other"] [])
    {f_need_fraction : Addr} {fd_need_fraction : FuncData} (G_need_fraction : FnOk P w K mg base CX0 4 f_need_fraction fd_need_fraction ["value", "part"] (spPure K rel_need_fraction)) (g_need_fraction : mg "need_fraction" = some (.ref f_need_fraction)) (k_need_fraction : PySem.W.keepIn K (.ref f_need_fraction) = true) (b_need_fraction : Binds K fd_need_fraction ["value", "part"] []) :
    FnOk P w K mg base CX0 5 f_below fd_below ["one", "other"] (spPure K rel_below) := by
  refine F.ok sc_below (fun vs H Q E h => ?_) (fun cdv A outer s H vs Q E hr h => ?_)
  · obtain ⟨ds, r, hd, hr0, _⟩ := h; obtain ⟨d, e, p, x, rfl, hd1, he1, hp, hq, rfl⟩ := hr0; exact isD_len hd
  · obtain ⟨ds, r, hd, hr0, q⟩ := h
    obtain ⟨d, e, p, x, rfl, hd1, he1, hp, hq, rfl⟩ := hr0
    obtain ⟨x0, x1, rfl, h0, h1⟩ := dal2 (W := W0) (dpl0 _ _ hd)
    refine ⟨_, (pss_one (ps_ret (pe_call G_is_less (hr.mono (by decide)) (by rfl) g_is_less k_is_less b_is_less .nil pass0 (pa_cons (pe_call G_need_fraction (hr.mono (by decide)) (by rfl) g_need_fraction k_need_fraction b_need_fraction .nil pass0 (pa_cons (pv 0) (pa_cons pe_str pa_nil))) (pa_cons (pe_call G_need_fraction (hr.mono (by decide)) (by rfl) g_need_fraction k_need_fraction b_need_fraction .nil pass0 (pa_cons (pv 1) (pa_cons pe_str pa_nil))) pa_nil))))), ?_⟩
    refine' pure_ret (ExM.refl) q (JD.eq ?j ?e) ?kc
    case j => walk_at "j"
    case e => first | rfl | rw [Rat.sub_eq_add_neg]
    case kc => decide
--OK choices
local macro_rules | `(tactic| walk_at "jc") => `(tactic| first | assumption | (refine Or.inr ⟨?_, ?_⟩ <;> omega) | (show CDiv _ _; refine ⟨?_, ?_⟩ <;> omega))
def rel_choices : List PyData → PyData → Prop := fun ds r => ∃ m k : Nat, ds = [.int m, .int k] ∧ m ≤ 400 ∧ k ≤ 400 ∧ r = .int (ch m k)
set_option maxHeartbeats 4000000 in
theorem ok_choices {f_choices : Addr} {fd_choices : FuncData} (F : Fun K "choices" "choices" s_choices f_choices fd_choices) (m_range : mg "range" = none) :
    FnOk P w K mg base CX0 1 f_choices fd_choices ["many", "some"] (spPure K rel_choices) := by
  refine F.ok sc_choices (fun vs H Q E h => ?_) (fun cdv A outer s H vs Q E hr h => ?_)
  · obtain ⟨ds, r, hd, hr0, _⟩ := h; obtain ⟨m, k, rfl, hm, hk, rfl⟩ := hr0; exact isD_len hd
  · obtain ⟨ds, r, hd, hr0, q⟩ := h
    obtain ⟨m, k, rfl, hm, hk, rfl⟩ := hr0
    obtain ⟨x0, x1, rfl, h0, h1⟩ := dal2 (W := W0) (dpl0 _ _ hd)
    refine ⟨_, (pss_cons (ps_set (i := 2) sc_choices.nd rfl (.inl rfl) pe_int)
    (pss_cons (ps_for PassesOwn.never rfl (pi_range1 (by rfl) m_range (pa_cons (pv 1) pa_nil)) (pg_name (i := 3) sc_choices.nd rfl (.inl rfl))
      (pss_one (ps_set (i := 2) sc_choices.nd rfl (.inl rfl) (pe_op op_fdiv (pe_op op_mul (pv 2) (pe_op op_sub (pv 0) (pv 3))) (pe_op op_add (pv 3) pe_int)))))
    (pss_one (ps_ret (pv 2))))), ?_⟩
    cases h0; cases h1
    refine' st_setI0 (K := K) (z' := ch m 0) ?j1 ?z1 ?l1 (fun H1 e1 => ?k1)
    case j1 => walk_at "j"
    case z1 => rw [ch_zero]
    case l1 => decide
    case k1 =>
    walk_at "nx"
    refine' st_forR (K := K) (W := W0) (n := 0) trivial (ja_cons (jd_vi (k := (k : Int)) rfl) ja_nil) (by decide) ⟨by omega, by omega⟩ (fun i σ' H' => ∃ y, σ' = [some (.int m), some (.int k), some (.int (ch m i)), y] ∧ Same H H') (fun H2 e2 _ => ⟨_, rfl, ex0 (e1.trans e2)⟩) ?turn ?done
    case turn =>
      rintro i σ' H' hi ⟨y, rfl, s⟩
      refine' st_setI0 (K := K) (z' := ch m (i + 1)) ?j2 ?z2 ?l2 (fun H3 e3 => ?k2)
      case j2 => walk_at "j"
      case z2 => exact ch_div m i
      case l2 => decide
      case k2 => exact ⟨_, rfl, s.trans (ex0 e3)⟩
    case done =>
      rintro σ' H' ⟨y, rfl, s⟩
      walk_at "nx"
      refine' pure_ret (H0 := H) (.of s) q (JD.eq ?j3 ?z3) ?l3
      case j3 => walk_at "j"
      case z3 => rfl
      case l3 => decide
--OK rows_to
local macro_rules | `(tactic| walk_at "jc") => `(tactic| first | assumption | (show (0 : Int) < _; decide) | exact (⟨by decide, by decide⟩ : CDiv _ 2))
local macro_rules | `(tactic| walk_at "rel") => `(tactic| exact ⟨_, _, rfl, by assumption, by assumption, rfl⟩)
def rel_rows_to : List PyData → PyData → Prop := fun ds r => ∃ (x : Int) (t : Nat), ds = [.int x, .int t] ∧ t ≤ 400 ∧ r = .int (wk t x)
set_option maxHeartbeats 4000000 in
theorem ok_rows_to {f_rows_to : Addr} {fd_rows_to : FuncData} (F : Fun K "rows_to" "rows_to" s_rows_to f_rows_to fd_rows_to) {f_choices : Addr} {fd_choices : FuncData} (G_choices : FnOk P w K mg base CX0 1 f_choices fd_choices ["many", "some"] (spPure K rel_choices)) (g_choices : mg "choices" = some (.ref f_choices)) (k_choices : PySem.W.keepIn K (.ref f_choices) = true) (b_choices : Binds K fd_choices ["many", "some"] [])
    (m_abs : mg "abs" = none) :
    FnOk P w K mg base CX0 2 f_rows_to fd_rows_to ["far", "ticks"] (spPure K rel_rows_to) := by
  refine F.ok sc_rows_to (fun vs H Q E h => ?_) (fun cdv A outer s H vs Q E hr h => ?_)
  · obtain ⟨ds, r, hd, hr0, _⟩ := h; obtain ⟨x, t, rfl, ht, rfl⟩ := hr0; exact isD_len hd
  · obtain ⟨ds, r, hd, hr0, q⟩ := h
    obtain ⟨x, t, rfl, ht, rfl⟩ := hr0
    obtain ⟨x0, x1, rfl, h0, h1⟩ := dal2 (W := W0) (dpl0 _ _ hd)
    refine ⟨_, (pss_cons (ps_if (PW.pt (pw_or (pt_cmpR op_gt (pe_callB (id := "abs") call_abs (by rfl) m_abs (by decide +kernel) (pa_cons (pv 0) pa_nil)) (pv 1) (nomark _)) (pw_or1 (pt_cmpR op_eq (pe_op op_mod (pe_op op_add (pv 0) (pv 1)) pe_int) pe_int (nomark _)))))
      (pss_one (ps_ret pe_int))
      pss_nil)
    (pss_one (ps_ret (pe_call G_choices (hr.mono (by decide)) (by rfl) g_choices k_choices b_choices .nil pass0 (pa_cons (pv 1) (pa_cons (pe_op op_fdiv (pe_op op_sub (pv 1) (pe_callB (id := "abs") call_abs (by rfl) m_abs (by decide +kernel) (pa_cons (pv 0) pa_nil))) pe_int) pa_nil)))))), ?_⟩
    cases h0; cases h1
    refine' st_if0 (K := K) (b := decide ((t : Int) < (if x < 0 then -x else x)) || decide ((x + t) % 2 = 1)) (JB.eq ?jt ?jr) ?kc (fun hb H1 e1 => ?m1) (fun hb H1 e1 => ?m2)
    case jt => walk_at "jt"
    case jr => rfl
    case kc => decide
    case m1 =>
      refine' pure_ret e1 q (JD.eq ?j1 ?z1) ?l1
      case j1 => walk_at "j"
      case z1 =>
        rw [Bool.or_eq_true, decide_eq_true_eq, decide_eq_true_eq] at hb
        rcases hb with hb | hb
        · rw [wk_far t x (by split at hb <;> omega)]
        · rw [wk_par t x hb]
      case l1 => decide
    case m2 =>
      walk_at "nx"
      rw [Bool.or_eq_false_iff, decide_eq_false_iff_not, decide_eq_false_iff_not] at hb
      have hk : ((((t : Int) - (if x < 0 then -x else x)) / 2).toNat) ≤ 400 := by split <;> omega
      have hk2 : ((t : Int) - (if x < 0 then -x else x)) / 2 = (((((t : Int) - (if x < 0 then -x else x)) / 2).toNat : Nat) : Int) := by
        have := hb.1
        split at this <;> rename_i hx <;> simp only [hx, if_true, if_false] <;> omega
      refine' pure_ret e1 q (JD.eq (jd_call (rel := rel_choices) (ja_cons ?j2 (ja_cons (JD.eq ?j3 (congrArg PyData.int hk2)) ja_nil)) ⟨t, _, rfl, ht, hk, rfl⟩ rfl) ?z2) ?l2
      case j2 => walk_at "j"
      case j3 => walk_at "j"
      case z2 => rw [wk_rows t x hb.1 hb.2]
      case l2 => decide
--OK share_in
local macro_rules | `(tactic| walk_at "rel") => `(tactic| exact ⟨_, _, rfl, by assumption, rfl⟩)
def rel_share_in : List PyData → PyData → Prop := fun ds r => ∃ (x : Int) (t : Nat), ds = [.int x, .int t] ∧ t ≤ 400 ∧ r = frD (PP t x)
set_option maxHeartbeats 4000000 in
theorem ok_share_in {f_share_in : Addr} {fd_share_in : FuncData} (F : Fun K "share_in" "share_in" s_share_in f_share_in fd_share_in) {f_least_pair : Addr} {fd_least_pair : FuncData} (G_least_pair : FnOk P w K mg base CX0 1 f_least_pair fd_least_pair ["up", "down"] (spPure K rel_least_pair)) (g_least_pair : mg "least_pair" = some (.ref f_least_pair)) (k_least_pair : PySem.W.keepIn K (.ref f_least_pair) = true) (b_least_pair : Binds K fd_least_pair ["up", "down"] [])
    {f_rows_to : Addr} {fd_rows_to : FuncData} (G_rows_to : FnOk P w K mg base CX0 2 f_rows_to fd_rows_to ["far", "ticks"] (spPure K rel_rows_to)) (g_rows_to : mg "rows_to" = some (.ref f_rows_to)) (k_rows_to : PySem.W.keepIn K (.ref f_rows_to) = true) (b_rows_to : Binds K fd_rows_to ["far", "ticks"] []) :
    FnOk P w K mg base CX0 3 f_share_in fd_share_in ["far", "ticks"] (spPure K rel_share_in) := by
  refine F.ok sc_share_in (fun vs H Q E h => ?_) (fun cdv A outer s H vs Q E hr h => ?_)
  · obtain ⟨ds, r, hd, hr0, _⟩ := h; obtain ⟨x, t, rfl, ht, rfl⟩ := hr0; exact isD_len hd
  · obtain ⟨ds, r, hd, hr0, q⟩ := h
    obtain ⟨x, t, rfl, ht, rfl⟩ := hr0
    obtain ⟨x0, x1, rfl, h0, h1⟩ := dal2 (W := W0) (dpl0 _ _ hd)
    refine ⟨_, (pss_one (ps_ret (pe_call G_least_pair (hr.mono (by decide)) (by rfl) g_least_pair k_least_pair b_least_pair .nil pass0 (pa_cons (pe_call G_rows_to (hr.mono (by decide)) (by rfl) g_rows_to k_rows_to b_rows_to .nil pass0 (pa_cons (pv 0) (pa_cons (pv 1) pa_nil))) (pa_cons (pe_op op_shl pe_int (pv 1)) pa_nil))))), ?_⟩
    cases h0; cases h1
    have h2 : CPow 1 (t : Int) := ⟨by omega, by omega, by decide⟩
    have h3 : (1 : Int) * 2 ^ (t : Int).toNat = 2 ^ t := by rw [Int.one_mul]; rfl
    refine' pure_ret ExM.refl q (jd_call (rel := rel_least_pair) (ja_cons ?j1 (ja_cons (JD.eq ?j2 (congrArg PyData.int h3)) ja_nil)) ⟨_, _, rfl, pow2_ne t, pow2_lt ht, rfl⟩ rfl) ?l1
    case j1 => walk_at "j"
    case j2 => walk_at "j"
    case l1 => decide
--OK share_of
local macro_rules | `(tactic| walk_at "rel") => `(tactic| first | exact ⟨_, _, rfl, by assumption, rfl⟩ | exact ⟨_, _, rfl, by assumption, by assumption, rfl⟩ | exact ⟨_, _, _, _, rfl, .inr ⟨_, rfl⟩, .inr ⟨_, rfl⟩, by assumption, rfl⟩)
def rel_share_of : List PyData → PyData → Prop := fun ds r => ∃ (x : Int) (t : Nat), ds = [.int x, .int t] ∧ (-400 ≤ x ∧ x ≤ 400) ∧ t ≤ 400 ∧ r = frD (PP t x)
set_option maxHeartbeats 4000000 in
theorem ok_share_of {f_share_of : Addr} {fd_share_of : FuncData} (F : Fun K "share_of" "share_of" s_share_of f_share_of fd_share_of) {f_share_in : Addr} {fd_share_in : FuncData} (G_share_in : FnOk P w K mg base CX0 3 f_share_in fd_share_in ["far", "ticks"] (spPure K rel_share_in)) (g_share_in : mg "share_in" = some (.ref f_share_in)) (k_share_in : PySem.W.keepIn K (.ref f_share_in) = true) (b_share_in : Binds K fd_share_in ["far", "ticks"] [])
    {f_need_number : Addr} {fd_need_number : FuncData} (G_need_number : FnOk P w K mg base CX0 3 f_need_number fd_need_number ["value", "part", "least", "most"] (spPure K rel_need_number)) (g_need_number : mg "need_number" = some (.ref f_need_number)) (k_need_number : PySem.W.keepIn K (.ref f_need_number) = true) (b_need_number : Binds K fd_need_number ["value", "part", "least", "most"] [])
    {t_MOST_FAR : Tok} (g_MOST_FAR : mg "MOST_FAR" = some (.int 400 t_MOST_FAR)) :
    FnOk P w K mg base CX0 4 f_share_of fd_share_of ["far", "ticks"] (spPure K rel_share_of) := by
  refine F.ok sc_share_of (fun vs H Q E h => ?_) (fun cdv A outer s H vs Q E hr h => ?_)
  · obtain ⟨ds, r, hd, hr0, _⟩ := h; obtain ⟨x, t, rfl, hx, ht, rfl⟩ := hr0; exact isD_len hd
  · obtain ⟨ds, r, hd, hr0, q⟩ := h
    obtain ⟨x, t, rfl, hx, ht, rfl⟩ := hr0
    obtain ⟨x0, x1, rfl, h0, h1⟩ := dal2 (W := W0) (dpl0 _ _ hd)
    refine ⟨_, (pss_cons (ps_expr (pe_call G_need_number (hr.mono (by decide)) (by rfl) g_need_number k_need_number b_need_number .nil pass0 (pa_cons (pv 0) (pa_cons pe_str (pa_cons (pe_un un_neg (pe_glob (v := .int 400) (by rfl) g_MOST_FAR ⟨_, rfl⟩)) (pa_cons (pe_glob (v := .int 400) (by rfl) g_MOST_FAR ⟨_, rfl⟩) pa_nil))))))
    (pss_cons (ps_expr (pe_call G_need_number (hr.mono (by decide)) (by rfl) g_need_number k_need_number b_need_number .nil pass0 (pa_cons (pv 1) (pa_cons pe_str (pa_cons pe_int (pa_cons (pe_glob (v := .int 400) (by rfl) g_MOST_FAR ⟨_, rfl⟩) pa_nil))))))
    (pss_one (ps_ret (pe_call G_share_in (hr.mono (by decide)) (by rfl) g_share_in k_share_in b_share_in .nil pass0 (pa_cons (pv 0) (pa_cons (pv 1) pa_nil))))))), ?_⟩
    cases h0; cases h1
    have w1 : within (.int x) (.int (-400)) (.int 400) = true := by simp [within, isI, leD, isNoneD]; omega
    have w2 : within (.int t) (.int 0) (.int 400) = true := by simp [within, isI, leD, isNoneD]; omega
    
    refine' st_drop (W := W0) (n := 0) trivial (?j1 : JD K W0 _ _ _ _ .none) ?l1 (fun H1 e1 _ => ?m1)
    case j1 => walk_at "j"
    case l1 => decide
    case m1 =>
    walk_at "nx"
    
    refine' st_drop (W := W0) (n := 0) trivial (?j2 : JD K W0 _ _ _ _ .none) ?l2 (fun H2 e2 _ => ?m2)
    case j2 => walk_at "j"
    case l2 => decide
    case m2 =>
    walk_at "nx"
    
    refine' pure_ret (e1.trans e2) q (JD.eq ?j3 ?z3) ?l3
    case j3 => walk_at "j"
    case z3 => rfl
    case l3 => decide
--OK first_in
local macro_rules | `(tactic| walk_at "jc") => `(tactic| first | assumption | (refine Or.inl ⟨?_, ?_⟩ <;> omega))
local macro_rules | `(tactic| walk_at "rel") => `(tactic| exact ⟨_, _, rfl, by assumption, rfl⟩)
def rel_first_in : List PyData → PyData → Prop := fun ds r => ∃ (x t : Nat), ds = [.int x, .int t] ∧ (1 ≤ x ∧ x ≤ 401) ∧ t ≤ 400 ∧ r = frD (FF t x)
set_option maxHeartbeats 4000000 in
theorem ok_first_in {f_first_in : Addr} {fd_first_in : FuncData} (F : Fun K "first_in" "first_in" s_first_in f_first_in fd_first_in) {f_least_pair : Addr} {fd_least_pair : FuncData} (G_least_pair : FnOk P w K mg base CX0 1 f_least_pair fd_least_pair ["up", "down"] (spPure K rel_least_pair)) (g_least_pair : mg "least_pair" = some (.ref f_least_pair)) (k_least_pair : PySem.W.keepIn K (.ref f_least_pair) = true) (b_least_pair : Binds K fd_least_pair ["up", "down"] [])
    {f_rows_to : Addr} {fd_rows_to : FuncData} (G_rows_to : FnOk P w K mg base CX0 2 f_rows_to fd_rows_to ["far", "ticks"] (spPure K rel_rows_to)) (g_rows_to : mg "rows_to" = some (.ref f_rows_to)) (k_rows_to : PySem.W.keepIn K (.ref f_rows_to) = true) (b_rows_to : Binds K fd_rows_to ["far", "ticks"] [])
    {a_NOUGHT : Addr} (g_NOUGHT : mg "NOUGHT" = some (.ref a_NOUGHT)) (w_NOUGHT : WrT K a_NOUGHT [.int 0, .int 1]) :
    FnOk P w K mg base CX0 3 f_first_in fd_first_in ["far", "ticks"] (spPure K rel_first_in) := by
  refine F.ok sc_first_in (fun vs H Q E h => ?_) (fun cdv A outer s H vs Q E hr h => ?_)
  · obtain ⟨ds, r, hd, hr0, _⟩ := h; obtain ⟨x, t, rfl, hx, ht, rfl⟩ := hr0; exact isD_len hd
  · obtain ⟨ds, r, hd, hr0, q⟩ := h
    obtain ⟨x, t, rfl, hx, ht, rfl⟩ := hr0
    obtain ⟨x0, x1, rfl, h0, h1⟩ := dal2 (W := W0) (dpl0 _ _ hd)
    refine ⟨_, (pss_cons (ps_if (pt_cmpR op_lt (pv 1) (pv 0) (nomark _))
      (pss_one (ps_ret (pe_glob (v := .ref a_NOUGHT) (by rfl) g_NOUGHT rfl)))
      pss_nil)
    (pss_one (ps_ret (pe_call G_least_pair (hr.mono (by decide)) (by rfl) g_least_pair k_least_pair b_least_pair .nil pass0 (pa_cons (pe_op op_mul (pv 0) (pe_call G_rows_to (hr.mono (by decide)) (by rfl) g_rows_to k_rows_to b_rows_to .nil pass0 (pa_cons (pv 0) (pa_cons (pv 1) pa_nil)))) (pa_cons (pe_op op_mul (pv 1) (pe_op op_shl pe_int (pv 1))) pa_nil)))))), ?_⟩
    cases h0; cases h1
    refine' st_ifn (K := K) (b := decide ((t : Int) < x)) (JB.eq ?jt ?jr) ?kc (fun hb H1 e1 => ?m1) (fun hb H1 e1 => ?m2)
    case jt => walk_at "jt"
    case jr => rfl
    case kc => decide
    case m1 =>
      have hlt : t < x := by have := of_decide_eq_true hb; omega
      refine' pure_ret e1 q (JD.eq (jd_nought w_NOUGHT) ?z1) (Nat.zero_le _)
      case z1 => rw [FF_far hlt]; rfl
    case m2 =>
      walk_at "nx"
      have hle : x ≤ t := by have := of_decide_eq_false hb; omega
      have h2 : CPow 1 (t : Int) := ⟨by omega, by omega, by decide⟩
      have h3 : (t : Int) * ((1 : Int) * 2 ^ (t : Int).toNat) = t * 2 ^ t := by rw [Int.one_mul]; rfl
      refine' pure_ret e1 q (JD.eq (jd_call (rel := rel_least_pair) (ja_cons ?j1 (ja_cons (JD.eq ?j2 (congrArg PyData.int h3)) ja_nil)) ⟨_, _, rfl, mul_ne (by omega) (pow2_ne t), pow2_mul_lt ht, rfl⟩ rfl) ?z2) ?l1
      case j1 => walk_at "j"
      case j2 => walk_at "j"
      case z2 => rw [FF_eq (by omega)]
      case l1 => decide
--OK shares_to
local macro_rules | `(tactic| walk_at "rel") => `(tactic| exact ⟨_, _, rfl, ⟨by omega, by omega⟩, by omega, rfl⟩)
def rel_shares_to : List PyData → PyData → Prop := fun ds r => ∃ (x m : Nat), ds = [.int x, .int m] ∧ (1 ≤ x ∧ x ≤ 401) ∧ m ≤ 400 ∧ r = .list (shD x m)
set_option maxHeartbeats 4000000 in
theorem ok_shares_to {f_shares_to : Addr} {fd_shares_to : FuncData} (F : Fun K "shares_to" "shares_to" s_shares_to f_shares_to fd_shares_to) (m_range : mg "range" = none)
    {f_first_in : Addr} {fd_first_in : FuncData} (G_first_in : FnOk P w K mg base CX0 3 f_first_in fd_first_in ["far", "ticks"] (spPure K rel_first_in)) (g_first_in : mg "first_in" = some (.ref f_first_in)) (k_first_in : PySem.W.keepIn K (.ref f_first_in) = true) (b_first_in : Binds K fd_first_in ["far", "ticks"] []) :
    FnOk P w K mg base CX0 4 f_shares_to fd_shares_to ["far", "most"] (spPure K rel_shares_to) := by
  refine F.ok sc_shares_to (fun vs H Q E h => ?_) (fun cdv A outer s H vs Q E hr h => ?_)
  · obtain ⟨ds, r, hd, hr0, _⟩ := h; obtain ⟨x, m, rfl, hx, hm, rfl⟩ := hr0; exact isD_len hd
  · obtain ⟨ds, r, hd, hr0, q⟩ := h
    obtain ⟨x, m, rfl, hx, hm, rfl⟩ := hr0
    obtain ⟨x0, x1, rfl, h0, h1⟩ := dal2 (W := W0) (dpl0 _ _ hd)
    refine ⟨_, (pss_one (ps_ret (pe_lc (own := [("ticks", 2)]) (g := gName 2) (tt := tYes) rfl sc_shares_to.nd (pi_range3 (by rfl) m_range (pa_cons (pv 0) (pa_cons (pe_op op_add (pv 1) pe_int) (pa_cons pe_int pa_nil)))) (blkOk_by (N := ["far", "most", "ticks"]) (sc := defScope s_shares_to) (by decide +kernel)) (fun _ _ _ _ _ => pg_name (i := 2) sc_shares_to.nd rfl (Or.inl rfl)) (fun _ _ _ _ _ => pts_nil) (fun _ _ _ _ _ => (pe_tup (pa_cons (pv 2) (pa_cons (pe_call G_first_in (hr.mono (by decide)) (by rfl) g_first_in k_first_in b_first_in .nil pass0 (pa_cons (pv 0) (pa_cons (pv 2) pa_nil))) pa_nil))))))), ?_⟩
    cases h0; cases h1
    refine' pure_ret ExM.refl q (JD.eq (nl_da (jl_lcN (K := K) (ds := stepsD x 2 (((m : Int) + 2 - x) / 2).toNat) (fun d => .tuple [d, frD (FF (natD d) x)]) (ji_r3 (ja_cons ?j1 (ja_cons ?j2 (ja_cons ?j3 ja_nil))) ?rg) ?l1 (fun y => rfl) ?he ?hn)) ?z1) ?l2
    case j1 => exact jd_vi rfl
    case j2 => walk_at "j"
    case j3 => walk_at "j"
    case rg =>
      have h := rgc2 (a := (x : Int)) (b := (m : Int) + 1) (by omega) (by omega) (by omega) (by omega)
      rw [show (m : Int) + 1 + 1 - x = (m : Int) + 2 - x by omega] at h
      exact h
    case l1 => (simp only [stepsD, List.length_map, List.length_range]; omega)
    case he =>
      intro d y H1 hmem e1 hy
      obtain ⟨k, hk, rfl⟩ := List.mem_map.mp hmem
      rw [List.mem_range] at hk
      have ek : (x : Int) + (k : Int) * 2 = ((x + 2 * k : Nat) : Int) := by omega
      rw [ek] at hy ⊢
      cases hy
      have hb : x + 2 * k ≤ 400 := by omega
      refine' jd0 (jd_tup (ja_cons ?v1 (ja_cons (jd_call (rel := rel_first_in) (ja_cons ?v2 (ja_cons ?v3 ja_nil)) ⟨x, x + 2 * k, rfl, hx, hb, rfl⟩ rfl) ja_nil)) (by show 2 ≤ 100000; decide)) rfl ?v4
      case v1 => exact jd_vi rfl
      case v2 => exact jd_vi rfl
      case v3 => exact jd_vi rfl
      case v4 => decide
    case hn => intro d hmem; obtain ⟨k, hk, rfl⟩ := List.mem_map.mp hmem; rfl
    case z1 =>
      unfold stepsD shD ts
      rw [List.map_map, List.map_map]
      congr 1
      refine List.map_congr_left fun k _ => ?_
      show PyData.tuple [.int ((x : Int) + (k : Int) * 2), frD (FF (natD (.int ((x : Int) + (k : Int) * 2))) x)] = .tuple [.int ((x + 2 * k : Nat) : Int), frD (FF (x + 2 * k) x)]
      rw [show (x : Int) + (k : Int) * 2 = ((x + 2 * k : Nat) : Int) by omega]
      rfl
    case l2 => decide
--OK greatest_in
local macro_rules | `(tactic| walk_at "rel") => `(tactic| exact ⟨_, _, _, _, rfl, isFr_D _, isFr_D _, by assumption, by assumption, rfl⟩)
def rel_greatest_in : List PyData → PyData → Prop := fun ds r => ∃ (x m : Nat), ds = [.int x, .int m] ∧ (1 ≤ x ∧ x ≤ 401) ∧ m ≤ 400 ∧ r = frD (gr 0 (fs x m))
set_option maxHeartbeats 4000000 in
theorem ok_greatest_in {f_greatest_in : Addr} {fd_greatest_in : FuncData} (F : Fun K "greatest_in" "greatest_in" s_greatest_in f_greatest_in fd_greatest_in) {f_shares_to : Addr} {fd_shares_to : FuncData} (G_shares_to : FnOk P w K mg base CX0 4 f_shares_to fd_shares_to ["far", "most"] (spPure K rel_shares_to)) (g_shares_to : mg "shares_to" = some (.ref f_shares_to)) (k_shares_to : PySem.W.keepIn K (.ref f_shares_to) = true) (b_shares_to : Binds K fd_shares_to ["far", "most"] [])
    {f_is_less : Addr} {fd_is_less : FuncData} (G_is_less : FnOk P w K mg base CX0 1 f_is_less fd_is_less ["one", "other"] (spPure K rel_is_less)) (g_is_less : mg "is_less" = some (.ref f_is_less)) (k_is_less : PySem.W.keepIn K (.ref f_is_less) = true) (b_is_less : Binds K fd_is_less ["one", "other"] [])
    {a_NOUGHT : Addr} (g_NOUGHT : mg "NOUGHT" = some (.ref a_NOUGHT)) (w_NOUGHT : WrT K a_NOUGHT [.int 0, .int 1]) :
    FnOk P w K mg base CX0 5 f_greatest_in fd_greatest_in ["far", "most"] (spPure K rel_greatest_in) := by
  refine F.ok sc_greatest_in (fun vs H Q E h => ?_) (fun cdv A outer s H vs Q E hr h => ?_)
  · obtain ⟨ds, r, hd, hr0, _⟩ := h; obtain ⟨x, m, rfl, hx, hm, rfl⟩ := hr0; exact isD_len hd
  · obtain ⟨ds, r, hd, hr0, q⟩ := h
    obtain ⟨x, m, rfl, hx, hm, rfl⟩ := hr0
    obtain ⟨x0, x1, rfl, h0, h1⟩ := dal2 (W := W0) (dpl0 _ _ hd)
    refine ⟨_, (pss_cons (ps_set (i := 2) sc_greatest_in.nd rfl (.inl rfl) (pe_glob (v := .ref a_NOUGHT) (by rfl) g_NOUGHT rfl))
    (pss_cons (ps_for PassesOwn.never rfl (pi_seq (pe_call G_shares_to (hr.mono (by decide)) (by rfl) g_shares_to k_shares_to b_shares_to .nil pass0 (pa_cons (pv 0) (pa_cons (pv 1) pa_nil)))) (pg_tup rfl (pgs_cons (pg_name (i := 3) sc_greatest_in.nd rfl (.inl rfl)) (pgs_cons (pg_name (i := 4) sc_greatest_in.nd rfl (.inl rfl)) pgs_nil)))
      (pss_cons (ps_if (pt_val (pe_call G_is_less (hr.mono (by decide)) (by rfl) g_is_less k_is_less b_is_less .nil pass0 (pa_cons (pv 4) (pa_cons (pv 2) pa_nil))))
      (pss_one (ps_ret (pv 2)))
      pss_nil)
    (pss_one (ps_set (i := 2) sc_greatest_in.nd rfl (.inl rfl) (pv 4)))))
    (pss_one (ps_ret (pv 2))))), ?_⟩
    cases h0; cases h1
    refine' st_set0 (P := fun v H2 => Da K W0 H2 v (frD 0)) (jd_nought w_NOUGHT) (Nat.zero_le _) (fun v H1 e1 hv => ?k1)
    case k1 =>
    walk_at "nx"
    refine' st_forP (K := K) (W := W0) (n := 0) (ds := shD x m) trivial (ji_seq (jd_call0 (rel := rel_shares_to) (ja_cons (jd_vi rfl) (ja_cons (jd_vi rfl) ja_nil)) ⟨x, m, rfl, hx, hm, rfl⟩) rfl) (Nat.zero_le _) ?hp
      (fun H2 i σ' H' => ExM W0.M H2 H' ∧ Same H H' ∧ ∃ f vf y3 y4, σ' = [some (.int x), some (.int m), some vf, y3, y4] ∧ Da K W0 H' vf (frD f) ∧ gr 0 (fs x m) = gr f ((fs x m).drop i) ∧ Bd f 4000)
      (fun H2 e2 _ => ⟨ExM.refl, ex0 (e1.trans e2), 0, v, _, _, rfl, hv.mono e2, rfl, bd_0.mono (by decide)⟩) (fun H2 i σ' H' hp => ⟨hp.1, 0, trivial⟩) ?turn ?done
    case hp => intro d hd; obtain ⟨t, _, rfl⟩ := List.mem_map.mp hd; exact ⟨_, _, rfl⟩
    case turn =>
      rintro H2 i a b xa xb σ' H' H'' e2 hi ⟨eM, sM, f, vf, y3, y4, rfl, hf, hg, hb⟩ s ha hb2
      unfold shD at hi
      rw [List.getElem?_map] at hi
      cases ht : (ts x m)[i]? with
      | none => rw [ht] at hi; cases hi
      | some t =>
        rw [ht] at hi
        have hi2 := Option.some.inj hi
        injection hi2 with hi2
        injection hi2 with ea hi2
        injection hi2 with eb _
        subst ea eb
        have hf2 := hf.mono (W := W0) (.of s)
        have hfi : (fs x m)[i]? = some (FF t x) := by unfold fs; rw [List.getElem?_map, ht]; rfl
        have hdr : (fs x m).drop i = FF t x :: (fs x m).drop (i + 1) := by
          have hlt := (List.getElem?_eq_some_iff.mp hfi).1
          rw [List.drop_eq_getElem_cons hlt, (List.getElem?_eq_some_iff.mp hfi).2]
        have hbt : Bd (FF t x) 4000 := (bd_FF t x).mono (by have := ts_le (List.mem_of_getElem? ht); omega)
        rw [hdr] at hg
        refine' st_ifn (K := K) (b := decide (FF t x < f)) (JB.eq ?jt ?jr) ?kc (fun hp H3 e3 => ?m1) (fun hp H3 e3 => ?m2)
        case jt => walk_at "jt"
        case jr => rfl
        case kc => decide
        case m1 =>
          have hlt := of_decide_eq_true hp
          refine' pure_ret (H0 := H) (.of ((sM.trans s).trans (ex0 e3))) q (JD.eq (jd_v rfl (hf2.mono e3)) ?z3) (Nat.zero_le _)
          case z3 => rw [hg]; unfold gr; rw [if_pos hlt]
        case m2 =>
          walk_at "nx"
          have hge := of_decide_eq_false hp
          refine' st_set0 (P := fun v H2 => Da K W0 H2 v (frD (FF t x))) (jd_v rfl (hb2.mono e3)) (Nat.zero_le _) (fun v2 H4 e4 hv4 => ?k4)
          case k4 => exact ⟨eM.trans (.of (s.trans (ex0 (e3.trans e4)))), sM.trans (s.trans (ex0 (e3.trans e4))), FF t x, v2, _, _, rfl, hv4, by rw [hg]; show (if _ then _ else _) = _; rw [if_neg hge], hbt⟩
    case done =>
      rintro H2 σ' H' e2 ⟨eM, sM, f, vf, y3, y4, rfl, hf, hg, hb⟩
      walk_at "nx"
      refine' pure_ret (H0 := H) (.of sM) q (JD.eq (jd_v rfl hf) ?z4) (Nat.zero_le _)
      case z4 =>
        rw [hg, List.drop_of_length_le (by simp [shD, fs])]; rfl
--OK first_share
local macro_rules | `(tactic| walk_at "rel") => `(tactic| first | exact ⟨_, _, rfl, ⟨by omega, by omega⟩, by assumption, rfl⟩ | exact ⟨_, _, rfl, by assumption, by assumption, rfl⟩ | exact ⟨_, _, _, _, rfl, .inr ⟨_, rfl⟩, .inr ⟨_, rfl⟩, by assumption, rfl⟩)
def rel_first_share : List PyData → PyData → Prop := fun ds r => ∃ (x t : Nat), ds = [.int x, .int t] ∧ (1 ≤ x ∧ x ≤ 400) ∧ t ≤ 400 ∧ r = frD (FF t x)
set_option maxHeartbeats 4000000 in
theorem ok_first_share {f_first_share : Addr} {fd_first_share : FuncData} (F : Fun K "first_share" "first_share" s_first_share f_first_share fd_first_share) {f_first_in : Addr} {fd_first_in : FuncData} (G_first_in : FnOk P w K mg base CX0 3 f_first_in fd_first_in ["far", "ticks"] (spPure K rel_first_in)) (g_first_in : mg "first_in" = some (.ref f_first_in)) (k_first_in : PySem.W.keepIn K (.ref f_first_in) = true) (b_first_in : Binds K fd_first_in ["far", "ticks"] [])
    {f_need_number : Addr} {fd_need_number : FuncData} (G_need_number : FnOk P w K mg base CX0 3 f_need_number fd_need_number ["value", "part", "least", "most"] (spPure K rel_need_number)) (g_need_number : mg "need_number" = some (.ref f_need_number)) (k_need_number : PySem.W.keepIn K (.ref f_need_number) = true) (b_need_number : Binds K fd_need_number ["value", "part", "least", "most"] [])
    {t_MOST_FAR : Tok} (g_MOST_FAR : mg "MOST_FAR" = some (.int 400 t_MOST_FAR)) :
    FnOk P w K mg base CX0 4 f_first_share fd_first_share ["far", "ticks"] (spPure K rel_first_share) := by
  refine F.ok sc_first_share (fun vs H Q E h => ?_) (fun cdv A outer s H vs Q E hr h => ?_)
  · obtain ⟨ds, r, hd, hr0, _⟩ := h; obtain ⟨x, t, rfl, hx, ht, rfl⟩ := hr0; exact isD_len hd
  · obtain ⟨ds, r, hd, hr0, q⟩ := h
    obtain ⟨x, t, rfl, hx, ht, rfl⟩ := hr0
    obtain ⟨x0, x1, rfl, h0, h1⟩ := dal2 (W := W0) (dpl0 _ _ hd)
    refine ⟨_, (pss_cons (ps_expr (pe_call G_need_number (hr.mono (by decide)) (by rfl) g_need_number k_need_number b_need_number .nil pass0 (pa_cons (pv 0) (pa_cons pe_str (pa_cons pe_int (pa_cons (pe_glob (v := .int 400) (by rfl) g_MOST_FAR ⟨_, rfl⟩) pa_nil))))))
    (pss_cons (ps_expr (pe_call G_need_number (hr.mono (by decide)) (by rfl) g_need_number k_need_number b_need_number .nil pass0 (pa_cons (pv 1) (pa_cons pe_str (pa_cons pe_int (pa_cons (pe_glob (v := .int 400) (by rfl) g_MOST_FAR ⟨_, rfl⟩) pa_nil))))))
    (pss_one (ps_ret (pe_call G_first_in (hr.mono (by decide)) (by rfl) g_first_in k_first_in b_first_in .nil pass0 (pa_cons (pv 0) (pa_cons (pv 1) pa_nil))))))), ?_⟩
    cases h0; cases h1
    have w1 : within (.int x) (.int 1) (.int 400) = true := by simp [within, isI, leD, isNoneD]; omega
    have w2 : within (.int t) (.int 0) (.int 400) = true := by simp [within, isI, leD, isNoneD]; omega
    
    refine' st_drop (W := W0) (n := 0) trivial (?j1 : JD K W0 _ _ _ _ .none) ?l1 (fun H1 e1 _ => ?m1)
    case j1 => walk_at "j"
    case l1 => decide
    case m1 =>
    walk_at "nx"
    
    refine' st_drop (W := W0) (n := 0) trivial (?j2 : JD K W0 _ _ _ _ .none) ?l2 (fun H2 e2 _ => ?m2)
    case j2 => walk_at "j"
    case l2 => decide
    case m2 =>
    walk_at "nx"
    
    refine' pure_ret (e1.trans e2) q (JD.eq ?j3 ?z3) ?l3
    case j3 => walk_at "j"
    case z3 => rfl
    case l3 => decide
--OK best_ticks
local macro_rules | `(tactic| walk_at "rel") => `(tactic| first | exact ⟨_, _, rfl, by assumption, rfl⟩ | exact ⟨_, _, rfl, by assumption, by assumption, rfl⟩ | exact ⟨_, _, _, _, rfl, .inr ⟨_, rfl⟩, .inr ⟨_, rfl⟩, by assumption, rfl⟩)
def rel_best_ticks : List PyData → PyData → Prop := fun ds r => ∃ (x m : Nat), ds = [.int x, .int m] ∧ (1 ≤ x ∧ x ≤ 400) ∧ m ≤ 400 ∧ r = .tuple ((btk x m).map fun t : Nat => PyData.int t)
set_option maxHeartbeats 4000000 in
theorem ok_best_ticks {f_best_ticks : Addr} {fd_best_ticks : FuncData} (F : Fun K "best_ticks" "best_ticks" s_best_ticks f_best_ticks fd_best_ticks) (m_tuple : mg "tuple" = none)
    {f_shares_to : Addr} {fd_shares_to : FuncData} (G_shares_to : FnOk P w K mg base CX0 4 f_shares_to fd_shares_to ["far", "most"] (spPure K rel_shares_to)) (g_shares_to : mg "shares_to" = some (.ref f_shares_to)) (k_shares_to : PySem.W.keepIn K (.ref f_shares_to) = true) (b_shares_to : Binds K fd_shares_to ["far", "most"] [])
    {f_greatest_in : Addr} {fd_greatest_in : FuncData} (G_greatest_in : FnOk P w K mg base CX0 5 f_greatest_in fd_greatest_in ["far", "most"] (spPure K rel_greatest_in)) (g_greatest_in : mg "greatest_in" = some (.ref f_greatest_in)) (k_greatest_in : PySem.W.keepIn K (.ref f_greatest_in) = true) (b_greatest_in : Binds K fd_greatest_in ["far", "most"] [])
    {f_need_number : Addr} {fd_need_number : FuncData} (G_need_number : FnOk P w K mg base CX0 3 f_need_number fd_need_number ["value", "part", "least", "most"] (spPure K rel_need_number)) (g_need_number : mg "need_number" = some (.ref f_need_number)) (k_need_number : PySem.W.keepIn K (.ref f_need_number) = true) (b_need_number : Binds K fd_need_number ["value", "part", "least", "most"] [])
    {t_MOST_FAR : Tok} (g_MOST_FAR : mg "MOST_FAR" = some (.int 400 t_MOST_FAR)) :
    FnOk P w K mg base CX0 6 f_best_ticks fd_best_ticks ["far", "most"] (spPure K rel_best_ticks) := by
  refine F.ok sc_best_ticks (fun vs H Q E h => ?_) (fun cdv A outer s H vs Q E hr h => ?_)
  · obtain ⟨ds, r, hd, hr0, _⟩ := h; obtain ⟨x, m, rfl, hx, hm, rfl⟩ := hr0; exact isD_len hd
  · obtain ⟨ds, r, hd, hr0, q⟩ := h
    obtain ⟨x, m, rfl, hx, hm, rfl⟩ := hr0
    obtain ⟨x0, x1, rfl, h0, h1⟩ := dal2 (W := W0) (dpl0 _ _ hd)
    refine ⟨_, (pss_cons (ps_expr (pe_call G_need_number (hr.mono (by decide)) (by rfl) g_need_number k_need_number b_need_number .nil pass0 (pa_cons (pv 0) (pa_cons pe_str (pa_cons pe_int (pa_cons (pe_glob (v := .int 400) (by rfl) g_MOST_FAR ⟨_, rfl⟩) pa_nil))))))
    (pss_cons (ps_expr (pe_call G_need_number (hr.mono (by decide)) (by rfl) g_need_number k_need_number b_need_number .nil pass0 (pa_cons (pv 1) (pa_cons pe_str (pa_cons pe_int (pa_cons (pe_glob (v := .int 400) (by rfl) g_MOST_FAR ⟨_, rfl⟩) pa_nil))))))
    (pss_cons (ps_set (i := 2) sc_best_ticks.nd rfl (.inr rfl) (pe_call G_greatest_in (hr.mono (by decide)) (by rfl) g_greatest_in k_greatest_in b_greatest_in .nil pass0 (pa_cons (pv 0) (pa_cons (pv 1) pa_nil))))
    (pss_one (ps_ret (pe_callTy (T := "tuple") (r := (fun xs H Q => ∃ p ys, xs = [.ref p] ∧ ((SqL K H p ys ∧ ∀ l, H l = none → Q (.ref l) (upd H l (.tup ys))) ∨ (SqT K H p ys ∧ Q (.ref p) H)))) call_tuple_of (by rfl) m_tuple (by decide +kernel) (pa_cons (pe_lc (own := [("ticks", 3), ("share", 4)]) (g := gTup K 2 (gCons (gName 3) (gCons (gName 4) (gNil)))) rfl sc_best_ticks.nd (pi_seq (pe_call G_shares_to (hr.mono (by decide)) (by rfl) g_shares_to k_shares_to b_shares_to .nil pass0 (pa_cons (pv 0) (pa_cons (pv 1) pa_nil)))) (blkOk_by (N := ["far", "most", "greatest", "ticks", "share"]) (sc := defScope s_best_ticks) (by decide +kernel)) (fun _ _ _ _ _ => (pg_tup rfl (pgs_cons (pg_name (i := 3) sc_best_ticks.nd rfl (Or.inl rfl) (Or.inr rfl)) (pgs_cons (pg_name (i := 4) sc_best_ticks.nd rfl (Or.inl rfl) (Or.inr rfl)) pgs_nil)))) (fun _ _ _ _ _ => pts_one (pt_cmpR (r := rEqD K) (op_eqD hr.units) (pv 4) (pv 2) (nomark _))) (fun _ _ _ _ _ => (pv 3))) pa_nil))))))), ?_⟩
    cases h0; cases h1
    have w1 : within (.int x) (.int 1) (.int 400) = true := by simp [within, isI, leD, isNoneD]; omega
    have w2 : within (.int m) (.int 0) (.int 400) = true := by simp [within, isI, leD, isNoneD]; omega
    have hx1 : 1 ≤ x ∧ x ≤ 401 := ⟨hx.1, by omega⟩
    
    refine' st_drop (W := W0) (n := 0) trivial (?j1 : JD K W0 _ _ _ _ .none) ?l1 (fun H1 e1 _ => ?m1)
    case j1 => walk_at "j"
    case l1 => decide
    case m1 =>
    walk_at "nx"
    
    refine' st_drop (W := W0) (n := 0) trivial (?j2 : JD K W0 _ _ _ _ .none) ?l2 (fun H2 e2 _ => ?m2)
    case j2 => walk_at "j"
    case l2 => decide
    case m2 =>
    walk_at "nx"
    
    refine' st_set0 (P := fun v H2 => Da K W0 H2 v (frD (gr 0 (fs x m)))) (jd_call (rel := rel_greatest_in) (ja_cons (jd_vi rfl) (ja_cons (jd_vi rfl) ja_nil)) ⟨x, m, rfl, hx1, hm, rfl⟩ rfl) (Nat.zero_le _) (fun v H3 e3 hv => ?k1)
    case k1 =>
    walk_at "nx"
    refine' pure_ret (e1.trans (e2.trans e3)) q (JD.eq (jd_tupleOf (ja_cons (nl_da (jl_lcP (K := K) (ds := shD x m) (fun d => PyData.eqv (sndD d) (frD (gr 0 (fs x m)))) fstD (ji_seq (jd_call0 (rel := rel_shares_to) (ja_cons (jd_vi rfl) (ja_cons (jd_vi rfl) ja_nil)) ⟨x, m, rfl, hx1, hm, rfl⟩) rfl) ?l1 ?hp (fun a b => rfl) ?ht ?he ?hn)) ja_nil)) ?z1) ?l2
    case l1 => (simp only [shD, ts, List.length_map, List.length_range]; omega)
    case hp => intro d hd; obtain ⟨t, _, rfl⟩ := List.mem_map.mp hd; exact ⟨_, _, rfl⟩
    case ht =>
      intro a b xa xb H4 hmem e4 ha hb
      obtain ⟨t, _, et⟩ := List.mem_map.mp hmem
      injection et with et
      injection et with ea et
      injection et with eb _
      subst ea eb
      refine' JT.le (JB.eq (jb_test (jd_eqD (jd_v rfl hb) (jd_v rfl (hv.mono e4)) (shaped_fr _) (shaped_fr _))) rfl) ?v1
      case v1 => decide
    case he =>
      intro a b xa xb H4 hmem e4 ha hb
      exact jd_v rfl ha
    case hn => intro d hd; obtain ⟨t, _, rfl⟩ := List.mem_map.mp hd; rfl
    case z1 =>
      unfold shD btk
      rw [List.filter_map, List.map_map]
      congr 1
      have e : (ts x m).filter ((fun d => PyData.eqv (sndD d) (frD (gr 0 (fs x m)))) ∘ fun (t : Nat) => PyData.tuple [.int (t : Int), frD (FF t x)]) = (ts x m).filter fun t => decide (FF t x = gr 0 (fs x m)) :=
        List.filter_congr fun t _ => eqv_fr (FF t x) (gr 0 (fs x m))
      rw [e]
      rfl
    case l2 => decide
--OK reach_rows
local macro_rules | `(tactic| walk_at "rel") => `(tactic| first | exact ⟨_, _, _, _, rfl, .inr ⟨_, rfl⟩, .inr ⟨_, rfl⟩, by assumption, rfl⟩)
def rel_reach_rows : List PyData → PyData → Prop := fun ds r => ∃ (m : Nat), ds = [.int m] ∧ m ≤ 200 ∧ r = .tuple ((rows m).map frD)
set_option maxHeartbeats 4000000 in
theorem ok_reach_rows {f_reach_rows : Addr} {fd_reach_rows : FuncData} (F : Fun K "reach_rows" "reach_rows" s_reach_rows f_reach_rows fd_reach_rows) (m_tuple : mg "tuple" = none)
    (m_range : mg "range" = none)
    {f_greatest_in : Addr} {fd_greatest_in : FuncData} (G_greatest_in : FnOk P w K mg base CX0 5 f_greatest_in fd_greatest_in ["far", "most"] (spPure K rel_greatest_in)) (g_greatest_in : mg "greatest_in" = some (.ref f_greatest_in)) (k_greatest_in : PySem.W.keepIn K (.ref f_greatest_in) = true) (b_greatest_in : Binds K fd_greatest_in ["far", "most"] [])
    {f_need_number : Addr} {fd_need_number : FuncData} (G_need_number : FnOk P w K mg base CX0 3 f_need_number fd_need_number ["value", "part", "least", "most"] (spPure K rel_need_number)) (g_need_number : mg "need_number" = some (.ref f_need_number)) (k_need_number : PySem.W.keepIn K (.ref f_need_number) = true) (b_need_number : Binds K fd_need_number ["value", "part", "least", "most"] [])
    {t_MOST_TICKS : Tok} (g_MOST_TICKS : mg "MOST_TICKS" = some (.int 200 t_MOST_TICKS)) :
    FnOk P w K mg base CX0 6 f_reach_rows fd_reach_rows ["ticks"] (spPure K rel_reach_rows) := by
  refine F.ok sc_reach_rows (fun vs H Q E h => ?_) (fun cdv A outer s H vs Q E hr h => ?_)
  · obtain ⟨ds, r, hd, hr0, _⟩ := h; obtain ⟨m, rfl, hm, rfl⟩ := hr0; exact isD_len hd
  · obtain ⟨ds, r, hd, hr0, q⟩ := h
    obtain ⟨m, rfl, hm, rfl⟩ := hr0
    obtain ⟨x0, rfl, h0⟩ := dal1 (W := W0) (dpl0 _ _ hd)
    refine ⟨_, (pss_cons (ps_expr (pe_call G_need_number (hr.mono (by decide)) (by rfl) g_need_number k_need_number b_need_number .nil pass0 (pa_cons (pv 0) (pa_cons pe_str (pa_cons pe_int (pa_cons (pe_glob (v := .int 200) (by rfl) g_MOST_TICKS ⟨_, rfl⟩) pa_nil))))))
    (pss_one (ps_ret (pe_callTy (T := "tuple") (r := (fun xs H Q => ∃ p ys, xs = [.ref p] ∧ ((SqL K H p ys ∧ ∀ l, H l = none → Q (.ref l) (upd H l (.tup ys))) ∨ (SqT K H p ys ∧ Q (.ref p) H)))) call_tuple_of (by rfl) m_tuple (by decide +kernel) (pa_cons (pe_lc (own := [("far", 1)]) (g := gName 1) (tt := tYes) rfl sc_reach_rows.nd (pi_range2 (by rfl) m_range (pa_cons pe_int (pa_cons (pe_op op_add (pv 0) pe_int) pa_nil))) (blkOk_by (N := ["ticks", "far"]) (sc := defScope s_reach_rows) (by decide +kernel)) (fun _ _ _ _ _ => pg_name (i := 1) sc_reach_rows.nd rfl (Or.inl rfl)) (fun _ _ _ _ _ => pts_nil) (fun _ _ _ _ _ => (pe_call G_greatest_in (hr.mono (by decide)) (by rfl) g_greatest_in k_greatest_in b_greatest_in .nil pass0 (pa_cons (pv 1) (pa_cons (pv 0) pa_nil))))) pa_nil))))), ?_⟩
    cases h0
    have w1 : within (.int m) (.int 0) (.int 200) = true := by simp [within, isI, leD, isNoneD]; omega
    
    refine' st_drop (W := W0) (n := 0) trivial (?j1 : JD K W0 _ _ _ _ .none) ?l1 (fun H1 e1 _ => ?m1)
    case j1 => walk_at "j"
    case l1 => decide
    case m1 =>
    walk_at "nx"
    
    refine' pure_ret e1 q (JD.eq (jd_tupleOf (ja_cons (nl_da (jl_lcN (K := K) (ds := stepsD 1 1 ((m : Int) + 1 - 1).toNat) (fun d => frD (gr 0 (fs (natD d) m))) (ji_r2 (ja_cons jd_int (ja_cons ?j1 ja_nil)) ?b1) ?l1 (fun y => rfl) ?he ?hn)) ja_nil)) ?z1) ?l2
    case j1 => walk_at "j"
    case b1 => exact ⟨by decide, by decide, by omega, by omega⟩
    case l1 => (simp only [stepsD, List.length_map, List.length_range]; omega)
    case he =>
      intro d y H2 hmem e2 hy
      obtain ⟨k, hk, rfl⟩ := List.mem_map.mp hmem
      rw [List.mem_range] at hk
      have ek : (1 : Int) + (k : Int) * 1 = ((k + 1 : Nat) : Int) := by omega
      rw [ek] at hy ⊢
      cases hy
      have hb : 1 ≤ k + 1 ∧ k + 1 ≤ 401 := ⟨by omega, by omega⟩
      exact jd_call (rel := rel_greatest_in) (ja_cons (jd_vi rfl) (ja_cons (jd_vi rfl) ja_nil)) ⟨k + 1, m, rfl, hb, by omega, rfl⟩ rfl
    case hn => intro d hmem; obtain ⟨k, hk, rfl⟩ := List.mem_map.mp hmem; rfl
    case z1 =>
      unfold stepsD rows
      rw [show ((m : Int) + 1 - 1).toNat = m by omega, List.map_map, List.map_map]
      congr 1
      refine List.map_congr_left fun k _ => ?_
      show frD (gr 0 (fs (natD (.int ((1 : Int) + (k : Int) * 1))) m)) = frD (gr 0 (fs (k + 1) m))
      rw [show (1 : Int) + (k : Int) * 1 = ((k + 1 : Nat) : Int) by omega]
      rfl
    case l2 => decide
--OK reach
def rel_reach : List PyData → PyData → Prop := fun ds r => ∃ (m : Nat), ds = [.int m] ∧ m ≤ 60 ∧ r = frD (2 * (rows m).sum)
set_option maxHeartbeats 4000000 in
theorem ok_reach {f_reach : Addr} {fd_reach : FuncData} (F : Fun K "reach" "reach" s_reach f_reach fd_reach) {f_times : Addr} {fd_times : FuncData} (G_times : FnOk P w K mg base CX0 2 f_times fd_times ["one", "other"] (spPure K rel_times)) (g_times : mg "times" = some (.ref f_times)) (k_times : PySem.W.keepIn K (.ref f_times) = true) (b_times : Binds K fd_times ["one", "other"] [])
    {f_total_of : Addr} {fd_total_of : FuncData} (G_total_of : FnOk P w K mg base CX0 3 f_total_of fd_total_of ["fractions"] (spPure K rel_total_of)) (g_total_of : mg "total_of" = some (.ref f_total_of)) (k_total_of : PySem.W.keepIn K (.ref f_total_of) = true) (b_total_of : Binds K fd_total_of ["fractions"] [])
    {f_reach_rows : Addr} {fd_reach_rows : FuncData} (G_reach_rows : FnOk P w K mg base CX0 6 f_reach_rows fd_reach_rows ["ticks"] (spPure K rel_reach_rows)) (g_reach_rows : mg "reach_rows" = some (.ref f_reach_rows)) (k_reach_rows : PySem.W.keepIn K (.ref f_reach_rows) = true) (b_reach_rows : Binds K fd_reach_rows ["ticks"] []) :
    FnOk P w K mg base CX0 7 f_reach fd_reach ["ticks"] (spPure K rel_reach) := by
  refine F.ok sc_reach (fun vs H Q E h => ?_) (fun cdv A outer s H vs Q E hr h => ?_)
  · obtain ⟨ds, r, hd, hr0, _⟩ := h; obtain ⟨m, rfl, hm, rfl⟩ := hr0; exact isD_len hd
  · obtain ⟨ds, r, hd, hr0, q⟩ := h
    obtain ⟨m, rfl, hm, rfl⟩ := hr0
    obtain ⟨x0, rfl, h0⟩ := dal1 (W := W0) (dpl0 _ _ hd)
    refine ⟨_, (pss_one (ps_ret (pe_call G_times (hr.mono (by decide)) (by rfl) g_times k_times b_times .nil pass0 (pa_cons (pe_tup (pa_cons pe_int (pa_cons pe_int pa_nil))) (pa_cons (pe_call G_total_of (hr.mono (by decide)) (by rfl) g_total_of k_total_of b_total_of .nil pass0 (pa_cons (pe_call G_reach_rows (hr.mono (by decide)) (by rfl) g_reach_rows k_reach_rows b_reach_rows .nil pass0 (pa_cons (pv 0) pa_nil)) pa_nil)) pa_nil))))), ?_⟩
    cases h0
    have hsum : Bd (rows m).sum 4000 := by have := rows_take hm m; rwa [List.take_of_length_le (by rw [rows_len]; exact Nat.le_refl _)] at this
    refine' pure_ret ExM.refl q (jd_call (rel := rel_times) (ja_cons (jd_tup (ja_cons jd_int (ja_cons jd_int ja_nil)) (by show 2 ≤ 100000; decide)) (ja_cons (jd_call (rel := rel_total_of) (ja_cons (jd_call (rel := rel_reach_rows) (ja_cons (jd_vi rfl) ja_nil) ⟨m, rfl, by omega, rfl⟩ (noL_frs _)) ja_nil) ⟨_, rows m, rfl, rfl, rfl, fun x hx => (rows_bd hx).mono (by omega), fun k => rows_take hm k, rfl⟩ rfl) ja_nil)) ⟨_, _, 2, _, rfl, isFr_21, isFr_D _, bd_2.mono (by decide), hsum, rfl⟩ rfl) ?l1
    case l1 => decide
--OK _law_turnpike
set_option maxHeartbeats 4000000 in
theorem ok__law_turnpike {f__law_turnpike : Addr} {fd__law_turnpike : FuncData} (F : Fun K "_law_turnpike" "_law_turnpike" s__law_turnpike f__law_turnpike fd__law_turnpike) (m_int : mg "int" = none) :
    FnOk P w K mg base CX0 1 f__law_turnpike fd__law_turnpike ["_law_script"] (spSat K) := by
  refine F.ok sc__law_turnpike (fun vs H Q E h => ?_) (fun cdv A outer s H vs Q E hr h => ?_)
  · obtain ⟨a, ns, rfl, _⟩ := h; rfl
  · obtain ⟨a, ns, rfl, hS, hlen, q⟩ := h
    refine ⟨_, (pss_one (ps_ret (pe_lst (pa_cons (pe_lc (own := [("_law_cell", 1)]) (g := gName 1) (tt := tYes) rfl sc__law_turnpike.nd (pi_seq (pe_slice (r := rSlL K) sl_list (pv 0) po_none (po_some pe_int))) (blkOk_by (N := ["_law_script", "_law_cell"]) (sc := defScope s__law_turnpike) (by decide +kernel)) (fun _ _ _ _ _ => pg_name (i := 1) sc__law_turnpike.nd rfl (Or.inl rfl)) (fun _ _ _ _ _ => pts_nil) (fun _ _ _ _ _ => (pe_callTy (T := "int") call_int1 (by rfl) m_int (by decide +kernel) (pa_cons (pv 1) pa_nil)))) (pa_cons pe_int (pa_cons pe_int pa_nil)))))), ?_⟩
    have hA : Da K W0 H (.ref a) (.list (ns.map PyData.int)) := da_sq hS (dal_of_ints ns)
    refine sat_ret (K := K) (ns := ns.take 60) (by rw [List.length_take]; omega) ?_ ?_ ?_ q
    · refine' J.le (J.imp (jl_lc1 (K := K) (ds := (ns.map PyData.int).take 60) (d0 := .list ((ns.map PyData.int).take 60)) (fun d => d) (JD.eq (jd_slL (ds := ns.map PyData.int) (lo := none) (hi := some 60) ?j1 jo_no (jo_int (K := K) jd_int)) ?e1) rfl rfl ?l1 (fun x => rfl) ?he ?hn) ?im) ?l2
      case j1 => walk_at "j"
      case e1 => exact congrArg PyData.list (cutD_to (ns.map PyData.int) 60)
      case l1 => (show ((ns.map PyData.int).take 60).length < 100000; rw [List.length_take]; omega)
      case he =>
        intro d x H1 hm _ hx
        obtain ⟨i, rfl⟩ := mem_ints (List.mem_of_mem_take hm)
        cases hx
        refine' jd0 ?j3 rfl ?l3
        case j3 => walk_at "j"
        case l3 => decide
      case hn =>
        intro d hm
        obtain ⟨i, rfl⟩ := mem_ints (List.mem_of_mem_take hm)
        rfl
      case im =>
        intro v H2 h2
        rw [List.map_id', ← List.map_take] at h2
        exact h2
      case l2 => decide
    · exact jd_int
    · exact jd_int
--OK _law_toll
local macro_rules | `(tactic| walk_at "jc") => `(tactic| first | assumption | (show CDiv _ 64; exact ⟨by decide, by decide⟩) | (show (0 : Int) < _; omega) | exact Or.inl ⟨by decide, by decide⟩ | exact (⟨by decide, by decide, by decide⟩ : CPow 10 18))
local macro_rules | `(tactic| walk_at "at") => `(tactic| rfl)
set_option maxHeartbeats 4000000 in
theorem ok__law_toll {f__law_toll : Addr} {fd__law_toll : FuncData} (F : Fun K "_law_toll" "_law_toll" s__law_toll f__law_toll fd__law_toll) (m_int : mg "int" = none)
    (m_len : mg "len" = none)
    (m_abs : mg "abs" = none) :
    FnOk P w K mg base CX0 1 f__law_toll fd__law_toll ["_law_turnpike_here", "_law_many"] spDraw := by
  refine F.ok sc__law_toll (fun vs H Q E h => ?_) (fun cdv A outer s H vs Q E hr h => ?_)
  · obtain ⟨b, c, n, many, rfl, _⟩ := h; rfl
  · obtain ⟨b, c, n, many, rfl, hS, hn, hm0, hm1, q⟩ := h
    have hcb := sat_cb hS
    obtain ⟨at', rest, cs, hb, hc, ha0, ha1, hr0, hlen⟩ := hS
    have hB := satDa (K := K) hb hc
    have hat : at' ≤ 1000000 := by have : (BIG : Nat) = 1000000 := rfl; omega
    have hCD : CDiv rest many := ⟨hm0, by omega⟩
    refine ⟨_, (pss_cons (ps_if (pt_cmpR op_gt (pe_ix (r := rIx K) ix_seq (pv 0) pe_int (fun _ _ => rfl)) pe_int (nomark _))
      (pss_cons (ps_set (i := 2) sc__law_toll.nd rfl (.inl rfl) (pe_callTy (T := "int") call_int1 (by rfl) m_int (by decide +kernel) (pa_cons (pe_ix (r := rIx K) ix_seq (pv 0) pe_int (fun _ _ => rfl)) pa_nil)))
    (pss_cons (ps_asg (pe_op op_fdiv (pv 2) (pv 1)) (pg_sub (pv 0) pe_int set_list))
    (pss_one (ps_ret (pe_op op_mod (pe_callTy (T := "int") call_int1 (by rfl) m_int (by decide +kernel) (pa_cons (pv 2) pa_nil)) (pv 1))))))
      pss_nil)
    (pss_cons (ps_set (i := 3) sc__law_toll.nd rfl (.inl rfl) (pe_ix (r := rIx K) ix_seq (pv 0) pe_int (fun _ _ => rfl)))
    (pss_cons (ps_asg (pe_op op_add (pv 3) pe_int) (pg_sub (pv 0) pe_int set_list))
    (pss_cons (ps_if (pt_cmpR (r := rEqD K) (op_eqD hr.units) (pe_ix (r := rIx K) ix_seq (pv 0) pe_int (fun _ _ => rfl)) (pe_lst pa_nil) (nomark _))
      (pss_one (ps_ret pe_int))
      pss_nil)
    (pss_cons (ps_set (i := 4) sc__law_toll.nd rfl (.inl rfl) (pe_ix (r := rIx K) ix_seq (pe_ix (r := rIx K) ix_seq (pv 0) pe_int (fun _ _ => rfl)) (pe_op op_mod (pe_callTy (T := "int") call_int1 (by rfl) m_int (by decide +kernel) (pa_cons (pv 3) pa_nil)) (pe_callB (id := "len") (r := (fun xs H Q => ∃ p ys, xs = [.ref p] ∧ (SqL K H p ys ∨ SqT K H p ys) ∧ Q (.int ys.length) H)) call_len_seq (by rfl) m_len (by decide +kernel) (pa_cons (pe_ix (r := rIx K) ix_seq (pv 0) pe_int (fun _ _ => rfl)) pa_nil))) (fun _ _ => rfl)))
    (pss_cons (ps_if (PW.pt (pw_and (pt_cmpR op_lt (pv 3) (pe_callB (id := "len") (r := (fun xs H Q => ∃ p ys, xs = [.ref p] ∧ (SqL K H p ys ∨ SqT K H p ys) ∧ Q (.int ys.length) H)) call_len_seq (by rfl) m_len (by decide +kernel) (pa_cons (pe_ix (r := rIx K) ix_seq (pv 0) pe_int (fun _ _ => rfl)) pa_nil)) (nomark _)) (pw_and1 (pt_cmpR op_ge (pe_callB (id := "abs") call_abs (by rfl) m_abs (by decide +kernel) (pa_cons (pv 4) pa_nil)) (pe_op op_pow pe_int pe_int) (nomark _)))))
      (pss_cons (ps_set (i := 2) sc__law_toll.nd rfl (.inl rfl) (pe_op op_add (pe_op op_mul pe_int (pe_op op_sub (pe_callB (id := "abs") call_abs (by rfl) m_abs (by decide +kernel) (pa_cons (pv 4) pa_nil)) (pe_op op_pow pe_int pe_int))) (pe_callTy (T := "int") call_int1 (by rfl) m_int (by decide +kernel) (pa_cons (pe_cmpR op_lt (pv 4) pe_int (nomark _)) pa_nil))))
    (pss_cons (ps_asg (pe_op op_fdiv (pe_callTy (T := "int") call_int1 (by rfl) m_int (by decide +kernel) (pa_cons (pv 2) pa_nil)) (pv 1)) (pg_sub (pv 0) pe_int set_list))
    (pss_one (ps_ret (pe_op op_mod (pe_callTy (T := "int") call_int1 (by rfl) m_int (by decide +kernel) (pa_cons (pv 2) pa_nil)) (pv 1))))))
      pss_nil)
    (pss_cons (ps_set (i := 5) sc__law_toll.nd rfl (.inl rfl) (pe_op op_mod (pe_callTy (T := "int") call_int1 (by rfl) m_int (by decide +kernel) (pa_cons (pe_op op_pow (pe_op op_add (pe_op op_add (pe_op op_mod (pe_callTy (T := "int") call_int1 (by rfl) m_int (by decide +kernel) (pa_cons (pv 4) pa_nil)) pe_int) (pe_op op_mul pe_int (pv 3))) pe_int) pe_int) pa_nil)) pe_int))
    (pss_cons (ps_set (i := 5) sc__law_toll.nd rfl (.inl rfl) (pe_op op_mod (pe_callTy (T := "int") call_int1 (by rfl) m_int (by decide +kernel) (pa_cons (pe_op op_pow (pe_op op_add (pe_op op_add (pe_op op_mul (pv 5) (pe_op op_add (pe_op op_mul pe_int (pv 3)) pe_int)) (pe_op op_mul (pe_op op_mul pe_int (pv 3)) (pv 3))) pe_int) pe_int) pa_nil)) pe_int))
    (pss_one (ps_ret (pe_op op_mod (pe_callTy (T := "int") call_int1 (by rfl) m_int (by decide +kernel) (pa_cons (pe_op op_fdiv (pv 5) pe_int) pa_nil)) (pv 1)))))))))))), ?_⟩
    refine' st_if0 (K := K) (b := decide (0 < rest)) (JB.eq ?jt ?jr) ?kc (fun hp H1 e1 => ?m1) (fun hp H1 e1 => ?m2)
    case jt => walk_at "jt"
    case jr => rfl
    case kc => decide
    case m1 =>
      walk_at "nx"
      refine' st_setI0 (K := K) ?j1 rfl ?l1 (fun H2 e2 => ?k1)
      case j1 => walk_at "j"
      case l1 => decide
      case k1 =>
      walk_at "nx"
      have hb2 := same_at (ex0 (e1.trans e2)) hb
      have hc2 := same_at (ex0 (e1.trans e2)) hc
      have hB2 := satDa (K := K) hb2 hc2
      refine' st_setitI (i := 2) (j := 2) (K := K) ?j2 rfl rfl ?i2 ?l2 hb2 rfl (fun H3 s3 => ?k2)
      case j2 => walk_at "j"
      case i2 => walk_at "j"
      case l2 => decide
      case k2 =>
      walk_at "nx"
      refine' st_retI0 (K := K) ?j3 rfl ?l3 (fun H4 e4 => ?k3)
      case j3 => walk_at "j"
      case l3 => decide
      case k3 =>
      refine q _ _ (Int.emod_nonneg _ (by omega)) (Int.emod_lt_of_pos _ hm0) ((exm_upd (.of ((ex0 (e1.trans e2)).trans s3))).trans (.of (ex0 e4))) ⟨at', rest / many, cs, ex0 e4 _ _ upd_same, ex0 e4 _ _ (by rw [upd_ne hcb]; exact s3 _ _ hc2), ha0, by omega, Int.ediv_nonneg hr0 (by omega), hlen⟩
    case m2 =>
    walk_at "nx"
    -- at = ..
    have hB1 := hB.mono (W := W0) e1
    refine' st_setI0 (K := K) ?j1 rfl ?l1 (fun H2 e2 => ?k1)
    case j1 => walk_at "j"
    case l1 => decide
    case k1 =>
    walk_at "nx"
    have hb2 := same_at (ex0 (e1.trans e2)) hb
    have hc2 := same_at (ex0 (e1.trans e2)) hc
    have hB2 := satDa (K := K) hb2 hc2
    refine' st_setitI (i := 1) (j := 1) (K := K) ?j2 rfl rfl ?i2 ?l2 hb2 rfl (fun H3 s3 => ?k2)
    case j2 => walk_at "j"
    case i2 => walk_at "j"
    case l2 => decide
    case k2 =>
    walk_at "nx"
    have eM : ExM (satW b c).M H (upd H3 b (.lst [.ref c, .int (at' + 1), .int rest])) := exm_upd (.of ((ex0 (e1.trans e2)).trans s3))
    have hb3 : (upd H3 b (.lst [.ref c, .int (at' + 1), .int rest])) b = some (.lst [.ref c, .int (at' + 1), .int rest]) := upd_same
    have hc3 : (upd H3 b (.lst [.ref c, .int (at' + 1), .int rest])) c = some (.lst (cs.map V.int)) := by rw [upd_ne hcb]; exact s3 _ _ hc2
    have hB3 := satDa (K := K) hb3 hc3
    generalize hH3 : (upd H3 b (.lst [.ref c, .int (at' + 1), .int rest])) = H3' at eM hb3 hc3 hB3
    have hH3' : (upd H3 b (HO.lst ([V.ref c, V.int at', V.int rest].set 1 (V.int (at' + 1))))) = H3' := hH3
    rw [hH3']
    have hfin : ∀ H5, ExM W0.M H3' H5 → Sat b c (n + 1) H5 := fun H5 e5 => ⟨at' + 1, rest, cs, ex0 e5 _ _ hb3, ex0 e5 _ _ hc3, by omega, by omega, hr0, hlen⟩
    refine' st_ifn (K := K) (b := cs.isEmpty) (JB.eq ?jt ?jr) ?kc (fun he H4 e4 => ?m1) (fun he H4 e4 => ?m2)
    case jt =>
      refine' jb_test (jd_eqD ?j4 ?j5 (shaped_ints cs) (shaped_ints []))
      case j4 => walk_at "j"
      case j5 => (refine' jd_lst ja_nil ?l5; (case l5 => decide))
    case jr => exact eqv_nil cs
    case kc => decide
    case m1 =>
      refine' st_retI0 (K := K) ?j6 rfl ?l6 (fun H5 e5 => ?k6)
      case j6 => walk_at "j"
      case l6 => decide
      case k6 => exact q 0 _ (by omega) hm0 (eM.trans (.of (ex0 (e4.trans e5)))) (hfin _ (e4.trans e5))
    case m2 =>
    walk_at "nx"
    have hne : cs ≠ [] := fun z => by rw [z] at he; cases he
    have hlp : 0 < cs.length := List.length_pos_iff.mpr hne
    obtain ⟨cell, hcell⟩ := at_mod hne ha0
    have hB4 := hB3.mono (W := W0) e4
    -- cell = ..
    refine' st_setI0 (K := K) (z' := cell) ?j7 ?e7 ?l7 (fun H5 e5 => ?k7)
    case j7 =>
      refine' jd_ix ?a1 ?a2 ?a3 ?a4
      case a1 => walk_at "j"
      case a2 =>
        refine' jd_Ii ?b1 ?b2 ?b3
        case b1 => walk_at "j"
        case b2 => (refine' jd_lenS ?q1 ?q2; (case q1 => walk_at "ja"); (case q2 => rfl))
        case b3 => (show (0 : Int) < (((cs.map PyData.int).length : Nat) : Int); rw [List.length_map]; omega)
      case a3 => rfl
      case a4 => (show atI (cs.map PyData.int) (at' % (((cs.map PyData.int).length : Nat) : Int)) = _; rw [List.length_map]; exact hcell)
    case e7 => rfl
    case l7 => decide
    case k7 =>
    walk_at "nx"
    have hB5 := hB4.mono (W := W0) e5
    have hab : 0 ≤ (if cell < 0 then -cell else cell) := by split <;> omega
    refine' st_ifn (K := K) (b := decide (at' < (cs.length : Int)) && decide (1000000000000000000 ≤ (if cell < 0 then -cell else cell))) (JB.eq ?jt ?jr) ?kc (fun hp2 H6 e6 => ?m1) (fun hp2 H6 e6 => ?m2)
    case jt =>
      refine' jb_and ?t1 ?t2
      case t1 =>
        refine' jb_test (jd_I0b ?b1 ?b2)
        case b1 => walk_at "j"
        case b2 => (refine' jd_lenS ?q1 ?q2; (case q1 => walk_at "ja"); (case q2 => rfl))
      case t2 => (intro _; walk_at "jt")
    case jr =>
      show (decide (at' < (((cs.map PyData.int).length : Nat) : Int)) && decide ((10 : Int) ^ (18 : Int).toNat ≤ _)) = _
      rw [List.length_map]; rfl
    case kc => decide
    case m1 =>
      have hge : (1000000000000000000 : Int) ≤ (if cell < 0 then -cell else cell) := by
        rw [Bool.and_eq_true] at hp2; exact of_decide_eq_true hp2.2
      walk_at "nx"
      refine' st_setI0 (K := K) (z' := 2 * ((if cell < 0 then -cell else cell) - 1000000000000000000) + (if decide (cell < 0) then 1 else 0)) ?j8 ?e8 ?l8 (fun H7 e7 => ?k8)
      case j8 => walk_at "j"
      case e8 => rfl
      case l8 => decide
      case k8 =>
      walk_at "nx"
      have hrs : 0 ≤ 2 * ((if cell < 0 then -cell else cell) - 1000000000000000000) + (if decide (cell < 0) then (1 : Int) else 0) := by
        have : (0 : Int) ≤ (if decide (cell < 0) then (1 : Int) else 0) := by split <;> omega
        omega
      generalize 2 * ((if cell < 0 then -cell else cell) - 1000000000000000000) + (if decide (cell < 0) then (1 : Int) else 0) = rs at hrs
      have hCD2 : CDiv rs many := ⟨hm0, by omega⟩
      have e47 := (e4.trans (e5.trans (e6.trans e7)))
      have hb7 := same_at (ex0 e47) hb3
      have hc7 := same_at (ex0 e47) hc3
      refine' st_setitI (i := 2) (j := 2) (K := K) ?j9 rfl rfl ?i9 ?l9 hb7 rfl (fun H8 s8 => ?k9)
      case j9 => walk_at "j"
      case i9 => walk_at "j"
      case l9 => decide
      case k9 =>
      walk_at "nx"
      refine' st_retI0 (K := K) ?j3 rfl ?l3 (fun H9 e9 => ?k3)
      case j3 => walk_at "j"
      case l3 => decide
      case k3 =>
      refine q _ _ (Int.emod_nonneg _ (by omega)) (Int.emod_lt_of_pos _ hm0) ((exm_upd (eM.trans (.of ((ex0 e47).trans s8)))).trans (.of (ex0 e9))) ⟨at' + 1, rs / many, cs, ex0 e9 _ _ upd_same, ex0 e9 _ _ (by rw [upd_ne hcb]; exact s8 _ _ hc7), by omega, by omega, Int.ediv_nonneg hrs (by omega), hlen⟩
    case m2 =>
    walk_at "nx"
    -- the mixing
    have hmb1 : CPow (cell % 2147483587 + 37509 * at' + 9577) 5 := ⟨by decide, by decide, by show _ < 18446744073709551616; omega⟩
    refine' st_setI0 (K := K) ?j10 rfl ?l10 (fun H7 e7 => ?k10)
    case j10 => walk_at "j"
    case l10 => decide
    case k10 =>
    walk_at "nx"
    have hx0 := Int.emod_nonneg ((cell % 2147483587 + 37509 * at' + 9577) ^ (5 : Int).toNat) (show (2147483549 : Int) ≠ 0 by decide)
    have hx1 := Int.emod_lt_of_pos ((cell % 2147483587 + 37509 * at' + 9577) ^ (5 : Int).toNat) (show (0 : Int) < 2147483549 by decide)
    generalize (cell % 2147483587 + 37509 * at' + 9577) ^ (5 : Int).toNat % 2147483549 = mx at hx0 hx1
    have hcm1 : CMul mx (2 * at' + 9227) := .inl ⟨by omega, by omega⟩
    have hcm2 : CMul (97085 * at') at' := .inl ⟨by omega, by omega⟩
    have hp1 : 0 ≤ mx * (2 * at' + 9227) := Int.mul_nonneg hx0 (by omega)
    have hp2 : mx * (2 * at' + 9227) ≤ 2147483648 * 3000000 := Int.mul_le_mul (by omega) (by omega) (by omega) (by omega)
    have hp3 : 0 ≤ 97085 * at' * at' := Int.mul_nonneg (by omega) ha0
    have hp4 : 97085 * at' * at' ≤ 97085 * 1000000 * 1000000 := Int.mul_le_mul (by omega) (by omega) (by omega) (by omega)
    have hmb2 : CPow (mx * (2 * at' + 9227) + 97085 * at' * at' + 37509) 3 := ⟨by decide, by decide, by show _ < 18446744073709551616; omega⟩
    refine' st_setI0 (K := K) ?j11 rfl ?l11 (fun H8 e8 => ?k11)
    case j11 => walk_at "j"
    case l11 => decide
    case k11 =>
    walk_at "nx"
    refine' st_retI0 (K := K) ?j12 rfl ?l12 (fun H9 e9 => ?k12)
    case j12 => walk_at "j"
    case l12 => decide
    case k12 =>
    have e49 := e4.trans (e5.trans (e6.trans (e7.trans (e8.trans e9))))
    exact q _ _ (Int.emod_nonneg _ (by omega)) (Int.emod_lt_of_pos _ hm0) (eM.trans (.of (ex0 e49))) (hfin _ e49)
--OK _law_coin
set_option maxHeartbeats 4000000 in
theorem ok__law_coin {f__law_coin : Addr} {fd__law_coin : FuncData} (F : Fun K "_law_coin" "_law_coin" s__law_coin f__law_coin fd__law_coin) {f__law_toll : Addr} {fd__law_toll : FuncData} (G__law_toll : FnOk P w K mg base CX0 1 f__law_toll fd__law_toll ["_law_turnpike_here", "_law_many"] spDraw) (g__law_toll : mg "_law_toll" = some (.ref f__law_toll)) (k__law_toll : PySem.W.keepIn K (.ref f__law_toll) = true) (b__law_toll : Binds K fd__law_toll ["_law_turnpike_here", "_law_many"] [])
    (m_len : mg "len" = none) :
    FnOk P w K mg base CX0 2 f__law_coin fd__law_coin ["_law_turnpike_here", "_law_some"] (spPick K) := by
  refine F.ok sc__law_coin (fun vs H Q E h => ?_) (fun cdv A outer s H vs Q E hr h => ?_)
  · obtain ⟨b, c, n, v, d, rfl, _⟩ := h; rfl
  · obtain ⟨b, c, n, v, d, rfl, hS, hn, hd, hs, hl0, hl1, q⟩ := h
    refine ⟨_, (pss_one (ps_ret (pe_ix (r := rIx K) ix_seq (pv 1) (pe_call G__law_toll (hr.mono (by decide)) (by rfl) g__law_toll k__law_toll b__law_toll .nil pass0 (pa_cons (pv 0) (pa_cons (pe_callB (id := "len") (r := (fun xs H Q => ∃ p ys, xs = [.ref p] ∧ (SqL K H p ys ∨ SqT K H p ys) ∧ Q (.int ys.length) H)) call_len_seq (by rfl) m_len (by decide +kernel) (pa_cons (pv 1) pa_nil)) pa_nil))) (fun _ _ => rfl)))), ?_⟩
    exact pick_ret (K := K) hS hn hd hs hl0 hl1 rfl rfl q
--OK law
local macro_rules | `(tactic| walk_at "fr") => `(tactic| first | exact isFr_01 | exact isFr_11 | exact isFr_12 | exact isFr_21 | exact isFr_D _ | assumption)
local macro_rules | `(tactic| walk_at "bd0") => `(tactic| first | assumption | exact bd_0 | exact bd_1 | exact bd_2 | exact bd_half | exact bd_FF _ _ | exact bd_PP _ _ | (refine' Bd.add ?k1 ?k2; (case k1 => walk_at "bd0"); (case k2 => walk_at "bd0")) | (refine' Bd.sub ?k1 ?k2; (case k1 => walk_at "bd0"); (case k2 => walk_at "bd0")) | (refine' Bd.mul ?k1 ?k2; (case k1 => walk_at "bd0"); (case k2 => walk_at "bd0")))
local macro_rules | `(tactic| walk_at "bd") => `(tactic| (refine' bd_le ?k1 ?k2; (case k1 => walk_at "bd0"); (case k2 => omega)))
local macro_rules | `(tactic| walk_at "rel") => `(tactic| (refine' ⟨_, _, _, _, rfl, ?k1, ?k2, ?k3, ?k4, ?k5⟩; (case k1 => walk_at "fr"); (case k2 => walk_at "fr"); (case k3 => walk_at "bd"); (case k4 => walk_at "bd"); (case k5 => rfl)))

theorem zipD_mem {xs ys : List PyData} {d : PyData} (h : d ∈ zipD xs ys) : ∃ a b, d = .tuple [a, b] ∧ a ∈ xs ∧ b ∈ ys := by
  unfold zipD at h
  obtain ⟨i, hi⟩ := List.getElem?_of_mem h
  rw [List.getElem?_zipWith] at hi
  cases h1 : xs[i]? with
  | none => rw [h1] at hi; cases hi
  | some a =>
    cases h2 : ys[i]? with
    | none => rw [h1, h2] at hi; cases hi
    | some b =>
      rw [h1, h2] at hi
      exact ⟨a, b, (Option.some.inj hi).symm, List.mem_of_getElem? h1, List.mem_of_getElem? h2⟩
theorem noL_nats (ts : List Nat) : noL (.tuple (ts.map fun t : Nat => PyData.int t)) = true := by
  show noLs (ts.map fun t : Nat => PyData.int t) = true
  rw [noLs_all]
  intro d hd
  obtain ⟨x, _, rfl⟩ := List.mem_map.mp hd
  rfl
theorem rows_sum_bd {m : Nat} (h : m ≤ 20) : Bd (rows m).sum 600 := by
  refine (bd_sum _ fun q hq => rows_bd hq).mono ?_
  have h2 : (rows m).length * (m + 1 + 1) ≤ 20 * 22 := Nat.mul_le_mul (by rw [rows_len]; exact h) (by omega)
  omega
def sp_law (K : PySem.W.Frag) : Sp := fun vs H Q _ => ∃ (a : Addr) (ns : List Int), vs = [.ref a] ∧ SqL K H a (ns.map V.int) ∧ ns.length ≤ 63 ∧ ∀ H', Q (.bl true) H'
set_option maxHeartbeats 4000000 in
theorem ok_law {f_law : Addr} {fd_law : FuncData} (F : Fun K "law" "law" s_law f_law fd_law) (m_range : mg "range" = none)
    (m_enumerate : mg "enumerate" = none)
    {f_first_share : Addr} {fd_first_share : FuncData} (G_first_share : FnOk P w K mg base CX0 4 f_first_share fd_first_share ["far", "ticks"] (spPure K rel_first_share)) (g_first_share : mg "first_share" = some (.ref f_first_share)) (k_first_share : PySem.W.keepIn K (.ref f_first_share) = true) (b_first_share : Binds K fd_first_share ["far", "ticks"] [])
    {f_best_ticks : Addr} {fd_best_ticks : FuncData} (G_best_ticks : FnOk P w K mg base CX0 6 f_best_ticks fd_best_ticks ["far", "most"] (spPure K rel_best_ticks)) (g_best_ticks : mg "best_ticks" = some (.ref f_best_ticks)) (k_best_ticks : PySem.W.keepIn K (.ref f_best_ticks) = true) (b_best_ticks : Binds K fd_best_ticks ["far", "most"] [])
    {f_less : Addr} {fd_less : FuncData} (G_less : FnOk P w K mg base CX0 5 f_less fd_less ["one", "other"] (spPure K rel_less)) (g_less : mg "less" = some (.ref f_less)) (k_less : PySem.W.keepIn K (.ref f_less) = true) (b_less : Binds K fd_less ["one", "other"] [])
    {f_reach : Addr} {fd_reach : FuncData} (G_reach : FnOk P w K mg base CX0 7 f_reach fd_reach ["ticks"] (spPure K rel_reach)) (g_reach : mg "reach" = some (.ref f_reach)) (k_reach : PySem.W.keepIn K (.ref f_reach) = true) (b_reach : Binds K fd_reach ["ticks"] [])
    {f_below : Addr} {fd_below : FuncData} (G_below : FnOk P w K mg base CX0 5 f_below fd_below ["one", "other"] (spPure K rel_below)) (g_below : mg "below" = some (.ref f_below)) (k_below : PySem.W.keepIn K (.ref f_below) = true) (b_below : Binds K fd_below ["one", "other"] [])
    {f_added : Addr} {fd_added : FuncData} (G_added : FnOk P w K mg base CX0 5 f_added fd_added ["one", "other"] (spPure K rel_added)) (g_added : mg "added" = some (.ref f_added)) (k_added : PySem.W.keepIn K (.ref f_added) = true) (b_added : Binds K fd_added ["one", "other"] [])
    (m_zip : mg "zip" = none)
    {f_multiplied : Addr} {fd_multiplied : FuncData} (G_multiplied : FnOk P w K mg base CX0 5 f_multiplied fd_multiplied ["one", "other"] (spPure K rel_multiplied)) (g_multiplied : mg "multiplied" = some (.ref f_multiplied)) (k_multiplied : PySem.W.keepIn K (.ref f_multiplied) = true) (b_multiplied : Binds K fd_multiplied ["one", "other"] [])
    (m_len : mg "len" = none)
    {f_reach_rows : Addr} {fd_reach_rows : FuncData} (G_reach_rows : FnOk P w K mg base CX0 6 f_reach_rows fd_reach_rows ["ticks"] (spPure K rel_reach_rows)) (g_reach_rows : mg "reach_rows" = some (.ref f_reach_rows)) (k_reach_rows : PySem.W.keepIn K (.ref f_reach_rows) = true) (b_reach_rows : Binds K fd_reach_rows ["ticks"] [])
    {f__law_toll : Addr} {fd__law_toll : FuncData} (G__law_toll : FnOk P w K mg base CX0 1 f__law_toll fd__law_toll ["_law_turnpike_here", "_law_many"] spDraw) (g__law_toll : mg "_law_toll" = some (.ref f__law_toll)) (k__law_toll : PySem.W.keepIn K (.ref f__law_toll) = true) (b__law_toll : Binds K fd__law_toll ["_law_turnpike_here", "_law_many"] [])
    {f_share_of : Addr} {fd_share_of : FuncData} (G_share_of : FnOk P w K mg base CX0 4 f_share_of fd_share_of ["far", "ticks"] (spPure K rel_share_of)) (g_share_of : mg "share_of" = some (.ref f_share_of)) (k_share_of : PySem.W.keepIn K (.ref f_share_of) = true) (b_share_of : Binds K fd_share_of ["far", "ticks"] [])
    (m_int : mg "int" = none)
    {f__law_coin : Addr} {fd__law_coin : FuncData} (G__law_coin : FnOk P w K mg base CX0 2 f__law_coin fd__law_coin ["_law_turnpike_here", "_law_some"] (spPick K)) (g__law_coin : mg "_law_coin" = some (.ref f__law_coin)) (k__law_coin : PySem.W.keepIn K (.ref f__law_coin) = true) (b__law_coin : Binds K fd__law_coin ["_law_turnpike_here", "_law_some"] [])
    {f__law_turnpike : Addr} {fd__law_turnpike : FuncData} (G__law_turnpike : FnOk P w K mg base CX0 1 f__law_turnpike fd__law_turnpike ["_law_script"] (spSat K)) (g__law_turnpike : mg "_law_turnpike" = some (.ref f__law_turnpike)) (k__law_turnpike : PySem.W.keepIn K (.ref f__law_turnpike) = true) (b__law_turnpike : Binds K fd__law_turnpike ["_law_script"] []) :
    FnOk P w K mg base CX0 8 f_law fd_law ["_law_script"] (sp_law K) := by
  refine F.ok sc_law (fun vs H Q E h => ?_) (fun cdv A outer s H vs Q E hr h => ?_)
  · obtain ⟨a, ns, rfl, _⟩ := h; rfl
  · obtain ⟨a, ns, rfl, hS, hlen, q⟩ := h
    refine ⟨_, (pss_cons (ps_set (i := 1) sc_law.nd rfl (.inl rfl) (pe_call G__law_turnpike (hr.mono (by decide)) (by rfl) g__law_turnpike k__law_turnpike b__law_turnpike .nil pass0 (pa_cons (pv 0) pa_nil)))
    (pss_cons (ps_for PassesOwn.never rfl (pi_range1 (by rfl) m_range (pa_cons pe_int pa_nil)) (pg_name (i := 2) sc_law.nd rfl (.inl rfl))
      (pss_cons (ps_set (i := 3) sc_law.nd rfl (.inl rfl) (pe_op op_add pe_int (pe_call G__law_toll (hr.mono (by decide)) (by rfl) g__law_toll k__law_toll b__law_toll .nil pass0 (pa_cons (pv 1) (pa_cons (pe_call G__law_coin (hr.mono (by decide)) (by rfl) g__law_coin k__law_coin b__law_coin .nil pass0 (pa_cons (pv 1) (pa_cons (pe_lst (pa_cons pe_int (pa_cons pe_int (pa_cons pe_int pa_nil)))) pa_nil))) pa_nil)))))
    (pss_cons (ps_set (i := 4) sc_law.nd rfl (.inl rfl) (pe_call G__law_coin (hr.mono (by decide)) (by rfl) g__law_coin k__law_coin b__law_coin .nil pass0 (pa_cons (pv 1) (pa_cons (pe_lst (pa_cons (pe_op op_add (pv 3) (pe_op op_mul pe_int (pe_call G__law_toll (hr.mono (by decide)) (by rfl) g__law_toll k__law_toll b__law_toll .nil pass0 (pa_cons (pv 1) (pa_cons pe_int pa_nil))))) (pa_cons (pv 3) (pa_cons (pe_op op_add pe_int (pe_call G__law_toll (hr.mono (by decide)) (by rfl) g__law_toll k__law_toll b__law_toll .nil pass0 (pa_cons (pv 1) (pa_cons pe_int pa_nil)))) pa_nil)))) pa_nil))))
    (pss_cons (ps_set (i := 5) sc_law.nd rfl (.inl rfl) (pe_call G_first_share (hr.mono (by decide)) (by rfl) g_first_share k_first_share b_first_share .nil pass0 (pa_cons (pe_op op_add (pv 3) pe_int) (pa_cons (pe_op op_sub (pv 4) pe_int) pa_nil))))
    (pss_cons (ps_set (i := 5) sc_law.nd rfl (.inl rfl) (pe_ifExp (pt_cmpR op_gt (pv 3) pe_int (nomark _)) (pe_call G_added (hr.mono (by decide)) (by rfl) g_added k_added b_added .nil pass0 (pa_cons (pv 5) (pa_cons (pe_call G_first_share (hr.mono (by decide)) (by rfl) g_first_share k_first_share b_first_share .nil pass0 (pa_cons (pe_op op_sub (pv 3) pe_int) (pa_cons (pe_op op_sub (pv 4) pe_int) pa_nil))) pa_nil))) (pe_call G_added (hr.mono (by decide)) (by rfl) g_added k_added b_added .nil pass0 (pa_cons (pv 5) (pa_cons (pe_tup (pa_cons (pe_callTy (T := "int") call_int1 (by rfl) m_int (by decide +kernel) (pa_cons (pe_cmpR op_eq (pv 4) pe_int (nomark _)) pa_nil)) (pa_cons pe_int pa_nil))) pa_nil)))))
    (pss_cons (ps_if (pt_cmpR (r := rNeD K) (op_neD hr.units) (pe_call G_multiplied (hr.mono (by decide)) (by rfl) g_multiplied k_multiplied b_multiplied .nil pass0 (pa_cons (pe_tup (pa_cons pe_int (pa_cons pe_int pa_nil))) (pa_cons (pv 5) pa_nil))) (pe_call G_first_share (hr.mono (by decide)) (by rfl) g_first_share k_first_share b_first_share .nil pass0 (pa_cons (pv 3) (pa_cons (pv 4) pa_nil))) (nomark _))
      (pss_one (ps_ret pe_bl))
      pss_nil)
    (pss_cons (ps_set (i := 6) sc_law.nd rfl (.inl rfl) (pe_tup (pa_cons pe_int (pa_cons pe_int pa_nil))))
    (pss_cons (ps_for PassesOwn.never rfl (pi_range2 (by rfl) m_range (pa_cons (pv 3) (pa_cons (pe_op op_add (pv 4) pe_int) pa_nil))) (pg_name (i := 7) sc_law.nd rfl (.inl rfl))
      (pss_one (ps_set (i := 6) sc_law.nd rfl (.inl rfl) (pe_call G_added (hr.mono (by decide)) (by rfl) g_added k_added b_added .nil pass0 (pa_cons (pv 6) (pa_cons (pe_call G_multiplied (hr.mono (by decide)) (by rfl) g_multiplied k_multiplied b_multiplied .nil pass0 (pa_cons (pe_call G_first_share (hr.mono (by decide)) (by rfl) g_first_share k_first_share b_first_share .nil pass0 (pa_cons (pv 3) (pa_cons (pv 7) pa_nil))) (pa_cons (pe_call G_share_of (hr.mono (by decide)) (by rfl) g_share_of k_share_of b_share_of .nil pass0 (pa_cons pe_int (pa_cons (pe_op op_sub (pv 4) (pv 7)) pa_nil))) pa_nil))) pa_nil))))))
    (pss_cons (ps_if (pt_cmpR (r := rNeD K) (op_neD hr.units) (pv 6) (pe_call G_share_of (hr.mono (by decide)) (by rfl) g_share_of k_share_of b_share_of .nil pass0 (pa_cons (pv 3) (pa_cons (pv 4) pa_nil))) (nomark _))
      (pss_one (ps_ret pe_bl))
      pss_nil)
    (pss_cons (ps_set (i := 8) sc_law.nd rfl (.inl rfl) (pe_call G__law_toll (hr.mono (by decide)) (by rfl) g__law_toll k__law_toll b__law_toll .nil pass0 (pa_cons (pv 1) (pa_cons pe_int pa_nil))))
    (pss_cons (ps_par (i := 9) (j := 10) (by rfl) sc_law.nd rfl rfl (by decide) rfl rfl (pa_cons (pe_call G_reach_rows (hr.mono (by decide)) (by rfl) g_reach_rows k_reach_rows b_reach_rows .nil pass0 (pa_cons (pv 8) pa_nil)) (pa_cons (pe_call G_reach_rows (hr.mono (by decide)) (by rfl) g_reach_rows k_reach_rows b_reach_rows .nil pass0 (pa_cons (pe_op op_add (pv 8) pe_int) pa_nil)) pa_nil)) (by rfl))
    (pss_cons (ps_if (PW.pt (pw_or (pt_cmpR op_ne (pe_callB (id := "len") (r := (fun xs H Q => ∃ p ys, xs = [.ref p] ∧ (SqL K H p ys ∨ SqT K H p ys) ∧ Q (.int ys.length) H)) call_len_seq (by rfl) m_len (by decide +kernel) (pa_cons (pv 9) pa_nil)) (pv 8) (nomark _)) (pw_or (pt_cmpR op_ne (pe_callB (id := "len") (r := (fun xs H Q => ∃ p ys, xs = [.ref p] ∧ (SqL K H p ys ∨ SqT K H p ys) ∧ Q (.int ys.length) H)) call_len_seq (by rfl) m_len (by decide +kernel) (pa_cons (pv 10) pa_nil)) (pe_op op_add (pv 8) pe_int) (nomark _)) (pw_or1 (pt_cmpR (r := rNeD K) (op_neD hr.units) (pe_ix (r := rIx K) ix_seq (pv 10) (pe_un un_neg pe_int) (fun _ _ => rfl)) (pe_tup (pa_cons pe_int (pa_cons (pe_op op_shl pe_int (pe_op op_add (pv 8) pe_int)) pa_nil))) (nomark _))))))
      (pss_one (ps_ret pe_bl))
      pss_nil)
    (pss_cons (ps_setLc (i := 11) (own := [("_law_one", 16), ("_law_two", 17)]) (g := gTup K 2 (gCons (gName 16) (gCons (gName 17) (gNil)))) (tt := tYes) rfl sc_law.nd rfl rfl (sw_true rfl rfl rfl (by decide +kernel)) (RZ.pi_zipA (by rfl) m_zip (pa_cons (pe_op (r := rCatA K) op_catA (pv 9) (pe_tup (pa_cons (pe_tup (pa_cons pe_int (pa_cons pe_int pa_nil))) pa_nil))) (pa_cons (pv 10) pa_nil))) (blkOk_by (N := ["_law_script", "_law_turnpike_here", "_law_turn", "_law_far", "_law_ticks", "_law_before", "_law_found", "_law_first", "_law_most", "_law_rows", "_law_later", "_law_grown", "_law_total", "_law_each", "_law_at", "_law_share", "_law_one", "_law_two", "_law_tick"]) (sc := defScope s_law) (by decide +kernel)) (fun _ _ _ _ _ => (pg_tup rfl (pgs_cons (pg_name (i := 16) sc_law.nd rfl (Or.inl rfl) (Or.inr rfl)) (pgs_cons (pg_name (i := 17) sc_law.nd rfl (Or.inl rfl) (Or.inr rfl)) pgs_nil)))) (fun _ _ _ _ _ => pts_nil) (fun _ _ _ _ _ => (pe_call G_multiplied (hr.mono (by decide)) (by rfl) g_multiplied k_multiplied b_multiplied .nil pass0 (pa_cons (pe_tup (pa_cons pe_int (pa_cons pe_int pa_nil))) (pa_cons (pe_call G_less (hr.mono (by decide)) (by rfl) g_less k_less b_less .nil pass0 (pa_cons (pv 17) (pa_cons (pv 16) pa_nil))) pa_nil)))))
    (pss_cons (ps_set (i := 12) sc_law.nd rfl (.inl rfl) (pe_tup (pa_cons pe_int (pa_cons pe_int pa_nil))))
    (pss_cons (ps_for PassesOwn.never rfl (pi_seq (pv 11)) (pg_name (i := 13) sc_law.nd rfl (.inl rfl))
      (pss_one (ps_set (i := 12) sc_law.nd rfl (.inl rfl) (pe_call G_added (hr.mono (by decide)) (by rfl) g_added k_added b_added .nil pass0 (pa_cons (pv 12) (pa_cons (pv 13) pa_nil))))))
    (pss_cons (ps_if (PW.pt (pw_or (pt_cmpR (r := rNeD K) (op_neD hr.units) (pe_call G_less (hr.mono (by decide)) (by rfl) g_less k_less b_less .nil pass0 (pa_cons (pe_call G_reach (hr.mono (by decide)) (by rfl) g_reach k_reach b_reach .nil pass0 (pa_cons (pe_op op_add (pv 8) pe_int) pa_nil)) (pa_cons (pe_call G_reach (hr.mono (by decide)) (by rfl) g_reach k_reach b_reach .nil pass0 (pa_cons (pv 8) pa_nil)) pa_nil))) (pv 12) (nomark _)) (pw_or1 (pt_val (pe_call G_below (hr.mono (by decide)) (by rfl) g_below k_below b_below .nil pass0 (pa_cons (pv 12) (pa_cons (pe_tup (pa_cons pe_int (pa_cons pe_int pa_nil))) pa_nil)))))))
      (pss_one (ps_ret pe_bl))
      pss_nil)
    (pss_one (ps_for PassesOwn.never rfl (pi_enumS (by rfl) m_enumerate (pa_cons (pv 9) pa_nil)) (pg_tup rfl (pgs_cons (pg_name (i := 14) sc_law.nd rfl (.inr rfl)) (pgs_cons (pg_name (i := 15) sc_law.nd rfl (.inr rfl)) pgs_nil)))
      (pss_one (ps_if (pt_cmpR (r := rNeD K) (op_neD hr.units) (pe_lc (own := [("_law_tick", 18)]) (g := gName 18) rfl sc_law.nd (pi_seq (pe_call G_best_ticks (hr.mono (by decide)) (by rfl) g_best_ticks k_best_ticks b_best_ticks .nil pass0 (pa_cons (pe_op op_add (pv 14) pe_int) (pa_cons (pv 8) pa_nil)))) (blkOk_by (N := ["_law_script", "_law_turnpike_here", "_law_turn", "_law_far", "_law_ticks", "_law_before", "_law_found", "_law_first", "_law_most", "_law_rows", "_law_later", "_law_grown", "_law_total", "_law_each", "_law_at", "_law_share", "_law_one", "_law_two", "_law_tick"]) (sc := defScope s_law) (by decide +kernel)) (fun _ _ _ _ _ => pg_name (i := 18) sc_law.nd rfl (Or.inl rfl)) (fun _ _ _ _ _ => pts_one (pt_cmpR (r := rNeD K) (op_neD hr.units) (pe_call G_first_share (hr.mono (by decide)) (by rfl) g_first_share k_first_share b_first_share .nil pass0 (pa_cons (pe_op op_add (pv 14) pe_int) (pa_cons (pv 18) pa_nil))) (pv 15) (nomark _))) (fun _ _ _ _ _ => (pv 18))) (pe_lst pa_nil) (nomark _))
      (pss_one (ps_ret pe_bl))
      pss_nil))))))))))))))))))))
    (pss_one (ps_ret pe_bl)))), ?_⟩
    walk_at "nx"
    refine ⟨.ref a, rfl, a, ns, rfl, hS, hlen, fun b c H1 s1 hS1 => ?_⟩
    walk_at "nx"
    refine' st_forR (K := K) (W := satW b c) (n := 0) hS1 (ja_cons jd_int ja_nil) (by decide) (by decide) (fun i σ' H' => ∃ y2 y3 y4 y5 y6 y7 y8 y9 y10 y11 y12 y13 y14 y15 y16 y17 y18, σ' = [some (.ref a), some (.ref b), y2, y3, y4, y5, y6, y7, y8, y9, y10, y11, y12, y13, y14, y15, y16, y17, y18] ∧ Sat b c (6 * i) H') (fun H2 e2 hS2 => ⟨_, _, _, _, _, _, _, _, _, _, _, _, _, _, _, _, _, rfl, hS2⟩) ?turn ?done
    case done =>
      rintro σ' H' ⟨y2, y3, y4, y5, y6, y7, y8, y9, y10, y11, y12, y13, y14, y15, y16, y17, y18, rfl, hS'⟩
      exact q H'
    case turn =>
    rintro i σ' H' hi ⟨y2, y3, y4, y5, y6, y7, y8, y9, y10, y11, y12, y13, y14, y15, y16, y17, y18, rfl, hS'⟩
    have hi4 : i < 3 := by omega
    have hB : 6 * (i + 1) ≤ BIG := by show 6 * (i + 1) ≤ 1000000; omega
    walk_at "nx"
    refine' st_set (W := satW b c) (n := 6 * i) (P := fun v _ => ∃ z : Int, v = .int z ∧ 1 ≤ z ∧ z ≤ 20) hS' (ji_op0 (φ1 := fun z => z = 1) (φ2 := fun z => 0 ≤ z ∧ z < 20) (φ := fun z => 1 ≤ z ∧ z ≤ 20) (ji_of (K := K) jd_int rfl)
      (ji_drawX (B := 20) (φ := fun z => 1 ≤ z ∧ z ≤ 20) rfl (ji_ofX (K := K) (ψ := fun d => ∃ z : Int, d = .int z ∧ 1 ≤ z ∧ z ≤ 20) (jx_pick (K := K) (m := 3) rfl (jxl_lst (jxs_cons (jx_of (K := K) jd_int ⟨_, rfl, by decide⟩) (jxs_cons (jx_of (K := K) jd_int ⟨_, rfl, by decide⟩) (jxs_cons (jx_of (K := K) jd_int ⟨_, rfl, by decide⟩) jxs_nil))) (by decide)) (by decide)) (fun d h => h)) ?d1) ?a1) ?l1 (fun v H2 e2 hS2 hv => ?k1)
    case d1 => (intro m hm; omega)
    case a1 => (intro z1 z2 h1 h2; omega)
    case l1 => (show 6 * i + 2 ≤ 1000000; omega)
    case k1 =>
    obtain ⟨z, rfl, hz⟩ := hv
    obtain ⟨y, rfl⟩ : ∃ y : Nat, z = ((y + 1 : Nat) : Int) := ⟨(z - 1).toNat, by omega⟩
    have hS2' : Sat b c (6 * i + 2) H2 := hS2
    walk_at "nx"
    refine' st_set (W := satW b c) (n := 6 * i + 2) (P := fun v H3 => ∃ d, (∃ z : Int, d = .int z ∧ 1 ≤ z ∧ z ≤ 40) ∧ Da K (satW b c) H3 v d) hS2' (jx_pick (K := K) (ψ := fun d => ∃ z : Int, d = .int z ∧ 1 ≤ z ∧ z ≤ 40) (m := 3) rfl (jxl_lst (jxs_cons
      (jx_i (ji_op0 (φ1 := fun z => z = ((y + 1 : Nat) : Int)) (φ2 := fun z => 0 ≤ z ∧ z ≤ 16) (φ := fun z => 1 ≤ z ∧ z ≤ 40) (ji_v rfl rfl) (ji_op (φ1 := fun z => z = 2) (φ2 := fun z => 0 ≤ z ∧ z < 9) (φ := fun z => 0 ≤ z ∧ z ≤ 16) (ji_of (K := K) jd_int rfl) (ji_draw (K := K) rfl jd_int (by decide)) ?c2 ?p2) ?a2) (fun z h => ⟨z, rfl, h⟩))
      (jxs_cons (jx_i (ji_v (φ := fun z => 1 ≤ z ∧ z ≤ 40) rfl ?a3) (fun z h => ⟨z, rfl, h⟩))
      (jxs_cons (jx_i (ji_op0 (φ1 := fun z => z = 1) (φ2 := fun z => 0 ≤ z ∧ z < 40) (φ := fun z => 1 ≤ z ∧ z ≤ 40) (ji_of (K := K) jd_int rfl) (ji_draw (K := K) rfl jd_int (by decide)) ?a4) (fun z h => ⟨z, rfl, h⟩)) jxs_nil))) (by decide)) (by decide)) ?l2 (fun v H3 e3 hS3 hv => ?k2)
    case c2 => (intro z1 z2 h1 h2; subst h1; exact .inl ⟨by decide, by decide⟩)
    case p2 => (intro z1 z2 h1 h2; subst h1; show 0 ≤ 2 * z2 ∧ 2 * z2 ≤ 16; omega)
    case a2 => (intro z1 z2 h1 h2; omega)
    case a3 => omega
    case a4 => (intro z1 z2 h1 h2; omega)
    case l2 => (show 6 * i + 2 + 3 ≤ 1000000; omega)
    case k2 =>
    obtain ⟨d, ⟨t, rfl, ht⟩, hv⟩ := hv
    have hvi := hv.int
    subst hvi
    obtain ⟨u, rfl⟩ : ∃ u : Nat, t = ((u + 1 : Nat) : Int) := ⟨(t - 1).toNat, by omega⟩
    have hS3' : Sat b c (6 * i + 5) H3 := hS3
    have hu : u ≤ 39 := by omega
    have hy : y ≤ 19 := by omega
    have hB5 : 6 * i + 5 ≤ BIG := by show 6 * i + 5 ≤ 1000000; omega
    walk_at "nx"
    refine' st_setW (K := K) (W := satW b c) (n := 6 * i + 5) hS3' (d := frD (FF u (y + 2))) (jd_call (rel := rel_first_share) (ja_cons (JD.eq ?j1 ?e1) (ja_cons (JD.eq ?j2 ?e2) ja_nil)) ⟨y + 2, u, rfl, ⟨by omega, by omega⟩, by omega, rfl⟩ rfl) ?cc1 hB5 (fun vb H4 e4 hI4 hvb => ?k3)
    case j1 => walk_at "j"
    case e1 => exact congrArg PyData.int (by omega)
    case j2 => walk_at "j"
    case e2 => exact congrArg PyData.int (by omega)
    case cc1 => rfl
    case k3 =>
    walk_at "nx"
    refine' st_set (W := satW b c) (n := 6 * i + 5) (c := 0) (P := fun v H2 => Da K (satW b c) H2 v (frD (FF u (y + 2) + FF u y))) hI4 (J.le (j_if (K := K) (c1 := 0) ?t1 ?g1 ?g2) ?l3) hB5 (fun vb2 H5 e5 hI5 hvb2 => ?k4)
    case t1 => walk_at "jt"
    case g1 =>
      intro hb
      have hy1 : 1 ≤ y := by have := of_decide_eq_true hb; omega
      refine' jd0 (jd_call (rel := rel_added) (ja_cons (jd_v rfl hvb) (ja_cons (jd_call (rel := rel_first_share) (ja_cons (JD.eq ?j3 ?e3) (ja_cons (JD.eq ?j4 ?e4) ja_nil)) ⟨y, u, rfl, ⟨by omega, by omega⟩, by omega, rfl⟩ rfl) ja_nil)) ⟨_, _, _, _, rfl, isFr_D _, isFr_D _, (bd_FF _ _).mono (by omega), (bd_FF _ _).mono (by omega), rfl⟩ rfl) rfl ?l4
      case j3 => walk_at "j"
      case e3 => exact congrArg PyData.int (by omega)
      case j4 => walk_at "j"
      case e4 => exact congrArg PyData.int (by omega)
      case l4 => decide
    case g2 =>
      intro hb
      have hy0 : y = 0 := by have := of_decide_eq_false hb; omega
      refine' jd0 (jd_call (rel := rel_added) (ja_cons (jd_v rfl hvb) (ja_cons (JD.eq (jd_tup (ja_cons (jd_intB (ja_cons ?j5 ja_nil)) (ja_cons jd_int ja_nil)) (by show 2 ≤ 100000; decide)) ?e5) ja_nil)) ⟨_, _, _, _, rfl, isFr_D _, isFr_D _, (bd_FF _ _).mono (by omega), (bd_FF _ _).mono (by omega), rfl⟩ rfl) rfl ?l5
      case j5 => walk_at "j"
      case e5 =>
        rw [hy0, FF_00]
        by_cases h0 : u = 0
        · subst h0; rfl
        · rw [if_neg h0, decide_eq_false (by omega)]; rfl
      case l5 => decide
    case l3 => decide
    case k4 =>
    walk_at "nx"
    have hsh : SeqAt.shaped (frD (FF (u + 1) (y + 1))) = true := shaped_fr _
    refine' st_ifF (K := K) hI5 (jb_test (jd_neD (d1 := frD (half * (FF u (y + 2) + FF u y))) (d2 := frD (FF (u + 1) (y + 1))) ?j6 (jd_call (rel := rel_first_share) (ja_cons ?j7 (ja_cons ?j8 ja_nil)) ⟨y + 1, u + 1, rfl, ⟨by omega, by omega⟩, by omega, rfl⟩ rfl) (shaped_fr _) hsh)) ?f1 ?c3 hB5 (fun H6 e6 hI6 => ?k5)
    case j6 => walk_at "j"
    case j7 => walk_at "j"
    case j8 => walk_at "j"
    case f1 => (rw [eqv_fr, half_FF, decide_eq_true rfl]; rfl)
    case c3 => rfl
    case k5 =>
    walk_at "nx"
    refine' st_setW (K := K) hI6 (d := frD 0) (JD.eq (jd_tup (ja_cons jd_int (ja_cons jd_int ja_nil)) (by show 2 ≤ 100000; decide)) rfl) rfl hB5 (fun vf H7 e7 hI7 hvf => ?k6)
    case k6 =>
    walk_at "nx"
    refine' st_forN (K := K) (W := satW b c) (n := 6 * i + 5) (ds := stepsD ((y + 1 : Nat) : Int) 1 (u + 2 - (y + 1))) hI7 (JIt.eq (ji_r2 (lo := ((y + 1 : Nat) : Int)) (hi := ((u + 1 : Nat) : Int) + 1) (ja_cons ?j9 (ja_cons ?j10 ja_nil)) ?r1) ?e6) ?l6
      (fun H2 k σ' H' => ExM (satW b c).M H2 H' ∧ (satW b c).I (6 * i + 5) H' ∧ ∃ vg z7, σ' = [some (.ref a), some (.ref b), some (.int (i : Int)), some (.int ((y + 1 : Nat) : Int)), some (.int ((u + 1 : Nat) : Int)), some vb2, some vg, z7, y8, y9, y10, y11, y12, y13, y14, y15, y16, y17, y18] ∧ Da K (satW b c) H' vg (frD (CC (u + 1) (y + 1) (y + 1 + k))))
      (fun H2 e2 hI2 => ?start2) (fun H2 k σ' H' hp => ⟨hp.1, _, hp.2.1⟩) ?turn2 ?done2
    case j9 => walk_at "j"
    case j10 => walk_at "j"
    case r1 => exact ⟨by omega, by omega, by omega, by omega⟩
    case e6 => (rw [show (((u + 1 : Nat) : Int) + 1 - ((y + 1 : Nat) : Int)).toNat = u + 2 - (y + 1) by omega])
    case l6 => exact hB5
    case start2 => exact ⟨ExM.refl, hI2, vf, _, rfl, by rw [Nat.add_zero, CC_start]; exact hvf.mono e2⟩
    case turn2 =>
      rintro H2 k d x σ' H' H'' e8 hd ⟨eM, hI8, vg, z7, rfl, hg⟩ s hx
      have hk : k < u + 2 - (y + 1) := by
        have := (List.getElem?_eq_some_iff.mp hd).1
        simpa [stepsD] using this
      have ed : d = .int ((y + 1 + k : Nat) : Int) := by
        unfold stepsD at hd
        rw [List.getElem?_map, List.getElem?_range hk] at hd
        have h5 := Option.some.inj hd
        rw [← h5]
        exact congrArg PyData.int (by omega)
      subst ed
      cases hx
      have hI9 := (satW b c).st s hI8
      have hb1 : Bd (CC (u + 1) (y + 1) (y + 1 + k)) 4000 := (bd_CC (by omega)).mono (by omega)
      have hb2 : Bd (FF (y + 1 + k) (y + 1) * PP (u + 1 - (y + 1 + k)) 0) 4000 := ((bd_FF _ _).mul (bd_PP _ _)).mono (by omega)
      refine' st_setW (K := K) hI9 (d := frD (CC (u + 1) (y + 1) (y + 1 + (k + 1)))) (JD.eq (jd_call (rel := rel_added) (ja_cons (jd_v rfl (hg.mono (.of s))) (ja_cons
        (jd_call (rel := rel_multiplied) (ja_cons (jd_call (rel := rel_first_share) (ja_cons ?j11 (ja_cons ?j12 ja_nil)) ⟨y + 1, y + 1 + k, rfl, ⟨by omega, by omega⟩, by omega, rfl⟩ rfl) (ja_cons (jd_call (rel := rel_share_of) (ja_cons ?j13 (ja_cons (JD.eq ?j14 ?e14) ja_nil)) ⟨0, u + 1 - (y + 1 + k), rfl, ⟨by decide, by decide⟩, by omega, rfl⟩ rfl) ja_nil)) ⟨_, _, _, _, rfl, isFr_D _, isFr_D _, (bd_FF _ _).mono (by omega), (bd_PP _ _).mono (by omega), rfl⟩ rfl) ja_nil)) ⟨_, _, _, _, rfl, isFr_D _, isFr_D _, hb1, hb2, rfl⟩ rfl) ?e15) ?cc3 hB5 (fun v9 H9 e9 hI10 hv9 => ?k7)
      case j11 => walk_at "j"
      case j12 => walk_at "j"
      case j13 => walk_at "j"
      case j14 => walk_at "j"
      case e14 => exact congrArg PyData.int (by omega)
      case e15 => rw [CC_step (by omega)]; rfl
      case cc3 => rfl
      case k7 => exact ⟨eM.trans ((ExM.of s).trans e9), hI10, v9, _, rfl, hv9⟩
    case done2 =>
    rintro H2 σ' H' e8 ⟨eM, hI8, vg, z7, rfl, hg⟩
    rw [show (stepsD ((y + 1 : Nat) : Int) 1 (u + 2 - (y + 1))).length = u + 1 + 1 - (y + 1) by simp [stepsD], CC_end] at hg
    walk_at "nx"
    refine' st_ifF (K := K) hI8 (jb_test (jd_neD (d1 := frD (PP (u + 1) ((y + 1 : Nat) : Int))) (d2 := frD (PP (u + 1) ((y + 1 : Nat) : Int))) (jd_v rfl hg) (jd_call (rel := rel_share_of) (ja_cons ?j15 (ja_cons ?j16 ja_nil)) ⟨_, u + 1, rfl, ⟨by omega, by omega⟩, by omega, rfl⟩ rfl) (shaped_fr _) (shaped_fr _))) ?f2 ?c4 hB5 (fun H10 e10 hI10 => ?k8)
    case j15 => walk_at "j"
    case j16 => walk_at "j"
    case f2 => (rw [eqv_fr, decide_eq_true rfl]; rfl)
    case c4 => rfl
    case k8 =>
    walk_at "nx"
    refine' st_set (W := satW b c) (n := 6 * i + 5) hI10 (ji_draw (K := K) rfl jd_int (by decide)) ?l7 (fun vm H11 e11 hS11 hvm => ?k9)
    case l7 => (show 6 * i + 5 + 1 ≤ 1000000; omega)
    case k9 =>
    obtain ⟨z, rfl, hz2⟩ := hvm
    obtain ⟨k, rfl⟩ : ∃ k : Nat, z = (k : Int) := ⟨z.toNat, by omega⟩
    have hk : k ≤ 19 := by omega
    have hI11 : (satW b c).I (6 * (i + 1)) H11 := (satW b c).mo (by show 6 * i + 5 + 1 ≤ _; omega) hS11
    walk_at "nx"
    refine' st_par (K := K) (W := satW b c) (n := 6 * (i + 1)) hI11 (ja_cons (jd_call (rel := rel_reach_rows) (ja_cons ?j17 ja_nil) ⟨k, rfl, by omega, rfl⟩ (noL_frs _)) (ja_cons (jd_call (rel := rel_reach_rows) (ja_cons (JD.eq ?j18 ?e18) ja_nil) ⟨k + 1, rfl, by omega, rfl⟩ (noL_frs _)) ja_nil)) ?l8 (fun vr vl H12 e12 hI12 hvr hvl => ?k10)
    case j17 => walk_at "j"
    case j18 => walk_at "j"
    case e18 => exact congrArg PyData.int (by omega)
    case l8 => exact hB
    case k10 =>
    have hI12' : (satW b c).I (6 * (i + 1)) H12 := hI12
    walk_at "nx"
    obtain ⟨ini, hini⟩ := rows_succ k
    have hlast : atI (itemsD (.tuple ((rows (k + 1)).map frD))) (-1) = some (frD (FF (k + 1) (k + 1))) := by
      show atI ((rows (k + 1)).map frD) (-1) = _
      rw [hini, List.map_append]; exact atI_last _ _
    have hpow : CPow 1 ((k : Int) + 1) := ⟨by omega, by omega, by decide⟩
    refine' st_ifF (K := K) hI12' (jb_or (jb_test (jd_neI (jd_lenS (d := .tuple ((rows k).map frD)) (ja_cons ?j19 ja_nil) rfl) ?j20)) (fun _ => jb_or (jb_test (jd_neI (jd_lenS (d := .tuple ((rows (k + 1)).map frD)) (ja_cons ?j21 ja_nil) rfl) ?j22)) (fun _ => jb_test (jd_neD (d2 := frD (FF (k + 1) (k + 1))) (jd_ix ?j23 (jd_neg jd_int) rfl hlast)
      (JD.eq (jd_tup (ja_cons jd_int (ja_cons (jd_Ii jd_int ?j24 hpow) ja_nil)) (by show 2 ≤ 100000; decide)) ?e24) (shaped_fr _) (shaped_fr _))))) ?f3 ?c5 hB (fun H13 e13 hI13 => ?k11)
    case j19 => exact jd_v rfl hvr
    case j20 => walk_at "j"
    case j21 => exact jd_v rfl hvl
    case j22 => walk_at "j"
    case j23 => exact jd_v rfl hvl
    case j24 => walk_at "j"
    case e24 => (rw [FF_self]; show PyData.tuple [.int 1, .int (1 * 2 ^ ((k : Int) + 1).toNat)] = _; rw [show ((k : Int) + 1).toNat = k + 1 by omega, Int.one_mul])
    case f3 =>
      have l1 : ((lenD (.tuple ((rows k).map frD)) : Nat) : Int) = k := by show ((((rows k).map frD).length : Nat) : Int) = k; rw [List.length_map, rows_len]
      have l2 : ((lenD (.tuple ((rows (k + 1)).map frD)) : Nat) : Int) = (k : Int) + 1 := by show ((((rows (k + 1)).map frD).length : Nat) : Int) = _; rw [List.length_map, rows_len]; omega
      rw [decide_eq_true l1, decide_eq_true l2, eqv_fr, decide_eq_true rfl]; rfl
    case c5 => rfl
    case k11 =>
    walk_at "nx"
    refine' st_setW (K := K) hI13 (d := .list ((grow k).map frD)) (JD.eq (nl_da (jl_lcP (K := K) (ds := zipD ((rows k ++ [0]).map frD) ((rows (k + 1)).map frD)) (fun _ => true) growD
      (JIt.eq (ji_zip (d1 := .tuple ((rows k).map frD ++ [frD 0])) (d2 := .tuple ((rows (k + 1)).map frD)) (ja_cons (jd_catA (xs := (rows k).map frD) (ys := [frD 0]) ?j25 (jd_tup (ja_cons (JD.eq (jd_tup (ja_cons jd_int (ja_cons jd_int ja_nil)) (by show 2 ≤ 100000; decide)) rfl) ja_nil) (by show 1 ≤ 100000; decide)) ?l9) (ja_cons ?j26 ja_nil)) (.inr ⟨rfl, rfl⟩)) ?e25)
      ?l10 ?hp (fun x y => rfl) (fun _ _ _ _ _ _ _ _ _ => jb_yes) ?he ?hn)) ?e26) ?cc4 hB (fun vgw H14 e14 hI14 hvgw => ?k12)
    case j25 => exact jd_v rfl (hvr.mono e13)
    case l9 => (rw [List.length_map, rows_len]; show k + 1 ≤ 100000; omega)
    case j26 => exact jd_v rfl (hvl.mono e13)
    case e25 => (show zipD ((rows k).map frD ++ [frD 0]) _ = _; rw [List.map_append]; rfl)
    case l10 => (simp [zipD, rows_len]; omega)
    case hp => (intro d hd; obtain ⟨a', b', e, _, _⟩ := zipD_mem hd; exact ⟨a', b', e⟩)
    case he =>
      intro a' b' xa xb H2 hmem e2 ha hb
      obtain ⟨a2, b2, e3, m1, m2⟩ := zipD_mem hmem
      injection e3 with e3
      injection e3 with ea e3
      injection e3 with eb _
      subst ea eb
      obtain ⟨p1, hp1, rfl⟩ := List.mem_map.mp m1
      obtain ⟨p2, hp2, rfl⟩ := List.mem_map.mp m2
      have hb1 : Bd p1 (k + 1) := by
        rcases List.mem_append.mp hp1 with h | h
        · exact rows_bd h
        · rw [List.mem_singleton.mp h]; exact bd_0.mono (by omega)
      have hb2 : Bd p2 (k + 1 + 1) := rows_bd hp2
      refine' jd0 (jd_call (rel := rel_multiplied) (ja_cons (jd_tup (ja_cons jd_int (ja_cons jd_int ja_nil)) (by show 2 ≤ 100000; decide)) (ja_cons (jd_call (rel := rel_less) (ja_cons (jd_v rfl hb) (ja_cons (jd_v rfl ha) ja_nil)) ⟨_, _, p2, p1, rfl, isFr_D _, isFr_D _, hb2.mono (by omega), hb1.mono (by omega), rfl⟩ rfl) ja_nil)) ⟨_, _, 2, p2 - p1, rfl, isFr_21, isFr_D _, bd_2.mono (by decide), (hb2.sub hb1).mono (by omega), rfl⟩ rfl) ?v1 ?v2
      case v1 => (show _ = frD (2 * (ratD (frD p2) - ratD (frD p1))); rw [ratD_fr, ratD_fr])
      case v2 => decide
    case hn => (intro d _; rfl)
    case e26 =>
      rw [List.filter_eq_self.mpr (fun _ _ => rfl)]
      exact congrArg PyData.list (zipD_frs (rows k ++ [0]) (rows (k + 1)))
    case cc4 => rfl
    case k12 =>
    walk_at "nx"
    refine' st_setW (K := K) hI14 (d := frD 0) (JD.eq (jd_tup (ja_cons jd_int (ja_cons jd_int ja_nil)) (by show 2 ≤ 100000; decide)) rfl) rfl hB (fun vt H15 e15 hI15 hvt => ?k13)
    case k13 =>
    walk_at "nx"
    refine' st_forN (K := K) (W := satW b c) (n := 6 * (i + 1)) (ds := (grow k).map frD) hI15 (ji_seq (d0 := .list ((grow k).map frD)) (jd_v rfl (hvgw.mono e15)) rfl) hB
      (fun H2 j σ' H' => ExM (satW b c).M H2 H' ∧ (satW b c).I (6 * (i + 1)) H' ∧ ∃ vh z13, σ' = [some (.ref a), some (.ref b), some (.int (i : Int)), some (.int ((y + 1 : Nat) : Int)), some (.int ((u + 1 : Nat) : Int)), some vb2, some vg, z7, some (.int (k : Int)), some vr, some vl, some vgw, some vh, z13, y14, y15, y16, y17, y18] ∧ Da K (satW b c) H' vh (frD ((grow k).take j).sum))
      (fun H2 e2 hI2 => ⟨ExM.refl, hI2, vt, _, rfl, hvt.mono e2⟩) (fun H2 j σ' H' hp => ⟨hp.1, _, hp.2.1⟩) ?turn3 ?done3
    case turn3 =>
      rintro H2 j d x σ' H' H'' e16 hd ⟨eM, hI16, vh, z13, rfl, hg2⟩ s hx
      rw [List.getElem?_map] at hd
      cases ht2 : (grow k)[j]? with
      | none => rw [ht2] at hd; cases hd
      | some t =>
        rw [ht2] at hd
        have ed := Option.some.inj hd
        subst ed
        have hI17 := (satW b c).st s hI16
        have hbt : Bd t 4000 := (grow_bd (List.mem_of_getElem? ht2)).mono (by omega)
        have hbs : Bd ((grow k).take j).sum 4000 := grow_take (by omega) j
        refine' st_setW (K := K) hI17 (d := frD ((grow k).take (j + 1)).sum) (JD.eq (jd_call (rel := rel_added) (ja_cons (jd_v rfl (hg2.mono (.of s))) (ja_cons (jd_v rfl hx) ja_nil)) ⟨_, _, _, _, rfl, isFr_D _, isFr_D _, hbs, hbt, rfl⟩ rfl) (by rw [take_sum ht2])) rfl hB (fun v9 H9 e9 hI18 hv9 => ?k14)
        case k14 => exact ⟨eM.trans ((ExM.of s).trans e9), hI18, v9, _, rfl, hv9⟩
    case done3 =>
    rintro H2 σ' H' e16 ⟨eM, hI16, vh, z13, rfl, hg2⟩
    rw [List.length_map, List.take_length] at hg2
    have hgb : Bd (grow k).sum 4000 := by have := grow_take (show k ≤ 20 by omega) (grow k).length; rwa [List.take_length] at this
    have hr1 : Bd (2 * (rows (k + 1)).sum) 4000 := (bd_2.mul (rows_sum_bd (by omega))).mono (by decide)
    have hr2' : Bd (2 * (rows k).sum) 4000 := (bd_2.mul (rows_sum_bd (by omega))).mono (by decide)
    walk_at "nx"
    refine' st_ifF (K := K) hI16 (jb_or (jb_test (jd_neD (d1 := frD (2 * (rows (k + 1)).sum - 2 * (rows k).sum)) (d2 := frD (grow k).sum) (jd_call (rel := rel_less) (ja_cons (jd_call (rel := rel_reach) (ja_cons (JD.eq ?j28 ?e28) ja_nil) ⟨k + 1, rfl, by omega, rfl⟩ rfl) (ja_cons (jd_call (rel := rel_reach) (ja_cons ?j29 ja_nil) ⟨k, rfl, by omega, rfl⟩ rfl) ja_nil)) ⟨_, _, _, _, rfl, isFr_D _, isFr_D _, hr1, hr2', rfl⟩ rfl) (jd_v rfl hg2) (shaped_fr _) (shaped_fr _)))
      (fun _ => jb_B (jd_call (rel := rel_below) (ja_cons (jd_v rfl hg2) (ja_cons (jd_tup (ja_cons jd_int (ja_cons jd_int ja_nil)) (by show 2 ≤ 100000; decide)) ja_nil)) ⟨_, _, _, 0, rfl, isFr_D _, isFr_01, hgb, bd_0.mono (by decide), rfl⟩ rfl))) ?f4 ?c6 hB (fun H18 e18 hI18 => ?k15)
    case j28 => walk_at "j"
    case e28 => exact congrArg PyData.int (by omega)
    case j29 => walk_at "j"
    case f4 => (rw [eqv_fr, decide_eq_true (grow_sum k).symm, decide_eq_false (Rat.not_lt.mpr (grow_nonneg k))]; rfl)
    case c6 => rfl
    case k15 =>
    walk_at "nx"
    have hvr2 : Da K (satW b c) H18 vr (.tuple ((rows k).map frD)) := (((((hvr.mono e13).mono e14).mono e15).mono e16).mono eM).mono e18
    refine' st_forP (K := K) (W := satW b c) (n := 6 * (i + 1)) (ds := enumD ((rows k).map frD)) hI18 (ji_enum (d0 := .tuple ((rows k).map frD)) (ja_cons (jd_v rfl hvr2) ja_nil) rfl) hB ?hp2
      (fun H2 j σ' H' => ExM (satW b c).M H2 H' ∧ (satW b c).I (6 * (i + 1)) H' ∧ ∃ z14 z15, σ' = [some (.ref a), some (.ref b), some (.int (i : Int)), some (.int ((y + 1 : Nat) : Int)), some (.int ((u + 1 : Nat) : Int)), some vb2, some vg, z7, some (.int (k : Int)), some vr, some vl, some vgw, some vh, z13, z14, z15, y16, y17, y18])
      (fun H2 e2 hI2 => ⟨ExM.refl, hI2, _, _, rfl⟩) (fun H2 j σ' H' hp => ⟨hp.1, _, hp.2.1⟩) ?turn4 ?done4
    case hp2 => (intro d hd; obtain ⟨a', b', e, _, _⟩ := zipD_mem hd; exact ⟨a', b', e⟩)
    case turn4 =>
      rintro H2 j a' b' xa xb σ' H' H'' e19 hd ⟨eM2, hI19, z14, z15, rfl⟩ s ha hb
      have hj : j < k := by
        have := (List.getElem?_eq_some_iff.mp hd).1
        rw [enumD_len, List.length_map, rows_len] at this
        exact this
      have hat : ((rows k).map frD)[j]? = some (frD (gr 0 (fs (j + 1) k))) := by rw [List.getElem?_map, rows_at hj]; rfl
      rw [enumD_at hat] at hd
      have hd2 := Option.some.inj hd
      injection hd2 with hd2
      injection hd2 with ea hd2
      injection hd2 with eb _
      subst ea eb
      cases ha
      have hI20 := (satW b c).st s hI19
      refine' st_ifF (K := K) hI20 (jb_test (jd_neD (d1 := .list []) (d2 := .list []) (JD.eq (nl_da (jl_lcNT (K := K) (ds := (btk (j + 1) k).map fun t : Nat => PyData.int t) (fun d => !PyData.eqv (frD (FF (natD d) (j + 1))) (frD (gr 0 (fs (j + 1) k)))) (fun d => d)
        (ji_seq (d0 := .tuple ((btk (j + 1) k).map fun t : Nat => PyData.int t)) (jd_call (rel := rel_best_ticks) (ja_cons (JD.eq ?j31 ?e31) (ja_cons ?j32 ja_nil)) ⟨j + 1, k, rfl, ⟨by omega, by omega⟩, by omega, rfl⟩ (noL_nats _)) rfl) ?l13 (fun x => rfl) ?ht ?he2 ?hn2)) ?e33) (jd_lst ja_nil (by decide)) rfl rfl)) ?f5 ?c7 hB (fun H20 e20 hI21 => ?k16)
      case j31 => walk_at "j"
      case e31 => exact congrArg PyData.int (by omega)
      case j32 => walk_at "j"
      case l13 =>
        have h1 : (btk (j + 1) k).length ≤ (ts (j + 1) k).length := List.length_filter_le _ _
        have h2 : (ts (j + 1) k).length ≤ 100 := by simp only [ts, List.length_map, List.length_range]; omega
        show ((btk (j + 1) k).map fun t : Nat => PyData.int t).length < 100000
        rw [List.length_map]; omega
      case ht =>
        intro d x H21 hm e21 hx
        obtain ⟨t, ht2, rfl⟩ := List.mem_map.mp hm
        have hle := ts_le (List.mem_filter.mp ht2).1
        cases hx
        refine' JT.le (jb_test (jd_neD (jd_call (rel := rel_first_share) (ja_cons (JD.eq ?j33 ?e34) (ja_cons (jd_vi rfl) ja_nil)) ⟨j + 1, t, rfl, ⟨by omega, by omega⟩, by omega, rfl⟩ rfl) (jd_v rfl (hb.mono e21)) (shaped_fr _) (shaped_fr _))) ?v4
        case j33 => walk_at "j"
        case e34 => exact congrArg PyData.int (by omega)
        case v4 => decide
      case he2 =>
        intro d x H21 hm e21 hx
        exact jd_v rfl hx
      case hn2 => (intro d hm; obtain ⟨t, _, rfl⟩ := List.mem_map.mp hm; rfl)
      case e33 =>
        have h0 : List.filter (fun d => !PyData.eqv (frD (FF (natD d) (j + 1))) (frD (gr 0 (fs (j + 1) k)))) ((btk (j + 1) k).map fun t : Nat => PyData.int t) = [] := by
          rw [List.filter_eq_nil_iff]
          intro d hm
          obtain ⟨t, ht2, rfl⟩ := List.mem_map.mp hm
          have h1 := (List.mem_filter.mp ht2).2
          show ¬ (!PyData.eqv (frD (FF t (j + 1))) (frD (gr 0 (fs (j + 1) k)))) = true
          rw [eqv_fr, h1]; decide
        show PyData.list (List.map (fun d => d) (List.filter _ _)) = _
        rw [h0]; rfl
      case f5 => rfl
      case c7 => rfl
      case k16 => exact ⟨eM2.trans ((ExM.of s).trans e20), hI21, _, _, rfl⟩
    case done4 =>
    rintro H2 σ' H' e19 ⟨eM2, hI19, z14, z15, rfl⟩
    exact ⟨_, _, _, _, _, _, _, _, _, _, _, _, _, _, _, _, _, rfl, hI19⟩
--END
end
set_option maxHeartbeats 4000000 in
theorem all_mk {l : PySem.W.OpenLaw} {w : World} {K : PySem.W.Frag} {h : Heap} {mg : Str → Option Value} {fa : Addr} (X : K.In h) (G : h.Ns mainGlobals mg) (hfa : mg "law" = some (.ref fa))
    {f0 : Addr} {od0 an0 : Option Addr} {sl0 : Array (Option Value)} {oc0 kV0 dc0 pm0 cd0 ct0 : Value}
    (a0 : PySem.W.nsIn K mainGlobals "is_integer" = some (some (.ref f0))) (l0 : K.lookup f0 = some ⟨oc0, od0, .func (PySem.W.fnOf "is_integer" "is_integer" (defArgs s_is_integer) (defBody s_is_integer) (defScope s_is_integer) .none kV0 dc0 pm0 an0 cd0 ct0), sl0⟩) (c0 : PySem.W.codeIn K cd0 "is_integer" = true) (k0 : PySem.W.keepIn K (.ref f0) = true)
    {f1 : Addr} {od1 an1 : Option Addr} {sl1 : Array (Option Value)} {oc1 kV1 dc1 pm1 cd1 ct1 : Value}
    (a1 : PySem.W.nsIn K mainGlobals "is_within" = some (some (.ref f1))) (l1 : K.lookup f1 = some ⟨oc1, od1, .func (PySem.W.fnOf "is_within" "is_within" (defArgs s_is_within) (defBody s_is_within) (defScope s_is_within) .none kV1 dc1 pm1 an1 cd1 ct1), sl1⟩) (c1 : PySem.W.codeIn K cd1 "is_within" = true) (k1 : PySem.W.keepIn K (.ref f1) = true)
    {f2 : Addr} {od2 an2 : Option Addr} {sl2 : Array (Option Value)} {oc2 kV2 dc2 pm2 cd2 ct2 : Value}
    (a2 : PySem.W.nsIn K mainGlobals "are_integers" = some (some (.ref f2))) (l2 : K.lookup f2 = some ⟨oc2, od2, .func (PySem.W.fnOf "are_integers" "are_integers" (defArgs s_are_integers) (defBody s_are_integers) (defScope s_are_integers) .none kV2 dc2 pm2 an2 cd2 ct2), sl2⟩) (c2 : PySem.W.codeIn K cd2 "are_integers" = true) (k2 : PySem.W.keepIn K (.ref f2) = true)
    {f3 : Addr} {od3 an3 : Option Addr} {sl3 : Array (Option Value)} {oc3 kV3 dc3 pm3 cd3 ct3 : Value}
    (a3 : PySem.W.nsIn K mainGlobals "is_fraction" = some (some (.ref f3))) (l3 : K.lookup f3 = some ⟨oc3, od3, .func (PySem.W.fnOf "is_fraction" "is_fraction" (defArgs s_is_fraction) (defBody s_is_fraction) (defScope s_is_fraction) .none kV3 dc3 pm3 an3 cd3 ct3), sl3⟩) (c3 : PySem.W.codeIn K cd3 "is_fraction" = true) (k3 : PySem.W.keepIn K (.ref f3) = true)
    {f4 : Addr} {od4 an4 : Option Addr} {sl4 : Array (Option Value)} {oc4 kV4 dc4 pm4 cd4 ct4 : Value}
    (a4 : PySem.W.nsIn K mainGlobals "need_number" = some (some (.ref f4))) (l4 : K.lookup f4 = some ⟨oc4, od4, .func (PySem.W.fnOf "need_number" "need_number" (defArgs s_need_number) (defBody s_need_number) (defScope s_need_number) .none kV4 dc4 pm4 an4 cd4 ct4), sl4⟩) (c4 : PySem.W.codeIn K cd4 "need_number" = true) (k4 : PySem.W.keepIn K (.ref f4) = true)
    {f5 : Addr} {od5 an5 : Option Addr} {sl5 : Array (Option Value)} {oc5 kV5 dc5 pm5 cd5 ct5 : Value}
    (a5 : PySem.W.nsIn K mainGlobals "need_fraction" = some (some (.ref f5))) (l5 : K.lookup f5 = some ⟨oc5, od5, .func (PySem.W.fnOf "need_fraction" "need_fraction" (defArgs s_need_fraction) (defBody s_need_fraction) (defScope s_need_fraction) .none kV5 dc5 pm5 an5 cd5 ct5), sl5⟩) (c5 : PySem.W.codeIn K cd5 "need_fraction" = true) (k5 : PySem.W.keepIn K (.ref f5) = true)
    {f6 : Addr} {od6 an6 : Option Addr} {sl6 : Array (Option Value)} {oc6 kV6 dc6 pm6 cd6 ct6 : Value}
    (a6 : PySem.W.nsIn K mainGlobals "least_pair" = some (some (.ref f6))) (l6 : K.lookup f6 = some ⟨oc6, od6, .func (PySem.W.fnOf "least_pair" "least_pair" (defArgs s_least_pair) (defBody s_least_pair) (defScope s_least_pair) .none kV6 dc6 pm6 an6 cd6 ct6), sl6⟩) (c6 : PySem.W.codeIn K cd6 "least_pair" = true) (k6 : PySem.W.keepIn K (.ref f6) = true)
    {f7 : Addr} {od7 an7 : Option Addr} {sl7 : Array (Option Value)} {oc7 kV7 dc7 pm7 cd7 ct7 : Value}
    (a7 : PySem.W.nsIn K mainGlobals "both" = some (some (.ref f7))) (l7 : K.lookup f7 = some ⟨oc7, od7, .func (PySem.W.fnOf "both" "both" (defArgs s_both) (defBody s_both) (defScope s_both) .none kV7 dc7 pm7 an7 cd7 ct7), sl7⟩) (c7 : PySem.W.codeIn K cd7 "both" = true) (k7 : PySem.W.keepIn K (.ref f7) = true)
    {f8 : Addr} {od8 an8 : Option Addr} {sl8 : Array (Option Value)} {oc8 kV8 dc8 pm8 cd8 ct8 : Value}
    (a8 : PySem.W.nsIn K mainGlobals "times" = some (some (.ref f8))) (l8 : K.lookup f8 = some ⟨oc8, od8, .func (PySem.W.fnOf "times" "times" (defArgs s_times) (defBody s_times) (defScope s_times) .none kV8 dc8 pm8 an8 cd8 ct8), sl8⟩) (c8 : PySem.W.codeIn K cd8 "times" = true) (k8 : PySem.W.keepIn K (.ref f8) = true)
    {f9 : Addr} {od9 an9 : Option Addr} {sl9 : Array (Option Value)} {oc9 kV9 dc9 pm9 cd9 ct9 : Value}
    (a9 : PySem.W.nsIn K mainGlobals "turned" = some (some (.ref f9))) (l9 : K.lookup f9 = some ⟨oc9, od9, .func (PySem.W.fnOf "turned" "turned" (defArgs s_turned) (defBody s_turned) (defScope s_turned) .none kV9 dc9 pm9 an9 cd9 ct9), sl9⟩) (c9 : PySem.W.codeIn K cd9 "turned" = true) (k9 : PySem.W.keepIn K (.ref f9) = true)
    {f10 : Addr} {od10 an10 : Option Addr} {sl10 : Array (Option Value)} {oc10 kV10 dc10 pm10 cd10 ct10 : Value}
    (a10 : PySem.W.nsIn K mainGlobals "is_less" = some (some (.ref f10))) (l10 : K.lookup f10 = some ⟨oc10, od10, .func (PySem.W.fnOf "is_less" "is_less" (defArgs s_is_less) (defBody s_is_less) (defScope s_is_less) .none kV10 dc10 pm10 an10 cd10 ct10), sl10⟩) (c10 : PySem.W.codeIn K cd10 "is_less" = true) (k10 : PySem.W.keepIn K (.ref f10) = true)
    {f11 : Addr} {od11 an11 : Option Addr} {sl11 : Array (Option Value)} {oc11 kV11 dc11 pm11 cd11 ct11 : Value}
    (a11 : PySem.W.nsIn K mainGlobals "total_of" = some (some (.ref f11))) (l11 : K.lookup f11 = some ⟨oc11, od11, .func (PySem.W.fnOf "total_of" "total_of" (defArgs s_total_of) (defBody s_total_of) (defScope s_total_of) .none kV11 dc11 pm11 an11 cd11 ct11), sl11⟩) (c11 : PySem.W.codeIn K cd11 "total_of" = true) (k11 : PySem.W.keepIn K (.ref f11) = true)
    {f12 : Addr} {od12 an12 : Option Addr} {sl12 : Array (Option Value)} {oc12 kV12 dc12 pm12 cd12 ct12 : Value}
    (a12 : PySem.W.nsIn K mainGlobals "added" = some (some (.ref f12))) (l12 : K.lookup f12 = some ⟨oc12, od12, .func (PySem.W.fnOf "added" "added" (defArgs s_added) (defBody s_added) (defScope s_added) .none kV12 dc12 pm12 an12 cd12 ct12), sl12⟩) (c12 : PySem.W.codeIn K cd12 "added" = true) (k12 : PySem.W.keepIn K (.ref f12) = true)
    {f13 : Addr} {od13 an13 : Option Addr} {sl13 : Array (Option Value)} {oc13 kV13 dc13 pm13 cd13 ct13 : Value}
    (a13 : PySem.W.nsIn K mainGlobals "less" = some (some (.ref f13))) (l13 : K.lookup f13 = some ⟨oc13, od13, .func (PySem.W.fnOf "less" "less" (defArgs s_less) (defBody s_less) (defScope s_less) .none kV13 dc13 pm13 an13 cd13 ct13), sl13⟩) (c13 : PySem.W.codeIn K cd13 "less" = true) (k13 : PySem.W.keepIn K (.ref f13) = true)
    {f14 : Addr} {od14 an14 : Option Addr} {sl14 : Array (Option Value)} {oc14 kV14 dc14 pm14 cd14 ct14 : Value}
    (a14 : PySem.W.nsIn K mainGlobals "multiplied" = some (some (.ref f14))) (l14 : K.lookup f14 = some ⟨oc14, od14, .func (PySem.W.fnOf "multiplied" "multiplied" (defArgs s_multiplied) (defBody s_multiplied) (defScope s_multiplied) .none kV14 dc14 pm14 an14 cd14 ct14), sl14⟩) (c14 : PySem.W.codeIn K cd14 "multiplied" = true) (k14 : PySem.W.keepIn K (.ref f14) = true)
    {f15 : Addr} {od15 an15 : Option Addr} {sl15 : Array (Option Value)} {oc15 kV15 dc15 pm15 cd15 ct15 : Value}
    (a15 : PySem.W.nsIn K mainGlobals "below" = some (some (.ref f15))) (l15 : K.lookup f15 = some ⟨oc15, od15, .func (PySem.W.fnOf "below" "below" (defArgs s_below) (defBody s_below) (defScope s_below) .none kV15 dc15 pm15 an15 cd15 ct15), sl15⟩) (c15 : PySem.W.codeIn K cd15 "below" = true) (k15 : PySem.W.keepIn K (.ref f15) = true)
    {f16 : Addr} {od16 an16 : Option Addr} {sl16 : Array (Option Value)} {oc16 kV16 dc16 pm16 cd16 ct16 : Value}
    (a16 : PySem.W.nsIn K mainGlobals "choices" = some (some (.ref f16))) (l16 : K.lookup f16 = some ⟨oc16, od16, .func (PySem.W.fnOf "choices" "choices" (defArgs s_choices) (defBody s_choices) (defScope s_choices) .none kV16 dc16 pm16 an16 cd16 ct16), sl16⟩) (c16 : PySem.W.codeIn K cd16 "choices" = true) (k16 : PySem.W.keepIn K (.ref f16) = true)
    {f17 : Addr} {od17 an17 : Option Addr} {sl17 : Array (Option Value)} {oc17 kV17 dc17 pm17 cd17 ct17 : Value}
    (a17 : PySem.W.nsIn K mainGlobals "rows_to" = some (some (.ref f17))) (l17 : K.lookup f17 = some ⟨oc17, od17, .func (PySem.W.fnOf "rows_to" "rows_to" (defArgs s_rows_to) (defBody s_rows_to) (defScope s_rows_to) .none kV17 dc17 pm17 an17 cd17 ct17), sl17⟩) (c17 : PySem.W.codeIn K cd17 "rows_to" = true) (k17 : PySem.W.keepIn K (.ref f17) = true)
    {f18 : Addr} {od18 an18 : Option Addr} {sl18 : Array (Option Value)} {oc18 kV18 dc18 pm18 cd18 ct18 : Value}
    (a18 : PySem.W.nsIn K mainGlobals "share_in" = some (some (.ref f18))) (l18 : K.lookup f18 = some ⟨oc18, od18, .func (PySem.W.fnOf "share_in" "share_in" (defArgs s_share_in) (defBody s_share_in) (defScope s_share_in) .none kV18 dc18 pm18 an18 cd18 ct18), sl18⟩) (c18 : PySem.W.codeIn K cd18 "share_in" = true) (k18 : PySem.W.keepIn K (.ref f18) = true)
    {f19 : Addr} {od19 an19 : Option Addr} {sl19 : Array (Option Value)} {oc19 kV19 dc19 pm19 cd19 ct19 : Value}
    (a19 : PySem.W.nsIn K mainGlobals "share_of" = some (some (.ref f19))) (l19 : K.lookup f19 = some ⟨oc19, od19, .func (PySem.W.fnOf "share_of" "share_of" (defArgs s_share_of) (defBody s_share_of) (defScope s_share_of) .none kV19 dc19 pm19 an19 cd19 ct19), sl19⟩) (c19 : PySem.W.codeIn K cd19 "share_of" = true) (k19 : PySem.W.keepIn K (.ref f19) = true)
    {f20 : Addr} {od20 an20 : Option Addr} {sl20 : Array (Option Value)} {oc20 kV20 dc20 pm20 cd20 ct20 : Value}
    (a20 : PySem.W.nsIn K mainGlobals "first_in" = some (some (.ref f20))) (l20 : K.lookup f20 = some ⟨oc20, od20, .func (PySem.W.fnOf "first_in" "first_in" (defArgs s_first_in) (defBody s_first_in) (defScope s_first_in) .none kV20 dc20 pm20 an20 cd20 ct20), sl20⟩) (c20 : PySem.W.codeIn K cd20 "first_in" = true) (k20 : PySem.W.keepIn K (.ref f20) = true)
    {f21 : Addr} {od21 an21 : Option Addr} {sl21 : Array (Option Value)} {oc21 kV21 dc21 pm21 cd21 ct21 : Value}
    (a21 : PySem.W.nsIn K mainGlobals "shares_to" = some (some (.ref f21))) (l21 : K.lookup f21 = some ⟨oc21, od21, .func (PySem.W.fnOf "shares_to" "shares_to" (defArgs s_shares_to) (defBody s_shares_to) (defScope s_shares_to) .none kV21 dc21 pm21 an21 cd21 ct21), sl21⟩) (c21 : PySem.W.codeIn K cd21 "shares_to" = true) (k21 : PySem.W.keepIn K (.ref f21) = true)
    {f22 : Addr} {od22 an22 : Option Addr} {sl22 : Array (Option Value)} {oc22 kV22 dc22 pm22 cd22 ct22 : Value}
    (a22 : PySem.W.nsIn K mainGlobals "greatest_in" = some (some (.ref f22))) (l22 : K.lookup f22 = some ⟨oc22, od22, .func (PySem.W.fnOf "greatest_in" "greatest_in" (defArgs s_greatest_in) (defBody s_greatest_in) (defScope s_greatest_in) .none kV22 dc22 pm22 an22 cd22 ct22), sl22⟩) (c22 : PySem.W.codeIn K cd22 "greatest_in" = true) (k22 : PySem.W.keepIn K (.ref f22) = true)
    {f23 : Addr} {od23 an23 : Option Addr} {sl23 : Array (Option Value)} {oc23 kV23 dc23 pm23 cd23 ct23 : Value}
    (a23 : PySem.W.nsIn K mainGlobals "first_share" = some (some (.ref f23))) (l23 : K.lookup f23 = some ⟨oc23, od23, .func (PySem.W.fnOf "first_share" "first_share" (defArgs s_first_share) (defBody s_first_share) (defScope s_first_share) .none kV23 dc23 pm23 an23 cd23 ct23), sl23⟩) (c23 : PySem.W.codeIn K cd23 "first_share" = true) (k23 : PySem.W.keepIn K (.ref f23) = true)
    {f24 : Addr} {od24 an24 : Option Addr} {sl24 : Array (Option Value)} {oc24 kV24 dc24 pm24 cd24 ct24 : Value}
    (a24 : PySem.W.nsIn K mainGlobals "best_ticks" = some (some (.ref f24))) (l24 : K.lookup f24 = some ⟨oc24, od24, .func (PySem.W.fnOf "best_ticks" "best_ticks" (defArgs s_best_ticks) (defBody s_best_ticks) (defScope s_best_ticks) .none kV24 dc24 pm24 an24 cd24 ct24), sl24⟩) (c24 : PySem.W.codeIn K cd24 "best_ticks" = true) (k24 : PySem.W.keepIn K (.ref f24) = true)
    {f25 : Addr} {od25 an25 : Option Addr} {sl25 : Array (Option Value)} {oc25 kV25 dc25 pm25 cd25 ct25 : Value}
    (a25 : PySem.W.nsIn K mainGlobals "reach_rows" = some (some (.ref f25))) (l25 : K.lookup f25 = some ⟨oc25, od25, .func (PySem.W.fnOf "reach_rows" "reach_rows" (defArgs s_reach_rows) (defBody s_reach_rows) (defScope s_reach_rows) .none kV25 dc25 pm25 an25 cd25 ct25), sl25⟩) (c25 : PySem.W.codeIn K cd25 "reach_rows" = true) (k25 : PySem.W.keepIn K (.ref f25) = true)
    {f26 : Addr} {od26 an26 : Option Addr} {sl26 : Array (Option Value)} {oc26 kV26 dc26 pm26 cd26 ct26 : Value}
    (a26 : PySem.W.nsIn K mainGlobals "reach" = some (some (.ref f26))) (l26 : K.lookup f26 = some ⟨oc26, od26, .func (PySem.W.fnOf "reach" "reach" (defArgs s_reach) (defBody s_reach) (defScope s_reach) .none kV26 dc26 pm26 an26 cd26 ct26), sl26⟩) (c26 : PySem.W.codeIn K cd26 "reach" = true) (k26 : PySem.W.keepIn K (.ref f26) = true)
    {f27 : Addr} {od27 an27 : Option Addr} {sl27 : Array (Option Value)} {oc27 kV27 dc27 pm27 cd27 ct27 : Value}
    (a27 : PySem.W.nsIn K mainGlobals "_law_turnpike" = some (some (.ref f27))) (l27 : K.lookup f27 = some ⟨oc27, od27, .func (PySem.W.fnOf "_law_turnpike" "_law_turnpike" (defArgs s__law_turnpike) (defBody s__law_turnpike) (defScope s__law_turnpike) .none kV27 dc27 pm27 an27 cd27 ct27), sl27⟩) (c27 : PySem.W.codeIn K cd27 "_law_turnpike" = true) (k27 : PySem.W.keepIn K (.ref f27) = true)
    {f28 : Addr} {od28 an28 : Option Addr} {sl28 : Array (Option Value)} {oc28 kV28 dc28 pm28 cd28 ct28 : Value}
    (a28 : PySem.W.nsIn K mainGlobals "_law_toll" = some (some (.ref f28))) (l28 : K.lookup f28 = some ⟨oc28, od28, .func (PySem.W.fnOf "_law_toll" "_law_toll" (defArgs s__law_toll) (defBody s__law_toll) (defScope s__law_toll) .none kV28 dc28 pm28 an28 cd28 ct28), sl28⟩) (c28 : PySem.W.codeIn K cd28 "_law_toll" = true) (k28 : PySem.W.keepIn K (.ref f28) = true)
    {f29 : Addr} {od29 an29 : Option Addr} {sl29 : Array (Option Value)} {oc29 kV29 dc29 pm29 cd29 ct29 : Value}
    (a29 : PySem.W.nsIn K mainGlobals "_law_coin" = some (some (.ref f29))) (l29 : K.lookup f29 = some ⟨oc29, od29, .func (PySem.W.fnOf "_law_coin" "_law_coin" (defArgs s__law_coin) (defBody s__law_coin) (defScope s__law_coin) .none kV29 dc29 pm29 an29 cd29 ct29), sl29⟩) (c29 : PySem.W.codeIn K cd29 "_law_coin" = true) (k29 : PySem.W.keepIn K (.ref f29) = true)
    {f30 : Addr} {od30 an30 : Option Addr} {sl30 : Array (Option Value)} {oc30 kV30 dc30 pm30 cd30 ct30 : Value}
    (a30 : PySem.W.nsIn K mainGlobals "law" = some (some (.ref f30))) (l30 : K.lookup f30 = some ⟨oc30, od30, .func (PySem.W.fnOf "law" "law" (defArgs s_law) (defBody s_law) (defScope s_law) .none kV30 dc30 pm30 an30 cd30 ct30), sl30⟩) (c30 : PySem.W.codeIn K cd30 "law" = true) (k30 : PySem.W.keepIn K (.ref f30) = true)
    (z_isinstance : PySem.W.nsIn K mainGlobals "isinstance" = some none)
    (z_int : PySem.W.nsIn K mainGlobals "int" = some none)
    (z_bool : PySem.W.nsIn K mainGlobals "bool" = some none)
    (z_all : PySem.W.nsIn K mainGlobals "all" = some none)
    (z_tuple : PySem.W.nsIn K mainGlobals "tuple" = some none)
    (z_list : PySem.W.nsIn K mainGlobals "list" = some none)
    (z_len : PySem.W.nsIn K mainGlobals "len" = some none)
    (z_range : PySem.W.nsIn K mainGlobals "range" = some none)
    (z_abs : PySem.W.nsIn K mainGlobals "abs" = some none)
    (z_enumerate : PySem.W.nsIn K mainGlobals "enumerate" = some none)
    (z_zip : PySem.W.nsIn K mainGlobals "zip" = some none)
    (y_gcd : PySem.W.nsIn K mainGlobals "gcd" = some (some (.builtin "math.gcd")))
    {a_NOUGHT : Addr} {o_NOUGHT : Option Addr} {sl_NOUGHT : Array (Option Value)} {n_NOUGHT : Nat} {t0_NOUGHT t1_NOUGHT : Tok} (y_NOUGHT : PySem.W.nsIn K mainGlobals "NOUGHT" = some (some (.ref a_NOUGHT))) (u_NOUGHT : K.lookup a_NOUGHT = some ⟨.type "tuple", o_NOUGHT, .seq #[.int 0 t0_NOUGHT, .int 1 t1_NOUGHT] n_NOUGHT, sl_NOUGHT⟩)
    {t_MOST_FAR : Tok} (y_MOST_FAR : PySem.W.nsIn K mainGlobals "MOST_FAR" = some (some (.int 400 t_MOST_FAR)))
    {t_MOST_TICKS : Tok} (y_MOST_TICKS : PySem.W.nsIn K mainGlobals "MOST_TICKS" = some (some (.int 200 t_MOST_TICKS)))
    : ∃ fd : FuncData, (∀ (s : Shared) (v : Value), BindsTo s fd ⟨[v], []⟩ [("_law_script", v)]) ∧ ∀ base : Heap, K.In base → base.Ns mainGlobals mg → FnOk l.prog w K mg base CX0 8 fa fd ["_law_script"] (sp_law K) := by
  have e := hfa.symm.trans (PySem.W.mg_of X G a30)
  cases e
  have m_isinstance := PySem.W.mg_none_of X G z_isinstance
  have m_int := PySem.W.mg_none_of X G z_int
  have m_bool := PySem.W.mg_none_of X G z_bool
  have m_all := PySem.W.mg_none_of X G z_all
  have m_tuple := PySem.W.mg_none_of X G z_tuple
  have m_list := PySem.W.mg_none_of X G z_list
  have m_len := PySem.W.mg_none_of X G z_len
  have m_range := PySem.W.mg_none_of X G z_range
  have m_abs := PySem.W.mg_none_of X G z_abs
  have m_enumerate := PySem.W.mg_none_of X G z_enumerate
  have m_zip := PySem.W.mg_none_of X G z_zip
  have g_gcd := PySem.W.mg_of X G y_gcd
  have g_NOUGHT := PySem.W.mg_of X G y_NOUGHT
  have w_NOUGHT : WrT K a_NOUGHT [.int 0, .int 1] := ⟨_, _, _, u_NOUGHT, rfl, rfl, (by show 2 ≤ sizeLine; decide), (.cons ⟨_, rfl⟩ (.cons ⟨_, rfl⟩ .nil))⟩
  have g_MOST_FAR := PySem.W.mg_of X G y_MOST_FAR
  have g_MOST_TICKS := PySem.W.mg_of X G y_MOST_TICKS
  have F_is_integer := fun_mk (st := s_is_integer) l0 c0 k0
  have g_is_integer := PySem.W.mg_of X G a0
  have b_is_integer := F_is_integer.binds (ps := ["value"]) fun _ _ _ _ _ _ us hl => match us, hl with | [_], _ => rfl
  have F_is_within := fun_mk (st := s_is_within) l1 c1 k1
  have g_is_within := PySem.W.mg_of X G a1
  have b_is_within := F_is_within.binds (ps := ["value", "least", "most"]) fun _ _ _ _ _ _ us hl => match us, hl with | [_, _, _], _ => rfl
  have F_are_integers := fun_mk (st := s_are_integers) l2 c2 k2
  have g_are_integers := PySem.W.mg_of X G a2
  have b_are_integers := F_are_integers.binds (ps := ["value", "many"]) fun _ _ _ _ _ _ us hl => match us, hl with | [_, _], _ => rfl
  have F_is_fraction := fun_mk (st := s_is_fraction) l3 c3 k3
  have g_is_fraction := PySem.W.mg_of X G a3
  have b_is_fraction := F_is_fraction.binds (ps := ["value"]) fun _ _ _ _ _ _ us hl => match us, hl with | [_], _ => rfl
  have F_need_number := fun_mk (st := s_need_number) l4 c4 k4
  have g_need_number := PySem.W.mg_of X G a4
  have b_need_number := F_need_number.binds (ps := ["value", "part", "least", "most"]) fun _ _ _ _ _ _ us hl => match us, hl with | [_, _, _, _], _ => rfl
  have F_need_fraction := fun_mk (st := s_need_fraction) l5 c5 k5
  have g_need_fraction := PySem.W.mg_of X G a5
  have b_need_fraction := F_need_fraction.binds (ps := ["value", "part"]) fun _ _ _ _ _ _ us hl => match us, hl with | [_, _], _ => rfl
  have F_least_pair := fun_mk (st := s_least_pair) l6 c6 k6
  have g_least_pair := PySem.W.mg_of X G a6
  have b_least_pair := F_least_pair.binds (ps := ["up", "down"]) fun _ _ _ _ _ _ us hl => match us, hl with | [_, _], _ => rfl
  have F_both := fun_mk (st := s_both) l7 c7 k7
  have g_both := PySem.W.mg_of X G a7
  have b_both := F_both.binds (ps := ["one", "other"]) fun _ _ _ _ _ _ us hl => match us, hl with | [_, _], _ => rfl
  have F_times := fun_mk (st := s_times) l8 c8 k8
  have g_times := PySem.W.mg_of X G a8
  have b_times := F_times.binds (ps := ["one", "other"]) fun _ _ _ _ _ _ us hl => match us, hl with | [_, _], _ => rfl
  have F_turned := fun_mk (st := s_turned) l9 c9 k9
  have g_turned := PySem.W.mg_of X G a9
  have b_turned := F_turned.binds (ps := ["one"]) fun _ _ _ _ _ _ us hl => match us, hl with | [_], _ => rfl
  have F_is_less := fun_mk (st := s_is_less) l10 c10 k10
  have g_is_less := PySem.W.mg_of X G a10
  have b_is_less := F_is_less.binds (ps := ["one", "other"]) fun _ _ _ _ _ _ us hl => match us, hl with | [_, _], _ => rfl
  have F_total_of := fun_mk (st := s_total_of) l11 c11 k11
  have g_total_of := PySem.W.mg_of X G a11
  have b_total_of := F_total_of.binds (ps := ["fractions"]) fun _ _ _ _ _ _ us hl => match us, hl with | [_], _ => rfl
  have F_added := fun_mk (st := s_added) l12 c12 k12
  have g_added := PySem.W.mg_of X G a12
  have b_added := F_added.binds (ps := ["one", "other"]) fun _ _ _ _ _ _ us hl => match us, hl with | [_, _], _ => rfl
  have F_less := fun_mk (st := s_less) l13 c13 k13
  have g_less := PySem.W.mg_of X G a13
  have b_less := F_less.binds (ps := ["one", "other"]) fun _ _ _ _ _ _ us hl => match us, hl with | [_, _], _ => rfl
  have F_multiplied := fun_mk (st := s_multiplied) l14 c14 k14
  have g_multiplied := PySem.W.mg_of X G a14
  have b_multiplied := F_multiplied.binds (ps := ["one", "other"]) fun _ _ _ _ _ _ us hl => match us, hl with | [_, _], _ => rfl
  have F_below := fun_mk (st := s_below) l15 c15 k15
  have g_below := PySem.W.mg_of X G a15
  have b_below := F_below.binds (ps := ["one", "other"]) fun _ _ _ _ _ _ us hl => match us, hl with | [_, _], _ => rfl
  have F_choices := fun_mk (st := s_choices) l16 c16 k16
  have g_choices := PySem.W.mg_of X G a16
  have b_choices := F_choices.binds (ps := ["many", "some"]) fun _ _ _ _ _ _ us hl => match us, hl with | [_, _], _ => rfl
  have F_rows_to := fun_mk (st := s_rows_to) l17 c17 k17
  have g_rows_to := PySem.W.mg_of X G a17
  have b_rows_to := F_rows_to.binds (ps := ["far", "ticks"]) fun _ _ _ _ _ _ us hl => match us, hl with | [_, _], _ => rfl
  have F_share_in := fun_mk (st := s_share_in) l18 c18 k18
  have g_share_in := PySem.W.mg_of X G a18
  have b_share_in := F_share_in.binds (ps := ["far", "ticks"]) fun _ _ _ _ _ _ us hl => match us, hl with | [_, _], _ => rfl
  have F_share_of := fun_mk (st := s_share_of) l19 c19 k19
  have g_share_of := PySem.W.mg_of X G a19
  have b_share_of := F_share_of.binds (ps := ["far", "ticks"]) fun _ _ _ _ _ _ us hl => match us, hl with | [_, _], _ => rfl
  have F_first_in := fun_mk (st := s_first_in) l20 c20 k20
  have g_first_in := PySem.W.mg_of X G a20
  have b_first_in := F_first_in.binds (ps := ["far", "ticks"]) fun _ _ _ _ _ _ us hl => match us, hl with | [_, _], _ => rfl
  have F_shares_to := fun_mk (st := s_shares_to) l21 c21 k21
  have g_shares_to := PySem.W.mg_of X G a21
  have b_shares_to := F_shares_to.binds (ps := ["far", "most"]) fun _ _ _ _ _ _ us hl => match us, hl with | [_, _], _ => rfl
  have F_greatest_in := fun_mk (st := s_greatest_in) l22 c22 k22
  have g_greatest_in := PySem.W.mg_of X G a22
  have b_greatest_in := F_greatest_in.binds (ps := ["far", "most"]) fun _ _ _ _ _ _ us hl => match us, hl with | [_, _], _ => rfl
  have F_first_share := fun_mk (st := s_first_share) l23 c23 k23
  have g_first_share := PySem.W.mg_of X G a23
  have b_first_share := F_first_share.binds (ps := ["far", "ticks"]) fun _ _ _ _ _ _ us hl => match us, hl with | [_, _], _ => rfl
  have F_best_ticks := fun_mk (st := s_best_ticks) l24 c24 k24
  have g_best_ticks := PySem.W.mg_of X G a24
  have b_best_ticks := F_best_ticks.binds (ps := ["far", "most"]) fun _ _ _ _ _ _ us hl => match us, hl with | [_, _], _ => rfl
  have F_reach_rows := fun_mk (st := s_reach_rows) l25 c25 k25
  have g_reach_rows := PySem.W.mg_of X G a25
  have b_reach_rows := F_reach_rows.binds (ps := ["ticks"]) fun _ _ _ _ _ _ us hl => match us, hl with | [_], _ => rfl
  have F_reach := fun_mk (st := s_reach) l26 c26 k26
  have g_reach := PySem.W.mg_of X G a26
  have b_reach := F_reach.binds (ps := ["ticks"]) fun _ _ _ _ _ _ us hl => match us, hl with | [_], _ => rfl
  have F__law_turnpike := fun_mk (st := s__law_turnpike) l27 c27 k27
  have g__law_turnpike := PySem.W.mg_of X G a27
  have b__law_turnpike := F__law_turnpike.binds (ps := ["_law_script"]) fun _ _ _ _ _ _ us hl => match us, hl with | [_], _ => rfl
  have F__law_toll := fun_mk (st := s__law_toll) l28 c28 k28
  have g__law_toll := PySem.W.mg_of X G a28
  have b__law_toll := F__law_toll.binds (ps := ["_law_turnpike_here", "_law_many"]) fun _ _ _ _ _ _ us hl => match us, hl with | [_, _], _ => rfl
  have F__law_coin := fun_mk (st := s__law_coin) l29 c29 k29
  have g__law_coin := PySem.W.mg_of X G a29
  have b__law_coin := F__law_coin.binds (ps := ["_law_turnpike_here", "_law_some"]) fun _ _ _ _ _ _ us hl => match us, hl with | [_, _], _ => rfl
  have F_law := fun_mk (st := s_law) l30 c30 k30
  have g_law := PySem.W.mg_of X G a30
  have b_law := F_law.binds (ps := ["_law_script"]) fun _ _ _ _ _ _ us hl => match us, hl with | [_], _ => rfl
  refine ⟨PySem.W.fnOf "law" "law" (defArgs s_law) (defBody s_law) (defScope s_law) .none kV30 dc30 pm30 an30 cd30 ct30, fun s v => .of_eq rfl, fun base _ _ => ?_⟩
  have G_is_integer := ok_is_integer (P := l.prog) (w := w) (mg := mg) (base := base) F_is_integer m_isinstance m_int m_bool
  have G_is_within := ok_is_within (P := l.prog) (w := w) (mg := mg) (base := base) F_is_within G_is_integer g_is_integer F_is_integer.kp b_is_integer
  have G_are_integers := ok_are_integers (P := l.prog) (w := w) (mg := mg) (base := base) F_are_integers m_all G_is_integer g_is_integer F_is_integer.kp b_is_integer m_isinstance m_tuple m_list m_len
  have G_is_fraction := ok_is_fraction (P := l.prog) (w := w) (mg := mg) (base := base) F_is_fraction G_are_integers g_are_integers F_are_integers.kp b_are_integers g_gcd
  have G_need_number := ok_need_number (P := l.prog) (w := w) (mg := mg) (base := base) F_need_number G_is_within g_is_within F_is_within.kp b_is_within
  have G_need_fraction := ok_need_fraction (P := l.prog) (w := w) (mg := mg) (base := base) F_need_fraction G_is_fraction g_is_fraction F_is_fraction.kp b_is_fraction
  have G_least_pair := ok_least_pair (P := l.prog) (w := w) (mg := mg) (base := base) F_least_pair g_gcd
  have G_both := ok_both (P := l.prog) (w := w) (mg := mg) (base := base) F_both G_least_pair g_least_pair F_least_pair.kp b_least_pair
  have G_times := ok_times (P := l.prog) (w := w) (mg := mg) (base := base) F_times G_least_pair g_least_pair F_least_pair.kp b_least_pair
  have G_turned := ok_turned (P := l.prog) (w := w) (mg := mg) (base := base) F_turned 
  have G_is_less := ok_is_less (P := l.prog) (w := w) (mg := mg) (base := base) F_is_less 
  have G_total_of := ok_total_of (P := l.prog) (w := w) (mg := mg) (base := base) F_total_of G_both g_both F_both.kp b_both g_NOUGHT w_NOUGHT
  have G_added := ok_added (P := l.prog) (w := w) (mg := mg) (base := base) F_added G_both g_both F_both.kp b_both G_need_fraction g_need_fraction F_need_fraction.kp b_need_fraction
  have G_less := ok_less (P := l.prog) (w := w) (mg := mg) (base := base) F_less G_both g_both F_both.kp b_both G_turned g_turned F_turned.kp b_turned G_need_fraction g_need_fraction F_need_fraction.kp b_need_fraction
  have G_multiplied := ok_multiplied (P := l.prog) (w := w) (mg := mg) (base := base) F_multiplied G_times g_times F_times.kp b_times G_need_fraction g_need_fraction F_need_fraction.kp b_need_fraction
  have G_below := ok_below (P := l.prog) (w := w) (mg := mg) (base := base) F_below G_is_less g_is_less F_is_less.kp b_is_less G_need_fraction g_need_fraction F_need_fraction.kp b_need_fraction
  have G_choices := ok_choices (P := l.prog) (w := w) (mg := mg) (base := base) F_choices m_range
  have G_rows_to := ok_rows_to (P := l.prog) (w := w) (mg := mg) (base := base) F_rows_to G_choices g_choices F_choices.kp b_choices m_abs
  have G_share_in := ok_share_in (P := l.prog) (w := w) (mg := mg) (base := base) F_share_in G_least_pair g_least_pair F_least_pair.kp b_least_pair G_rows_to g_rows_to F_rows_to.kp b_rows_to
  have G_share_of := ok_share_of (P := l.prog) (w := w) (mg := mg) (base := base) F_share_of G_share_in g_share_in F_share_in.kp b_share_in G_need_number g_need_number F_need_number.kp b_need_number g_MOST_FAR
  have G_first_in := ok_first_in (P := l.prog) (w := w) (mg := mg) (base := base) F_first_in G_least_pair g_least_pair F_least_pair.kp b_least_pair G_rows_to g_rows_to F_rows_to.kp b_rows_to g_NOUGHT w_NOUGHT
  have G_shares_to := ok_shares_to (P := l.prog) (w := w) (mg := mg) (base := base) F_shares_to m_range G_first_in g_first_in F_first_in.kp b_first_in
  have G_greatest_in := ok_greatest_in (P := l.prog) (w := w) (mg := mg) (base := base) F_greatest_in G_shares_to g_shares_to F_shares_to.kp b_shares_to G_is_less g_is_less F_is_less.kp b_is_less g_NOUGHT w_NOUGHT
  have G_first_share := ok_first_share (P := l.prog) (w := w) (mg := mg) (base := base) F_first_share G_first_in g_first_in F_first_in.kp b_first_in G_need_number g_need_number F_need_number.kp b_need_number g_MOST_FAR
  have G_best_ticks := ok_best_ticks (P := l.prog) (w := w) (mg := mg) (base := base) F_best_ticks m_tuple G_shares_to g_shares_to F_shares_to.kp b_shares_to G_greatest_in g_greatest_in F_greatest_in.kp b_greatest_in G_need_number g_need_number F_need_number.kp b_need_number g_MOST_FAR
  have G_reach_rows := ok_reach_rows (P := l.prog) (w := w) (mg := mg) (base := base) F_reach_rows m_tuple m_range G_greatest_in g_greatest_in F_greatest_in.kp b_greatest_in G_need_number g_need_number F_need_number.kp b_need_number g_MOST_TICKS
  have G_reach := ok_reach (P := l.prog) (w := w) (mg := mg) (base := base) F_reach G_times g_times F_times.kp b_times G_total_of g_total_of F_total_of.kp b_total_of G_reach_rows g_reach_rows F_reach_rows.kp b_reach_rows
  have G__law_turnpike := ok__law_turnpike (P := l.prog) (w := w) (mg := mg) (base := base) F__law_turnpike m_int
  have G__law_toll := ok__law_toll (P := l.prog) (w := w) (mg := mg) (base := base) F__law_toll m_int m_len m_abs
  have G__law_coin := ok__law_coin (P := l.prog) (w := w) (mg := mg) (base := base) F__law_coin G__law_toll g__law_toll F__law_toll.kp b__law_toll m_len
  have G_law := ok_law (P := l.prog) (w := w) (mg := mg) (base := base) F_law m_range m_enumerate G_first_share g_first_share F_first_share.kp b_first_share G_best_ticks g_best_ticks F_best_ticks.kp b_best_ticks G_less g_less F_less.kp b_less G_reach g_reach F_reach.kp b_reach G_below g_below F_below.kp b_below G_added g_added F_added.kp b_added m_zip G_multiplied g_multiplied F_multiplied.kp b_multiplied m_len G_reach_rows g_reach_rows F_reach_rows.kp b_reach_rows G__law_toll g__law_toll F__law_toll.kp b__law_toll G_share_of g_share_of F_share_of.kp b_share_of m_int G__law_coin g__law_coin F__law_coin.kp b__law_coin G__law_turnpike g__law_turnpike F__law_turnpike.kp b__law_turnpike
  exact G_law
end K24
open PySem PySem.W PyProof.Rows
set_option maxRecDepth 100000 in
set_option maxHeartbeats 0 in
theorem PySem.Challenge.cw_nodice_k24_whole_first_shares_step_by_st_holds : PySem.Challenge.rw_nodice_k24_whole_first_shares_step_by_st.Holds := by
  w_on; o_law; k_head; (case hw => w_witness2)
  k_fill
  refine L2.walk_of (l := PySem.Challenge.rw_nodice_k24_whole_first_shares_step_by_st) (n := 63) (k := 8) (x := "_law_script") (CX := fun _ => L2.CX0) (sp := fun w => K24.sp_law _) rfl (by decide) rfl ⟨rfl, by decide, by decide⟩ (fun w h Y => PySem.W.kIn_of Y) ?F (fun _ _ a ns hl _ hS => ⟨a, ns, rfl, hS, hl, fun _ => rfl⟩) (fun _ _ _ _ _ h => h)
  case F =>
    intro w mg fa h KX G hmg
    refine' K24.all_mk KX G hmg ?a0 ?l0 ?c0 ?k0 ?a1 ?l1 ?c1 ?k1 ?a2 ?l2 ?c2 ?k2 ?a3 ?l3 ?c3 ?k3 ?a4 ?l4 ?c4 ?k4 ?a5 ?l5 ?c5 ?k5 ?a6 ?l6 ?c6 ?k6 ?a7 ?l7 ?c7 ?k7 ?a8 ?l8 ?c8 ?k8 ?a9 ?l9 ?c9 ?k9 ?a10 ?l10 ?c10 ?k10 ?a11 ?l11 ?c11 ?k11 ?a12 ?l12 ?c12 ?k12 ?a13 ?l13 ?c13 ?k13 ?a14 ?l14 ?c14 ?k14 ?a15 ?l15 ?c15 ?k15 ?a16 ?l16 ?c16 ?k16 ?a17 ?l17 ?c17 ?k17 ?a18 ?l18 ?c18 ?k18 ?a19 ?l19 ?c19 ?k19 ?a20 ?l20 ?c20 ?k20 ?a21 ?l21 ?c21 ?k21 ?a22 ?l22 ?c22 ?k22 ?a23 ?l23 ?c23 ?k23 ?a24 ?l24 ?c24 ?k24 ?a25 ?l25 ?c25 ?k25 ?a26 ?l26 ?c26 ?k26 ?a27 ?l27 ?c27 ?k27 ?a28 ?l28 ?c28 ?k28 ?a29 ?l29 ?c29 ?k29 ?a30 ?l30 ?c30 ?k30 ?z_isinstance ?z_int ?z_bool ?z_all ?z_tuple ?z_list ?z_len ?z_range ?z_abs ?z_enumerate ?z_zip ?y_gcd ?y_NOUGHT ?u_NOUGHT ?y_MOST_FAR ?y_MOST_TICKS
    (case a0 => k_is); (case l0 => k_is); (case c0 => k_is); (case k0 => k_is); (case a1 => k_is); (case l1 => k_is); (case c1 => k_is); (case k1 => k_is); (case a2 => k_is); (case l2 => k_is); (case c2 => k_is); (case k2 => k_is); (case a3 => k_is); (case l3 => k_is); (case c3 => k_is); (case k3 => k_is); (case a4 => k_is); (case l4 => k_is); (case c4 => k_is); (case k4 => k_is); (case a5 => k_is); (case l5 => k_is); (case c5 => k_is); (case k5 => k_is); (case a6 => k_is); (case l6 => k_is); (case c6 => k_is); (case k6 => k_is); (case a7 => k_is); (case l7 => k_is); (case c7 => k_is); (case k7 => k_is); (case a8 => k_is); (case l8 => k_is); (case c8 => k_is); (case k8 => k_is); (case a9 => k_is); (case l9 => k_is); (case c9 => k_is); (case k9 => k_is); (case a10 => k_is); (case l10 => k_is); (case c10 => k_is); (case k10 => k_is); (case a11 => k_is); (case l11 => k_is); (case c11 => k_is); (case k11 => k_is); (case a12 => k_is); (case l12 => k_is); (case c12 => k_is); (case k12 => k_is); (case a13 => k_is); (case l13 => k_is); (case c13 => k_is); (case k13 => k_is); (case a14 => k_is); (case l14 => k_is); (case c14 => k_is); (case k14 => k_is); (case a15 => k_is); (case l15 => k_is); (case c15 => k_is); (case k15 => k_is); (case a16 => k_is); (case l16 => k_is); (case c16 => k_is); (case k16 => k_is); (case a17 => k_is); (case l17 => k_is); (case c17 => k_is); (case k17 => k_is); (case a18 => k_is); (case l18 => k_is); (case c18 => k_is); (case k18 => k_is); (case a19 => k_is); (case l19 => k_is); (case c19 => k_is); (case k19 => k_is); (case a20 => k_is); (case l20 => k_is); (case c20 => k_is); (case k20 => k_is); (case a21 => k_is); (case l21 => k_is); (case c21 => k_is); (case k21 => k_is); (case a22 => k_is); (case l22 => k_is); (case c22 => k_is); (case k22 => k_is); (case a23 => k_is); (case l23 => k_is); (case c23 => k_is); (case k23 => k_is); (case a24 => k_is); (case l24 => k_is); (case c24 => k_is); (case k24 => k_is); (case a25 => k_is); (case l25 => k_is); (case c25 => k_is); (case k25 => k_is); (case a26 => k_is); (case l26 => k_is); (case c26 => k_is); (case k26 => k_is); (case a27 => k_is); (case l27 => k_is); (case c27 => k_is); (case k27 => k_is); (case a28 => k_is); (case l28 => k_is); (case c28 => k_is); (case k28 => k_is); (case a29 => k_is); (case l29 => k_is); (case c29 => k_is); (case k29 => k_is); (case a30 => k_is); (case l30 => k_is); (case c30 => k_is); (case k30 => k_is); (case z_isinstance => k_is); (case z_int => k_is); (case z_bool => k_is); (case z_all => k_is); (case z_tuple => k_is); (case z_list => k_is); (case z_len => k_is); (case z_range => k_is); (case z_abs => k_is); (case z_enumerate => k_is); (case z_zip => k_is); (case y_gcd => k_is); (case y_NOUGHT => k_is); (case u_NOUGHT => k_is); (case y_MOST_FAR => k_is); (case y_MOST_TICKS => k_is)

