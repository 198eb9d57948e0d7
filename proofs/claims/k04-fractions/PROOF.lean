import PyProof.Rows.All
import Wide.All
import OpenK.AllK
import Wide.FinOn
import HandS.ForMost
import HandS.Wide
import HandS.Gcd
import HandS.IsInst
import HandS.NoneIn
import HandS.SetFor
import PyProof.EqKinds
import PySem.Challenge.RW_nodice_k04_whole_fractions_reckon_as_num
set_option Elab.async false
set_option linter.all false
set_option maxRecDepth 100000
set_option maxHeartbeats 2000000
/-! a layer of our own over the readings: what an expression comes to, as data (PyData), while some objects may change (M) and a word I n of them is kept -/
namespace Jl
open PySem PySem.Spec L2

abbrev BIG : Nat := 1000000
def ExM (M : Addr → Prop) (H H' : Hp) : Prop := ∀ a o, ¬ M a → H a = some o → H' a = some o
theorem ExM.refl {M : Addr → Prop} {H : Hp} : ExM M H H := fun _ _ _ h => h
theorem ExM.trans {M : Addr → Prop} {H H1 H2 : Hp} (a : ExM M H H1) (b : ExM M H1 H2) : ExM M H H2 := fun x o m h => b x o m (a x o m h)
theorem ExM.of {M : Addr → Prop} {H H' : Hp} (e : Same H H') : ExM M H H' := fun a o _ h => e a o h
theorem same_new {H : Hp} {p : Addr} {o : HO} (h : H p = none) : Same H (upd H p o) := fun b x e => by
  rw [upd_ne (ne_of_none e h)]; exact e
structure Wd where
  M : Addr → Prop
  F : Addr → Prop
  I : Nat → Hp → Prop
  mf : ∀ {a}, M a → F a
  sf : ∀ {n H H'}, (∀ a, F a → H' a = H a) → I n H → I n H'
  al : ∀ {n H a}, I n H → F a → H a ≠ none
  ml : ∀ {n H a}, I n H → M a → ∃ xs, H a = some (.lst xs)
  mo : ∀ {n m H}, n ≤ m → I n H → I m H
theorem Wd.fr (W : Wd) {n : Nat} {H : Hp} {p : Addr} (h : W.I n H) (hp : H p = none) : ¬ W.M p := fun m => by
  obtain ⟨xs, e⟩ := W.ml h m
  rw [hp] at e; cases e
theorem Wd.st (W : Wd) {n : Nat} {H H' : Hp} (s : Same H H') (h : W.I n H) : W.I n H' := W.sf (fun a f => by
  cases e : H a with
  | none => exact absurd e (W.al h f)
  | some o => exact s a o e) h
/-- nothing changes -/
def W0 : Wd := ⟨fun _ => False, fun _ => False, fun _ _ => True, fun h => h.elim, fun _ _ => trivial, fun _ h => h.elim, fun _ h => h.elim, fun _ _ => trivial⟩
theorem ex0 {H H' : Hp} (e : ExM W0.M H H') : Same H H' := fun a o h => e a o (fun z => z) h

section
variable (K : PySem.W.Frag) (M : Addr → Prop) (H : Hp)
def WrL (a : Addr) (xs : List V) : Prop := ∃ (o : Obj) (its : Array Value) (n : Nat), K.lookup a = some o ∧ o.cls = .type "list" ∧ o.dict = none ∧ o.data = .seq its n ∧ its.size ≤ sizeLine ∧ Vals xs its.toList
def WrT (a : Addr) (xs : List V) : Prop := ∃ (o : Obj) (its : Array Value) (n : Nat), K.lookup a = some o ∧ o.cls = .type "tuple" ∧ o.data = .seq its n ∧ its.size ≤ sizeLine ∧ Vals xs its.toList
def LsS (a : Addr) (xs : List V) : Prop := (¬ M a ∧ Rd H a (.lst xs)) ∨ WrL K a xs
def TuS (a : Addr) (xs : List V) : Prop := (¬ M a ∧ Rd H a (.tup xs)) ∨ WrT K a xs
mutual
/-- the value v is the data d, now and later -/
inductive DaM : V → PyData → Prop
  | non : DaM .non .none
  | bl (b : Bool) : DaM (.bl b) (.bool b)
  | int (i : Int) : DaM (.int i) (.int i)
  | str (x : Str) : DaM (.str x) (.str x)
  | lst {a : Addr} {xs : List V} {ds : List PyData} : LsS K M H a xs → DaML xs ds → DaM (.ref a) (.list ds)
  | tup {a : Addr} {xs : List V} {ds : List PyData} : TuS K M H a xs → DaML xs ds → DaM (.ref a) (.tuple ds)
inductive DaML : List V → List PyData → Prop
  | nil : DaML [] []
  | cons {v : V} {vs : List V} {d : PyData} {ds : List PyData} : DaM v d → DaML vs ds → DaML (v :: vs) (d :: ds)
end
end
abbrev Da (K : PySem.W.Frag) (W : Wd) (H : Hp) (v : V) (d : PyData) : Prop := DaM K W.M H v d
abbrev DaL (K : PySem.W.Frag) (W : Wd) (H : Hp) (vs : List V) (ds : List PyData) : Prop := DaML K W.M H vs ds
variable {K : PySem.W.Frag} {W : Wd} {σ : St} {H H1 H2 : Hp} {v : V} {d : PyData} {n : Nat}
theorem rd_mono {M : Addr → Prop} {a : Addr} {u : HO} (e : ExM M H H1) (m : ¬ M a) (h : Rd H a u) : Rd H1 a u := by
  rcases h with h | ⟨o, h⟩
  · exact .inl (e a _ m h)
  · exact .inr ⟨o, e a _ m h⟩
theorem LsS.mono {M : Addr → Prop} {a : Addr} {xs : List V} (h : LsS K M H a xs) (e : ExM M H H1) : LsS K M H1 a xs := by
  rcases h with ⟨m, h⟩ | h
  · exact .inl ⟨m, rd_mono e m h⟩
  · exact .inr h
theorem TuS.mono {M : Addr → Prop} {a : Addr} {xs : List V} (h : TuS K M H a xs) (e : ExM M H H1) : TuS K M H1 a xs := by
  rcases h with ⟨m, h⟩ | h
  · exact .inl ⟨m, rd_mono e m h⟩
  · exact .inr h
theorem LsS.sq {M : Addr → Prop} {a : Addr} {xs : List V} (h : LsS K M H a xs) : SqL K H a xs := by
  rcases h with ⟨m, h⟩ | h
  · exact .inl h
  · exact .inr h
theorem TuS.sq {M : Addr → Prop} {a : Addr} {xs : List V} (h : TuS K M H a xs) : SqT K H a xs := by
  rcases h with ⟨m, h⟩ | h
  · exact .inl h
  · exact .inr h
mutual
theorem DaM.mono {M : Addr → Prop} (e : ExM M H H1) : ∀ (d : PyData) (v : V), DaM K M H v d → DaM K M H1 v d
  | .none, _, h => by cases h; exact .non
  | .bool _, _, h => by cases h; exact .bl _
  | .int _, _, h => by cases h; exact .int _
  | .str _, _, h => by cases h; exact .str _
  | .list ds, _, h => by
    cases h with
    | lst hs ha => exact .lst (hs.mono e) (DaML.mono e ds _ ha)
  | .tuple ds, _, h => by
    cases h with
    | tup hs ha => exact .tup (hs.mono e) (DaML.mono e ds _ ha)
  | .dict _, _, h => by cases h
theorem DaML.mono {M : Addr → Prop} (e : ExM M H H1) : ∀ (ds : List PyData) (vs : List V), DaML K M H vs ds → DaML K M H1 vs ds
  | [], _, h => by cases h; exact .nil
  | d :: ds, _, h => by
    cases h with
    | cons h1 h2 => exact .cons (DaM.mono e d _ h1) (DaML.mono e ds _ h2)
end
mutual
theorem DaM.dp {M : Addr → Prop} : ∀ (d : PyData) (v : V), DaM K M H v d → Dp K H v d
  | .none, _, h => by cases h; exact .non
  | .bool _, _, h => by cases h; exact .bl _
  | .int _, _, h => by cases h; exact .int _
  | .str _, _, h => by cases h; exact .str _
  | .list ds, _, h => by
    cases h with
    | lst hs ha => exact .lst hs.sq (DaML.dp ds _ ha)
  | .tuple ds, _, h => by
    cases h with
    | tup hs ha => exact .tup hs.sq (DaML.dp ds _ ha)
  | .dict _, _, h => by cases h
theorem DaML.dp {M : Addr → Prop} : ∀ (ds : List PyData) (vs : List V), DaML K M H vs ds → DpAll K H vs ds
  | [], _, h => by cases h; exact .nil
  | d :: ds, _, h => by
    cases h with
    | cons h1 h2 => exact .cons (DaM.dp d _ h1) (DaML.dp ds _ h2)
end
theorem Da.mono (h : Da K W H v d) (e : ExM W.M H H1) : Da K W H1 v d := DaM.mono e d v h
theorem DaL.mono {vs : List V} {ds : List PyData} (h : DaL K W H vs ds) (e : ExM W.M H H1) : DaL K W H1 vs ds := DaML.mono e ds vs h
theorem Da.dp (h : Da K W H v d) : Dp K H v d := DaM.dp d v h
theorem DaL.dp {vs : List V} {ds : List PyData} (h : DaL K W H vs ds) : DpAll K H vs ds := DaML.dp ds vs h
theorem da_int {i : Int} : Da K W H (.int i) (.int i) := .int i
theorem da_bl {b : Bool} : Da K W H (.bl b) (.bool b) := .bl b
theorem da_non : Da K W H .non .none := .non
theorem da_str {x : Str} : Da K W H (.str x) (.str x) := .str x
theorem da_tup {a : Addr} {xs : List V} {ds : List PyData} (m : ¬ W.M a) (e : H a = some (.tup xs)) (h : DaL K W H xs ds) : Da K W H (.ref a) (.tuple ds) := .tup (.inl ⟨m, .inl e⟩) h
theorem da_lst {a : Addr} {xs : List V} {ds : List PyData} (m : ¬ W.M a) (e : H a = some (.lst xs)) (h : DaL K W H xs ds) : Da K W H (.ref a) (.list ds) := .lst (.inl ⟨m, .inl e⟩) h
theorem Da.int {i : Int} (h : Da K W H v (.int i)) : v = .int i := by cases h; rfl
theorem Da.bl {b : Bool} (h : Da K W H v (.bool b)) : v = .bl b := by cases h; rfl
theorem Da.non (h : Da K W H v .none) : v = .non := by cases h; rfl
theorem Da.str {x : Str} (h : Da K W H v (.str x)) : v = .str x := by cases h; rfl

/-! ### data without a list -/
mutual
def noL : PyData → Bool
  | .list _ => false
  | .tuple ds => noLs ds
  | .dict _ => false
  | _ => true
def noLs : List PyData → Bool
  | [] => true
  | d :: ds => noL d && noLs ds
end
mutual
theorem dp_keep {M : Addr → Prop} (hI : ∀ a, M a → ∃ xs, H a = some (.lst xs)) : ∀ (d : PyData) (v : V), noL d = true → Dp K H v d → DaM K M H v d
  | .none, _, _, h => by cases h; exact .non
  | .bool _, _, _, h => by cases h; exact .bl _
  | .int _, _, _, h => by cases h; exact .int _
  | .str _, _, _, h => by cases h; exact .str _
  | .list _, _, n, _ => by simp [noL] at n
  | .dict _, _, n, _ => by simp [noL] at n
  | .tuple ds, _, n, h => by
    cases h with
    | @tup a xs _ hs ha =>
      refine .tup ?_ (dpl_keep hI ds xs (by simpa [noL] using n) ha)
      rcases hs with h1 | h1
      · refine .inl ⟨fun m => ?_, h1⟩
        obtain ⟨_, z⟩ := hI a m
        rcases h1 with h1 | ⟨o, h1⟩ <;> (rw [h1] at z; cases z)
      · exact .inr h1
theorem dpl_keep {M : Addr → Prop} (hI : ∀ a, M a → ∃ xs, H a = some (.lst xs)) : ∀ (ds : List PyData) (vs : List V), noLs ds = true → DpAll K H vs ds → DaML K M H vs ds
  | [], _, _, h => by cases h; exact .nil
  | d :: ds, _, n, h => by
    cases h with
    | cons h1 h2 =>
      simp only [noLs, Bool.and_eq_true] at n
      exact .cons (dp_keep hI d _ n.1 h1) (dpl_keep hI ds _ n.2 h2)
end
theorem da_of (hI : W.I n H) (hn : noL d = true) (h : Dp K H v d) : Da K W H v d := dp_keep (fun _ m => W.ml hI m) d v hn h

/-! ### what an expression comes to -/
def J (W : Wd) (te : TE) (σ : St) (H : Hp) (c : Nat) (P : V → Hp → Prop) : Prop :=
  ∀ n H1, ExM W.M H H1 → W.I n H1 → n + c ≤ BIG → ∀ Q : VK, (∀ v H2, ExM W.M H1 H2 → W.I (n + c) H2 → P v H2 → Q v H2) → te σ H1 Q
def JA (W : Wd) (ta : TA) (σ : St) (H : Hp) (c : Nat) (P : List V → Hp → Prop) : Prop :=
  ∀ n H1, ExM W.M H H1 → W.I n H1 → n + c ≤ BIG → ∀ Q : List V → Hp → Prop, (∀ v H2, ExM W.M H1 H2 → W.I (n + c) H2 → P v H2 → Q v H2) → ta σ H1 Q
def JT (_K : PySem.W.Frag) (W : Wd) (tt : TT) (σ : St) (H : Hp) (c : Nat) (P : Bool → Prop) : Prop :=
  ∀ n H1, ExM W.M H H1 → W.I n H1 → n + c ≤ BIG → ∀ Q : Bool → Hp → Prop, (∀ b H2, ExM W.M H1 H2 → W.I (n + c) H2 → P b → Q b H2) → tt σ H1 Q
/-- exactly the data d; exactly the truth b -/
abbrev JD (K : PySem.W.Frag) (W : Wd) (te : TE) (σ : St) (H : Hp) (c : Nat) (d : PyData) : Prop := J W te σ H c fun v H2 => Da K W H2 v d
abbrev JX (K : PySem.W.Frag) (W : Wd) (te : TE) (σ : St) (H : Hp) (c : Nat) (φ : PyData → Prop) : Prop := J W te σ H c fun v H2 => ∃ d, φ d ∧ Da K W H2 v d
abbrev JDA (K : PySem.W.Frag) (W : Wd) (ta : TA) (σ : St) (H : Hp) (c : Nat) (ds : List PyData) : Prop := JA W ta σ H c fun v H2 => DaL K W H2 v ds
abbrev JB (K : PySem.W.Frag) (W : Wd) (tt : TT) (σ : St) (H : Hp) (c : Nat) (b : Bool) : Prop := JT K W tt σ H c fun x => x = b
variable {te ta tb : TE} {c c1 c2 : Nat} {P P1 P2 : V → Hp → Prop}
theorem J.mono (h : J W te σ H c P) (e : ExM W.M H H1) : J W te σ H1 c P := fun n H2 e2 => h n H2 (e.trans e2)
theorem JA.mono {ta : TA} {P : List V → Hp → Prop} (h : JA W ta σ H c P) (e : ExM W.M H H1) : JA W ta σ H1 c P := fun n H2 e2 => h n H2 (e.trans e2)
theorem JT.mono {tt : TT} {P : Bool → Prop} (h : JT K W tt σ H c P) (e : ExM W.M H H1) : JT K W tt σ H1 c P := fun n H2 e2 => h n H2 (e.trans e2)
theorem J.imp (h : J W te σ H c P) (f : ∀ v H2, P v H2 → P1 v H2) : J W te σ H c P1 := fun n H1 e hI hn Q q => h n H1 e hI hn Q fun v H2 e2 hI2 p => q v H2 e2 hI2 (f v H2 p)
theorem J.le (h : J W te σ H c P) (hc : c ≤ c1) : J W te σ H c1 P := fun n H1 e hI hn Q q => h n H1 e hI (by omega) Q fun v H2 e2 hI2 p => q v H2 e2 (W.mo (by omega) hI2) p
theorem JT.le {tt : TT} {P : Bool → Prop} (h : JT K W tt σ H c P) (hc : c ≤ c1) : JT K W tt σ H c1 P := fun n H1 e hI hn Q q => h n H1 e hI (by omega) Q fun v H2 e2 hI2 p => q v H2 e2 (W.mo (by omega) hI2) p
theorem JD.eq {e : PyData} (h : JD K W te σ H c d) (x : d = e) : JD K W te σ H c e := x ▸ h
theorem JB.eq {tt : TT} {a b : Bool} (h : JB K W tt σ H c a) (x : a = b) : JB K W tt σ H c b := x ▸ h
theorem j_v {i : Nat} (h : σ[i]? = some (some v)) : J W (tVar i) σ H 0 (fun x _ => x = v) := fun n H1 _ hI _ Q q => ⟨v, h, q v H1 ExM.refl hI rfl⟩
theorem jd_v {i : Nat} (h : σ[i]? = some (some v)) (hd : Da K W H v d) : JD K W (tVar i) σ H 0 d := fun n H1 e hI _ Q q => ⟨v, h, q v H1 ExM.refl hI (hd.mono e)⟩
theorem jd_vi {i : Nat} {k : Int} (h : σ[i]? = some (some (.int k))) : JD K W (tVar i) σ H 0 (.int k) := jd_v h da_int
theorem jd_c (hd : ∀ H, Da K W H v d) : JD K W (tC v) σ H 0 d := fun n H1 e hI _ Q q => q v H1 ExM.refl hI (hd H1)
theorem jd_int {i : Int} : JD K W (tC (.int i)) σ H 0 (.int i) := jd_c fun _ => da_int
theorem jd_bl {b : Bool} : JD K W (tC (.bl b)) σ H 0 (.bool b) := jd_c fun _ => da_bl
theorem jd_non : JD K W (tC .non) σ H 0 .none := jd_c fun _ => da_non
theorem jd_str {x : Str} : JD K W (tC (.str x)) σ H 0 (.str x) := jd_c fun _ => da_str
/-- two data, an operation upon them -/
theorem jd_op {r : R2} {d1 d2 : PyData} (ha : JD K W ta σ H c1 d1) (hb : JD K W tb σ H c2 d2)
    (hr : ∀ x y n H1, W.I n H1 → Da K W H1 x d1 → Da K W H1 y d2 → ∀ Q : VK, (∀ v H2, Same H1 H2 → Da K W H2 v d → Q v H2) → r x y H1 Q) : JD K W (tOp r ta tb) σ H (c1 + c2) d := fun n H1 e hI hn Q q =>
  ha n H1 e hI (by omega) _ fun x H2 e2 hI2 hx => hb (n + c1) H2 (e.trans e2) hI2 (by omega) _ fun y H3 e3 hI3 hy => hr x y _ H3 hI3 (hx.mono e3) hy Q fun v H4 e4 hv =>
    q v H4 ((e2.trans e3).trans (.of e4)) (W.st e4 (by rw [show n + (c1 + c2) = n + c1 + c2 by omega]; exact hI3)) hv
theorem jd_un {r : V → Hp → VK → Prop} {d1 : PyData} (ha : JD K W ta σ H c d1)
    (hr : ∀ x n H1, W.I n H1 → Da K W H1 x d1 → ∀ Q : VK, (∀ v H2, Same H1 H2 → Da K W H2 v d → Q v H2) → r x H1 Q) : JD K W (tUn r ta) σ H c d := fun n H1 e hI hn Q q =>
  ha n H1 e hI hn _ fun x H2 e2 hI2 hx => hr x _ H2 hI2 hx Q fun v H4 e4 hv => q v H4 (e2.trans (.of e4)) (W.st e4 hI2) hv
theorem jd_I {C : Int → Int → Prop} {g : Int → Int → V} {i j : Int} (ha : JD K W ta σ H c1 (.int i)) (hb : JD K W tb σ H c2 (.int j)) (hc : C i j) (hd : ∀ H, Da K W H (g i j) d) : JD K W (tOp (rI C g) ta tb) σ H (c1 + c2) d :=
  jd_op ha hb fun x y n H1 _ hx hy Q q => ⟨i, j, hx.int, hy.int, hc, q _ H1 (Same.refl _) (hd H1)⟩
theorem jd_I0 {g : Int → Int → V} {i j : Int} (ha : JD K W ta σ H c1 (.int i)) (hb : JD K W tb σ H c2 (.int j)) (hd : ∀ H, Da K W H (g i j) d) : JD K W (tOp (rI0 g) ta tb) σ H (c1 + c2) d :=
  jd_op ha hb fun x y n H1 _ hx hy Q q => ⟨i, j, hx.int, hy.int, q _ H1 (Same.refl _) (hd H1)⟩
/-- ints to an int, ints to a truth -/
theorem jd_Ii {C : Int → Int → Prop} {f : Int → Int → Int} {i j : Int} (ha : JD K W ta σ H c1 (.int i)) (hb : JD K W tb σ H c2 (.int j)) (hc : C i j) : JD K W (tOp (rI C fun i j => .int (f i j)) ta tb) σ H (c1 + c2) (.int (f i j)) := jd_I ha hb hc fun _ => da_int
theorem jd_I0i {f : Int → Int → Int} {i j : Int} (ha : JD K W ta σ H c1 (.int i)) (hb : JD K W tb σ H c2 (.int j)) : JD K W (tOp (rI0 fun i j => .int (f i j)) ta tb) σ H (c1 + c2) (.int (f i j)) := jd_I0 ha hb fun _ => da_int
theorem jd_I0b {f : Int → Int → Bool} {i j : Int} (ha : JD K W ta σ H c1 (.int i)) (hb : JD K W tb σ H c2 (.int j)) : JD K W (tOp (rI0 fun i j => .bl (f i j)) ta tb) σ H (c1 + c2) (.bool (f i j)) := jd_I0 ha hb fun _ => da_bl
theorem jd_neg {f : Int → Int} {i : Int} (ha : JD K W ta σ H c (.int i)) : JD K W (tUn (rU fun i => .int (f i)) ta) σ H c (.int (f i)) := jd_un ha fun x n H1 _ hx Q q => ⟨i, hx.int, q _ H1 (Same.refl _) da_int⟩
/-- two ints compared by the rule for scalars -/
theorem jd_eqI {i j : Int} (ha : JD K W ta σ H c1 (.int i)) (hb : JD K W tb σ H c2 (.int j)) : JD K W (tOp rEq ta tb) σ H (c1 + c2) (.bool (decide (i = j))) := jd_op ha hb fun x y n H1 _ hx hy Q q => by
  have e1 := hx.int; have e2 := hy.int; subst e1 e2
  refine ⟨rfl, ?_⟩
  have := q (.bl (decide (i = j))) H1 (Same.refl _) da_bl
  have e : decide (V.int i = V.int j) = decide (i = j) := by by_cases h : i = j <;> simp [h]
  rw [e]; exact this
theorem jd_neI {i j : Int} (ha : JD K W ta σ H c1 (.int i)) (hb : JD K W tb σ H c2 (.int j)) : JD K W (tOp rNe ta tb) σ H (c1 + c2) (.bool (!decide (i = j))) := jd_op ha hb fun x y n H1 _ hx hy Q q => by
  have e1 := hx.int; have e2 := hy.int; subst e1 e2
  refine ⟨rfl, ?_⟩
  have := q (.bl (!decide (i = j))) H1 (Same.refl _) da_bl
  have e : decide (V.int i = V.int j) = decide (i = j) := by by_cases h : i = j <;> simp [h]
  rw [e]; exact this
theorem jd_eqB {i j : Bool} (ha : JD K W ta σ H c1 (.bool i)) (hb : JD K W tb σ H c2 (.bool j)) : JD K W (tOp rEq ta tb) σ H (c1 + c2) (.bool (decide (i = j))) := jd_op ha hb fun x y n H1 _ hx hy Q q => by
  have e1 := hx.bl; have e2 := hy.bl; subst e1 e2
  refine ⟨rfl, ?_⟩
  have := q (.bl (decide (i = j))) H1 (Same.refl _) da_bl
  have e : decide (V.bl i = V.bl j) = decide (i = j) := by by_cases h : i = j <;> simp [h]
  rw [e]; exact this
theorem jd_neB {i j : Bool} (ha : JD K W ta σ H c1 (.bool i)) (hb : JD K W tb σ H c2 (.bool j)) : JD K W (tOp rNe ta tb) σ H (c1 + c2) (.bool (!decide (i = j))) := jd_op ha hb fun x y n H1 _ hx hy Q q => by
  have e1 := hx.bl; have e2 := hy.bl; subst e1 e2
  refine ⟨rfl, ?_⟩
  have := q (.bl (!decide (i = j))) H1 (Same.refl _) da_bl
  have e : decide (V.bl i = V.bl j) = decide (i = j) := by by_cases h : i = j <;> simp [h]
  rw [e]; exact this
theorem jd_eqD {d1 d2 : PyData} (ha : JD K W ta σ H c1 d1) (hb : JD K W tb σ H c2 d2) (s1 : SeqAt.shaped d1 = true) (s2 : SeqAt.shaped d2 = true) : JD K W (tOp (rEqD K) ta tb) σ H (c1 + c2) (.bool (PyData.eqv d1 d2)) :=
  jd_op ha hb fun x y n H1 _ hx hy Q q => ⟨d1, d2, hx.dp, hy.dp, s1, s2, q _ H1 (Same.refl _) da_bl⟩
theorem jd_neD {d1 d2 : PyData} (ha : JD K W ta σ H c1 d1) (hb : JD K W tb σ H c2 d2) (s1 : SeqAt.shaped d1 = true) (s2 : SeqAt.shaped d2 = true) : JD K W (tOp (rNeD K) ta tb) σ H (c1 + c2) (.bool (!PyData.eqv d1 d2)) :=
  jd_op ha hb fun x y n H1 _ hx hy Q q => ⟨d1, d2, hx.dp, hy.dp, s1, s2, q _ H1 (Same.refl _) da_bl⟩
def isNoneD : PyData → Bool
  | .none => true
  | _ => false
theorem da_isN (h : Da K W H v d) : decide (v = .non) = isNoneD d := by cases h <;> rfl
theorem jd_isN (ha : JD K W ta σ H c1 d) (hb : JD K W tb σ H c2 .none) : JD K W (tOp (fun x y H Q => y = .non ∧ Q (.bl (decide (x = .non))) H) ta tb) σ H (c1 + c2) (.bool (isNoneD d)) :=
  jd_op ha hb fun x y n H1 _ hx hy Q q => ⟨hy.non, by rw [da_isN hx]; exact q _ H1 (Same.refl _) da_bl⟩
theorem jd_notN (ha : JD K W ta σ H c1 d) (hb : JD K W tb σ H c2 .none) : JD K W (tOp (fun x y H Q => y = .non ∧ Q (.bl (!decide (x = .non))) H) ta tb) σ H (c1 + c2) (.bool (!isNoneD d)) :=
  jd_op ha hb fun x y n H1 _ hx hy Q q => ⟨hy.non, by rw [da_isN hx]; exact q _ H1 (Same.refl _) da_bl⟩
/-! items -/
theorem dal_len : ∀ {xs : List V} {ds : List PyData}, DaL K W H xs ds → xs.length = ds.length
  | _, _, .nil => rfl
  | _, _, .cons _ t => by rw [List.length_cons, List.length_cons, dal_len t]
theorem dal_at {xs : List V} : ∀ {ds : List PyData} {j : Nat} {d : PyData}, DaL K W H xs ds → ds[j]? = some d → ∃ x, xs[j]? = some x ∧ Da K W H x d := by
  induction xs with
  | nil => intro ds j d h e; cases h; cases e
  | cons v vs ih =>
    intro ds j x h e
    cases h with
    | cons h1 h2 =>
      cases j with
      | zero => cases e; exact ⟨v, rfl, h1⟩
      | succ j =>
        have z := ih h2 e
        exact z
theorem dal_get {xs : List V} : ∀ {ds : List PyData} {j : Nat} {x : V}, DaL K W H xs ds → xs[j]? = some x → ∃ d, ds[j]? = some d ∧ Da K W H x d := by
  induction xs with
  | nil => intro _ _ _ _ h; cases h
  | cons v vs ih =>
    intro ds j x h e
    cases h with
    | @cons _ _ d ds h1 h2 =>
      cases j with
      | zero => cases e; exact ⟨d, rfl, h1⟩
      | succ j =>
        have z := ih (ds := ds) h2 e
        exact z
theorem dal_atI {xs : List V} {ds : List PyData} {i : Int} {d : PyData} (h : DaL K W H xs ds) (e : atI ds i = some d) : ∃ x, atI xs i = some x ∧ Da K W H x d := by
  unfold atI at e ⊢
  rw [dal_len h]
  cases q : ixN ds.length i with
  | none => rw [q] at e; cases e
  | some j => rw [q] at e; exact dal_at h e
theorem jd_ixT {ds : List PyData} {i : Int} (ha : JD K W ta σ H c1 (.tuple ds)) (hb : JD K W tb σ H c2 (.int i)) (he : atI ds i = some d) : JD K W (tOp (rIxT K) ta tb) σ H (c1 + c2) d :=
  jd_op ha hb fun x y n H1 _ hx hy Q q => by
    cases hx with
    | tup hs hl =>
      obtain ⟨z, ez, dz⟩ := dal_atI (W := W) hl he
      exact ⟨_, _, i, z, rfl, hy.int, hs.sq, ez, q z H1 (Same.refl _) dz⟩
theorem jd_ixL {ds : List PyData} {i : Int} (ha : JD K W ta σ H c1 (.list ds)) (hb : JD K W tb σ H c2 (.int i)) (he : atI ds i = some d) : JD K W (tOp (rIxL K) ta tb) σ H (c1 + c2) d :=
  jd_op ha hb fun x y n H1 _ hx hy Q q => by
    cases hx with
    | lst hs hl =>
      obtain ⟨z, ez, dz⟩ := dal_atI (W := W) hl he
      exact ⟨_, _, i, z, rfl, hy.int, hs.sq, ez, q z H1 (Same.refl _) dz⟩

/-! ### arguments, displays, calls -/
theorem ja_nil : JDA K W tNil σ H 0 [] := fun n H1 _ hI _ Q q => q [] H1 ExM.refl hI .nil
theorem ja_cons {tr : TA} {ds : List PyData} (ha : JD K W ta σ H c1 d) (hr : JDA K W tr σ H c2 ds) : JDA K W (tCons ta tr) σ H (c1 + c2) (d :: ds) := fun n H1 e hI hn Q q =>
  ha n H1 e hI (by omega) _ fun x H2 e2 hI2 hx => hr (n + c1) H2 (e.trans e2) hI2 (by omega) _ fun xs H3 e3 hI3 hxs =>
    q (x :: xs) H3 (e2.trans e3) (by rw [show n + (c1 + c2) = n + c1 + c2 by omega]; exact hI3) (.cons (Da.mono hx e3) hxs)
theorem jd_tup {t : TA} {ds : List PyData} (h : JDA K W t σ H c ds) (hl : ds.length ≤ 100000) : JD K W (tTup t) σ H c (.tuple ds) := fun n H1 e hI hn Q q =>
  h n H1 e hI hn _ fun xs H2 e2 hI2 hx => ⟨by rw [dal_len hx]; exact Nat.le_trans hl (by decide), fun p hp =>
    q (.ref p) _ (e2.trans (.of (same_new hp))) (W.st (same_new hp) hI2) (da_tup (W.fr hI2 hp) upd_same (DaL.mono hx (.of (same_new hp))))⟩
theorem jd_lst {t : TA} {ds : List PyData} (h : JDA K W t σ H c ds) (hl : ds.length ≤ 100000) : JD K W (tLst t) σ H c (.list ds) := fun n H1 e hI hn Q q =>
  h n H1 e hI hn _ fun xs H2 e2 hI2 hx => ⟨by rw [dal_len hx]; exact Nat.le_trans hl (by decide), fun p hp =>
    q (.ref p) _ (e2.trans (.of (same_new hp))) (W.st (same_new hp) hI2) (da_lst (W.fr hI2 hp) upd_same (DaL.mono hx (.of (same_new hp))))⟩
/-- a def that changes nothing: data to data (without a list) -/
def spPure (K : PySem.W.Frag) (rel : List PyData → PyData → Prop) : Sp := fun vs H Q _ => ∃ (ds : List PyData) (r : PyData), DpAll K H vs ds ∧ rel ds r ∧ ∀ v H', Same H H' → Dp K H' v r → Q v H'
theorem jd_call {rel : List PyData → PyData → Prop} {ds : List PyData} {r : PyData} {E : XK} {t : TA} (h : JDA K W t σ H c ds) (hr : rel ds r) (hn : noL r = true) : JD K W (tCall (spPure K rel) [] E t) σ H c r := fun n H1 e hI hb Q q =>
  h n H1 e hI hb _ fun vs H2 e2 hI2 hv => ⟨ds, r, by rw [List.append_nil]; exact DaL.dp hv, hr, fun v H' s hd => q v H' (e2.trans (.of s)) (W.st s hI2) (da_of (W.st s hI2) hn hd)⟩
/-- a built-in upon data -/
theorem jd_cb {r : List V → Hp → VK → Prop} {t : TA} {ds : List PyData} (h : JDA K W t σ H c ds) (hr : ∀ vs n H1, W.I n H1 → DaL K W H1 vs ds → ∀ Q : VK, (∀ v H2, Same H1 H2 → Da K W H2 v d → Q v H2) → r vs H1 Q) : JD K W (tCB r t) σ H c d := fun n H1 e hI hb Q q =>
  h n H1 e hI hb _ fun vs H2 e2 hI2 hv => hr vs _ H2 hI2 hv Q fun v H' s hd => q v H' (e2.trans (.of s)) (W.st s hI2) hd
theorem dal1 {d : PyData} {vs : List V} (h : DaL K W H vs [d]) : ∃ x, vs = [x] ∧ Da K W H x d := by
  cases h with
  | cons h1 h2 => cases h2; exact ⟨_, rfl, h1⟩
theorem dal2 {d e : PyData} {vs : List V} (h : DaL K W H vs [d, e]) : ∃ x y, vs = [x, y] ∧ Da K W H x d ∧ Da K W H y e := by
  cases h with
  | cons h1 h2 =>
    obtain ⟨y, rfl, h3⟩ := dal1 (W := W) h2
    exact ⟨_, y, rfl, h1, h3⟩
theorem dal3 {d e f : PyData} {vs : List V} (h : DaL K W H vs [d, e, f]) : ∃ x y z, vs = [x, y, z] ∧ Da K W H x d ∧ Da K W H y e ∧ Da K W H z f := by
  cases h with
  | cons h1 h2 =>
    obtain ⟨y, z, rfl, h3⟩ := dal2 (W := W) h2
    exact ⟨_, y, z, rfl, h1, h3⟩
theorem dal4 {d e f g : PyData} {vs : List V} (h : DaL K W H vs [d, e, f, g]) : ∃ x y z u, vs = [x, y, z, u] ∧ Da K W H x d ∧ Da K W H y e ∧ Da K W H z f ∧ Da K W H u g := by
  cases h with
  | cons h1 h2 =>
    obtain ⟨y, z, u, rfl, h3⟩ := dal3 (W := W) h2
    exact ⟨_, y, z, u, rfl, h1, h3⟩
theorem jd_abs {t : TA} {i : Int} (h : JDA K W t σ H c [.int i]) : JD K W (tCB (fun xs H Q => ∃ i, xs = [.int i] ∧ Q (.int (if i < 0 then -i else i)) H) t) σ H c (.int (if i < 0 then -i else i)) := jd_cb h fun vs n H1 _ hv Q q => by
  obtain ⟨x, rfl, hx⟩ := dal1 hv
  exact ⟨i, by rw [hx.int], q _ H1 (Same.refl _) da_int⟩
theorem jd_int1 {t : TA} {i : Int} (h : JDA K W t σ H c [.int i]) : JD K W (tCB (fun xs H Q => (∃ i, xs = [.int i] ∧ Q (.int i) H) ∨ ∃ k, xs = [.bl k] ∧ Q (.int (if k then 1 else 0)) H) t) σ H c (.int i) := jd_cb h fun vs n H1 _ hv Q q => by
  obtain ⟨x, rfl, hx⟩ := dal1 hv
  exact .inl ⟨i, by rw [hx.int], q _ H1 (Same.refl _) da_int⟩
theorem jd_intB {t : TA} {b : Bool} (h : JDA K W t σ H c [.bool b]) : JD K W (tCB (fun xs H Q => (∃ i, xs = [.int i] ∧ Q (.int i) H) ∨ ∃ k, xs = [.bl k] ∧ Q (.int (if k then 1 else 0)) H) t) σ H c (.int (if b then 1 else 0)) := jd_cb h fun vs n H1 _ hv Q q => by
  obtain ⟨x, rfl, hx⟩ := dal1 hv
  exact .inr ⟨b, by rw [hx.bl], q _ H1 (Same.refl _) da_int⟩
theorem jd_gcd {t : TA} {i j : Int} (h : JDA K W t σ H c [.int i, .int j]) : JD K W (tCB rGcd t) σ H c (.int ((Nat.gcd i.natAbs j.natAbs : Nat) : Int)) := jd_cb h fun vs n H1 _ hv Q q => by
  obtain ⟨x, y, rfl, hx, hy⟩ := dal2 hv
  exact ⟨i, j, by rw [hx.int, hy.int], q _ H1 (Same.refl _) da_int⟩
def lenD : PyData → Nat
  | .list ds => ds.length
  | .tuple ds => ds.length
  | _ => 0
def isSeq : PyData → Bool
  | .list _ => true
  | .tuple _ => true
  | _ => false
theorem jd_lenS {t : TA} (h : JDA K W t σ H c [d]) (hs : isSeq d = true) : JD K W (tCB (fun xs H Q => ∃ p ys, xs = [.ref p] ∧ (SqL K H p ys ∨ SqT K H p ys) ∧ Q (.int ys.length) H) t) σ H c (.int (lenD d)) := jd_cb h fun vs n H1 _ hv Q q => by
  obtain ⟨x, rfl, hx⟩ := dal1 hv
  cases hx with
  | @lst a xs ds hs' hl => exact ⟨a, xs, rfl, .inl hs'.sq, by rw [dal_len (W := W) hl]; exact q _ H1 (Same.refl _) da_int⟩
  | @tup a xs ds hs' hl => exact ⟨a, xs, rfl, .inr hs'.sq, by rw [dal_len (W := W) hl]; exact q _ H1 (Same.refl _) da_int⟩
  | _ => cases hs

/-! ### truths -/
variable {tt tu : TT} {b b1 b2 : Bool}
theorem jb_test (h : JD K W te σ H c (.bool b)) : JB K W (tTest te) σ H c b := fun n H1 e hI hn Q q => h n H1 e hI hn _ fun v H2 e2 hI2 hv => ⟨b, hv.bl, q b H2 e2 hI2 rfl⟩
theorem jb_B (h : JD K W te σ H c (.bool b)) : JB K W (tB te) σ H c b := fun n H1 e hI hn Q q => h n H1 e hI hn _ fun v H2 e2 hI2 hv => ⟨b, hv.bl, q b H2 e2 hI2 rfl⟩
theorem jb_not (h : JB K W tt σ H c b) : JB K W (tNot tt) σ H c (!b) := fun n H1 e hI hn Q q => h n H1 e hI hn _ fun x H2 e2 hI2 hx => q _ H2 e2 hI2 (by rw [hx])
theorem jb_and (h1 : JB K W tt σ H c1 b1) (h2 : b1 = true → JB K W tu σ H c2 b2) : JB K W (tAnd tt tu) σ H (c1 + c2) (b1 && b2) := fun n H1 e hI hn Q q => h1 n H1 e hI (by omega) _ fun x H2 e2 hI2 hx => by
  subst hx
  cases x with
  | false =>
    show Q false H2
    exact q _ H2 e2 (W.mo (by omega) hI2) rfl
  | true =>
    show tu σ H2 Q
    exact h2 rfl (n + c1) H2 (e.trans e2) hI2 (by omega) Q fun y H3 e3 hI3 hy => q y H3 (e2.trans e3) (W.mo (by omega) hI3) hy
theorem jb_or (h1 : JB K W tt σ H c1 b1) (h2 : b1 = false → JB K W tu σ H c2 b2) : JB K W (tOr tt tu) σ H (c1 + c2) (b1 || b2) := fun n H1 e hI hn Q q => h1 n H1 e hI (by omega) _ fun x H2 e2 hI2 hx => by
  subst hx
  cases x with
  | true =>
    show Q true H2
    exact q _ H2 e2 (W.mo (by omega) hI2) rfl
  | false =>
    show tu σ H2 Q
    exact h2 rfl (n + c1) H2 (e.trans e2) hI2 (by omega) Q fun y H3 e3 hI3 hy => q y H3 (e2.trans e3) (W.mo (by omega) hI3) hy
theorem jd_andV (h1 : JD K W ta σ H c1 (.bool b1)) (h2 : b1 = true → JD K W tb σ H c2 (.bool b2)) : JD K W (tAndV ta tb) σ H (c1 + c2) (.bool (b1 && b2)) := fun n H1 e hI hn Q q => h1 n H1 e hI (by omega) _ fun x H2 e2 hI2 hx => ⟨b1, hx.bl, by
  cases b1 with
  | false =>
    show Q (.bl false) H2
    exact q _ H2 e2 (W.mo (by omega) hI2) da_bl
  | true =>
    show tb σ H2 Q
    exact h2 rfl (n + c1) H2 (e.trans e2) hI2 (by omega) Q fun y H3 e3 hI3 hy => q y H3 (e2.trans e3) (W.mo (by omega) hI3) hy⟩
theorem jd_orV (h1 : JD K W ta σ H c1 (.bool b1)) (h2 : b1 = false → JD K W tb σ H c2 (.bool b2)) : JD K W (tOrV ta tb) σ H (c1 + c2) (.bool (b1 || b2)) := fun n H1 e hI hn Q q => h1 n H1 e hI (by omega) _ fun x H2 e2 hI2 hx => ⟨b1, hx.bl, by
  cases b1 with
  | true =>
    show Q (.bl true) H2
    exact q _ H2 e2 (W.mo (by omega) hI2) da_bl
  | false =>
    show tb σ H2 Q
    exact h2 rfl (n + c1) H2 (e.trans e2) hI2 (by omega) Q fun y H3 e3 hI3 hy => q y H3 (e2.trans e3) (W.mo (by omega) hI3) hy⟩
theorem jd_notV (h1 : JD K W ta σ H c (.bool b)) : JD K W (tNotV ta) σ H c (.bool (!b)) := fun n H1 e hI hn Q q => h1 n H1 e hI hn _ fun x H2 e2 hI2 hx => ⟨b, hx.bl, q _ H2 e2 hI2 da_bl⟩
theorem j_if {P : V → Hp → Prop} (h : JB K W tt σ H c b) (h1 : b = true → J W ta σ H c1 P) (h2 : b = false → J W tb σ H c1 P) : J W (tIf tt ta tb) σ H (c + c1) P := fun n H1 e hI hn Q q => h n H1 e hI (by omega) _ fun x H2 e2 hI2 hx => by
  subst hx
  cases x with
  | true =>
    show ta σ H2 Q
    exact h1 rfl (n + c) H2 (e.trans e2) hI2 (by omega) Q fun y H3 e3 hI3 hy => q y H3 (e2.trans e3) (W.mo (by omega) hI3) hy
  | false =>
    show tb σ H2 Q
    exact h2 rfl (n + c) H2 (e.trans e2) hI2 (by omega) Q fun y H3 e3 hI3 hy => q y H3 (e2.trans e3) (W.mo (by omega) hI3) hy

/-! ### statements -/
variable {D : Ends} {ts tr : TS}
theorem st_seq (h : ts { D with nx := tr D } σ H) : tSeq ts tr D σ H := h
theorem st_set {i : Nat} (hI : W.I n H) (h : J W te σ H c P) (hc : n + c ≤ BIG) (k : ∀ v H1, ExM W.M H H1 → W.I (n + c) H1 → P v H1 → D.nx (σ.set i (some v)) H1) : tAsg te (gName i) D σ H := h n H ExM.refl hI hc _ fun v H1 e hI1 p => k v H1 e hI1 p
theorem st_ret (hI : W.I n H) (h : J W te σ H c P) (hc : n + c ≤ BIG) (k : ∀ v H1, ExM W.M H H1 → W.I (n + c) H1 → P v H1 → D.rt v H1) : tRet te D σ H := h n H ExM.refl hI hc _ fun v H1 e hI1 p => k v H1 e hI1 p
theorem st_drop (hI : W.I n H) (h : J W te σ H c P) (hc : n + c ≤ BIG) (k : ∀ H1, ExM W.M H H1 → W.I (n + c) H1 → D.nx σ H1) : tDrop te D σ H := h n H ExM.refl hI hc _ fun v H1 e hI1 p => k H1 e hI1
theorem st_if (hI : W.I n H) (h : JB K W tt σ H c b) (hc : n + c ≤ BIG) (k1 : b = true → ∀ H1, ExM W.M H H1 → W.I (n + c) H1 → ts D σ H1) (k2 : b = false → ∀ H1, ExM W.M H H1 → W.I (n + c) H1 → tr D σ H1) : tIfS tt ts tr D σ H := h n H ExM.refl hI hc _ fun x H1 e hI1 hx => by
  subst hx
  cases x with
  | true => exact k1 rfl H1 e hI1
  | false => exact k2 rfl H1 e hI1
/-- a pure def's end -/
theorem pure_end {r : PyData} {Q : VK} {H0 : Hp} (e : ExM W0.M H0 H) (q : ∀ v H', Same H0 H' → Dp K H' v r → Q v H') (hd : Da K W0 H v r) : Q v H := q v H (ex0 e) (Da.dp hd)
mutual
theorem dp0 : ∀ (d : PyData) (v : V), Dp K H v d → Da K W0 H v d
  | .none, _, h => by cases h; exact DaM.non
  | .bool _, _, h => by cases h; exact DaM.bl _
  | .int _, _, h => by cases h; exact DaM.int _
  | .str _, _, h => by cases h; exact DaM.str _
  | .list ds, _, h => by
    cases h with
    | lst hs ha =>
      refine .lst ?_ (dpl0 ds _ ha)
      rcases hs with h1 | h1
      · exact .inl ⟨fun z => z, h1⟩
      · exact .inr h1
  | .tuple ds, _, h => by
    cases h with
    | tup hs ha =>
      refine .tup ?_ (dpl0 ds _ ha)
      rcases hs with h1 | h1
      · exact .inl ⟨fun z => z, h1⟩
      · exact .inr h1
  | .dict _, _, h => by cases h
theorem dpl0 : ∀ (ds : List PyData) (vs : List V), DpAll K H vs ds → DaL K W0 H vs ds
  | [], _, h => by cases h; exact .nil
  | d :: ds, _, h => by
    cases h with
    | cons h1 h2 => exact .cons (dp0 d _ h1) (dpl0 ds _ h2)
end
mutual
/-- data without lists stand when a list changes -/
theorem da_upd {M : Addr → Prop} {D : Addr} {acc : List V} {o : HO} (hD : H D = some (.lst acc)) : ∀ (d : PyData) (v : V), noL d = true → DaM K M H v d → DaM K M (upd H D o) v d
  | .none, _, _, h => by cases h; exact .non
  | .bool _, _, _, h => by cases h; exact .bl _
  | .int _, _, _, h => by cases h; exact .int _
  | .str _, _, _, h => by cases h; exact .str _
  | .list _, _, n, _ => by simp [noL] at n
  | .dict _, _, n, _ => by simp [noL] at n
  | .tuple ds, _, n, h => by
    cases h with
    | @tup a xs _ hs ha =>
      refine .tup ?_ (dal_upd hD ds _ (by simpa [noL] using n) ha)
      rcases hs with ⟨m, h1⟩ | h1
      · refine .inl ⟨m, ?_⟩
        rcases h1 with h1 | ⟨ob, h1⟩
        · refine .inl ?_
          rw [upd_ne (fun e => by rw [e, hD] at h1; cases h1)]; exact h1
        · refine .inr ⟨ob, ?_⟩
          rw [upd_ne (fun e => by rw [e, hD] at h1; cases h1)]; exact h1
      · exact .inr h1
theorem dal_upd {M : Addr → Prop} {D : Addr} {acc : List V} {o : HO} (hD : H D = some (.lst acc)) : ∀ (ds : List PyData) (vs : List V), noLs ds = true → DaML K M H vs ds → DaML K M (upd H D o) vs ds
  | [], _, _, h => by cases h; exact .nil
  | d :: ds, _, n, h => by
    cases h with
    | cons h1 h2 =>
      simp only [noLs, Bool.and_eq_true] at n
      exact .cons (da_upd hD d _ n.1 h1) (dal_upd hD ds _ n.2 h2)
end
theorem noLs_all : ∀ {ds : List PyData}, noLs ds = true ↔ ∀ d ∈ ds, noL d = true
  | [] => by simp [noLs]
  | d :: ds => by simp [noLs, noLs_all (ds := ds)]
theorem dal_app {xs ys : List V} : ∀ {ds es : List PyData}, DaL K W H xs ds → DaL K W H ys es → DaL K W H (xs ++ ys) (ds ++ es)
  | _, _, .nil, h => h
  | _, _, .cons h t, h2 => .cons h (dal_app t h2)

/-! ### walking a list or a tuple -/
def iSeq (K : PySem.W.Frag) (tl : TE) : TI := fun σ H R => tl σ H fun x H1 => ∃ a, x = .ref a ∧ (((∃ xs, SqL K H1 a xs) ∧ R (Itl K a) H1) ∨ ((∃ xs, SqT K H1 a xs) ∧ R (Itt K a) H1))
/-- an iterator laid at the heap's end -/
theorem pie_end {X : Cx} {pins : List (Addr × Obj)} {σ : St} {tg : Expr} {R : It → Hp → Prop} {s : Shared} {H : Hp} {J : It} {tn : Nat → Heap → Prop} {o : Obj} (I : Inv X pins σ H s) (T : Turn X.prog X.w X.K tg J [s.heap.objs.size] s.heap.objs.size tn)
    (t0 : tn 0 (s.heap.push o)) (q : R J H) : PIE X pins σ tg R (.ref s.heap.objs.size) { s with heap := s.heap.push o } :=
  ⟨s.heap.objs.size, [s.heap.objs.size], tn, J, H, rfl, I.kept (t' := s.toks) (fun _ _ => Heap.get?_push_of_some _), T, t0, fun x hx => by
    rw [List.mem_singleton.mp hx]
    exact I.fpOk (Nat.le_refl _) (I.hok.fresh (Nat.le_refl _)), q⟩
theorem pi_seq {X : Cx} {tg l : Expr} {tl : TE} (hl : PE X l tl) : PI X tg l (iSeq X.K tl) := ⟨fun pins s σ H R I h => thn (hl.run pins s σ H _ I h) fun v s1 ⟨x, H1, J1, rx, a, ea, w⟩ => by
  subst ea; cases rx
  cases w with
  | inl w =>
    obtain ⟨⟨xs, hx⟩, k⟩ := w
    obtain ⟨us, _, z, _⟩ := J1.list hx
    exact wpAny_pyIter_list z.isList (pie_end J1 (turn_list a _) ⟨_, Heap.get?_push_size _ rfl, rfl, rfl⟩ k)
  | inr w =>
    obtain ⟨⟨xs, hx⟩, k⟩ := w
    obtain ⟨us, _, z, _⟩ := J1.tuple hx
    exact wpAny_pyIter_tuple (show s1.heap.IsTuple a us.toArray from z) (pie_end J1 (turn_tuple a _) ⟨_, Heap.get?_push_size _ rfl, rfl, rfl⟩ k)⟩

def itemsD : PyData → List PyData
  | .list ds => ds
  | .tuple ds => ds
  | _ => []
/-- what a comprehension's list holds after i items -/
def Cw (K : PySem.W.Frag) (W : Wd) (H1 : Hp) (n : Nat) (Dl : Addr) (ds : List PyData) (H' : Hp) : Prop := H1 Dl = none ∧ ExM W.M H1 H' ∧ W.I n H' ∧ noLs ds = true ∧ ∃ acc, H' Dl = some (.lst acc) ∧ DaL K W H' acc ds
theorem cw_put {n : Nat} {Dl : Addr} {ds : List PyData} {y : V} {d : PyData} {H4 : Hp} (hI1 : ∃ n, W.I n H1) (h : Cw K W H1 n Dl ds H4) (hy : Da K W H4 y d) (hn : noL d = true) (hl : ds.length < 100000) :
    ∃ acc, H4 Dl = some (.lst acc) ∧ acc.length < sizeLine ∧ Cw K W H1 n Dl (ds ++ [d]) (upd H4 Dl (.lst (acc ++ [y]))) := by
  obtain ⟨p1, p2, p3, p4, acc, p5, p6⟩ := h
  obtain ⟨m, hI1⟩ := hI1
  refine ⟨acc, p5, by rw [dal_len p6]; exact Nat.lt_of_lt_of_le hl (by decide), p1, fun a o ma ha => ?_, W.sf (fun a f => ?_) p3, ?_, acc ++ [y], upd_same, ?_⟩
  · rw [upd_ne (ne_of_none ha p1)]; exact p2 a o ma ha
  · rw [upd_ne (fun e => W.al hI1 f (by rw [e]; exact p1))]
  · rw [noLs_all] at p4 ⊢
    intro e he
    rcases List.mem_append.mp he with h | h
    · exact p4 e h
    · rw [List.mem_singleton.mp h]; exact hn
  · exact dal_app (dal_upd p5 ds acc p4 p6) (.cons (da_upd p5 d y hn hy) .nil)
theorem cw_on {n m : Nat} {Dl : Addr} {ds : List PyData} {H3 H4 : Hp} (h : Cw K W H1 n Dl ds H3) (hD : ¬ W.M Dl) (e : ExM W.M H3 H4) (hI : W.I m H4) : Cw K W H1 m Dl ds H4 := by
  obtain ⟨p1, p2, p3, p4, acc, p5, p6⟩ := h
  exact ⟨p1, p2.trans e, hI, p4, acc, e Dl _ hD p5, p6.mono e⟩
/-- a list of one's own, just made -/
def NewL (K : PySem.W.Frag) (W : Wd) (H : Hp) (v : V) (ds : List PyData) : Prop := ∃ p acc, v = .ref p ∧ ¬ W.M p ∧ H p = some (.lst acc) ∧ DaL K W H acc ds
theorem NewL.da {ds : List PyData} (h : NewL K W H v ds) : Da K W H v (.list ds) := by
  obtain ⟨p, acc, rfl, m, e, h⟩ := h
  exact da_lst m e h
/-- [te for x in a list or tuple if tt], nothing drawn in it -/
theorem jl_lc {ds : List PyData} {d0 : PyData} {tl : TE} {tt : TT} {j : Nat} {vs : List Nat} (p : PyData → Bool) (f : PyData → PyData) (ha : JD K W tl σ H c d0) (hs : isSeq d0 = true) (hd : itemsD d0 = ds) (hl : ds.length < 100000) (hw : ∀ x, wipe ((wipe σ vs).set j (some x)) vs = wipe σ vs)
    (ht : ∀ d x H1, d ∈ ds → ExM W.M H H1 → Da K W H1 x d → JB K W tt ((wipe σ vs).set j (some x)) H1 0 (p d)) (he : ∀ d x H1, d ∈ ds → p d = true → ExM W.M H H1 → Da K W H1 x d → JD K W te ((wipe σ vs).set j (some x)) H1 0 (f d)) (hn : ∀ d, d ∈ ds → p d = true → noL (f d) = true) :
    J W (tLc (iSeq K tl) (gName j) tt te vs) σ H c (fun v H2 => NewL K W H2 v ((ds.filter p).map f)) := fun n H0 e hI hb Q q => ha n H0 e hI hb _ fun x H1 e1 hI1 hx => by
  have step : ∀ (i : Nat) (dd : PyData) (y : V) (Dl : Addr) (H' : Hp), dd ∈ ds → ds[i]? = some dd → (¬ W.M Dl) → Da K W H' y dd → Cw K W H1 (n + c) Dl (((ds.take i).filter p).map f) H' →
      wipe ((wipe σ vs).set j (some y)) vs = wipe σ vs ∧ tt ((wipe σ vs).set j (some y)) H' fun b H3 => if b = true then te ((wipe σ vs).set j (some y)) H3 fun y H4 => ∃ acc, H4 Dl = some (.lst acc) ∧ acc.length < sizeLine ∧ Cw K W H1 (n + c) Dl (((ds.take (i + 1)).filter p).map f) (upd H4 Dl (.lst (acc ++ [y]))) else Cw K W H1 (n + c) Dl (((ds.take (i + 1)).filter p).map f) H3 := by
    intro i dd y Dl H' hm hi mD hy hC
    have tk : ds.take (i + 1) = ds.take i ++ [dd] := by rw [List.take_add_one, hi]; rfl
    have lt : (((ds.take i).filter p).map f).length < 100000 := by
      rw [List.length_map]
      have h1 := List.length_filter_le p (ds.take i)
      have h2 : (ds.take i).length ≤ ds.length := by rw [List.length_take]; exact Nat.min_le_right _ _
      omega
    refine ⟨hw y, ht dd y H' hm (e.trans (e1.trans hC.2.1)) hy (n + c) H' ExM.refl hC.2.2.1 (by omega) _ fun b H3 e3 hI3 hb3 => ?_⟩
    have hC3 : Cw K W H1 (n + c) Dl (((ds.take i).filter p).map f) H3 := cw_on hC mD e3 hI3
    rw [tk, List.filter_append, List.map_append]
    subst hb3
    cases hp : p dd with
    | true =>
      show te _ H3 _
      refine he dd y H3 hm hp (e.trans (e1.trans (hC.2.1.trans e3))) (hy.mono e3) (n + c) H3 ExM.refl hI3 (by omega) _ fun z H4 e4 hI4 hz => ?_
      have := cw_put ⟨_, hI1⟩ (cw_on hC3 mD e4 hI4) hz (hn dd hm hp) lt
      rw [show List.filter p [dd] = [dd] by simp [hp]]
      exact this
    | false =>
      rw [show List.filter p [dd] = [] by simp [hp]]
      show Cw K W H1 (n + c) Dl _ H3
      simpa using hC3
  have st0 : ∀ Dl, H1 Dl = none → Cw K W H1 (n + c) Dl (((ds.take 0).filter p).map f) (upd H1 Dl (.lst [])) := fun Dl hD =>
    ⟨hD, .of (same_new hD), W.st (same_new hD) hI1, by simp [noLs], [], upd_same, by simpa using DaML.nil⟩
  have fin : ∀ Dl H', Cw K W H1 (n + c) Dl (((ds.take ds.length).filter p).map f) H' → Q (.ref Dl) H' := fun Dl H' hC => by
    rw [List.take_length] at hC
    obtain ⟨p1, p2, p3, p4, acc, p5, p6⟩ := hC
    exact q _ H' (e1.trans p2) p3 ⟨Dl, acc, rfl, W.fr hI1 p1, p5, p6⟩
  cases hx with
  | @lst a xs ds' hs' hl' =>
    cases hd
    refine ⟨a, rfl, .inl ⟨⟨xs, hs'.sq⟩, fun Dl hD => ?_⟩⟩
    refine lc_list (xs := xs) (fun i H' => Cw K W H1 (n + c) Dl (((ds'.take i).filter p).map f) H') (st0 Dl hD) (fun i H' _ hC => (LsS.mono hs' hC.2.1).sq) (fun i y H' hi hC => ?_) (fun H' hC => fin Dl H' (by have z := dal_len (W := W) hl'; rw [z] at hC; exact hC))
    obtain ⟨dd, h1, h2⟩ := dal_get (W := W) hl' hi
    exact step i dd y Dl H' (List.mem_of_getElem? h1) h1 (W.fr hI1 hD) (h2.mono hC.2.1) hC
  | @tup a xs ds' hs' hl' =>
    cases hd
    refine ⟨a, rfl, .inr ⟨⟨xs, hs'.sq⟩, fun Dl hD => ?_⟩⟩
    refine lc_tup (xs := xs) (fun i H' => Cw K W H1 (n + c) Dl (((ds'.take i).filter p).map f) H') (st0 Dl hD) (fun i H' _ hC => (TuS.mono hs' hC.2.1).sq) (fun i y H' hi hC => ?_) (fun H' hC => fin Dl H' (by have z := dal_len (W := W) hl'; rw [z] at hC; exact hC))
    obtain ⟨dd, h1, h2⟩ := dal_get (W := W) hl' hi
    exact step i dd y Dl H' (List.mem_of_getElem? h1) h1 (W.fr hI1 hD) (h2.mono hC.2.1) hC
  | _ => cases hs
theorem jd_lc {ds : List PyData} {d0 : PyData} {tl : TE} {tt : TT} {j : Nat} {vs : List Nat} (p : PyData → Bool) (f : PyData → PyData) (ha : JD K W tl σ H c d0) (hs : isSeq d0 = true) (hd : itemsD d0 = ds) (hl : ds.length < 100000) (hw : ∀ x, wipe ((wipe σ vs).set j (some x)) vs = wipe σ vs)
    (ht : ∀ d x H1, d ∈ ds → ExM W.M H H1 → Da K W H1 x d → JB K W tt ((wipe σ vs).set j (some x)) H1 0 (p d)) (he : ∀ d x H1, d ∈ ds → p d = true → ExM W.M H H1 → Da K W H1 x d → JD K W te ((wipe σ vs).set j (some x)) H1 0 (f d)) (hn : ∀ d, d ∈ ds → p d = true → noL (f d) = true) :
    JD K W (tLc (iSeq K tl) (gName j) tt te vs) σ H c (.list ((ds.filter p).map f)) := (jl_lc p f ha hs hd hl hw ht he hn).imp fun _ _ h => h.da
theorem jb_yes : JB K W tYes σ H 0 true := fun n H1 e hI _ Q q => q true H1 ExM.refl hI rfl
theorem jl_lc1 {ds : List PyData} {d0 : PyData} {tl : TE} {j : Nat} {vs : List Nat} (f : PyData → PyData) (ha : JD K W tl σ H c d0) (hs : isSeq d0 = true) (hd : itemsD d0 = ds) (hl : ds.length < 100000) (hw : ∀ x, wipe ((wipe σ vs).set j (some x)) vs = wipe σ vs)
    (he : ∀ d x H1, d ∈ ds → ExM W.M H H1 → Da K W H1 x d → JD K W te ((wipe σ vs).set j (some x)) H1 0 (f d)) (hn : ∀ d, d ∈ ds → noL (f d) = true) :
    J W (tLc (iSeq K tl) (gName j) tYes te vs) σ H c (fun v H2 => NewL K W H2 v (ds.map f)) := by
  have h := jl_lc (fun _ => true) f ha hs hd hl hw (fun _ _ _ _ _ _ => jb_yes) (fun d x H1 hm _ e hx => he d x H1 hm e hx) (fun d hm _ => hn d hm)
  rw [show List.filter (fun _ => true) ds = ds from List.filter_eq_self.mpr fun _ _ => rfl] at h
  exact h
theorem jd_lc1 {ds : List PyData} {d0 : PyData} {tl : TE} {j : Nat} {vs : List Nat} (f : PyData → PyData) (ha : JD K W tl σ H c d0) (hs : isSeq d0 = true) (hd : itemsD d0 = ds) (hl : ds.length < 100000) (hw : ∀ x, wipe ((wipe σ vs).set j (some x)) vs = wipe σ vs)
    (he : ∀ d x H1, d ∈ ds → ExM W.M H H1 → Da K W H1 x d → JD K W te ((wipe σ vs).set j (some x)) H1 0 (f d)) (hn : ∀ d, d ∈ ds → noL (f d) = true) :
    JD K W (tLc (iSeq K tl) (gName j) tYes te vs) σ H c (.list (ds.map f)) := by
  have h := jd_lc (fun _ => true) f ha hs hd hl hw (fun _ _ _ _ _ _ => jb_yes) (fun d x H1 hm _ e hx => he d x H1 hm e hx) (fun d hm _ => hn d hm)
  rw [show List.filter (fun _ => true) ds = ds from List.filter_eq_self.mpr fun _ _ => rfl] at h
  exact h
/-! all, any of truths; isinstance -/
theorem dal_bools : ∀ {bs : List Bool} {xs : List V}, DaL K W H xs (bs.map PyData.bool) → xs = bs.map V.bl
  | [], _, h => by cases h; rfl
  | b :: bs, _, h => by
    cases h with
    | cons h1 h2 => rw [Da.bl (W := W) h1, dal_bools h2]; rfl
theorem dal_ints : ∀ {bs : List Int} {xs : List V}, DaL K W H xs (bs.map PyData.int) → xs = bs.map V.int
  | [], _, h => by cases h; rfl
  | b :: bs, _, h => by
    cases h with
    | cons h1 h2 => rw [Da.int (W := W) h1, dal_ints h2]; rfl
theorem jd_all {t : TA} {bs : List Bool} (h : JDA K W t σ H c [.list (bs.map PyData.bool)]) : JD K W (tCB (rAll K) t) σ H c (.bool (bs.all id)) := jd_cb h fun vs n H1 _ hv Q q => by
  obtain ⟨x, rfl, hx⟩ := dal1 hv
  cases hx with
  | lst hs hl => exact ⟨_, bs, rfl, by rw [← dal_bools (W := W) hl]; exact hs.sq, q _ H1 (Same.refl _) da_bl⟩
def tyName : PyData → String
  | .none => "NoneType"
  | .bool _ => "bool"
  | .int _ => "int"
  | .str _ => "str"
  | .list _ => "list"
  | .tuple _ => "tuple"
  | .dict _ => "dict"
theorem da_ty (h : Da K W H v d) : TyX K H v (.type (tyName d)) := by
  cases h with
  | non => exact .base .non
  | bl b => exact .base (.bl b)
  | int i => exact .base (.int i)
  | str x => exact .base (.str x)
  | lst hs _ =>
    rcases hs with ⟨_, h | ⟨o, h⟩⟩ | ⟨o, its, n, h, hc, _⟩
    · exact .base (.lst h)
    · exact .base (.frz h)
    · exact .kList h hc
  | tup hs _ =>
    rcases hs with ⟨_, h | ⟨o, h⟩⟩ | ⟨o, its, n, h, hc, _⟩
    · exact .base (.tup h)
    · exact .fTuple h
    · exact .kTuple h hc
theorem jd_isi {n : String} {b : Bool} (ha : JD K W ta σ H c d) (hk : kitB (tyName d) n = some b) : JD K W (tCB (rIsi K) (tCons ta (tCons (tC (.ty n)) tNil))) σ H c (.bool b) := fun m H1 e hI hb Q q =>
  ha m H1 e hI hb _ fun x H2 e2 hI2 hx => ⟨x, .ty n, _, _, b, rfl, .ty n, da_ty hx, kit_ty hk, q _ H2 e2 hI2 da_bl⟩
/-- isinstance(x, (n1, n2)) -/
theorem jd_isi2 {n1 n2 : String} {b1 b2 : Bool} (ha : JD K W ta σ H c d) (hk1 : kitB (tyName d) n1 = some b1) (hk2 : kitB (tyName d) n2 = some b2) :
    JD K W (tCB (rIsiT K) (tCons ta (tCons (tTup (tCons (tC (.ty n1)) (tCons (tC (.ty n2)) tNil))) tNil))) σ H c (.bool (b1 || b2)) := fun m H1 e hI hb Q q =>
  ha m H1 e hI hb _ fun x H2 e2 hI2 hx => ⟨(by decide : 2 ≤ sizeLine), fun p hp => ⟨x, p, [.ty n1, .ty n2], _, [.type n1, .type n2], b1 || b2, rfl, upd_same, .cons (.ty n1) (.cons (.ty n2) .nil), da_ty (hx.mono (.of (same_new hp))),
    kitAny_cons (kit_ty hk1) (fun e => kitAny_cons (kit_ty hk2) (fun e2 => by rw [e, e2]; exact kitAny_nil) (fun e2 => by rw [e2]; simp)) (fun e => by rw [e]; rfl),
    q _ _ (e2.trans (.of (same_new hp))) (W.st (same_new hp) hI2) da_bl⟩⟩
def isI : PyData → Bool
  | .int _ => true
  | _ => false
def isB : PyData → Bool
  | .bool _ => true
  | _ => false
theorem kit_int : kitB (tyName d) "int" = some (isI d || isB d) := by
  cases d with
  | none => exact (by decide +kernel : kitB "NoneType" "int" = some false)
  | bool _ => exact (by decide +kernel : kitB "bool" "int" = some true)
  | int _ => exact (by decide +kernel : kitB "int" "int" = some true)
  | str _ => exact (by decide +kernel : kitB "str" "int" = some false)
  | list _ => exact (by decide +kernel : kitB "list" "int" = some false)
  | tuple _ => exact (by decide +kernel : kitB "tuple" "int" = some false)
  | dict _ => exact (by decide +kernel : kitB "dict" "int" = some false)
theorem kit_bool : kitB (tyName d) "bool" = some (isB d) := by
  cases d with
  | none => exact (by decide +kernel : kitB "NoneType" "bool" = some false)
  | bool _ => exact (by decide +kernel : kitB "bool" "bool" = some true)
  | int _ => exact (by decide +kernel : kitB "int" "bool" = some false)
  | str _ => exact (by decide +kernel : kitB "str" "bool" = some false)
  | list _ => exact (by decide +kernel : kitB "list" "bool" = some false)
  | tuple _ => exact (by decide +kernel : kitB "tuple" "bool" = some false)
  | dict _ => exact (by decide +kernel : kitB "dict" "bool" = some false)
def isLst : PyData → Bool
  | .list _ => true
  | _ => false
def isTup : PyData → Bool
  | .tuple _ => true
  | _ => false
theorem kit_list : kitB (tyName d) "list" = some (isLst d) := by
  cases d with
  | none => exact (by decide +kernel : kitB "NoneType" "list" = some false)
  | bool _ => exact (by decide +kernel : kitB "bool" "list" = some false)
  | int _ => exact (by decide +kernel : kitB "int" "list" = some false)
  | str _ => exact (by decide +kernel : kitB "str" "list" = some false)
  | list _ => exact (by decide +kernel : kitB "list" "list" = some true)
  | tuple _ => exact (by decide +kernel : kitB "tuple" "list" = some false)
  | dict _ => exact (by decide +kernel : kitB "dict" "list" = some false)
theorem kit_tuple : kitB (tyName d) "tuple" = some (isTup d) := by
  cases d with
  | none => exact (by decide +kernel : kitB "NoneType" "tuple" = some false)
  | bool _ => exact (by decide +kernel : kitB "bool" "tuple" = some false)
  | int _ => exact (by decide +kernel : kitB "int" "tuple" = some false)
  | str _ => exact (by decide +kernel : kitB "str" "tuple" = some false)
  | list _ => exact (by decide +kernel : kitB "list" "tuple" = some false)
  | tuple _ => exact (by decide +kernel : kitB "tuple" "tuple" = some true)
  | dict _ => exact (by decide +kernel : kitB "dict" "tuple" = some false)
theorem seq_or : (isLst d || isTup d) = isSeq d := by cases d <;> rfl
/-- // by any divisor but 0 below 2 ^ 9000 -/
def CDivA (_ j : Int) : Prop := j ≠ 0 ∧ j.natAbs.log2 < 9000
theorem op_fdivA {X : Cx} : OpR X (binaryOp .FloorDiv) (rI CDivA fun i j => .int (i.fdiv j)) := opI fun i j _ _ _ _ _ hc q => PyProof.Rows.floordiv_int hc.1 q (.inl (PyProof.noPylong_of_log2 hc.2))
theorem jd_ix {i : Int} {d0 : PyData} (ha : JD K W ta σ H c1 d0) (hb : JD K W tb σ H c2 (.int i)) (hs : isSeq d0 = true) (he : atI (itemsD d0) i = some d) : JD K W (tOp (rIx K) ta tb) σ H (c1 + c2) d :=
  jd_op ha hb fun x y n H1 _ hx hy Q q => by
    cases hx with
    | tup h1 hl =>
      obtain ⟨z, ez, dz⟩ := dal_atI (W := W) hl he
      exact .inr (.inl ⟨_, _, i, z, rfl, hy.int, h1.sq, ez, q z H1 (Same.refl _) dz⟩)
    | lst h1 hl =>
      obtain ⟨z, ez, dz⟩ := dal_atI (W := W) hl he
      exact .inl ⟨_, _, i, z, rfl, hy.int, h1.sq, ez, q z H1 (Same.refl _) dz⟩
    | _ => cases hs
theorem pure_ret {r : PyData} {H0 : Hp} {D : Ends} (e : ExM W0.M H0 H) (q : ∀ v H', Same H0 H' → Dp K H' v r → D.rt v H') (h : JD K W0 te σ H c r) (hc : c ≤ BIG) : tRet te D σ H :=
  h 0 H ExM.refl trivial (by omega) _ fun v H1 e1 _ hv => q v H1 (ex0 (e.trans e1)) (Da.dp hv)
theorem st_if0 {D : Ends} {tt : TT} {ts tr : TS} {b : Bool} (h : JB K W0 tt σ H c b) (hc : c ≤ BIG) (k1 : b = true → ∀ H1, ExM W0.M H H1 → ts D σ H1) (k2 : b = false → ∀ H1, ExM W0.M H H1 → tr D σ H1) : tIfS tt ts tr D σ H :=
  st_if (n := 0) trivial h (by omega) (fun e H1 x _ => k1 e H1 x) (fun e H1 x _ => k2 e H1 x)
theorem st_set0 {D : Ends} {i : Nat} {P : V → Hp → Prop} (h : J W0 te σ H c P) (hc : c ≤ BIG) (k : ∀ v H1, ExM W0.M H H1 → P v H1 → D.nx (σ.set i (some v)) H1) : tAsg te (gName i) D σ H :=
  st_set (n := 0) trivial h (by omega) (fun v H1 x _ p => k v H1 x p)
theorem JB.at {tt : TT} {a b : Bool} (h : JB K W tt σ H c a) (x : a = b) : JB K W tt σ H c b := x ▸ h
/-- every pure value by a known one -/
theorem isD_len {ds : List PyData} {vs : List V} (h : DpAll K H vs ds) : vs.length = ds.length := dal_len (W := W0) (dpl0 ds vs h)
theorem jd0 {e : PyData} (h : JD K W te σ H c d) (x : d = e) (hc : c ≤ c1) : JD K W te σ H c1 e := J.le (x ▸ h) hc
theorem st_ifn {D : Ends} {tt : TT} {ts : TS} {b : Bool} (h : JB K W0 tt σ H c b) (hc : c ≤ BIG) (k1 : b = true → ∀ H1, ExM W0.M H H1 → ts D σ H1) (k2 : b = false → ∀ H1, ExM W0.M H H1 → D.nx σ H1) : tIfS tt ts tNext D σ H :=
  st_if0 h hc k1 k2
theorem st_next {D : Ends} (h : D.nx σ H) : tNext D σ H := h
theorem st_nx {t : St → Hp → Prop} {rt : VK} {bk ct : St → Hp → Prop} (h : t σ H) : tNext { nx := t, rt := rt, bk := bk, ct := ct } σ H := h
theorem nx_mk {t : St → Hp → Prop} {rt : VK} {bk ct : St → Hp → Prop} (h : t σ H) : Ends.nx { nx := t, rt := rt, bk := bk, ct := ct } σ H := h
theorem seq_hyp {d : PyData} (h : (!(isLst d || isTup d)) = false) : isSeq d = true := by
  rw [seq_or] at h; revert h; cases isSeq d <;> simp
/-! slices of lists -/
def JO (W : Wd) (to : TO) (σ : St) (H : Hp) (c : Nat) (o : Option Int) : Prop :=
  ∀ n H1, ExM W.M H H1 → W.I n H1 → n + c ≤ BIG → ∀ Q : Option Int → Hp → Prop, (∀ H2, ExM W.M H1 H2 → W.I (n + c) H2 → Q o H2) → to σ H1 Q
theorem jo_no : JO W tNoPart σ H 0 none := fun n H1 _ hI _ Q q => q H1 ExM.refl hI
theorem jo_int {i : Int} (h : JD K W te σ H c (.int i)) : JO W (tPart te) σ H c (some i) := fun n H1 e hI hn Q q => h n H1 e hI hn _ fun v H2 e2 hI2 hv => ⟨i, hv.int, q H2 e2 hI2⟩
def cutD (ds : List PyData) (lo hi : Option Int) : List PyData := (ds.drop (HT.sIx ds.length 0 lo)).take (HT.sIx ds.length ds.length hi - HT.sIx ds.length 0 lo)
theorem dal_drop : ∀ (k : Nat) {xs : List V} {ds : List PyData}, DaL K W H xs ds → DaL K W H (xs.drop k) (ds.drop k)
  | 0, _, _, h => h
  | k + 1, _, _, .nil => .nil
  | k + 1, _, _, .cons _ t => dal_drop k t
theorem dal_take : ∀ (k : Nat) {xs : List V} {ds : List PyData}, DaL K W H xs ds → DaL K W H (xs.take k) (ds.take k)
  | 0, _, _, _ => .nil
  | k + 1, _, _, .nil => .nil
  | k + 1, _, _, .cons h t => .cons h (dal_take k t)
theorem dal_cut {xs : List V} {ds : List PyData} {lo hi : Option Int} (h : DaL K W H xs ds) : DaL K W H (cutV xs lo hi) (cutD ds lo hi) := by
  unfold cutV cutD
  rw [dal_len h]
  exact dal_take _ (dal_drop _ h)
theorem jd_slL {ds : List PyData} {lo hi : Option Int} {tl th : TO} {c3 : Nat} (ha : JD K W ta σ H c1 (.list ds)) (h1 : JO W tl σ H c2 lo) (h2 : JO W th σ H c3 hi) : JD K W (tSl (rSlL K) ta tl th) σ H (c1 + c2 + c3) (.list (cutD ds lo hi)) := fun n H1 e hI hn Q q =>
  ha n H1 e hI (by omega) _ fun x H2 e2 hI2 hx => h1 (n + c1) H2 (e.trans e2) hI2 (by omega) _ fun H3 e3 hI3 => h2 (n + c1 + c2) H3 (e.trans (e2.trans e3)) hI3 (by omega) _ fun H4 e4 hI4 => by
    cases hx with
    | @lst a xs _ hs hl =>
      refine ⟨a, xs, rfl, (hs.mono (e3.trans e4)).sq, fun p hp => ?_⟩
      have s := same_new (o := .lst (cutV xs lo hi)) hp
      refine q _ _ (e2.trans (e3.trans (e4.trans (.of s)))) ?_ (da_lst (W.fr hI4 hp) upd_same (dal_cut (DaL.mono (W := W) hl (e3.trans (e4.trans (.of s))))))
      rw [show n + (c1 + c2 + c3) = n + c1 + c2 + c3 by omega]
      exact W.st s hI4
theorem cutD_to (ds : List PyData) (k : Nat) : cutD ds none (some (k : Int)) = ds.take k := by
  unfold cutD
  rw [HT.sIx_nat, HT.sIx_none, List.drop_zero, Nat.sub_zero]
  rcases Nat.le_total k ds.length with h | h
  · rw [Nat.min_eq_left h]
  · rw [Nat.min_eq_right h, List.take_length, List.take_of_length_le h]
end Jl

set_option Elab.async false
set_option linter.all false
/-! fractions: pairs and Lean's own rationals; sizes -/
namespace Jl
open PySem L2
/-- the data of a fraction -/
def frL (q : Rat) : List PyData := [.int q.num, .int q.den]
def frD (q : Rat) : PyData := .tuple (frL q)
/-- a fraction as a list or as a tuple -/
def isFr (d : PyData) (q : Rat) : Prop := isSeq d = true ∧ itemsD d = frL q
theorem isFr_D (q : Rat) : isFr (frD q) q := ⟨rfl, rfl⟩
theorem frD_noL (q : Rat) : noL (frD q) = true := rfl
/-- below 2 ^ n, above and below the line -/
def Bd (q : Rat) (n : Nat) : Prop := q.num.natAbs < 2 ^ n ∧ q.den < 2 ^ n
theorem Bd.mono {q : Rat} {n m : Nat} (h : Bd q n) (l : n ≤ m) : Bd q m :=
  ⟨Nat.lt_of_lt_of_le h.1 (Nat.pow_le_pow_right (by decide) l), Nat.lt_of_lt_of_le h.2 (Nat.pow_le_pow_right (by decide) l)⟩
/-- what least_pair tells -/
def lp (up down : Int) : PyData := .tuple [.int (up.fdiv (if down > 0 then (Nat.gcd up.natAbs down.natAbs : Nat) else -(Nat.gcd up.natAbs down.natAbs : Nat))), .int (down.fdiv (if down > 0 then (Nat.gcd up.natAbs down.natAbs : Nat) else -(Nat.gcd up.natAbs down.natAbs : Nat)))]
theorem fdiv_neg_dvd {a g : Int} (h : g ∣ a) (h0 : g ≠ 0) : a.fdiv (-g) = -(a / g) := by
  rw [Int.fdiv_eq_ediv_of_dvd (Int.neg_dvd.mpr h), Int.ediv_neg]
theorem lp_eq (up down : Int) (h : down ≠ 0) : lp up down = frD (Rat.divInt up down) := by
  have hg : (Nat.gcd up.natAbs down.natAbs : Int) = (Int.gcd down up : Int) := by
    rw [Nat.gcd_comm]; rfl
  have g0 : (Int.gcd down up : Int) ≠ 0 := by
    intro e
    have e2 : Int.gcd down up = 0 := by exact_mod_cast e
    rw [Int.gcd_eq_zero_iff] at e2
    exact h e2.1
  have d1 : (Int.gcd down up : Int) ∣ up := Int.gcd_dvd_right ..
  have d2 : (Int.gcd down up : Int) ∣ down := Int.gcd_dvd_left ..
  unfold lp frD frL
  rw [hg, Rat.num_divInt, Rat.den_divInt, if_neg h]
  by_cases hp : down > 0
  · rw [if_pos hp, Int.fdiv_eq_ediv_of_dvd d1, Int.fdiv_eq_ediv_of_dvd d2, Int.sign_eq_one_of_pos hp, Int.one_mul]
    congr 3
    rw [Int.natCast_ediv, Int.natAbs_of_nonneg (by omega)]
  · rw [if_neg hp, fdiv_neg_dvd d1 g0, fdiv_neg_dvd d2 g0, Int.sign_eq_neg_one_of_neg (by omega)]
    congr 3
    · rw [Int.neg_mul, Int.one_mul, Int.neg_ediv_of_dvd d1]
    · rw [Int.natCast_ediv, Int.ofNat_natAbs_of_nonpos (by omega), Int.neg_ediv_of_dvd d2]
theorem add_lp (p q : Rat) : Rat.divInt (p.num * q.den + q.num * p.den) (p.den * q.den) = p + q := by
  rw [Rat.add_def', ← Int.natCast_mul, Rat.divInt_ofNat]
theorem mul_lp (p q : Rat) : Rat.divInt (p.num * q.num) (p.den * q.den) = p * q := by
  rw [Rat.mul_def', ← Int.natCast_mul, Rat.divInt_ofNat]
theorem lt_lp (p q : Rat) : decide (p.num * q.den < q.num * p.den) = decide (p < q) := by
  rw [decide_eq_decide, Rat.lt_iff]
theorem den_ne (q : Rat) : (q.den : Int) ≠ 0 := by have := q.den_pos; omega
theorem mul_ne {a b : Int} (h : a ≠ 0) (h2 : b ≠ 0) : a * b ≠ 0 := by
  intro e; rcases Int.mul_eq_zero.mp e with e | e
  · exact h e
  · exact h2 e
/-- sizes of sums and products -/
theorem natAbs_div_le (a : Int) (n : Nat) : (a / (n : Int)).natAbs ≤ a.natAbs ∨ ¬ ((n : Int) ∣ a) := by
  by_cases h : (n : Int) ∣ a
  · left
    rw [Int.natAbs_ediv_of_dvd h]
    exact Nat.div_le_self _ _
  · exact .inr h
theorem num_le (a : Int) (b : Int) (h : 0 < b) : (Rat.divInt a b).num.natAbs ≤ a.natAbs ∧ (Rat.divInt a b).den ≤ b.natAbs := by
  rw [Rat.num_divInt, Rat.den_divInt, if_neg (by omega), Int.sign_eq_one_of_pos h, Int.one_mul]
  refine ⟨?_, Nat.div_le_self _ _⟩
  rcases natAbs_div_le a (b.gcd a) with h | h
  · exact h
  · exact absurd (Int.gcd_dvd_right ..) h
theorem pow_mul_lt {a b n m : Nat} (ha : a < 2 ^ n) (hb : b < 2 ^ m) : a * b < 2 ^ (n + m) := by
  rw [Nat.pow_add]; exact Nat.mul_lt_mul'' ha hb
theorem Bd.mul {p q : Rat} {n m : Nat} (hp : Bd p n) (hq : Bd q m) : Bd (p * q) (n + m) := by
  have h := num_le (p.num * q.num) (p.den * q.den) (by have := p.den_pos; have := q.den_pos; exact Int.mul_pos (by omega) (by omega))
  rw [mul_lp] at h
  refine ⟨Nat.lt_of_le_of_lt h.1 ?_, Nat.lt_of_le_of_lt h.2 ?_⟩
  · rw [Int.natAbs_mul]; exact pow_mul_lt hp.1 hq.1
  · rw [Int.natAbs_mul]; exact pow_mul_lt hp.2 hq.2
theorem Bd.add {p q : Rat} {n m : Nat} (hp : Bd p n) (hq : Bd q m) : Bd (p + q) (n + m + 1) := by
  have h := num_le (p.num * q.den + q.num * p.den) (p.den * q.den) (by have := p.den_pos; have := q.den_pos; exact Int.mul_pos (by omega) (by omega))
  rw [add_lp] at h
  refine ⟨Nat.lt_of_le_of_lt h.1 ?_, Nat.lt_of_le_of_lt h.2 ?_⟩
  · have h1 := Int.natAbs_add_le (p.num * q.den) (q.num * p.den)
    have h2 : (p.num * q.den).natAbs < 2 ^ (n + m) := by rw [Int.natAbs_mul]; exact pow_mul_lt hp.1 hq.2
    have h3 : (q.num * p.den).natAbs < 2 ^ (n + m) := by rw [Int.natAbs_mul, Nat.add_comm n m]; exact pow_mul_lt hq.1 hp.2
    rw [Nat.pow_succ]; omega
  · rw [Int.natAbs_mul, Nat.pow_succ]
    have := pow_mul_lt hp.2 hq.2
    have e : (p.den : Int).natAbs * (q.den : Int).natAbs = p.den * q.den := rfl
    omega
theorem Bd.neg {p : Rat} {n : Nat} (hp : Bd p n) : Bd (-p) n := by
  refine ⟨?_, hp.2⟩
  rw [Rat.neg_num, Int.natAbs_neg]; exact hp.1
theorem Bd.sub {p q : Rat} {n m : Nat} (hp : Bd p n) (hq : Bd q m) : Bd (p - q) (n + m + 1) := by
  rw [Rat.sub_eq_add_neg]; exact hp.add hq.neg
/-- equal data of fractions: equal fractions -/
theorem fr_inj {p q : Rat} (h : frD p = frD q) : p = q := by
  unfold frD frL at h
  injection h with h
  injection h with h1 h2
  injection h2 with h2 _
  injection h1 with h1
  injection h2 with h2
  exact Rat.ext h1 (by omega)
theorem eqv_fr (p q : Rat) : PyData.eqv (frD p) (frD q) = decide (p = q) := by
  have : PyData.eqv (frD p) (frD q) = (decide (p.num = q.num) && decide (p.den = q.den)) := by
    unfold frD frL
    simp only [PyData.eqv, PyData.eqvAll, Bool.and_true]
    congr 1
    rw [Bool.eq_iff_iff, beq_iff_eq, decide_eq_true_iff]
    omega
  rw [this]
  by_cases h : p = q
  · subst h; simp
  · rw [decide_eq_false h, Bool.and_eq_false_iff]
    by_cases h1 : p.num = q.num
    · right
      rw [decide_eq_false_iff_not]
      exact fun h2 => h (Rat.ext h1 h2)
    · left; exact decide_eq_false h1
theorem shaped_fr (p : Rat) : SeqAt.shaped (frD p) = true := by
  unfold frD frL
  simp [SeqAt.shaped, PyData.depth, PyData.depthAll, PyData.canLay0, PyData.canLayAll0]
theorem isFr_seq {d : PyData} {q : Rat} (h : isFr d q) : isSeq d = true := h.1
theorem at0 {d : PyData} {q : Rat} (h : isFr d q) : atI (itemsD d) 0 = some (.int q.num) := by rw [h.2]; rfl
theorem at1 {d : PyData} {q : Rat} (h : isFr d q) : atI (itemsD d) 1 = some (.int q.den) := by rw [h.2]; rfl
theorem cmulw {i j : Int} (hi : i.natAbs < 2 ^ 4000) (hj : j.natAbs < 2 ^ 4000) : CMulW i j := wide_mul hi hj (by decide) (by decide) (by decide)
def leD : PyData → PyData → Bool
  | .int i, .int j => decide (i ≤ j)
  | _, _ => false
def within (d lo hi : PyData) : Bool := isI d && ((isNoneD lo || leD lo d) && (isNoneD hi || leD d hi))
def areI (d : PyData) (n : Int) : Bool := isSeq d && decide ((lenD d : Int) = n) && (itemsD d).all isI
theorem areI2 {d : PyData} (h : areI d 2 = true) : ∃ a b, isSeq d = true ∧ itemsD d = [.int a, .int b] := by
  unfold areI at h
  simp only [Bool.and_eq_true, decide_eq_true_eq] at h
  obtain ⟨⟨h1, h2⟩, h3⟩ := h
  have key : ∀ ds : List PyData, (ds.length : Int) = 2 → ds.all isI = true → ∃ a b, ds = [.int a, .int b] := by
    intro ds hl ha
    match ds, hl, ha with
    | [x, y], _, ha =>
      simp only [List.all_cons, List.all_nil, Bool.and_true, Bool.and_eq_true] at ha
      cases x <;> cases y <;> first | exact ⟨_, _, rfl⟩ | (simp [isI] at ha)
  cases d with
  | list ds => obtain ⟨a, b, e⟩ := key ds h2 h3; exact ⟨a, b, rfl, e⟩
  | tuple ds => obtain ⟨a, b, e⟩ := key ds h2 h3; exact ⟨a, b, rfl, e⟩
  | _ => cases h1
theorem areI_pair {d : PyData} {a b : Int} (h : isSeq d = true) (e : itemsD d = [.int a, .int b]) : areI d 2 = true := by
  cases d with
  | list ds => cases e; rfl
  | tuple ds => cases e; rfl
  | _ => cases h
/-- whether any value tells a fraction -/
def isFrB (d : PyData) : Bool := match itemsD d with
  | [.int a, .int b] => isSeq d && (decide (0 < b) && decide ((Nat.gcd a.natAbs b.natAbs : Int) = 1))
  | _ => false
theorem isFrB_of {d : PyData} {q : Rat} (h : isFr d q) : isFrB d = true := by
  unfold isFrB
  rw [h.2]
  simp only [frL, h.1, Bool.true_and, Bool.and_eq_true, decide_eq_true_eq]
  refine ⟨by have := q.den_pos; omega, ?_⟩
  have := q.reduced
  exact_mod_cast this
theorem isFrB_pair {d : PyData} {a b : Int} (h : isSeq d = true) (e : itemsD d = [.int a, .int b]) : isFrB d = (decide (0 < b) && decide ((Nat.gcd a.natAbs b.natAbs : Int) = 1)) := by
  unfold isFrB; rw [e, h]; rfl
theorem isFrB_not {d : PyData} (h : areI d 2 = false) : isFrB d = false := by
  unfold isFrB
  split
  · rename_i a b e
    by_cases hs : isSeq d = true
    · rw [areI_pair hs e] at h; cases h
    · rw [Bool.not_eq_true] at hs; rw [hs]; rfl
  · rfl
theorem isFr_of {d : PyData} (h : isFrB d = true) : ∃ q, isFr d q := by
  unfold isFrB at h
  split at h
  · rename_i a b e
    simp only [Bool.and_eq_true, decide_eq_true_eq] at h
    obtain ⟨h1, h2, h3⟩ := h
    refine ⟨⟨a, b.toNat, by omega, ?_⟩, h1, ?_⟩
    · have : b.natAbs = b.toNat := by omega
      rw [← this]; show Nat.gcd _ _ = 1; exact_mod_cast h3
    · rw [e]; unfold frL
      have : ((b.toNat : Nat) : Int) = b := by omega
      simp [this]
  · cases h
theorem gcd_small {u w : Int} (hw : w ≠ 0) (h : w.natAbs < 2 ^ 8999) (x : Int) : CDivA x (if w > 0 then (Nat.gcd u.natAbs w.natAbs : Nat) else -(Nat.gcd u.natAbs w.natAbs : Nat)) := by
  have h1 : Nat.gcd u.natAbs w.natAbs ≤ w.natAbs := Nat.gcd_le_right _ (by omega)
  have h0 : 0 < Nat.gcd u.natAbs w.natAbs := Nat.gcd_pos_of_pos_right _ (by omega)
  have h2 : (if w > 0 then ((Nat.gcd u.natAbs w.natAbs : Nat) : Int) else -(Nat.gcd u.natAbs w.natAbs : Nat)).natAbs = Nat.gcd u.natAbs w.natAbs := by split <;> omega
  refine ⟨?_, ?_⟩
  · intro e; rw [e] at h2; simp at h2; omega
  · rw [h2]
    have := PySem.Flt.log2_lt_of (k := 8999) (by decide) (Nat.lt_of_le_of_lt h1 h)
    omega
theorem den_small {p q : Rat} (hp : Bd p 4000) (hq : Bd q 4000) : ((p.den : Int) * q.den).natAbs < 2 ^ 8999 := by
  rw [Int.natAbs_mul]
  exact Nat.lt_of_lt_of_le (pow_mul_lt hp.2 hq.2) (Nat.pow_le_pow_right (by decide) (by decide))
theorem num_le' (a : Int) (b : Int) (h : b ≠ 0) : (Rat.divInt a b).num.natAbs ≤ a.natAbs ∧ (Rat.divInt a b).den ≤ b.natAbs := by
  rcases Int.lt_or_gt_of_ne h with h1 | h1
  · have e : Rat.divInt a b = Rat.divInt (-a) (-b) := (Rat.neg_divInt_neg a b).symm
    rw [e]
    have := num_le (-a) (-b) (by omega)
    rw [Int.natAbs_neg, Int.natAbs_neg] at this
    exact this
  · exact num_le a b h1
theorem isFr_01 : isFr (.tuple [.int 0, .int 1]) 0 := ⟨rfl, rfl⟩
theorem isFr_11 : isFr (.tuple [.int 1, .int 1]) 1 := ⟨rfl, rfl⟩
theorem isFr_m11 : isFr (.tuple [.int (-1), .int 1]) (-1) := ⟨rfl, rfl⟩
theorem frD_0 : PyData.tuple [.int 0, .int 1] = frD 0 := rfl
theorem frD_1 : PyData.tuple [.int 1, .int 1] = frD 1 := rfl
theorem bd_0 : Bd 0 1 := ⟨by decide, by decide⟩
theorem bd_1 : Bd 1 1 := ⟨by decide, by decide⟩
theorem bd_m1 : Bd (-1) 1 := ⟨by decide, by decide⟩
theorem bd_le {q : Rat} {n : Nat} (h : Bd q n) (l : n ≤ 4000) : Bd q 4000 := h.mono l
theorem eqv_fr0 (p : Rat) : PyData.eqv (frD p) (.tuple [.int 0, .int 1]) = decide (p = 0) := eqv_fr p 0
theorem eqv_fr1 (p : Rat) : PyData.eqv (frD p) (.tuple [.int 1, .int 1]) = decide (p = 1) := eqv_fr p 1
theorem shaped_0 : SeqAt.shaped (.tuple [.int 0, .int 1]) = true := rfl
theorem shaped_1 : SeqAt.shaped (.tuple [.int 1, .int 1]) = true := rfl
/-- the three of one order -/
theorem count3 (p q : Rat) : ((([decide (p < q), decide (q < p), decide (p = q)] : List Bool).count true : Nat) : Int) = 1 := by
  rcases Classical.em (p = q) with h | h
  · subst h
    have : ¬ p < p := Rat.lt_irrefl
    simp [this]
  · by_cases h1 : p < q
    · have h2 : ¬ q < p := fun h2 => Rat.not_lt.mpr (Rat.le_of_lt h2) h1
      simp [h1, h2, h]
    · have h2 : q < p := Rat.lt_of_le_of_ne (Rat.not_lt.mp h1) (Ne.symm h)
      simp [h1, h2, h]

/-! the order's laws -/
theorem ord1 (p q r : Rat) : (!decide (decide (p + r < q + r) = decide (p < q)) || !decide (decide (0 - q < 0 - p) = decide (p < q))) = false := by
  have h1 : (p + r < q + r) ↔ p < q := Rat.add_lt_add_right
  have h2 : (0 - q < 0 - p) ↔ p < q := by
    rw [Rat.sub_eq_add_neg, Rat.sub_eq_add_neg, Rat.zero_add, Rat.zero_add]; exact Rat.neg_lt_neg_iff
  simp [h1, h2]
theorem ord2 (p q r : Rat) : (decide (p < q) && (decide (q < r) && !decide (p < r))) = false := by
  by_cases h1 : p < q
  · by_cases h2 : q < r
    · have h3 : p < r := by
        rcases Rat.lt_iff_le_and_ne.mp h1 with ⟨a1, a2⟩
        rcases Rat.lt_iff_le_and_ne.mp h2 with ⟨b1, b2⟩
        refine Rat.lt_of_le_of_ne (Rat.le_trans a1 b1) fun e => ?_
        subst e
        exact a2 (Rat.le_antisymm a1 b1)
      simp [h3]
    · simp [h2]
  · simp [h1]
theorem ord3 (p q r : Rat) : decide (decide (p * (r * r) < q * (r * r)) = (decide (p < q) && !decide (r = 0))) = true := by
  by_cases h : r = 0
  · subst h
    simp [Rat.mul_zero]
  · have hp : 0 < r * r := by
      rcases Classical.em (r < 0) with h1 | h1
      · have h2 : 0 < -r := by
          have := Rat.neg_lt_neg h1
          simpa using this
        have h3 := Rat.mul_pos h2 h2
        rw [Rat.neg_mul, Rat.mul_neg, Rat.neg_neg] at h3
        exact h3
      · have h2 : 0 < r := Rat.lt_of_le_of_ne (Rat.not_lt.mp h1) (Ne.symm h)
        exact Rat.mul_pos h2 h2
    have h3 : (p * (r * r) < q * (r * r)) ↔ p < q := Rat.mul_lt_mul_right hp
    simp [h3, h]

/-! lists of fractions -/
theorem eqvAll_frs : ∀ ps qs : List Rat, PyData.eqvAll (ps.map frD) (qs.map frD) = decide (ps = qs)
  | [], [] => by simp [PyData.eqvAll]
  | [], _ :: _ => by simp [PyData.eqvAll]
  | _ :: _, [] => by simp [PyData.eqvAll]
  | p :: ps, q :: qs => by
    have ih := eqvAll_frs ps qs
    show (PyData.eqv (frD p) (frD q) && PyData.eqvAll (ps.map frD) (qs.map frD)) = _
    rw [ih, eqv_fr]
    by_cases h : p = q <;> by_cases h2 : ps = qs <;> simp [h, h2]
theorem eqv_frs (ps qs : List Rat) : PyData.eqv (.list (ps.map frD)) (.list (qs.map frD)) = decide (ps = qs) := eqvAll_frs ps qs
theorem shaped_frs (ps : List Rat) : SeqAt.shaped (.list (ps.map frD)) = true := by
  have h1 : ∀ ps : List Rat, PyData.canLayAll0 (ps.map frD) = true := fun ps => by
    induction ps with
    | nil => rfl
    | cons x r ih =>
      show (PyData.canLay0 (frD x) && PyData.canLayAll0 (r.map frD)) = true
      rw [ih]; rfl
  have h2 : ∀ ps : List Rat, PyData.depthAll (ps.map frD) ≤ 1 := fun ps => by
    induction ps with
    | nil => exact Nat.zero_le _
    | cons x r ih =>
      show max (PyData.depth (frD x)) (PyData.depthAll (r.map frD)) ≤ 1
      have : PyData.depth (frD x) = 1 := rfl
      omega
  have h3 := h2 ps
  show (PyData.canLayAll0 (ps.map frD) && decide (PyData.depthAll (ps.map frD) + 1 ≤ 64)) = true
  rw [h1, Bool.true_and, decide_eq_true_eq]
  omega
theorem filter_frs (ps : List Rat) : (ps.map frD).filter (fun d => !isFrB d || !isTup d) = [] := by
  rw [List.filter_eq_nil_iff]
  intro d hd
  obtain ⟨x, _, rfl⟩ := List.mem_map.mp hd
  rw [isFrB_of (isFr_D x)]
  simp [isTup, frD]
theorem sub_add (p q : Rat) : p + q - q = p := Rat.add_sub_cancel
theorem sub_sub (p q : Rat) : p - (p - q) = q := by
  rw [Rat.sub_eq_add_neg p (p - q), Rat.neg_sub, Rat.sub_eq_add_neg, Rat.add_comm q, ← Rat.add_assoc, Rat.add_neg_cancel, Rat.zero_add]
theorem inv_lp (p : Rat) : Rat.divInt (p.den : Int) p.num = p⁻¹ := (Rat.inv_def p).symm
theorem bd_inv {p : Rat} {n : Nat} (h : Bd p n) (h0 : p.num ≠ 0) : Bd (Rat.divInt (p.den : Int) p.num) n := by
  have hb := num_le' (p.den : Int) p.num h0
  exact ⟨Nat.lt_of_le_of_lt hb.1 h.2, Nat.lt_of_le_of_lt hb.2 h.1⟩
theorem neg1_add (p : Rat) : p + -1 * p = 0 := by
  rw [Rat.neg_mul, Rat.one_mul, Rat.add_neg_cancel]
end Jl

set_option Elab.async false
set_option linter.all false
set_option maxRecDepth 100000
set_option maxHeartbeats 2000000
/-! drawing: the list that is drawn from (at b: its cells at c, how many were begun, what is left), ints that are not known, picks, loops -/
namespace Jl
open PySem PySem.Spec L2
/-- the list at b, its cells at c -/
def Sat (b c : Addr) (n : Nat) (H : Hp) : Prop := ∃ (at' rest : Int) (cs : List Int), H b = some (.lst [.ref c, .int at', .int rest]) ∧ H c = some (.lst (cs.map V.int)) ∧ 0 ≤ at' ∧ at' ≤ n ∧ 0 ≤ rest ∧ cs.length ≤ 60
def satW (b c : Addr) : Wd where
  M := fun a => a = b
  F := fun a => a = b ∨ a = c
  I := Sat b c
  mf := fun h => .inl h
  sf := fun s ⟨a, r, cs, h1, h2, h3⟩ => ⟨a, r, cs, by rw [s b (.inl rfl)]; exact h1, by rw [s c (.inr rfl)]; exact h2, h3⟩
  al := fun ⟨a, r, cs, h1, h2, h3⟩ f => by
    rcases f with rfl | rfl
    · rw [h1]; simp
    · rw [h2]; simp
  ml := fun {n H a} ⟨p, r, cs, h1, h2, h3⟩ m => by
    have m' : a = b := m
    subst m'
    exact ⟨_, h1⟩
  mo := fun l ⟨a, r, cs, h1, h2, h3, h4, h5⟩ => ⟨a, r, cs, h1, h2, h3, by omega, h5⟩
variable {K : PySem.W.Frag} {W : Wd} {σ : St} {H H1 H2 : Hp} {v : V} {d : PyData} {n c c1 c2 : Nat} {te ta tb to ti : TE} {P P1 P2 : V → Hp → Prop} {D : Ends}
theorem sat_cb {b c : Addr} (h : Sat b c n H) : c ≠ b := fun e => by
  obtain ⟨a, r, cs, h1, h2, _⟩ := h
  rw [e, h1] at h2
  injection h2 with h2; injection h2 with h2
  cases cs with
  | nil => cases h2
  | cons x r => cases h2

/-! ints that are not known -/
abbrev JI (W : Wd) (te : TE) (σ : St) (H : Hp) (c : Nat) (φ : Int → Prop) : Prop := J W te σ H c fun v _ => ∃ i, v = .int i ∧ φ i
variable {φ φ1 φ2 : Int → Prop}
theorem ji_of {i : Int} (h : JD K W te σ H c (.int i)) (p : φ i) : JI W te σ H c φ := h.imp fun v H2 hv => ⟨i, Da.int hv, p⟩
theorem ji_v {i : Nat} {k : Int} (h : σ[i]? = some (some (.int k))) (p : φ k) : JI W (tVar i) σ H 0 φ := fun n H1 _ hI _ Q q => ⟨_, h, q _ H1 ExM.refl hI ⟨k, rfl, p⟩⟩
theorem ji_op {C : Int → Int → Prop} {f : Int → Int → Int} (ha : JI W ta σ H c1 φ1) (hb : JI W tb σ H c2 φ2) (hc : ∀ i j, φ1 i → φ2 j → C i j) (hp : ∀ i j, φ1 i → φ2 j → φ (f i j)) : JI W (tOp (rI C fun i j => .int (f i j)) ta tb) σ H (c1 + c2) φ := fun n H1 e hI hn Q q =>
  ha n H1 e hI (by omega) _ fun x H2 e2 hI2 ⟨i, hx, p1⟩ => hb (n + c1) H2 (e.trans e2) hI2 (by omega) _ fun y H3 e3 hI3 ⟨j, hy, p2⟩ => ⟨i, j, hx, hy, hc i j p1 p2, q _ H3 (e2.trans e3) (by rw [show n + (c1 + c2) = n + c1 + c2 by omega]; exact hI3) ⟨_, rfl, hp i j p1 p2⟩⟩
theorem ji_op0 {f : Int → Int → Int} (ha : JI W ta σ H c1 φ1) (hb : JI W tb σ H c2 φ2) (hp : ∀ i j, φ1 i → φ2 j → φ (f i j)) : JI W (tOp (rI0 fun i j => .int (f i j)) ta tb) σ H (c1 + c2) φ := fun n H1 e hI hn Q q =>
  ha n H1 e hI (by omega) _ fun x H2 e2 hI2 ⟨i, hx, p1⟩ => hb (n + c1) H2 (e.trans e2) hI2 (by omega) _ fun y H3 e3 hI3 ⟨j, hy, p2⟩ => ⟨i, j, hx, hy, q _ H3 (e2.trans e3) (by rw [show n + (c1 + c2) = n + c1 + c2 by omega]; exact hI3) ⟨_, rfl, hp i j p1 p2⟩⟩
/-- a display whose items are known by a word alone -/
abbrev JXs (K : PySem.W.Frag) (W : Wd) (ta : TA) (σ : St) (H : Hp) (c : Nat) (ψ : PyData → Prop) (m : Nat) : Prop := JA W ta σ H c fun vs H2 => ∃ ds : List PyData, ds.length = m ∧ (∀ d ∈ ds, ψ d) ∧ DaL K W H2 vs ds
variable {ψ ψ1 : PyData → Prop} {m : Nat}
theorem jx_of (h : JD K W te σ H c d) (p : ψ d) : JX K W te σ H c ψ := h.imp fun v H2 hv => ⟨d, p, hv⟩
theorem jx_i (h : JI W te σ H c φ) (p : ∀ i, φ i → ψ (.int i)) : JX K W te σ H c ψ := h.imp fun v H2 ⟨i, e, q⟩ => ⟨.int i, p i q, by rw [e]; exact DaM.int i⟩
theorem jxs_nil : JXs K W tNil σ H 0 ψ 0 := fun n H1 _ hI _ Q q => q [] H1 ExM.refl hI ⟨[], rfl, by simp, .nil⟩
theorem jxs_cons {tr : TA} (ha : JX K W ta σ H c1 ψ) (hr : JXs K W tr σ H c2 ψ m) : JXs K W (tCons ta tr) σ H (c1 + c2) ψ (m + 1) := fun n H1 e hI hn Q q =>
  ha n H1 e hI (by omega) _ fun x H2 e2 hI2 ⟨d, p, hx⟩ => hr (n + c1) H2 (e.trans e2) hI2 (by omega) _ fun xs H3 e3 hI3 ⟨ds, hl, hp, hxs⟩ =>
    q (x :: xs) H3 (e2.trans e3) (by rw [show n + (c1 + c2) = n + c1 + c2 by omega]; exact hI3) ⟨d :: ds, by rw [List.length_cons, hl], fun y hy => by
      rcases List.mem_cons.mp hy with rfl | hy
      · exact p
      · exact hp y hy, .cons (Da.mono hx e3) hxs⟩
/-- the list itself -/
abbrev JXl (K : PySem.W.Frag) (W : Wd) (te : TE) (σ : St) (H : Hp) (c : Nat) (ψ : PyData → Prop) (m : Nat) : Prop := J W te σ H c fun v H2 => ∃ ds : List PyData, ds.length = m ∧ (∀ d ∈ ds, ψ d) ∧ Da K W H2 v (.list ds)
theorem jxl_lst {t : TA} (h : JXs K W t σ H c ψ m) (hl : m ≤ 100000) : JXl K W (tLst t) σ H c ψ m := fun n H1 e hI hn Q q =>
  h n H1 e hI hn _ fun xs H2 e2 hI2 ⟨ds, h1, h2, hx⟩ => ⟨by rw [dal_len hx, h1]; exact Nat.le_trans hl (by decide), fun p hp =>
    q (.ref p) _ (e2.trans (.of (same_new hp))) (W.st (same_new hp) hI2) ⟨ds, h1, h2, da_lst (W.fr hI2 hp) upd_same (DaL.mono hx (.of (same_new hp)))⟩⟩

/-! what the drawing defs promise -/
def spDraw : Sp := fun vs H Q _ => ∃ (b c : Addr) (n : Nat) (many : Int), vs = [.ref b, .int many] ∧ Sat b c n H ∧ n + 1 ≤ BIG ∧ 0 < many ∧ many < 536870912 ∧
  ∀ i H', 0 ≤ i → i < many → ExM (satW b c).M H H' → Sat b c (n + 1) H' → Q (.int i) H'
def spPick (K : PySem.W.Frag) : Sp := fun vs H Q _ => ∃ (b c : Addr) (n : Nat) (v : V) (d : PyData), vs = [.ref b, v] ∧ Sat b c n H ∧ n + 1 ≤ BIG ∧ Da K (satW b c) H v d ∧ isSeq d = true ∧ 0 < (itemsD d).length ∧ (itemsD d).length < 100000 ∧
  ∀ x e H', e ∈ itemsD d → ExM (satW b c).M H H' → Sat b c (n + 1) H' → Da K (satW b c) H' x e → Q x H'
variable {b cc : Addr}
theorem satI {H : Hp} : (satW b cc).I n H = Sat b cc n H := rfl
theorem ji_draw {many : Int} {E : XK} {i : Nat} {tm : TE} (hb : σ[i]? = some (some (.ref b))) (hm : JD K (satW b cc) tm σ H c (.int many)) (h0 : 0 < many ∧ many < 536870912) :
    JI (satW b cc) (tCall spDraw [] E (tCons (tVar i) (tCons tm tNil))) σ H (c + 1) (fun i => 0 ≤ i ∧ i < many) := fun n H1 e hI hn Q q =>
  ⟨.ref b, hb, hm n H1 e hI (by omega) _ fun x H2 e2 hI2 hx => ⟨b, cc, n + c, many, by rw [hx.int]; rfl, show Sat b cc (n + c) H2 from hI2, by omega, h0.1, h0.2, fun k H' k0 k1 eM hS => q _ H' (e2.trans eM) (show Sat b cc (n + (c + 1)) H' from hS) ⟨k, rfl, k0, k1⟩⟩⟩
theorem jx_pick {E : XK} {i : Nat} {tl : TE} (hb : σ[i]? = some (some (.ref b))) (hl : JXl K (satW b cc) tl σ H c ψ m) (h0 : 0 < m ∧ m < 100000) :
    JX K (satW b cc) (tCall (spPick K) [] E (tCons (tVar i) (tCons tl tNil))) σ H (c + 1) ψ := fun n H1 e hI hn Q q =>
  ⟨.ref b, hb, hl n H1 e hI (by omega) _ fun x H2 e2 hI2 ⟨ds, hl, hp, hx⟩ => ⟨b, cc, n + c, x, .list ds, rfl, show Sat b cc (n + c) H2 from hI2, by omega, hx, rfl, by show 0 < ds.length; omega, by show ds.length < 100000; omega,
    fun y e H' he eM hS hy => q y H' (e2.trans eM) (show Sat b cc (n + (c + 1)) H' from hS) ⟨e, hp e he, hy⟩⟩⟩

/-! stores, loops -/
theorem st_setitem {l : Addr} {xs : List V} {j : Nat} {i : Int} {Pv : V → Hp → Prop} (hv : J W0 te σ H c Pv) (ho : J W0 to σ H c1 (fun v _ => v = .ref l)) (hi : JD K W0 ti σ H c2 (.int i)) (hc : c ≤ BIG ∧ c1 ≤ BIG ∧ c2 ≤ BIG) (hl : H l = some (.lst xs)) (hj : ixN xs.length i = some j)
    (hP : ∀ {v H1 H2}, Same H1 H2 → Pv v H1 → Pv v H2) (k : ∀ v H1, Same H H1 → Pv v H1 → D.nx σ (upd H1 l (.lst (xs.set j v)))) : tAsg te (gSub to ti rSetL) D σ H :=
  hv 0 H ExM.refl trivial (by omega) _ fun v H1 e1 _ p => ho 0 H1 e1 trivial (by omega) _ fun o H2 e2 _ po => hi 0 H2 (e1.trans e2) trivial (by omega) _ fun y H3 e3 _ py => by
    subst po
    have s := ex0 (e1.trans (e2.trans e3))
    exact ⟨l, xs, i, j, rfl, Da.int py, s l _ hl, hj, k v H3 s (hP (ex0 (e2.trans e3)) p)⟩
theorem st_forR {ta : TA} {j : Nat} {nn : Int} {tb : TS} (hI : W.I n H) (h : JDA K W ta σ H c [.int nn]) (hc : n + c ≤ BIG) (hn : 0 ≤ nn ∧ nn < 2 ^ 62) (Pv : Nat → St → Hp → Prop) (h0 : ∀ H1, ExM W.M H H1 → W.I (n + c) H1 → Pv 0 σ H1)
    (hs : ∀ (i : Nat) σ' H', (i : Int) < nn → Pv i σ' H' → tb { D with nx := Pv (i + 1), ct := Pv (i + 1), bk := D.nx } (σ'.set j (some (.int (i : Int)))) H') (hd : ∀ σ' H', Pv nn.toNat σ' H' → D.nx σ' H') : tFor (iRng1 ta) (gName j) tb D σ H :=
  h n H ExM.refl hI hc _ fun vs H1 e hI1 hv => by
    obtain ⟨x, rfl, hx⟩ := dal1 hv
    exact ⟨nn, by rw [hx.int], by omega, hn.2, for_range (lo := 0) (n := nn.toNat) Pv (h0 H1 e hI1) (fun i σ' H' hi p => by
      have e0 : (0 : Int) + (i : Int) = (i : Int) := Int.zero_add _
      show tb { D with nx := Pv (i + 1), ct := Pv (i + 1), bk := D.nx } (σ'.set j (some (.int ((0 : Int) + (i : Int))))) H'
      rw [e0]
      exact hs i σ' H' (by omega) p) hd⟩
/-- [te for _ in range(nn)], something drawn in each -/
theorem jxl_lcR {ta : TA} {nn : Int} {j : Nat} {vs : List Nat} (h : JDA K W ta σ H c [.int nn]) (hn : 0 ≤ nn ∧ nn < 10000) (hw : ∀ x, wipe ((wipe σ vs).set j (some x)) vs = wipe σ vs)
    (he : ∀ (i : Nat) H1, ExM W.M H H1 → (i : Int) < nn → JX K W te ((wipe σ vs).set j (some (.int (i : Int)))) H1 c1 ψ) (hL : ∀ d, ψ d → noL d = true) :
    JXl K W (tLc (iRng1 ta) (gName j) tYes te vs) σ H (c + nn.toNat * c1) ψ nn.toNat := fun n H0 e hI hb Q q => h n H0 e hI (by omega) _ fun xs H1 e1 hI1 hx => by
  obtain ⟨x, rfl, hx2⟩ := dal1 hx
  refine ⟨nn, by rw [hx2.int], by omega, by omega, fun Dl hD => ?_⟩
  refine lc_range (lo := 0) (n := nn.toNat) (fun i H' => ∃ ds : List PyData, ds.length = i ∧ (∀ d ∈ ds, ψ d) ∧ Cw K W H1 (n + c + i * c1) Dl ds H') ?_ (fun i H' hi hC => ?_) (fun H' hC => ?_)
  · exact ⟨[], rfl, by simp, hD, .of (same_new hD), by rw [show n + c + 0 * c1 = n + c by omega]; exact W.st (same_new hD) hI1, by simp [noLs], [], upd_same, by simpa using DaML.nil⟩
  · obtain ⟨ds, hl, hp, hC⟩ := hC
    have e0 : (0 : Int) + (i : Int) = (i : Int) := Int.zero_add _
    show wipe ((wipe σ vs).set j (some (.int ((0 : Int) + (i : Int))))) vs = wipe σ vs ∧ te ((wipe σ vs).set j (some (.int ((0 : Int) + (i : Int))))) H' _
    rw [e0]
    have hmul : i * c1 + c1 ≤ nn.toNat * c1 := by
      have : (i + 1) * c1 ≤ nn.toNat * c1 := Nat.mul_le_mul_right _ hi
      rw [Nat.succ_mul] at this; exact this
    refine ⟨hw _, he i H' (e.trans (e1.trans hC.2.1)) (by omega) (n + c + i * c1) H' ExM.refl hC.2.2.1 (by omega) _ fun y H4 e4 hI4 ⟨d, pd, hy⟩ => ?_⟩
    have mD := W.fr hI1 hD
    obtain ⟨acc, a1, a2, a3⟩ := cw_put ⟨_, hI1⟩ (cw_on hC mD e4 hI4) hy (hL d pd) (by omega)
    refine ⟨acc, a1, a2, ds ++ [d], by rw [List.length_append, hl]; rfl, fun x hx => ?_, ?_⟩
    · rcases List.mem_append.mp hx with h | h
      · exact hp x h
      · rw [List.mem_singleton.mp h]; exact pd
    · rw [show n + c + (i + 1) * c1 = n + c + i * c1 + c1 by rw [Nat.succ_mul]; omega]; exact a3
  · obtain ⟨ds, hl, hp, p1, p2, p3, p4, acc, p5, p6⟩ := hC
    exact q _ H' (e1.trans p2) (by rw [show n + (c + nn.toNat * c1) = n + c + nn.toNat * c1 by omega]; exact p3) ⟨ds, hl, hp, da_lst (W.fr hI1 hD) p5 p6⟩
/-- a, b, .. = a list of that many -/
theorem gUnl_of {m : Nat} {t : TGs} {Q : St → Hp → Prop} {ds : List PyData} (h : Da K W H v (.list ds)) (hl : ds.length = m) (k : ∀ xs, DaL K W H xs ds → t xs σ H Q) : gUnl K m t v σ H Q := by
  cases h with
  | lst hs ha => exact ⟨_, _, rfl, hs.sq, by rw [dal_len (W := W) ha, hl], k _ ha⟩

/-! list.count of truths -/
def eqkB (k : Bool) (v : Value) : Bool := match v with
  | .bool b => b == k
  | _ => false
theorem eqkB_at {k : Bool} {A : Around} {s : Shared} : ∀ {bs : List Bool} {us : List Value}, Vals (bs.map V.bl) us → ∀ y ∈ us, SeqAt.EqAt A s y (.bool k) (eqkB k y)
  | [], _, h => fun y hy => by cases h; cases hy
  | b :: bs, _, h => fun y hy => by
    cases h with
    | cons r t =>
      cases r
      rcases List.mem_cons.mp hy with e | e
      · rw [e]; exact SeqAt.EqAt.bool_bool b k
      · exact eqkB_at t y e
theorem eqkB_count {k : Bool} : ∀ {bs : List Bool} {us : List Value}, Vals (bs.map V.bl) us → us.countP (eqkB k) = bs.count k
  | [], _, h => by cases h; rfl
  | b :: bs, _, h => by
    cases h with
    | cons r t =>
      cases r
      rw [List.countP_cons, List.count_cons, eqkB_count t] <;> rfl
def rCntB (K : PySem.W.Frag) : V → List V → Hp → VK → Prop := fun x xs H Q => ∃ (p : Addr) (bs : List Bool) (k : Bool), x = .ref p ∧ xs = [.bl k] ∧ SqL K H p (bs.map V.bl) ∧ Q (.int (bs.count k : Nat)) H
theorem mt_lcountB {X : Cx} : MtR X "list.count" (rCntB X.K) := fun pins s σ H x xs v us Q I rx rxs ⟨p, bs, k, ex, exs, hs, q⟩ => by
  subst ex exs
  cases rx
  obtain ⟨u, eu, ru⟩ := rxs.one
  subst eu; cases ru
  obtain ⟨its, rv, ⟨o, n, ho, h1, _, h2⟩, _⟩ := I.list hs
  obtain ⟨cls, dd, data, sl⟩ := o
  obtain rfl : cls = _ := h1
  obtain rfl : data = _ := h2
  have en : its.toArray.toList.countP (eqkB k) = bs.count k := eqkB_count rv
  exact call_meets PySem.F.slot_list_count ⟨_, ho, rfl⟩ PySem.F.entry_list_count (PySem.F.args_list_count_2 _ _) (SeqAt.list_countAt p its.toArray n dd sl (.bool k) (eqkB k))
    ⟨ho, fun y hy => eqkB_at rv y (by simpa using hy), .int (bs.count k : Nat), H, I.tok _, ⟨s.toks, congrArg (fun z : Nat => Value.int (z : Int) s.toks) en⟩, q⟩
theorem jd_countB {bs : List Bool} {k : Bool} (ha : JD K W to σ H c1 (.list (bs.map PyData.bool))) (hb : JD K W ta σ H c2 (.bool k)) : JD K W (tBM K "list" (rCntB K) to (tCons ta tNil)) σ H (c1 + c2) (.int (bs.count k : Nat)) := fun n H1 e hI hn Q q =>
  ha n H1 e hI (by omega) _ fun x H2 e2 hI2 hx => by
    cases hx with
    | @lst a xs ds hs hl =>
      have e1 := dal_bools (W := W) hl
      refine ⟨.inl ⟨rfl, xs, hs.sq⟩, hb (n + c1) H2 (e.trans e2) hI2 (by omega) _ fun y H3 e3 hI3 hy => ⟨a, bs, k, rfl, by rw [hy.bl], by rw [← e1]; exact (hs.mono e3).sq, q _ H3 (e2.trans e3) (by rw [show n + (c1 + c2) = n + c1 + c2 by omega]; exact hI3) da_int⟩⟩

/-! the body of a drawing def -/
abbrev dB (cs : List Int) (a r : Int) : PyData := .list [.list (cs.map PyData.int), .int a, .int r]
theorem dal_of_ints : ∀ (cs : List Int), DaL K W H (cs.map V.int) (cs.map PyData.int)
  | [] => DaML.nil
  | x :: r => DaML.cons (DaM.int x) (dal_of_ints r)
theorem satDa {b c : Addr} {cs : List Int} {a r : Int} (hb : H b = some (.lst [.ref c, .int a, .int r])) (hc : H c = some (.lst (cs.map V.int))) : Da K W0 H (.ref b) (dB cs a r) :=
  da_lst (fun z => z) hb (.cons (da_lst (W := W0) (fun z => z) hc (dal_of_ints cs)) (.cons (.int a) (.cons (.int r) .nil)))
theorem st_setI0 {i : Nat} {z z' : Int} (h : JD K W0 te σ H c (.int z)) (hz : z = z') (hc : c ≤ BIG) (k : ∀ H1, ExM W0.M H H1 → D.nx (σ.set i (some (.int z'))) H1) : tAsg te (gName i) D σ H :=
  st_set0 h hc fun v H1 e hv => by subst hz; have := Da.int (W := W0) hv; subst this; exact k H1 e
theorem st_retI0 {z z' : Int} (h : JD K W0 te σ H c (.int z)) (hz : z = z') (hc : c ≤ BIG) (k : ∀ H1, ExM W0.M H H1 → D.rt (.int z') H1) : tRet te D σ H :=
  st_ret (W := W0) (n := 0) trivial h (by omega) fun v H1 e _ hv => by subst hz; have := Da.int (W := W0) hv; subst this; exact k H1 e
theorem st_setitI {l : Addr} {xs : List V} {j : Nat} {i z z' : Int} (hv : JD K W0 te σ H c (.int z)) (hz : z = z') (hvar : σ[0]? = some (some (.ref l))) (hi : JD K W0 ti σ H c2 (.int i)) (hc : c ≤ BIG ∧ c2 ≤ BIG) (hl : H l = some (.lst xs)) (hj : ixN xs.length i = some j)
    (k : ∀ H1, Same H H1 → D.nx σ (upd H1 l (.lst (xs.set j (.int z'))))) : tAsg te (gSub (tVar 0) ti rSetL) D σ H :=
  st_setitem (Pv := fun v H2 => v = .int z) (hv.imp fun v H2 h => Da.int (W := W0) h) (j_v hvar) hi ⟨hc.1, by decide, hc.2⟩ hl hj (fun _ h => h) fun v H1 s e => by subst e; rw [hz]; exact k H1 s
theorem same_at {H H1 : Hp} (s : Same H H1) {a : Addr} {o : HO} (h : H a = some o) : H1 a = some o := s a o h
theorem exm_upd {b c : Addr} {o : HO} (s : ExM (satW b c).M H H1) : ExM (satW b c).M H (upd H1 b o) := fun a u m h => by
  have hne : a ≠ b := m
  rw [upd_ne hne]; exact s a u m h
theorem shaped_ints : ∀ cs : List Int, SeqAt.shaped (.list (cs.map PyData.int)) = true := fun cs => by
  have h1 : ∀ cs : List Int, PyData.canLayAll0 (cs.map PyData.int) = true := fun cs => by
    induction cs with
    | nil => rfl
    | cons x r ih => simp [PyData.canLayAll0, PyData.canLay0, ih]
  have h2 : ∀ cs : List Int, PyData.depthAll (cs.map PyData.int) = 0 := fun cs => by
    induction cs with
    | nil => rfl
    | cons x r ih => simp [PyData.depthAll, PyData.depth, ih]
  simp [SeqAt.shaped, PyData.canLay0, h1, PyData.depth, h2]
theorem eqv_nil : ∀ cs : List Int, PyData.eqv (.list (cs.map PyData.int)) (.list []) = cs.isEmpty
  | [] => rfl
  | _ :: _ => rfl
theorem at_mod {cs : List Int} (h : cs ≠ []) {a : Int} (h0 : 0 ≤ a) : ∃ x, atI (cs.map PyData.int) (a % (cs.length : Int)) = some (.int x) := by
  have hl : 0 < cs.length := List.length_pos_iff.mpr h
  have h1 := Int.emod_nonneg a (show (cs.length : Int) ≠ 0 by omega)
  have h2 := Int.emod_lt_of_pos a (show (0 : Int) < cs.length by omega)
  obtain ⟨k, hk⟩ : ∃ k : Nat, a % (cs.length : Int) = k := ⟨(a % (cs.length : Int)).toNat, by omega⟩
  have hk2 : k < cs.length := by omega
  refine ⟨cs[k], ?_⟩
  rw [hk]
  refine atI_nat ?_
  rw [List.getElem?_map, List.getElem?_eq_getElem hk2]; rfl

def spSat (K : PySem.W.Frag) : Sp := fun vs H Q _ => ∃ (a : Addr) (ns : List Int), vs = [.ref a] ∧ SqL K H a (ns.map V.int) ∧ ns.length ≤ 63 ∧ ∀ b c H', Same H H' → Sat b c 0 H' → Q (.ref b) H'
theorem da_sq {a : Addr} {xs : List V} {ds : List PyData} (h : SqL K H a xs) (hd : DaL K W0 H xs ds) : Da K W0 H (.ref a) (.list ds) := by
  refine .lst ?_ hd
  rcases h with h | h
  · exact .inl ⟨fun z => z, h⟩
  · exact .inr h
theorem mem_ints {ns : List Int} {d : PyData} (h : d ∈ ns.map PyData.int) : ∃ i, d = .int i := by
  obtain ⟨i, _, rfl⟩ := List.mem_map.mp h
  exact ⟨i, rfl⟩
theorem sat_ret {tx : TE} {ns : List Int} (hl : ns.length ≤ 60) (h : J W0 tx σ H 0 (fun v H2 => NewL K W0 H2 v (ns.map PyData.int))) (ha : JD K W0 ta σ H 0 (.int 0)) (hb : JD K W0 tb σ H 0 (.int 0)) (q : ∀ b c H', Same H H' → Sat b c 0 H' → D.rt (.ref b) H') :
    tRet (tLst (tCons tx (tCons ta (tCons tb tNil)))) D σ H := h 0 H ExM.refl trivial (by decide) _ fun v H1 e1 _ hv => ha 0 H1 e1 trivial (by decide) _ fun x H2 e2 _ hx => hb 0 H2 (e1.trans e2) trivial (by decide) _ fun y H3 e3 _ hy => by
  obtain ⟨p, acc, rfl, _, hp, hd⟩ := hv
  have e4 := dal_ints (W := W0) hd
  rw [e4] at hp
  have h3 : H3 p = some (.lst (ns.map V.int)) := ex0 (e2.trans e3) _ _ hp
  refine ⟨(by show 3 ≤ sizeLine; decide), fun l hl' => q l p _ (fun a o ho => same_new hl' a o (ex0 (e1.trans (e2.trans e3)) a o ho)) ⟨0, 0, ns, ?_, same_new hl' _ _ h3, by omega, by omega, by omega, hl⟩⟩
  rw [hx.int, hy.int]
  exact upd_same
/-- some[draw(b, len(some))] -/
theorem pick_ret {E : XK} {b cc : Addr} (hS : Sat b cc n H) (hn : n + 1 ≤ BIG) (hd : Da K (satW b cc) H v d) (hs : isSeq d = true) (hl0 : 0 < (itemsD d).length) (hl1 : (itemsD d).length < 100000)
    (h0 : σ[0]? = some (some (.ref b))) (h1 : σ[1]? = some (some v))
    (q : ∀ x e H', e ∈ itemsD d → ExM (satW b cc).M H H' → Sat b cc (n + 1) H' → Da K (satW b cc) H' x e → D.rt x H') :
    tRet (tOp (rIx K) (tVar 1) (tCall spDraw [] E (tCons (tVar 0) (tCons (tCB (fun xs H Q => ∃ p ys, xs = [.ref p] ∧ (SqL K H p ys ∨ SqT K H p ys) ∧ Q (.int ys.length) H) (tCons (tVar 1) tNil)) tNil)))) D σ H := by
  refine ⟨v, h1, .ref b, h0, v, h1, ?_⟩
  have hle : lenD d = (itemsD d).length := by cases d <;> first | rfl | cases hs
  have go : ∀ (p : Addr) (xs : List V), v = .ref p → (∀ H', ExM (satW b cc).M H H' → (LsS K (satW b cc).M H' p xs ∨ TuS K (satW b cc).M H' p xs) ∧ DaL K (satW b cc) H' xs (itemsD d)) →
      ∃ (p : Addr) (ys : List V), [v] = [V.ref p] ∧ (SqL K H p ys ∨ SqT K H p ys) ∧ spDraw ([.ref b, .int ys.length] ++ []) H (fun y H2 => rIx K v y H2 D.rt) E := by
    intro p xs hv hk
    obtain ⟨k1, k2⟩ := hk H ExM.refl
    have hlen := dal_len (W := satW b cc) k2
    refine ⟨p, xs, by rw [hv], ?_, b, cc, n, _, rfl, hS, hn, by omega, by omega, fun i H' i0 i1 eM hS' => ?_⟩
    · rcases k1 with k1 | k1
      · exact .inl k1.sq
      · exact .inr k1.sq
    · obtain ⟨m1, m2⟩ := hk H' eM
      obtain ⟨j, hj⟩ : ∃ j : Nat, i = j := ⟨i.toNat, by omega⟩
      subst hj
      have hjl : j < xs.length := by omega
      obtain ⟨e, he, hx⟩ := dal_get (W := satW b cc) m2 (List.getElem?_eq_getElem hjl)
      have hq := q xs[j] e H' (List.mem_of_getElem? he) eM hS' hx
      rcases m1 with m1 | m1
      · exact .inl ⟨p, xs, j, xs[j], hv, rfl, m1.sq, atI_nat (List.getElem?_eq_getElem hjl), hq⟩
      · exact .inr (.inl ⟨p, xs, j, xs[j], hv, rfl, m1.sq, atI_nat (List.getElem?_eq_getElem hjl), hq⟩)
  cases hd with
  | @lst p xs ds hs' hl' => exact go p xs rfl fun H' e => ⟨.inl (hs'.mono e), DaL.mono (W := satW b cc) hl' e⟩
  | @tup p xs ds hs' hl' => exact go p xs rfl fun H' e => ⟨.inr (hs'.mono e), DaL.mono (W := satW b cc) hl' e⟩
  | _ => cases hs

/-- a drawing def of one parameter, the satchel: its answer is known by a word -/
def spDX (K : PySem.W.Frag) (cost : Nat) (ψ : PyData → Prop) : Sp := fun vs H Q _ => ∃ (b c : Addr) (n : Nat), vs = [.ref b] ∧ Sat b c n H ∧ n + cost ≤ BIG ∧ ∀ v d H', ψ d → ExM (satW b c).M H H' → Sat b c (n + cost) H' → Da K (satW b c) H' v d → Q v H'
theorem jx_callD {E : XK} {i cost : Nat} {b cc : Addr} (hb : σ[i]? = some (some (.ref b))) : JX K (satW b cc) (tCall (spDX K cost ψ) [] E (tCons (tVar i) tNil)) σ H cost ψ := fun n H1 e hI hn Q q =>
  ⟨.ref b, hb, b, cc, n, rfl, hI, hn, fun v d H' p eM hS hv => q v H' eM hS ⟨d, p, hv⟩⟩
abbrev JAX (K : PySem.W.Frag) (W : Wd) (ta : TA) (σ : St) (H : Hp) (c : Nat) (θ : List PyData → Prop) : Prop := JA W ta σ H c fun vs H2 => ∃ ds, θ ds ∧ DaL K W H2 vs ds
theorem jax_nil : JAX K W tNil σ H 0 (fun ds => ds = []) := fun n H1 _ hI _ Q q => q [] H1 ExM.refl hI ⟨[], rfl, .nil⟩
theorem jax_cons {tr : TA} {θ : List PyData → Prop} (ha : JX K W ta σ H c1 ψ) (hr : JAX K W tr σ H c2 θ) : JAX K W (tCons ta tr) σ H (c1 + c2) (fun ds => ∃ d r, ds = d :: r ∧ ψ d ∧ θ r) := fun n H1 e hI hn Q q =>
  ha n H1 e hI (by omega) _ fun x H2 e2 hI2 ⟨d, p, hx⟩ => hr (n + c1) H2 (e.trans e2) hI2 (by omega) _ fun xs H3 e3 hI3 ⟨ds, hp, hxs⟩ =>
    q (x :: xs) H3 (e2.trans e3) (by rw [show n + (c1 + c2) = n + c1 + c2 by omega]; exact hI3) ⟨d :: ds, ⟨d, ds, rfl, p, hp⟩, .cons (Da.mono hx e3) hxs⟩
theorem jx_call {rel : List PyData → PyData → Prop} {E : XK} {t : TA} {θ : List PyData → Prop} (h : JAX K W t σ H c θ) (hr : ∀ ds, θ ds → ∃ r, rel ds r ∧ noL r = true ∧ ψ r) : JX K W (tCall (spPure K rel) [] E t) σ H c ψ := fun n H1 e hI hb Q q =>
  h n H1 e hI hb _ fun vs H2 e2 hI2 ⟨ds, hp, hv⟩ => by
    obtain ⟨r, h1, h2, h3⟩ := hr ds hp
    exact ⟨ds, r, by rw [List.append_nil]; exact DaL.dp hv, h1, fun v H' s hd => q v H' (e2.trans (.of s)) (W.st s hI2) ⟨r, h3, da_of (W.st s hI2) h2 hd⟩⟩
theorem st_unl3 {i j k : Nat} (hI : W.I n H) (h : JXl K W te σ H c ψ 3) (hc : n + c ≤ BIG)
    (kk : ∀ x y z d1 d2 d3 H1, ψ d1 → ψ d2 → ψ d3 → Da K W H1 x d1 → Da K W H1 y d2 → Da K W H1 z d3 → ExM W.M H H1 → W.I (n + c) H1 → D.nx (((σ.set i (some x)).set j (some y)).set k (some z)) H1) :
    tAsg te (gUnl K 3 (gCons (gName i) (gCons (gName j) (gCons (gName k) gNil)))) D σ H := h n H ExM.refl hI hc _ fun v H1 e hI1 ⟨ds, hl, hp, hv⟩ => by
  match ds, hl, hp, hv with
  | [d1, d2, d3], _, hp, hv =>
    refine gUnl_of (W := W) hv rfl fun xs hx => ?_
    obtain ⟨x, y, z, rfl, h1, h2, h3⟩ := dal3 (W := W) hx
    exact ⟨x, _, rfl, y, _, rfl, z, _, rfl, rfl, kk x y z d1 d2 d3 H1 (hp _ (by simp)) (hp _ (by simp)) (hp _ (by simp)) h1 h2 h3 e hI1⟩
/-- if bad: return False, where nothing is bad -/
theorem st_ifF {tt : TT} {ts : TS} {b : Bool} (hI : W.I n H) (h : JB K W tt σ H c b) (hb : b = false) (hc : c = 0) (hn : n ≤ BIG) (k : ∀ H1, ExM W.M H H1 → W.I n H1 → D.nx σ H1) : tIfS tt ts tNext D σ H := by
  subst hb hc
  exact st_if hI h hn (fun e => by cases e) (fun _ H1 e hI1 => k H1 e hI1)
theorem st_setW {i : Nat} (hI : W.I n H) (h : JD K W te σ H c d) (hc : c = 0) (hn : n ≤ BIG) (k : ∀ v H1, ExM W.M H H1 → W.I n H1 → Da K W H1 v d → D.nx (σ.set i (some v)) H1) : tAsg te (gName i) D σ H := by
  subst hc
  exact st_set hI h hn k
end Jl

set_option Elab.async false
set_option linter.all false
set_option maxRecDepth 100000
namespace K04
open PySem PySem.Spec PyProof.Rows L2 Jl

local macro_rules | `(tactic| walk_at "da") => `(tactic| first | assumption | exact da_int | exact da_bl | exact da_non | exact da_str | (refine' Da.mono ?k1 ?k2; (case k2 => assumption); (case k1 => walk_at "da")))
local macro_rules | `(tactic| walk_at "jc") => `(tactic| first | assumption | exact trivial | (refine cmulw ?_ ?_ <;> assumption) | (show (0 : Int) < _; omega) | (refine Or.inl ⟨?_, ?_⟩ <;> omega) | (refine Or.inr ⟨?_, ?_⟩ <;> omega))
local macro_rules | `(tactic| walk_at "j") => `(tactic| first
  | exact jd_int | exact jd_non | exact jd_bl | exact jd_str
  | exact jd_vi rfl
  | (refine' jd_v rfl ?k1; (case k1 => walk_at "da"))
  | (refine' jd_Ii ?k1 ?k2 ?k3; (case k1 => walk_at "j"); (case k2 => walk_at "j"); (case k3 => walk_at "jc"))
  | (refine' jd_I0i ?k1 ?k2; (case k1 => walk_at "j"); (case k2 => walk_at "j"))
  | (refine' jd_I0b ?k1 ?k2; (case k1 => walk_at "j"); (case k2 => walk_at "j"))
  | (refine' jd_neg ?k1; (case k1 => walk_at "j"))
  | (refine' jd_eqI ?k1 ?k2; (case k1 => walk_at "j"); (case k2 => walk_at "j"))
  | (refine' jd_neI ?k1 ?k2; (case k1 => walk_at "j"); (case k2 => walk_at "j"))
  | (refine' jd_eqB ?k1 ?k2; (case k1 => walk_at "j"); (case k2 => walk_at "j"))
  | (refine' jd_neB ?k1 ?k2; (case k1 => walk_at "j"); (case k2 => walk_at "j"))
  | (refine' jd_eqD ?k1 ?k2 ?k3 ?k4; (case k1 => walk_at "j"); (case k2 => walk_at "j"); (case k3 => walk_at "sh"); (case k4 => walk_at "sh"))
  | (refine' jd_neD ?k1 ?k2 ?k3 ?k4; (case k1 => walk_at "j"); (case k2 => walk_at "j"); (case k3 => walk_at "sh"); (case k4 => walk_at "sh"))
  | (refine' jd_ix ?k1 ?k2 ?k3 ?k4; (case k1 => walk_at "j"); (case k2 => walk_at "j"); (case k3 => walk_at "seq"); (case k4 => walk_at "at"))
  | (refine' jd_tup ?k1 ?k2; (case k1 => walk_at "ja"); (case k2 => (simp only [List.length_cons, List.length_nil]; decide)))
  | (refine' jd_lst ?k1 ?k2; (case k1 => walk_at "ja"); (case k2 => (simp only [List.length_cons, List.length_nil]; decide)))
  | (refine' jd_gcd ?k1; (case k1 => walk_at "ja"))
  | (refine' jd_lenS ?k1 ?k2; (case k1 => walk_at "ja"); (case k2 => walk_at "seq"))
  | (refine' jd_abs ?k1; (case k1 => walk_at "ja"))
  | (refine' jd_int1 ?k1; (case k1 => walk_at "ja"))
  | (refine' jd_intB ?k1; (case k1 => walk_at "ja"))
  | (refine' jd_isi ?k1 ?k2; (case k1 => walk_at "j"); (case k2 => first | exact kit_int | exact kit_bool | exact kit_list | exact kit_tuple))
  | (refine' jd_isi2 ?k1 ?k2 ?k3; (case k1 => walk_at "j"); (case k2 => exact kit_list); (case k3 => exact kit_tuple))
  | (refine' jd_isN ?k1 ?k2; (case k1 => walk_at "j"); (case k2 => exact jd_non))
  | (refine' jd_notN ?k1 ?k2; (case k1 => walk_at "j"); (case k2 => exact jd_non))
  | (refine' jd_andV ?k1 ?k2; (case k1 => walk_at "j"); (case k2 => first | exact (fun hyp => Bool.noConfusion (show false = true from hyp) : _ → JD _ _ _ _ _ 0 (PyData.bool true)) | (intro hyp; walk_at "j")))
  | (refine' jd_orV ?k1 ?k2; (case k1 => walk_at "j"); (case k2 => first | exact (fun hyp => Bool.noConfusion (show true = false from hyp) : _ → JD _ _ _ _ _ 0 (PyData.bool false)) | (intro hyp; walk_at "j")))
  | (refine' jd_notV ?k1; (case k1 => walk_at "j"))
  | (refine' jd_countB ?k1 ?k2; (case k1 => walk_at "j"); (case k2 => walk_at "j"))
  | (refine' jd_call ?k1 ?k2 ?k3; (case k1 => walk_at "ja"); (case k2 => walk_at "rel"); (case k3 => first | rfl | assumption)))
local macro_rules | `(tactic| walk_at "ja") => `(tactic| first | exact ja_nil | (refine' ja_cons ?k1 ?k2; (case k1 => walk_at "j"); (case k2 => walk_at "ja")))
local macro_rules | `(tactic| walk_at "jt") => `(tactic| first
  | (refine' jb_test ?k1; (case k1 => walk_at "j"))
  | (refine' jb_B ?k1; (case k1 => walk_at "j"))
  | (refine' jb_not ?k1; (case k1 => walk_at "jt"))
  | (refine' jb_and ?k1 ?k2; (case k1 => walk_at "jt"); (case k2 => (intro hyp; walk_at "jt")))
  | (refine' jb_or ?k1 ?k2; (case k1 => walk_at "jt"); (case k2 => (intro hyp; walk_at "jt"))))
local macro_rules | `(tactic| walk_at "seq") => `(tactic| first | rfl | assumption | exact seq_hyp (by assumption) | exact isFr_seq (by assumption))
local macro_rules | `(tactic| walk_at "at") => `(tactic| first | rfl | assumption | exact at0 (by assumption) | exact at1 (by assumption) | (walk_at "atx"))
local macro_rules | `(tactic| walk_at "ex") => `(tactic| first | exact ExM.refl | assumption | (refine' ExM.trans ?k1 ?k2; (case k2 => assumption); (case k1 => walk_at "ex")))
local macro_rules | `(tactic| walk_at "re") => `(tactic| rfl)
local macro_rules | `(tactic| walk_at "ret") => `(tactic| ((try refine st_nx ?_); (try refine nx_mk ?_); refine' pure_ret ?k0 (by assumption) (JD.eq ?k1 ?k2) ?k3; (case k1 => walk_at "j"); (case k2 => walk_at "re"); (case k3 => decide); (case k0 => walk_at "ex")))
local macro_rules | `(tactic| walk_at "nx") => `(tactic| ((first | refine st_nx ?_ | refine nx_mk ?_ | skip); try refine st_seq ?_))
local macro_rules | `(tactic| walk_at "sh") => `(tactic| first | exact shaped_fr _ | exact shaped_0 | exact shaped_1 | rfl)

def topS (i : Nat) : Stmt := PySem.Challenge.pw_nodice_k04_whole_fractions_reckon_as_num.main.body.getD i (.Pass ⟨0, 0, 0, 0⟩)
--DEF is_integer
abbrev s_is_integer : Stmt := topS 5
theorem sc_is_integer : FnScope ["value"] ["value"] (defScope s_is_integer) := ⟨rfl, rfl, rfl, by decide +kernel, rfl, by decide +kernel, by decide +kernel⟩
--DEF is_within
abbrev s_is_within : Stmt := topS 6
theorem sc_is_within : FnScope ["value", "least", "most"] ["value", "least", "most"] (defScope s_is_within) := ⟨rfl, rfl, rfl, by decide +kernel, rfl, by decide +kernel, by decide +kernel⟩
--DEF are_integers
abbrev s_are_integers : Stmt := topS 7
theorem sc_are_integers : FnScope ["value", "many", "each"] ["value", "many"] (defScope s_are_integers) := ⟨rfl, rfl, rfl, by decide +kernel, rfl, by decide +kernel, by decide +kernel⟩
--DEF is_fraction
abbrev s_is_fraction : Stmt := topS 8
theorem sc_is_fraction : FnScope ["value"] ["value"] (defScope s_is_fraction) := ⟨rfl, rfl, rfl, by decide +kernel, rfl, by decide +kernel, by decide +kernel⟩
--DEF need_number
abbrev s_need_number : Stmt := topS 9
theorem sc_need_number : FnScope ["value", "part", "least", "most"] ["value", "part", "least", "most"] (defScope s_need_number) := ⟨rfl, rfl, rfl, by decide +kernel, rfl, by decide +kernel, by decide +kernel⟩
--DEF need_fraction
abbrev s_need_fraction : Stmt := topS 10
theorem sc_need_fraction : FnScope ["value", "part"] ["value", "part"] (defScope s_need_fraction) := ⟨rfl, rfl, rfl, by decide +kernel, rfl, by decide +kernel, by decide +kernel⟩
--DEF least_pair
abbrev s_least_pair : Stmt := topS 12
theorem sc_least_pair : FnScope ["up", "down", "common"] ["up", "down"] (defScope s_least_pair) := ⟨rfl, rfl, rfl, by decide +kernel, rfl, by decide +kernel, by decide +kernel⟩
--DEF both
abbrev s_both : Stmt := topS 13
theorem sc_both : FnScope ["one", "other"] ["one", "other"] (defScope s_both) := ⟨rfl, rfl, rfl, by decide +kernel, rfl, by decide +kernel, by decide +kernel⟩
--DEF times
abbrev s_times : Stmt := topS 14
theorem sc_times : FnScope ["one", "other"] ["one", "other"] (defScope s_times) := ⟨rfl, rfl, rfl, by decide +kernel, rfl, by decide +kernel, by decide +kernel⟩
--DEF turned
abbrev s_turned : Stmt := topS 15
theorem sc_turned : FnScope ["one"] ["one"] (defScope s_turned) := ⟨rfl, rfl, rfl, by decide +kernel, rfl, by decide +kernel, by decide +kernel⟩
--DEF is_less
abbrev s_is_less : Stmt := topS 16
theorem sc_is_less : FnScope ["one", "other"] ["one", "other"] (defScope s_is_less) := ⟨rfl, rfl, rfl, by decide +kernel, rfl, by decide +kernel, by decide +kernel⟩
--DEF reduced
abbrev s_reduced : Stmt := topS 17
theorem sc_reduced : FnScope ["up", "down"] ["up", "down"] (defScope s_reduced) := ⟨rfl, rfl, rfl, by decide +kernel, rfl, by decide +kernel, by decide +kernel⟩
--DEF added
abbrev s_added : Stmt := topS 18
theorem sc_added : FnScope ["one", "other"] ["one", "other"] (defScope s_added) := ⟨rfl, rfl, rfl, by decide +kernel, rfl, by decide +kernel, by decide +kernel⟩
--DEF less
abbrev s_less : Stmt := topS 19
theorem sc_less : FnScope ["one", "other"] ["one", "other"] (defScope s_less) := ⟨rfl, rfl, rfl, by decide +kernel, rfl, by decide +kernel, by decide +kernel⟩
--DEF multiplied
abbrev s_multiplied : Stmt := topS 20
theorem sc_multiplied : FnScope ["one", "other"] ["one", "other"] (defScope s_multiplied) := ⟨rfl, rfl, rfl, by decide +kernel, rfl, by decide +kernel, by decide +kernel⟩
--DEF below
abbrev s_below : Stmt := topS 21
theorem sc_below : FnScope ["one", "other"] ["one", "other"] (defScope s_below) := ⟨rfl, rfl, rfl, by decide +kernel, rfl, by decide +kernel, by decide +kernel⟩
--DEF _law_cooper
abbrev s__law_cooper : Stmt := topS 23
theorem sc__law_cooper : FnScope ["_law_script", "_law_cell"] ["_law_script"] (defScope s__law_cooper) := ⟨rfl, rfl, rfl, by decide +kernel, rfl, by decide +kernel, by decide +kernel⟩
--DEF _law_hoop
abbrev s__law_hoop : Stmt := topS 24
theorem sc__law_hoop : FnScope ["_law_cooper_here", "_law_many", "_law_rest", "_law_at", "_law_cell", "_law_mixed"] ["_law_cooper_here", "_law_many"] (defScope s__law_hoop) := ⟨rfl, rfl, rfl, by decide +kernel, rfl, by decide +kernel, by decide +kernel⟩
--DEF _law_stave
abbrev s__law_stave : Stmt := topS 25
theorem sc__law_stave : FnScope ["_law_cooper_here", "_law_some"] ["_law_cooper_here", "_law_some"] (defScope s__law_stave) := ⟨rfl, rfl, rfl, by decide +kernel, rfl, by decide +kernel, by decide +kernel⟩
--DEF _law_fraction
abbrev s__law_fraction : Stmt := topS 26
theorem sc__law_fraction : FnScope ["_law_cooper_here", "_law_up"] ["_law_cooper_here"] (defScope s__law_fraction) := ⟨rfl, rfl, rfl, by decide +kernel, rfl, by decide +kernel, by decide +kernel⟩
--DEF _law_order_right
abbrev s__law_order_right : Stmt := topS 27
theorem sc__law_order_right : FnScope ["_law_one", "_law_other", "_law_third", "_law_by"] ["_law_one", "_law_other", "_law_third"] (defScope s__law_order_right) := ⟨rfl, rfl, rfl, by decide +kernel, rfl, by decide +kernel, by decide +kernel⟩
--DEF law
abbrev s_law : Stmt := topS 28
theorem sc_law : FnScope ["_law_script", "_law_cooper_here", "_law_turn", "_law_one", "_law_other", "_law_third", "_law_told", "_law_part", "_law_each"] ["_law_script"] (defScope s_law) := ⟨rfl, rfl, rfl, by decide +kernel, rfl, by decide +kernel, by decide +kernel⟩
--SEC
section
variable {P : Program} {w : World} {K : PySem.W.Frag} {mg : Str → Option Value} {base : Heap}
--OK is_integer
def rel_is_integer : List PyData → PyData → Prop := fun ds r => ∃ d, ds = [d] ∧ r = .bool (isI d)
set_option maxHeartbeats 4000000 in
theorem ok_is_integer {f_is_integer : Addr} {fd_is_integer : FuncData} (F : Fun K "is_integer" "is_integer" s_is_integer f_is_integer fd_is_integer) (m_isinstance : mg "isinstance" = none)
    (m_int : mg "int" = none)
    (m_bool : mg "bool" = none) :
    FnOk P w K mg base CX0 1 f_is_integer fd_is_integer ["value"] (spPure K rel_is_integer) := by
  refine F.ok sc_is_integer (fun vs H Q E h => ?_) (fun cdv A outer s H vs Q E hr h => ?_)
  · obtain ⟨ds, r, hd, hr0, _⟩ := h; obtain ⟨d, rfl, rfl⟩ := hr0; exact isD_len hd
  · obtain ⟨ds, r, hd, hr0, q⟩ := h
    obtain ⟨d, rfl, rfl⟩ := hr0
    obtain ⟨x0, rfl, h0⟩ := dal1 (W := W0) (dpl0 _ _ hd)
    refine ⟨_, (pss_one (ps_ret (pe_and (pe_callB (id := "isinstance") (r := rIsi K) call_isi (by rfl) m_isinstance (by decide +kernel) (pa_cons (pv 0) (pa_cons (pe_bltn (v := .ty "int") (by rfl) m_int (by decide +kernel) rfl) pa_nil))) (pe_one (pe_not (pe_callB (id := "isinstance") (r := rIsi K) call_isi (by rfl) m_isinstance (by decide +kernel) (pa_cons (pv 0) (pa_cons (pe_bltn (v := .ty "bool") (by rfl) m_bool (by decide +kernel) rfl) pa_nil)))))))), ?_⟩
    
    refine' pure_ret (ExM.refl) q (JD.eq ?j ?e) ?kc
    case j => walk_at "j"
    case e => (cases d <;> rfl)
    case kc => decide
--OK is_within
local macro_rules | `(tactic| walk_at "rel") => `(tactic| exact ⟨_, rfl, rfl⟩)
def rel_is_within : List PyData → PyData → Prop := fun ds r => ∃ d lo hi, ds = [d, lo, hi] ∧ (lo = .none ∨ ∃ i, lo = .int i) ∧ (hi = .none ∨ ∃ i, hi = .int i) ∧ r = .bool (within d lo hi)
set_option maxHeartbeats 4000000 in
theorem ok_is_within {f_is_within : Addr} {fd_is_within : FuncData} (F : Fun K "is_within" "is_within" s_is_within f_is_within fd_is_within) {f_is_integer : Addr} {fd_is_integer : FuncData} (G_is_integer : FnOk P w K mg base CX0 1 f_is_integer fd_is_integer ["value"] (spPure K rel_is_integer)) (g_is_integer : mg "is_integer" = some (.ref f_is_integer)) (k_is_integer : PySem.W.keepIn K (.ref f_is_integer) = true) (b_is_integer : Binds K fd_is_integer ["value"] []) :
    FnOk P w K mg base CX0 2 f_is_within fd_is_within ["value", "least", "most"] (spPure K rel_is_within) := by
  refine F.ok sc_is_within (fun vs H Q E h => ?_) (fun cdv A outer s H vs Q E hr h => ?_)
  · obtain ⟨ds, r, hd, hr0, _⟩ := h; obtain ⟨d, lo, hi, rfl, hlo, hhi, rfl⟩ := hr0; exact isD_len hd
  · obtain ⟨ds, r, hd, hr0, q⟩ := h
    obtain ⟨d, lo, hi, rfl, hlo, hhi, rfl⟩ := hr0
    obtain ⟨x0, x1, x2, rfl, h0, h1, h2⟩ := dal3 (W := W0) (dpl0 _ _ hd)
    refine ⟨_, (pss_cons (ps_if (pt_not (pt_val (pe_call G_is_integer (hr.mono (by decide)) (by rfl) g_is_integer k_is_integer b_is_integer .nil pass0 (pa_cons (pv 0) pa_nil))))
      (pss_one (ps_ret pe_bl))
      pss_nil)
    (pss_one (ps_ret (pe_and (pe_or (pe_cmpR op_isN (pv 1) pe_non (nomark _)) (pe_one (pe_cmpR op_le (pv 1) (pv 0) (nomark _)))) (pe_one (pe_or (pe_cmpR op_isN (pv 2) pe_non (nomark _)) (pe_one (pe_cmpR op_le (pv 0) (pv 2) (nomark _))))))))), ?_⟩
    
    refine' st_if0 (K := K) (b := !isI d) (JB.eq ?jt ?jr) ?kc (fun hb H1 e1 => ?m1) (fun hb H1 e1 => ?m2)
    case jt => walk_at "jt"
    case jr => rfl
    case kc => decide
    case m1 =>
      refine' pure_ret e1 q (JD.eq ?j ?e) ?kc
      case j => walk_at "j"
      case e => (rw [Bool.not_eq_true'] at hb; unfold within; rw [hb]; rfl)
      case kc => decide
    case m2 =>
      cases d with
      | int i =>
    rcases hlo with rfl | ⟨lo, rfl⟩ <;> rcases hhi with rfl | ⟨hi, rfl⟩ <;> walk_at "ret"
      | _ => exact absurd hb (by simp [isI])
--OK are_integers
local macro_rules | `(tactic| walk_at "rel") => `(tactic| exact ⟨_, rfl, rfl⟩)
def rel_are_integers : List PyData → PyData → Prop := fun ds r => ∃ d n, ds = [d, .int n] ∧ (itemsD d).length < 100000 ∧ r = .bool (areI d n)
set_option maxHeartbeats 4000000 in
theorem ok_are_integers {f_are_integers : Addr} {fd_are_integers : FuncData} (F : Fun K "are_integers" "are_integers" s_are_integers f_are_integers fd_are_integers) (m_all : mg "all" = none)
    {f_is_integer : Addr} {fd_is_integer : FuncData} (G_is_integer : FnOk P w K mg base CX0 1 f_is_integer fd_is_integer ["value"] (spPure K rel_is_integer)) (g_is_integer : mg "is_integer" = some (.ref f_is_integer)) (k_is_integer : PySem.W.keepIn K (.ref f_is_integer) = true) (b_is_integer : Binds K fd_is_integer ["value"] [])
    (m_isinstance : mg "isinstance" = none)
    (m_tuple : mg "tuple" = none)
    (m_list : mg "list" = none)
    (m_len : mg "len" = none) :
    FnOk P w K mg base CX0 2 f_are_integers fd_are_integers ["value", "many"] (spPure K rel_are_integers) := by
  refine F.ok sc_are_integers (fun vs H Q E h => ?_) (fun cdv A outer s H vs Q E hr h => ?_)
  · obtain ⟨ds, r, hd, hr0, _⟩ := h; obtain ⟨d, n, rfl, hl, rfl⟩ := hr0; exact isD_len hd
  · obtain ⟨ds, r, hd, hr0, q⟩ := h
    obtain ⟨d, n, rfl, hl, rfl⟩ := hr0
    obtain ⟨x0, x1, rfl, h0, h1⟩ := dal2 (W := W0) (dpl0 _ _ hd)
    refine ⟨_, (pss_cons (ps_if (PW.pt (pw_or (pt_not (pt_val (pe_callB (id := "isinstance") (r := rIsiT K) call_isiT (by rfl) m_isinstance (by decide +kernel) (pa_cons (pv 0) (pa_cons (pe_tup (pa_cons (pe_bltn (v := .ty "list") (by rfl) m_list (by decide +kernel) rfl) (pa_cons (pe_bltn (v := .ty "tuple") (by rfl) m_tuple (by decide +kernel) rfl) pa_nil))) pa_nil))))) (pw_or1 (pt_cmpR op_ne (pe_callB (id := "len") (r := (fun xs H Q => ∃ p ys, xs = [.ref p] ∧ (SqL K H p ys ∨ SqT K H p ys) ∧ Q (.int ys.length) H)) call_len_seq (by rfl) m_len (by decide +kernel) (pa_cons (pv 0) pa_nil)) (pv 1) (nomark _)))))
      (pss_one (ps_ret pe_bl))
      pss_nil)
    (pss_one (ps_ret (pe_callB (id := "all") (r := rAll K) (cr_all rfl) (by rfl) m_all (by decide +kernel) (pa_cons (pe_lc (own := [("each", 2)]) (g := gName 2) (tt := tYes) rfl sc_are_integers.nd (pi_seq (pv 0)) (blkOk_by (N := ["value", "many", "each"]) (sc := defScope s_are_integers) (by decide +kernel)) (fun _ _ _ _ _ => pg_name (i := 2) sc_are_integers.nd rfl (Or.inl rfl)) (fun _ _ _ _ _ => pts_nil) (fun _ _ _ _ _ => (pe_call G_is_integer (hr.mono (by decide)) (by rfl) g_is_integer k_is_integer b_is_integer .nil pass0 (pa_cons (pv 2) pa_nil)))) pa_nil))))), ?_⟩
    
    refine' st_if0 (K := K) (b := !(isLst d || isTup d) || !decide ((lenD d : Int) = n)) (JB.eq ?jt ?jr) ?kc (fun hb H1 e1 => ?m1) (fun hb H1 e1 => ?m2)
    case jt => (cases h1; walk_at "jt")
    case jr => rfl
    case kc => decide
    case m1 =>
      refine' pure_ret e1 q (JD.eq ?j ?e) ?kc
      case j => walk_at "j"
      case e => (rw [seq_or] at hb; unfold areI; revert hb; cases isSeq d <;> cases decide ((lenD d : Int) = n) <;> simp)
      case kc => decide
    case m2 =>
      rw [seq_or] at hb
      have hs : isSeq d = true := by revert hb; cases isSeq d <;> simp
      have hn : decide ((lenD d : Int) = n) = true := by revert hb; cases decide ((lenD d : Int) = n) <;> simp
      (first | refine st_nx ?_ | refine nx_mk ?_)
      refine' pure_ret e1 q (JD.eq (jd_all (bs := (itemsD d).map isI) ?j) ?e) ?kc
      case j =>
    refine' ja_cons (JD.eq (jd_lc1 (fun d => .bool (isI d)) ?k1 hs rfl hl (fun x => rfl) ?he ?hn) ?eq) ja_nil
    case k1 => walk_at "j"
    case he => intro d' x H2 _ e2 hx; refine' jd0 ?j3 rfl ?l3; (case j3 => walk_at "j"); (case l3 => decide)
    case hn => intro _ _; rfl
    case eq => rw [List.map_map]; rfl
      case e => (unfold areI; rw [hs, hn, List.all_map]; rfl)
      case kc => decide
--OK is_fraction
local macro_rules | `(tactic| walk_at "rel") => `(tactic| exact ⟨_, _, rfl, by assumption, rfl⟩)
local macro_rules | `(tactic| walk_at "atx") => `(tactic| (simp only [*]; rfl))
def rel_is_fraction : List PyData → PyData → Prop := fun ds r => ∃ d, ds = [d] ∧ (itemsD d).length < 100000 ∧ r = .bool (isFrB d)
set_option maxHeartbeats 4000000 in
theorem ok_is_fraction {f_is_fraction : Addr} {fd_is_fraction : FuncData} (F : Fun K "is_fraction" "is_fraction" s_is_fraction f_is_fraction fd_is_fraction) {f_are_integers : Addr} {fd_are_integers : FuncData} (G_are_integers : FnOk P w K mg base CX0 2 f_are_integers fd_are_integers ["value", "many"] (spPure K rel_are_integers)) (g_are_integers : mg "are_integers" = some (.ref f_are_integers)) (k_are_integers : PySem.W.keepIn K (.ref f_are_integers) = true) (b_are_integers : Binds K fd_are_integers ["value", "many"] [])
    (g_gcd : mg "gcd" = some (.builtin "math.gcd")) :
    FnOk P w K mg base CX0 3 f_is_fraction fd_is_fraction ["value"] (spPure K rel_is_fraction) := by
  refine F.ok sc_is_fraction (fun vs H Q E h => ?_) (fun cdv A outer s H vs Q E hr h => ?_)
  · obtain ⟨ds, r, hd, hr0, _⟩ := h; obtain ⟨d, rfl, hl, rfl⟩ := hr0; exact isD_len hd
  · obtain ⟨ds, r, hd, hr0, q⟩ := h
    obtain ⟨d, rfl, hl, rfl⟩ := hr0
    obtain ⟨x0, rfl, h0⟩ := dal1 (W := W0) (dpl0 _ _ hd)
    refine ⟨_, (pss_one (ps_ret (pe_and (pe_call G_are_integers (hr.mono (by decide)) (by rfl) g_are_integers k_are_integers b_are_integers .nil pass0 (pa_cons (pv 0) (pa_cons pe_int pa_nil))) (pe_and (pe_cmpR op_gt (pe_ix (r := rIx K) ix_seq (pv 0) pe_int (fun _ _ => rfl)) pe_int (nomark _)) (pe_one (pe_cmpR op_eq (pe_callBfun cr_gcd (by rfl) g_gcd (pa_cons (pe_ix (r := rIx K) ix_seq (pv 0) pe_int (fun _ _ => rfl)) (pa_cons (pe_ix (r := rIx K) ix_seq (pv 0) pe_int (fun _ _ => rfl)) pa_nil))) pe_int (nomark _))))))), ?_⟩
    
    by_cases hB : areI d 2 = true
    · obtain ⟨a, b, hs, hi⟩ := areI2 hB
      refine' pure_ret ExM.refl q (JD.eq ?j ?e) ?kc
      case j => walk_at "j"
      case e => (rw [isFrB_pair hs hi, hB, Bool.true_and])
      case kc => decide
    · rw [Bool.not_eq_true] at hB
      refine' pure_ret ExM.refl q (JD.eq (jd_andV (JD.eq ?j1 ?e1) (fun hyp => (Bool.noConfusion (show false = true from hyp) : JD K W0 _ _ _ 0 (.bool true)))) ?e) ?kc
      case j1 => walk_at "j"
      case e1 => rw [hB]
      case e => (rw [isFrB_not hB]; rfl)
      case kc => decide
--OK need_number
local macro_rules | `(tactic| walk_at "rel") => `(tactic| exact ⟨_, _, _, rfl, by assumption, by assumption, rfl⟩)
def rel_need_number : List PyData → PyData → Prop := fun ds r => ∃ d p lo hi, ds = [d, p, lo, hi] ∧ (lo = .none ∨ ∃ i, lo = .int i) ∧ (hi = .none ∨ ∃ i, hi = .int i) ∧ within d lo hi = true ∧ r = .none
set_option maxHeartbeats 4000000 in
theorem ok_need_number {f_need_number : Addr} {fd_need_number : FuncData} (F : Fun K "need_number" "need_number" s_need_number f_need_number fd_need_number) {f_is_within : Addr} {fd_is_within : FuncData} (G_is_within : FnOk P w K mg base CX0 2 f_is_within fd_is_within ["value", "least", "most"] (spPure K rel_is_within)) (g_is_within : mg "is_within" = some (.ref f_is_within)) (k_is_within : PySem.W.keepIn K (.ref f_is_within) = true) (b_is_within : Binds K fd_is_within ["value", "least", "most"] []) :
    FnOk P w K mg base CX0 3 f_need_number fd_need_number ["value", "part", "least", "most"] (spPure K rel_need_number) := by
  refine F.ok sc_need_number (fun vs H Q E h => ?_) (fun cdv A outer s H vs Q E hr h => ?_)
  · obtain ⟨ds, r, hd, hr0, _⟩ := h; obtain ⟨d, p, lo, hi, rfl, hlo, hhi, hw, rfl⟩ := hr0; exact isD_len hd
  · obtain ⟨ds, r, hd, hr0, q⟩ := h
    obtain ⟨d, p, lo, hi, rfl, hlo, hhi, hw, rfl⟩ := hr0
    obtain ⟨x0, x1, x2, x3, rfl, h0, h1, h2, h3⟩ := dal4 (W := W0) (dpl0 _ _ hd)
    refine ⟨_, (pss_one (ps_if (pt_not (pt_val (pe_call G_is_within (hr.mono (by decide)) (by rfl) g_is_within k_is_within b_is_within .nil pass0 (pa_cons (pv 0) (pa_cons (pv 2) (pa_cons (pv 3) pa_nil))))))
      (pss_one ps_never)
      pss_nil)), ?_⟩
    
    refine' st_if0 (K := K) (b := !within d lo hi) (JB.eq ?jt ?jr) ?kc (fun hb H1 e1 => ?m1) (fun hb H1 e1 => ?m2)
    case jt => walk_at "jt"
    case jr => rfl
    case kc => decide
    case m1 => (rw [hw] at hb; cases hb)
    case m2 => exact q .non H1 (ex0 e1) .non
--OK need_fraction
local macro_rules | `(tactic| walk_at "rel") => `(tactic| exact ⟨_, rfl, by assumption, rfl⟩)
def rel_need_fraction : List PyData → PyData → Prop := fun ds r => ∃ d p x, ds = [d, p] ∧ isFr d x ∧ r = frD x
set_option maxHeartbeats 4000000 in
theorem ok_need_fraction {f_need_fraction : Addr} {fd_need_fraction : FuncData} (F : Fun K "need_fraction" "need_fraction" s_need_fraction f_need_fraction fd_need_fraction) {f_is_fraction : Addr} {fd_is_fraction : FuncData} (G_is_fraction : FnOk P w K mg base CX0 3 f_is_fraction fd_is_fraction ["value"] (spPure K rel_is_fraction)) (g_is_fraction : mg "is_fraction" = some (.ref f_is_fraction)) (k_is_fraction : PySem.W.keepIn K (.ref f_is_fraction) = true) (b_is_fraction : Binds K fd_is_fraction ["value"] []) :
    FnOk P w K mg base CX0 4 f_need_fraction fd_need_fraction ["value", "part"] (spPure K rel_need_fraction) := by
  refine F.ok sc_need_fraction (fun vs H Q E h => ?_) (fun cdv A outer s H vs Q E hr h => ?_)
  · obtain ⟨ds, r, hd, hr0, _⟩ := h; obtain ⟨d, p, x, rfl, hx, rfl⟩ := hr0; exact isD_len hd
  · obtain ⟨ds, r, hd, hr0, q⟩ := h
    obtain ⟨d, p, x, rfl, hx, rfl⟩ := hr0
    obtain ⟨x0, x1, rfl, h0, h1⟩ := dal2 (W := W0) (dpl0 _ _ hd)
    refine ⟨_, (pss_cons (ps_if (pt_not (pt_val (pe_call G_is_fraction (hr.mono (by decide)) (by rfl) g_is_fraction k_is_fraction b_is_fraction .nil pass0 (pa_cons (pv 0) pa_nil))))
      (pss_one ps_never)
      pss_nil)
    (pss_one (ps_ret (pe_tup (pa_cons (pe_ix (r := rIx K) ix_seq (pv 0) pe_int (fun _ _ => rfl)) (pa_cons (pe_ix (r := rIx K) ix_seq (pv 0) pe_int (fun _ _ => rfl)) pa_nil)))))), ?_⟩
    
    have hl : (itemsD d).length < 100000 := by rw [hx.2]; show 2 < _; decide
    refine' st_if0 (K := K) (b := !isFrB d) (JB.eq ?jt ?jr) ?kc (fun hb H1 e1 => ?m1) (fun hb H1 e1 => ?m2)
    case jt => walk_at "jt"
    case jr => rfl
    case kc => decide
    case m1 => (rw [isFrB_of hx] at hb; cases hb)
    case m2 => walk_at "ret"
--OK least_pair
local macro_rules | `(tactic| walk_at "jc") => `(tactic| exact gcd_small (by assumption) (by assumption) _)
def rel_least_pair : List PyData → PyData → Prop := fun ds r => ∃ u w : Int, ds = [.int u, .int w] ∧ w ≠ 0 ∧ w.natAbs < 2 ^ 8999 ∧ r = frD (Rat.divInt u w)
set_option maxHeartbeats 4000000 in
theorem ok_least_pair {f_least_pair : Addr} {fd_least_pair : FuncData} (F : Fun K "least_pair" "least_pair" s_least_pair f_least_pair fd_least_pair) (g_gcd : mg "gcd" = some (.builtin "math.gcd")) :
    FnOk P w K mg base CX0 1 f_least_pair fd_least_pair ["up", "down"] (spPure K rel_least_pair) := by
  refine F.ok sc_least_pair (fun vs H Q E h => ?_) (fun cdv A outer s H vs Q E hr h => ?_)
  · obtain ⟨ds, r, hd, hr0, _⟩ := h; obtain ⟨u, w, rfl, hw, hz, rfl⟩ := hr0; exact isD_len hd
  · obtain ⟨ds, r, hd, hr0, q⟩ := h
    obtain ⟨u, w, rfl, hw, hz, rfl⟩ := hr0
    obtain ⟨x0, x1, rfl, h0, h1⟩ := dal2 (W := W0) (dpl0 _ _ hd)
    refine ⟨_, (pss_cons (ps_set (i := 2) sc_least_pair.nd rfl (.inl rfl) (pe_ifExp (pt_cmpR op_gt (pv 1) pe_int (nomark _)) (pe_callBfun cr_gcd (by rfl) g_gcd (pa_cons (pv 0) (pa_cons (pv 1) pa_nil))) (pe_un un_neg (pe_callBfun cr_gcd (by rfl) g_gcd (pa_cons (pv 0) (pa_cons (pv 1) pa_nil))))))
    (pss_one (ps_ret (pe_tup (pa_cons (pe_op op_fdivA (pv 0) (pv 2)) (pa_cons (pe_op op_fdivA (pv 1) (pv 2)) pa_nil)))))), ?_⟩
    
    refine' st_set0 (P := fun v H2 => Da K W0 H2 v (.int (if w > 0 then (Nat.gcd u.natAbs w.natAbs : Nat) else -(Nat.gcd u.natAbs w.natAbs : Nat)))) (c := 0) ?j (by decide) (fun v H1 e1 hv => ?m1)
    case j =>
      cases h0; cases h1
      refine' J.le (j_if (K := K) (c1 := 0) ?t ?g1 ?g2) ?l
      case t => walk_at "jt"
      case g1 => (intro hb; refine' jd0 ?j1 ?e1 ?l1; (case j1 => walk_at "j"); (case e1 => rw [if_pos (of_decide_eq_true hb)]); (case l1 => decide))
      case g2 => (intro hb; refine' jd0 ?j2 ?e2 ?l2; (case j2 => walk_at "j"); (case e2 => rw [if_neg (of_decide_eq_false hb)]); (case l2 => decide))
      case l => decide
    case m1 =>
      have hv2 := hv.int
      subst hv2
      cases h0; cases h1
      (first | refine st_nx ?_ | refine nx_mk ?_)
      refine' pure_ret e1 q (JD.eq ?j ?e) ?kc
      case j => walk_at "j"
      case e => exact lp_eq u w hw
      case kc => decide
--OK both
local macro_rules | `(tactic| walk_at "rel") => `(tactic| exact ⟨_, _, rfl, mul_ne (den_ne _) (den_ne _), den_small (by assumption) (by assumption), rfl⟩)
def rel_both : List PyData → PyData → Prop := fun ds r => ∃ d e p x, ds = [d, e] ∧ isFr d p ∧ isFr e x ∧ Bd p 4000 ∧ Bd x 4000 ∧ r = frD (p + x)
set_option maxHeartbeats 4000000 in
theorem ok_both {f_both : Addr} {fd_both : FuncData} (F : Fun K "both" "both" s_both f_both fd_both) {f_least_pair : Addr} {fd_least_pair : FuncData} (G_least_pair : FnOk P w K mg base CX0 1 f_least_pair fd_least_pair ["up", "down"] (spPure K rel_least_pair)) (g_least_pair : mg "least_pair" = some (.ref f_least_pair)) (k_least_pair : PySem.W.keepIn K (.ref f_least_pair) = true) (b_least_pair : Binds K fd_least_pair ["up", "down"] []) :
    FnOk P w K mg base CX0 2 f_both fd_both ["one", "other"] (spPure K rel_both) := by
  refine F.ok sc_both (fun vs H Q E h => ?_) (fun cdv A outer s H vs Q E hr h => ?_)
  · obtain ⟨ds, r, hd, hr0, _⟩ := h; obtain ⟨d, e, p, x, rfl, hd1, he1, hp, hq, rfl⟩ := hr0; exact isD_len hd
  · obtain ⟨ds, r, hd, hr0, q⟩ := h
    obtain ⟨d, e, p, x, rfl, hd1, he1, hp, hq, rfl⟩ := hr0
    obtain ⟨x0, x1, rfl, h0, h1⟩ := dal2 (W := W0) (dpl0 _ _ hd)
    refine ⟨_, (pss_one (ps_ret (pe_call G_least_pair (hr.mono (by decide)) (by rfl) g_least_pair k_least_pair b_least_pair .nil pass0 (pa_cons (pe_op op_add (pe_op op_mulW (pe_ix (r := rIx K) ix_seq (pv 0) pe_int (fun _ _ => rfl)) (pe_ix (r := rIx K) ix_seq (pv 1) pe_int (fun _ _ => rfl))) (pe_op op_mulW (pe_ix (r := rIx K) ix_seq (pv 1) pe_int (fun _ _ => rfl)) (pe_ix (r := rIx K) ix_seq (pv 0) pe_int (fun _ _ => rfl)))) (pa_cons (pe_op op_mulW (pe_ix (r := rIx K) ix_seq (pv 0) pe_int (fun _ _ => rfl)) (pe_ix (r := rIx K) ix_seq (pv 1) pe_int (fun _ _ => rfl))) pa_nil))))), ?_⟩
    
    have hp1 := hp.1
    have hp2 : (p.den : Int).natAbs < 2 ^ 4000 := hp.2
    have hq1 := hq.1
    have hq2 : (x.den : Int).natAbs < 2 ^ 4000 := hq.2
    
    refine' pure_ret (ExM.refl) q (JD.eq ?j ?e) ?kc
    case j => walk_at "j"
    case e => rw [add_lp]
    case kc => decide
--OK times
def rel_times : List PyData → PyData → Prop := fun ds r => ∃ d e p x, ds = [d, e] ∧ isFr d p ∧ isFr e x ∧ Bd p 4000 ∧ Bd x 4000 ∧ r = frD (p * x)
set_option maxHeartbeats 4000000 in
theorem ok_times {f_times : Addr} {fd_times : FuncData} (F : Fun K "times" "times" s_times f_times fd_times) {f_least_pair : Addr} {fd_least_pair : FuncData} (G_least_pair : FnOk P w K mg base CX0 1 f_least_pair fd_least_pair ["up", "down"] (spPure K rel_least_pair)) (g_least_pair : mg "least_pair" = some (.ref f_least_pair)) (k_least_pair : PySem.W.keepIn K (.ref f_least_pair) = true) (b_least_pair : Binds K fd_least_pair ["up", "down"] []) :
    FnOk P w K mg base CX0 2 f_times fd_times ["one", "other"] (spPure K rel_times) := by
  refine F.ok sc_times (fun vs H Q E h => ?_) (fun cdv A outer s H vs Q E hr h => ?_)
  · obtain ⟨ds, r, hd, hr0, _⟩ := h; obtain ⟨d, e, p, x, rfl, hd1, he1, hp, hq, rfl⟩ := hr0; exact isD_len hd
  · obtain ⟨ds, r, hd, hr0, q⟩ := h
    obtain ⟨d, e, p, x, rfl, hd1, he1, hp, hq, rfl⟩ := hr0
    obtain ⟨x0, x1, rfl, h0, h1⟩ := dal2 (W := W0) (dpl0 _ _ hd)
    refine ⟨_, (pss_one (ps_ret (pe_call G_least_pair (hr.mono (by decide)) (by rfl) g_least_pair k_least_pair b_least_pair .nil pass0 (pa_cons (pe_op op_mulW (pe_ix (r := rIx K) ix_seq (pv 0) pe_int (fun _ _ => rfl)) (pe_ix (r := rIx K) ix_seq (pv 1) pe_int (fun _ _ => rfl))) (pa_cons (pe_op op_mulW (pe_ix (r := rIx K) ix_seq (pv 0) pe_int (fun _ _ => rfl)) (pe_ix (r := rIx K) ix_seq (pv 1) pe_int (fun _ _ => rfl))) pa_nil))))), ?_⟩
    
    have hp1 := hp.1
    have hp2 : (p.den : Int).natAbs < 2 ^ 4000 := hp.2
    have hq1 := hq.1
    have hq2 : (x.den : Int).natAbs < 2 ^ 4000 := hq.2
    
    refine' pure_ret (ExM.refl) q (JD.eq ?j ?e) ?kc
    case j => walk_at "j"
    case e => rw [mul_lp]
    case kc => decide
--OK turned
def rel_turned : List PyData → PyData → Prop := fun ds r => ∃ d p, ds = [d] ∧ isFr d p ∧ r = frD (-p)
set_option maxHeartbeats 4000000 in
theorem ok_turned {f_turned : Addr} {fd_turned : FuncData} (F : Fun K "turned" "turned" s_turned f_turned fd_turned)  :
    FnOk P w K mg base CX0 1 f_turned fd_turned ["one"] (spPure K rel_turned) := by
  refine F.ok sc_turned (fun vs H Q E h => ?_) (fun cdv A outer s H vs Q E hr h => ?_)
  · obtain ⟨ds, r, hd, hr0, _⟩ := h; obtain ⟨d, p, rfl, hd1, rfl⟩ := hr0; exact isD_len hd
  · obtain ⟨ds, r, hd, hr0, q⟩ := h
    obtain ⟨d, p, rfl, hd1, rfl⟩ := hr0
    obtain ⟨x0, rfl, h0⟩ := dal1 (W := W0) (dpl0 _ _ hd)
    refine ⟨_, (pss_one (ps_ret (pe_tup (pa_cons (pe_un un_neg (pe_ix (r := rIx K) ix_seq (pv 0) pe_int (fun _ _ => rfl))) (pa_cons (pe_ix (r := rIx K) ix_seq (pv 0) pe_int (fun _ _ => rfl)) pa_nil))))), ?_⟩
    
    refine' pure_ret (ExM.refl) q (JD.eq ?j ?e) ?kc
    case j => walk_at "j"
    case e => rfl
    case kc => decide
--OK is_less
def rel_is_less : List PyData → PyData → Prop := fun ds r => ∃ d e p x, ds = [d, e] ∧ isFr d p ∧ isFr e x ∧ Bd p 4000 ∧ Bd x 4000 ∧ r = .bool (decide (p < x))
set_option maxHeartbeats 4000000 in
theorem ok_is_less {f_is_less : Addr} {fd_is_less : FuncData} (F : Fun K "is_less" "is_less" s_is_less f_is_less fd_is_less)  :
    FnOk P w K mg base CX0 1 f_is_less fd_is_less ["one", "other"] (spPure K rel_is_less) := by
  refine F.ok sc_is_less (fun vs H Q E h => ?_) (fun cdv A outer s H vs Q E hr h => ?_)
  · obtain ⟨ds, r, hd, hr0, _⟩ := h; obtain ⟨d, e, p, x, rfl, hd1, he1, hp, hq, rfl⟩ := hr0; exact isD_len hd
  · obtain ⟨ds, r, hd, hr0, q⟩ := h
    obtain ⟨d, e, p, x, rfl, hd1, he1, hp, hq, rfl⟩ := hr0
    obtain ⟨x0, x1, rfl, h0, h1⟩ := dal2 (W := W0) (dpl0 _ _ hd)
    refine ⟨_, (pss_one (ps_ret (pe_cmpR op_lt (pe_op op_mulW (pe_ix (r := rIx K) ix_seq (pv 0) pe_int (fun _ _ => rfl)) (pe_ix (r := rIx K) ix_seq (pv 1) pe_int (fun _ _ => rfl))) (pe_op op_mulW (pe_ix (r := rIx K) ix_seq (pv 1) pe_int (fun _ _ => rfl)) (pe_ix (r := rIx K) ix_seq (pv 0) pe_int (fun _ _ => rfl))) (nomark _)))), ?_⟩
    
    have hp1 := hp.1
    have hp2 : (p.den : Int).natAbs < 2 ^ 4000 := hp.2
    have hq1 := hq.1
    have hq2 : (x.den : Int).natAbs < 2 ^ 4000 := hq.2
    
    refine' pure_ret (ExM.refl) q (JD.eq ?j ?e) ?kc
    case j => walk_at "j"
    case e => rw [lt_lp]
    case kc => decide
--OK reduced
local macro_rules | `(tactic| walk_at "rel") => `(tactic| first | exact ⟨_, rfl, rfl⟩ | exact ⟨_, _, _, _, rfl, .inl rfl, .inl rfl, rfl, rfl⟩ | exact ⟨_, _, rfl, by assumption, by assumption, rfl⟩)
def rel_reduced : List PyData → PyData → Prop := fun ds r => ∃ u w : Int, ds = [.int u, .int w] ∧ w ≠ 0 ∧ w.natAbs < 2 ^ 8999 ∧ r = frD (Rat.divInt u w)
set_option maxHeartbeats 4000000 in
theorem ok_reduced {f_reduced : Addr} {fd_reduced : FuncData} (F : Fun K "reduced" "reduced" s_reduced f_reduced fd_reduced) {f_least_pair : Addr} {fd_least_pair : FuncData} (G_least_pair : FnOk P w K mg base CX0 1 f_least_pair fd_least_pair ["up", "down"] (spPure K rel_least_pair)) (g_least_pair : mg "least_pair" = some (.ref f_least_pair)) (k_least_pair : PySem.W.keepIn K (.ref f_least_pair) = true) (b_least_pair : Binds K fd_least_pair ["up", "down"] [])
    {f_is_integer : Addr} {fd_is_integer : FuncData} (G_is_integer : FnOk P w K mg base CX0 1 f_is_integer fd_is_integer ["value"] (spPure K rel_is_integer)) (g_is_integer : mg "is_integer" = some (.ref f_is_integer)) (k_is_integer : PySem.W.keepIn K (.ref f_is_integer) = true) (b_is_integer : Binds K fd_is_integer ["value"] [])
    {f_need_number : Addr} {fd_need_number : FuncData} (G_need_number : FnOk P w K mg base CX0 3 f_need_number fd_need_number ["value", "part", "least", "most"] (spPure K rel_need_number)) (g_need_number : mg "need_number" = some (.ref f_need_number)) (k_need_number : PySem.W.keepIn K (.ref f_need_number) = true) (b_need_number : Binds K fd_need_number ["value", "part", "least", "most"] []) :
    FnOk P w K mg base CX0 4 f_reduced fd_reduced ["up", "down"] (spPure K rel_reduced) := by
  refine F.ok sc_reduced (fun vs H Q E h => ?_) (fun cdv A outer s H vs Q E hr h => ?_)
  · obtain ⟨ds, r, hd, hr0, _⟩ := h; obtain ⟨u, w, rfl, hw, hz, rfl⟩ := hr0; exact isD_len hd
  · obtain ⟨ds, r, hd, hr0, q⟩ := h
    obtain ⟨u, w, rfl, hw, hz, rfl⟩ := hr0
    obtain ⟨x0, x1, rfl, h0, h1⟩ := dal2 (W := W0) (dpl0 _ _ hd)
    refine ⟨_, (pss_cons (ps_expr (pe_call G_need_number (hr.mono (by decide)) (by rfl) g_need_number k_need_number b_need_number .nil pass0 (pa_cons (pv 0) (pa_cons pe_str (pa_cons pe_non (pa_cons pe_non pa_nil))))))
    (pss_cons (ps_if (PW.pt (pw_or (pt_not (pt_val (pe_call G_is_integer (hr.mono (by decide)) (by rfl) g_is_integer k_is_integer b_is_integer .nil pass0 (pa_cons (pv 1) pa_nil)))) (pw_or1 (pt_cmpR op_eq (pv 1) pe_int (nomark _)))))
      (pss_one ps_never)
      pss_nil)
    (pss_one (ps_ret (pe_call G_least_pair (hr.mono (by decide)) (by rfl) g_least_pair k_least_pair b_least_pair .nil pass0 (pa_cons (pv 0) (pa_cons (pv 1) pa_nil))))))), ?_⟩
    
    cases h0; cases h1
    refine' st_drop (W := W0) (n := 0) trivial (?j : JD K W0 _ _ _ _ .none) ?l (fun H1 e1 _ => ?m1)
    case j => walk_at "j"
    case l => decide
    case m1 =>
    walk_at "nx"
    refine' st_if0 (K := K) (b := !isI (.int w) || decide (w = 0)) (JB.eq ?jt ?jr) ?kc (fun hb H2 e2 => ?m1) (fun hb H2 e2 => ?m2)
    case jt => walk_at "jt"
    case jr => rfl
    case kc => decide
    case m1 => (rw [show decide (w = 0) = false from decide_eq_false hw] at hb; cases hb)
    case m2 => walk_at "ret"
--OK added
local macro_rules | `(tactic| walk_at "rel") => `(tactic| first | exact ⟨_, _, _, rfl, by assumption, rfl⟩ | exact ⟨_, _, rfl, isFr_D _, rfl⟩ | exact ⟨_, _, _, _, rfl, isFr_D _, isFr_D _, by assumption, by first | assumption | exact Bd.neg (by assumption), rfl⟩)
def rel_added : List PyData → PyData → Prop := fun ds r => ∃ d e p x, ds = [d, e] ∧ isFr d p ∧ isFr e x ∧ Bd p 4000 ∧ Bd x 4000 ∧ r = frD (p + x)
set_option maxHeartbeats 4000000 in
theorem ok_added {f_added : Addr} {fd_added : FuncData} (F : Fun K "added" "added" s_added f_added fd_added) {f_both : Addr} {fd_both : FuncData} (G_both : FnOk P w K mg base CX0 2 f_both fd_both ["one", "other"] (spPure K rel_both)) (g_both : mg "both" = some (.ref f_both)) (k_both : PySem.W.keepIn K (.ref f_both) = true) (b_both : Binds K fd_both ["one", "other"] [])
    {f_need_fraction : Addr} {fd_need_fraction : FuncData} (G_need_fraction : FnOk P w K mg base CX0 4 f_need_fraction fd_need_fraction ["value", "part"] (spPure K rel_need_fraction)) (g_need_fraction : mg "need_fraction" = some (.ref f_need_fraction)) (k_need_fraction : PySem.W.keepIn K (.ref f_need_fraction) = true) (b_need_fraction : Binds K fd_need_fraction ["value", "part"] []) :
    FnOk P w K mg base CX0 5 f_added fd_added ["one", "other"] (spPure K rel_added) := by
  refine F.ok sc_added (fun vs H Q E h => ?_) (fun cdv A outer s H vs Q E hr h => ?_)
  · obtain ⟨ds, r, hd, hr0, _⟩ := h; obtain ⟨d, e, p, x, rfl, hd1, he1, hp, hq, rfl⟩ := hr0; exact isD_len hd
  · obtain ⟨ds, r, hd, hr0, q⟩ := h
    obtain ⟨d, e, p, x, rfl, hd1, he1, hp, hq, rfl⟩ := hr0
    obtain ⟨x0, x1, rfl, h0, h1⟩ := dal2 (W := W0) (dpl0 _ _ hd)
    refine ⟨_, (pss_one (ps_ret (pe_call G_both (hr.mono (by decide)) (by rfl) g_both k_both b_both .nil pass0 (pa_cons (pe_call G_need_fraction (hr.mono (by decide)) (by rfl) g_need_fraction k_need_fraction b_need_fraction .nil pass0 (pa_cons (pv 0) (pa_cons pe_str pa_nil))) (pa_cons (pe_call G_need_fraction (hr.mono (by decide)) (by rfl) g_need_fraction k_need_fraction b_need_fraction .nil pass0 (pa_cons (pv 1) (pa_cons pe_str pa_nil))) pa_nil))))), ?_⟩
    
    refine' pure_ret (ExM.refl) q (JD.eq ?j ?e) ?kc
    case j => walk_at "j"
    case e => first | rfl | rw [Rat.sub_eq_add_neg]
    case kc => decide
--OK less
local macro_rules | `(tactic| walk_at "rel") => `(tactic| first | exact ⟨_, _, _, rfl, by assumption, rfl⟩ | exact ⟨_, _, rfl, isFr_D _, rfl⟩ | exact ⟨_, _, _, _, rfl, isFr_D _, isFr_D _, by assumption, by first | assumption | exact Bd.neg (by assumption), rfl⟩)
def rel_less : List PyData → PyData → Prop := fun ds r => ∃ d e p x, ds = [d, e] ∧ isFr d p ∧ isFr e x ∧ Bd p 4000 ∧ Bd x 4000 ∧ r = frD (p - x)
set_option maxHeartbeats 4000000 in
theorem ok_less {f_less : Addr} {fd_less : FuncData} (F : Fun K "less" "less" s_less f_less fd_less) {f_both : Addr} {fd_both : FuncData} (G_both : FnOk P w K mg base CX0 2 f_both fd_both ["one", "other"] (spPure K rel_both)) (g_both : mg "both" = some (.ref f_both)) (k_both : PySem.W.keepIn K (.ref f_both) = true) (b_both : Binds K fd_both ["one", "other"] [])
    {f_turned : Addr} {fd_turned : FuncData} (G_turned : FnOk P w K mg base CX0 1 f_turned fd_turned ["one"] (spPure K rel_turned)) (g_turned : mg "turned" = some (.ref f_turned)) (k_turned : PySem.W.keepIn K (.ref f_turned) = true) (b_turned : Binds K fd_turned ["one"] [])
    {f_need_fraction : Addr} {fd_need_fraction : FuncData} (G_need_fraction : FnOk P w K mg base CX0 4 f_need_fraction fd_need_fraction ["value", "part"] (spPure K rel_need_fraction)) (g_need_fraction : mg "need_fraction" = some (.ref f_need_fraction)) (k_need_fraction : PySem.W.keepIn K (.ref f_need_fraction) = true) (b_need_fraction : Binds K fd_need_fraction ["value", "part"] []) :
    FnOk P w K mg base CX0 5 f_less fd_less ["one", "other"] (spPure K rel_less) := by
  refine F.ok sc_less (fun vs H Q E h => ?_) (fun cdv A outer s H vs Q E hr h => ?_)
  · obtain ⟨ds, r, hd, hr0, _⟩ := h; obtain ⟨d, e, p, x, rfl, hd1, he1, hp, hq, rfl⟩ := hr0; exact isD_len hd
  · obtain ⟨ds, r, hd, hr0, q⟩ := h
    obtain ⟨d, e, p, x, rfl, hd1, he1, hp, hq, rfl⟩ := hr0
    obtain ⟨x0, x1, rfl, h0, h1⟩ := dal2 (W := W0) (dpl0 _ _ hd)
    refine ⟨_, (pss_one (ps_ret (pe_call G_both (hr.mono (by decide)) (by rfl) g_both k_both b_both .nil pass0 (pa_cons (pe_call G_need_fraction (hr.mono (by decide)) (by rfl) g_need_fraction k_need_fraction b_need_fraction .nil pass0 (pa_cons (pv 0) (pa_cons pe_str pa_nil))) (pa_cons (pe_call G_turned (hr.mono (by decide)) (by rfl) g_turned k_turned b_turned .nil pass0 (pa_cons (pe_call G_need_fraction (hr.mono (by decide)) (by rfl) g_need_fraction k_need_fraction b_need_fraction .nil pass0 (pa_cons (pv 1) (pa_cons pe_str pa_nil))) pa_nil)) pa_nil))))), ?_⟩
    
    refine' pure_ret (ExM.refl) q (JD.eq ?j ?e) ?kc
    case j => walk_at "j"
    case e => first | rfl | rw [Rat.sub_eq_add_neg]
    case kc => decide
--OK multiplied
local macro_rules | `(tactic| walk_at "rel") => `(tactic| first | exact ⟨_, _, _, rfl, by assumption, rfl⟩ | exact ⟨_, _, rfl, isFr_D _, rfl⟩ | exact ⟨_, _, _, _, rfl, isFr_D _, isFr_D _, by assumption, by first | assumption | exact Bd.neg (by assumption), rfl⟩)
def rel_multiplied : List PyData → PyData → Prop := fun ds r => ∃ d e p x, ds = [d, e] ∧ isFr d p ∧ isFr e x ∧ Bd p 4000 ∧ Bd x 4000 ∧ r = frD (p * x)
set_option maxHeartbeats 4000000 in
theorem ok_multiplied {f_multiplied : Addr} {fd_multiplied : FuncData} (F : Fun K "multiplied" "multiplied" s_multiplied f_multiplied fd_multiplied) {f_times : Addr} {fd_times : FuncData} (G_times : FnOk P w K mg base CX0 2 f_times fd_times ["one", "other"] (spPure K rel_times)) (g_times : mg "times" = some (.ref f_times)) (k_times : PySem.W.keepIn K (.ref f_times) = true) (b_times : Binds K fd_times ["one", "other"] [])
    {f_need_fraction : Addr} {fd_need_fraction : FuncData} (G_need_fraction : FnOk P w K mg base CX0 4 f_need_fraction fd_need_fraction ["value", "part"] (spPure K rel_need_fraction)) (g_need_fraction : mg "need_fraction" = some (.ref f_need_fraction)) (k_need_fraction : PySem.W.keepIn K (.ref f_need_fraction) = true) (b_need_fraction : Binds K fd_need_fraction ["value", "part"] []) :
    FnOk P w K mg base CX0 5 f_multiplied fd_multiplied ["one", "other"] (spPure K rel_multiplied) := by
  refine F.ok sc_multiplied (fun vs H Q E h => ?_) (fun cdv A outer s H vs Q E hr h => ?_)
  · obtain ⟨ds, r, hd, hr0, _⟩ := h; obtain ⟨d, e, p, x, rfl, hd1, he1, hp, hq, rfl⟩ := hr0; exact isD_len hd
  · obtain ⟨ds, r, hd, hr0, q⟩ := h
    obtain ⟨d, e, p, x, rfl, hd1, he1, hp, hq, rfl⟩ := hr0
    obtain ⟨x0, x1, rfl, h0, h1⟩ := dal2 (W := W0) (dpl0 _ _ hd)
    refine ⟨_, (pss_one (ps_ret (pe_call G_times (hr.mono (by decide)) (by rfl) g_times k_times b_times .nil pass0 (pa_cons (pe_call G_need_fraction (hr.mono (by decide)) (by rfl) g_need_fraction k_need_fraction b_need_fraction .nil pass0 (pa_cons (pv 0) (pa_cons pe_str pa_nil))) (pa_cons (pe_call G_need_fraction (hr.mono (by decide)) (by rfl) g_need_fraction k_need_fraction b_need_fraction .nil pass0 (pa_cons (pv 1) (pa_cons pe_str pa_nil))) pa_nil))))), ?_⟩
    
    refine' pure_ret (ExM.refl) q (JD.eq ?j ?e) ?kc
    case j => walk_at "j"
    case e => first | rfl | rw [Rat.sub_eq_add_neg]
    case kc => decide
--OK below
local macro_rules | `(tactic| walk_at "rel") => `(tactic| first | exact ⟨_, _, _, rfl, by assumption, rfl⟩ | exact ⟨_, _, rfl, isFr_D _, rfl⟩ | exact ⟨_, _, _, _, rfl, isFr_D _, isFr_D _, by assumption, by first | assumption | exact Bd.neg (by assumption), rfl⟩)
def rel_below : List PyData → PyData → Prop := fun ds r => ∃ d e p x, ds = [d, e] ∧ isFr d p ∧ isFr e x ∧ Bd p 4000 ∧ Bd x 4000 ∧ r = .bool (decide (p < x))
set_option maxHeartbeats 4000000 in
theorem ok_below {f_below : Addr} {fd_below : FuncData} (F : Fun K "below" "below" s_below f_below fd_below) {f_is_less : Addr} {fd_is_less : FuncData} (G_is_less : FnOk P w K mg base CX0 1 f_is_less fd_is_less ["one", "other"] (spPure K rel_is_less)) (g_is_less : mg "is_less" = some (.ref f_is_less)) (k_is_less : PySem.W.keepIn K (.ref f_is_less) = true) (b_is_less : Binds K fd_is_less ["one", "other"] [])
    {f_need_fraction : Addr} {fd_need_fraction : FuncData} (G_need_fraction : FnOk P w K mg base CX0 4 f_need_fraction fd_need_fraction ["value", "part"] (spPure K rel_need_fraction)) (g_need_fraction : mg "need_fraction" = some (.ref f_need_fraction)) (k_need_fraction : PySem.W.keepIn K (.ref f_need_fraction) = true) (b_need_fraction : Binds K fd_need_fraction ["value", "part"] []) :
    FnOk P w K mg base CX0 5 f_below fd_below ["one", "other"] (spPure K rel_below) := by
  refine F.ok sc_below (fun vs H Q E h => ?_) (fun cdv A outer s H vs Q E hr h => ?_)
  · obtain ⟨ds, r, hd, hr0, _⟩ := h; obtain ⟨d, e, p, x, rfl, hd1, he1, hp, hq, rfl⟩ := hr0; exact isD_len hd
  · obtain ⟨ds, r, hd, hr0, q⟩ := h
    obtain ⟨d, e, p, x, rfl, hd1, he1, hp, hq, rfl⟩ := hr0
    obtain ⟨x0, x1, rfl, h0, h1⟩ := dal2 (W := W0) (dpl0 _ _ hd)
    refine ⟨_, (pss_one (ps_ret (pe_call G_is_less (hr.mono (by decide)) (by rfl) g_is_less k_is_less b_is_less .nil pass0 (pa_cons (pe_call G_need_fraction (hr.mono (by decide)) (by rfl) g_need_fraction k_need_fraction b_need_fraction .nil pass0 (pa_cons (pv 0) (pa_cons pe_str pa_nil))) (pa_cons (pe_call G_need_fraction (hr.mono (by decide)) (by rfl) g_need_fraction k_need_fraction b_need_fraction .nil pass0 (pa_cons (pv 1) (pa_cons pe_str pa_nil))) pa_nil))))), ?_⟩
    
    refine' pure_ret (ExM.refl) q (JD.eq ?j ?e) ?kc
    case j => walk_at "j"
    case e => first | rfl | rw [Rat.sub_eq_add_neg]
    case kc => decide
--OK _law_cooper
set_option maxHeartbeats 4000000 in
theorem ok__law_cooper {f__law_cooper : Addr} {fd__law_cooper : FuncData} (F : Fun K "_law_cooper" "_law_cooper" s__law_cooper f__law_cooper fd__law_cooper) (m_int : mg "int" = none) :
    FnOk P w K mg base CX0 1 f__law_cooper fd__law_cooper ["_law_script"] (spSat K) := by
  refine F.ok sc__law_cooper (fun vs H Q E h => ?_) (fun cdv A outer s H vs Q E hr h => ?_)
  · obtain ⟨a, ns, rfl, _⟩ := h; rfl
  · obtain ⟨a, ns, rfl, hS, hlen, q⟩ := h
    refine ⟨_, (pss_one (ps_ret (pe_lst (pa_cons (pe_lc (own := [("_law_cell", 1)]) (g := gName 1) (tt := tYes) rfl sc__law_cooper.nd (pi_seq (pe_slice (r := rSlL K) sl_list (pv 0) po_none (po_some pe_int))) (blkOk_by (N := ["_law_script", "_law_cell"]) (sc := defScope s__law_cooper) (by decide +kernel)) (fun _ _ _ _ _ => pg_name (i := 1) sc__law_cooper.nd rfl (Or.inl rfl)) (fun _ _ _ _ _ => pts_nil) (fun _ _ _ _ _ => (pe_callTy (T := "int") call_int1 (by rfl) m_int (by decide +kernel) (pa_cons (pv 1) pa_nil)))) (pa_cons pe_int (pa_cons pe_int pa_nil)))))), ?_⟩
    have hA : Da K W0 H (.ref a) (.list (ns.map PyData.int)) := da_sq hS (dal_of_ints ns)
    refine sat_ret (K := K) (ns := ns.take 60) (by rw [List.length_take]; omega) ?_ ?_ ?_ q
    · refine' J.le (J.imp (jl_lc1 (K := K) (ds := (ns.map PyData.int).take 60) (d0 := .list ((ns.map PyData.int).take 60)) (fun d => d) (JD.eq (jd_slL (ds := ns.map PyData.int) (lo := none) (hi := some 60) ?j1 jo_no (jo_int (K := K) jd_int)) ?e1) rfl rfl ?l1 (fun x => rfl) ?he ?hn) ?im) ?l2
      case j1 => walk_at "j"
      case e1 => exact congrArg PyData.list (cutD_to (ns.map PyData.int) 60)
      case l1 => (show ((ns.map PyData.int).take 60).length < 100000; rw [List.length_take]; omega)
      case he =>
        intro d x H1 hm _ hx
        obtain ⟨i, rfl⟩ := mem_ints (List.mem_of_mem_take hm)
        cases hx
        refine' jd0 ?j3 rfl ?l3
        case j3 => walk_at "j"
        case l3 => decide
      case hn =>
        intro d hm
        obtain ⟨i, rfl⟩ := mem_ints (List.mem_of_mem_take hm)
        rfl
      case im =>
        intro v H2 h2
        rw [List.map_id', ← List.map_take] at h2
        exact h2
      case l2 => decide
    · exact jd_int
    · exact jd_int
--OK _law_hoop
local macro_rules | `(tactic| walk_at "jc") => `(tactic| first | assumption | (show CDiv _ 64; exact ⟨by decide, by decide⟩) | (show (0 : Int) < _; omega) | exact Or.inl ⟨by decide, by decide⟩ | exact (⟨by decide, by decide, by decide⟩ : CPow 10 18))
local macro_rules | `(tactic| walk_at "at") => `(tactic| rfl)
set_option maxHeartbeats 4000000 in
theorem ok__law_hoop {f__law_hoop : Addr} {fd__law_hoop : FuncData} (F : Fun K "_law_hoop" "_law_hoop" s__law_hoop f__law_hoop fd__law_hoop) (m_int : mg "int" = none)
    (m_len : mg "len" = none)
    (m_abs : mg "abs" = none) :
    FnOk P w K mg base CX0 1 f__law_hoop fd__law_hoop ["_law_cooper_here", "_law_many"] spDraw := by
  refine F.ok sc__law_hoop (fun vs H Q E h => ?_) (fun cdv A outer s H vs Q E hr h => ?_)
  · obtain ⟨b, c, n, many, rfl, _⟩ := h; rfl
  · obtain ⟨b, c, n, many, rfl, hS, hn, hm0, hm1, q⟩ := h
    have hcb := sat_cb hS
    obtain ⟨at', rest, cs, hb, hc, ha0, ha1, hr0, hlen⟩ := hS
    have hB := satDa (K := K) hb hc
    have hat : at' ≤ 1000000 := by have : (BIG : Nat) = 1000000 := rfl; omega
    have hCD : CDiv rest many := ⟨hm0, by omega⟩
    refine ⟨_, (pss_cons (ps_if (pt_cmpR op_gt (pe_ix (r := rIx K) ix_seq (pv 0) pe_int (fun _ _ => rfl)) pe_int (nomark _))
      (pss_cons (ps_set (i := 2) sc__law_hoop.nd rfl (.inl rfl) (pe_callTy (T := "int") call_int1 (by rfl) m_int (by decide +kernel) (pa_cons (pe_ix (r := rIx K) ix_seq (pv 0) pe_int (fun _ _ => rfl)) pa_nil)))
    (pss_cons (ps_asg (pe_op op_fdiv (pv 2) (pv 1)) (pg_sub (pv 0) pe_int set_list))
    (pss_one (ps_ret (pe_op op_mod (pe_callTy (T := "int") call_int1 (by rfl) m_int (by decide +kernel) (pa_cons (pv 2) pa_nil)) (pv 1))))))
      pss_nil)
    (pss_cons (ps_set (i := 3) sc__law_hoop.nd rfl (.inl rfl) (pe_ix (r := rIx K) ix_seq (pv 0) pe_int (fun _ _ => rfl)))
    (pss_cons (ps_asg (pe_op op_add (pv 3) pe_int) (pg_sub (pv 0) pe_int set_list))
    (pss_cons (ps_if (pt_cmpR (r := rEqD K) (op_eqD hr.units) (pe_ix (r := rIx K) ix_seq (pv 0) pe_int (fun _ _ => rfl)) (pe_lst pa_nil) (nomark _))
      (pss_one (ps_ret pe_int))
      pss_nil)
    (pss_cons (ps_set (i := 4) sc__law_hoop.nd rfl (.inl rfl) (pe_ix (r := rIx K) ix_seq (pe_ix (r := rIx K) ix_seq (pv 0) pe_int (fun _ _ => rfl)) (pe_op op_mod (pe_callTy (T := "int") call_int1 (by rfl) m_int (by decide +kernel) (pa_cons (pv 3) pa_nil)) (pe_callB (id := "len") (r := (fun xs H Q => ∃ p ys, xs = [.ref p] ∧ (SqL K H p ys ∨ SqT K H p ys) ∧ Q (.int ys.length) H)) call_len_seq (by rfl) m_len (by decide +kernel) (pa_cons (pe_ix (r := rIx K) ix_seq (pv 0) pe_int (fun _ _ => rfl)) pa_nil))) (fun _ _ => rfl)))
    (pss_cons (ps_if (PW.pt (pw_and (pt_cmpR op_lt (pv 3) (pe_callB (id := "len") (r := (fun xs H Q => ∃ p ys, xs = [.ref p] ∧ (SqL K H p ys ∨ SqT K H p ys) ∧ Q (.int ys.length) H)) call_len_seq (by rfl) m_len (by decide +kernel) (pa_cons (pe_ix (r := rIx K) ix_seq (pv 0) pe_int (fun _ _ => rfl)) pa_nil)) (nomark _)) (pw_and1 (pt_cmpR op_ge (pe_callB (id := "abs") call_abs (by rfl) m_abs (by decide +kernel) (pa_cons (pv 4) pa_nil)) (pe_op op_pow pe_int pe_int) (nomark _)))))
      (pss_cons (ps_set (i := 2) sc__law_hoop.nd rfl (.inl rfl) (pe_op op_add (pe_op op_mul pe_int (pe_op op_sub (pe_callB (id := "abs") call_abs (by rfl) m_abs (by decide +kernel) (pa_cons (pv 4) pa_nil)) (pe_op op_pow pe_int pe_int))) (pe_callTy (T := "int") call_int1 (by rfl) m_int (by decide +kernel) (pa_cons (pe_cmpR op_lt (pv 4) pe_int (nomark _)) pa_nil))))
    (pss_cons (ps_asg (pe_op op_fdiv (pe_callTy (T := "int") call_int1 (by rfl) m_int (by decide +kernel) (pa_cons (pv 2) pa_nil)) (pv 1)) (pg_sub (pv 0) pe_int set_list))
    (pss_one (ps_ret (pe_op op_mod (pe_callTy (T := "int") call_int1 (by rfl) m_int (by decide +kernel) (pa_cons (pv 2) pa_nil)) (pv 1))))))
      pss_nil)
    (pss_cons (ps_set (i := 5) sc__law_hoop.nd rfl (.inl rfl) (pe_op op_mod (pe_callTy (T := "int") call_int1 (by rfl) m_int (by decide +kernel) (pa_cons (pe_op op_pow (pe_op op_add (pe_op op_add (pe_op op_mod (pe_callTy (T := "int") call_int1 (by rfl) m_int (by decide +kernel) (pa_cons (pv 4) pa_nil)) pe_int) (pe_op op_mul pe_int (pv 3))) pe_int) pe_int) pa_nil)) pe_int))
    (pss_cons (ps_set (i := 5) sc__law_hoop.nd rfl (.inl rfl) (pe_op op_mod (pe_callTy (T := "int") call_int1 (by rfl) m_int (by decide +kernel) (pa_cons (pe_op op_pow (pe_op op_add (pe_op op_add (pe_op op_mul (pv 5) (pe_op op_add (pe_op op_mul pe_int (pv 3)) pe_int)) (pe_op op_mul (pe_op op_mul pe_int (pv 3)) (pv 3))) pe_int) pe_int) pa_nil)) pe_int))
    (pss_one (ps_ret (pe_op op_mod (pe_callTy (T := "int") call_int1 (by rfl) m_int (by decide +kernel) (pa_cons (pe_op op_fdiv (pv 5) pe_int) pa_nil)) (pv 1)))))))))))), ?_⟩
    refine' st_if0 (K := K) (b := decide (0 < rest)) (JB.eq ?jt ?jr) ?kc (fun hp H1 e1 => ?m1) (fun hp H1 e1 => ?m2)
    case jt => walk_at "jt"
    case jr => rfl
    case kc => decide
    case m1 =>
      walk_at "nx"
      refine' st_setI0 (K := K) ?j1 rfl ?l1 (fun H2 e2 => ?k1)
      case j1 => walk_at "j"
      case l1 => decide
      case k1 =>
      walk_at "nx"
      have hb2 := same_at (ex0 (e1.trans e2)) hb
      have hc2 := same_at (ex0 (e1.trans e2)) hc
      have hB2 := satDa (K := K) hb2 hc2
      refine' st_setitI (i := 2) (j := 2) (K := K) ?j2 rfl rfl ?i2 ?l2 hb2 rfl (fun H3 s3 => ?k2)
      case j2 => walk_at "j"
      case i2 => walk_at "j"
      case l2 => decide
      case k2 =>
      walk_at "nx"
      refine' st_retI0 (K := K) ?j3 rfl ?l3 (fun H4 e4 => ?k3)
      case j3 => walk_at "j"
      case l3 => decide
      case k3 =>
      refine q _ _ (Int.emod_nonneg _ (by omega)) (Int.emod_lt_of_pos _ hm0) ((exm_upd (.of ((ex0 (e1.trans e2)).trans s3))).trans (.of (ex0 e4))) ⟨at', rest / many, cs, ex0 e4 _ _ upd_same, ex0 e4 _ _ (by rw [upd_ne hcb]; exact s3 _ _ hc2), ha0, by omega, Int.ediv_nonneg hr0 (by omega), hlen⟩
    case m2 =>
    walk_at "nx"
    -- at = ..
    have hB1 := hB.mono (W := W0) e1
    refine' st_setI0 (K := K) ?j1 rfl ?l1 (fun H2 e2 => ?k1)
    case j1 => walk_at "j"
    case l1 => decide
    case k1 =>
    walk_at "nx"
    have hb2 := same_at (ex0 (e1.trans e2)) hb
    have hc2 := same_at (ex0 (e1.trans e2)) hc
    have hB2 := satDa (K := K) hb2 hc2
    refine' st_setitI (i := 1) (j := 1) (K := K) ?j2 rfl rfl ?i2 ?l2 hb2 rfl (fun H3 s3 => ?k2)
    case j2 => walk_at "j"
    case i2 => walk_at "j"
    case l2 => decide
    case k2 =>
    walk_at "nx"
    have eM : ExM (satW b c).M H (upd H3 b (.lst [.ref c, .int (at' + 1), .int rest])) := exm_upd (.of ((ex0 (e1.trans e2)).trans s3))
    have hb3 : (upd H3 b (.lst [.ref c, .int (at' + 1), .int rest])) b = some (.lst [.ref c, .int (at' + 1), .int rest]) := upd_same
    have hc3 : (upd H3 b (.lst [.ref c, .int (at' + 1), .int rest])) c = some (.lst (cs.map V.int)) := by rw [upd_ne hcb]; exact s3 _ _ hc2
    have hB3 := satDa (K := K) hb3 hc3
    generalize hH3 : (upd H3 b (.lst [.ref c, .int (at' + 1), .int rest])) = H3' at eM hb3 hc3 hB3
    have hH3' : (upd H3 b (HO.lst ([V.ref c, V.int at', V.int rest].set 1 (V.int (at' + 1))))) = H3' := hH3
    rw [hH3']
    have hfin : ∀ H5, ExM W0.M H3' H5 → Sat b c (n + 1) H5 := fun H5 e5 => ⟨at' + 1, rest, cs, ex0 e5 _ _ hb3, ex0 e5 _ _ hc3, by omega, by omega, hr0, hlen⟩
    refine' st_ifn (K := K) (b := cs.isEmpty) (JB.eq ?jt ?jr) ?kc (fun he H4 e4 => ?m1) (fun he H4 e4 => ?m2)
    case jt =>
      refine' jb_test (jd_eqD ?j4 ?j5 (shaped_ints cs) (shaped_ints []))
      case j4 => walk_at "j"
      case j5 => (refine' jd_lst ja_nil ?l5; (case l5 => decide))
    case jr => exact eqv_nil cs
    case kc => decide
    case m1 =>
      refine' st_retI0 (K := K) ?j6 rfl ?l6 (fun H5 e5 => ?k6)
      case j6 => walk_at "j"
      case l6 => decide
      case k6 => exact q 0 _ (by omega) hm0 (eM.trans (.of (ex0 (e4.trans e5)))) (hfin _ (e4.trans e5))
    case m2 =>
    walk_at "nx"
    have hne : cs ≠ [] := fun z => by rw [z] at he; cases he
    have hlp : 0 < cs.length := List.length_pos_iff.mpr hne
    obtain ⟨cell, hcell⟩ := at_mod hne ha0
    have hB4 := hB3.mono (W := W0) e4
    -- cell = ..
    refine' st_setI0 (K := K) (z' := cell) ?j7 ?e7 ?l7 (fun H5 e5 => ?k7)
    case j7 =>
      refine' jd_ix ?a1 ?a2 ?a3 ?a4
      case a1 => walk_at "j"
      case a2 =>
        refine' jd_Ii ?b1 ?b2 ?b3
        case b1 => walk_at "j"
        case b2 => (refine' jd_lenS ?q1 ?q2; (case q1 => walk_at "ja"); (case q2 => rfl))
        case b3 => (show (0 : Int) < (((cs.map PyData.int).length : Nat) : Int); rw [List.length_map]; omega)
      case a3 => rfl
      case a4 => (show atI (cs.map PyData.int) (at' % (((cs.map PyData.int).length : Nat) : Int)) = _; rw [List.length_map]; exact hcell)
    case e7 => rfl
    case l7 => decide
    case k7 =>
    walk_at "nx"
    have hB5 := hB4.mono (W := W0) e5
    have hab : 0 ≤ (if cell < 0 then -cell else cell) := by split <;> omega
    refine' st_ifn (K := K) (b := decide (at' < (cs.length : Int)) && decide (1000000000000000000 ≤ (if cell < 0 then -cell else cell))) (JB.eq ?jt ?jr) ?kc (fun hp2 H6 e6 => ?m1) (fun hp2 H6 e6 => ?m2)
    case jt =>
      refine' jb_and ?t1 ?t2
      case t1 =>
        refine' jb_test (jd_I0b ?b1 ?b2)
        case b1 => walk_at "j"
        case b2 => (refine' jd_lenS ?q1 ?q2; (case q1 => walk_at "ja"); (case q2 => rfl))
      case t2 => (intro _; walk_at "jt")
    case jr =>
      show (decide (at' < (((cs.map PyData.int).length : Nat) : Int)) && decide ((10 : Int) ^ (18 : Int).toNat ≤ _)) = _
      rw [List.length_map]; rfl
    case kc => decide
    case m1 =>
      have hge : (1000000000000000000 : Int) ≤ (if cell < 0 then -cell else cell) := by
        rw [Bool.and_eq_true] at hp2; exact of_decide_eq_true hp2.2
      walk_at "nx"
      refine' st_setI0 (K := K) (z' := 2 * ((if cell < 0 then -cell else cell) - 1000000000000000000) + (if decide (cell < 0) then 1 else 0)) ?j8 ?e8 ?l8 (fun H7 e7 => ?k8)
      case j8 => walk_at "j"
      case e8 => rfl
      case l8 => decide
      case k8 =>
      walk_at "nx"
      have hrs : 0 ≤ 2 * ((if cell < 0 then -cell else cell) - 1000000000000000000) + (if decide (cell < 0) then (1 : Int) else 0) := by
        have : (0 : Int) ≤ (if decide (cell < 0) then (1 : Int) else 0) := by split <;> omega
        omega
      generalize 2 * ((if cell < 0 then -cell else cell) - 1000000000000000000) + (if decide (cell < 0) then (1 : Int) else 0) = rs at hrs
      have hCD2 : CDiv rs many := ⟨hm0, by omega⟩
      have e47 := (e4.trans (e5.trans (e6.trans e7)))
      have hb7 := same_at (ex0 e47) hb3
      have hc7 := same_at (ex0 e47) hc3
      refine' st_setitI (i := 2) (j := 2) (K := K) ?j9 rfl rfl ?i9 ?l9 hb7 rfl (fun H8 s8 => ?k9)
      case j9 => walk_at "j"
      case i9 => walk_at "j"
      case l9 => decide
      case k9 =>
      walk_at "nx"
      refine' st_retI0 (K := K) ?j3 rfl ?l3 (fun H9 e9 => ?k3)
      case j3 => walk_at "j"
      case l3 => decide
      case k3 =>
      refine q _ _ (Int.emod_nonneg _ (by omega)) (Int.emod_lt_of_pos _ hm0) ((exm_upd (eM.trans (.of ((ex0 e47).trans s8)))).trans (.of (ex0 e9))) ⟨at' + 1, rs / many, cs, ex0 e9 _ _ upd_same, ex0 e9 _ _ (by rw [upd_ne hcb]; exact s8 _ _ hc7), by omega, by omega, Int.ediv_nonneg hrs (by omega), hlen⟩
    case m2 =>
    walk_at "nx"
    -- the mixing
    have hmb1 : CPow (cell % 2147483563 + 37551 * at' + 9601) 5 := ⟨by decide, by decide, by show _ < 18446744073709551616; omega⟩
    refine' st_setI0 (K := K) ?j10 rfl ?l10 (fun H7 e7 => ?k10)
    case j10 => walk_at "j"
    case l10 => decide
    case k10 =>
    walk_at "nx"
    have hx0 := Int.emod_nonneg ((cell % 2147483563 + 37551 * at' + 9601) ^ (5 : Int).toNat) (show (2147483629 : Int) ≠ 0 by decide)
    have hx1 := Int.emod_lt_of_pos ((cell % 2147483563 + 37551 * at' + 9601) ^ (5 : Int).toNat) (show (0 : Int) < 2147483629 by decide)
    generalize (cell % 2147483563 + 37551 * at' + 9601) ^ (5 : Int).toNat % 2147483629 = mx at hx0 hx1
    have hcm1 : CMul mx (2 * at' + 9257) := .inl ⟨by omega, by omega⟩
    have hcm2 : CMul (97151 * at') at' := .inl ⟨by omega, by omega⟩
    have hp1 : 0 ≤ mx * (2 * at' + 9257) := Int.mul_nonneg hx0 (by omega)
    have hp2 : mx * (2 * at' + 9257) ≤ 2147483648 * 3000000 := Int.mul_le_mul (by omega) (by omega) (by omega) (by omega)
    have hp3 : 0 ≤ 97151 * at' * at' := Int.mul_nonneg (by omega) ha0
    have hp4 : 97151 * at' * at' ≤ 97151 * 1000000 * 1000000 := Int.mul_le_mul (by omega) (by omega) (by omega) (by omega)
    have hmb2 : CPow (mx * (2 * at' + 9257) + 97151 * at' * at' + 37551) 3 := ⟨by decide, by decide, by show _ < 18446744073709551616; omega⟩
    refine' st_setI0 (K := K) ?j11 rfl ?l11 (fun H8 e8 => ?k11)
    case j11 => walk_at "j"
    case l11 => decide
    case k11 =>
    walk_at "nx"
    refine' st_retI0 (K := K) ?j12 rfl ?l12 (fun H9 e9 => ?k12)
    case j12 => walk_at "j"
    case l12 => decide
    case k12 =>
    have e49 := e4.trans (e5.trans (e6.trans (e7.trans (e8.trans e9))))
    exact q _ _ (Int.emod_nonneg _ (by omega)) (Int.emod_lt_of_pos _ hm0) (eM.trans (.of (ex0 e49))) (hfin _ e49)
--OK _law_stave
set_option maxHeartbeats 4000000 in
theorem ok__law_stave {f__law_stave : Addr} {fd__law_stave : FuncData} (F : Fun K "_law_stave" "_law_stave" s__law_stave f__law_stave fd__law_stave) {f__law_hoop : Addr} {fd__law_hoop : FuncData} (G__law_hoop : FnOk P w K mg base CX0 1 f__law_hoop fd__law_hoop ["_law_cooper_here", "_law_many"] spDraw) (g__law_hoop : mg "_law_hoop" = some (.ref f__law_hoop)) (k__law_hoop : PySem.W.keepIn K (.ref f__law_hoop) = true) (b__law_hoop : Binds K fd__law_hoop ["_law_cooper_here", "_law_many"] [])
    (m_len : mg "len" = none) :
    FnOk P w K mg base CX0 2 f__law_stave fd__law_stave ["_law_cooper_here", "_law_some"] (spPick K) := by
  refine F.ok sc__law_stave (fun vs H Q E h => ?_) (fun cdv A outer s H vs Q E hr h => ?_)
  · obtain ⟨b, c, n, v, d, rfl, _⟩ := h; rfl
  · obtain ⟨b, c, n, v, d, rfl, hS, hn, hd, hs, hl0, hl1, q⟩ := h
    refine ⟨_, (pss_one (ps_ret (pe_ix (r := rIx K) ix_seq (pv 1) (pe_call G__law_hoop (hr.mono (by decide)) (by rfl) g__law_hoop k__law_hoop b__law_hoop .nil pass0 (pa_cons (pv 0) (pa_cons (pe_callB (id := "len") (r := (fun xs H Q => ∃ p ys, xs = [.ref p] ∧ (SqL K H p ys ∨ SqT K H p ys) ∧ Q (.int ys.length) H)) call_len_seq (by rfl) m_len (by decide +kernel) (pa_cons (pv 1) pa_nil)) pa_nil))) (fun _ _ => rfl)))), ?_⟩
    exact pick_ret (K := K) hS hn hd hs hl0 hl1 rfl rfl q
--OK _law_fraction
def psiF : PyData → Prop := fun d => ∃ x : Rat, Bd x 101 ∧ d = frD x
set_option maxHeartbeats 4000000 in
theorem ok__law_fraction {f__law_fraction : Addr} {fd__law_fraction : FuncData} (F : Fun K "_law_fraction" "_law_fraction" s__law_fraction f__law_fraction fd__law_fraction) {f_reduced : Addr} {fd_reduced : FuncData} (G_reduced : FnOk P w K mg base CX0 4 f_reduced fd_reduced ["up", "down"] (spPure K rel_reduced)) (g_reduced : mg "reduced" = some (.ref f_reduced)) (k_reduced : PySem.W.keepIn K (.ref f_reduced) = true) (b_reduced : Binds K fd_reduced ["up", "down"] [])
    {f__law_stave : Addr} {fd__law_stave : FuncData} (G__law_stave : FnOk P w K mg base CX0 2 f__law_stave fd__law_stave ["_law_cooper_here", "_law_some"] (spPick K)) (g__law_stave : mg "_law_stave" = some (.ref f__law_stave)) (k__law_stave : PySem.W.keepIn K (.ref f__law_stave) = true) (b__law_stave : Binds K fd__law_stave ["_law_cooper_here", "_law_some"] [])
    {f__law_hoop : Addr} {fd__law_hoop : FuncData} (G__law_hoop : FnOk P w K mg base CX0 1 f__law_hoop fd__law_hoop ["_law_cooper_here", "_law_many"] spDraw) (g__law_hoop : mg "_law_hoop" = some (.ref f__law_hoop)) (k__law_hoop : PySem.W.keepIn K (.ref f__law_hoop) = true) (b__law_hoop : Binds K fd__law_hoop ["_law_cooper_here", "_law_many"] []) :
    FnOk P w K mg base CX0 5 f__law_fraction fd__law_fraction ["_law_cooper_here"] (spDX K 5 psiF) := by
  refine F.ok sc__law_fraction (fun vs H Q E h => ?_) (fun cdv A outer s H vs Q E hr h => ?_)
  · obtain ⟨b, c, n, rfl, _⟩ := h; rfl
  · obtain ⟨b, c, n, rfl, hS, hn, q⟩ := h
    refine ⟨_, (pss_cons (ps_set (i := 1) sc__law_fraction.nd rfl (.inl rfl) (pe_call G__law_stave (hr.mono (by decide)) (by rfl) g__law_stave k__law_stave b__law_stave .nil pass0 (pa_cons (pv 0) (pa_cons (pe_lst (pa_cons pe_int (pa_cons pe_int (pa_cons (pe_un un_neg pe_int) (pa_cons (pe_op op_sub (pe_call G__law_hoop (hr.mono (by decide)) (by rfl) g__law_hoop k__law_hoop b__law_hoop .nil pass0 (pa_cons (pv 0) (pa_cons pe_int pa_nil))) pe_int) (pa_cons (pe_op op_sub (pe_op op_pow pe_int pe_int) (pe_call G__law_hoop (hr.mono (by decide)) (by rfl) g__law_hoop k__law_hoop b__law_hoop .nil pass0 (pa_cons (pv 0) (pa_cons pe_int pa_nil)))) (pa_cons (pe_un un_neg (pe_op op_pow pe_int pe_int)) pa_nil))))))) pa_nil))))
    (pss_one (ps_ret (pe_call G_reduced (hr.mono (by decide)) (by rfl) g_reduced k_reduced b_reduced .nil pass0 (pa_cons (pv 1) (pa_cons (pe_call G__law_stave (hr.mono (by decide)) (by rfl) g__law_stave k__law_stave b__law_stave .nil pass0 (pa_cons (pv 0) (pa_cons (pe_lst (pa_cons pe_int (pa_cons pe_int (pa_cons (pe_un un_neg pe_int) (pa_cons (pe_op op_add pe_int (pe_call G__law_hoop (hr.mono (by decide)) (by rfl) g__law_hoop k__law_hoop b__law_hoop .nil pass0 (pa_cons (pv 0) (pa_cons pe_int pa_nil)))) (pa_cons (pe_op op_pow pe_int pe_int) pa_nil)))))) pa_nil))) pa_nil)))))), ?_⟩
    walk_at "nx"
    have key : ∀ {te : TE} {σ : L2.St} {i j : Int}, JD K (satW b c) te σ H 0 (.int i) → i = j → j.natAbs < 2 ^ 100 → JX K (satW b c) te σ H 0 (fun d => ∃ i : Int, d = .int i ∧ i.natAbs < 2 ^ 100) := fun h e p => jx_of h ⟨_, rfl, by rw [e]; exact p⟩
    refine' st_set (W := satW b c) (n := n) hS (jx_pick (K := K) (b := b) (cc := c) (ψ := fun d => ∃ i : Int, d = .int i ∧ i.natAbs < 2 ^ 100) (m := 6) rfl (jxl_lst (jxs_cons (key (jd_int) rfl (by decide)) (jxs_cons (key (jd_int) rfl (by decide)) (jxs_cons (key (jd_neg jd_int) rfl (by decide))
        (jxs_cons (jx_i (ji_op0 (φ := fun i => i.natAbs < 2 ^ 100) (φ2 := fun j => j = 20) (ji_draw (K := K) rfl jd_int (by decide)) (ji_of (K := K) jd_int rfl) ?a1) (fun i h => ⟨i, rfl, h⟩))
        (jxs_cons (jx_i (ji_op0 (φ := fun i => i.natAbs < 2 ^ 100) (φ1 := fun j => j = 10 ^ 30) (ji_of (K := K) (jd_Ii jd_int jd_int ?p1) rfl) (ji_draw (K := K) rfl jd_int (by decide)) ?a2) (fun i h => ⟨i, rfl, h⟩))
        (jxs_cons (key (jd_neg (jd_Ii jd_int jd_int ?p2)) rfl (by decide +kernel)) jxs_nil)))))) (by decide)) (by decide)) ?l1 (fun v H1 e1 hS1 hv => ?k1)
    case a1 => (intro i j h1 h2; subst h2; show (i - 20).natAbs < 1267650600228229401496703205376; omega)
    case a2 => (intro i j h1 h2; subst h1; show (1000000000000000000000000000000 - j).natAbs < 1267650600228229401496703205376; omega)
    case p1 => exact ⟨by decide, by decide, by decide⟩
    case p2 => exact ⟨by decide, by decide, by decide⟩
    case l1 => omega
    case k1 =>
    obtain ⟨d, ⟨u, rfl, hu⟩, hv⟩ := hv
    have hvi := hv.int
    subst hvi
    walk_at "nx"
    have key2 : ∀ {te : TE} {σ : L2.St} {H : Hp} {i j : Int}, JD K (satW b c) te σ H 0 (.int i) → i = j → j ≠ 0 → j.natAbs < 2 ^ 67 → JX K (satW b c) te σ H 0 (fun d => ∃ i : Int, d = .int i ∧ i ≠ 0 ∧ i.natAbs < 2 ^ 67) := fun h e z p => jx_of h ⟨_, rfl, by rw [e]; exact z, by rw [e]; exact p⟩
    refine' st_ret (W := satW b c) hS1 (jx_call (K := K) (ψ := psiF) (jax_cons (ψ := fun d => d = .int u) (jx_of (K := K) (jd_vi rfl) rfl)
      (jax_cons (ψ := fun d => ∃ w : Int, d = .int w ∧ w ≠ 0 ∧ w.natAbs < 2 ^ 67) (jx_pick (K := K) (b := b) (cc := c) (m := 5) rfl (jxl_lst (jxs_cons (key2 jd_int rfl (by decide) (by decide)) (jxs_cons (key2 jd_int rfl (by decide) (by decide)) (jxs_cons (key2 (jd_neg jd_int) rfl (by decide) (by decide))
      (jxs_cons (jx_i (ji_op0 (φ := fun i => i ≠ 0 ∧ i.natAbs < 2 ^ 67) (φ1 := fun j => j = 1) (ji_of (K := K) jd_int rfl) (ji_draw (K := K) rfl jd_int (by decide)) ?a3) (fun i h => ⟨i, rfl, h⟩))
      (jxs_cons (key2 (jd_Ii jd_int jd_int ?p3) rfl (by decide) (by decide)) jxs_nil))))) (by decide)) (by decide)) jax_nil)) ?hr) ?l2 (fun v H2 e2 hS2 hv2 => ?k2)
    case a3 => (intro i j h1 h2; subst h1; refine ⟨by omega, ?_⟩; show (1 + j).natAbs < 147573952589676412928; omega)
    case p3 => exact ⟨by decide, by decide, by decide⟩
    case hr =>
      rintro ds ⟨d, r, rfl, rfl, d2, r2, rfl, ⟨w, rfl, hw0, hw⟩, rfl⟩
      have hb := num_le' u w hw0
      exact ⟨frD (Rat.divInt u w), ⟨u, w, rfl, hw0, Nat.lt_of_lt_of_le hw (Nat.pow_le_pow_right (by decide) (by decide)), rfl⟩, rfl, _, ⟨Nat.lt_of_le_of_lt hb.1 (Nat.lt_of_lt_of_le hu (Nat.pow_le_pow_right (by decide) (by decide))), Nat.lt_of_le_of_lt hb.2 (Nat.lt_of_lt_of_le hw (Nat.pow_le_pow_right (by decide) (by decide)))⟩, rfl⟩
    case l2 => omega
    case k2 =>
      obtain ⟨d, hd, hv2⟩ := hv2
      exact q v d H2 hd (e1.trans e2) ((satW b c).mo (by omega) hS2) hv2
--OK _law_order_right
local macro_rules | `(tactic| walk_at "fr") => `(tactic| first | exact isFr_01 | exact isFr_11 | exact isFr_m11 | exact isFr_D _ | assumption)
local macro_rules | `(tactic| walk_at "bd0") => `(tactic| first | assumption | exact bd_0 | exact bd_1 | exact bd_m1 | (refine' Bd.add ?k1 ?k2; (case k1 => walk_at "bd0"); (case k2 => walk_at "bd0")) | (refine' Bd.sub ?k1 ?k2; (case k1 => walk_at "bd0"); (case k2 => walk_at "bd0")) | (refine' Bd.mul ?k1 ?k2; (case k1 => walk_at "bd0"); (case k2 => walk_at "bd0")))
local macro_rules | `(tactic| walk_at "bd") => `(tactic| (refine' bd_le ?k1 ?k2; (case k1 => walk_at "bd0"); (case k2 => decide)))
local macro_rules | `(tactic| walk_at "rel") => `(tactic| (refine' ⟨_, _, _, _, rfl, ?k1, ?k2, ?k3, ?k4, ?k5⟩; (case k1 => walk_at "fr"); (case k2 => walk_at "fr"); (case k3 => walk_at "bd"); (case k4 => walk_at "bd"); (case k5 => rfl)))
def rel__law_order_right : List PyData → PyData → Prop := fun ds r => ∃ p x y : Rat, ds = [frD p, frD x, frD y] ∧ Bd p 101 ∧ Bd x 101 ∧ Bd y 101 ∧ r = .bool true
set_option maxHeartbeats 4000000 in
theorem ok__law_order_right {f__law_order_right : Addr} {fd__law_order_right : FuncData} (F : Fun K "_law_order_right" "_law_order_right" s__law_order_right f__law_order_right fd__law_order_right) {f_below : Addr} {fd_below : FuncData} (G_below : FnOk P w K mg base CX0 5 f_below fd_below ["one", "other"] (spPure K rel_below)) (g_below : mg "below" = some (.ref f_below)) (k_below : PySem.W.keepIn K (.ref f_below) = true) (b_below : Binds K fd_below ["one", "other"] [])
    {f_multiplied : Addr} {fd_multiplied : FuncData} (G_multiplied : FnOk P w K mg base CX0 5 f_multiplied fd_multiplied ["one", "other"] (spPure K rel_multiplied)) (g_multiplied : mg "multiplied" = some (.ref f_multiplied)) (k_multiplied : PySem.W.keepIn K (.ref f_multiplied) = true) (b_multiplied : Binds K fd_multiplied ["one", "other"] [])
    {f_added : Addr} {fd_added : FuncData} (G_added : FnOk P w K mg base CX0 5 f_added fd_added ["one", "other"] (spPure K rel_added)) (g_added : mg "added" = some (.ref f_added)) (k_added : PySem.W.keepIn K (.ref f_added) = true) (b_added : Binds K fd_added ["one", "other"] [])
    {f_less : Addr} {fd_less : FuncData} (G_less : FnOk P w K mg base CX0 5 f_less fd_less ["one", "other"] (spPure K rel_less)) (g_less : mg "less" = some (.ref f_less)) (k_less : PySem.W.keepIn K (.ref f_less) = true) (b_less : Binds K fd_less ["one", "other"] []) :
    FnOk P w K mg base CX0 6 f__law_order_right fd__law_order_right ["_law_one", "_law_other", "_law_third"] (spPure K rel__law_order_right) := by
  refine F.ok sc__law_order_right (fun vs H Q E h => ?_) (fun cdv A outer s H vs Q E hr h => ?_)
  · obtain ⟨ds, r, hd, hr0, _⟩ := h; obtain ⟨p, x, y, rfl, hp, hx, hy, rfl⟩ := hr0; exact isD_len hd
  · obtain ⟨ds, r, hd, hr0, q⟩ := h
    obtain ⟨p, x, y, rfl, hp, hx, hy, rfl⟩ := hr0
    obtain ⟨x0, x1, x2, rfl, h0, h1, h2⟩ := dal3 (W := W0) (dpl0 _ _ hd)
    refine ⟨_, (pss_cons (ps_if (PW.pt (pw_or (pt_cmpR op_ne (pe_bm PySem.F.plainAttrs_list PySem.F.slot_list_count PySem.F.type_list_count mt_lcountB (pe_lst (pa_cons (pe_call G_below (hr.mono (by decide)) (by rfl) g_below k_below b_below .nil pass0 (pa_cons (pv 0) (pa_cons (pv 1) pa_nil))) (pa_cons (pe_call G_below (hr.mono (by decide)) (by rfl) g_below k_below b_below .nil pass0 (pa_cons (pv 1) (pa_cons (pv 0) pa_nil))) (pa_cons (pe_cmpR (r := rEqD K) (op_eqD hr.units) (pv 0) (pv 1) (nomark _)) pa_nil)))) (pa_cons pe_bl pa_nil)) pe_int (nomark _)) (pw_or1 (pt_val (pe_call G_below (hr.mono (by decide)) (by rfl) g_below k_below b_below .nil pass0 (pa_cons (pv 0) (pa_cons (pv 0) pa_nil)))))))
      (pss_one (ps_ret pe_bl))
      pss_nil)
    (pss_cons (ps_if (PW.pt (pw_or (pt_cmpR op_ne (pe_call G_below (hr.mono (by decide)) (by rfl) g_below k_below b_below .nil pass0 (pa_cons (pe_call G_added (hr.mono (by decide)) (by rfl) g_added k_added b_added .nil pass0 (pa_cons (pv 0) (pa_cons (pv 2) pa_nil))) (pa_cons (pe_call G_added (hr.mono (by decide)) (by rfl) g_added k_added b_added .nil pass0 (pa_cons (pv 1) (pa_cons (pv 2) pa_nil))) pa_nil))) (pe_call G_below (hr.mono (by decide)) (by rfl) g_below k_below b_below .nil pass0 (pa_cons (pv 0) (pa_cons (pv 1) pa_nil))) (nomark _)) (pw_or1 (pt_cmpR op_ne (pe_call G_below (hr.mono (by decide)) (by rfl) g_below k_below b_below .nil pass0 (pa_cons (pe_call G_less (hr.mono (by decide)) (by rfl) g_less k_less b_less .nil pass0 (pa_cons (pe_tup (pa_cons pe_int (pa_cons pe_int pa_nil))) (pa_cons (pv 1) pa_nil))) (pa_cons (pe_call G_less (hr.mono (by decide)) (by rfl) g_less k_less b_less .nil pass0 (pa_cons (pe_tup (pa_cons pe_int (pa_cons pe_int pa_nil))) (pa_cons (pv 0) pa_nil))) pa_nil))) (pe_call G_below (hr.mono (by decide)) (by rfl) g_below k_below b_below .nil pass0 (pa_cons (pv 0) (pa_cons (pv 1) pa_nil))) (nomark _)))))
      (pss_one (ps_ret pe_bl))
      pss_nil)
    (pss_cons (ps_if (PW.pt (pw_and (pt_val (pe_call G_below (hr.mono (by decide)) (by rfl) g_below k_below b_below .nil pass0 (pa_cons (pv 0) (pa_cons (pv 1) pa_nil)))) (pw_and (pt_val (pe_call G_below (hr.mono (by decide)) (by rfl) g_below k_below b_below .nil pass0 (pa_cons (pv 1) (pa_cons (pv 2) pa_nil)))) (pw_and1 (pt_not (pt_val (pe_call G_below (hr.mono (by decide)) (by rfl) g_below k_below b_below .nil pass0 (pa_cons (pv 0) (pa_cons (pv 2) pa_nil)))))))))
      (pss_one (ps_ret pe_bl))
      pss_nil)
    (pss_cons (ps_set (i := 3) sc__law_order_right.nd rfl (.inl rfl) (pe_call G_multiplied (hr.mono (by decide)) (by rfl) g_multiplied k_multiplied b_multiplied .nil pass0 (pa_cons (pv 2) (pa_cons (pv 2) pa_nil))))
    (pss_one (ps_ret (pe_cmpR op_eq (pe_call G_below (hr.mono (by decide)) (by rfl) g_below k_below b_below .nil pass0 (pa_cons (pe_call G_multiplied (hr.mono (by decide)) (by rfl) g_multiplied k_multiplied b_multiplied .nil pass0 (pa_cons (pv 0) (pa_cons (pv 3) pa_nil))) (pa_cons (pe_call G_multiplied (hr.mono (by decide)) (by rfl) g_multiplied k_multiplied b_multiplied .nil pass0 (pa_cons (pv 1) (pa_cons (pv 3) pa_nil))) pa_nil))) (pe_and (pe_call G_below (hr.mono (by decide)) (by rfl) g_below k_below b_below .nil pass0 (pa_cons (pv 0) (pa_cons (pv 1) pa_nil))) (pe_one (pe_cmpR (r := rNeD K) (op_neD hr.units) (pv 2) (pe_tup (pa_cons pe_int (pa_cons pe_int pa_nil))) (nomark _)))) (nomark _)))))))), ?_⟩
    
    refine' st_ifn (K := K) (b := false) (JB.eq (jb_or (jb_test (jd_neI (jd_countB (bs := [decide (p < x), decide (x < p), decide (p = x)]) (JD.eq ?j1 ?e1) jd_bl) jd_int)) (fun _ => jb_B ?j2)) ?jr) ?kc (fun hb H1 e1 => ?m1) (fun hb H1 e1 => ?m2)
    case j1 =>
      refine' jd_lst (ja_cons ?k1 (ja_cons ?k2 (ja_cons (jd_eqD ?k3 ?k4 (shaped_fr p) (shaped_fr x)) ja_nil))) ?k5
      case k1 => walk_at "j"
      case k2 => walk_at "j"
      case k3 => walk_at "j"
      case k4 => walk_at "j"
      case k5 => (show 3 ≤ 100000; decide)
    case e1 => rw [eqv_fr]; rfl
    case j2 => walk_at "j"
    case jr => (rw [count3, decide_eq_false (Rat.lt_irrefl (a := p))]; rfl)
    case kc => decide
    case m1 => cases hb
    case m2 =>
    walk_at "nx"
    refine' st_ifn (K := K) (b := false) (JB.eq ?jt ?jr2) ?kc2 (fun hb H2 e2 => ?m3) (fun hb H2 e2 => ?m4)
    case jt => walk_at "jt"
    case jr2 => exact ord1 p x y
    case kc2 => decide
    case m3 => cases hb
    case m4 =>
    walk_at "nx"
    refine' st_ifn (K := K) (b := false) (JB.eq ?jt3 ?jr3) ?kc3 (fun hb H3 e3 => ?m5) (fun hb H3 e3 => ?m6)
    case jt3 => walk_at "jt"
    case jr3 => exact ord2 p x y
    case kc3 => decide
    case m5 => cases hb
    case m6 =>
    walk_at "nx"
    refine' st_set0 ?j4 ?l4 (fun v H4 e4 hv => ?k4)
    case j4 => walk_at "j"
    case l4 => decide
    case k4 =>
    walk_at "nx"
    refine' pure_ret (e1.trans (e2.trans (e3.trans e4))) q (JD.eq ?j5 ?e5) ?l5
    case j5 => walk_at "j"
    case e5 => (rw [eqv_fr0]; exact congrArg PyData.bool (ord3 p x y))
    case l5 => decide
--OK law
local macro_rules | `(tactic| walk_at "rel") => `(tactic| first
  | exact ⟨_, _, rfl, by assumption, by assumption, rfl⟩
  | exact ⟨_, _, _, rfl, by assumption, by assumption, by assumption, rfl⟩
  | (refine' ⟨_, _, _, _, rfl, ?k1, ?k2, ?k3, ?k4, ?k5⟩; (case k1 => walk_at "fr"); (case k2 => walk_at "fr"); (case k3 => walk_at "bd"); (case k4 => walk_at "bd"); (case k5 => rfl)))
def sp_law (K : PySem.W.Frag) : Sp := fun vs H Q _ => ∃ (a : Addr) (ns : List Int), vs = [.ref a] ∧ SqL K H a (ns.map V.int) ∧ ns.length ≤ 63 ∧ ∀ H', Q (.bl true) H'
set_option maxHeartbeats 4000000 in
theorem ok_law {f_law : Addr} {fd_law : FuncData} (F : Fun K "law" "law" s_law f_law fd_law) (m_range : mg "range" = none)
    {f__law_order_right : Addr} {fd__law_order_right : FuncData} (G__law_order_right : FnOk P w K mg base CX0 6 f__law_order_right fd__law_order_right ["_law_one", "_law_other", "_law_third"] (spPure K rel__law_order_right)) (g__law_order_right : mg "_law_order_right" = some (.ref f__law_order_right)) (k__law_order_right : PySem.W.keepIn K (.ref f__law_order_right) = true) (b__law_order_right : Binds K fd__law_order_right ["_law_one", "_law_other", "_law_third"] [])
    {f_multiplied : Addr} {fd_multiplied : FuncData} (G_multiplied : FnOk P w K mg base CX0 5 f_multiplied fd_multiplied ["one", "other"] (spPure K rel_multiplied)) (g_multiplied : mg "multiplied" = some (.ref f_multiplied)) (k_multiplied : PySem.W.keepIn K (.ref f_multiplied) = true) (b_multiplied : Binds K fd_multiplied ["one", "other"] [])
    {f_reduced : Addr} {fd_reduced : FuncData} (G_reduced : FnOk P w K mg base CX0 4 f_reduced fd_reduced ["up", "down"] (spPure K rel_reduced)) (g_reduced : mg "reduced" = some (.ref f_reduced)) (k_reduced : PySem.W.keepIn K (.ref f_reduced) = true) (b_reduced : Binds K fd_reduced ["up", "down"] [])
    {f_less : Addr} {fd_less : FuncData} (G_less : FnOk P w K mg base CX0 5 f_less fd_less ["one", "other"] (spPure K rel_less)) (g_less : mg "less" = some (.ref f_less)) (k_less : PySem.W.keepIn K (.ref f_less) = true) (b_less : Binds K fd_less ["one", "other"] [])
    {f_added : Addr} {fd_added : FuncData} (G_added : FnOk P w K mg base CX0 5 f_added fd_added ["one", "other"] (spPure K rel_added)) (g_added : mg "added" = some (.ref f_added)) (k_added : PySem.W.keepIn K (.ref f_added) = true) (b_added : Binds K fd_added ["one", "other"] [])
    {f_is_fraction : Addr} {fd_is_fraction : FuncData} (G_is_fraction : FnOk P w K mg base CX0 3 f_is_fraction fd_is_fraction ["value"] (spPure K rel_is_fraction)) (g_is_fraction : mg "is_fraction" = some (.ref f_is_fraction)) (k_is_fraction : PySem.W.keepIn K (.ref f_is_fraction) = true) (b_is_fraction : Binds K fd_is_fraction ["value"] [])
    (m_isinstance : mg "isinstance" = none)
    (m_tuple : mg "tuple" = none)
    {f__law_fraction : Addr} {fd__law_fraction : FuncData} (G__law_fraction : FnOk P w K mg base CX0 5 f__law_fraction fd__law_fraction ["_law_cooper_here"] (spDX K 5 psiF)) (g__law_fraction : mg "_law_fraction" = some (.ref f__law_fraction)) (k__law_fraction : PySem.W.keepIn K (.ref f__law_fraction) = true) (b__law_fraction : Binds K fd__law_fraction ["_law_cooper_here"] [])
    {f__law_cooper : Addr} {fd__law_cooper : FuncData} (G__law_cooper : FnOk P w K mg base CX0 1 f__law_cooper fd__law_cooper ["_law_script"] (spSat K)) (g__law_cooper : mg "_law_cooper" = some (.ref f__law_cooper)) (k__law_cooper : PySem.W.keepIn K (.ref f__law_cooper) = true) (b__law_cooper : Binds K fd__law_cooper ["_law_script"] []) :
    FnOk P w K mg base CX0 7 f_law fd_law ["_law_script"] (sp_law K) := by
  refine F.ok sc_law (fun vs H Q E h => ?_) (fun cdv A outer s H vs Q E hr h => ?_)
  · obtain ⟨a, ns, rfl, _⟩ := h; rfl
  · obtain ⟨a, ns, rfl, hS, hlen, q⟩ := h
    refine ⟨_, (pss_cons (ps_set (i := 1) sc_law.nd rfl (.inr rfl) (pe_call G__law_cooper (hr.mono (by decide)) (by rfl) g__law_cooper k__law_cooper b__law_cooper .nil pass0 (pa_cons (pv 0) pa_nil)))
    (pss_cons (ps_for PassesOwn.never rfl (pi_range1 (by rfl) m_range (pa_cons pe_int pa_nil)) (pg_name (i := 2) sc_law.nd rfl (.inl rfl))
      (pss_cons (ps_asg (pe_lc (own := [("_law_part", 7)]) (g := gName 7) (tt := tYes) rfl sc_law.nd (pi_range1 (by rfl) m_range (pa_cons pe_int pa_nil)) (blkOk_by (N := ["_law_script", "_law_cooper_here", "_law_turn", "_law_one", "_law_other", "_law_third", "_law_told", "_law_part", "_law_each"]) (sc := defScope s_law) (by decide +kernel)) (fun _ _ _ _ _ => pg_name (i := 7) sc_law.nd rfl (Or.inl rfl)) (fun _ _ _ _ _ => pts_nil) (fun _ _ _ _ _ => (pe_call G__law_fraction (hr.mono (by decide)) (by rfl) g__law_fraction k__law_fraction b__law_fraction .nil pass0 (pa_cons (pv 1) pa_nil)))) (pg_unl rfl (pgs_cons (pg_name (i := 3) sc_law.nd rfl (.inl rfl)) (pgs_cons (pg_name (i := 4) sc_law.nd rfl (.inl rfl)) (pgs_cons (pg_name (i := 5) sc_law.nd rfl (.inl rfl)) pgs_nil)))))
    (pss_cons (ps_set (i := 6) sc_law.nd rfl (.inl rfl) (pe_lst (pa_cons (pe_call G_added (hr.mono (by decide)) (by rfl) g_added k_added b_added .nil pass0 (pa_cons (pv 3) (pa_cons (pv 4) pa_nil))) (pa_cons (pe_call G_added (hr.mono (by decide)) (by rfl) g_added k_added b_added .nil pass0 (pa_cons (pv 4) (pa_cons (pv 3) pa_nil))) (pa_cons (pe_call G_less (hr.mono (by decide)) (by rfl) g_less k_less b_less .nil pass0 (pa_cons (pe_call G_added (hr.mono (by decide)) (by rfl) g_added k_added b_added .nil pass0 (pa_cons (pv 3) (pa_cons (pv 4) pa_nil))) (pa_cons (pv 4) pa_nil))) (pa_cons (pe_call G_less (hr.mono (by decide)) (by rfl) g_less k_less b_less .nil pass0 (pa_cons (pv 3) (pa_cons (pe_call G_less (hr.mono (by decide)) (by rfl) g_less k_less b_less .nil pass0 (pa_cons (pv 3) (pa_cons (pv 4) pa_nil))) pa_nil))) (pa_cons (pe_call G_added (hr.mono (by decide)) (by rfl) g_added k_added b_added .nil pass0 (pa_cons (pv 3) (pa_cons (pe_tup (pa_cons pe_int (pa_cons pe_int pa_nil))) pa_nil))) (pa_cons (pe_call G_multiplied (hr.mono (by decide)) (by rfl) g_multiplied k_multiplied b_multiplied .nil pass0 (pa_cons (pv 3) (pa_cons (pe_tup (pa_cons pe_int (pa_cons pe_int pa_nil))) pa_nil))) pa_nil))))))))
    (pss_cons (ps_if (PW.pt (pw_or (pt_cmpR (r := rNeD K) (op_neD hr.units) (pv 6) (pe_lst (pa_cons (pe_ix (r := rIx K) ix_seq (pv 6) pe_int (fun _ _ => rfl)) (pa_cons (pe_ix (r := rIx K) ix_seq (pv 6) pe_int (fun _ _ => rfl)) (pa_cons (pv 3) (pa_cons (pv 4) (pa_cons (pv 3) (pa_cons (pv 3) pa_nil))))))) (nomark _)) (pw_or1 (pt_cmpR (r := rNeD K) (op_neD hr.units) (pe_lc (own := [("_law_each", 8)]) (g := gName 8) rfl sc_law.nd (pi_seq (pv 6)) (blkOk_by (N := ["_law_script", "_law_cooper_here", "_law_turn", "_law_one", "_law_other", "_law_third", "_law_told", "_law_part", "_law_each"]) (sc := defScope s_law) (by decide +kernel)) (fun _ _ _ _ _ => pg_name (i := 8) sc_law.nd rfl (Or.inl rfl)) (fun _ _ _ _ _ => pts_one (PW.pt (pw_or (pt_not (pt_val (pe_call G_is_fraction (hr.mono (by decide)) (by rfl) g_is_fraction k_is_fraction b_is_fraction .nil pass0 (pa_cons (pv 8) pa_nil)))) (pw_or1 (pt_not (pt_val (pe_callB (id := "isinstance") (r := rIsi K) call_isi (by rfl) m_isinstance (by decide +kernel) (pa_cons (pv 8) (pa_cons (pe_bltn (v := .ty "tuple") (by rfl) m_tuple (by decide +kernel) rfl) pa_nil))))))))) (fun _ _ _ _ _ => (pv 8))) (pe_lst pa_nil) (nomark _)))))
      (pss_one (ps_ret pe_bl))
      pss_nil)
    (pss_cons (ps_if (PW.pt (pw_or (pt_cmpR (r := rNeD K) (op_neD hr.units) (pe_call G_added (hr.mono (by decide)) (by rfl) g_added k_added b_added .nil pass0 (pa_cons (pe_call G_added (hr.mono (by decide)) (by rfl) g_added k_added b_added .nil pass0 (pa_cons (pv 3) (pa_cons (pv 4) pa_nil))) (pa_cons (pv 5) pa_nil))) (pe_call G_added (hr.mono (by decide)) (by rfl) g_added k_added b_added .nil pass0 (pa_cons (pv 3) (pa_cons (pe_call G_added (hr.mono (by decide)) (by rfl) g_added k_added b_added .nil pass0 (pa_cons (pv 4) (pa_cons (pv 5) pa_nil))) pa_nil))) (nomark _)) (pw_or1 (pt_cmpR (r := rNeD K) (op_neD hr.units) (pe_call G_multiplied (hr.mono (by decide)) (by rfl) g_multiplied k_multiplied b_multiplied .nil pass0 (pa_cons (pe_call G_multiplied (hr.mono (by decide)) (by rfl) g_multiplied k_multiplied b_multiplied .nil pass0 (pa_cons (pv 3) (pa_cons (pv 4) pa_nil))) (pa_cons (pv 5) pa_nil))) (pe_call G_multiplied (hr.mono (by decide)) (by rfl) g_multiplied k_multiplied b_multiplied .nil pass0 (pa_cons (pv 3) (pa_cons (pe_call G_multiplied (hr.mono (by decide)) (by rfl) g_multiplied k_multiplied b_multiplied .nil pass0 (pa_cons (pv 4) (pa_cons (pv 5) pa_nil))) pa_nil))) (nomark _)))))
      (pss_one (ps_ret pe_bl))
      pss_nil)
    (pss_cons (ps_if (PW.pt (pw_or (pt_cmpR (r := rNeD K) (op_neD hr.units) (pe_call G_multiplied (hr.mono (by decide)) (by rfl) g_multiplied k_multiplied b_multiplied .nil pass0 (pa_cons (pv 3) (pa_cons (pe_call G_added (hr.mono (by decide)) (by rfl) g_added k_added b_added .nil pass0 (pa_cons (pv 4) (pa_cons (pv 5) pa_nil))) pa_nil))) (pe_call G_added (hr.mono (by decide)) (by rfl) g_added k_added b_added .nil pass0 (pa_cons (pe_call G_multiplied (hr.mono (by decide)) (by rfl) g_multiplied k_multiplied b_multiplied .nil pass0 (pa_cons (pv 3) (pa_cons (pv 4) pa_nil))) (pa_cons (pe_call G_multiplied (hr.mono (by decide)) (by rfl) g_multiplied k_multiplied b_multiplied .nil pass0 (pa_cons (pv 3) (pa_cons (pv 5) pa_nil))) pa_nil))) (nomark _)) (pw_or1 (pt_cmpR (r := rNeD K) (op_neD hr.units) (pe_call G_multiplied (hr.mono (by decide)) (by rfl) g_multiplied k_multiplied b_multiplied .nil pass0 (pa_cons (pv 3) (pa_cons (pv 4) pa_nil))) (pe_call G_multiplied (hr.mono (by decide)) (by rfl) g_multiplied k_multiplied b_multiplied .nil pass0 (pa_cons (pv 4) (pa_cons (pv 3) pa_nil))) (nomark _)))))
      (pss_one (ps_ret pe_bl))
      pss_nil)
    (pss_cons (ps_if (PW.pt (pw_or (pt_cmpR (r := rNeD K) (op_neD hr.units) (pe_call G_less (hr.mono (by decide)) (by rfl) g_less k_less b_less .nil pass0 (pa_cons (pv 3) (pa_cons (pv 3) pa_nil))) (pe_tup (pa_cons pe_int (pa_cons pe_int pa_nil))) (nomark _)) (pw_or (pt_cmpR (r := rNeD K) (op_neD hr.units) (pe_call G_multiplied (hr.mono (by decide)) (by rfl) g_multiplied k_multiplied b_multiplied .nil pass0 (pa_cons (pv 3) (pa_cons (pe_tup (pa_cons pe_int (pa_cons pe_int pa_nil))) pa_nil))) (pe_tup (pa_cons pe_int (pa_cons pe_int pa_nil))) (nomark _)) (pw_or1 (pt_cmpR (r := rNeD K) (op_neD hr.units) (pe_call G_added (hr.mono (by decide)) (by rfl) g_added k_added b_added .nil pass0 (pa_cons (pv 3) (pa_cons (pe_call G_multiplied (hr.mono (by decide)) (by rfl) g_multiplied k_multiplied b_multiplied .nil pass0 (pa_cons (pe_tup (pa_cons (pe_un un_neg pe_int) (pa_cons pe_int pa_nil))) (pa_cons (pv 3) pa_nil))) pa_nil))) (pe_tup (pa_cons pe_int (pa_cons pe_int pa_nil))) (nomark _))))))
      (pss_one (ps_ret pe_bl))
      pss_nil)
    (pss_cons (ps_if (PW.pt (pw_and (pt_cmpR op_ne (pe_ix (r := rIx K) ix_seq (pv 3) pe_int (fun _ _ => rfl)) pe_int (nomark _)) (pw_and1 (pt_cmpR (r := rNeD K) (op_neD hr.units) (pe_call G_multiplied (hr.mono (by decide)) (by rfl) g_multiplied k_multiplied b_multiplied .nil pass0 (pa_cons (pv 3) (pa_cons (pe_call G_reduced (hr.mono (by decide)) (by rfl) g_reduced k_reduced b_reduced .nil pass0 (pa_cons (pe_ix (r := rIx K) ix_seq (pv 3) pe_int (fun _ _ => rfl)) (pa_cons (pe_ix (r := rIx K) ix_seq (pv 3) pe_int (fun _ _ => rfl)) pa_nil))) pa_nil))) (pe_tup (pa_cons pe_int (pa_cons pe_int pa_nil))) (nomark _)))))
      (pss_one (ps_ret pe_bl))
      pss_nil)
    (pss_one (ps_if (pt_not (pt_val (pe_call G__law_order_right (hr.mono (by decide)) (by rfl) g__law_order_right k__law_order_right b__law_order_right .nil pass0 (pa_cons (pv 3) (pa_cons (pv 4) (pa_cons (pv 5) pa_nil))))))
      (pss_one (ps_ret pe_bl))
      pss_nil))))))))))
    (pss_one (ps_ret pe_bl)))), ?_⟩
    walk_at "nx"
    refine ⟨.ref a, rfl, a, ns, rfl, hS, hlen, fun b c H1 s1 hS1 => ?_⟩
    walk_at "nx"
    refine' st_forR (K := K) (W := satW b c) (n := 0) hS1 (ja_cons jd_int ja_nil) (by decide) (by decide) (fun i σ' H' => ∃ y2 y3 y4 y5 y6 y7 y8, σ' = [some (.ref a), some (.ref b), y2, y3, y4, y5, y6, y7, y8] ∧ Sat b c (15 * i) H') (fun H2 e2 hS2 => ⟨_, _, _, _, _, _, _, rfl, hS2⟩) ?turn ?done
    case done =>
      rintro σ' H' ⟨y2, y3, y4, y5, y6, y7, y8, rfl, hS'⟩
      exact q H'
    case turn =>
    rintro i σ' H' hi ⟨y2, y3, y4, y5, y6, y7, y8, rfl, hS'⟩
    have hi4 : i < 4 := by omega
    have hB : 15 * (i + 1) ≤ BIG := by show 15 * (i + 1) ≤ 1000000; omega
    walk_at "nx"
    refine' st_unl3 (K := K) (W := satW b c) (n := 15 * i) (ψ := psiF) hS' (jxl_lcR (K := K) (nn := 3) (c1 := 5) (ja_cons jd_int ja_nil) (by decide) (fun x => rfl) (fun _ H1 _ _ => jx_callD rfl) ?hL) ?l1 (fun x y z d1 d2 d3 H2 p1 p2 p3 hx hy hz e2 hS2 => ?k1)
    case hL => (rintro d ⟨x, _, rfl⟩; rfl)
    case l1 => (show 15 * i + (0 + 0 + 3 * 5) ≤ 1000000; omega)
    case k1 =>
    obtain ⟨p, hp, rfl⟩ := p1
    obtain ⟨u, hu, rfl⟩ := p2
    obtain ⟨r, hr2, rfl⟩ := p3
    have hI : (satW b c).I (15 * (i + 1)) H2 := (satW b c).mo (by show 15 * i + (0 + 0 + 3 * 5) ≤ _; omega) hS2
    walk_at "nx"
    refine' st_setW (K := K) hI (d := .list ([p + u, u + p, p + u - u, p - (p - u), p + 0, p * 1].map frD)) (JD.eq ?j1 ?e1) ?c1 hB (fun v H3 e3 hI3 hv => ?k2)
    case j1 => walk_at "j"
    case e1 => rfl
    case c1 => rfl
    case k2 =>
    walk_at "nx"
    refine' st_ifF (K := K) hI3 (jb_or (jb_test (jd_neD (d1 := .list ([p + u, u + p, p + u - u, p - (p - u), p + 0, p * 1].map frD)) (d2 := .list ([p + u, p + u, p, u, p, p].map frD)) ?j2 (JD.eq ?j3 ?e3) (shaped_frs _) (shaped_frs _)))
      (fun _ => jb_test (jd_neD (d1 := .list []) (d2 := .list []) (JD.eq (jd_lc (ds := [p + u, u + p, p + u - u, p - (p - u), p + 0, p * 1].map frD) (d0 := .list ([p + u, u + p, p + u - u, p - (p - u), p + 0, p * 1].map frD)) (fun d => !isFrB d || !isTup d) (fun d => d) ?j4 rfl rfl ?l4 (fun x => rfl) ?ht ?he ?hn) ?e4) (jd_lst ja_nil (by decide)) rfl rfl))) ?f2 ?c2 hB (fun H4 e4 hI4 => ?k3)
    case j2 => walk_at "j"
    case j3 => walk_at "j"
    case e3 => rfl
    case j4 => walk_at "j"
    case l4 => (show 6 < 100000; decide)
    case ht =>
      intro d x H5 hm e5 hx5
      obtain ⟨w5, _, rfl⟩ := List.mem_map.mp hm
      refine' JT.le (JB.eq (jb_or (jb_not (jb_B (jd_call (rel := rel_is_fraction) (ja_cons ?v1 ja_nil) ⟨_, rfl, ?v3, rfl⟩ rfl))) (fun _ => jb_not (jb_B (jd_isi ?v2 kit_tuple)))) rfl) ?v4
      case v1 => walk_at "j"
      case v2 => walk_at "j"
      case v3 => (show 2 < 100000; decide)
      case v4 => decide
    case he =>
      intro d x H5 hm _ _ hx5
      refine' jd0 ?v5 rfl ?v6
      case v5 => walk_at "j"
      case v6 => decide
    case hn =>
      intro d hm _
      obtain ⟨w5, _, rfl⟩ := List.mem_map.mp hm
      rfl
    case e4 => (rw [filter_frs]; rfl)
    case f2 =>
      rw [eqv_frs, decide_eq_true (show [p + u, u + p, p + u - u, p - (p - u), p + 0, p * 1] = [p + u, p + u, p, u, p, p] by rw [Rat.add_comm u p, sub_add, sub_sub, Rat.add_zero, Rat.mul_one])]
      rfl
    case c2 => rfl
    case k3 =>
    walk_at "nx"
    refine' st_ifF (K := K) hI4 ?t3 ?f3 ?c3 hB (fun H5 e5 hI5 => ?k4)
    case t3 => walk_at "jt"
    case f3 => (rw [eqv_fr, eqv_fr, decide_eq_true (Rat.add_assoc p u r), decide_eq_true (Rat.mul_assoc p u r)]; rfl)
    case c3 => rfl
    case k4 =>
    walk_at "nx"
    refine' st_ifF (K := K) hI5 ?t4 ?f4 ?c4 hB (fun H6 e6 hI6 => ?k5)
    case t4 => walk_at "jt"
    case f4 => (rw [eqv_fr, eqv_fr, decide_eq_true (Rat.mul_add p u r), decide_eq_true (Rat.mul_comm p u)]; rfl)
    case c4 => rfl
    case k5 =>
    walk_at "nx"
    refine' st_ifF (K := K) hI6 ?t5 ?f5 ?c5 hB (fun H7 e7 hI7 => ?k6)
    case t5 => walk_at "jt"
    case f5 => (rw [eqv_fr0, eqv_fr0, eqv_fr0, decide_eq_true (Rat.sub_self (a := p)), decide_eq_true (Rat.mul_zero p), decide_eq_true (neg1_add p)]; rfl)
    case c5 => rfl
    case k6 =>
    walk_at "nx"
    refine' st_ifF (K := K) (c := 0) hI7 (b := !decide (p.num = 0) && (if p.num = 0 then true else false)) ?t6 ?f6 ?c6 hB (fun H8 e8 hI8 => ?k7)
    case t6 =>
      by_cases h0 : p.num = 0
      · refine' JT.le (JB.eq (jb_and (c2 := 0) (JB.eq (jb_test ?u1) (show (!decide (p.num = 0)) = false by rw [decide_eq_true h0]; rfl)) (fun e => by cases e)) (show (false && true) = _ by rw [decide_eq_true h0]; rfl)) ?u3
        case u1 => walk_at "j"
        case u3 => exact Nat.le_refl 0
      · have hz : p.num.natAbs < 2 ^ 8999 := Nat.lt_of_lt_of_le hp.1 (Nat.pow_le_pow_right (by decide) (by decide))
        have hbi : Bd (Rat.divInt (p.den : Int) p.num) 101 := bd_inv hp h0
        refine' JT.le (JB.eq (jb_and (jb_test ?u4) (fun _ => jb_test ?u5)) ?u6) ?u7
        case u4 => walk_at "j"
        case u5 => walk_at "j"
        case u6 =>
          rw [eqv_fr1, inv_lp, decide_eq_true (Rat.mul_inv_cancel p (fun e => h0 (by rw [e]; rfl))), if_neg h0]; rfl
        case u7 => exact Nat.le_refl 0
    case f6 => by_cases h0 : p.num = 0 <;> simp [h0]
    case c6 => rfl
    case k7 =>
    walk_at "nx"
    refine' st_ifF (K := K) hI8 ?t7 ?f7 ?c7 hB (fun H9 e9 hI9 => ?k8)
    case t7 => walk_at "jt"
    case f7 => rfl
    case c7 => rfl
    case k8 => exact ⟨_, _, _, _, _, _, _, rfl, hI9⟩
--END
end
set_option maxHeartbeats 4000000 in
theorem all_mk {l : PySem.W.OpenLaw} {w : World} {K : PySem.W.Frag} {h : Heap} {mg : Str → Option Value} {fa : Addr} (X : K.In h) (G : h.Ns mainGlobals mg) (hfa : mg "law" = some (.ref fa))
    {f0 : Addr} {od0 an0 : Option Addr} {sl0 : Array (Option Value)} {oc0 kV0 dc0 pm0 cd0 ct0 : Value}
    (a0 : PySem.W.nsIn K mainGlobals "is_integer" = some (some (.ref f0))) (l0 : K.lookup f0 = some ⟨oc0, od0, .func (PySem.W.fnOf "is_integer" "is_integer" (defArgs s_is_integer) (defBody s_is_integer) (defScope s_is_integer) .none kV0 dc0 pm0 an0 cd0 ct0), sl0⟩) (c0 : PySem.W.codeIn K cd0 "is_integer" = true) (k0 : PySem.W.keepIn K (.ref f0) = true)
    {f1 : Addr} {od1 an1 : Option Addr} {sl1 : Array (Option Value)} {oc1 kV1 dc1 pm1 cd1 ct1 : Value}
    (a1 : PySem.W.nsIn K mainGlobals "is_within" = some (some (.ref f1))) (l1 : K.lookup f1 = some ⟨oc1, od1, .func (PySem.W.fnOf "is_within" "is_within" (defArgs s_is_within) (defBody s_is_within) (defScope s_is_within) .none kV1 dc1 pm1 an1 cd1 ct1), sl1⟩) (c1 : PySem.W.codeIn K cd1 "is_within" = true) (k1 : PySem.W.keepIn K (.ref f1) = true)
    {f2 : Addr} {od2 an2 : Option Addr} {sl2 : Array (Option Value)} {oc2 kV2 dc2 pm2 cd2 ct2 : Value}
    (a2 : PySem.W.nsIn K mainGlobals "are_integers" = some (some (.ref f2))) (l2 : K.lookup f2 = some ⟨oc2, od2, .func (PySem.W.fnOf "are_integers" "are_integers" (defArgs s_are_integers) (defBody s_are_integers) (defScope s_are_integers) .none kV2 dc2 pm2 an2 cd2 ct2), sl2⟩) (c2 : PySem.W.codeIn K cd2 "are_integers" = true) (k2 : PySem.W.keepIn K (.ref f2) = true)
    {f3 : Addr} {od3 an3 : Option Addr} {sl3 : Array (Option Value)} {oc3 kV3 dc3 pm3 cd3 ct3 : Value}
    (a3 : PySem.W.nsIn K mainGlobals "is_fraction" = some (some (.ref f3))) (l3 : K.lookup f3 = some ⟨oc3, od3, .func (PySem.W.fnOf "is_fraction" "is_fraction" (defArgs s_is_fraction) (defBody s_is_fraction) (defScope s_is_fraction) .none kV3 dc3 pm3 an3 cd3 ct3), sl3⟩) (c3 : PySem.W.codeIn K cd3 "is_fraction" = true) (k3 : PySem.W.keepIn K (.ref f3) = true)
    {f4 : Addr} {od4 an4 : Option Addr} {sl4 : Array (Option Value)} {oc4 kV4 dc4 pm4 cd4 ct4 : Value}
    (a4 : PySem.W.nsIn K mainGlobals "need_number" = some (some (.ref f4))) (l4 : K.lookup f4 = some ⟨oc4, od4, .func (PySem.W.fnOf "need_number" "need_number" (defArgs s_need_number) (defBody s_need_number) (defScope s_need_number) .none kV4 dc4 pm4 an4 cd4 ct4), sl4⟩) (c4 : PySem.W.codeIn K cd4 "need_number" = true) (k4 : PySem.W.keepIn K (.ref f4) = true)
    {f5 : Addr} {od5 an5 : Option Addr} {sl5 : Array (Option Value)} {oc5 kV5 dc5 pm5 cd5 ct5 : Value}
    (a5 : PySem.W.nsIn K mainGlobals "need_fraction" = some (some (.ref f5))) (l5 : K.lookup f5 = some ⟨oc5, od5, .func (PySem.W.fnOf "need_fraction" "need_fraction" (defArgs s_need_fraction) (defBody s_need_fraction) (defScope s_need_fraction) .none kV5 dc5 pm5 an5 cd5 ct5), sl5⟩) (c5 : PySem.W.codeIn K cd5 "need_fraction" = true) (k5 : PySem.W.keepIn K (.ref f5) = true)
    {f6 : Addr} {od6 an6 : Option Addr} {sl6 : Array (Option Value)} {oc6 kV6 dc6 pm6 cd6 ct6 : Value}
    (a6 : PySem.W.nsIn K mainGlobals "least_pair" = some (some (.ref f6))) (l6 : K.lookup f6 = some ⟨oc6, od6, .func (PySem.W.fnOf "least_pair" "least_pair" (defArgs s_least_pair) (defBody s_least_pair) (defScope s_least_pair) .none kV6 dc6 pm6 an6 cd6 ct6), sl6⟩) (c6 : PySem.W.codeIn K cd6 "least_pair" = true) (k6 : PySem.W.keepIn K (.ref f6) = true)
    {f7 : Addr} {od7 an7 : Option Addr} {sl7 : Array (Option Value)} {oc7 kV7 dc7 pm7 cd7 ct7 : Value}
    (a7 : PySem.W.nsIn K mainGlobals "both" = some (some (.ref f7))) (l7 : K.lookup f7 = some ⟨oc7, od7, .func (PySem.W.fnOf "both" "both" (defArgs s_both) (defBody s_both) (defScope s_both) .none kV7 dc7 pm7 an7 cd7 ct7), sl7⟩) (c7 : PySem.W.codeIn K cd7 "both" = true) (k7 : PySem.W.keepIn K (.ref f7) = true)
    {f8 : Addr} {od8 an8 : Option Addr} {sl8 : Array (Option Value)} {oc8 kV8 dc8 pm8 cd8 ct8 : Value}
    (a8 : PySem.W.nsIn K mainGlobals "times" = some (some (.ref f8))) (l8 : K.lookup f8 = some ⟨oc8, od8, .func (PySem.W.fnOf "times" "times" (defArgs s_times) (defBody s_times) (defScope s_times) .none kV8 dc8 pm8 an8 cd8 ct8), sl8⟩) (c8 : PySem.W.codeIn K cd8 "times" = true) (k8 : PySem.W.keepIn K (.ref f8) = true)
    {f9 : Addr} {od9 an9 : Option Addr} {sl9 : Array (Option Value)} {oc9 kV9 dc9 pm9 cd9 ct9 : Value}
    (a9 : PySem.W.nsIn K mainGlobals "turned" = some (some (.ref f9))) (l9 : K.lookup f9 = some ⟨oc9, od9, .func (PySem.W.fnOf "turned" "turned" (defArgs s_turned) (defBody s_turned) (defScope s_turned) .none kV9 dc9 pm9 an9 cd9 ct9), sl9⟩) (c9 : PySem.W.codeIn K cd9 "turned" = true) (k9 : PySem.W.keepIn K (.ref f9) = true)
    {f10 : Addr} {od10 an10 : Option Addr} {sl10 : Array (Option Value)} {oc10 kV10 dc10 pm10 cd10 ct10 : Value}
    (a10 : PySem.W.nsIn K mainGlobals "is_less" = some (some (.ref f10))) (l10 : K.lookup f10 = some ⟨oc10, od10, .func (PySem.W.fnOf "is_less" "is_less" (defArgs s_is_less) (defBody s_is_less) (defScope s_is_less) .none kV10 dc10 pm10 an10 cd10 ct10), sl10⟩) (c10 : PySem.W.codeIn K cd10 "is_less" = true) (k10 : PySem.W.keepIn K (.ref f10) = true)
    {f11 : Addr} {od11 an11 : Option Addr} {sl11 : Array (Option Value)} {oc11 kV11 dc11 pm11 cd11 ct11 : Value}
    (a11 : PySem.W.nsIn K mainGlobals "reduced" = some (some (.ref f11))) (l11 : K.lookup f11 = some ⟨oc11, od11, .func (PySem.W.fnOf "reduced" "reduced" (defArgs s_reduced) (defBody s_reduced) (defScope s_reduced) .none kV11 dc11 pm11 an11 cd11 ct11), sl11⟩) (c11 : PySem.W.codeIn K cd11 "reduced" = true) (k11 : PySem.W.keepIn K (.ref f11) = true)
    {f12 : Addr} {od12 an12 : Option Addr} {sl12 : Array (Option Value)} {oc12 kV12 dc12 pm12 cd12 ct12 : Value}
    (a12 : PySem.W.nsIn K mainGlobals "added" = some (some (.ref f12))) (l12 : K.lookup f12 = some ⟨oc12, od12, .func (PySem.W.fnOf "added" "added" (defArgs s_added) (defBody s_added) (defScope s_added) .none kV12 dc12 pm12 an12 cd12 ct12), sl12⟩) (c12 : PySem.W.codeIn K cd12 "added" = true) (k12 : PySem.W.keepIn K (.ref f12) = true)
    {f13 : Addr} {od13 an13 : Option Addr} {sl13 : Array (Option Value)} {oc13 kV13 dc13 pm13 cd13 ct13 : Value}
    (a13 : PySem.W.nsIn K mainGlobals "less" = some (some (.ref f13))) (l13 : K.lookup f13 = some ⟨oc13, od13, .func (PySem.W.fnOf "less" "less" (defArgs s_less) (defBody s_less) (defScope s_less) .none kV13 dc13 pm13 an13 cd13 ct13), sl13⟩) (c13 : PySem.W.codeIn K cd13 "less" = true) (k13 : PySem.W.keepIn K (.ref f13) = true)
    {f14 : Addr} {od14 an14 : Option Addr} {sl14 : Array (Option Value)} {oc14 kV14 dc14 pm14 cd14 ct14 : Value}
    (a14 : PySem.W.nsIn K mainGlobals "multiplied" = some (some (.ref f14))) (l14 : K.lookup f14 = some ⟨oc14, od14, .func (PySem.W.fnOf "multiplied" "multiplied" (defArgs s_multiplied) (defBody s_multiplied) (defScope s_multiplied) .none kV14 dc14 pm14 an14 cd14 ct14), sl14⟩) (c14 : PySem.W.codeIn K cd14 "multiplied" = true) (k14 : PySem.W.keepIn K (.ref f14) = true)
    {f15 : Addr} {od15 an15 : Option Addr} {sl15 : Array (Option Value)} {oc15 kV15 dc15 pm15 cd15 ct15 : Value}
    (a15 : PySem.W.nsIn K mainGlobals "below" = some (some (.ref f15))) (l15 : K.lookup f15 = some ⟨oc15, od15, .func (PySem.W.fnOf "below" "below" (defArgs s_below) (defBody s_below) (defScope s_below) .none kV15 dc15 pm15 an15 cd15 ct15), sl15⟩) (c15 : PySem.W.codeIn K cd15 "below" = true) (k15 : PySem.W.keepIn K (.ref f15) = true)
    {f16 : Addr} {od16 an16 : Option Addr} {sl16 : Array (Option Value)} {oc16 kV16 dc16 pm16 cd16 ct16 : Value}
    (a16 : PySem.W.nsIn K mainGlobals "_law_cooper" = some (some (.ref f16))) (l16 : K.lookup f16 = some ⟨oc16, od16, .func (PySem.W.fnOf "_law_cooper" "_law_cooper" (defArgs s__law_cooper) (defBody s__law_cooper) (defScope s__law_cooper) .none kV16 dc16 pm16 an16 cd16 ct16), sl16⟩) (c16 : PySem.W.codeIn K cd16 "_law_cooper" = true) (k16 : PySem.W.keepIn K (.ref f16) = true)
    {f17 : Addr} {od17 an17 : Option Addr} {sl17 : Array (Option Value)} {oc17 kV17 dc17 pm17 cd17 ct17 : Value}
    (a17 : PySem.W.nsIn K mainGlobals "_law_hoop" = some (some (.ref f17))) (l17 : K.lookup f17 = some ⟨oc17, od17, .func (PySem.W.fnOf "_law_hoop" "_law_hoop" (defArgs s__law_hoop) (defBody s__law_hoop) (defScope s__law_hoop) .none kV17 dc17 pm17 an17 cd17 ct17), sl17⟩) (c17 : PySem.W.codeIn K cd17 "_law_hoop" = true) (k17 : PySem.W.keepIn K (.ref f17) = true)
    {f18 : Addr} {od18 an18 : Option Addr} {sl18 : Array (Option Value)} {oc18 kV18 dc18 pm18 cd18 ct18 : Value}
    (a18 : PySem.W.nsIn K mainGlobals "_law_stave" = some (some (.ref f18))) (l18 : K.lookup f18 = some ⟨oc18, od18, .func (PySem.W.fnOf "_law_stave" "_law_stave" (defArgs s__law_stave) (defBody s__law_stave) (defScope s__law_stave) .none kV18 dc18 pm18 an18 cd18 ct18), sl18⟩) (c18 : PySem.W.codeIn K cd18 "_law_stave" = true) (k18 : PySem.W.keepIn K (.ref f18) = true)
    {f19 : Addr} {od19 an19 : Option Addr} {sl19 : Array (Option Value)} {oc19 kV19 dc19 pm19 cd19 ct19 : Value}
    (a19 : PySem.W.nsIn K mainGlobals "_law_fraction" = some (some (.ref f19))) (l19 : K.lookup f19 = some ⟨oc19, od19, .func (PySem.W.fnOf "_law_fraction" "_law_fraction" (defArgs s__law_fraction) (defBody s__law_fraction) (defScope s__law_fraction) .none kV19 dc19 pm19 an19 cd19 ct19), sl19⟩) (c19 : PySem.W.codeIn K cd19 "_law_fraction" = true) (k19 : PySem.W.keepIn K (.ref f19) = true)
    {f20 : Addr} {od20 an20 : Option Addr} {sl20 : Array (Option Value)} {oc20 kV20 dc20 pm20 cd20 ct20 : Value}
    (a20 : PySem.W.nsIn K mainGlobals "_law_order_right" = some (some (.ref f20))) (l20 : K.lookup f20 = some ⟨oc20, od20, .func (PySem.W.fnOf "_law_order_right" "_law_order_right" (defArgs s__law_order_right) (defBody s__law_order_right) (defScope s__law_order_right) .none kV20 dc20 pm20 an20 cd20 ct20), sl20⟩) (c20 : PySem.W.codeIn K cd20 "_law_order_right" = true) (k20 : PySem.W.keepIn K (.ref f20) = true)
    {f21 : Addr} {od21 an21 : Option Addr} {sl21 : Array (Option Value)} {oc21 kV21 dc21 pm21 cd21 ct21 : Value}
    (a21 : PySem.W.nsIn K mainGlobals "law" = some (some (.ref f21))) (l21 : K.lookup f21 = some ⟨oc21, od21, .func (PySem.W.fnOf "law" "law" (defArgs s_law) (defBody s_law) (defScope s_law) .none kV21 dc21 pm21 an21 cd21 ct21), sl21⟩) (c21 : PySem.W.codeIn K cd21 "law" = true) (k21 : PySem.W.keepIn K (.ref f21) = true)
    (z_isinstance : PySem.W.nsIn K mainGlobals "isinstance" = some none)
    (z_int : PySem.W.nsIn K mainGlobals "int" = some none)
    (z_bool : PySem.W.nsIn K mainGlobals "bool" = some none)
    (z_all : PySem.W.nsIn K mainGlobals "all" = some none)
    (z_tuple : PySem.W.nsIn K mainGlobals "tuple" = some none)
    (z_list : PySem.W.nsIn K mainGlobals "list" = some none)
    (z_len : PySem.W.nsIn K mainGlobals "len" = some none)
    (z_abs : PySem.W.nsIn K mainGlobals "abs" = some none)
    (z_range : PySem.W.nsIn K mainGlobals "range" = some none)
    (y_gcd : PySem.W.nsIn K mainGlobals "gcd" = some (some (.builtin "math.gcd")))
    : ∃ fd : FuncData, (∀ (s : Shared) (v : Value), BindsTo s fd ⟨[v], []⟩ [("_law_script", v)]) ∧ ∀ base : Heap, K.In base → base.Ns mainGlobals mg → FnOk l.prog w K mg base CX0 7 fa fd ["_law_script"] (sp_law K) := by
  have e := hfa.symm.trans (PySem.W.mg_of X G a21)
  cases e
  have m_isinstance := PySem.W.mg_none_of X G z_isinstance
  have m_int := PySem.W.mg_none_of X G z_int
  have m_bool := PySem.W.mg_none_of X G z_bool
  have m_all := PySem.W.mg_none_of X G z_all
  have m_tuple := PySem.W.mg_none_of X G z_tuple
  have m_list := PySem.W.mg_none_of X G z_list
  have m_len := PySem.W.mg_none_of X G z_len
  have m_abs := PySem.W.mg_none_of X G z_abs
  have m_range := PySem.W.mg_none_of X G z_range
  have g_gcd := PySem.W.mg_of X G y_gcd
  have F_is_integer := fun_mk (st := s_is_integer) l0 c0 k0
  have g_is_integer := PySem.W.mg_of X G a0
  have b_is_integer := F_is_integer.binds (ps := ["value"]) fun _ _ _ _ _ _ us hl => match us, hl with | [_], _ => rfl
  have F_is_within := fun_mk (st := s_is_within) l1 c1 k1
  have g_is_within := PySem.W.mg_of X G a1
  have b_is_within := F_is_within.binds (ps := ["value", "least", "most"]) fun _ _ _ _ _ _ us hl => match us, hl with | [_, _, _], _ => rfl
  have F_are_integers := fun_mk (st := s_are_integers) l2 c2 k2
  have g_are_integers := PySem.W.mg_of X G a2
  have b_are_integers := F_are_integers.binds (ps := ["value", "many"]) fun _ _ _ _ _ _ us hl => match us, hl with | [_, _], _ => rfl
  have F_is_fraction := fun_mk (st := s_is_fraction) l3 c3 k3
  have g_is_fraction := PySem.W.mg_of X G a3
  have b_is_fraction := F_is_fraction.binds (ps := ["value"]) fun _ _ _ _ _ _ us hl => match us, hl with | [_], _ => rfl
  have F_need_number := fun_mk (st := s_need_number) l4 c4 k4
  have g_need_number := PySem.W.mg_of X G a4
  have b_need_number := F_need_number.binds (ps := ["value", "part", "least", "most"]) fun _ _ _ _ _ _ us hl => match us, hl with | [_, _, _, _], _ => rfl
  have F_need_fraction := fun_mk (st := s_need_fraction) l5 c5 k5
  have g_need_fraction := PySem.W.mg_of X G a5
  have b_need_fraction := F_need_fraction.binds (ps := ["value", "part"]) fun _ _ _ _ _ _ us hl => match us, hl with | [_, _], _ => rfl
  have F_least_pair := fun_mk (st := s_least_pair) l6 c6 k6
  have g_least_pair := PySem.W.mg_of X G a6
  have b_least_pair := F_least_pair.binds (ps := ["up", "down"]) fun _ _ _ _ _ _ us hl => match us, hl with | [_, _], _ => rfl
  have F_both := fun_mk (st := s_both) l7 c7 k7
  have g_both := PySem.W.mg_of X G a7
  have b_both := F_both.binds (ps := ["one", "other"]) fun _ _ _ _ _ _ us hl => match us, hl with | [_, _], _ => rfl
  have F_times := fun_mk (st := s_times) l8 c8 k8
  have g_times := PySem.W.mg_of X G a8
  have b_times := F_times.binds (ps := ["one", "other"]) fun _ _ _ _ _ _ us hl => match us, hl with | [_, _], _ => rfl
  have F_turned := fun_mk (st := s_turned) l9 c9 k9
  have g_turned := PySem.W.mg_of X G a9
  have b_turned := F_turned.binds (ps := ["one"]) fun _ _ _ _ _ _ us hl => match us, hl with | [_], _ => rfl
  have F_is_less := fun_mk (st := s_is_less) l10 c10 k10
  have g_is_less := PySem.W.mg_of X G a10
  have b_is_less := F_is_less.binds (ps := ["one", "other"]) fun _ _ _ _ _ _ us hl => match us, hl with | [_, _], _ => rfl
  have F_reduced := fun_mk (st := s_reduced) l11 c11 k11
  have g_reduced := PySem.W.mg_of X G a11
  have b_reduced := F_reduced.binds (ps := ["up", "down"]) fun _ _ _ _ _ _ us hl => match us, hl with | [_, _], _ => rfl
  have F_added := fun_mk (st := s_added) l12 c12 k12
  have g_added := PySem.W.mg_of X G a12
  have b_added := F_added.binds (ps := ["one", "other"]) fun _ _ _ _ _ _ us hl => match us, hl with | [_, _], _ => rfl
  have F_less := fun_mk (st := s_less) l13 c13 k13
  have g_less := PySem.W.mg_of X G a13
  have b_less := F_less.binds (ps := ["one", "other"]) fun _ _ _ _ _ _ us hl => match us, hl with | [_, _], _ => rfl
  have F_multiplied := fun_mk (st := s_multiplied) l14 c14 k14
  have g_multiplied := PySem.W.mg_of X G a14
  have b_multiplied := F_multiplied.binds (ps := ["one", "other"]) fun _ _ _ _ _ _ us hl => match us, hl with | [_, _], _ => rfl
  have F_below := fun_mk (st := s_below) l15 c15 k15
  have g_below := PySem.W.mg_of X G a15
  have b_below := F_below.binds (ps := ["one", "other"]) fun _ _ _ _ _ _ us hl => match us, hl with | [_, _], _ => rfl
  have F__law_cooper := fun_mk (st := s__law_cooper) l16 c16 k16
  have g__law_cooper := PySem.W.mg_of X G a16
  have b__law_cooper := F__law_cooper.binds (ps := ["_law_script"]) fun _ _ _ _ _ _ us hl => match us, hl with | [_], _ => rfl
  have F__law_hoop := fun_mk (st := s__law_hoop) l17 c17 k17
  have g__law_hoop := PySem.W.mg_of X G a17
  have b__law_hoop := F__law_hoop.binds (ps := ["_law_cooper_here", "_law_many"]) fun _ _ _ _ _ _ us hl => match us, hl with | [_, _], _ => rfl
  have F__law_stave := fun_mk (st := s__law_stave) l18 c18 k18
  have g__law_stave := PySem.W.mg_of X G a18
  have b__law_stave := F__law_stave.binds (ps := ["_law_cooper_here", "_law_some"]) fun _ _ _ _ _ _ us hl => match us, hl with | [_, _], _ => rfl
  have F__law_fraction := fun_mk (st := s__law_fraction) l19 c19 k19
  have g__law_fraction := PySem.W.mg_of X G a19
  have b__law_fraction := F__law_fraction.binds (ps := ["_law_cooper_here"]) fun _ _ _ _ _ _ us hl => match us, hl with | [_], _ => rfl
  have F__law_order_right := fun_mk (st := s__law_order_right) l20 c20 k20
  have g__law_order_right := PySem.W.mg_of X G a20
  have b__law_order_right := F__law_order_right.binds (ps := ["_law_one", "_law_other", "_law_third"]) fun _ _ _ _ _ _ us hl => match us, hl with | [_, _, _], _ => rfl
  have F_law := fun_mk (st := s_law) l21 c21 k21
  have g_law := PySem.W.mg_of X G a21
  have b_law := F_law.binds (ps := ["_law_script"]) fun _ _ _ _ _ _ us hl => match us, hl with | [_], _ => rfl
  refine ⟨PySem.W.fnOf "law" "law" (defArgs s_law) (defBody s_law) (defScope s_law) .none kV21 dc21 pm21 an21 cd21 ct21, fun s v => .of_eq rfl, fun base _ _ => ?_⟩
  have G_is_integer := ok_is_integer (P := l.prog) (w := w) (mg := mg) (base := base) F_is_integer m_isinstance m_int m_bool
  have G_is_within := ok_is_within (P := l.prog) (w := w) (mg := mg) (base := base) F_is_within G_is_integer g_is_integer F_is_integer.kp b_is_integer
  have G_are_integers := ok_are_integers (P := l.prog) (w := w) (mg := mg) (base := base) F_are_integers m_all G_is_integer g_is_integer F_is_integer.kp b_is_integer m_isinstance m_tuple m_list m_len
  have G_is_fraction := ok_is_fraction (P := l.prog) (w := w) (mg := mg) (base := base) F_is_fraction G_are_integers g_are_integers F_are_integers.kp b_are_integers g_gcd
  have G_need_number := ok_need_number (P := l.prog) (w := w) (mg := mg) (base := base) F_need_number G_is_within g_is_within F_is_within.kp b_is_within
  have G_need_fraction := ok_need_fraction (P := l.prog) (w := w) (mg := mg) (base := base) F_need_fraction G_is_fraction g_is_fraction F_is_fraction.kp b_is_fraction
  have G_least_pair := ok_least_pair (P := l.prog) (w := w) (mg := mg) (base := base) F_least_pair g_gcd
  have G_both := ok_both (P := l.prog) (w := w) (mg := mg) (base := base) F_both G_least_pair g_least_pair F_least_pair.kp b_least_pair
  have G_times := ok_times (P := l.prog) (w := w) (mg := mg) (base := base) F_times G_least_pair g_least_pair F_least_pair.kp b_least_pair
  have G_turned := ok_turned (P := l.prog) (w := w) (mg := mg) (base := base) F_turned 
  have G_is_less := ok_is_less (P := l.prog) (w := w) (mg := mg) (base := base) F_is_less 
  have G_reduced := ok_reduced (P := l.prog) (w := w) (mg := mg) (base := base) F_reduced G_least_pair g_least_pair F_least_pair.kp b_least_pair G_is_integer g_is_integer F_is_integer.kp b_is_integer G_need_number g_need_number F_need_number.kp b_need_number
  have G_added := ok_added (P := l.prog) (w := w) (mg := mg) (base := base) F_added G_both g_both F_both.kp b_both G_need_fraction g_need_fraction F_need_fraction.kp b_need_fraction
  have G_less := ok_less (P := l.prog) (w := w) (mg := mg) (base := base) F_less G_both g_both F_both.kp b_both G_turned g_turned F_turned.kp b_turned G_need_fraction g_need_fraction F_need_fraction.kp b_need_fraction
  have G_multiplied := ok_multiplied (P := l.prog) (w := w) (mg := mg) (base := base) F_multiplied G_times g_times F_times.kp b_times G_need_fraction g_need_fraction F_need_fraction.kp b_need_fraction
  have G_below := ok_below (P := l.prog) (w := w) (mg := mg) (base := base) F_below G_is_less g_is_less F_is_less.kp b_is_less G_need_fraction g_need_fraction F_need_fraction.kp b_need_fraction
  have G__law_cooper := ok__law_cooper (P := l.prog) (w := w) (mg := mg) (base := base) F__law_cooper m_int
  have G__law_hoop := ok__law_hoop (P := l.prog) (w := w) (mg := mg) (base := base) F__law_hoop m_int m_len m_abs
  have G__law_stave := ok__law_stave (P := l.prog) (w := w) (mg := mg) (base := base) F__law_stave G__law_hoop g__law_hoop F__law_hoop.kp b__law_hoop m_len
  have G__law_fraction := ok__law_fraction (P := l.prog) (w := w) (mg := mg) (base := base) F__law_fraction G_reduced g_reduced F_reduced.kp b_reduced G__law_stave g__law_stave F__law_stave.kp b__law_stave G__law_hoop g__law_hoop F__law_hoop.kp b__law_hoop
  have G__law_order_right := ok__law_order_right (P := l.prog) (w := w) (mg := mg) (base := base) F__law_order_right G_below g_below F_below.kp b_below G_multiplied g_multiplied F_multiplied.kp b_multiplied G_added g_added F_added.kp b_added G_less g_less F_less.kp b_less
  have G_law := ok_law (P := l.prog) (w := w) (mg := mg) (base := base) F_law m_range G__law_order_right g__law_order_right F__law_order_right.kp b__law_order_right G_multiplied g_multiplied F_multiplied.kp b_multiplied G_reduced g_reduced F_reduced.kp b_reduced G_less g_less F_less.kp b_less G_added g_added F_added.kp b_added G_is_fraction g_is_fraction F_is_fraction.kp b_is_fraction m_isinstance m_tuple G__law_fraction g__law_fraction F__law_fraction.kp b__law_fraction G__law_cooper g__law_cooper F__law_cooper.kp b__law_cooper
  exact G_law
end K04
open PySem PySem.W PyProof.Rows
set_option maxRecDepth 100000 in
set_option maxHeartbeats 0 in
theorem PySem.Challenge.cw_nodice_k04_whole_fractions_reckon_as_num_holds : PySem.Challenge.rw_nodice_k04_whole_fractions_reckon_as_num.Holds := by
  w_on; o_law; k_head; (case hw => w_witness2)
  k_fill
  refine L2.walk_of (l := PySem.Challenge.rw_nodice_k04_whole_fractions_reckon_as_num) (n := 63) (k := 7) (x := "_law_script") (CX := fun _ => L2.CX0) (sp := fun w => K04.sp_law _) rfl (by decide) rfl ⟨rfl, by decide, by decide⟩ (fun w h Y => PySem.W.kIn_of Y) ?F (fun _ _ a ns hl _ hS => ⟨a, ns, rfl, hS, hl, fun _ => rfl⟩) (fun _ _ _ _ _ h => h)
  case F =>
    intro w mg fa h KX G hmg
    refine' K04.all_mk KX G hmg ?a0 ?l0 ?c0 ?k0 ?a1 ?l1 ?c1 ?k1 ?a2 ?l2 ?c2 ?k2 ?a3 ?l3 ?c3 ?k3 ?a4 ?l4 ?c4 ?k4 ?a5 ?l5 ?c5 ?k5 ?a6 ?l6 ?c6 ?k6 ?a7 ?l7 ?c7 ?k7 ?a8 ?l8 ?c8 ?k8 ?a9 ?l9 ?c9 ?k9 ?a10 ?l10 ?c10 ?k10 ?a11 ?l11 ?c11 ?k11 ?a12 ?l12 ?c12 ?k12 ?a13 ?l13 ?c13 ?k13 ?a14 ?l14 ?c14 ?k14 ?a15 ?l15 ?c15 ?k15 ?a16 ?l16 ?c16 ?k16 ?a17 ?l17 ?c17 ?k17 ?a18 ?l18 ?c18 ?k18 ?a19 ?l19 ?c19 ?k19 ?a20 ?l20 ?c20 ?k20 ?a21 ?l21 ?c21 ?k21 ?z_isinstance ?z_int ?z_bool ?z_all ?z_tuple ?z_list ?z_len ?z_abs ?z_range ?y_gcd
    (case a0 => k_is); (case l0 => k_is); (case c0 => k_is); (case k0 => k_is); (case a1 => k_is); (case l1 => k_is); (case c1 => k_is); (case k1 => k_is); (case a2 => k_is); (case l2 => k_is); (case c2 => k_is); (case k2 => k_is); (case a3 => k_is); (case l3 => k_is); (case c3 => k_is); (case k3 => k_is); (case a4 => k_is); (case l4 => k_is); (case c4 => k_is); (case k4 => k_is); (case a5 => k_is); (case l5 => k_is); (case c5 => k_is); (case k5 => k_is); (case a6 => k_is); (case l6 => k_is); (case c6 => k_is); (case k6 => k_is); (case a7 => k_is); (case l7 => k_is); (case c7 => k_is); (case k7 => k_is); (case a8 => k_is); (case l8 => k_is); (case c8 => k_is); (case k8 => k_is); (case a9 => k_is); (case l9 => k_is); (case c9 => k_is); (case k9 => k_is); (case a10 => k_is); (case l10 => k_is); (case c10 => k_is); (case k10 => k_is); (case a11 => k_is); (case l11 => k_is); (case c11 => k_is); (case k11 => k_is); (case a12 => k_is); (case l12 => k_is); (case c12 => k_is); (case k12 => k_is); (case a13 => k_is); (case l13 => k_is); (case c13 => k_is); (case k13 => k_is); (case a14 => k_is); (case l14 => k_is); (case c14 => k_is); (case k14 => k_is); (case a15 => k_is); (case l15 => k_is); (case c15 => k_is); (case k15 => k_is); (case a16 => k_is); (case l16 => k_is); (case c16 => k_is); (case k16 => k_is); (case a17 => k_is); (case l17 => k_is); (case c17 => k_is); (case k17 => k_is); (case a18 => k_is); (case l18 => k_is); (case c18 => k_is); (case k18 => k_is); (case a19 => k_is); (case l19 => k_is); (case c19 => k_is); (case k19 => k_is); (case a20 => k_is); (case l20 => k_is); (case c20 => k_is); (case k20 => k_is); (case a21 => k_is); (case l21 => k_is); (case c21 => k_is); (case k21 => k_is); (case z_isinstance => k_is); (case z_int => k_is); (case z_bool => k_is); (case z_all => k_is); (case z_tuple => k_is); (case z_list => k_is); (case z_len => k_is); (case z_abs => k_is); (case z_range => k_is); (case y_gcd => k_is)

