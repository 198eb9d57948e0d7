import PyProof.Rows.All
import Wide.All
import OpenK.AllK
import Wide.FinOn
import HandS.ForMost
import HandS.Wide
import HandS.Gcd
import HandS.IsInst
import HandS.NoneIn
import HandS.SetFor
import HandS.WideBits
import HandS.SortInts
import HandS.Dict
import HandS.Deep
import HandS.Zip
import HandS.TryOnly
import PyProof.ReprRoads
import HandS.Defaults
import HandS.Style
import HandS.TupAny
import KE.GoesEnum
import HandS.RaiseMore
import HandS.Star
import HandS.ListItems
import HandS.DictComp
import KE.KDictPairs
import PyProof.P3Eq
import PySem.Challenge.RW_nodice_k22_whole_one_chip_sent_towards
set_option Elab.async false
set_option linter.all false
set_option maxRecDepth 100000
set_option maxHeartbeats 2000000
/-! values without addresses (D), and when a value of the heap is one; slots by value, some of them owning what they hold -/
namespace Vl
open PySem PySem.Spec L2

inductive D where
  | non | bl (b : Bool) | int (i : Int) | str (x : Str)
  | lst (ds : List D) | tup (ds : List D)
  | dk (ks : List (Key × D)) | dt (ks : List (List Key × D))
  | ins (C : Str) (fs : List (Str × D))
  | oth (v : V)
  deriving Inhabited

structure KC where
  K : PySem.W.Frag
  cl : Str → Option Addr

def WrK (K : PySem.W.Frag) (a : Addr) (xs : List V) : Prop := ∃ (its : Array Value) (n : Nat), K.lookup a = some { cls := .type "list", data := .seq its n } ∧ its.size ≤ sizeLine ∧ Vals xs its.toList
def LsX (K : PySem.W.Frag) (H : Hp) (a : Addr) (xs : List V) : Prop := Rd H a (.lst xs) ∨ WrK K a xs
theorem WrK.sq {K : PySem.W.Frag} {H : Hp} {a : Addr} {xs : List V} (h : WrK K a xs) : SqL K H a xs := by
  obtain ⟨its, n, e, z, r⟩ := h
  exact .inr ⟨_, its, n, e, rfl, rfl, rfl, z, r⟩
theorem LsX.lst {X : Cx} {pins : List (Addr × Obj)} {σ : St} {H : Hp} {s : Shared} {l : Addr} {xs : List V} (I : Inv X pins σ H s) (h : LsX X.K H l xs) : ∃ (its : List Value) (n : Nat), Vals xs its ∧ xs.length = its.length ∧ s.heap.get? l = some { cls := .type "list", data := .seq its.toArray n } := by
  rcases h with h | ⟨its, n, e, z, r⟩
  · obtain ⟨z, its, n, r, e⟩ := h.ok I.hok
    exact ⟨its, n, r, r.length, e⟩
  · exact ⟨its.toList, n, r, r.length, by have := I.kIn l _ e; simpa using this⟩
/-- what may change: a list, a dict, an instance, a set -/
def MutO : HO → Prop
  | .lst _ => True
  | .dK _ => True
  | .dT _ => True
  | .ins _ _ _ => True
  | _ => False
def ExM (M : Addr → Prop) (H H' : Hp) : Prop := ∀ a o, ¬ M a → H a = some o → H' a = some o
def no : Addr → Prop := fun _ => False
theorem ExM.refl {M : Addr → Prop} {H : Hp} : ExM M H H := fun _ _ _ h => h
theorem ExM.trans {M : Addr → Prop} {H H1 H2 : Hp} (a : ExM M H H1) (b : ExM M H1 H2) : ExM M H H2 := fun x o m h => b x o m (a x o m h)
theorem ExM.of {M : Addr → Prop} {H H' : Hp} (e : Same H H') : ExM M H H' := fun a o _ h => e a o h
theorem ExM.imp {M N : Addr → Prop} {H H' : Hp} (e : ExM M H H') (h : ∀ a, M a → N a) : ExM N H H' := fun a o m q => e a o (fun z => m (h a z)) q
theorem same_new {H : Hp} {p : Addr} {o : HO} (h : H p = none) : Same H (upd H p o) := fun b x e => by
  rw [upd_ne (ne_of_none e h)]; exact e
theorem exm_upd {M : Addr → Prop} {H : Hp} {p : Addr} {o : HO} (h : M p) : ExM M H (upd H p o) := fun b x m e => by
  rw [upd_ne (fun (z : b = p) => m (by rw [z]; exact h))]; exact e

section
variable (Γ : KC) (M : Addr → Prop) (H : Hp)
/-- a list that stands written in the fragment (the script may) -/
def WrL (a : Addr) (xs : List V) : Prop := WrK Γ.K a xs
def WrT (a : Addr) (xs : List V) : Prop := ∃ (o : Obj) (its : Array Value) (n : Nat), Γ.K.lookup a = some o ∧ o.cls = .type "tuple" ∧ o.data = .seq its n ∧ its.size ≤ sizeLine ∧ Vals xs its.toList ∧ o.dict = none
/-- a tuple is known to be plain (it has no dict of its own) where it is empty or begins with a tuple: dict(..) may be asked of it -/
def PlT (a : Addr) (xs : List V) : Prop := ∃ o : Obj, o.dict = none ∧ H a = some (.frz o (.tup xs))
def nds : List D → Bool
  | [] => true
  | .tup _ :: _ => true
  | _ => false
def LsS (a : Addr) (xs : List V) : Prop := (¬ M a ∧ Rd H a (.lst xs)) ∨ WrL Γ a xs
def TuS (b : Bool) (a : Addr) (xs : List V) : Prop := (¬ M a ∧ (PlT H a xs ∨ b = false ∧ H a = some (.tup xs))) ∨ WrT Γ a xs
mutual
/-- the value is d, as long as what stands outside M stays -/
def Dm : D → V → Prop
  | .non, v => v = .non
  | .bl b, v => v = .bl b
  | .int i, v => v = .int i
  | .str x, v => v = .str x
  | .oth u, v => v = u
  | .lst ds, v => ∃ a xs, v = .ref a ∧ LsS Γ M H a xs ∧ Dms ds xs
  | .tup ds, v => ∃ a xs, v = .ref a ∧ TuS Γ M H (nds ds) a xs ∧ Dms ds xs
  | .dk ks, v => ∃ a kvs, v = .ref a ∧ ¬ M a ∧ Rd H a (.dK kvs) ∧ Dmk ks kvs
  | .dt ks, v => ∃ a kvs, v = .ref a ∧ ¬ M a ∧ Rd H a (.dT kvs) ∧ Dmt ks kvs
  | .ins C fs, v => ∃ a A dx gs, v = .ref a ∧ ¬ M a ∧ Γ.cl C = some A ∧ H a = some (.ins A dx gs) ∧ Dmf fs gs
def Dms : List D → List V → Prop
  | [], xs => xs = []
  | d :: ds, xs => ∃ x r, xs = x :: r ∧ Dm d x ∧ Dms ds r
def Dmk : List (Key × D) → List (Key × V) → Prop
  | [], xs => xs = []
  | (k, d) :: ds, xs => ∃ x r, xs = (k, x) :: r ∧ Dm d x ∧ Dmk ds r
def Dmt : List (List Key × D) → List (List Key × V) → Prop
  | [], xs => xs = []
  | (k, d) :: ds, xs => ∃ x r, xs = (k, x) :: r ∧ Dm d x ∧ Dmt ds r
def Dmf : List (Str × D) → List (Str × V) → Prop
  | [], xs => xs = []
  | (k, d) :: ds, xs => ∃ x r, xs = (k, x) :: r ∧ Dm d x ∧ Dmf ds r
end
/-- what stands at a is d, its parts as above -/
def Tp : D → Addr → Prop
  | .lst ds, a => ∃ xs, H a = some (.lst xs) ∧ Dms Γ M H ds xs
  | .dk ks, a => ∃ kvs, H a = some (.dK kvs) ∧ Dmk Γ M H ks kvs
  | .dt ks, a => ∃ kvs, H a = some (.dT kvs) ∧ Dmt Γ M H ks kvs
  | .ins C fs, a => ∃ A dx gs, Γ.cl C = some A ∧ H a = some (.ins A dx gs) ∧ Dmf Γ M H fs gs
  | _, _ => False
end
variable {Γ : KC} {M N : Addr → Prop} {H H1 H2 : Hp} {v : V} {d : D}
theorem rd_mono {a : Addr} {u : HO} (e : ExM M H H1) (m : ¬ M a) (h : Rd H a u) : Rd H1 a u := by
  rcases h with h | ⟨o, h⟩
  · exact .inl (e a _ m h)
  · exact .inr ⟨o, e a _ m h⟩
theorem LsS.mono {a : Addr} {xs : List V} (h : LsS Γ M H a xs) (e : ExM M H H1) : LsS Γ M H1 a xs := by
  rcases h with ⟨m, h⟩ | h
  · exact .inl ⟨m, rd_mono e m h⟩
  · exact .inr h
theorem PlT.mono {a : Addr} {xs : List V} (h : PlT H a xs) (e : ExM M H H1) (m : ¬ M a) : PlT H1 a xs := let ⟨o, ho, h⟩ := h; ⟨o, ho, e a _ m h⟩
theorem PlT.rd {a : Addr} {xs : List V} (h : PlT H a xs) : Rd H a (.tup xs) := let ⟨o, _, h⟩ := h; .inr ⟨o, h⟩
theorem TuS.mono {b : Bool} {a : Addr} {xs : List V} (h : TuS Γ M H b a xs) (e : ExM M H H1) : TuS Γ M H1 b a xs := by
  rcases h with ⟨m, h | ⟨h0, h⟩⟩ | h
  · exact .inl ⟨m, .inl (h.mono e m)⟩
  · exact .inl ⟨m, .inr ⟨h0, e a _ m h⟩⟩
  · exact .inr h
theorem rd_some {a : Addr} {u : HO} (h : Rd H a u) : H a ≠ none := by
  rcases h with h | ⟨o, h⟩ <;> (rw [h]; intro z; cases z)
theorem LsS.sq {a : Addr} {xs : List V} (h : LsS Γ M H a xs) : SqL Γ.K H a xs := by
  rcases h with ⟨m, h⟩ | h
  · exact .inl h
  · exact WrK.sq h
theorem LsS.lx {a : Addr} {xs : List V} (h : LsS Γ M H a xs) : LsX Γ.K H a xs := by
  rcases h with ⟨m, h⟩ | h
  · exact .inl h
  · exact .inr h
theorem TuS.sq {b : Bool} {a : Addr} {xs : List V} (h : TuS Γ M H b a xs) : SqT Γ.K H a xs := by
  rcases h with ⟨m, h | ⟨_, h⟩⟩ | ⟨o, its, n, h1, h2, h3, h4, h5, _⟩
  · exact .inl h.rd
  · exact .inl (.inl h)
  · exact .inr ⟨o, its, n, h1, h2, h3, h4, h5⟩
/-- a new tuple, plain -/
theorem TuS.new {b : Bool} {a : Addr} {xs : List V} {o : Obj} (m : ¬ M a) (h : H a = some (.frz o (.tup xs))) (ho : o.dict = none) : TuS Γ M H b a xs := .inl ⟨m, .inl ⟨o, ho, h⟩⟩
/-- N is within M, of what stands -/
abbrev Sub (H : Hp) (N M : Addr → Prop) : Prop := ∀ a, N a → H a ≠ none → M a
theorem LsS.anti {a : Addr} {xs : List V} (s : Sub H N M) (h : LsS Γ M H a xs) : LsS Γ N H a xs := by
  rcases h with ⟨m, h⟩ | h
  · exact .inl ⟨fun z => m (s a z (rd_some h)), h⟩
  · exact .inr h
theorem TuS.anti {b : Bool} {a : Addr} {xs : List V} (s : Sub H N M) (h : TuS Γ M H b a xs) : TuS Γ N H b a xs := by
  rcases h with ⟨m, h⟩ | h
  · exact .inl ⟨fun z => m (s a z (by
      rcases h with ⟨o, _, h⟩ | ⟨_, h⟩ <;> (rw [h]; intro z; cases z))), h⟩
  · exact .inr h
mutual
theorem Dm.mono (e : ExM M H H1) : ∀ (d : D) (v : V), Dm Γ M H d v → Dm Γ M H1 d v
  | .non, _, h => by simp only [Dm] at h ⊢; exact h
  | .bl _, _, h => by simp only [Dm] at h ⊢; exact h
  | .int _, _, h => by simp only [Dm] at h ⊢; exact h
  | .str _, _, h => by simp only [Dm] at h ⊢; exact h
  | .oth _, _, h => by simp only [Dm] at h ⊢; exact h
  | .lst ds, _, h => by simp only [Dm] at h ⊢; obtain ⟨a, xs, r, h1, h2⟩ := h; exact ⟨a, xs, r, h1.mono e, Dms.mono e ds xs h2⟩
  | .tup ds, _, h => by simp only [Dm] at h ⊢; obtain ⟨a, xs, r, h1, h2⟩ := h; exact ⟨a, xs, r, h1.mono e, Dms.mono e ds xs h2⟩
  | .dk ks, _, h => by simp only [Dm] at h ⊢; obtain ⟨a, kvs, r, m, h1, h2⟩ := h; exact ⟨a, kvs, r, m, rd_mono e m h1, Dmk.mono e ks kvs h2⟩
  | .dt ks, _, h => by simp only [Dm] at h ⊢; obtain ⟨a, kvs, r, m, h1, h2⟩ := h; exact ⟨a, kvs, r, m, rd_mono e m h1, Dmt.mono e ks kvs h2⟩
  | .ins C fs, _, h => by simp only [Dm] at h ⊢; obtain ⟨a, A, dx, gs, r, m, c, h1, h2⟩ := h; exact ⟨a, A, dx, gs, r, m, c, e _ _ m h1, Dmf.mono e fs gs h2⟩
theorem Dms.mono (e : ExM M H H1) : ∀ (ds : List D) (xs : List V), Dms Γ M H ds xs → Dms Γ M H1 ds xs
  | [], _, h => by simp only [Dms] at h ⊢; exact h
  | d :: ds, _, h => by simp only [Dms] at h ⊢; obtain ⟨x, r, e1, h1, h2⟩ := h; exact ⟨x, r, e1, Dm.mono e d x h1, Dms.mono e ds r h2⟩
theorem Dmk.mono (e : ExM M H H1) : ∀ (ds : List (Key × D)) (xs : List (Key × V)), Dmk Γ M H ds xs → Dmk Γ M H1 ds xs
  | [], _, h => by simp only [Dmk] at h ⊢; exact h
  | (k, d) :: ds, _, h => by simp only [Dmk] at h ⊢; obtain ⟨x, r, e1, h1, h2⟩ := h; exact ⟨x, r, e1, Dm.mono e d x h1, Dmk.mono e ds r h2⟩
theorem Dmt.mono (e : ExM M H H1) : ∀ (ds : List (List Key × D)) (xs : List (List Key × V)), Dmt Γ M H ds xs → Dmt Γ M H1 ds xs
  | [], _, h => by simp only [Dmt] at h ⊢; exact h
  | (k, d) :: ds, _, h => by simp only [Dmt] at h ⊢; obtain ⟨x, r, e1, h1, h2⟩ := h; exact ⟨x, r, e1, Dm.mono e d x h1, Dmt.mono e ds r h2⟩
theorem Dmf.mono (e : ExM M H H1) : ∀ (ds : List (Str × D)) (xs : List (Str × V)), Dmf Γ M H ds xs → Dmf Γ M H1 ds xs
  | [], _, h => by simp only [Dmf] at h ⊢; exact h
  | (k, d) :: ds, _, h => by simp only [Dmf] at h ⊢; obtain ⟨x, r, e1, h1, h2⟩ := h; exact ⟨x, r, e1, Dm.mono e d x h1, Dmf.mono e ds r h2⟩
end
mutual
theorem Dm.anti (s : Sub H N M) : ∀ (d : D) (v : V), Dm Γ M H d v → Dm Γ N H d v
  | .non, _, h => by simp only [Dm] at h ⊢; exact h
  | .bl _, _, h => by simp only [Dm] at h ⊢; exact h
  | .int _, _, h => by simp only [Dm] at h ⊢; exact h
  | .str _, _, h => by simp only [Dm] at h ⊢; exact h
  | .oth _, _, h => by simp only [Dm] at h ⊢; exact h
  | .lst ds, _, h => by simp only [Dm] at h ⊢; obtain ⟨a, xs, r, h1, h2⟩ := h; exact ⟨a, xs, r, h1.anti s, Dms.anti s ds xs h2⟩
  | .tup ds, _, h => by simp only [Dm] at h ⊢; obtain ⟨a, xs, r, h1, h2⟩ := h; exact ⟨a, xs, r, h1.anti s, Dms.anti s ds xs h2⟩
  | .dk ks, _, h => by simp only [Dm] at h ⊢; obtain ⟨a, kvs, r, m, h1, h2⟩ := h; exact ⟨a, kvs, r, fun z => m (s a z (rd_some h1)), h1, Dmk.anti s ks kvs h2⟩
  | .dt ks, _, h => by simp only [Dm] at h ⊢; obtain ⟨a, kvs, r, m, h1, h2⟩ := h; exact ⟨a, kvs, r, fun z => m (s a z (rd_some h1)), h1, Dmt.anti s ks kvs h2⟩
  | .ins C fs, _, h => by simp only [Dm] at h ⊢; obtain ⟨a, A, dx, gs, r, m, c, h1, h2⟩ := h; exact ⟨a, A, dx, gs, r, fun z => m (s a z (by rw [h1]; intro z; cases z)), c, h1, Dmf.anti s fs gs h2⟩
theorem Dms.anti (s : Sub H N M) : ∀ (ds : List D) (xs : List V), Dms Γ M H ds xs → Dms Γ N H ds xs
  | [], _, h => by simp only [Dms] at h ⊢; exact h
  | d :: ds, _, h => by simp only [Dms] at h ⊢; obtain ⟨x, r, e1, h1, h2⟩ := h; exact ⟨x, r, e1, Dm.anti s d x h1, Dms.anti s ds r h2⟩
theorem Dmk.anti (s : Sub H N M) : ∀ (ds : List (Key × D)) (xs : List (Key × V)), Dmk Γ M H ds xs → Dmk Γ N H ds xs
  | [], _, h => by simp only [Dmk] at h ⊢; exact h
  | (k, d) :: ds, _, h => by simp only [Dmk] at h ⊢; obtain ⟨x, r, e1, h1, h2⟩ := h; exact ⟨x, r, e1, Dm.anti s d x h1, Dmk.anti s ds r h2⟩
theorem Dmt.anti (s : Sub H N M) : ∀ (ds : List (List Key × D)) (xs : List (List Key × V)), Dmt Γ M H ds xs → Dmt Γ N H ds xs
  | [], _, h => by simp only [Dmt] at h ⊢; exact h
  | (k, d) :: ds, _, h => by simp only [Dmt] at h ⊢; obtain ⟨x, r, e1, h1, h2⟩ := h; exact ⟨x, r, e1, Dm.anti s d x h1, Dmt.anti s ds r h2⟩
theorem Dmf.anti (s : Sub H N M) : ∀ (ds : List (Str × D)) (xs : List (Str × V)), Dmf Γ M H ds xs → Dmf Γ N H ds xs
  | [], _, h => by simp only [Dmf] at h ⊢; exact h
  | (k, d) :: ds, _, h => by simp only [Dmf] at h ⊢; obtain ⟨x, r, e1, h1, h2⟩ := h; exact ⟨x, r, e1, Dm.anti s d x h1, Dmf.anti s ds r h2⟩
end
/-! ### data without a thing that may change -/
mutual
def noM : D → Bool
  | .lst _ => false
  | .tup ds => noMs ds
  | .dk _ => false
  | .dt _ => false
  | .ins _ _ => false
  | _ => true
def noMs : List D → Bool
  | [] => true
  | d :: ds => noM d && noMs ds
end
mutual
theorem Dm.keep (hI : ∀ a, M a → ∃ o, H a = some o ∧ MutO o) : ∀ (d : D) (v : V), noM d = true → Dm Γ N H d v → Dm Γ M H d v
  | .non, _, _, h => by simp only [Dm] at h ⊢; exact h
  | .bl _, _, _, h => by simp only [Dm] at h ⊢; exact h
  | .int _, _, _, h => by simp only [Dm] at h ⊢; exact h
  | .str _, _, _, h => by simp only [Dm] at h ⊢; exact h
  | .oth _, _, _, h => by simp only [Dm] at h ⊢; exact h
  | .lst _, _, n, _ => by simp [noM] at n
  | .dk _, _, n, _ => by simp [noM] at n
  | .dt _, _, n, _ => by simp [noM] at n
  | .ins _ _, _, n, _ => by simp [noM] at n
  | .tup ds, _, n, h => by
    simp only [Dm] at h ⊢
    simp only [noM] at n
    obtain ⟨a, xs, r, h1, h2⟩ := h
    refine ⟨a, xs, r, ?_, Dms.keep hI ds xs n h2⟩
    rcases h1 with ⟨_, h1⟩ | h1
    · refine .inl ⟨fun m => ?_, h1⟩
      obtain ⟨o, z, zu⟩ := hI a m
      rcases h1 with ⟨o', _, h1⟩ | ⟨_, h1⟩ <;> (rw [h1] at z; cases z; exact zu)
    · exact .inr h1
theorem Dms.keep (hI : ∀ a, M a → ∃ o, H a = some o ∧ MutO o) : ∀ (ds : List D) (xs : List V), noMs ds = true → Dms Γ N H ds xs → Dms Γ M H ds xs
  | [], _, _, h => by simp only [Dms] at h ⊢; exact h
  | d :: ds, _, n, h => by
    simp only [Dms] at h ⊢
    simp only [noMs, Bool.and_eq_true] at n
    obtain ⟨x, r, e1, h1, h2⟩ := h
    exact ⟨x, r, e1, Dm.keep hI d x n.1 h1, Dms.keep hI ds r n.2 h2⟩
end
theorem Dm.no (h : Dm Γ M H d v) : Dm Γ no H d v := Dm.anti (fun _ z => z.elim) d v h
theorem Dms.no {ds : List D} {xs : List V} (h : Dms Γ M H ds xs) : Dms Γ no H ds xs := Dms.anti (fun _ z => z.elim) ds xs h
theorem Dms.len : ∀ {ds : List D} {xs : List V}, Dms Γ M H ds xs → xs.length = ds.length
  | [], _, h => by simp only [Dms] at h; subst h; rfl
  | d :: ds, _, h => by
    simp only [Dms] at h
    obtain ⟨x, r, e1, _, h2⟩ := h
    subst e1
    simp [Dms.len h2]
theorem Dms.at : ∀ {ds : List D} {xs : List V} {j : Nat} {d : D}, Dms Γ M H ds xs → ds[j]? = some d → ∃ x, xs[j]? = some x ∧ Dm Γ M H d x
  | [], _, _, _, _, e => by simp at e
  | d :: ds, _, j, d', h, e => by
    simp only [Dms] at h
    obtain ⟨x, r, e1, h1, h2⟩ := h
    subst e1
    cases j with
    | zero => cases e; exact ⟨x, rfl, h1⟩
    | succ j => exact Dms.at (j := j) h2 (by simpa using e)
theorem Dms.get : ∀ {ds : List D} {xs : List V} {j : Nat} {x : V}, Dms Γ M H ds xs → xs[j]? = some x → ∃ d, ds[j]? = some d ∧ Dm Γ M H d x
  | [], _, _, _, h, e => by simp only [Dms] at h; subst h; simp at e
  | d :: ds, _, j, x', h, e => by
    simp only [Dms] at h
    obtain ⟨x, r, e1, h1, h2⟩ := h
    subst e1
    cases j with
    | zero => cases e; exact ⟨d, rfl, h1⟩
    | succ j => exact Dms.get (j := j) h2 (by simpa using e)
theorem Dms.append : ∀ {ds es : List D} {xs ys : List V}, Dms Γ M H ds xs → Dms Γ M H es ys → Dms Γ M H (ds ++ es) (xs ++ ys)
  | [], _, _, _, h, h' => by simp only [Dms] at h; subst h; exact h'
  | d :: ds, es, _, ys, h, h' => by
    simp only [Dms] at h
    obtain ⟨x, r, e1, h1, h2⟩ := h
    subst e1
    simp only [List.cons_append, Dms]
    exact ⟨x, r ++ ys, rfl, h1, Dms.append h2 h'⟩
theorem Dms.drop : ∀ (k : Nat) {xs : List V} {ds : List D}, Dms Γ M H ds xs → Dms Γ M H (ds.drop k) (xs.drop k)
  | 0, _, _, h => h
  | k + 1, _, [], h => by simp only [Dms] at h; subst h; simp [Dms]
  | k + 1, _, d :: ds, h => by
    simp only [Dms] at h
    obtain ⟨x, r, e1, h1, h2⟩ := h
    subst e1
    exact Dms.drop k h2
theorem Dms.take : ∀ (k : Nat) {xs : List V} {ds : List D}, Dms Γ M H ds xs → Dms Γ M H (ds.take k) (xs.take k)
  | 0, _, _, h => by simp [Dms]
  | k + 1, _, [], h => by simp only [Dms] at h; subst h; simp [Dms]
  | k + 1, _, d :: ds, h => by
    simp only [Dms] at h
    obtain ⟨x, r, e1, h1, h2⟩ := h
    subst e1
    simp only [List.take_succ_cons, Dms]
    exact ⟨x, r.take k, rfl, h1, Dms.take k h2⟩
theorem Dms.set : ∀ {ds : List D} {xs : List V} {j : Nat} {d : D} {x : V}, Dms Γ M H ds xs → Dm Γ M H d x → Dms Γ M H (ds.set j d) (xs.set j x)
  | [], _, _, _, _, h, _ => by simp only [Dms] at h; subst h; simp [Dms]
  | d :: ds, _, j, d', x', h, h' => by
    simp only [Dms] at h
    obtain ⟨x, r, e1, h1, h2⟩ := h
    subst e1
    cases j with
    | zero => simp only [List.set_cons_zero, Dms]; exact ⟨x', r, rfl, h', h2⟩
    | succ j => simp only [List.set_cons_succ, Dms]; exact ⟨x, r.set j x', rfl, h1, Dms.set h2 h'⟩
theorem Dms.one (h : Dms Γ M H [d] xs) : ∃ x, xs = [x] ∧ Dm Γ M H d x := by
  simp only [Dms] at h
  obtain ⟨x, r, e1, h1, h2⟩ := h
  subst h2
  exact ⟨x, e1, h1⟩
theorem Dms.nil : Dms Γ M H [] [] := by simp [Dms]
theorem Dms.cons {x : V} {xs : List V} {ds : List D} (h : Dm Γ M H d x) (t : Dms Γ M H ds xs) : Dms Γ M H (d :: ds) (x :: xs) := by
  simp only [Dms]; exact ⟨x, xs, rfl, h, t⟩
theorem Dms.uncons {xs : List V} {ds : List D} (h : Dms Γ M H (d :: ds) xs) : ∃ x r, xs = x :: r ∧ Dm Γ M H d x ∧ Dms Γ M H ds r := by
  simpa only [Dms] using h
theorem dm_int {i : Int} : Dm Γ M H (.int i) (.int i) := by simp [Dm]
theorem dm_bl {b : Bool} : Dm Γ M H (.bl b) (.bl b) := by simp [Dm]
theorem dm_str {x : Str} : Dm Γ M H (.str x) (.str x) := by simp [Dm]
theorem dm_non : Dm Γ M H .non .non := by simp [Dm]
theorem Dm.toI {i : Int} (h : Dm Γ M H (.int i) v) : v = .int i := by simpa [Dm] using h
theorem Dm.toB {b : Bool} (h : Dm Γ M H (.bl b) v) : v = .bl b := by simpa [Dm] using h
theorem Dm.toS {x : Str} (h : Dm Γ M H (.str x) v) : v = .str x := by simpa [Dm] using h
theorem Dm.toN (h : Dm Γ M H .non v) : v = .non := by simpa [Dm] using h
/-- an address in use is no free one -/
theorem Tp.some {a : Addr} (h : Tp Γ M H d a) : H a ≠ none := by
  cases d <;> simp only [Tp] at h
  · obtain ⟨_, h, _⟩ := h; rw [h]; intro z; cases z
  · obtain ⟨_, h, _⟩ := h; rw [h]; intro z; cases z
  · obtain ⟨_, h, _⟩ := h; rw [h]; intro z; cases z
  · obtain ⟨_, _, _, _, h, _⟩ := h; rw [h]; intro z; cases z
theorem Tp.mut {a : Addr} (h : Tp Γ M H d a) : ∃ o, H a = Option.some o ∧ MutO o := by
  cases d <;> simp only [Tp] at h
  · obtain ⟨_, h, _⟩ := h; exact ⟨_, h, trivial⟩
  · obtain ⟨_, h, _⟩ := h; exact ⟨_, h, trivial⟩
  · obtain ⟨_, h, _⟩ := h; exact ⟨_, h, trivial⟩
  · obtain ⟨_, _, _, _, h, _⟩ := h; exact ⟨_, h, trivial⟩
/-- as data, where a is not among what changes -/
theorem Tp.dm {a : Addr} (h : Tp Γ M H d a) (m : ¬ M a) : Dm Γ M H d (.ref a) := by
  cases d <;> simp only [Tp] at h <;> simp only [Dm]
  · obtain ⟨xs, h1, h2⟩ := h; exact ⟨a, xs, rfl, .inl ⟨m, .inl h1⟩, h2⟩
  · obtain ⟨xs, h1, h2⟩ := h; exact ⟨a, xs, rfl, m, .inl h1, h2⟩
  · obtain ⟨xs, h1, h2⟩ := h; exact ⟨a, xs, rfl, m, .inl h1, h2⟩
  · obtain ⟨A, dx, gs, c, h1, h2⟩ := h; exact ⟨a, A, dx, gs, rfl, m, c, h1, h2⟩
theorem Tp.anti {a : Addr} (s : Sub H N M) (h : Tp Γ M H d a) : Tp Γ N H d a := by
  cases d <;> simp only [Tp] at h ⊢
  · obtain ⟨xs, h1, h2⟩ := h; exact ⟨xs, h1, Dms.anti s _ _ h2⟩
  · obtain ⟨xs, h1, h2⟩ := h; exact ⟨xs, h1, Dmk.anti s _ _ h2⟩
  · obtain ⟨xs, h1, h2⟩ := h; exact ⟨xs, h1, Dmt.anti s _ _ h2⟩
  · obtain ⟨A, dx, gs, c, h1, h2⟩ := h; exact ⟨A, dx, gs, c, h1, Dmf.anti s _ _ h2⟩
/-- the thing itself stays -/
theorem Tp.mono {a : Addr} (e : ExM M H H1) (ea : H1 a = H a) (h : Tp Γ M H d a) : Tp Γ M H1 d a := by
  cases d <;> simp only [Tp] at h ⊢
  · obtain ⟨xs, h1, h2⟩ := h; exact ⟨xs, ea.trans h1, Dms.mono e _ _ h2⟩
  · obtain ⟨xs, h1, h2⟩ := h; exact ⟨xs, ea.trans h1, Dmk.mono e _ _ h2⟩
  · obtain ⟨xs, h1, h2⟩ := h; exact ⟨xs, ea.trans h1, Dmt.mono e _ _ h2⟩
  · obtain ⟨A, dx, gs, c, h1, h2⟩ := h; exact ⟨A, dx, gs, c, ea.trans h1, Dmf.mono e _ _ h2⟩
theorem Tp.no {a : Addr} (h : Tp Γ M H d a) : Dm Γ no H d (.ref a) := (Tp.anti (N := Vl.no) (fun _ z => z.elim) h).dm fun z => z
end Vl

set_option Elab.async false
set_option linter.all false
set_option maxRecDepth 100000
set_option maxHeartbeats 2000000
/-! slots by value; what an expression, a statement computes of them; that a reading does so -/
namespace Vl
open PySem PySem.Spec L2

abbrev S := List (Option D)
/-- the exception: its class, its fields -/
structure Exc where
  cls : Str
  fs : List (Str × D)
inductive Out (α : Type) where
  | ok (a : α) (s : S) | exc (x : Exc) (s : S) | no
abbrev PM (α : Type) := S → Out α
inductive SO where
  | nx (s : S) | ret (d : D) (s : S) | brk (s : S) | ctn (s : S) | exc (x : Exc) (s : S) | no
/-- a def: its arguments, then the value and what its owned arguments hold behind it -/
inductive OF where
  | ok (r : D) (outs : List D) | exc (x : Exc) (outs : List D) | no

structure Ctx where
  Γ : KC
  M0 : Addr → Prop
  ow : Nat → Bool
  io : Nat → Option Addr
def Ctx.at (c : Ctx) (M0 : Addr → Prop) : Ctx := { c with M0 := M0 }
def Own (c : Ctx) (s : S) (σ : St) (a : Addr) : Prop := ∃ i d, c.ow i = true ∧ s[i]? = some (some d) ∧ σ[i]? = some (some (.ref a))
def Mo (c : Ctx) (s : S) (σ : St) (a : Addr) : Prop := c.M0 a ∨ Own c s σ a
def plus (M : Addr → Prop) (a : Addr) : Addr → Prop := fun b => M b ∨ b = a

/-- the slots σ are s in the heap H, M being what may change -/
structure Lw (c : Ctx) (M : Addr → Prop) (s : S) (σ : St) (H : Hp) : Prop where
  len : s.length = σ.length
  sup : ∀ a, Mo c s σ a → M a
  sh : ∀ i d, s[i]? = some (some d) → c.ow i = false → ∃ v, σ[i]? = some (some v) ∧ Dm c.Γ M H d v
  own : ∀ i d, s[i]? = some (some d) → c.ow i = true → ∃ a, σ[i]? = some (some (.ref a)) ∧ ¬ c.M0 a ∧ Tp c.Γ M H d a
  inj : ∀ i j a d e, c.ow i = true → c.ow j = true → s[i]? = some (some d) → s[j]? = some (some e) → σ[i]? = some (some (.ref a)) → σ[j]? = some (some (.ref a)) → i = j
  m0 : ∀ a, c.M0 a → ∃ o, H a = some o ∧ MutO o
  iof : ∀ i a, c.io i = some a → c.ow i = true ∧ (∃ d, s[i]? = some (some d)) ∧ σ[i]? = some (some (.ref a))
abbrev Lv (c : Ctx) (s : S) (σ : St) (H : Hp) : Prop := Lw c (Mo c s σ) s σ H

variable {c : Ctx} {M N : Addr → Prop} {s s' : S} {σ : St} {H H' : Hp} {v : V} {d : D} {i : Nat}
theorem Lw.alive (L : Lw c M s σ H) {a : Addr} (h : Mo c s σ a) : ∃ o, H a = Option.some o ∧ MutO o := by
  rcases h with h | ⟨i, d, ho, hs, hσ⟩
  · exact L.m0 a h
  · obtain ⟨b, e, _, t⟩ := L.own i d hs ho
    rw [hσ] at e; cases e
    exact t.mut
theorem Lw.anti (L : Lw c M s σ H) (sub : Sub H N M) (sup : ∀ a, Mo c s σ a → N a) : Lw c N s σ H where
  len := L.len
  sup := sup
  sh := fun i d h1 h2 => let ⟨v, e, h⟩ := L.sh i d h1 h2; ⟨v, e, Dm.anti sub d v h⟩
  own := fun i d h1 h2 => let ⟨a, e, h, t⟩ := L.own i d h1 h2; ⟨a, e, h, t.anti sub⟩
  inj := L.inj
  m0 := L.m0
  iof := L.iof
theorem Lw.lv (L : Lw c M s σ H) : Lv c s σ H := L.anti (fun a h _ => L.sup a h) fun _ h => h
/-- a free address joins what changes -/
theorem Lw.plus (L : Lw c M s σ H) {a : Addr} (h : H a = none) : Lw c (plus M a) s σ H := L.anti (fun b hb hn => hb.elim id fun e => absurd h (e ▸ hn)) fun b hb => .inl (L.sup b hb)
/-- the heap grows -/
theorem Lw.mono (L : Lw c M s σ H) (e : Same H H') : Lw c M s σ H' where
  len := L.len
  sup := L.sup
  sh := fun i d h1 h2 => let ⟨v, ev, h⟩ := L.sh i d h1 h2; ⟨v, ev, Dm.mono (.of e) d v h⟩
  own := fun i d h1 h2 => by
    obtain ⟨a, ea, h, t⟩ := L.own i d h1 h2
    obtain ⟨o, ho, _⟩ := t.mut
    exact ⟨a, ea, h, t.mono (.of e) ((e a o ho).trans ho.symm)⟩
  inj := L.inj
  m0 := fun a h => let ⟨o, ho, m⟩ := L.m0 a h; ⟨o, e a o ho, m⟩
  iof := L.iof

theorem get_set {α : Type} {xs : List (Option α)} {i j : Nat} {x : Option α} {y : α} (h : (xs.set i x)[j]? = some (some y)) : (j = i ∧ x = some y ∧ i < xs.length) ∨ (j ≠ i ∧ xs[j]? = some (some y)) := by
  by_cases e : j = i
  · subst e
    rw [List.getElem?_set] at h
    simp only [if_true] at h
    split at h
    · rename_i hl; exact .inl ⟨rfl, Option.some.inj h, hl⟩
    · cases h
  · rw [List.getElem?_set_ne (Ne.symm e)] at h
    exact .inr ⟨e, h⟩
theorem set_ne {α : Type} {xs : List α} {i j : Nat} {x : α} (h : j ≠ i) : (xs.set i x)[j]? = xs[j]? := List.getElem?_set_ne (Ne.symm h)
theorem set_eq {α : Type} {xs : List α} {i : Nat} {x : α} (h : i < xs.length) : (xs.set i x)[i]? = some x := List.getElem?_set_self h
theorem lt_of_get {α : Type} {xs : List α} {i : Nat} {x : α} (h : xs[i]? = some x) : i < xs.length := (List.getElem?_eq_some_iff.mp h).1

/-- a slot that shares -/
theorem own_set {v : Option V} {x : Option D} (h : c.ow i = false) : ∀ a, Own c (s.set i x) (σ.set i v) a ↔ Own c s σ a := fun a => by
  constructor
  · rintro ⟨j, e, ho, hs, hσ⟩
    have ne : j ≠ i := fun z => by rw [z, h] at ho; cases ho
    rw [set_ne ne] at hs hσ
    exact ⟨j, e, ho, hs, hσ⟩
  · rintro ⟨j, e, ho, hs, hσ⟩
    have ne : j ≠ i := fun z => by rw [z, h] at ho; cases ho
    exact ⟨j, e, ho, by rw [set_ne ne]; exact hs, by rw [set_ne ne]; exact hσ⟩
theorem mo_set {v : Option V} {x : Option D} (h : c.ow i = false) (a : Addr) : Mo c (s.set i x) (σ.set i v) a ↔ Mo c s σ a := by
  unfold Mo; rw [own_set h]
theorem Lw.setSh (L : Lw c M s σ H) (h : c.ow i = false) (hd : Dm c.Γ M H d v) : Lw c M (s.set i (some d)) (σ.set i (some v)) H where
  len := by simpa using L.len
  sup := fun a z => L.sup a ((mo_set h a).mp z)
  sh := fun j e h1 h2 => by
    rcases get_set h1 with ⟨ej, ed, hl⟩ | ⟨ne, h1⟩
    · subst ej; cases ed
      exact ⟨v, set_eq (by rw [← L.len]; exact hl), hd⟩
    · rw [set_ne ne]; exact L.sh j e h1 h2
  own := fun j e h1 h2 => by
    rcases get_set h1 with ⟨ej, ed, hl⟩ | ⟨ne, h1⟩
    · subst ej; rw [h] at h2; cases h2
    · rw [set_ne ne]; exact L.own j e h1 h2
  inj := fun j k a e f h1 h2 h3 h4 h5 h6 => by
    have n1 : j ≠ i := fun z => by rw [z, h] at h1; cases h1
    have n2 : k ≠ i := fun z => by rw [z, h] at h2; cases h2
    rw [set_ne n1] at h3 h5
    rw [set_ne n2] at h4 h6
    exact L.inj j k a e f h1 h2 h3 h4 h5 h6
  m0 := L.m0
  iof := fun j a hj => by
    obtain ⟨h1, h2, h3⟩ := L.iof j a hj
    have ne : j ≠ i := fun z => by rw [z, h] at h1; cases h1
    rw [set_ne ne, set_ne ne]
    exact ⟨h1, h2, h3⟩
/-- a slot is forgotten -/
theorem Lw.kill (L : Lw c M s σ H) (hi : c.io i = none) {u : Option V} : Lw c M (s.set i none) (σ.set i u) H where
  len := by simpa using L.len
  sup := fun a z => L.sup a (by
    rcases z with z | ⟨j, e, ho, hs, hσ⟩
    · exact .inl z
    · rcases get_set hs with ⟨_, ed, _⟩ | ⟨ne, hs⟩
      · cases ed
      · rw [set_ne ne] at hσ; exact .inr ⟨j, e, ho, hs, hσ⟩)
  sh := fun j e h1 h2 => by
    rcases get_set h1 with ⟨_, ed, _⟩ | ⟨ne, h1⟩
    · cases ed
    · rw [set_ne ne]; exact L.sh j e h1 h2
  own := fun j e h1 h2 => by
    rcases get_set h1 with ⟨_, ed, _⟩ | ⟨ne, h1⟩
    · cases ed
    · rw [set_ne ne]; exact L.own j e h1 h2
  inj := fun j k a e f h1 h2 h3 h4 h5 h6 => by
    rcases get_set h3 with ⟨_, ed, _⟩ | ⟨n1, h3⟩
    · cases ed
    rcases get_set h4 with ⟨_, ed, _⟩ | ⟨n2, h4⟩
    · cases ed
    rw [set_ne n1] at h5
    rw [set_ne n2] at h6
    exact L.inj j k a e f h1 h2 h3 h4 h5 h6
  m0 := L.m0
  iof := fun j a hj => by
    have ne : j ≠ i := fun z => by rw [z, hi] at hj; cases hj
    rw [set_ne ne, set_ne ne]
    exact L.iof j a hj
/-- a new thing comes into a slot that owns -/
theorem Lw.setOw {a : Addr} (L : Lw c M s σ H) (hi : c.io i = none) (ho : c.ow i = true) (hM : ¬ Mo c s σ a) (hm : M a) (t : Tp c.Γ M H d a) : Lw c M (s.set i (some d)) (σ.set i (some (.ref a))) H where
  len := by simpa using L.len
  sup := fun b z => by
    rcases z with z | ⟨j, e, ho, hs, hσ⟩
    · exact L.sup b (.inl z)
    · rcases get_set hs with ⟨ej, ed, hl⟩ | ⟨ne, hs⟩
      · subst ej
        rw [set_eq (by rw [← L.len]; exact hl)] at hσ; cases hσ
        exact hm
      · rw [set_ne ne] at hσ; exact L.sup b (.inr ⟨j, e, ho, hs, hσ⟩)
  sh := fun j e h1 h2 => by
    rcases get_set h1 with ⟨ej, ed, hl⟩ | ⟨ne, h1⟩
    · subst ej; rw [ho] at h2; cases h2
    · rw [set_ne ne]; exact L.sh j e h1 h2
  own := fun j e h1 h2 => by
    rcases get_set h1 with ⟨ej, ed, hl⟩ | ⟨ne, h1⟩
    · subst ej; cases ed
      exact ⟨a, set_eq (by rw [← L.len]; exact hl), fun z => hM (.inl z), t⟩
    · rw [set_ne ne]; exact L.own j e h1 h2
  inj := fun j k b e f h1 h2 h3 h4 h5 h6 => by
    rcases get_set h3 with ⟨ej, ed, hl⟩ | ⟨n1, h3'⟩
    · rcases get_set h4 with ⟨ek, ed2, hl2⟩ | ⟨n2, h4'⟩
      · rw [ej, ek]
      · subst ej
        rw [set_eq (by rw [← L.len]; exact hl)] at h5; cases h5
        rw [set_ne n2] at h6
        exact absurd (.inr ⟨k, f, h2, h4', h6⟩) hM
    · rcases get_set h4 with ⟨ek, ed2, hl2⟩ | ⟨n2, h4'⟩
      · subst ek
        rw [set_eq (by rw [← L.len]; exact hl2)] at h6; cases h6
        rw [set_ne n1] at h5
        exact absurd (.inr ⟨j, e, h1, h3', h5⟩) hM
      · rw [set_ne n1] at h5
        rw [set_ne n2] at h6
        exact L.inj j k b e f h1 h2 h3' h4' h5 h6
  m0 := L.m0
  iof := fun j b hj => by
    have ne : j ≠ i := fun z => by rw [z, hi] at hj; cases hj
    rw [set_ne ne, set_ne ne]
    exact L.iof j b hj
/-- what a slot owns is changed -/
theorem Lw.put {a : Addr} {o : HO} {d' : D} (L : Lw c M s σ H) (ho : c.ow i = true) (hs : s[i]? = some (some d)) (hσ : σ[i]? = some (some (.ref a))) (mo : MutO o) (t : Tp c.Γ M (upd H a o) d' a) : Lw c M (s.set i (some d')) σ (upd H a o) := by
  have hMa : M a := L.sup a (.inr ⟨i, d, ho, hs, hσ⟩)
  have e : ExM M H (upd H a o) := exm_upd hMa
  obtain ⟨a', ea, na, _⟩ := L.own i d hs ho
  rw [hσ] at ea; cases ea
  exact {
    len := by simpa using L.len
    sup := fun b z => by
      rcases z with z | ⟨j, e, hj, hs', hσ'⟩
      · exact L.sup b (.inl z)
      · rcases get_set hs' with ⟨ej, ed, hl⟩ | ⟨ne, hs'⟩
        · subst ej; exact L.sup b (.inr ⟨j, d, hj, hs, hσ'⟩)
        · exact L.sup b (.inr ⟨j, e, hj, hs', hσ'⟩)
    sh := fun j f h1 h2 => by
      rcases get_set h1 with ⟨ej, ed, hl⟩ | ⟨ne, h1⟩
      · subst ej; rw [ho] at h2; cases h2
      · obtain ⟨v, ev, hd⟩ := L.sh j f h1 h2
        exact ⟨v, ev, Dm.mono e f v hd⟩
    own := fun j f h1 h2 => by
      rcases get_set h1 with ⟨ej, ed, hl⟩ | ⟨ne, h1⟩
      · subst ej; cases ed
        exact ⟨a, hσ, na, t⟩
      · obtain ⟨b, eb, nb, tb⟩ := L.own j f h1 h2
        have nab : b ≠ a := fun z => by
          subst z
          exact ne (L.inj j i b f d h2 ho h1 hs eb hσ)
        exact ⟨b, eb, nb, tb.mono e (upd_ne nab)⟩
    inj := fun j k b e f h1 h2 h3 h4 h5 h6 => by
      have g : ∀ {j : Nat} {e : D}, c.ow j = true → (s.set i (some d'))[j]? = some (some e) → ∃ e', s[j]? = some (some e') := fun {j e} _ h => by
        rcases get_set h with ⟨ej, ed, hl⟩ | ⟨ne, h⟩
        · subst ej; exact ⟨d, hs⟩
        · exact ⟨e, h⟩
      obtain ⟨e', g1⟩ := g h1 h3
      obtain ⟨f', g2⟩ := g h2 h4
      exact L.inj j k b e' f' h1 h2 g1 g2 h5 h6
    m0 := fun b hb => by
      obtain ⟨u, hu, mu⟩ := L.m0 b hb
      by_cases z : b = a
      · subst z; exact ⟨o, upd_same, mo⟩
      · exact ⟨u, by rw [upd_ne z]; exact hu, mu⟩
    iof := fun j b hj => by
      obtain ⟨h1, ⟨f, h2⟩, h3⟩ := L.iof j b hj
      refine ⟨h1, ?_, h3⟩
      by_cases z : j = i
      · subst z; exact ⟨d', set_eq (lt_of_get hs)⟩
      · exact ⟨f, by rw [set_ne z]; exact h2⟩ }
theorem own_put {d' : D} (hs : s[i]? = some (some d)) (a : Addr) : Own c (s.set i (some d')) σ a ↔ Own c s σ a := by
  constructor
  · rintro ⟨j, e, hj, hs', hσ'⟩
    rcases get_set hs' with ⟨ej, ed, hl⟩ | ⟨ne, hs'⟩
    · subst ej; exact ⟨j, d, hj, hs, hσ'⟩
    · exact ⟨j, e, hj, hs', hσ'⟩
  · rintro ⟨j, e, hj, hs', hσ'⟩
    by_cases ne : j = i
    · subst ne; exact ⟨j, d', hj, set_eq (lt_of_get hs), hσ'⟩
    · exact ⟨j, e, hj, by rw [set_ne ne]; exact hs', hσ'⟩
theorem mo_put {d' : D} (hs : s[i]? = some (some d)) (a : Addr) : Mo c (s.set i (some d')) σ a ↔ Mo c s σ a := by
  constructor
  · rintro (z | ⟨j, e, hj, hs', hσ'⟩)
    · exact .inl z
    · rcases get_set hs' with ⟨ej, ed, hl⟩ | ⟨ne, hs'⟩
      · subst ej; exact .inr ⟨j, d, hj, hs, hσ'⟩
      · exact .inr ⟨j, e, hj, hs', hσ'⟩
  · rintro (z | ⟨j, e, hj, hs', hσ'⟩)
    · exact .inl z
    · by_cases ne : j = i
      · subst ne; exact .inr ⟨j, d', hj, set_eq (lt_of_get hs), hσ'⟩
      · exact .inr ⟨j, e, hj, by rw [set_ne ne]; exact hs', hσ'⟩

/-! ### what is computed, and by a reading -/
inductive Md where | now | st | fr
  deriving DecidableEq
/-- how a value is given: as the heap stands; as long as what is not among what changes stays; as a thing of its own, that nothing else has -/
def Mdr (c : Ctx) (m : Md) (s : S) (H : Hp) (s' : S) (σ : St) (H' : Hp) (d : D) (v : V) : Prop :=
  match m with
  | .now => Dm c.Γ no H' d v
  | .st => Dm c.Γ (Mo c s' σ) H' d v
  | .fr => ∃ a, v = .ref a ∧ ¬ Mo c s' σ a ∧ (Own c s σ a ∨ H a = none) ∧ Lw c (plus (Mo c s' σ) a) s' σ H' ∧ Tp c.Γ (plus (Mo c s' σ) a) H' d a
/-- what stands stays there -/
def Up (H H' : Hp) : Prop := ∀ a, H a ≠ none → H' a ≠ none
theorem Up.same (e : Same H H') : Up H H' := fun a h z => by
  cases q : H a with
  | none => exact h q
  | some o => rw [e a o q] at z; cases z
theorem Up.trans {H1 : Hp} (a : Up H H') (b : Up H' H1) : Up H H1 := fun x h => b x (a x h)
def Fr (p : Bool) (M : Addr → Prop) (H H' : Hp) : Prop := if p = true then Same H H' else ExM M H H' ∧ Up H H'
theorem Fr.ex {p : Bool} (h : Fr p M H H') : ExM M H H' := by
  unfold Fr at h; split at h
  · exact .of h
  · exact h.1
theorem Fr.up {p : Bool} (h : Fr p M H H') : Up H H' := by
  unfold Fr at h; split at h
  · exact .same h
  · exact h.2
theorem Fr.same (h : Fr true M H H') : Same H H' := h
theorem Fr.of {p : Bool} (h : Same H H') : Fr p M H H' := by
  unfold Fr; split
  · exact h
  · exact ⟨.of h, .same h⟩
theorem Fr.weak {p : Bool} (h : Fr p M H H') : Fr false M H H' := ⟨h.ex, h.up⟩
theorem Fr.refl {p : Bool} : Fr p M H H := .of (Same.refl _)
theorem Fr.mk (h : ExM M H H') (u : Up H H') : Fr false M H H' := ⟨h, u⟩
theorem Fr.and {p q : Bool} {H1 H2 : Hp} (h1 : Fr p M H H1) (h2 : Fr q N H1 H2) (e : ∀ a, N a → M a) : Fr (p && q) M H H2 := by
  have u := h1.up.trans h2.up
  have x := h1.ex.trans (h2.ex.imp e)
  cases p <;> cases q
  · exact .mk x u
  · exact .mk x u
  · exact .mk x u
  · exact fun a o h => h2 a o (h1 a o h)
/-- an exception by its class and its own dict -/
def Xr (c : Ctx) (s' : S) (σ : St) (x : Exc) (cls : Value) (dd : Option Addr) (H' : Hp) : Prop :=
  ∃ C, c.Γ.cl x.cls = some C ∧ cls = .ref C ∧ ∃ a gs, dd = some a ∧ H' a = some (.xd gs) ∧ Dmf c.Γ (Mo c s' σ) H' x.fs gs
def Po (c : Ctx) (E : XK) (p : Bool) (m : Md) (s : S) (σ : St) (H : Hp) (Q : VK) : Out D → Prop
  | .ok d s' => ∀ v H', Fr p (Own c s σ) H H' → Lv c s' σ H' → (∀ a, Own c s' σ a → Own c s σ a) → Mdr c m s H s' σ H' d v → Q v H'
  | .exc x s' => ∀ cls dd H', Lv c s' σ H' → Fr false (Own c s σ) H H' → (∀ a, Own c s' σ a → Own c s σ a) → Xr c s' σ x cls dd H' → E cls dd H'
  | .no => False
def Pu {α : Type} (p : Bool) (f : PM α) : Prop := p = true → ∀ s d s', f s = .ok d s' → s' = s
structure VE (c : Ctx) (E : XK) (p : Bool) (m : Md) (t : TE) (f : PM D) : Prop where
  pu : Pu p f
  run : ∀ M0 s σ H, Lv (c.at M0) s σ H → ∀ Q : VK, Po (c.at M0) E p m s σ H Q (f s) → t σ H Q
structure ME (X : Cx) (c : Ctx) (E : XK) (p : Bool) (m : Md) (e : Expr) (f : PM D) : Prop where
  ex : ∃ t, PE X e t ∧ VE c E p m t f
/-- tests -/
def PoB (c : Ctx) (E : XK) (p : Bool) (s : S) (σ : St) (H : Hp) (Q : Bool → Hp → Prop) : Out Bool → Prop
  | .ok b s' => ∀ H', Fr p (Own c s σ) H H' → Lv c s' σ H' → (∀ a, Own c s' σ a → Own c s σ a) → Q b H'
  | .exc x s' => ∀ cls dd H', Lv c s' σ H' → Fr false (Own c s σ) H H' → (∀ a, Own c s' σ a → Own c s σ a) → Xr c s' σ x cls dd H' → E cls dd H'
  | .no => False
structure VT (c : Ctx) (E : XK) (p : Bool) (t : TT) (f : PM Bool) : Prop where
  pu : Pu p f
  run : ∀ M0 s σ H, Lv (c.at M0) s σ H → ∀ Q, PoB (c.at M0) E p s σ H Q (f s) → t σ H Q
structure MT (X : Cx) (c : Ctx) (E : XK) (p : Bool) (e : Expr) (f : PM Bool) : Prop where
  ex : ∃ t, PT X e t ∧ VT c E p t f
structure MW (X : Cx) (c : Ctx) (E : XK) (p : Bool) (e : Expr) (f : PM Bool) : Prop where
  ex : ∃ t, PW X e t ∧ VT c E p t f
/-- what is returned: as long as ..; of its own -/
def Mrt (c : Ctx) (m : Md) (s : S) (σ : St) (H : Hp) (s' : S) (σ' : St) (H' : Hp) (d : D) (v : V) : Prop :=
  match m with
  | .now => Dm c.Γ no H' d v
  | .st => Dm c.Γ (Mo c s' σ') H' d v
  | .fr => ∃ a, v = .ref a ∧ ¬ Mo c s' σ' a ∧ (Own c s σ a ∨ H a = none) ∧ Lw c (plus (Mo c s' σ') a) s' σ' H' ∧ Tp c.Γ (plus (Mo c s' σ') a) H' d a
/-- how a statement goes from (s, σ, H) to (s', σ', H'): only what was owned is changed, what is owned then was so or is new -/
structure Fo (c : Ctx) (s : S) (σ : St) (H : Hp) (s' : S) (σ' : St) (H' : Hp) : Prop where
  ex : ExM (Own c s σ) H H'
  up : Up H H'
  gr : ∀ a, Own c s' σ' a → Own c s σ a ∨ H a = none
def PoS (c : Ctx) (E : XK) (m : Md) (s : S) (σ : St) (H : Hp) (D : Ends) : SO → Prop
  | .nx s' => ∀ σ' H', Lv c s' σ' H' → Fo c s σ H s' σ' H' → D.nx σ' H'
  | .brk s' => ∀ σ' H', Lv c s' σ' H' → Fo c s σ H s' σ' H' → D.bk σ' H'
  | .ctn s' => ∀ σ' H', Lv c s' σ' H' → Fo c s σ H s' σ' H' → D.ct σ' H'
  | .ret d s' => ∀ σ' v H', Lv c s' σ' H' → Fo c s σ H s' σ' H' → Mrt c m s σ H s' σ' H' d v → D.rt v H'
  | .exc x s' => ∀ σ' cls dd H', Lv c s' σ' H' → Fo c s σ H s' σ' H' → Xr c s' σ' x cls dd H' → E cls dd H'
  | .no => False
structure VS (c : Ctx) (E : XK) (m : Md) (t : TS) (g : S → SO) : Prop where
  run : ∀ M0 s σ H, Lv (c.at M0) s σ H → ∀ D : Ends, PoS (c.at M0) E m s σ H D (g s) → t D σ H
structure MS (X : Cx) (c : Ctx) (E : XK) (m : Md) (st : Stmt) (g : S → SO) : Prop where
  ex : ∃ t, PS X st t ∧ VS c E m t g
structure MSs (X : Cx) (c : Ctx) (E : XK) (m : Md) (st : List Stmt) (g : S → SO) : Prop where
  ex : ∃ t, PSs X st t ∧ VS c E m t g

/-! ### the plain operations -/
def bd {α β : Type} (f : PM α) (g : α → PM β) : PM β := fun s => match f s with | .ok a s' => g a s' | .exc x s' => .exc x s' | .no => .no
def pur {α : Type} (a : α) : PM α := fun s => .ok a s
def lft {α : Type} (o : Option α) : PM α := fun s => match o with | some a => .ok a s | none => .no
@[simp] theorem rt_ap {α : Type} {a : α} : pur a s = .ok a s := rfl
@[simp] theorem lift_some {α : Type} {a : α} : lft (some a) s = .ok a s := rfl
theorem bnd_ok {α β : Type} {f : PM α} {g : α → PM β} {a : α} (h : f s = .ok a s') : bd f g s = g a s' := by unfold bd; rw [h]
theorem Pu.bnd {α β : Type} {p q : Bool} {f : PM α} {g : α → PM β} (hf : Pu p f) (hg : ∀ a, Pu q (g a)) : Pu (p && q) (bd f g) := fun hpq s d s' h => by
  rw [Bool.and_eq_true] at hpq
  unfold bd at h
  cases e : f s with
  | ok a s1 =>
    rw [e] at h
    have e1 := hf hpq.1 s a s1 e
    subst e1
    exact hg a hpq.2 _ d s' h
  | exc x s1 => rw [e] at h; cases h
  | no => rw [e] at h; cases h
theorem Pu.lift {α : Type} {p : Bool} {o : Option α} : Pu p (lft o) := fun _ s d s' h => by
  unfold lft at h; cases o with
  | some a => cases h; rfl
  | none => cases h
theorem Pu.rt {α : Type} {p : Bool} {o : α} : Pu p (pur o) := fun _ s d s' h => by cases h; rfl
theorem Pu.weak {α : Type} {p : Bool} {f : PM α} (h : Pu true f) : Pu p f := fun _ => h rfl

/-! ### the kinds of values -/
theorem Mdr.st_of_fr (h : Mdr c .fr s H s' σ H' d v) : Mdr c .st s H s' σ H' d v := by
  obtain ⟨a, rfl, hn, _, _, t⟩ := h
  exact Tp.dm (t.anti fun b z _ => .inl z) hn
theorem Mdr.now_of_st (h : Mdr c .st s H s' σ H' d v) : Mdr c .now s H s' σ H' d v := Dm.no h
theorem VE.st_of_fr {E : XK} {p : Bool} {t : TE} {f : PM D} (h : VE c E p .fr t f) : VE c E p .st t f := ⟨h.pu, fun M0 s σ H L Q q => h.run M0 s σ H L Q (by
  revert q
  cases f s with
  | ok d s' => exact fun q v H' e L' hm hd => q v H' e L' hm hd.st_of_fr
  | exc x s' => exact fun q => q
  | no => exact fun q => q)⟩
theorem VE.now_of_st {E : XK} {p : Bool} {t : TE} {f : PM D} (h : VE c E p .st t f) : VE c E p .now t f := ⟨h.pu, fun M0 s σ H L Q q => h.run M0 s σ H L Q (by
  revert q
  cases f s with
  | ok d s' => exact fun q v H' e L' hm hd => q v H' e L' hm hd.now_of_st
  | exc x s' => exact fun q => q
  | no => exact fun q => q)⟩
variable {X : Cx} {E : XK} {e : Expr} {f : PM D} {p : Bool} {t : TE}
theorem ME.st (h : ME X c E p .fr e f) : ME X c E p .st e f := let ⟨t, h1, h2⟩ := h.ex; ⟨t, h1, h2.st_of_fr⟩
theorem ME.now (h : ME X c E p .st e f) : ME X c E p .now e f := let ⟨t, h1, h2⟩ := h.ex; ⟨t, h1, h2.now_of_st⟩
theorem ME.nowF (h : ME X c E p .fr e f) : ME X c E p .now e f := h.st.now
/-- data without a thing that may change is kept -/
def sca (d : D) : PM D := fun s => if noM d = true then .ok d s else .no
theorem scal_ok (h : noM d = true) : sca d s = .ok d s := if_pos h
theorem Pu.scal {p : Bool} : Pu p (sca d) := fun _ s e s' h => by
  unfold sca at h; split at h
  · cases h; rfl
  · cases h
theorem VE.scal {m : Md} (h : VE c E p m t f) : VE c E p .st t (bd f sca) := ⟨by
    have := Pu.bnd (q := true) h.pu (fun a => Pu.scal (p := true) (d := a))
    rwa [Bool.and_true] at this, fun M0 s σ H L Q q => h.run M0 s σ H L Q (by
  revert q
  unfold bd
  cases hf : f s with
  | ok d s' =>
    show Po (c.at M0) E p .st s σ H Q (sca d s') → _
    unfold sca
    split
    · rename_i hn
      refine fun q v H' e L' hm hd => q v H' e L' hm ?_
      have hd' : Dm (c.at M0).Γ no H' d v := by
        cases m with
        | now => exact hd
        | st => exact hd.now_of_st
        | fr => exact hd.st_of_fr.now_of_st
      exact Dm.keep (fun a z => L'.alive z) d v hn hd'
    · exact fun q => q.elim
  | exc x s' => exact fun q => q
  | no => exact fun q => q)⟩
theorem ME.scal {m : Md} (h : ME X c E p m e f) : ME X c E p .st e (bd f sca) := let ⟨t, h1, h2⟩ := h.ex; ⟨t, h1, h2.scal⟩
end Vl

set_option Elab.async false
set_option linter.all false
set_option maxRecDepth 100000
set_option maxHeartbeats 2000000
/-! expressions: what each construct computes -/
namespace Vl
open PySem PySem.Spec L2
variable {c : Ctx} {M N : Addr → Prop} {s s' s1 s2 : S} {σ : St} {H H' H1 H2 : Hp} {v : V} {d : D} {i : Nat} {X : Cx} {E : XK} {e a b : Expr} {f fa fb : PM D} {p q pa pb : Bool} {m ma mb : Md} {t ta tb te : TE} {pos : Pos}

theorem Mdr.no (h : Mdr c m s H s' σ H' d v) : Dm c.Γ no H' d v := by
  cases m with
  | now => exact h
  | st => exact h.now_of_st
  | fr => exact h.st_of_fr.now_of_st
/-- a value that is reckoned stays while the next is -/
def Stay (m : Md) (p : Bool) : Prop := m = .st ∨ (m = .now ∧ p = true)
theorem stS {p : Bool} : Stay .st p := .inl rfl
theorem stN : Stay .now true := .inr ⟨rfl, rfl⟩
theorem own_mo (hm : ∀ a, Own c s2 σ a → Own c s1 σ a) : ∀ a, Mo c s2 σ a → Mo c s1 σ a := fun a z => z.elim .inl fun z => .inr (hm a z)
theorem ex_mo (e : ExM (Own c s σ) H H') : ExM (Mo c s σ) H H' := e.imp fun a z => .inr z
theorem Mdr.stay {H0 : Hp} (h : Mdr c m s H0 s1 σ H1 d v) (e : Fr p (Own c s1 σ) H1 H2) (hm : ∀ a, Own c s2 σ a → Own c s1 σ a) (hs : Stay m p) : Mdr c m s H0 s2 σ H2 d v := by
  rcases hs with rfl | ⟨rfl, rfl⟩
  · exact Dm.anti (fun a z _ => own_mo hm a z) d v (Dm.mono (ex_mo e.ex) d v h)
  · exact Dm.mono (.of e.same) d v h
/-- a value reckoned from a later point on -/
theorem Mdr.back (h : Mdr c m s1 H1 s2 σ H2 d v) (u : Up H H1) (hm : ∀ a, Own c s1 σ a → Own c s σ a) : Mdr c m s H s2 σ H2 d v := by
  cases m with
  | now => exact h
  | st => exact h
  | fr =>
    obtain ⟨a, h1, h2, h3, h4⟩ := h
    refine ⟨a, h1, h2, ?_, h4⟩
    rcases h3 with h3 | h3
    · exact .inl (hm a h3)
    · refine .inr ?_
      cases q : H a with
      | none => rfl
      | some o => exact absurd h3 (u a (by rw [q]; intro z; cases z))
theorem exc_next {x : Exc} {o : Addr → Prop} (f1 : Fr p (Own c s σ) H H1) (m1 : ∀ a, Own c s1 σ a → Own c s σ a)
    (q : ∀ cls dd H', Lv c s' σ H' → Fr false (Own c s σ) H H' → (∀ a, Own c s' σ a → Own c s σ a) → Xr c s' σ x cls dd H' → E cls dd H') :
    ∀ cls dd H', Lv c s' σ H' → Fr false (Own c s1 σ) H1 H' → (∀ a, Own c s' σ a → Own c s1 σ a) → Xr c s' σ x cls dd H' → E cls dd H' :=
  fun cls dd H' L f m x => q cls dd H' L (by have z := f1.and f m1; rwa [Bool.and_false] at z) (fun a z => m1 a (m a z)) x
theorem fresh_back (e : Fr p (Own c s σ) H H1) {x : Addr} (h : H1 x = none) : H x = none := by
  cases q : H x with
  | none => rfl
  | some o => exact absurd h (e.up x (by rw [q]; intro z; cases z))
theorem Lw.notMo (L : Lw c M s σ H) {a : Addr} (h : H a = none) : ¬ Mo c s σ a := fun z => by
  obtain ⟨o, ho, _⟩ := L.alive z
  rw [h] at ho; cases ho

/-! ### names, constants -/
def gts (i : Nat) : PM D := fun s => match s[i]? with | some (some d) => .ok d s | _ => .no
theorem getS_ok (h : s[i]? = some (some d)) : gts i s = .ok d s := by unfold gts; rw [h]
theorem Pu.getS : Pu p (gts i) := fun _ s d s' h => by
  unfold gts at h
  split at h
  · cases h; rfl
  · cases h
theorem ve_varS (ho : c.ow i = false) : VE c E true .st (tVar i) (gts i) := ⟨Pu.getS, fun M0 s σ H L Q q => by
  unfold gts at q
  split at q
  · rename_i d hd
    obtain ⟨v, e, h⟩ := L.sh i d hd ho
    exact ⟨v, e, q v H Fr.refl L (fun _ z => z) h⟩
  · exact q.elim⟩
theorem ve_varO (ho : c.ow i = true) : VE c E true .now (tVar i) (gts i) := ⟨Pu.getS, fun M0 s σ H L Q q => by
  unfold gts at q
  split at q
  · rename_i d hd
    obtain ⟨a, e, _, h⟩ := L.own i d hd ho
    exact ⟨_, e, q _ H Fr.refl L (fun _ z => z) h.no⟩
  · exact q.elim⟩
theorem me_varS {x : Str} (h : PE X (.Name x pos) (tVar i)) (ho : c.ow i = false := by rfl) : ME X c E true .st (.Name x pos) (gts i) := ⟨_, h, ve_varS ho⟩
theorem me_varO {x : Str} (h : PE X (.Name x pos) (tVar i)) (ho : c.ow i = true := by rfl) : ME X c E true .now (.Name x pos) (gts i) := ⟨_, h, ve_varO ho⟩
theorem ve_C {v : V} (h : ∀ M H, Dm c.Γ M H d v) : VE c E true .st (tC v) (pur d) := ⟨Pu.rt, fun M0 s σ H L Q q => q v H Fr.refl L (fun _ z => z) (h _ _)⟩
theorem me_int {n : Int} {j} : ME X c E true .st (.Constant (.int n) j pos) (pur (.int n)) := ⟨_, pe_int, ve_C fun _ _ => dm_int⟩
theorem me_bl {n : Bool} {j} : ME X c E true .st (.Constant (.bool n) j pos) (pur (.bl n)) := ⟨_, pe_bl, ve_C fun _ _ => dm_bl⟩
theorem me_str {n : Str} {j} : ME X c E true .st (.Constant (.str n) j pos) (pur (.str n)) := ⟨_, pe_str, ve_C fun _ _ => dm_str⟩
theorem me_non {j} : ME X c E true .st (.Constant .none j pos) (pur .non) := ⟨_, pe_non, ve_C fun _ _ => dm_non⟩
theorem me_glob {x : Str} {v : V} (h : PE X (.Name x pos) (tC v)) (hd : ∀ M H, Dm c.Γ M H d v) : ME X c E true .st (.Name x pos) (pur d) := ⟨_, h, ve_C hd⟩

/-! ### what is done with values -/
abbrev RA := List V → Hp → VK → Prop
abbrev GD := List D → Option D
/-- a value without parts comes of it; one of the same parts; a new thing of these -/
def RS (Γ : KC) (r : RA) (g : GD) : Prop := ∀ ds vs d H, Dms Γ no H ds vs → g ds = some d → ∀ Q : VK, (∀ v H', Same H H' → (∀ M, Dm Γ M H' d v) → Q v H') → r vs H Q
def RM (Γ : KC) (r : RA) (g : GD) : Prop := ∀ M ds vs d H, (∀ a, M a → H a ≠ none) → Dms Γ M H ds vs → g ds = some d → ∀ Q : VK, (∀ v H', Same H H' → Dm Γ M H' d v → Q v H') → r vs H Q
def RF (Γ : KC) (r : RA) (g : GD) : Prop := ∀ M ds vs d H, Dms Γ M H ds vs → g ds = some d → ∀ Q : VK, (∀ x o, H x = none → Tp Γ M (upd H x o) d x → Q (.ref x) (upd H x o)) → r vs H Q
def RG (Γ : KC) (r : RA) (g : GD) : Prop := ∀ M ds vs d H, (∀ a, M a → H a ≠ none) → Dms Γ M H ds vs → g ds = some d → ∀ Q : VK, (∀ x H', H x = none → Same H H' → Tp Γ (plus M x) H' d x → Q (.ref x) H') → r vs H Q
/-- the classes of doings by the kinds of what comes in and goes out -/
inductive Cl (Γ : KC) (r : RA) (g : GD) : Md → Md → Prop where
  | s {m : Md} (h : RS Γ r g) : Cl Γ r g m .st
  | m (h : RM Γ r g) : Cl Γ r g .st .st
  | n {m : Md} (h : RM Γ r g) : Cl Γ r g m .now
  | f (h : RF Γ r g) : Cl Γ r g .st .fr
  | g (h : RG Γ r g) : Cl Γ r g .st .fr
def Mds (c : Ctx) (m : Md) (s' : S) (σ : St) (H' : Hp) (ds : List D) (vs : List V) : Prop :=
  match m with
  | .now => Dms c.Γ no H' ds vs
  | .st => Dms c.Γ (Mo c s' σ) H' ds vs
  | .fr => False
theorem Mds.no {ds : List D} {vs : List V} (h : Mds c m s' σ H' ds vs) : Dms c.Γ no H' ds vs := by
  cases m with
  | now => exact h
  | st => exact Dms.no h
  | fr => exact h.elim
theorem Cl.run {r : RA} {g : GD} {ds : List D} {vs : List V} (h : Cl c.Γ r g m ma) (L : Lv c s σ H) (e : Fr p (Own c s σ) H H1) (L1 : Lv c s1 σ H1) (hm : ∀ a, Own c s1 σ a → Own c s σ a) (hd : Mds c m s1 σ H1 ds vs) (hp : p = true → s1 = s) {Q : VK}
    (q : Po c E p ma s σ H Q (lft (g ds) s1)) : r vs H1 Q := by
  unfold lft at q
  cases eg : g ds with
  | none => rw [eg] at q; exact q.elim
  | some d =>
    rw [eg] at q
    have q : ∀ v H', Fr p (Own c s σ) H H' → Lv c s1 σ H' → (∀ a, Own c s1 σ a → Own c s σ a) → Mdr c ma s H s1 σ H' d v → Q v H' := q
    have fr : ∀ {H'}, Same H1 H' → Fr p (Own c s σ) H H' := fun {H'} z => by
      have z2 : Fr (p && true) (Own c s σ) H H' := e.and (q := true) (N := Own c s σ) (Fr.of z) fun _ z => z
      rwa [Bool.and_true] at z2
    cases h with
    | s h => exact h ds vs d H1 hd.no eg Q fun v H' z hv => q v H' (fr z) (L1.mono z) hm (hv _)
    | m h => exact h (Mo c s1 σ) ds vs d H1 (fun a z hn => by obtain ⟨o, ho, _⟩ := L1.alive z; rw [hn] at ho; cases ho) hd eg Q fun v H' z hv => q v H' (fr z) (L1.mono z) hm hv
    | n h => exact h Vl.no ds vs d H1 (fun a z => z.elim) hd.no eg Q fun v H' z hv => q v H' (fr z) (L1.mono z) hm hv
    | f h =>
      refine h (fun a => Mo c s1 σ a ∨ H1 a = none) ds vs d H1 (Dms.anti (M := Mo c s1 σ) (fun a z hn => z.elim id fun y => absurd y hn) ds vs hd) eg Q fun x o hx t => ?_
      have sm := same_new (o := o) hx
      refine q _ _ (fr sm) (L1.mono sm) hm ⟨x, rfl, L1.notMo hx, .inr (fresh_back e hx), (L1.plus hx).mono sm, t.anti fun a z _ => ?_⟩
      rcases z with z | z
      · exact .inl z
      · exact .inr (z ▸ hx)
    | g h => exact h (Mo c s1 σ) ds vs d H1 (fun a z hn => by obtain ⟨o, ho, _⟩ := L1.alive z; rw [hn] at ho; cases ho) hd eg Q fun x H' hx sm t => q _ _ (fr sm) (L1.mono sm) hm ⟨x, rfl, L1.notMo hx, .inr (fresh_back e hx), (L1.plus hx).mono sm, t⟩

/-- two operands -/
def op2 (g : GD) (fa fb : PM D) : PM D := bd fa fun x => bd fb fun y => lft (g [x, y])
def op1 (g : GD) (fa : PM D) : PM D := bd fa fun x => lft (g [x])
theorem bnd_exc {α β : Type} {f : PM α} {g : α → PM β} {x : Exc} (h : f s = .exc x s') : bd f g s = .exc x s' := by unfold bd; rw [h]
theorem bnd_no {α β : Type} {f : PM α} {g : α → PM β} (h : f s = .no) : bd f g s = .no := by unfold bd; rw [h]
theorem iff_trans {P Q R : Addr → Prop} (h1 : ∀ a, P a → Q a) (h2 : ∀ a, Q a → R a) : ∀ a, P a → R a := fun a z => h2 a (h1 a z)
def arg2 (r : R2) : RA := fun vs H Q => ∃ x y, vs = [x, y] ∧ r x y H Q
def arg1 (r : V → Hp → VK → Prop) : RA := fun vs H Q => ∃ x, vs = [x] ∧ r x H Q
theorem Mds.of2 {d1 d2 : D} {v1 v2 : V} {m : Md} (hm : m ≠ .fr) (h1 : Mdr c m s H s' σ H' d1 v1) (h2 : Mdr c m s1 H1 s' σ H' d2 v2) : Mds c m s' σ H' [d1, d2] [v1, v2] := by
  cases m with
  | now => exact Dms.cons h1 (Dms.cons h2 Dms.nil)
  | st => exact Dms.cons h1 (Dms.cons h2 Dms.nil)
  | fr => exact absurd rfl hm
theorem Mds.of1 {d1 : D} {v1 : V} {m : Md} (hm : m ≠ .fr) (h1 : Mdr c m s H s' σ H' d1 v1) : Mds c m s' σ H' [d1] [v1] := by
  cases m with
  | now => exact Dms.cons h1 Dms.nil
  | st => exact Dms.cons h1 Dms.nil
  | fr => exact absurd rfl hm
theorem VE.ap2 {r : R2} {g : GD} (ha : VE c E pa m ta fa) (hb : VE c E pb m tb fb) (hm : m ≠ .fr) (hs : Stay m pb) (h : Cl c.Γ (arg2 r) g m mb) : VE c E (pa && pb) mb (tOp r ta tb) (op2 g fa fb) := by
  refine ⟨ha.pu.bnd fun x => by simpa using (hb.pu.bnd fun y => Pu.lift (p := true)), fun M0 s σ H L Q q => ha.run M0 s σ H L _ ?_⟩
  unfold op2 at q
  cases e1 : fa s with
  | no => rw [bnd_no e1] at q; exact q
  | exc x s1 => rw [bnd_exc e1] at q; exact q
  | ok d1 s1 =>
    rw [bnd_ok e1] at q
    refine fun v1 H1 f1 L1 m1 h1 => hb.run M0 s1 σ H1 L1 _ ?_
    cases e2 : fb s1 with
    | no => rw [bnd_no e2] at q; exact q
    | exc x s2 => rw [bnd_exc e2] at q; exact exc_next (o := no) f1 m1 q
    | ok d2 s2 =>
      rw [bnd_ok e2] at q
      refine fun v2 H2 f2 L2 m2 h2 => ?_
      have z : arg2 r [v1, v2] H2 Q := Cl.run (c := c.at M0) h L (f1.and f2 m1) L2 (iff_trans m2 m1) (Mds.of2 hm (h1.stay f2 m2 hs) h2) (fun hp => by
        rw [Bool.and_eq_true] at hp
        rw [hb.pu hp.2 _ _ _ e2, ha.pu hp.1 _ _ _ e1]) q
      obtain ⟨x, y, ez, z⟩ := z
      cases ez
      exact z
theorem VE.ap1 {r : V → Hp → VK → Prop} {g : GD} (ha : VE c E pa m ta fa) (hm : m ≠ .fr) (h : Cl c.Γ (arg1 r) g m mb) : VE c E pa mb (tUn r ta) (op1 g fa) := by
  refine ⟨by have z := ha.pu.bnd (g := fun x => lft (g [x])) fun x => Pu.lift (p := true); rw [Bool.and_true] at z; exact z, fun M0 s σ H L Q q => ha.run M0 s σ H L _ ?_⟩
  unfold op1 at q
  cases e1 : fa s with
  | no => rw [bnd_no e1] at q; exact q
  | exc x s1 => rw [bnd_exc e1] at q; exact q
  | ok d1 s1 =>
    rw [bnd_ok e1] at q
    refine fun v1 H1 f1 L1 m1 h1 => ?_
    have z : arg1 r [v1] H1 Q := Cl.run (c := c.at M0) h L f1 L1 m1 (Mds.of1 hm h1) (fun hp => ha.pu hp _ _ _ e1) q
    obtain ⟨x, ez, z⟩ := z
    cases ez
    exact z
theorem me_op {op : Operator} {r : R2} {g : GD} (ho : OpR X (binaryOp op) r) (h : Cl c.Γ (arg2 r) g m mb) (ha : ME X c E pa m a fa) (hb : ME X c E pb m b fb) (hs : Stay m pb) (hm : m ≠ .fr := by decide) : ME X c E (pa && pb) mb (.BinOp a op b pos) (op2 g fa fb) :=
  let ⟨_, x1, y1⟩ := ha.ex; let ⟨_, x2, y2⟩ := hb.ex; ⟨_, pe_op ho x1 x2, y1.ap2 y2 hm hs h⟩
theorem me_cmp {op : CmpOp} {r : R2} {g : GD} (ho : OpR X (compareOp op) r) (h : Cl c.Γ (arg2 r) g m mb) (ha : ME X c E pa m a fa) (hb : ME X c E pb m b fb) (hs : Stay m pb) (hk : behindInMarks op b = false) (hm : m ≠ .fr := by decide) : ME X c E (pa && pb) mb (.Compare a [op] [b] pos) (op2 g fa fb) :=
  let ⟨_, x1, y1⟩ := ha.ex; let ⟨_, x2, y2⟩ := hb.ex; ⟨_, pe_cmpR ho x1 x2 hk, y1.ap2 y2 hm hs h⟩
theorem me_un {op : UnaryOp} {r : V → Hp → VK → Prop} {g : GD} (ho : UnR X (unaryOp op) r) (h : Cl c.Γ (arg1 r) g m mb) (ha : ME X c E pa m a fa) (hm : m ≠ .fr := by decide) : ME X c E pa mb (.UnaryOp op a pos) (op1 g fa) :=
  let ⟨_, x1, y1⟩ := ha.ex; ⟨_, pe_un ho x1, y1.ap1 hm h⟩
theorem me_ix {r : R2} {g : GD} (ho : IxR X r) (h : Cl c.Γ (arg2 r) g m mb) (ha : ME X c E pa m a fa) (hb : ME X c E pb m b fb) (hs : Stay m pb) (hpl : PlainIx b := by intro _ _; rfl) (hm : m ≠ .fr := by decide) : ME X c E (pa && pb) mb (.Subscript a b pos) (op2 g fa fb) :=
  let ⟨_, x1, y1⟩ := ha.ex; let ⟨_, x2, y2⟩ := hb.ex; ⟨_, pe_ix ho x1 x2 hpl, y1.ap2 y2 hm hs h⟩
/-! ### tests, and, or, not, if -/
def tru (f : PM D) : PM Bool := bd f fun d => match d with | .bl b => pur b | _ => fun _ => .no
def val (f : PM Bool) : PM D := bd f fun b => pur (.bl b)
theorem pu_tst {g : D → PM Bool} : True := trivial
theorem Pu.tst (h : Pu p f) : Pu p (tru f) := by
  have z := h.bnd (q := true) (g := fun d => match d with | .bl b => pur b | _ => fun _ => .no) fun x _ s d s' h => by cases x <;> first | (cases h; rfl) | cases h
  rw [Bool.and_true] at z; exact z
variable {tt tu : TT} {g ga gb : PM Bool}
theorem VE.tst (h : VE c E p m te f) : VT c E p (tTest te) (tru f) := ⟨h.pu.tst, fun M0 s σ H L Q q => h.run M0 s σ H L _ (by
  unfold tru at q
  cases e1 : f s with
  | no => rw [bnd_no e1] at q; exact q
  | exc x s1 => rw [bnd_exc e1] at q; exact q
  | ok d s1 =>
    rw [bnd_ok e1] at q
    intro v H1 f1 L1 m1 h1
    cases d with
    | bl b =>
      have := (h1.no).toB
      subst this
      exact ⟨b, rfl, q H1 f1 L1 m1⟩
    | _ => exact q.elim)⟩
theorem VE.tstB (h : VE c E p m te f) : VT c E p (tB te) (tru f) := ⟨h.pu.tst, fun M0 s σ H L Q q => h.run M0 s σ H L _ (by
  unfold tru at q
  cases e1 : f s with
  | no => rw [bnd_no e1] at q; exact q
  | exc x s1 => rw [bnd_exc e1] at q; exact q
  | ok d s1 =>
    rw [bnd_ok e1] at q
    intro v H1 f1 L1 m1 h1
    cases d with
    | bl b =>
      have := (h1.no).toB
      subst this
      exact ⟨b, rfl, q H1 f1 L1 m1⟩
    | _ => exact q.elim)⟩
theorem mt_val (h : ME X c E p m e f) (he : ∀ whole : Sem Value, PySem.isTrue e X.env whole = (do let v ← whole; standAt e.pos; holding [v] (truthy v)) := by intro _; rfl) : MT X c E p e (tru f) := let ⟨_, x, y⟩ := h.ex; ⟨_, pt_val x (he := he), y.tstB⟩
theorem mt_cmp {op : CmpOp} {r : R2} {g : GD} (ho : OpR X (compareOp op) r) (h : Cl c.Γ (arg2 r) g m mb) (ha : ME X c E pa m a fa) (hb : ME X c E pb m b fb) (hs : Stay m pb) (hk : behindInMarks op b = false) (hm : m ≠ .fr := by decide) : MT X c E (pa && pb) (.Compare a [op] [b] pos) (tru (op2 g fa fb)) :=
  let ⟨_, x1, y1⟩ := ha.ex; let ⟨_, x2, y2⟩ := hb.ex; ⟨_, pt_cmpR ho x1 x2 hk, (y1.ap2 y2 hm hs h).tst⟩
def andB (f g : PM Bool) : PM Bool := bd f fun b => if b then g else pur false
def orB (f g : PM Bool) : PM Bool := bd f fun b => if b then pur true else g
def notB (f : PM Bool) : PM Bool := bd f fun b => pur (!b)
theorem Fr.left (h : Fr p M H H') : Fr (p && q) M H H' := by
  have z := h.and (q := q) (N := M) Fr.refl fun _ z => z
  exact z
theorem VT.and (h1 : VT c E pa tt ga) (h2 : VT c E pb tu gb) : VT c E (pa && pb) (tAnd tt tu) (andB ga gb) := ⟨h1.pu.bnd fun b => by cases b; exact Pu.rt; exact h2.pu, fun M0 s σ H L Q q => h1.run M0 s σ H L _ (by
  unfold andB at q
  cases e1 : ga s with
  | no => rw [bnd_no e1] at q; exact q
  | exc x s1 => rw [bnd_exc e1] at q; exact q
  | ok b s1 =>
    rw [bnd_ok e1] at q
    intro H1 f1 L1 m1
    cases b with
    | false => exact q H1 f1.left L1 m1
    | true =>
      refine h2.run M0 s1 σ H1 L1 _ ?_
      have q : PoB (c.at M0) E (pa && pb) s σ H Q (gb s1) := q
      revert q
      cases gb s1 with
      | no => exact fun q => q
      | exc x s2 => exact fun q => exc_next (o := no) f1 m1 q
      | ok b2 s2 => exact fun q H2 f2 L2 m2 => q H2 (f1.and f2 m1) L2 (iff_trans m2 m1))⟩
theorem VT.or (h1 : VT c E pa tt ga) (h2 : VT c E pb tu gb) : VT c E (pa && pb) (tOr tt tu) (orB ga gb) := ⟨h1.pu.bnd fun b => by cases b; exact h2.pu; exact Pu.rt, fun M0 s σ H L Q q => h1.run M0 s σ H L _ (by
  unfold orB at q
  cases e1 : ga s with
  | no => rw [bnd_no e1] at q; exact q
  | exc x s1 => rw [bnd_exc e1] at q; exact q
  | ok b s1 =>
    rw [bnd_ok e1] at q
    intro H1 f1 L1 m1
    cases b with
    | true => exact q H1 f1.left L1 m1
    | false =>
      refine h2.run M0 s1 σ H1 L1 _ ?_
      have q : PoB (c.at M0) E (pa && pb) s σ H Q (gb s1) := q
      revert q
      cases gb s1 with
      | no => exact fun q => q
      | exc x s2 => exact fun q => exc_next (o := no) f1 m1 q
      | ok b2 s2 => exact fun q H2 f2 L2 m2 => q H2 (f1.and f2 m1) L2 (iff_trans m2 m1))⟩
theorem VT.not (h : VT c E p tt g) : VT c E p (tNot tt) (notB g) := ⟨by
  have z := h.pu.bnd (q := true) (g := fun b => pur (!b)) fun b => Pu.rt
  rw [Bool.and_true] at z; exact z, fun M0 s σ H L Q q => h.run M0 s σ H L _ (by
  unfold notB at q
  cases e1 : g s with
  | no => rw [bnd_no e1] at q; exact q
  | exc x s1 => rw [bnd_exc e1] at q; exact q
  | ok b s1 => rw [bnd_ok e1] at q; exact q)⟩
theorem mt_not (h : MT X c E p e g) : MT X c E p (.UnaryOp .Not e pos) (notB g) := let ⟨_, x, y⟩ := h.ex; ⟨_, pt_not x, y.not⟩
/-- values that are truths: and, or, not -/
def adK (fb : PM D) : D → PM D
  | .bl true => bd fb sca
  | .bl false => pur (.bl false)
  | _ => fun _ => .no
def orK (fb : PM D) : D → PM D
  | .bl true => pur (.bl true)
  | .bl false => bd fb sca
  | _ => fun _ => .no
def ntK : D → PM D
  | .bl b => pur (.bl (!b))
  | _ => fun _ => .no
def adV (fa fb : PM D) : PM D := bd fa (adK fb)
def orrV (fa fb : PM D) : PM D := bd fa (orK fb)
def ntV (fa : PM D) : PM D := bd fa ntK
theorem pu_no {α : Type} : Pu p (fun _ => (.no : Out α)) := fun _ _ _ _ z => by cases z
theorem pu_sca (h : Pu p fb) : Pu p (bd fb sca) := by
  have z := h.bnd (q := true) (g := sca) fun a => Pu.scal (p := true) (d := a)
  rw [Bool.and_true] at z; exact z
theorem pu_ad (h : Pu p fb) (x : D) : Pu p (adK fb x) := by
  unfold adK; split
  · exact pu_sca h
  · exact Pu.rt
  · exact pu_no
theorem pu_or (h : Pu p fb) (x : D) : Pu p (orK fb x) := by
  unfold orK; split
  · exact Pu.rt
  · exact pu_sca h
  · exact pu_no
theorem pu_nt (x : D) : Pu p (ntK x) := by
  unfold ntK; split
  · exact Pu.rt
  · exact pu_no
theorem mst_bl {b : Bool} : Mdr c .st s H s' σ H' (.bl b) (.bl b) := by show Dm _ _ _ _ _; exact dm_bl
theorem Po.next {o : Out D} {Q : VK} (f1 : Fr pa (Own c s σ) H H1) (m1 : ∀ a, Own c s1 σ a → Own c s σ a) (q : Po c E (pa && pb) m s σ H Q o) : Po c E pb m s1 σ H1 Q o := by
  cases o with
  | no => exact q
  | exc x s2 => exact exc_next (o := no) f1 m1 q
  | ok d s2 =>
    exact fun v2 H2 f2 L2 m2 h2 => q v2 H2 (f1.and f2 m1) L2 (iff_trans m2 m1) (h2.back f1.up m1)
theorem VE.andV (h1 : VE c E pa ma ta fa) (h2 : VE c E pb mb tb fb) : VE c E (pa && pb) .st (tAndV ta tb) (adV fa fb) := ⟨h1.pu.bnd (pu_ad h2.pu), fun M0 s σ H L Q q => h1.run M0 s σ H L _ (by
  unfold adV at q
  cases e1 : fa s with
  | no => rw [bnd_no e1] at q; exact q
  | exc x s1 => rw [bnd_exc e1] at q; exact q
  | ok d s1 =>
    rw [bnd_ok e1] at q
    intro v H1 f1 L1 m1 h3
    cases d with
    | bl b =>
      have := (h3.no).toB
      subst this
      refine ⟨b, rfl, ?_⟩
      cases b with
      | false => exact q _ H1 f1.left L1 m1 mst_bl
      | true => exact h2.scal.run M0 s1 σ H1 L1 _ (Po.next f1 m1 q)
    | _ => exact q.elim)⟩
theorem VE.orV (h1 : VE c E pa ma ta fa) (h2 : VE c E pb mb tb fb) : VE c E (pa && pb) .st (tOrV ta tb) (orrV fa fb) := ⟨h1.pu.bnd (pu_or h2.pu), fun M0 s σ H L Q q => h1.run M0 s σ H L _ (by
  unfold orrV at q
  cases e1 : fa s with
  | no => rw [bnd_no e1] at q; exact q
  | exc x s1 => rw [bnd_exc e1] at q; exact q
  | ok d s1 =>
    rw [bnd_ok e1] at q
    intro v H1 f1 L1 m1 h3
    cases d with
    | bl b =>
      have := (h3.no).toB
      subst this
      refine ⟨b, rfl, ?_⟩
      cases b with
      | true => exact q _ H1 f1.left L1 m1 mst_bl
      | false => exact h2.scal.run M0 s1 σ H1 L1 _ (Po.next f1 m1 q)
    | _ => exact q.elim)⟩
theorem VE.notV (h : VE c E p m te f) : VE c E p .st (tNotV te) (ntV f) := ⟨by
  have z := h.pu.bnd (q := true) (g := ntK) fun x => pu_nt x
  rw [Bool.and_true] at z; exact z, fun M0 s σ H L Q q => h.run M0 s σ H L _ (by
  unfold ntV at q
  cases e1 : f s with
  | no => rw [bnd_no e1] at q; exact q
  | exc x s1 => rw [bnd_exc e1] at q; exact q
  | ok d s1 =>
    rw [bnd_ok e1] at q
    intro v H1 f1 L1 m1 h1
    cases d with
    | bl b =>
      have := (h1.no).toB
      subst this
      exact ⟨b, rfl, q _ H1 f1 L1 m1 mst_bl⟩
    | _ => exact q.elim)⟩
theorem me_and {r : List Expr} {b : Expr} (h1 : ME X c E pa ma a fa) (h2 : ME X c E pb mb (.BoolOp .And (b :: r) pos) fb) : ME X c E (pa && pb) .st (.BoolOp .And (a :: b :: r) pos) (adV fa fb) := let ⟨_, x1, y1⟩ := h1.ex; let ⟨_, x2, y2⟩ := h2.ex; ⟨_, pe_and x1 x2, y1.andV y2⟩
theorem me_or {r : List Expr} {b : Expr} (h1 : ME X c E pa ma a fa) (h2 : ME X c E pb mb (.BoolOp .Or (b :: r) pos) fb) : ME X c E (pa && pb) .st (.BoolOp .Or (a :: b :: r) pos) (orrV fa fb) := let ⟨_, x1, y1⟩ := h1.ex; let ⟨_, x2, y2⟩ := h2.ex; ⟨_, pe_or x1 x2, y1.orV y2⟩
theorem me_one {op : BoolOp} (h1 : ME X c E pa ma a fa) : ME X c E pa ma (.BoolOp op [a] pos) fa := let ⟨_, x1, y1⟩ := h1.ex; ⟨_, pe_one x1, y1⟩
theorem me_not (h : ME X c E p m e f) : ME X c E p .st (.UnaryOp .Not e pos) (ntV f) := let ⟨_, x, y⟩ := h.ex; ⟨_, pe_not x, y.notV⟩
/-- a if test else b -/
def ifX (g : PM Bool) (fa fb : PM D) : PM D := bd g fun b => if b then fa else fb
theorem VT.ifE (h : VT c E p tt g) (h1 : VE c E pa m ta fa) (h2 : VE c E pb m tb fb) : VE c E (p && (pa && pb)) m (tIf tt ta tb) (ifX g fa fb) := ⟨h.pu.bnd fun b => by
    cases b
    · exact fun z => h2.pu (by rw [Bool.and_eq_true] at z; exact z.2)
    · exact fun z => h1.pu (by rw [Bool.and_eq_true] at z; exact z.1), fun M0 s σ H L Q q => h.run M0 s σ H L _ (by
  unfold ifX at q
  cases e1 : g s with
  | no => rw [bnd_no e1] at q; exact q
  | exc x s1 => rw [bnd_exc e1] at q; exact q
  | ok b s1 =>
    rw [bnd_ok e1] at q
    intro H1 f1 L1 m1
    cases b with
    | true =>
      refine h1.run M0 s1 σ H1 L1 _ ?_
      have q : Po (c.at M0) E (p && (pa && pb)) m s σ H Q (fa s1) := q
      revert q
      cases fa s1 with
      | no => exact fun q => q
      | exc x s2 => exact fun q => exc_next (o := no) f1 m1 q
      | ok d2 s2 => exact fun q v2 H2 f2 L2 m2 h2 => q v2 H2 (by have z := (f1.and f2 m1).left (q := pb); rwa [Bool.and_assoc] at z) L2 (iff_trans m2 m1) (h2.back f1.up m1)
    | false =>
      refine h2.run M0 s1 σ H1 L1 _ ?_
      have q : Po (c.at M0) E (p && (pa && pb)) m s σ H Q (fb s1) := q
      revert q
      cases fb s1 with
      | no => exact fun q => q
      | exc x s2 => exact fun q => exc_next (o := no) f1 m1 q
      | ok d2 s2 => exact fun q v2 H2 f2 L2 m2 h2 => q v2 H2 (by have z := (f1.and f2 m1).left (q := pa); rwa [Bool.and_assoc, Bool.and_comm pb pa] at z) L2 (iff_trans m2 m1) (h2.back f1.up m1))⟩
theorem me_if {k : Expr} (h : MT X c E p k g) (h1 : ME X c E pa m a fa) (h2 : ME X c E pb m b fb) : ME X c E (p && (pa && pb)) m (.IfExp k a b pos) (ifX g fa fb) :=
  let ⟨_, x, y⟩ := h.ex; let ⟨_, x1, y1⟩ := h1.ex; let ⟨_, x2, y2⟩ := h2.ex; ⟨_, pe_ifExp x x1 x2, y.ifE y1 y2⟩
/-! tests joined -/
theorem mw_and1 (h : MT X c E p e g) : MW X c E p (.BoolOp .And [e] pos) g := let ⟨_, x, y⟩ := h.ex; ⟨_, pw_and1 x, y⟩
theorem mw_or1 (h : MT X c E p e g) : MW X c E p (.BoolOp .Or [e] pos) g := let ⟨_, x, y⟩ := h.ex; ⟨_, pw_or1 x, y⟩
theorem mw_and {r : List Expr} (h1 : MT X c E pa a ga) (h2 : MW X c E pb (.BoolOp .And (b :: r) pos) gb) : MW X c E (pa && pb) (.BoolOp .And (a :: b :: r) pos) (andB ga gb) := let ⟨_, x1, y1⟩ := h1.ex; let ⟨_, x2, y2⟩ := h2.ex; ⟨_, pw_and x1 x2, y1.and y2⟩
theorem mw_or {r : List Expr} (h1 : MT X c E pa a ga) (h2 : MW X c E pb (.BoolOp .Or (b :: r) pos) gb) : MW X c E (pa && pb) (.BoolOp .Or (a :: b :: r) pos) (orB ga gb) := let ⟨_, x1, y1⟩ := h1.ex; let ⟨_, x2, y2⟩ := h2.ex; ⟨_, pw_or x1 x2, y1.or y2⟩
theorem MW.mt (h : MW X c E p e g) : MT X c E p e g := let ⟨_, x, y⟩ := h.ex; ⟨_, x.pt, y⟩

/-! ### arguments -/
def PoA (c : Ctx) (E : XK) (p : Bool) (m : Md) (s : S) (σ : St) (H : Hp) (Q : List V → Hp → Prop) : Out (List D) → Prop
  | .ok ds s' => ∀ vs H', Fr p (Own c s σ) H H' → Lv c s' σ H' → (∀ a, Own c s' σ a → Own c s σ a) → Mds c m s' σ H' ds vs → Q vs H'
  | .exc x s' => ∀ cls dd H', Lv c s' σ H' → Fr false (Own c s σ) H H' → (∀ a, Own c s' σ a → Own c s σ a) → Xr c s' σ x cls dd H' → E cls dd H'
  | .no => False
structure VA (c : Ctx) (E : XK) (p : Bool) (m : Md) (t : TA) (f : PM (List D)) : Prop where
  pu : Pu p f
  run : ∀ M0 s σ H, Lv (c.at M0) s σ H → ∀ Q, PoA (c.at M0) E p m s σ H Q (f s) → t σ H Q
structure MA (X : Cx) (c : Ctx) (E : XK) (p : Bool) (m : Md) (es : List Expr) (f : PM (List D)) : Prop where
  ex : ∃ t, PA X es t ∧ VA c E p m t f
theorem Mds.stay {ds : List D} {vs : List V} (h : Mds c m s1 σ H1 ds vs) (e : Fr p (Own c s1 σ) H1 H2) (hm : ∀ a, Own c s2 σ a → Own c s1 σ a) (hs : Stay m p) : Mds c m s2 σ H2 ds vs := by
  rcases hs with rfl | ⟨rfl, rfl⟩
  · exact Dms.anti (fun a z _ => own_mo hm a z) ds vs (Dms.mono (ex_mo e.ex) ds vs h)
  · exact Dms.mono (.of e.same) ds vs h
theorem Mds.cons {d : D} {v : V} {ds : List D} {vs : List V} (hm : m ≠ .fr) (h : Mdr c m s H s' σ H' d v) (t : Mds c m s' σ H' ds vs) : Mds c m s' σ H' (d :: ds) (v :: vs) := by
  cases m with
  | now => exact Dms.cons h t
  | st => exact Dms.cons h t
  | fr => exact absurd rfl hm
theorem Mds.nil (hm : m ≠ .fr) : Mds c m s' σ H' [] [] := by
  cases m with
  | now => show Dms _ _ _ _ _; exact Dms.nil
  | st => show Dms _ _ _ _ _; exact Dms.nil
  | fr => exact absurd rfl hm
def consA (fa : PM D) (fr : PM (List D)) : PM (List D) := bd fa fun x => bd fr fun xs => pur (x :: xs)
theorem VA.nil (hm : m ≠ .fr) : VA c E true m tNil (pur []) := ⟨Pu.rt, fun M0 s σ H L Q q => q [] H Fr.refl L (fun _ z => z) (Mds.nil hm)⟩
theorem VA.cons {t : TA} {f : PM (List D)} (ha : VE c E pa m ta fa) (hr : VA c E pb m t f) (hs : Stay m pb) (hm : m ≠ .fr) : VA c E (pa && pb) m (tCons ta t) (consA fa f) := ⟨ha.pu.bnd fun x => by
    have z := hr.pu.bnd (q := true) (g := fun xs => pur (x :: xs)) fun xs => Pu.rt
    rw [Bool.and_true] at z; exact z, fun M0 s σ H L Q q => ha.run M0 s σ H L _ (by
  unfold consA at q
  cases e1 : fa s with
  | no => rw [bnd_no e1] at q; exact q
  | exc x s1 => rw [bnd_exc e1] at q; exact q
  | ok d1 s1 =>
    rw [bnd_ok e1] at q
    refine fun v1 H1 f1 L1 m1 h1 => hr.run M0 s1 σ H1 L1 _ ?_
    cases e2 : f s1 with
    | no => rw [bnd_no e2] at q; exact q
    | exc x s2 => rw [bnd_exc e2] at q; exact exc_next (o := no) f1 m1 q
    | ok ds s2 =>
      rw [bnd_ok e2] at q
      exact fun vs H2 f2 L2 m2 h2 => q _ H2 (f1.and f2 m1) L2 (iff_trans m2 m1) (Mds.cons hm (h1.stay f2 m2 hs) h2))⟩
theorem ma_nil (hm : m ≠ .fr := by decide) : MA X c E true m [] (pur []) := ⟨_, pa_nil, VA.nil hm⟩
theorem ma_cons {es : List Expr} {f : PM (List D)} (ha : ME X c E pa m e fa) (hr : MA X c E pb m es f) (hs : Stay m pb) (hm : m ≠ .fr := by decide) (hst : starEach (e :: es) X.env = (false, eval e X.env) :: starEach es X.env := by rfl) : MA X c E (pa && pb) m (e :: es) (consA fa f) :=
  let ⟨_, x1, y1⟩ := ha.ex; let ⟨_, x2, y2⟩ := hr.ex; ⟨_, pa_cons x1 x2 hst, VA.cons y1 y2 hs hm⟩
def apA (g : GD) (f : PM (List D)) : PM D := bd f fun ds => lft (g ds)
theorem VA.ap {r : RA} {g : GD} {t : TA} {f : PM (List D)} (h : VA c E p m t f) (k : Cl c.Γ r g m mb) : VE c E p mb (tCB r t) (apA g f) := ⟨by
  have z := h.pu.bnd (q := true) (g := fun ds => lft (g ds)) fun ds => Pu.lift
  rw [Bool.and_true] at z; exact z, fun M0 s σ H L Q q => h.run M0 s σ H L _ (by
  unfold apA at q
  cases e1 : f s with
  | no => rw [bnd_no e1] at q; exact q
  | exc x s1 => rw [bnd_exc e1] at q; exact q
  | ok ds s1 =>
    rw [bnd_ok e1] at q
    exact fun vs H1 f1 L1 m1 h1 => Cl.run (c := c.at M0) k L f1 L1 m1 h1 (fun hp => h.pu hp _ _ _ e1) q)⟩
variable {x : Str} {p0 : Pos} {es : List Expr} {id T : String} {r : RA} {g1 : GD} {fl : PM (List D)}
theorem me_callB (hc : CallR X (.builtin id) r) (k : Cl c.Γ r g1 m mb) (hg : Gl X x) (hmg : X.mg x = none) (hv : bootBuiltins x = some (.builtin id)) (ha : MA X c E p m (e :: es) fl) (hn : x ≠ "__name__" := by decide) (hdb : (x == ("__debug__" : Str)) = false := by decide)
    (he : starEach (e :: es) X.env = (false, eval e X.env) :: starEach es X.env := by rfl) (hpl : (backTo pos (starEach es X.env)).any (·.1) = false := by rfl) : ME X c E p mb (.Call (.Name x p0) (e :: es) [] pos) (apA g1 fl) :=
  let ⟨_, y1, y2⟩ := ha.ex; ⟨_, pe_callB hc hg hmg hv y1 hn hdb he hpl, y2.ap k⟩
theorem me_callTy (hc : CallR X (.type T) r) (k : Cl c.Γ r g1 m mb) (hg : Gl X x) (hmg : X.mg x = none) (hv : bootBuiltins x = some (.type T)) (ha : MA X c E p m (e :: es) fl) (hn : x ≠ "__name__" := by decide) (hdb : (x == ("__debug__" : Str)) = false := by decide)
    (he : starEach (e :: es) X.env = (false, eval e X.env) :: starEach es X.env := by rfl) (hpl : (backTo pos (starEach es X.env)).any (·.1) = false := by rfl) : ME X c E p mb (.Call (.Name x p0) (e :: es) [] pos) (apA g1 fl) :=
  let ⟨_, y1, y2⟩ := ha.ex; ⟨_, pe_callTy hc hg hmg hv y1 hn hdb he hpl, y2.ap k⟩
theorem me_callBfun (hc : CallR X (.builtin id) r) (k : Cl c.Γ r g1 m mb) (hg : Gl X x) (hmg : X.mg x = some (.builtin id)) (ha : MA X c E p m (e :: es) fl) (hdb : (x == ("__debug__" : Str)) = false := by decide)
    (he : starEach (e :: es) X.env = (false, eval e X.env) :: starEach es X.env := by rfl) (hpl : (backTo pos (starEach es X.env)).any (·.1) = false := by rfl) : ME X c E p mb (.Call (.Name x p0) (e :: es) [] pos) (apA g1 fl) :=
  let ⟨_, y1, y2⟩ := ha.ex; ⟨_, pe_callBfun hc hg hmg y1 hdb he hpl, y2.ap k⟩
/-! displays -/
def tupG : GD := fun ds => if ds.length ≤ 100000 then some (.tup ds) else none
def lstG : GD := fun ds => if ds.length ≤ 100000 then some (.lst ds) else none
abbrev rTupF : RA := fun xs H1 Q => xs.length ≤ sizeLine ∧ ∀ p o, H1 p = none → o.dict = none → Q (.ref p) (upd H1 p (.frz o (.tup xs)))
theorem pe_tupF {x1} {t : TA} (h : PA X es t) : PE X (.Tuple es x1 pos) (tCB rTupF t) := by
  refine ⟨fun pins s σ H Q I hq => ?_⟩
  refine wpAny_Tuple_spliced (thn (h.run pos pins s σ H _ I hq) fun us s1 ⟨xs, H1, I1, r, z, q⟩ => ⟨by rw [← r.length]; exact z, ?_⟩)
  have hf : H1 s1.heap.objs.size = none := I1.hok.fresh (Nat.le_refl _)
  exact ⟨.ref s1.heap.objs.size, upd H1 s1.heap.objs.size (.frz { cls := .type "tuple", data := .seq us.toArray } (.tup xs)), I1.laid (t' := s1.toks) (fun b u e => Heap.get?_push_of_some _ e) (Nat.le_refl _)
    ⟨Heap.get?_push_size _ rfl, z, us, r, ⟨_, Heap.get?_push_size _ rfl, rfl, _, rfl⟩⟩, rfl, q _ _ hf rfl⟩
theorem tLst_tCB {t : TA} : tLst t = tCB (fun xs H1 Q => xs.length ≤ sizeLine ∧ ∀ p, H1 p = none → Q (.ref p) (upd H1 p (.lst xs))) t := rfl
theorem if_some {α : Type} {P : Prop} [Decidable P] {a b : α} (h : (if P then some a else none) = some b) : P ∧ a = b := by
  split at h
  · exact ⟨by assumption, Option.some.inj h⟩
  · cases h
theorem line_of {n : Nat} (h : n ≤ 100000) : n ≤ sizeLine := Nat.le_trans h (by decide)
theorem rm_tup {Γ : KC} : RM Γ rTupF tupG := fun M ds vs d H hM h e Q q => by
  obtain ⟨hl, rfl⟩ := if_some e
  refine ⟨by rw [h.len]; exact line_of hl, fun p o hp ho => q _ _ (same_new hp) ?_⟩
  simp only [Dm]
  exact ⟨p, vs, rfl, .new (fun z => hM p z hp) upd_same ho, Dms.mono (.of (same_new hp)) ds vs h⟩
theorem rf_lst {Γ : KC} : RF Γ (fun xs H1 Q => xs.length ≤ sizeLine ∧ ∀ p, H1 p = none → Q (.ref p) (upd H1 p (.lst xs))) lstG := fun M ds vs d H h e Q q => by
  obtain ⟨hl, rfl⟩ := if_some e
  refine ⟨by rw [h.len]; exact line_of hl, fun p hp => q _ _ hp ?_⟩
  simp only [Tp]
  exact ⟨vs, upd_same, Dms.mono (.of (same_new hp)) ds vs h⟩
theorem rm_lst {Γ : KC} : RM Γ (fun xs H1 Q => xs.length ≤ sizeLine ∧ ∀ p, H1 p = none → Q (.ref p) (upd H1 p (.lst xs))) lstG := fun M ds vs d H hM h e Q q => by
  obtain ⟨hl, rfl⟩ := if_some e
  refine ⟨by rw [h.len]; exact line_of hl, fun p hp => q _ _ (same_new hp) ?_⟩
  simp only [Dm]
  exact ⟨p, vs, rfl, .inl ⟨fun z => hM p z hp, .inl upd_same⟩, Dms.mono (.of (same_new hp)) ds vs h⟩
theorem me_tup {x1} (h : MA X c E p .st es fl) : ME X c E p .st (.Tuple es x1 pos) (apA tupG fl) := let ⟨_, y1, y2⟩ := h.ex; ⟨_, pe_tupF y1, y2.ap (.m rm_tup)⟩
theorem me_tupN {x1} (h : MA X c E p m es fl) : ME X c E p .now (.Tuple es x1 pos) (apA tupG fl) := let ⟨_, y1, y2⟩ := h.ex; ⟨_, pe_tupF y1, y2.ap (.n rm_tup)⟩
theorem me_lst (h : MA X c E p .st es fl) : ME X c E p .fr (.List es pos) (apA lstG fl) := let ⟨_, y1, y2⟩ := h.ex; ⟨_, pe_lst y1, by rw [tLst_tCB]; exact y2.ap (.f rf_lst)⟩
theorem me_lstN (h : MA X c E p m es fl) : ME X c E p .now (.List es pos) (apA lstG fl) := let ⟨_, y1, y2⟩ := h.ex; ⟨_, pe_lst y1, by rw [tLst_tCB]; exact y2.ap (.n rm_lst)⟩
end Vl

set_option Elab.async false
set_option linter.all false
set_option maxRecDepth 100000
set_option maxHeartbeats 2000000
/-! the operations themselves: what is computed, and that the rules do it -/
namespace Vl
open PySem PySem.Spec L2
variable {Γ : KC} {c : Ctx} {M N : Addr → Prop} {H H' : Hp} {v : V} {d : D} {X : Cx} {m : Md}

/-! ### ints -/
def iiG (f : Int → Int → Option D) : GD := fun ds => match ds with | [.int i, .int j] => f i j | _ => none
theorem iiG_some {f : Int → Int → Option D} {ds : List D} {d : D} (h : iiG f ds = some d) : ∃ i j, ds = [.int i, .int j] ∧ f i j = some d := by
  unfold iiG at h
  split at h
  · exact ⟨_, _, rfl, h⟩
  · cases h
theorem dms_ii {i j : Int} {vs : List V} (h : Dms Γ M H [.int i, .int j] vs) : vs = [.int i, .int j] := by
  obtain ⟨x, r, rfl, h1, h2⟩ := h.uncons
  obtain ⟨y, rfl, h3⟩ := h2.one
  rw [h1.toI, h3.toI]
theorem rs_ii {C : Int → Int → Prop} {g : Int → Int → V} {f : Int → Int → Option D} (h : ∀ i j d, f i j = some d → C i j ∧ ∀ Γ M H, Dm Γ M H d (g i j)) : RS Γ (arg2 (rI C g)) (iiG f) := fun ds vs d H hv e Q q => by
  obtain ⟨i, j, rfl, e⟩ := iiG_some e
  obtain ⟨h1, h2⟩ := h i j d e
  exact ⟨_, _, dms_ii hv, i, j, rfl, rfl, h1, q _ H (Same.refl _) fun M => h2 Γ M H⟩
theorem rs_ii0 {g : Int → Int → V} {f : Int → Int → Option D} (h : ∀ i j d, f i j = some d → ∀ Γ M H, Dm Γ M H d (g i j)) : RS Γ (arg2 (rI0 g)) (iiG f) := fun ds vs d H hv e Q q => by
  obtain ⟨i, j, rfl, e⟩ := iiG_some e
  have h2 := h i j d e
  exact ⟨_, _, dms_ii hv, i, j, rfl, rfl, q _ H (Same.refl _) fun M => h2 Γ M H⟩
def addI : GD := iiG fun i j => some (.int (i + j))
def subG : GD := iiG fun i j => some (.int (i - j))
def mulI : GD := iiG fun i j => if i.natAbs < 2 ^ 64 ∨ j.natAbs < 2 ^ 64 ∨ i.natAbs.log2 + j.natAbs.log2 < 1000000 then some (.int (i * j)) else none
/-- // by what is not 0, below 2 ^ 9000 -/
def fdivG : GD := iiG fun i j => if j ≠ 0 ∧ j.natAbs.log2 < 9000 then some (.int (i.fdiv j)) else none
def modG : GD := iiG fun i j => if j ≠ 0 then some (.int (i.fmod j)) else none
def powG : GD := iiG fun i j => if 0 ≤ j ∧ j ≤ 1000000 ∧ i.natAbs < 2 ^ 64 then some (.int (i ^ j.toNat)) else none
def shlG : GD := iiG fun i j => if 0 ≤ j ∧ (i.natAbs.log2 : Int) + j ≤ 2 ^ 26 then some (.int (i * 2 ^ j.toNat)) else none
def shrG : GD := iiG fun i j => if 0 ≤ j then some (.int (i / 2 ^ j.toNat)) else none
def negG : GD := fun ds => match ds with | [.int i] => some (.int (-i)) | _ => none
theorem cl_addI : Cl Γ (arg2 (rI0 fun i j => .int (i + j))) addI m .st := .s (rs_ii0 fun i j d e _ _ _ => by cases e; exact dm_int)
theorem cl_sub : Cl Γ (arg2 (rI0 fun i j => .int (i - j))) subG m .st := .s (rs_ii0 fun i j d e _ _ _ => by cases e; exact dm_int)
def CMulA (i j : Int) : Prop := i.natAbs < 2 ^ 64 ∨ j.natAbs < 2 ^ 64 ∨ i.natAbs.log2 + j.natAbs.log2 < 1000000
theorem op_mulA : OpR X (binaryOp .Mult) (rI CMulA fun i j => .int (i * j)) := opI fun i j _ _ _ _ _ hc q => PyProof.Rows.mul_int q (by
  rcases hc with h | h | h
  · exact CMul.ok (.inl ⟨by omega, by omega⟩)
  · exact CMul.ok (.inr ⟨by omega, by omega⟩)
  · exact CMulW.ok h)
theorem cl_mulI : Cl Γ (arg2 (rI CMulA fun i j => .int (i * j))) mulI m .st := .s (rs_ii fun i j d e => by
  obtain ⟨h, rfl⟩ := if_some e
  exact ⟨h, fun _ _ _ => dm_int⟩)
def CDivA (_ j : Int) : Prop := j ≠ 0 ∧ j.natAbs.log2 < 9000
theorem op_fdivA : OpR X (binaryOp .FloorDiv) (rI CDivA fun i j => .int (i.fdiv j)) := opI fun i j _ _ _ _ _ hc q => PyProof.Rows.floordiv_int hc.1 q (.inl (PyProof.noPylong_of_log2 hc.2))
theorem cl_fdiv : Cl Γ (arg2 (rI CDivA fun i j => .int (i.fdiv j))) fdivG m .st := .s (rs_ii fun i j d e => by
  obtain ⟨h, rfl⟩ := if_some e
  exact ⟨h, fun _ _ _ => dm_int⟩)
theorem cl_mod : Cl Γ (arg2 (rI (fun _ j => j ≠ 0) fun i j => .int (i.fmod j))) modG m .st := .s (rs_ii fun i j d e => by
  obtain ⟨h, rfl⟩ := if_some e
  exact ⟨h, fun _ _ _ => dm_int⟩)
theorem cl_pow : Cl Γ (arg2 (rI CPow fun i j => .int (i ^ j.toNat))) powG m .st := .s (rs_ii fun i j d e => by
  obtain ⟨h, rfl⟩ := if_some e
  exact ⟨h, fun _ _ _ => dm_int⟩)
theorem cl_shl : Cl Γ (arg2 (rI CShl fun i j => .int (i * 2 ^ j.toNat))) shlG m .st := .s (rs_ii fun i j d e => by
  obtain ⟨h, rfl⟩ := if_some e
  refine ⟨⟨h.1, ?_⟩, fun _ _ _ => dm_int⟩
  have b : Builtin.Int.intBits i ≤ i.natAbs.log2 + 1 := by
    unfold Builtin.Int.intBits
    split <;> omega
  have := h.2
  omega)
theorem cl_shr : Cl Γ (arg2 (rI (fun _ j => 0 ≤ j) fun i j => .int (i / 2 ^ j.toNat))) shrG m .st := .s (rs_ii fun i j d e => by
  obtain ⟨h, rfl⟩ := if_some e
  exact ⟨h, fun _ _ _ => dm_int⟩)
theorem cl_neg : Cl Γ (arg1 (rU fun i => .int (-i))) negG m .st := .s fun ds vs d H hv e Q q => by
  unfold negG at e
  split at e
  · cases e
    obtain ⟨x, rfl, h1⟩ := hv.one
    exact ⟨_, rfl, _, h1.toI, q _ H (Same.refl _) fun _ => dm_int⟩
  · cases e
def ltG : GD := iiG fun i j => some (.bl (decide (i < j)))
def leG : GD := iiG fun i j => some (.bl (decide (i ≤ j)))
def gtG : GD := iiG fun i j => some (.bl (decide (j < i)))
def geG : GD := iiG fun i j => some (.bl (decide (j ≤ i)))
theorem cl_lt : Cl Γ (arg2 (rI0 fun i j => .bl (decide (i < j)))) ltG m .st := .s (rs_ii0 fun i j d e _ _ _ => by cases e; exact dm_bl)
theorem cl_le : Cl Γ (arg2 (rI0 fun i j => .bl (decide (i ≤ j)))) leG m .st := .s (rs_ii0 fun i j d e _ _ _ => by cases e; exact dm_bl)
theorem cl_gt : Cl Γ (arg2 (rI0 fun i j => .bl (decide (j < i)))) gtG m .st := .s (rs_ii0 fun i j d e _ _ _ => by cases e; exact dm_bl)
theorem cl_ge : Cl Γ (arg2 (rI0 fun i j => .bl (decide (j ≤ i)))) geG m .st := .s (rs_ii0 fun i j d e _ _ _ => by cases e; exact dm_bl)

/-! ### data without dicts and instances, as the library has them -/
mutual
def toPy : D → Option PyData
  | .non => some .none
  | .bl b => some (.bool b)
  | .int i => some (.int i)
  | .str x => some (.str x)
  | .lst ds => (toPys ds).map .list
  | .tup ds => (toPys ds).map .tuple
  | _ => none
def toPys : List D → Option (List PyData)
  | [] => some []
  | d :: ds => (toPy d).bind fun p => (toPys ds).map (p :: ·)
end
mutual
theorem toPy_dp : ∀ (d : D) (v : V) (p : PyData), toPy d = some p → Dm Γ M H d v → Dp Γ.K H v p
  | .non, _, _, e, h => by simp only [toPy] at e; cases e; rw [h.toN]; exact .non
  | .bl _, _, _, e, h => by simp only [toPy] at e; cases e; rw [h.toB]; exact .bl _
  | .int _, _, _, e, h => by simp only [toPy] at e; cases e; rw [h.toI]; exact .int _
  | .str _, _, _, e, h => by simp only [toPy] at e; cases e; rw [h.toS]; exact .str _
  | .lst ds, _, _, e, h => by
    simp only [toPy] at e
    obtain ⟨ps, e1, rfl⟩ := Option.map_eq_some_iff.mp e
    simp only [Dm] at h
    obtain ⟨a, xs, rfl, h1, h2⟩ := h
    exact .lst h1.sq (toPys_dp ds xs ps e1 h2)
  | .tup ds, _, _, e, h => by
    simp only [toPy] at e
    obtain ⟨ps, e1, rfl⟩ := Option.map_eq_some_iff.mp e
    simp only [Dm] at h
    obtain ⟨a, xs, rfl, h1, h2⟩ := h
    exact .tup h1.sq (toPys_dp ds xs ps e1 h2)
  | .dk _, _, _, e, _ => by simp [toPy] at e
  | .dt _, _, _, e, _ => by simp [toPy] at e
  | .ins _ _, _, _, e, _ => by simp [toPy] at e
  | .oth _, _, _, e, _ => by simp [toPy] at e
theorem toPys_dp : ∀ (ds : List D) (xs : List V) (ps : List PyData), toPys ds = some ps → Dms Γ M H ds xs → DpAll Γ.K H xs ps
  | [], _, _, e, h => by simp only [toPys] at e; simp only [Dms] at h; cases e; subst h; exact .nil
  | d :: ds, _, _, e, h => by
    simp only [toPys] at e
    obtain ⟨p, e1, e2⟩ := Option.bind_eq_some_iff.mp e
    obtain ⟨ps, e3, rfl⟩ := Option.map_eq_some_iff.mp e2
    obtain ⟨x, r, rfl, h1, h2⟩ := h.uncons
    exact .cons (toPy_dp d x p e1 h1) (toPys_dp ds r ps e3 h2)
end
/-! ==, != of such -/
def eqP (d1 d2 : D) : Option Bool := (toPy d1).bind fun p1 => (toPy d2).bind fun p2 => if SeqAt.shaped p1 = true ∧ SeqAt.shaped p2 = true then some (PyData.eqv p1 p2) else none
def eqG : GD := fun ds => match ds with | [.str a, .str b] => some (.bl (decide (a = b))) | [d1, d2] => (eqP d1 d2).map .bl | _ => none
def neG : GD := fun ds => match ds with | [.str a, .str b] => some (.bl (!decide (a = b))) | [d1, d2] => (eqP d1 d2).map fun b => .bl (!b) | _ => none
def rEqA (K : PySem.W.Frag) : R2 := fun x y H Q => rEqD K x y H Q ∨ rEq x y H Q
def rNeA (K : PySem.W.Frag) : R2 := fun x y H Q => rNeD K x y H Q ∨ rNe x y H Q
theorem op_eqA (hu : X.A.units + 64 < cLine) : OpR X (compareOp .Eq) (rEqA X.K) := (op_eqD hu).or op_eq
theorem op_neA (hu : X.A.units + 64 < cLine) : OpR X (compareOp .NotEq) (rNeA X.K) := (op_neD hu).or op_ne
theorem eqP_some {d1 d2 : D} {b : Bool} (h : eqP d1 d2 = some b) : ∃ p1 p2, toPy d1 = some p1 ∧ toPy d2 = some p2 ∧ SeqAt.shaped p1 = true ∧ SeqAt.shaped p2 = true ∧ b = PyData.eqv p1 p2 := by
  unfold eqP at h
  obtain ⟨p1, e1, h⟩ := Option.bind_eq_some_iff.mp h
  obtain ⟨p2, e2, h⟩ := Option.bind_eq_some_iff.mp h
  obtain ⟨⟨s1, s2⟩, rfl⟩ := if_some h
  exact ⟨p1, p2, e1, e2, s1, s2, rfl⟩
theorem str_dec {a b : Str} : decide (V.str a = V.str b) = decide (a = b) := by
  by_cases h : a = b <;> simp [h]
theorem cl_eq : Cl Γ (arg2 (rEqA Γ.K)) eqG m .st := .s fun ds vs d H hv e Q q => by
  unfold eqG at e
  split at e
  · cases e
    obtain ⟨x, r, rfl, h1, h2⟩ := hv.uncons
    obtain ⟨y, rfl, h3⟩ := h2.one
    rw [h1.toS, h3.toS]
    refine ⟨_, _, rfl, .inr ⟨rfl, ?_⟩⟩
    rw [str_dec]
    exact q _ H (Same.refl _) fun _ => dm_bl
  · obtain ⟨b, e1, rfl⟩ := Option.map_eq_some_iff.mp e
    obtain ⟨p1, p2, t1, t2, s1, s2, rfl⟩ := eqP_some e1
    obtain ⟨x, r, rfl, h1, h2⟩ := hv.uncons
    obtain ⟨y, rfl, h3⟩ := h2.one
    exact ⟨_, _, rfl, .inl ⟨p1, p2, toPy_dp _ _ _ t1 h1, toPy_dp _ _ _ t2 h3, s1, s2, q _ H (Same.refl _) fun _ => dm_bl⟩⟩
  · cases e
theorem cl_ne : Cl Γ (arg2 (rNeA Γ.K)) neG m .st := .s fun ds vs d H hv e Q q => by
  unfold neG at e
  split at e
  · cases e
    obtain ⟨x, r, rfl, h1, h2⟩ := hv.uncons
    obtain ⟨y, rfl, h3⟩ := h2.one
    rw [h1.toS, h3.toS]
    refine ⟨_, _, rfl, .inr ⟨rfl, ?_⟩⟩
    rw [str_dec]
    exact q _ H (Same.refl _) fun _ => dm_bl
  · obtain ⟨b, e1, rfl⟩ := Option.map_eq_some_iff.mp e
    obtain ⟨p1, p2, t1, t2, s1, s2, rfl⟩ := eqP_some e1
    obtain ⟨x, r, rfl, h1, h2⟩ := hv.uncons
    obtain ⟨y, rfl, h3⟩ := h2.one
    exact ⟨_, _, rfl, .inl ⟨p1, p2, toPy_dp _ _ _ t1 h1, toPy_dp _ _ _ t2 h3, s1, s2, q _ H (Same.refl _) fun _ => dm_bl⟩⟩
  · cases e
/-! is None, is not None -/
def isN : D → Bool
  | .non => true
  | _ => false
def notOth : D → Bool
  | .oth _ => false
  | _ => true
def isNG : GD := fun ds => match ds with | [d1, .non] => if notOth d1 = true then some (.bl (isN d1)) else none | _ => none
def notNG : GD := fun ds => match ds with | [d1, .non] => if notOth d1 = true then some (.bl (!isN d1)) else none | _ => none
theorem dm_isN (h : Dm Γ M H d v) (ho : notOth d = true) : decide (v = .non) = isN d := by
  cases d <;> simp only [Dm] at h
  · subst h; rfl
  · subst h; rfl
  · subst h; rfl
  · subst h; rfl
  · obtain ⟨_, _, rfl, _⟩ := h; rfl
  · obtain ⟨_, _, rfl, _⟩ := h; rfl
  · obtain ⟨_, _, rfl, _⟩ := h; rfl
  · obtain ⟨_, _, rfl, _⟩ := h; rfl
  · obtain ⟨_, _, _, _, rfl, _⟩ := h; rfl
  · cases ho
theorem cl_isN : Cl Γ (arg2 (fun x y H Q => y = .non ∧ Q (.bl (decide (x = .non))) H)) isNG m .st := .s fun ds vs d H hv e Q q => by
  unfold isNG at e
  split at e
  · obtain ⟨ho, rfl⟩ := if_some e
    obtain ⟨x, r, rfl, h1, h2⟩ := hv.uncons
    obtain ⟨y, rfl, h3⟩ := h2.one
    exact ⟨_, _, rfl, h3.toN, by rw [dm_isN h1 ho]; exact q _ H (Same.refl _) fun _ => dm_bl⟩
  · cases e
theorem cl_notN : Cl Γ (arg2 (fun x y H Q => y = .non ∧ Q (.bl (!decide (x = .non))) H)) notNG m .st := .s fun ds vs d H hv e Q q => by
  unfold notNG at e
  split at e
  · obtain ⟨ho, rfl⟩ := if_some e
    obtain ⟨x, r, rfl, h1, h2⟩ := hv.uncons
    obtain ⟨y, rfl, h3⟩ := h2.one
    exact ⟨_, _, rfl, h3.toN, by rw [dm_isN h1 ho]; exact q _ H (Same.refl _) fun _ => dm_bl⟩
  · cases e

/-! ### items -/
theorem Dms.atI {ds : List D} {vs : List V} {i : Int} (h : Dms Γ M H ds vs) (e : L2.atI ds i = some d) : ∃ x, L2.atI vs i = some x ∧ Dm Γ M H d x := by
  unfold L2.atI at e ⊢
  rw [h.len]
  cases q : ixN ds.length i with
  | none => rw [q] at e; cases e
  | some j => rw [q] at e; exact h.at e
def dget {κ : Type} [DecidableEq κ] (ks : List (κ × D)) (k : κ) : Option D := (ks.find? fun kv => decide (kv.1 = k)).map (·.2)
def keyD : D → Option Key
  | .int i => some (.inl i)
  | .str x => some (.inr x)
  | _ => none
theorem keyD_v {d : D} {k : Key} (h : keyD d = some k) (hd : Dm Γ M H d v) : v = kV k := by
  unfold keyD at h
  split at h
  · cases h; exact hd.toI
  · cases h; exact hd.toS
  · cases h
theorem Dmk.val : ∀ {ks : List (Key × D)} {kvs : List (Key × V)} {k : Key}, Dmk Γ M H ks kvs → (∀ d, dget ks k = some d → ∃ x, valV kvs k = some x ∧ Dm Γ M H d x) ∧ (dget ks k = none → valV kvs k = none)
  | [], _, k, h => by simp only [Dmk] at h; subst h; exact ⟨fun d e => by simp [dget] at e, fun _ => rfl⟩
  | (k0, d0) :: ks, _, k, h => by
    simp only [Dmk] at h
    obtain ⟨x, r, rfl, h1, h2⟩ := h
    by_cases e : k0 = k
    · subst e
      refine ⟨fun d e => ?_, fun e => by simp [dget, List.find?_cons] at e⟩
      have : d0 = d := by simpa [dget, List.find?_cons] using e
      subst this
      exact ⟨x, by simp [valV, List.find?_cons], h1⟩
    · have ih := Dmk.val (k := k) h2
      have e1 : dget ((k0, d0) :: ks) k = dget ks k := by simp [dget, List.find?_cons, e]
      have e2 : valV ((k0, x) :: r) k = valV r k := by simp [valV, List.find?_cons, e]
      rw [e1, e2]
      exact ih
def ixG : GD := fun ds => match ds with
  | [.lst xs, .int i] => L2.atI xs i
  | [.tup xs, .int i] => L2.atI xs i
  | [.str z, .int i] => if z.length ≤ sizeLine then (L2.atI z.cps.toList i).map fun c => .str ⟨#[c]⟩ else none
  | _ => none
theorem rm_ix : RM Γ (arg2 (rIx Γ.K)) ixG := fun M ds vs d H hM hv e Q q => by
  unfold ixG at e
  split at e
  · rename_i xs i
    obtain ⟨x, r, rfl, h1, h2⟩ := hv.uncons
    obtain ⟨y, rfl, h3⟩ := h2.one
    simp only [Dm] at h1
    obtain ⟨a, ys, rfl, h4, h5⟩ := h1
    obtain ⟨z, ez, hz⟩ := h5.atI e
    exact ⟨_, _, rfl, .inl ⟨a, ys, i, z, rfl, h3.toI, h4.sq, ez, q z H (Same.refl _) hz⟩⟩
  · rename_i xs i
    obtain ⟨x, r, rfl, h1, h2⟩ := hv.uncons
    obtain ⟨y, rfl, h3⟩ := h2.one
    simp only [Dm] at h1
    obtain ⟨a, ys, rfl, h4, h5⟩ := h1
    obtain ⟨z, ez, hz⟩ := h5.atI e
    exact ⟨_, _, rfl, .inr (.inl ⟨a, ys, i, z, rfl, h3.toI, h4.sq, ez, q z H (Same.refl _) hz⟩)⟩
  · rename_i z i
    obtain ⟨x, r, rfl, h1, h2⟩ := hv.uncons
    obtain ⟨y, rfl, h3⟩ := h2.one
    split at e
    · obtain ⟨cp, e1, rfl⟩ := Option.map_eq_some_iff.mp e
      exact ⟨_, _, rfl, .inr (.inr ⟨z, i, cp, h1.toS, h3.toI, by assumption, e1, q _ H (Same.refl _) dm_str⟩)⟩
    · cases e
  · cases e
theorem cl_ix : Cl Γ (arg2 (rIx Γ.K)) ixG .st .st := .m rm_ix
theorem cl_ixN : Cl Γ (arg2 (rIx Γ.K)) ixG m .now := .n rm_ix

/-! ### built-in functions -/
def oneI (f : Int → Option D) : GD := fun ds => match ds with | [.int i] => f i | _ => none
def absG : GD := fun ds => match ds with | [.int i] => some (.int (if i < 0 then -i else i)) | _ => none
theorem cl_abs : Cl Γ (fun xs H Q => ∃ i, xs = [.int i] ∧ Q (.int (if i < 0 then -i else i)) H) absG m .st := .s fun ds vs d H hv e Q q => by
  unfold absG at e
  split at e
  · cases e
    obtain ⟨x, rfl, h1⟩ := hv.one
    exact ⟨_, by rw [h1.toI], q _ H (Same.refl _) fun _ => dm_int⟩
  · cases e
def intG : GD := fun ds => match ds with | [.int i] => some (.int i) | [.bl b] => some (.int (if b then 1 else 0)) | _ => none
theorem cl_int1 : Cl Γ (fun xs H Q => (∃ i, xs = [.int i] ∧ Q (.int i) H) ∨ ∃ k, xs = [.bl k] ∧ Q (.int (if k then 1 else 0)) H) intG m .st := .s fun ds vs d H hv e Q q => by
  unfold intG at e
  split at e
  · cases e
    obtain ⟨x, rfl, h1⟩ := hv.one
    exact .inl ⟨_, by rw [h1.toI], q _ H (Same.refl _) fun _ => dm_int⟩
  · cases e
    obtain ⟨x, rfl, h1⟩ := hv.one
    exact .inr ⟨_, by rw [h1.toB], q _ H (Same.refl _) fun _ => dm_int⟩
  · cases e
def gcdG : GD := iiG fun i j => some (.int ((Nat.gcd i.natAbs j.natAbs : Nat) : Int))
theorem cl_gcd : Cl Γ rGcd gcdG m .st := .s fun ds vs d H hv e Q q => by
  obtain ⟨i, j, rfl, e⟩ := iiG_some e
  cases e
  exact ⟨i, j, dms_ii hv, q _ H (Same.refl _) fun _ => dm_int⟩
/-- len of a list, a tuple, a text, a dict -/
abbrev rLen (K : PySem.W.Frag) : RA := fun xs H Q => (∃ p ys, xs = [.ref p] ∧ (SqL K H p ys ∨ SqT K H p ys) ∧ Q (.int ys.length) H) ∨ (∃ z, xs = [.str z] ∧ z.length ≤ sizeLine ∧ Q (.int z.length) H) ∨ ∃ a kvs, xs = [V.ref a] ∧ H a = some (.dK kvs) ∧ Q (.int kvs.length) H
def lenG : GD := fun ds => match ds with
  | [.lst xs] => some (.int xs.length)
  | [.tup xs] => some (.int xs.length)
  | [.str z] => if z.length ≤ sizeLine then some (.int z.length) else none
  | _ => none
theorem call_lenA : CallR X (.builtin "len") (rLen X.K) := call_len_seq.or (call_len_str.or call_lenD)
theorem cl_len : Cl Γ (rLen Γ.K) lenG m .st := .s fun ds vs d H hv e Q q => by
  unfold lenG at e
  split at e
  · cases e
    obtain ⟨x, rfl, h1⟩ := hv.one
    simp only [Dm] at h1
    obtain ⟨a, ys, rfl, h4, h5⟩ := h1
    exact .inl ⟨a, ys, rfl, .inl h4.sq, by rw [h5.len]; exact q _ H (Same.refl _) fun _ => dm_int⟩
  · cases e
    obtain ⟨x, rfl, h1⟩ := hv.one
    simp only [Dm] at h1
    obtain ⟨a, ys, rfl, h4, h5⟩ := h1
    exact .inl ⟨a, ys, rfl, .inr h4.sq, by rw [h5.len]; exact q _ H (Same.refl _) fun _ => dm_int⟩
  · obtain ⟨hl, rfl⟩ := if_some e
    obtain ⟨x, rfl, h1⟩ := hv.one
    exact .inr (.inl ⟨_, by rw [h1.toS], hl, q _ H (Same.refl _) fun _ => dm_int⟩)
  · cases e
/-! lists of ints, of truths -/
def toInts : List D → Option (List Int)
  | [] => some []
  | .int i :: r => (toInts r).map (i :: ·)
  | _ :: _ => none
def toBls : List D → Option (List Bool)
  | [] => some []
  | .bl i :: r => (toBls r).map (i :: ·)
  | _ :: _ => none
theorem toInts_eq : ∀ {ds : List D} {ns : List Int}, toInts ds = some ns → ds = ns.map .int
  | [], _, h => by simp only [toInts] at h; cases h; rfl
  | d :: ds, ns, h => by
    cases d <;> simp only [toInts] at h <;> try cases h
    obtain ⟨r, e, rfl⟩ := Option.map_eq_some_iff.mp h
    rw [toInts_eq e]; rfl
theorem toBls_eq : ∀ {ds : List D} {ns : List Bool}, toBls ds = some ns → ds = ns.map .bl
  | [], _, h => by simp only [toBls] at h; cases h; rfl
  | d :: ds, ns, h => by
    cases d <;> simp only [toBls] at h <;> try cases h
    obtain ⟨r, e, rfl⟩ := Option.map_eq_some_iff.mp h
    rw [toBls_eq e]; rfl
@[simp] theorem toInts_map : ∀ ns : List Int, toInts (ns.map .int) = some ns
  | [] => rfl
  | n :: ns => by simp [toInts, toInts_map ns]
@[simp] theorem toBls_map : ∀ ns : List Bool, toBls (ns.map .bl) = some ns
  | [] => rfl
  | n :: ns => by simp [toBls, toBls_map ns]
theorem dms_ints : ∀ {ns : List Int} {vs : List V}, Dms Γ M H (ns.map .int) vs → vs = ns.map .int
  | [], _, h => by simpa [Dms] using h
  | n :: ns, vs, h => by
    obtain ⟨x, r, rfl, h1, h2⟩ := Dms.uncons h
    rw [h1.toI, dms_ints h2]; rfl
theorem dms_bls : ∀ {ns : List Bool} {vs : List V}, Dms Γ M H (ns.map .bl) vs → vs = ns.map .bl
  | [], _, h => by simpa [Dms] using h
  | n :: ns, vs, h => by
    obtain ⟨x, r, rfl, h1, h2⟩ := Dms.uncons h
    rw [h1.toB, dms_bls h2]; rfl
theorem dms_of_ints : ∀ {ns : List Int}, Dms Γ M H (ns.map .int) (ns.map .int)
  | [] => Dms.nil
  | n :: ns => Dms.cons dm_int dms_of_ints
def intsG (f : List Int → Option D) : GD := fun ds => match ds with | [.lst xs] => (toInts xs).bind f | _ => none
def blsG (f : List Bool → Option D) : GD := fun ds => match ds with | [.lst xs] => (toBls xs).bind f | _ => none
theorem intsG_some {f : List Int → Option D} {ds : List D} {vs : List V} {d : D} (h : intsG f ds = some d) (hv : Dms Γ M H ds vs) : ∃ a ns, vs = [.ref a] ∧ SqL Γ.K H a (ns.map V.int) ∧ f ns = some d := by
  unfold intsG at h
  split at h
  · obtain ⟨ns, e, h⟩ := Option.bind_eq_some_iff.mp h
    obtain ⟨x, rfl, h1⟩ := hv.one
    simp only [Dm] at h1
    obtain ⟨a, ys, rfl, h4, h5⟩ := h1
    rw [toInts_eq e] at h5
    rw [dms_ints h5] at h4
    exact ⟨a, ns, rfl, h4.sq, h⟩
  · cases h
theorem blsG_some {f : List Bool → Option D} {ds : List D} {vs : List V} {d : D} (h : blsG f ds = some d) (hv : Dms Γ M H ds vs) : ∃ a ns, vs = [.ref a] ∧ SqL Γ.K H a (ns.map V.bl) ∧ f ns = some d := by
  unfold blsG at h
  split at h
  · obtain ⟨ns, e, h⟩ := Option.bind_eq_some_iff.mp h
    obtain ⟨x, rfl, h1⟩ := hv.one
    simp only [Dm] at h1
    obtain ⟨a, ys, rfl, h4, h5⟩ := h1
    rw [toBls_eq e] at h5
    rw [dms_bls h5] at h4
    exact ⟨a, ns, rfl, h4.sq, h⟩
  · cases h
def sumG : GD := intsG fun ns => some (.int ns.sum)
def allG : GD := blsG fun bs => some (.bl (bs.all id))
def anyG : GD := blsG fun bs => some (.bl (bs.any id))
def maxL : List Int → Option Int
  | [] => none
  | n :: ns => some (ns.foldl max n)
def minL : List Int → Option Int
  | [] => none
  | n :: ns => some (ns.foldl min n)
theorem maxL_spec : ∀ (ns : List Int) (n m : Int), m ∈ n :: ns → (∀ y ∈ n :: ns, y ≤ m) → ns.foldl max n = m
  | [], n, m, h1, _ => by rw [List.mem_singleton.mp h1]; rfl
  | a :: ns, n, m, h1, h2 => by
    rw [List.foldl_cons]
    have ha := h2 a (by simp)
    have hn := h2 n (by simp)
    refine maxL_spec ns (max n a) m ?_ fun y hy => ?_
    · rcases List.mem_cons.mp h1 with e | h1
      · subst e; exact List.mem_cons.mpr (.inl (by omega))
      · rcases List.mem_cons.mp h1 with e | h1
        · subst e; exact List.mem_cons.mpr (.inl (by omega))
        · exact List.mem_cons_of_mem _ h1
    · rcases List.mem_cons.mp hy with e | hy
      · subst e; omega
      · exact h2 y (by simp [hy])
theorem minL_spec : ∀ (ns : List Int) (n m : Int), m ∈ n :: ns → (∀ y ∈ n :: ns, m ≤ y) → ns.foldl min n = m
  | [], n, m, h1, _ => by rw [List.mem_singleton.mp h1]; rfl
  | a :: ns, n, m, h1, h2 => by
    rw [List.foldl_cons]
    have ha := h2 a (by simp)
    have hn := h2 n (by simp)
    refine minL_spec ns (min n a) m ?_ fun y hy => ?_
    · rcases List.mem_cons.mp h1 with e | h1
      · subst e; exact List.mem_cons.mpr (.inl (by omega))
      · rcases List.mem_cons.mp h1 with e | h1
        · subst e; exact List.mem_cons.mpr (.inl (by omega))
        · exact List.mem_cons_of_mem _ h1
    · rcases List.mem_cons.mp hy with e | hy
      · subst e; omega
      · exact h2 y (by simp [hy])
def maxG : GD := intsG fun ns => (maxL ns).map .int
def minG : GD := intsG fun ns => (minL ns).map .int
theorem cl_sum : Cl Γ (rSum Γ.K) sumG m .st := .s fun ds vs d H hv e Q q => by
  obtain ⟨a, ns, rfl, h, e⟩ := intsG_some e hv
  cases e
  exact ⟨a, ns, rfl, h, q _ H (Same.refl _) fun _ => dm_int⟩
theorem cl_all : Cl Γ (rAll Γ.K) allG m .st := .s fun ds vs d H hv e Q q => by
  obtain ⟨a, ns, rfl, h, e⟩ := blsG_some e hv
  cases e
  exact ⟨a, ns, rfl, h, q _ H (Same.refl _) fun _ => dm_bl⟩
theorem cl_any : Cl Γ (rAny Γ.K) anyG m .st := .s fun ds vs d H hv e Q q => by
  obtain ⟨a, ns, rfl, h, e⟩ := blsG_some e hv
  cases e
  exact ⟨a, ns, rfl, h, q _ H (Same.refl _) fun _ => dm_bl⟩
theorem cl_max : Cl Γ (rMax Γ.K) maxG m .st := .s fun ds vs d H hv e Q q => by
  obtain ⟨a, ns, rfl, h, e⟩ := intsG_some e hv
  obtain ⟨k, e, rfl⟩ := Option.map_eq_some_iff.mp e
  cases ns with
  | nil => cases e
  | cons n ns =>
    cases e
    exact ⟨a, _, rfl, h, by simp, fun m h1 h2 => by rw [← maxL_spec ns n m h1 h2]; exact q _ H (Same.refl _) fun _ => dm_int⟩
theorem cl_min : Cl Γ (rMin Γ.K) minG m .st := .s fun ds vs d H hv e Q q => by
  obtain ⟨a, ns, rfl, h, e⟩ := intsG_some e hv
  obtain ⟨k, e, rfl⟩ := Option.map_eq_some_iff.mp e
  cases ns with
  | nil => cases e
  | cons n ns =>
    cases e
    exact ⟨a, _, rfl, h, by simp, fun m h1 h2 => by rw [← minL_spec ns n m h1 h2]; exact q _ H (Same.refl _) fun _ => dm_int⟩
/-! tuple(xs), list(xs) -/
def tupleG : GD := fun ds => match ds with | [.lst xs] => some (.tup xs) | [.tup xs] => some (.tup xs) | _ => none
def listG : GD := fun ds => match ds with | [.lst xs] => some (.lst xs) | [.tup xs] => some (.lst xs) | _ => none
abbrev rTupleOf (K : PySem.W.Frag) : RA := fun xs H Q => ∃ p ys, xs = [.ref p] ∧ ((SqL K H p ys ∧ ∀ l o, H l = none → o.dict = none → Q (.ref l) (upd H l (.frz o (.tup ys)))) ∨ (SqT K H p ys ∧ Q (.ref p) H))
abbrev rListOf (K : PySem.W.Frag) : RA := fun xs H Q => ∃ p ys, xs = [.ref p] ∧ (SqL K H p ys ∨ SqT K H p ys) ∧ ∀ l, H l = none → Q (.ref l) (upd H l (.lst ys))
theorem call_tupleF : CallR X (.type "tuple") (rTupleOf X.K) := by
  intro pins s σ H xs us Q I r h
  obtain ⟨p, ys, rfl, h⟩ := h
  obtain ⟨u, rfl, rx⟩ := vals1 r
  cases rx
  rcases h with ⟨hq, q⟩ | ⟨hq, q⟩
  · obtain ⟨its, r', pl, hz⟩ := I.list hq
    have hlen := r'.length
    refine call_tuple_list pl.isList (fun h' kp => ?_) (by simp only [List.size_toArray] <;> omega)
    have I1 : Inv X pins σ H { s with heap := h' } := I.kept (t' := s.toks) kp
    have I2 : Inv X pins σ (upd H h'.objs.size (.frz { cls := .type "tuple", data := .seq its.toArray } (.tup ys))) { s with heap := h'.push { cls := .type "tuple", data := .seq its.toArray } } :=
      I1.laid (t' := s.toks) (fun b o e => Heap.get?_push_of_some _ e) (Nat.le_refl _) (show ObjOk X.prog X.w _ _ _ (.frz _ (.tup ys)) from ⟨Heap.get?_push_size _ rfl, hz, its, r', PyProof.Rows.IsTup.new _ _⟩)
    exact ⟨.ref h'.objs.size, _, I2, rfl, q _ _ (I1.hok.fresh (Nat.le_refl _)) rfl⟩
  · obtain ⟨its, r', pl, hz⟩ := I.tuple hq
    exact call_tuple_same pl ⟨.ref p, H, I, rfl, q⟩
theorem rm_tupleOf : RM Γ (rTupleOf Γ.K) tupleG := fun M ds vs d H hM hv e Q q => by
  unfold tupleG at e
  split at e
  · cases e
    obtain ⟨x, rfl, h1⟩ := hv.one
    simp only [Dm] at h1
    obtain ⟨a, ys, rfl, h4, h5⟩ := h1
    refine ⟨a, ys, rfl, .inl ⟨h4.sq, fun l o hl ho => q _ _ (same_new hl) ?_⟩⟩
    simp only [Dm]
    exact ⟨l, ys, rfl, .new (fun z => hM l z hl) upd_same ho, Dms.mono (.of (same_new hl)) _ _ h5⟩
  · cases e
    obtain ⟨x, rfl, h1⟩ := hv.one
    have h0 := h1
    simp only [Dm] at h1
    obtain ⟨a, ys, rfl, h4, h5⟩ := h1
    exact ⟨a, ys, rfl, .inr ⟨h4.sq, q _ H (Same.refl _) h0⟩⟩
  · cases e
theorem rf_listOf : RF Γ (rListOf Γ.K) listG := fun M ds vs d H hv e Q q => by
  unfold listG at e
  split at e
  · cases e
    obtain ⟨x, rfl, h1⟩ := hv.one
    simp only [Dm] at h1
    obtain ⟨a, ys, rfl, h4, h5⟩ := h1
    refine ⟨a, ys, rfl, .inl h4.sq, fun l hl => q _ _ hl ?_⟩
    simp only [Tp]
    exact ⟨ys, upd_same, Dms.mono (.of (same_new hl)) _ _ h5⟩
  · cases e
    obtain ⟨x, rfl, h1⟩ := hv.one
    simp only [Dm] at h1
    obtain ⟨a, ys, rfl, h4, h5⟩ := h1
    refine ⟨a, ys, rfl, .inr h4.sq, fun l hl => q _ _ hl ?_⟩
    simp only [Tp]
    exact ⟨ys, upd_same, Dms.mono (.of (same_new hl)) _ _ h5⟩
  · cases e
/-- a new thing is one of the same parts, too -/
theorem RF.rm {r : RA} {g : GD} (h : RF Γ r g) : RM Γ r g := fun M ds vs d H hM hv e Q q =>
  h M ds vs d H hv e Q fun x o hx t => q _ _ (same_new hx) (t.dm fun z => hM x z hx)
theorem cl_tuple : Cl Γ (rTupleOf Γ.K) tupleG .st .st := .m rm_tupleOf
theorem cl_tupleN : Cl Γ (rTupleOf Γ.K) tupleG m .now := .n rm_tupleOf
theorem cl_list : Cl Γ (rListOf Γ.K) listG .st .fr := .f rf_listOf
theorem cl_listN : Cl Γ (rListOf Γ.K) listG m .now := .n rf_listOf.rm
/-! isinstance of a built-in class -/
def tyD : D → Option String
  | .non => some "NoneType"
  | .bl _ => some "bool"
  | .int _ => some "int"
  | .str _ => some "str"
  | .lst _ => some "list"
  | .tup _ => some "tuple"
  | .dk _ => some "dict"
  | .dt _ => some "dict"
  | _ => none
theorem dm_ty {n : String} (h : Dm Γ M H d v) (e : tyD d = some n) (hf : (∀ ks, d ≠ .dt ks)) : TyX Γ.K H v (.type n) := by
  cases d <;> simp only [tyD] at e <;> (try cases e) <;> simp only [Dm] at h
  · subst h; exact .base .non
  · subst h; exact .base (.bl _)
  · subst h; exact .base (.int _)
  · subst h; exact .base (.str _)
  · obtain ⟨a, xs, rfl, h1, _⟩ := h
    rcases h1 with ⟨_, h | ⟨o, h⟩⟩ | h
    · exact .base (.lst h)
    · exact .base (.frz h)
    · obtain ⟨its, n, e, _⟩ := h
      exact .kList e rfl
  · obtain ⟨a, xs, rfl, h1, _⟩ := h
    rcases h1 with ⟨_, ⟨o, _, h⟩ | ⟨_, h⟩⟩ | ⟨o, its, n, h, hc, _⟩
    · exact .fTuple h
    · exact .base (.tup h)
    · exact .kTuple h hc
  · obtain ⟨a, xs, rfl, _, h1, _⟩ := h
    rcases h1 with h | ⟨o, h⟩
    · exact .base (.dK h)
    · exact .fDict h
  · exact absurd rfl (hf _)
def isDt : D → Bool
  | .dt _ => true
  | _ => false
theorem isDt_ne (h : isDt d = false) (ks) : d ≠ .dt ks := fun e => by subst e; cases h
def isiG : GD := fun ds => match ds with
  | [d, .oth (.ty n)] => if isDt d = false then (tyD d).bind fun t => (kitB t n).map .bl else none
  | _ => none
def isi2G : GD := fun ds => match ds with
  | [d, .tup [.oth (.ty n1), .oth (.ty n2)]] => if isDt d = false then (tyD d).bind fun t => (kitB t n1).bind fun b1 => (kitB t n2).map fun b2 => .bl (b1 || b2) else none
  | _ => none
theorem Dm.toO {u : V} (h : Dm Γ M H (.oth u) v) : v = u := by simpa [Dm] using h
theorem cl_isi : Cl Γ (rIsi Γ.K) isiG m .st := .s fun ds vs d H hv e Q q => by
  unfold isiG at e
  split at e
  · split at e
    · rename_i d n hd
      obtain ⟨t, e1, e⟩ := Option.bind_eq_some_iff.mp e
      obtain ⟨b, e2, rfl⟩ := Option.map_eq_some_iff.mp e
      obtain ⟨x, r, rfl, h1, h2⟩ := hv.uncons
      obtain ⟨y, rfl, h3⟩ := h2.one
      exact ⟨x, .ty n, _, _, b, by rw [h3.toO], .ty n, dm_ty h1 e1 (isDt_ne hd), kit_ty e2, q _ H (Same.refl _) fun _ => dm_bl⟩
    · cases e
  · cases e
def rIsiR (K : PySem.W.Frag) : RA := fun xs H Q => ∃ (x : V) (tp : Addr) (cs : List V) (t : Value) (us : List Value) (b : Bool), xs = [x, .ref tp] ∧ Rd H tp (.tup cs) ∧ Paired ClsV cs us ∧ TyX K H x t ∧ PySem.W.kitAny K t us = some b ∧ Q (.bl b) H
theorem call_isiR : CallR X (.builtin "isinstance") (rIsiR X.K) := by
  intro pins s σ H xs us Q I r h
  obtain ⟨x, tp, cs, t, ws, b, rfl, hT, k, ty, e, q⟩ := h
  obtain ⟨u1, u2, rfl, r1, r2⟩ := vals2 r
  cases (show u2 = Value.ref tp from r2)
  obtain ⟨P, Z, p, hx⟩ := kit_of I r1 ty
  obtain ⟨_, its, rv, o, h1, h2, n, h3⟩ := (show ObjOk X.prog X.w H s.heap tp (.tup cs) from hT.ok I.hok)
  have e3 := ClsV.all k rv
  subst e3
  obtain ⟨oc, od, dt, sl⟩ := o
  simp only at h2 h3
  subst h2 h3
  exact PySem.W.kia_tup Z I.kIn p h1 e hx fun tk => ⟨.bl b, H, I.tok tk, rfl, q⟩
abbrev rIsi2 (K : PySem.W.Frag) : RA := fun xs H Q => rIsiR K xs H Q ∨ rIsiK K xs H Q
theorem call_isi2 : CallR X (.builtin "isinstance") (rIsi2 X.K) := call_isiR.or call_isiK
theorem cl_isi2 : Cl Γ (rIsi2 Γ.K) isi2G m .st := .s fun ds vs d H hv e Q q => by
  unfold isi2G at e
  split at e
  · split at e
    · rename_i d n1 n2 hd
      obtain ⟨t, e1, e⟩ := Option.bind_eq_some_iff.mp e
      obtain ⟨b1, e2, e⟩ := Option.bind_eq_some_iff.mp e
      obtain ⟨b2, e3, rfl⟩ := Option.map_eq_some_iff.mp e
      obtain ⟨x, r, rfl, h1, h2⟩ := hv.uncons
      obtain ⟨y, rfl, h3⟩ := h2.one
      simp only [Dm] at h3
      obtain ⟨p, xs, rfl, h4, h5⟩ := h3
      simp only [Dms, Dm] at h5
      obtain ⟨_, _, rfl, rfl, _, _, rfl, rfl, rfl⟩ := h5
      have kit : PySem.W.kitAny Γ.K (.type t) [.type n1, .type n2] = some (b1 || b2) :=
        kitAny_cons (kit_ty e2) (fun e => kitAny_cons (kit_ty e3) (fun e2 => by rw [e, e2]; exact kitAny_nil) (fun e2 => by rw [e2]; simp)) (fun e => by rw [e]; rfl)
      have h4 : Rd H p (.tup [V.ty n1, V.ty n2]) ∨ WrT Γ p [V.ty n1, V.ty n2] := by
        rcases h4 with ⟨_, h4 | ⟨_, h4⟩⟩ | h4
        · exact .inl h4.rd
        · exact .inl (.inl h4)
        · exact .inr h4
      rcases h4 with h4 | ⟨o, its, n, ho, hc, hdat, hsz, hvs, _⟩
      · exact .inl ⟨x, p, [.ty n1, .ty n2], _, [.type n1, .type n2], b1 || b2, rfl, h4, .cons (.ty n1) (.cons (.ty n2) .nil), dm_ty h1 e1 (isDt_ne hd), kit, q _ H (Same.refl _) fun _ => dm_bl⟩
      · obtain ⟨oc, od, odat, osl⟩ := o
        obtain rfl : oc = _ := hc
        obtain rfl : odat = _ := hdat
        have hits : its.toList = [.type n1, .type n2] := by
          revert hvs; generalize its.toList = l; intro hvs
          cases hvs with
          | cons r1 hvs =>
            cases hvs with
            | cons r2 hvs => cases hvs; rw [r1, r2]
        refine .inr ⟨x, p, od, [.type n1, .type n2], n, osl, _, b1 || b2, rfl, ?_, dm_ty h1 e1 (isDt_ne hd), kit, q _ H (Same.refl _) fun _ => dm_bl⟩
        rw [← hits, Array.toArray_toList]; exact ho
    · cases e
  · cases e
end Vl

set_option Elab.async false
set_option linter.all false
set_option maxRecDepth 100000
set_option maxHeartbeats 2000000
/-! statements: what each computes -/
namespace Vl
open PySem PySem.Spec L2
variable {c : Ctx} {M N : Addr → Prop} {s s' s1 s2 : S} {σ σ1 σ2 : St} {H H' H1 H2 : Hp} {v : V} {d : D} {i : Nat} {X : Cx} {E : XK} {e a b : Expr} {f fa fb : PM D} {p q pa pb : Bool} {m ma mb : Md} {t ta tb te : TE} {pos : Pos} {ts tr : TS} {g g1 g2 : S → SO} {D0 : Ends}

theorem none_back (u : Up H H') {a : Addr} (h : H' a = none) : H a = none := by
  cases q : H a with
  | none => rfl
  | some o => exact absurd h (u a (by rw [q]; intro z; cases z))
theorem Fo.trans (h1 : Fo c s σ H s1 σ1 H1) (h2 : Fo c s1 σ1 H1 s2 σ2 H2) : Fo c s σ H s2 σ2 H2 where
  ex := fun a o n h => h2.ex a o (fun z => (h1.gr a z).elim n fun y => by rw [h] at y; cases y) (h1.ex a o n h)
  up := h1.up.trans h2.up
  gr := fun a z => (h2.gr a z).elim (h1.gr a) fun y => .inr (none_back h1.up y)
theorem Fo.refl : Fo c s σ H s σ H := ⟨ExM.refl, fun _ z => z, fun _ z => .inl z⟩
theorem Fo.of (f : Fr p (Own c s σ) H H') (hm : ∀ a, Own c s' σ a → Own c s σ a) : Fo c s σ H s' σ H' := ⟨f.ex, f.up, fun a z => .inl (hm a z)⟩
theorem Mrt.back {σ' : St} (h : Mrt c m s1 σ1 H1 s' σ' H' d v) (o : Fo c s σ H s1 σ1 H1) : Mrt c m s σ H s' σ' H' d v := by
  cases m with
  | now => exact h
  | st => exact h
  | fr =>
    obtain ⟨a, h1, h2, h3, h4⟩ := h
    exact ⟨a, h1, h2, h3.elim (o.gr a) fun y => .inr (none_back o.up y), h4⟩
/-- what is wanted from a later point on -/
theorem PoS.next {o : SO} (q : PoS c E m s σ H D0 o) (h : Fo c s σ H s1 σ1 H1) : PoS c E m s1 σ1 H1 D0 o := by
  cases o with
  | nx s' => exact fun σ' H' L f => q σ' H' L (h.trans f)
  | brk s' => exact fun σ' H' L f => q σ' H' L (h.trans f)
  | ctn s' => exact fun σ' H' L f => q σ' H' L (h.trans f)
  | ret d s' => exact fun σ' v H' L f r => q σ' v H' L (h.trans f) (r.back h)
  | exc x s' => exact fun σ' cls dd H' L f r => q σ' cls dd H' L (h.trans f) r
  | no => exact q
theorem exc_fo {x : Exc} (q : ∀ σ' cls dd H', Lv c s' σ' H' → Fo c s σ H s' σ' H' → Xr c s' σ' x cls dd H' → E cls dd H') :
    ∀ cls dd H', Lv c s' σ H' → Fr false (Own c s σ) H H' → (∀ a, Own c s' σ a → Own c s σ a) → Xr c s' σ x cls dd H' → E cls dd H' := fun cls dd H' L f m x => q σ cls dd H' L (.of f m) x

/-! ### blocks, return, if -/
def seqM (f g : S → SO) : S → SO := fun s => match f s with | .nx s' => g s' | o => o
def nxM : S → SO := .nx
def brkM : S → SO := .brk
def ctnM : S → SO := .ctn
def noM' : S → SO := fun _ => .no
def retM (f : PM D) : S → SO := fun s => match f s with | .ok d s' => .ret d s' | .exc x s' => .exc x s' | .no => .no
def retNM : S → SO := fun s => .ret .non s
def dropM (f : PM D) : S → SO := fun s => match f s with | .ok _ s' => .nx s' | .exc x s' => .exc x s' | .no => .no
def setM (i : Nat) (f : PM D) : S → SO := fun s => match f s with | .ok d s' => .nx (s'.set i (some d)) | .exc x s' => .exc x s' | .no => .no
def ifM (g : PM Bool) (g1 g2 : S → SO) : S → SO := fun s => match g s with | .ok b s' => if b = true then g1 s' else g2 s' | .exc x s' => .exc x s' | .no => .no
theorem vs_next : VS c E m tNext nxM := ⟨fun M0 s σ H L D0 q => q σ H L Fo.refl⟩
theorem vs_brk : VS c E m tBreak brkM := ⟨fun M0 s σ H L D0 q => q σ H L Fo.refl⟩
theorem vs_ctn : VS c E m tCont ctnM := ⟨fun M0 s σ H L D0 q => q σ H L Fo.refl⟩
theorem vs_seq (h1 : VS c E m ts g1) (h2 : VS c E m tr g2) : VS c E m (tSeq ts tr) (seqM g1 g2) := ⟨fun M0 s σ H L D0 q => h1.run M0 s σ H L _ (by
  unfold seqM at q
  cases e : g1 s with
  | nx s1 =>
    rw [e] at q
    exact fun σ1 H1 L1 f1 => h2.run M0 s1 σ1 H1 L1 D0 (PoS.next q f1)
  | brk s1 => rw [e] at q; exact q
  | ctn s1 => rw [e] at q; exact q
  | ret d s1 => rw [e] at q; exact q
  | exc x s1 => rw [e] at q; exact q
  | no => rw [e] at q; exact q)⟩
theorem Mdr.rt (h : Mdr c m s H s' σ H' d v) : Mrt c m s σ H s' σ H' d v := by cases m <;> exact h
theorem vs_ret (h : VE c E p m te f) : VS c E m (tRet te) (retM f) := ⟨fun M0 s σ H L D0 q => h.run M0 s σ H L _ (by
  unfold retM at q
  cases e : f s with
  | ok d s1 =>
    rw [e] at q
    exact fun v H1 f1 L1 m1 h1 => q σ v H1 L1 (.of f1 m1) h1.rt
  | exc x s1 => rw [e] at q; exact exc_fo q
  | no => rw [e] at q; exact q)⟩
theorem vs_retN (hm : m = .st) : VS c E m tRetN retNM := ⟨fun M0 s σ H L D0 q => q σ .non H L Fo.refl (by subst hm; show Dm _ _ _ _ _; exact dm_non)⟩
theorem vs_drop (h : VE c E p ma te f) : VS c E m (tDrop te) (dropM f) := ⟨fun M0 s σ H L D0 q => h.run M0 s σ H L _ (by
  unfold dropM at q
  cases e : f s with
  | ok d s1 =>
    rw [e] at q
    exact fun v H1 f1 L1 m1 h1 => q σ H1 L1 (.of f1 m1)
  | exc x s1 => rw [e] at q; exact exc_fo q
  | no => rw [e] at q; exact q)⟩
theorem vs_if {tt : TT} {k : PM Bool} (h : VT c E p tt k) (h1 : VS c E m ts g1) (h2 : VS c E m tr g2) : VS c E m (tIfS tt ts tr) (ifM k g1 g2) := ⟨fun M0 s σ H L D0 q => h.run M0 s σ H L _ (by
  unfold ifM at q
  cases e : k s with
  | ok b s1 =>
    rw [e] at q
    intro H1 f1 L1 m1
    cases b with
    | true => exact h1.run M0 s1 σ H1 L1 D0 (PoS.next q (.of f1 m1))
    | false => exact h2.run M0 s1 σ H1 L1 D0 (PoS.next q (.of f1 m1))
  | exc x s1 => rw [e] at q; exact exc_fo q
  | no => rw [e] at q; exact q)⟩
/-! a name is stored -/
theorem fo_set (f : Fr p (Own c s σ) H H') (hm : ∀ a, Own c s' σ a → Own c s σ a) (h : c.ow i = false) : Fo c s σ H (s'.set i (some d)) (σ.set i (some v)) H' := ⟨f.ex, f.up, fun a z => .inl (hm a ((own_set h a).mp z))⟩
theorem Lw.same (L : Lw c M s σ H) (h : ∀ a, M a → Mo c s σ a) : Lv c s σ H := L.lv
theorem vs_set (h : VE c E p .st te f) (ho : c.ow i = false) : VS c E m (tAsg te (gName i)) (setM i f) := ⟨fun M0 s σ H L D0 q => h.run M0 s σ H L _ (by
  unfold setM at q
  cases e : f s with
  | ok d s1 =>
    rw [e] at q
    exact fun v H1 f1 L1 m1 h1 => q _ H1 (L1.setSh (c := c.at M0) ho h1).lv (fo_set f1 m1 ho)
  | exc x s1 => rw [e] at q; exact exc_fo q
  | no => rw [e] at q; exact q)⟩
theorem vs_setO (h : VE c E p .fr te f) (ho : c.ow i = true) (hi : c.io i = none) : VS c E m (tAsg te (gName i)) (setM i f) := ⟨fun M0 s σ H L D0 q => h.run M0 s σ H L _ (by
  unfold setM at q
  cases e : f s with
  | ok d s1 =>
    rw [e] at q
    rintro v H1 f1 L1 m1 ⟨a, rfl, hn, hf, L2, t⟩
    refine q _ H1 (L2.setOw (c := c.at M0) hi ho hn (.inr rfl) t).lv ⟨f1.ex, f1.up, fun b z => ?_⟩
    obtain ⟨j, e', hj, hs, hσ⟩ := z
    rcases get_set hs with ⟨ej, ed, hl⟩ | ⟨ne, hs⟩
    · subst ej
      rw [set_eq (by rw [← L1.len]; exact hl)] at hσ; cases hσ
      exact hf
    · rw [set_ne ne] at hσ
      exact .inl (m1 b ⟨j, e', hj, hs, hσ⟩)
  | exc x s1 => rw [e] at q; exact exc_fo q
  | no => rw [e] at q; exact q)⟩
/-- a name gives away what it owns -/
def movS (i : Nat) : PM D := fun s => match s[i]? with | some (some d) => .ok d (s.set i none) | _ => .no
theorem own_kill {u : Option V} : ∀ a, Own c (s.set i none) (σ.set i u) a → Own c s σ a := fun a ⟨j, e, hj, hs, hσ⟩ => by
  rcases get_set hs with ⟨_, ed, _⟩ | ⟨ne, hs⟩
  · cases ed
  · rw [set_ne ne] at hσ; exact ⟨j, e, hj, hs, hσ⟩
theorem own_kill' : ∀ a, Own c (s.set i none) σ a → Own c s σ a := fun a ⟨j, e, hj, hs, hσ⟩ => by
  rcases get_set hs with ⟨_, ed, _⟩ | ⟨ne, hs⟩
  · cases ed
  · exact ⟨j, e, hj, hs, hσ⟩
/-- a slot is forgotten, its value stays unread -/
theorem Lw.kill' (L : Lw c M s σ H) (hi : c.io i = none) : Lw c M (s.set i none) σ H where
  len := by simpa using L.len
  sup := fun a z => L.sup a (by
    rcases z with z | z
    · exact .inl z
    · exact .inr (own_kill' a z))
  sh := fun j e h1 h2 => by
    rcases get_set h1 with ⟨_, ed, _⟩ | ⟨ne, h1⟩
    · cases ed
    · exact L.sh j e h1 h2
  own := fun j e h1 h2 => by
    rcases get_set h1 with ⟨_, ed, _⟩ | ⟨ne, h1⟩
    · cases ed
    · exact L.own j e h1 h2
  inj := fun j k a e f h1 h2 h3 h4 h5 h6 => by
    rcases get_set h3 with ⟨_, ed, _⟩ | ⟨n1, h3⟩
    · cases ed
    rcases get_set h4 with ⟨_, ed, _⟩ | ⟨n2, h4⟩
    · cases ed
    exact L.inj j k a e f h1 h2 h3 h4 h5 h6
  m0 := L.m0
  iof := fun j a hj => by
    have ne : j ≠ i := fun z => by rw [z, hi] at hj; cases hj
    rw [set_ne ne]
    exact L.iof j a hj
theorem ve_mov (ho : c.ow i = true) (hi : c.io i = none) : VE c E false .fr (tVar i) (movS i) := ⟨fun z => (nomatch z), fun M0 s σ H L Q q => by
  unfold movS at q
  cases e : s[i]? with
  | none => rw [e] at q; exact q.elim
  | some x =>
    cases x with
    | none => rw [e] at q; exact q.elim
    | some d =>
      rw [e] at q
      obtain ⟨a, ea, na, t⟩ := L.own i d e ho
      have hn : ¬ Mo (c.at M0) (s.set i none) σ a := by
        rintro (z | ⟨j, e', hj, hs, hσ⟩)
        · exact na z
        · rcases get_set hs with ⟨_, ed, _⟩ | ⟨ne, hs⟩
          · cases ed
          · exact ne (L.inj j i a e' d hj ho hs e hσ ea)
      have hw : Own (c.at M0) s σ a := ⟨i, d, ho, e, ea⟩
      have sub : ∀ b, plus (Mo (c.at M0) (s.set i none) σ) a b → Mo (c.at M0) s σ b := fun b z => by
        rcases z with z | z
        · exact z.elim .inl fun y => .inr (own_kill' b y)
        · subst z; exact .inr hw
      refine ⟨_, ea, q _ H Fr.refl ((L.kill' (c := c.at M0) hi).lv) (fun b z => own_kill' b z) ⟨a, rfl, hn, .inl hw, ?_, t.anti fun b z _ => sub b z⟩⟩
      refine (L.kill' (c := c.at M0) hi).anti (fun b z _ => sub b z) fun b z => .inl z⟩
theorem me_mov {x : Str} (h : PE X (.Name x pos) (tVar i)) (ho : c.ow i = true := by rfl) (hi : c.io i = none := by rfl) : ME X c E false .fr (.Name x pos) (movS i) := ⟨_, h, ve_mov ho hi⟩

/-! ### the statements' rules -/
variable {st : Stmt} {sts r1 r2 : List Stmt} {x : Str} {pos' : Pos}
theorem mss_nil : MSs X c E m [] nxM := ⟨_, pss_nil, vs_next⟩
theorem mss_one (h : MS X c E m st g) : MSs X c E m [st] g := let ⟨_, x, y⟩ := h.ex; ⟨_, pss_one x, y⟩
theorem mss_cons (h : MS X c E m st g1) (h2 : MSs X c E m sts g2) : MSs X c E m (st :: sts) (seqM g1 g2) := let ⟨_, x, y⟩ := h.ex; let ⟨_, x2, y2⟩ := h2.ex; ⟨_, pss_cons x x2, vs_seq y y2⟩
theorem ms_pass : MS X c E m (.Pass pos) nxM := ⟨_, ps_pass, vs_next⟩
theorem ms_break : MS X c E m (.Break pos) brkM := ⟨_, ps_break, vs_brk⟩
theorem ms_continue : MS X c E m (.Continue pos) ctnM := ⟨_, ps_continue, vs_ctn⟩
theorem ms_doc {x j pos pos'} : MS X c E m (.Expr (.Constant (.str x) j pos) pos') nxM := ⟨_, ps_doc, vs_next⟩
theorem ms_ret (h : ME X c E p m e f) : MS X c E m (.Return (some e) pos) (retM f) := let ⟨_, x, y⟩ := h.ex; ⟨_, ps_ret x, vs_ret y⟩
theorem ms_retN : MS X c E .st (.Return none pos) retNM := ⟨_, ps_retN, vs_retN rfl⟩
theorem ms_expr (h : ME X c E p ma e f) (hs : swapsWith e none pos.line X.env = pure false := by rfl) : MS X c E m (.Expr e pos) (dropM f) := let ⟨_, x, y⟩ := h.ex; ⟨_, ps_expr x hs, vs_drop y⟩
theorem ms_if {k : Expr} {kb : PM Bool} (h : MT X c E p k kb) (h1 : MSs X c E m r1 g1) (h2 : MSs X c E m r2 g2) : MS X c E m (.If k r1 r2 pos) (ifM kb g1 g2) := let ⟨_, x, y⟩ := h.ex; let ⟨_, x1, y1⟩ := h1.ex; let ⟨_, x2, y2⟩ := h2.ex; ⟨_, ps_if x x1 x2, vs_if y y1 y2⟩
theorem ms_never : MS X c E m st noM' := ⟨_, ps_never, ⟨fun _ _ _ _ _ _ q => q⟩⟩
theorem mss_never : MSs X c E m sts noM' := ⟨_, pss_never, ⟨fun _ _ _ _ _ _ q => q⟩⟩
theorem ms_set (hN : X.N.Nodup) (hi : X.N[i]? = some x) (hx : Loc X.env.scope x) (h : ME X c E p .st e f) (ho : c.ow i = false := by rfl) (hs : swapsWith e (some (.Name x pos')) pos.line X.env = pure false := by rfl) (hf : X.fn x = true ∨ X.env.scope.names.lookup x = some .local := by first | exact .inl rfl | exact .inr rfl | assumption) :
    MS X c E m (.Assign [.Name x pos'] e pos) (setM i f) := let ⟨_, y1, y2⟩ := h.ex; ⟨_, ps_set hN hi hx y1 hs hf, vs_set y2 ho⟩
theorem ms_setO (hN : X.N.Nodup) (hi : X.N[i]? = some x) (hx : Loc X.env.scope x) (h : ME X c E p .fr e f) (ho : c.ow i = true := by rfl) (hio : c.io i = none := by rfl) (hs : swapsWith e (some (.Name x pos')) pos.line X.env = pure false := by rfl) (hf : X.fn x = true ∨ X.env.scope.names.lookup x = some .local := by first | exact .inl rfl | exact .inr rfl | assumption) :
    MS X c E m (.Assign [.Name x pos'] e pos) (setM i f) := let ⟨_, y1, y2⟩ := h.ex; ⟨_, ps_set hN hi hx y1 hs hf, vs_setO y2 ho hio⟩

/-! ### what is owned is changed: a method of it -/
abbrev GM := D → List D → Option (D × D)
def RMut (Γ : KC) (T : String) (r : V → List V → Hp → VK → Prop) (gm : GM) : Prop := ∀ M a d0 ds vs res d1 H, M a → Tp Γ M H d0 a → Dms Γ M H ds vs → gm d0 ds = some (res, d1) → ∀ Q : VK, (∀ v o, MutO o → Tp Γ M (upd H a o) d1 a → Dm Γ M (upd H a o) res v → Q v (upd H a o)) → r (.ref a) vs H Q
/-- o.m(args), o the name of slot i, T its built-in class -/
def mutM (T : String) (i : Nat) (gm : GM) (fl : PM (List D)) : PM D := fun s => match s[i]? with
  | some (some d0) => if tyD d0 = some T then (match fl s with
    | .ok ds s1 => (match s1[i]? with
      | some (some d1) => (match gm d1 ds with | some (r, d2) => .ok r (s1.set i (some d2)) | none => .no)
      | _ => .no)
    | .exc x s1 => .exc x s1
    | .no => .no) else .no
  | _ => .no
theorem tp_tyV {T : String} {K : PySem.W.Frag} {a : Addr} {Γ : KC} (t : Tp Γ M H d a) (h : tyD d = some T) : tyV Γ.K T (.ref a) H := by
  cases d <;> simp only [Tp] at t <;> simp only [tyD] at h <;> cases h
  · obtain ⟨xs, e, _⟩ := t; exact .inl ⟨rfl, xs, .inl (.inl e)⟩
  · obtain ⟨xs, e, _⟩ := t; exact .inr (.inr (.inl ⟨rfl, .inl ⟨xs, e⟩⟩))
  · obtain ⟨xs, e, _⟩ := t; exact .inr (.inr (.inl ⟨rfl, .inr ⟨xs, e⟩⟩))
theorem ve_mut {T : String} {r : V → List V → Hp → VK → Prop} {gm : GM} {tl : TA} {fl : PM (List D)} (h : VA c E p .st tl fl) (hr : RMut c.Γ T r gm) (ho : c.ow i = true) : VE c E false .st (tBM c.Γ.K T r (tVar i) tl) (mutM T i gm fl) := ⟨fun z => (nomatch z), fun M0 s σ H L Q q => by
  unfold mutM at q
  cases e0 : s[i]? with
  | none => rw [e0] at q; exact q.elim
  | some x0 =>
    cases x0 with
    | none => rw [e0] at q; exact q.elim
    | some d0 =>
      rw [e0] at q
      dsimp only at q
      split at q
      · rename_i hT
        obtain ⟨a, ea, na, t0⟩ := L.own i d0 e0 ho
        refine ⟨_, ea, tp_tyV (K := c.Γ.K) t0 hT, h.run M0 s σ H L _ ?_⟩
        cases e1 : fl s with
        | no => rw [e1] at q; exact q
        | exc x s1 => rw [e1] at q; exact q
        | ok ds s1 =>
          rw [e1] at q
          dsimp only at q
          intro vs H1 f1 L1 m1 h1
          cases e2 : s1[i]? with
          | none => rw [e2] at q; exact q.elim
          | some x1 =>
            cases x1 with
            | none => rw [e2] at q; exact q.elim
            | some d1 =>
              rw [e2] at q
              dsimp only at q
              cases e3 : gm d1 ds with
              | none => rw [e3] at q; exact q.elim
              | some rd =>
                obtain ⟨res, d2⟩ := rd
                rw [e3] at q
                obtain ⟨b, eb, nb, t1⟩ := L1.own i d1 e2 ho
                rw [ea] at eb; cases eb
                have hw : Own (c.at M0) s1 σ a := ⟨i, d1, ho, e2, ea⟩
                refine hr (Mo (c.at M0) s1 σ) a d1 ds vs res d2 H1 (.inr hw) t1 h1 e3 Q fun v o mo t2 hv => ?_
                have mono := mo_put (c := c.at M0) (σ := σ) (d' := d2) e2
                have ex : ExM (Own (c.at M0) s1 σ) H1 (upd H1 a o) := exm_upd hw
                have up : Up H1 (upd H1 a o) := fun b hb z => by
                  by_cases y : b = a
                  · subst y; rw [upd_same] at z; cases z
                  · rw [upd_ne y] at z; exact hb z
                refine q v _ ?_ (L1.put (c := c.at M0) ho e2 ea mo t2).lv (fun b z => m1 b ((own_put e2 b).mp z)) ?_
                · have z := f1.and (q := false) (.mk ex up) m1
                  rwa [Bool.and_false] at z
                · show Dm _ (Mo (c.at M0) (s1.set i (some d2)) σ) _ _ _
                  exact Dm.anti (fun b z _ => (mono b).mp z) res v hv
      · exact q.elim⟩
variable {o : Expr} {es : List Expr} {name : Str} {apos cpos : Pos} {T id : String} {rm : V → List V → Hp → VK → Prop} {gm : GM} {fl : PM (List D)}
theorem me_mut (pa' : PlainAttrs T) (slot : Slot T name id) (hty : typeOf (.builtin id) = pure (.type "method_descriptor")) (hm : MtR X id rm) (ho : PE X o (tVar i)) (ha : MA X c E p .st (e :: es) fl) (hr : RMut c.Γ T rm gm) (hw : c.ow i = true := by rfl) (hK : X.K = c.Γ.K := by rfl)
    (hbase : attributeBase o name X.env (eval o X.env) = eval o X.env := by rfl)
    (hfew : ((backTo cpos (starEach (e :: es) X.env)).all (fun x => !x.1) && (backToKw cpos (keywordEach [] X.env)).all (fun x => x.1.isSome)
      && decide ((e :: es).length + ([] : List Keyword).length + (if ([] : List Keyword).isEmpty then 0 else 1) < 30)) = true := by rfl)
    (hline : (apos.endLine == cpos.line) = true := by rfl) (hs : starEach (e :: es) X.env = (false, eval e X.env) :: starEach es X.env := by rfl) (hplain : (backTo cpos (starEach es X.env)).any (·.1) = false := by rfl) :
    ME X c E false .st (.Call (.Attribute o name apos) (e :: es) [] cpos) (mutM T i gm fl) :=
  let ⟨_, y1, y2⟩ := ha.ex; ⟨_, by rw [← hK]; exact pe_bm pa' slot hty hm ho y1 hbase hfew hline hs hplain, ve_mut y2 hr hw⟩
theorem me_mut0 (pa' : PlainAttrs T) (slot : Slot T name id) (hty : typeOf (.builtin id) = pure (.type "method_descriptor")) (hm : MtR X id rm) (ho : PE X o (tVar i)) (hr : RMut c.Γ T rm gm) (hw : c.ow i = true := by rfl) (hK : X.K = c.Γ.K := by rfl)
    (hbase : attributeBase o name X.env (eval o X.env) = eval o X.env := by rfl) (hline : (apos.endLine == cpos.line) = true := by rfl) :
    ME X c E false .st (.Call (.Attribute o name apos) [] [] cpos) (mutM T i gm (pur [])) :=
  ⟨tBM c.Γ.K T rm (tVar i) tNil, by rw [← hK]; exact pe_bm0 pa' slot hty hm ho hbase hline, ve_mut (VA.nil (by decide)) hr hw⟩
def appG : GM := fun d ds => match d, ds with | .lst xs, [y] => if xs.length < 1000000 then some (.non, .lst (xs ++ [y])) else none | _, _ => none
theorem line6 {n : Nat} (h : n < 1000000) : n < sizeLine := Nat.lt_of_lt_of_le h (by decide)
theorem rm_append {Γ : KC} : RMut Γ "list" rAppend appG := fun M a d0 ds vs res d1 H hM t hv e Q q => by
  unfold appG at e
  split at e
  · obtain ⟨hl, e⟩ := if_some e
    cases e
    simp only [Tp] at t
    obtain ⟨xs, e1, h1⟩ := t
    obtain ⟨y, rfl, hy⟩ := hv.one
    have ex : ExM M H (upd H a (.lst (xs ++ [y]))) := exm_upd hM
    refine ⟨a, xs, y, rfl, rfl, e1, by rw [h1.len]; exact line6 hl, q _ _ trivial ?_ dm_non⟩
    simp only [Tp]
    exact ⟨_, upd_same, (Dms.mono ex _ _ h1).append (Dms.cons (Dm.mono ex _ _ hy) Dms.nil)⟩
  · cases e
def popG : GM := fun d ds => match d, ds with | .lst xs, [] => (xs[xs.length - 1]?).map fun y => (y, .lst xs.dropLast) | _, _ => none
theorem Dms.dropLast {Γ : KC} : ∀ {ds : List D} {xs : List V}, Dms Γ M H ds xs → Dms Γ M H ds.dropLast xs.dropLast := fun {ds xs} h => by
  rw [List.dropLast_eq_take, List.dropLast_eq_take, h.len]; exact h.take _
theorem rm_pop {Γ : KC} : RMut Γ "list" rPop popG := fun M a d0 ds vs res d1 H hM t hv e Q q => by
  unfold popG at e
  split at e
  · obtain ⟨y, e1, e⟩ := Option.map_eq_some_iff.mp e
    cases e
    simp only [Tp] at t
    obtain ⟨xs, e2, h1⟩ := t
    simp only [Dms] at hv
    subst hv
    obtain ⟨x, ex', hx⟩ := h1.at e1
    have ex : ExM M H (upd H a (.lst xs.dropLast)) := exm_upd hM
    refine ⟨a, xs, x, rfl, rfl, e2, by rw [h1.len]; exact ex', q _ _ trivial ?_ (Dm.mono ex _ _ hx)⟩
    simp only [Tp]
    exact ⟨_, upd_same, (Dms.mono ex _ _ h1).dropLast⟩
  · cases e

/-! ### xs[k] = v -/
def setL (i : Nat) (fk fv : PM D) : S → SO := fun s => match fv s with
  | .ok d s1 => (match s1[i]? with
    | some (some _) => (match fk s1 with
      | .ok k s2 => (match s2[i]?, k with
        | some (some (.lst xs)), .int n => (match ixN xs.length n with | some j => .nx (s2.set i (some (.lst (xs.set j d)))) | none => .no)
        | _, _ => .no)
      | .exc x s2 => .exc x s2
      | .no => .no)
    | _ => .no)
  | .exc x s1 => .exc x s1
  | .no => .no
theorem vs_setL {tk tv : TE} {fk fv : PM D} (hv : VE c E pa .st tv fv) (hk : VE c E pb mb tk fk) (ho : c.ow i = true) : VS c E m (tAsg tv (gSub (tVar i) tk rSetL)) (setL i fk fv) := ⟨fun M0 s σ H L D0 q => hv.run M0 s σ H L _ (by
  unfold setL at q
  cases e1 : fv s with
  | no => rw [e1] at q; exact q
  | exc x s1 => rw [e1] at q; exact exc_fo q
  | ok d s1 =>
    rw [e1] at q; dsimp only at q
    intro v H1 f1 L1 m1 h1
    cases e2 : s1[i]? with
    | none => rw [e2] at q; exact q.elim
    | some x1 =>
      cases x1 with
      | none => rw [e2] at q; exact q.elim
      | some d1 =>
        rw [e2] at q; dsimp only at q
        obtain ⟨a, ea, na, t1⟩ := L1.own i d1 e2 ho
        refine ⟨_, ea, hk.run M0 s1 σ H1 L1 _ ?_⟩
        cases e3 : fk s1 with
        | no => rw [e3] at q; exact q
        | exc x s2 => rw [e3] at q; exact exc_fo (PoS.next (o := .exc x s2) q (.of f1 m1))
        | ok k s2 =>
          rw [e3] at q; dsimp only at q
          intro w H2 f2 L2 m2 h2
          have h1' := h1.stay f2 m2 stS
          split at q
          · rename_i xs n e4
            split at q
            · rename_i j e5
              obtain ⟨b, eb, nb, t2⟩ := L2.own i _ e4 ho
              rw [ea] at eb; cases eb
              simp only [Tp] at t2
              obtain ⟨ys, e6, h6⟩ := t2
              have hw : Own (c.at M0) s2 σ a := ⟨i, _, ho, e4, ea⟩
              have hk' := h2.no.toI
              subst hk'
              refine ⟨a, ys, n, j, rfl, rfl, e6, by rw [h6.len]; exact e5, ?_⟩
              have ex : ExM (Mo (c.at M0) s2 σ) H2 (upd H2 a (.lst (ys.set j v))) := exm_upd (.inr hw)
              have t3 : Tp c.Γ (Mo (c.at M0) s2 σ) (upd H2 a (.lst (ys.set j v))) (.lst (xs.set j d)) a := by
                simp only [Tp]; exact ⟨_, upd_same, (Dms.mono ex _ _ h6).set (Dm.mono ex _ _ h1')⟩
              refine q σ _ (L2.put (c := c.at M0) (o := .lst (ys.set j v)) ho e4 ea trivial t3).lv ((Fo.of f1 m1).trans ((Fo.of f2 m2).trans ⟨exm_upd hw, fun b hb z => ?_, fun b z => .inl ((own_put e4 b).mp z)⟩))
              by_cases y : b = a
              · subst y; rw [upd_same] at z; cases z
              · rw [upd_ne y] at z; exact hb z
            · exact q.elim
          · exact q.elim)⟩
theorem ms_setL {k : Expr} {fk fv : PM D} (ho : PE X o (tVar i)) (hk : ME X c E pb mb k fk) (hv : ME X c E pa .st e fv) (hw : c.ow i = true := by rfl)
    (ha : ∀ v, assign (.Subscript o k pos') X.env v = (do
      let ov ← holding [v] (eval o X.env)
      let iv ← holding [v, ov] (eval k X.env)
      standAt pos'
      holding [v, ov, iv] (setItem ov iv v)
      release [v, ov, iv] []) := by intro _; rfl)
    (hs : swapsWithSole [.Subscript o k pos'] e pos.line X.env = pure false := by rfl) (hsw : swappedStores [.Subscript o k pos'] e X.env = pure none := by rfl)
    (h1 : (assignEach [.Subscript o k pos'] X.env).map (·.2) = [assign (.Subscript o k pos') X.env] := by rfl) : MS X c E m (.Assign [.Subscript o k pos'] e pos) (setL i fk fv) :=
  let ⟨_, x1, y1⟩ := hk.ex; let ⟨_, x2, y2⟩ := hv.ex; ⟨_, ps_asg x2 (pg_sub ho x1 set_list ha) hs hsw h1, vs_setL y2 y1 hw⟩
end Vl

set_option Elab.async false
set_option linter.all false
set_option maxRecDepth 100000
set_option maxHeartbeats 2000000
/-! targets, loops, what is walked -/
namespace Vl
open PySem PySem.Spec L2
variable {Γ : KC} {c : Ctx} {M N : Addr → Prop} {s s' s1 s2 s3 : S} {σ σ1 σ2 : St} {H H' H1 H2 : Hp} {v : V} {d : D} {ds : List D} {i : Nat} {X : Cx} {E : XK} {e a b : Expr} {f fa fb : PM D} {p q pa pb : Bool} {m ma mb : Md} {t ta tb te : TE} {pos : Pos} {ts tr : TS} {g g1 g2 : S → SO} {D0 : Ends} {x : Str}

/-! ### targets -/
abbrev TF := D → S → Option S
def tgN (i : Nat) : TF := fun d s => some (s.set i (some d))
def tgL : List TF → List D → S → Option S
  | [], [], s => some s
  | t :: ts, d :: ds, s => (t d s).bind (tgL ts ds)
  | _, _, _ => none
def tgT (ts : List TF) : TF := fun d s => match d with | .tup ds => tgL ts ds s | .lst ds => tgL ts ds s | _ => none
/-- outside of the slots sl nothing is stored -/
structure Out1 (sl : List Nat) (s : S) (σ : St) (s' : S) (σ' : St) : Prop where
  l1 : s'.length = s.length
  l2 : σ'.length = σ.length
  o1 : ∀ j, j ∉ sl → s'[j]? = s[j]?
  o2 : ∀ j, j ∉ sl → σ'[j]? = σ[j]?
theorem Out1.refl {sl : List Nat} : Out1 sl s σ s σ := ⟨rfl, rfl, fun _ _ => rfl, fun _ _ => rfl⟩
theorem Out1.trans {sl sl' : List Nat} (h : Out1 sl s σ s1 σ1) (h' : Out1 sl' s1 σ1 s2 σ2) : Out1 (sl ++ sl') s σ s2 σ2 :=
  ⟨h'.l1.trans h.l1, h'.l2.trans h.l2, fun j z => (h'.o1 j fun y => z (by simp [y])).trans (h.o1 j fun y => z (by simp [y])), fun j z => (h'.o2 j fun y => z (by simp [y])).trans (h.o2 j fun y => z (by simp [y]))⟩
/-- a target's end -/
def TgP (c : Ctx) (sl : List Nat) (s : S) (σ : St) (H : Hp) (Q : St → Hp → Prop) : Option S → Prop
  | some s' => ∀ σ', Lv c s' σ' H → (∀ a, Own c s' σ' a ↔ Own c s σ a) → Out1 sl s σ s' σ' → Q σ' H
  | none => False
structure VG (c : Ctx) (sl : List Nat) (g : TG) (tf : TF) : Prop where
  run : ∀ M0 s σ H v d, Lv (c.at M0) s σ H → Dm c.Γ (Mo (c.at M0) s σ) H d v → ∀ Q, TgP (c.at M0) sl s σ H Q (tf d s) → g v σ H Q
structure VGs (c : Ctx) (sl : List Nat) (g : TGs) (tf : List D → S → Option S) : Prop where
  run : ∀ M0 s σ H vs ds, Lv (c.at M0) s σ H → Dms c.Γ (Mo (c.at M0) s σ) H ds vs → ∀ Q, TgP (c.at M0) sl s σ H Q (tf ds s) → g vs σ H Q
structure MG (X : Cx) (c : Ctx) (sl : List Nat) (tg : Expr) (tf : TF) : Prop where
  ex : ∃ g, PG X tg g ∧ VG c sl g tf
structure MGs (X : Cx) (c : Ctx) (sl : List Nat) (tgs : List Expr) (ts : List TF) : Prop where
  ex : ∃ g, PGs X tgs g ∧ VGs c sl g (tgL ts) ∧ ts.length = tgs.length
theorem vg_name (ho : c.ow i = false) : VG c [i] (gName i) (tgN i) := ⟨fun M0 s σ H v d L hd Q q => by
  refine q _ (L.setSh (c := c.at M0) ho hd).lv (own_set ho) ⟨by simp, by simp, fun j z => ?_, fun j z => ?_⟩
  · exact set_ne fun y => z (by simp [y])
  · exact set_ne fun y => z (by simp [y])⟩
theorem mo_iff (h : ∀ a, Own c s' σ1 a ↔ Own c s σ a) (a : Addr) : Mo c s' σ1 a ↔ Mo c s σ a := by unfold Mo; rw [h]
theorem vgs_nil : VGs c [] gNil (tgL []) := ⟨fun M0 s σ H vs ds L hd Q q => by
  cases ds with
  | nil => simp only [Dms] at hd; exact ⟨hd, q σ L (fun _ => Iff.rfl) Out1.refl⟩
  | cons => exact q.elim⟩
theorem vgs_cons {g1 : TG} {g2 : TGs} {t1 : TF} {ts : List TF} {l1 l2 : List Nat} (h1 : VG c l1 g1 t1) (h2 : VGs c l2 g2 (tgL ts)) : VGs c (l1 ++ l2) (gCons g1 g2) (tgL (t1 :: ts)) := ⟨fun M0 s σ H vs ds L hd Q q => by
  cases ds with
  | nil => exact q.elim
  | cons d ds =>
    obtain ⟨x, r, rfl, hx, hr⟩ := hd.uncons
    have q : TgP (c.at M0) (l1 ++ l2) s σ H Q ((t1 d s).bind (tgL ts ds)) := q
    refine ⟨x, r, rfl, h1.run M0 s σ H x d L hx _ ?_⟩
    cases e1 : t1 d s with
    | none => rw [e1] at q; exact q.elim
    | some s1 =>
      rw [e1] at q
      have q : TgP (c.at M0) (l1 ++ l2) s σ H Q (tgL ts ds s1) := q
      refine fun σ1 L1 o1 w1 => h2.run M0 s1 σ1 H r ds L1 (Dms.anti (fun a z _ => (mo_iff o1 a).mp z) _ _ hr) _ ?_
      cases e2 : tgL ts ds s1 with
      | none => rw [e2] at q; exact q.elim
      | some s2 =>
        rw [e2] at q
        exact fun σ2 L2 o2 w2 => q σ2 L2 (fun a => (o2 a).trans (o1 a)) (w1.trans w2)⟩
theorem tgL_len : ∀ {ts : List TF} {ds : List D} {s s' : S}, tgL ts ds s = some s' → ds.length = ts.length
  | [], [], _, _, _ => rfl
  | [], _ :: _, _, _, h => by cases h
  | _ :: _, [], _, _, h => by cases h
  | t :: ts, d :: ds, s, s', h => by
    have h : (t d s).bind (tgL ts ds) = some s' := h
    obtain ⟨s1, _, h2⟩ := Option.bind_eq_some_iff.mp h
    simp [tgL_len h2]
/-- a tuple or a list of so many -/
def gTL (K : PySem.W.Frag) (n : Nat) (t : TGs) : TG := fun v σ H Q => gTup K n t v σ H Q ∨ gLst K n t v σ H Q
theorem vg_tup {g : TGs} {tfs : List TF} {sl : List Nat} {n : Nat} (h : VGs c sl g (tgL tfs)) (hn : tfs.length = n) : VG c sl (gTL c.Γ.K n g) (tgT tfs) := ⟨fun M0 s σ H v d L hd Q q => by
  unfold tgT at q
  split at q
  · rename_i ds
    simp only [Dm] at hd
    obtain ⟨a, xs, rfl, h1, h2⟩ := hd
    cases e : tgL tfs ds s with
    | none => rw [e] at q; exact q.elim
    | some s1 =>
      exact .inl ⟨a, xs, rfl, h1.sq, by rw [h2.len, tgL_len e, hn], h.run M0 s σ H xs ds L h2 Q q⟩
  · rename_i ds
    simp only [Dm] at hd
    obtain ⟨a, xs, rfl, h1, h2⟩ := hd
    cases e : tgL tfs ds s with
    | none => rw [e] at q; exact q.elim
    | some s1 =>
      exact .inr ⟨a, xs, rfl, h1.sq, by rw [h2.len, tgL_len e, hn], h.run M0 s σ H xs ds L h2 Q q⟩
  · exact q.elim⟩
theorem mg_name (h : PG X (.Name x pos) (gName i)) (ho : c.ow i = false := by rfl) : MG X c [i] (.Name x pos) (tgN i) := ⟨_, h, vg_name ho⟩
theorem mgs_nil : MGs X c [] [] [] := ⟨_, pgs_nil, vgs_nil, rfl⟩
theorem mgs_cons {es : List Expr} {l1 l2 : List Nat} {tf : TF} {tfs : List TF} (h1 : MG X c l1 e tf) (h2 : MGs X c l2 es tfs) (hs : (assignEach (e :: es) X.env).map (·.2) = assign e X.env :: (assignEach es X.env).map (·.2) := by rfl) : MGs X c (l1 ++ l2) (e :: es) (tf :: tfs) :=
  let ⟨_, x1, y1⟩ := h1.ex; let ⟨_, x2, y2, z2⟩ := h2.ex; ⟨_, pgs_cons x1 x2 hs, vgs_cons y1 y2, by simp [z2]⟩
theorem mg_tup {es : List Expr} {k : Nat} {sl : List Nat} {tfs : List TF} (hc : X.calm = true) (h : MGs X c sl es tfs) (hK : X.K = c.Γ.K := by rfl)
    (hn : (assignEach es X.env).length = es.length := by rfl) (hst : (assignEach es X.env).findIdx? (·.1) = none := by rfl) : MG X c sl (.Tuple es k pos) (tgT tfs) :=
  let ⟨_, x1, y1, z1⟩ := h.ex; ⟨gTL c.Γ.K es.length _, ⟨fun pins s σ H v u Q I r w => by
    rw [← hK] at w
    exact w.elim ((pg_tup hc x1 hn hst).run pins s σ H v u Q I r) ((pg_lst hc x1 hn hst).run pins s σ H v u Q I r)⟩, vg_tup y1 z1⟩
/-! an assignment to a target; two names at once -/
def asgM (f : PM D) (tf : TF) : S → SO := fun s => match f s with | .ok d s' => (match tf d s' with | some s2 => .nx s2 | none => .no) | .exc x s' => .exc x s' | .no => .no
theorem fo_tg {sl : List Nat} (h : ∀ a, Own c s' σ1 a ↔ Own c s σ a) : Fo c s σ H s' σ1 H := ⟨ExM.refl, fun _ z => z, fun a z => .inl ((h a).mp z)⟩
theorem vs_asg {g : TG} {tf : TF} {sl : List Nat} (h : VE c E p .st te f) (hg : VG c sl g tf) : VS c E m (tAsg te g) (asgM f tf) := ⟨fun M0 s σ H L D0 q => h.run M0 s σ H L _ (by
  unfold asgM at q
  cases e : f s with
  | no => rw [e] at q; exact q
  | exc x s1 => rw [e] at q; exact exc_fo q
  | ok d s1 =>
    rw [e] at q; dsimp only at q
    intro v H1 f1 L1 m1 h1
    refine hg.run M0 s1 σ H1 v d L1 h1 _ ?_
    cases e2 : tf d s1 with
    | none => rw [e2] at q; exact q
    | some s2 =>
      rw [e2] at q
      exact fun σ' L' o w => q σ' H1 L' ((Fo.of f1 m1).trans (fo_tg (sl := sl) o)))⟩
theorem ms_asg {tg : Expr} {tf : TF} {sl : List Nat} (h : ME X c E p .st e f) (hg : MG X c sl tg tf) (hs : swapsWithSole [tg] e pos.line X.env = pure false := by rfl) (hw : swappedStores [tg] e X.env = pure none := by rfl)
    (h1 : (assignEach [tg] X.env).map (·.2) = [assign tg X.env] := by rfl) : MS X c E m (.Assign [tg] e pos) (asgM f tf) :=
  let ⟨_, x1, y1⟩ := h.ex; let ⟨_, x2, y2⟩ := hg.ex; ⟨_, ps_asg x1 x2 hs hw h1, vs_asg y1 y2⟩
theorem at_at {M1 : Addr → Prop} : (c.at M).at M1 = c.at M1 := rfl
/-- a new thing is kept aside: it joins what others may change -/
theorem Lw.aside {a : Addr} (L : Lw (c.at M) (Vl.plus N a) s σ H) (hN : ∀ b, N b → Mo (c.at M) s σ b) (hn : ¬ Mo (c.at M) s σ a) (t : ∃ o, H a = some o ∧ MutO o) : Lv (c.at (Vl.plus M a)) s σ H := by
  refine Lw.lv (M := Vl.plus N a) ⟨L.len, fun b z => ?_, L.sh, fun j e h1 h2 => ?_, L.inj, fun b z => ?_, L.iof⟩
  · rcases z with (z | z) | z
    · exact L.sup b (.inl z)
    · exact .inr z
    · exact L.sup b (.inr z)
  · obtain ⟨b, eb, nb, t⟩ := L.own j e h1 h2
    refine ⟨b, eb, fun z => ?_, t⟩
    rcases z with z | z
    · exact nb z
    · subst z; exact hn (.inr ⟨j, e, h2, h1, eb⟩)
  · rcases z with z | z
    · exact L.m0 b z
    · subst z; exact t
theorem mo_plus {a : Addr} (b : Addr) : Mo (c.at (Vl.plus M a)) s σ b ↔ Vl.plus (Mo (c.at M) s σ) a b := by
  unfold Mo Vl.plus
  constructor
  · rintro ((z | z) | z)
    · exact .inl (.inl z)
    · exact .inr z
    · exact .inl (.inr z)
  · rintro ((z | z) | z)
    · exact .inl (.inl z)
    · exact .inr z
    · exact .inl (.inr z)
/-- .. and comes back -/
theorem Lw.unaside {a : Addr} (L : Lv (c.at (Vl.plus M a)) s σ H) : Lw (c.at M) (Vl.plus (Mo (c.at M) s σ) a) s σ H := by
  refine ⟨L.len, fun b z => .inl z, fun j e h1 h2 => ?_, fun j e h1 h2 => ?_, L.inj, fun b z => L.m0 b (.inl z), L.iof⟩
  · obtain ⟨v, ev, h⟩ := L.sh j e h1 h2
    exact ⟨v, ev, Dm.anti (fun b z _ => (mo_plus b).mpr z) _ _ h⟩
  · obtain ⟨b, eb, nb, t⟩ := L.own j e h1 h2
    exact ⟨b, eb, fun z => nb (.inl z), t.anti fun b z _ => (mo_plus b).mpr z⟩

/-! ### while -/
/-- at most n turns -/
def whN (k : PM Bool) (b : S → SO) : Nat → S → SO
  | 0, _ => .no
  | n + 1, s => match k s with
    | .ok true s1 => (match b s1 with | .nx s2 => whN k b n s2 | .ctn s2 => whN k b n s2 | .brk s2 => .nx s2 | o => o)
    | .ok false s1 => .nx s1
    | .exc x s1 => .exc x s1
    | .no => .no
open Classical in
/-- as many turns as it takes -/
noncomputable def whM (k : PM Bool) (b : S → SO) : S → SO := fun s => if h : ∃ n, whN k b n s ≠ .no then whN k b h.choose s else .no
theorem whN_more {k : PM Bool} {b : S → SO} : ∀ {n m : Nat} {s : S}, whN k b n s ≠ .no → n ≤ m → whN k b m s = whN k b n s
  | 0, _, _, h, _ => absurd rfl h
  | n + 1, 0, _, _, hm => absurd hm (by omega)
  | n + 1, m + 1, s, h, hm => by
    unfold whN at h ⊢
    cases e : k s with
    | no => rfl
    | exc x s1 => rfl
    | ok t s1 =>
      rw [e] at h
      cases t with
      | false => rfl
      | true =>
        dsimp only at h ⊢
        cases e2 : b s1 with
        | nx s2 => rw [e2] at h; exact whN_more h (by omega)
        | ctn s2 => rw [e2] at h; exact whN_more h (by omega)
        | brk s2 => rfl
        | ret d s2 => rfl
        | exc x s2 => rfl
        | no => rfl
theorem whM_eq {k : PM Bool} {b : S → SO} {n : Nat} {o : SO} (h : whN k b n s = o) (ho : o ≠ .no) : whM k b s = o := by
  have ex : ∃ n, whN k b n s ≠ .no := ⟨n, by rw [h]; exact ho⟩
  unfold whM
  rw [dif_pos ex]
  have h1 := ex.choose_spec
  rcases Nat.le_total n ex.choose with z | z
  · rw [whN_more (by rw [h]; exact ho) z, h]
  · rw [← whN_more h1 z, h]
theorem vs_while {tt : TT} {tb : TS} {k : PM Bool} {gb : S → SO} (hc : VT c E p tt k) (hb : VS c E m tb gb) : VS c E m (tWhile tt tb) (whM k gb) := ⟨fun M0 s σ H L D0 q => by
  unfold whM at q
  split at q
  · rename_i ex
    refine ⟨fun n σ1 H1 => ∃ s1, Lv (c.at M0) s1 σ1 H1 ∧ PoS (c.at M0) E m s1 σ1 H1 D0 (whN k gb n s1), ⟨_, s, L, q⟩, ?_⟩
    rintro n σ1 H1 ⟨s1, L1, q1⟩
    cases n with
    | zero => exact q1.elim
    | succ n =>
      unfold whN at q1
      refine hc.run M0 s1 σ1 H1 L1 _ ?_
      cases e : k s1 with
      | no => rw [e] at q1; exact q1
      | exc x s2 => rw [e] at q1; exact exc_fo q1
      | ok t s2 =>
        rw [e] at q1
        intro H2 f2 L2 m2
        cases t with
        | false => exact q1 σ1 H2 L2 (.of f2 m2)
        | true =>
          dsimp only at q1
          refine ⟨fun σ3 H3 => ∃ s3, Lv (c.at M0) s3 σ3 H3 ∧ PoS (c.at M0) E m s3 σ3 H3 D0 (whN k gb n s3), fun σ' H' z => ⟨n, Nat.lt_succ_self n, z⟩, hb.run M0 s2 σ1 H2 L2 _ ?_⟩
          have fo := Fo.of f2 m2
          cases e2 : gb s2 with
          | nx s3 => rw [e2] at q1; exact fun σ3 H3 L3 f3 => ⟨s3, L3, PoS.next q1 (fo.trans f3)⟩
          | ctn s3 => rw [e2] at q1; exact fun σ3 H3 L3 f3 => ⟨s3, L3, PoS.next q1 (fo.trans f3)⟩
          | brk s3 => rw [e2] at q1; exact fun σ3 H3 L3 f3 => q1 σ3 H3 L3 (fo.trans f3)
          | ret d s3 => rw [e2] at q1; exact PoS.next (o := .ret d s3) (D0 := D0) q1 fo
          | exc x s3 => rw [e2] at q1; exact PoS.next (o := .exc x s3) (D0 := D0) q1 fo
          | no => rw [e2] at q1; exact q1
  · exact q.elim⟩
theorem ms_while {k : Expr} {body : List Stmt} {kb : PM Bool} {gb : S → SO} (hp : PassesOwn (model X.prog X.w) X.A X.env X.xe) (hc : MT X c E p k kb) (hb : MSs X c E m body gb) : MS X c E m (.While k body [] pos) (whM kb gb) :=
  let ⟨_, x1, y1⟩ := hc.ex; let ⟨_, x2, y2⟩ := hb.ex; ⟨_, ps_while hp x1 x2, vs_while y1 y2⟩

/-! ### what is walked -/
/-- from H on, while what stands outside of M stays, J yields ds and stops; what it yields avoids whatever of H is in W, and what is new besides -/
structure Gv (Γ : KC) (M W : Addr → Prop) (J : It) (H : Hp) (ds : List D) : Prop where
  go : ∀ i H', ExM M H H' → i < ds.length → J.go i H'
  stop : ∀ H', ExM M H H' → J.stop ds.length H'
  yld : ∀ i H' x H'' N, ExM M H H' → Sub H N W → (∀ p, N p → H' p ≠ none) → i < ds.length → J.yld i H' x H'' → Same H' H'' ∧ ∃ d, ds[i]? = some d ∧ Dm Γ N H'' d x
def Mm (c : Ctx) (m : Md) (s : S) (σ : St) : Addr → Prop :=
  match m with
  | .now => no
  | _ => Mo c s σ
def PoI (c : Ctx) (E : XK) (p : Bool) (m : Md) (s : S) (σ : St) (H : Hp) (R : It → Hp → Prop) : Out (List D) → Prop
  | .ok ds s' => ∀ J H', Fr p (Own c s σ) H H' → Lv c s' σ H' → (∀ a, Own c s' σ a → Own c s σ a) → Gv c.Γ (Mm c m s' σ) (Mo c s' σ) J H' ds → R J H'
  | .exc x s' => ∀ cls dd H', Lv c s' σ H' → Fr false (Own c s σ) H H' → (∀ a, Own c s' σ a → Own c s σ a) → Xr c s' σ x cls dd H' → E cls dd H'
  | .no => False
structure VI (c : Ctx) (E : XK) (p : Bool) (m : Md) (wi : TI) (f : PM (List D)) : Prop where
  pu : Pu p f
  run : ∀ M0 s σ H, Lv (c.at M0) s σ H → ∀ R, PoI (c.at M0) E p m s σ H R (f s) → wi σ H R
structure MI (X : Cx) (c : Ctx) (E : XK) (p : Bool) (m : Md) (tg it : Expr) (f : PM (List D)) : Prop where
  ex : ∃ wi, PI X tg it wi ∧ VI c E p m wi f
/-- data that avoid M, and N besides -/
theorem Dm.both (s : Sub H N M) (e : ExM M H H1) (h : Dm Γ M H d v) : Dm Γ N H1 d v := by
  have h1 : Dm Γ (fun a => M a ∨ N a) H d v := Dm.anti (fun a z hn => z.elim id fun y => s a y hn) d v h
  have h2 := Dm.mono (e.imp fun a z => .inl z) d v h1
  exact Dm.anti (fun a z _ => .inr z) d v h2
theorem gv_l {W : Addr → Prop} {a : Addr} {xs : List V} (hM : ∀ a, M a → W a) (hs : LsS Γ M H a xs) (hd : Dms Γ W H ds xs) : Gv Γ M W (Itl Γ.K a) H ds where
  go := fun i H' e hi => by
    have hl := hd.len
    have h2 : i < xs.length := by omega
    exact ⟨xs, xs[i], (hs.mono e).sq, List.getElem?_eq_getElem h2⟩
  stop := fun H' e => ⟨xs, (hs.mono e).sq, by have := hd.len; omega⟩
  yld := fun i H' x H'' N e sub _ hi ⟨hh, hx⟩ => by
    subst hh
    obtain ⟨d, h1, h2⟩ := hd.get (hx xs (hs.mono e).sq)
    exact ⟨Same.refl _, d, h1, Dm.both sub (e.imp hM) h2⟩
theorem gv_t {W : Addr → Prop} {b : Bool} {a : Addr} {xs : List V} (hM : ∀ a, M a → W a) (hs : TuS Γ M H b a xs) (hd : Dms Γ W H ds xs) : Gv Γ M W (Itt Γ.K a) H ds where
  go := fun i H' e hi => by
    have hl := hd.len
    have h2 : i < xs.length := by omega
    exact ⟨xs, xs[i], (hs.mono e).sq, List.getElem?_eq_getElem h2⟩
  stop := fun H' e => ⟨xs, (hs.mono e).sq, by have := hd.len; omega⟩
  yld := fun i H' x H'' N e sub _ hi ⟨hh, hx⟩ => by
    subst hh
    obtain ⟨d, h1, h2⟩ := hd.get (hx xs (hs.mono e).sq)
    exact ⟨Same.refl _, d, h1, Dm.both sub (e.imp hM) h2⟩
/-- walking a list or a tuple (the rule is of our own: both at once) -/
def iSeq (K : PySem.W.Frag) (tl : TE) : TI := fun σ H R => tl σ H fun x H1 => ∃ a, x = .ref a ∧ (((∃ xs, SqL K H1 a xs) ∧ R (Itl K a) H1) ∨ ((∃ xs, SqT K H1 a xs) ∧ R (Itt K a) H1))
theorem pie_end {pins : List (Addr × Obj)} {tg : Expr} {R : It → Hp → Prop} {s : Shared} {J : It} {tn : Nat → Heap → Prop} {o : Obj} (I : Inv X pins σ H s) (T : Turn X.prog X.w X.K tg J [s.heap.objs.size] s.heap.objs.size tn)
    (t0 : tn 0 (s.heap.push o)) (q : R J H) : PIE X pins σ tg R (.ref s.heap.objs.size) { s with heap := s.heap.push o } :=
  ⟨s.heap.objs.size, [s.heap.objs.size], tn, J, H, rfl, I.kept (t' := s.toks) (fun _ _ => Heap.get?_push_of_some _), T, t0, fun x hx => by
    rw [List.mem_singleton.mp hx]
    exact I.fpOk (Nat.le_refl _) (I.hok.fresh (Nat.le_refl _)), q⟩
theorem pi_seq {tg l : Expr} {tl : TE} (hl : PE X l tl) : PI X tg l (iSeq X.K tl) := ⟨fun pins s σ H R I h => thn (hl.run pins s σ H _ I h) fun v s1 ⟨x, H1, J1, rx, a, ea, w⟩ => by
  subst ea; cases rx
  cases w with
  | inl w =>
    obtain ⟨⟨xs, hx⟩, k⟩ := w
    obtain ⟨us, _, z, _⟩ := J1.list hx
    exact wpAny_pyIter_list z.isList (pie_end J1 (turn_list a _) ⟨_, Heap.get?_push_size _ rfl, rfl, rfl⟩ k)
  | inr w =>
    obtain ⟨⟨xs, hx⟩, k⟩ := w
    obtain ⟨us, _, z, _⟩ := J1.tuple hx
    exact wpAny_pyIter_tuple (show s1.heap.IsTuple a us.toArray from z) (pie_end J1 (turn_tuple a _) ⟨_, Heap.get?_push_size _ rfl, rfl, rfl⟩ k)⟩
def itemsG : D → Option (List D)
  | .lst ds => some ds
  | .tup ds => some ds
  | _ => none
theorem dm_iter (hd : Dm Γ M H d v) (e2 : itemsG d = some ds) : ∃ a, v = .ref a ∧ (((∃ xs, SqL Γ.K H a xs) ∧ Gv Γ M M (Itl Γ.K a) H ds) ∨ ((∃ xs, SqT Γ.K H a xs) ∧ Gv Γ M M (Itt Γ.K a) H ds)) := by
  cases d <;> simp only [itemsG] at e2 <;> cases e2 <;> simp only [Dm] at hd
  · obtain ⟨a, xs, rfl, h2, h3⟩ := hd; exact ⟨a, rfl, .inl ⟨⟨xs, h2.sq⟩, gv_l (fun _ z => z) h2 h3⟩⟩
  · obtain ⟨a, xs, rfl, h2, h3⟩ := hd; exact ⟨a, rfl, .inr ⟨⟨xs, h2.sq⟩, gv_t (fun _ z => z) h2 h3⟩⟩
def seqI (f : PM D) : PM (List D) := bd f fun d => lft (itemsG d)
theorem Pu.seqI (h : Pu p f) : Pu p (seqI f) := by
  have z := h.bnd (q := true) (g := fun d => lft (itemsG d)) fun d => Pu.lift
  rw [Bool.and_true] at z; exact z
theorem vi_seq {tl : TE} (h : VE c E p .st tl f) : VI c E p .st (iSeq c.Γ.K tl) (seqI f) := ⟨h.pu.seqI, fun M0 s σ H L R q => h.run M0 s σ H L _ (by
  unfold seqI at q
  cases e1 : f s with
  | no => rw [bnd_no e1] at q; exact q
  | exc x s1 => rw [bnd_exc e1] at q; exact q
  | ok d s1 =>
    rw [bnd_ok e1] at q
    intro v H1 f1 L1 m1 h1
    unfold lft at q
    cases e2 : itemsG d with
    | none => rw [e2] at q; exact q.elim
    | some ds =>
      rw [e2] at q
      obtain ⟨a, rfl, ⟨sq, gv⟩ | ⟨sq, gv⟩⟩ := dm_iter (Γ := c.Γ) (M := Mo (c.at M0) s1 σ) h1 e2
      · exact ⟨a, rfl, .inl ⟨sq, q _ H1 f1 L1 m1 gv⟩⟩
      · exact ⟨a, rfl, .inr ⟨sq, q _ H1 f1 L1 m1 gv⟩⟩)⟩
/-- what a slot owns is walked, while nothing changes -/
theorem vi_own (ho : c.ow i = true) : VI c E true .now (iSeq c.Γ.K (tVar i)) (seqI (gts i)) := ⟨Pu.getS.seqI, fun M0 s σ H L R q => by
  unfold seqI at q
  cases e : s[i]? with
  | none => rw [bnd_no (by unfold gts; rw [e])] at q; exact q.elim
  | some x0 =>
    cases x0 with
    | none => rw [bnd_no (by unfold gts; rw [e])] at q; exact q.elim
    | some d =>
      rw [bnd_ok (getS_ok e)] at q
      unfold lft at q
      cases e2 : itemsG d with
      | none => rw [e2] at q; exact q.elim
      | some ds =>
        rw [e2] at q
        obtain ⟨a, ea, na, t⟩ := L.own i d e ho
        refine ⟨_, ea, a, rfl, ?_⟩
        cases d <;> simp only [itemsG] at e2 <;> cases e2 <;> simp only [Tp] at t
        obtain ⟨xs, h1, h2⟩ := t
        exact .inl ⟨⟨xs, .inl (.inl h1)⟩, q _ H Fr.refl L (fun _ z => z) (gv_l (fun _ z => z.elim) (.inl ⟨fun z => z, .inl h1⟩) h2)⟩⟩
theorem mi_seq {tg l : Expr} (h : ME X c E p .st l f) (hK : X.K = c.Γ.K := by rfl) : MI X c E p .st tg l (seqI f) := let ⟨t, x, y⟩ := h.ex; ⟨iSeq c.Γ.K t, by rw [← hK]; exact pi_seq x, vi_seq y⟩
theorem mi_own {tg l : Expr} (h : PE X l (tVar i)) (ho : c.ow i = true := by rfl) (hK : X.K = c.Γ.K := by rfl) : MI X c E true .now tg l (seqI (gts i)) := ⟨iSeq c.Γ.K (tVar i), by rw [← hK]; exact pi_seq h, vi_own ho⟩
/-! ranges -/
def stepsD (lo s : Int) (m : Nat) : List D := (List.range m).map fun (k : Nat) => D.int (lo + (k : Int) * s)
theorem gv_r {W : Addr → Prop} {lo : Int} {m : Nat} : Gv Γ M W (Itr lo m) H (stepsD lo 1 m) where
  go := fun i H' e hi => by have : i < m := by simpa [stepsD] using hi
                            exact this
  stop := fun H' e => by
    have : m ≤ (stepsD lo 1 m).length := by simp [stepsD]
    exact this
  yld := fun i H' x H'' N e _ _ hi ⟨hh, hx⟩ => by
    subst hh
    have h2 : i < m := by simpa [stepsD] using hi
    refine ⟨Same.refl _, .int (lo + i), ?_, by rw [hx]; exact dm_int⟩
    simp [stepsD, h2]
theorem gv_rc {W : Addr → Prop} {lo s : Int} {m : Nat} : Gv Γ M W (Itc lo s m) H (stepsD lo s m) where
  go := fun i H' e hi => by have : i < m := by simpa [stepsD] using hi
                            exact this
  stop := fun H' e => by
    have : m ≤ (stepsD lo s m).length := by simp [stepsD]
    exact this
  yld := fun i H' x H'' N e _ _ hi ⟨hh, hx⟩ => by
    subst hh
    have h2 : i < m := by simpa [stepsD] using hi
    refine ⟨Same.refl _, .int (lo + i * s), ?_, by rw [hx]; exact dm_int⟩
    simp [stepsD, h2]
def inR (n : Int) : Bool := decide (-(2 ^ 62) ≤ n ∧ n < 2 ^ 62)
def rng1G : List D → Option (List D)
  | [.int n] => if inR n = true then some (stepsD 0 1 n.toNat) else none
  | _ => none
def rng2G : List D → Option (List D)
  | [.int a, .int b] => if (inR a && inR b) = true then some (stepsD a 1 (b - a).toNat) else none
  | _ => none
/-- how many steps of c from a stay below b (above it, downwards) -/
def rngN (a b c : Int) : Nat := Builtin.Range.rangeSize a b c |>.toNat
def rng3G : List D → Option (List D)
  | [.int a, .int b, .int c] => if c ≠ 0 ∧ c.natAbs < 1073741824 ∧ Builtin.Range.small a b c = true ∧ 0 ≤ Builtin.Range.rangeSize a b c then some (stepsD a c (rngN a b c)) else none
  | _ => none
def rngI (g : List D → Option (List D)) (f : PM (List D)) : PM (List D) := bd f fun ds => lft (g ds)
theorem vi_rng {wi : TA → TI} {gg : List D → Option (List D)} {ta : TA} {fl : PM (List D)} (h : VA c E p m ta fl)
    (hw : ∀ M ds vs es H (R : It → Hp → Prop), Dms c.Γ no H ds vs → gg ds = some es → (∀ J, Gv c.Γ M M J H es → R J H) → wi (fun _ _ k => k vs H) [] H R)
    (hwi : ∀ σ H R, (ta σ H fun vs H1 => wi (fun _ _ k => k vs H1) [] H1 R) → wi ta σ H R) : VI c E p .st (wi ta) (rngI gg fl) := ⟨by
  have z := h.pu.bnd (q := true) (g := fun ds => lft (gg ds)) fun d => Pu.lift
  rw [Bool.and_true] at z; exact z, fun M0 s σ H L R q => hwi σ H R (h.run M0 s σ H L _ (by
  unfold rngI at q
  cases e1 : fl s with
  | no => rw [bnd_no e1] at q; exact q
  | exc x s1 => rw [bnd_exc e1] at q; exact q
  | ok ds s1 =>
    rw [bnd_ok e1] at q
    intro vs H1 f1 L1 m1 h1
    unfold lft at q
    cases e2 : gg ds with
    | none => rw [e2] at q; exact q.elim
    | some es =>
      rw [e2] at q
      exact hw (Mo (c.at M0) s1 σ) ds vs es H1 R h1.no e2 fun J gv => q J H1 f1 L1 m1 gv))⟩
theorem inR_of {n : Int} (h : inR n = true) : -(2 ^ 62) ≤ n ∧ n < 2 ^ 62 := of_decide_eq_true h
theorem mi_rng1 {tg a : Expr} {p0 : Pos} {fl : PM (List D)} (hg : Gl X "range") (hm : X.mg "range" = none) (ha : MA X c E p m [a] fl) (hs : starEach [a] X.env = [(false, eval a X.env)] := by rfl) : MI X c E p .st tg (.Call (.Name "range" p0) [a] [] pos) (rngI rng1G fl) :=
  let ⟨_, x, y⟩ := ha.ex; ⟨_, pi_range1 hg hm x hs, vi_rng (wi := iRng1) y (fun M ds vs es H R hd e k => by
    unfold rng1G at e
    split at e
    · obtain ⟨h1, rfl⟩ := if_some e
      obtain ⟨z, rfl, hz⟩ := hd.one
      exact ⟨_, by rw [hz.toI], (inR_of h1).1, (inR_of h1).2, k _ gv_r⟩
    · cases e) fun σ H R z => z⟩
theorem mi_rng2 {tg a b : Expr} {p0 : Pos} {fl : PM (List D)} (hg : Gl X "range") (hm : X.mg "range" = none) (ha : MA X c E p m [a, b] fl) (hs : starEach [a, b] X.env = [(false, eval a X.env), (false, eval b X.env)] := by rfl) (hs2 : starEach [b] X.env = [(false, eval b X.env)] := by rfl) : MI X c E p .st tg (.Call (.Name "range" p0) [a, b] [] pos) (rngI rng2G fl) :=
  let ⟨_, x, y⟩ := ha.ex; ⟨_, pi_range2 hg hm x hs hs2, vi_rng (wi := iRng2) y (fun M ds vs es H R hd e k => by
    unfold rng2G at e
    split at e
    · obtain ⟨h1, rfl⟩ := if_some e
      rw [Bool.and_eq_true] at h1
      exact ⟨_, _, dms_ii hd, ⟨(inR_of h1.1).1, (inR_of h1.1).2, (inR_of h1.2).1, (inR_of h1.2).2⟩, k _ gv_r⟩
    · cases e) fun σ H R z => z⟩
theorem mi_rng3 {tg a b c' : Expr} {p0 : Pos} {fl : PM (List D)} (hg : Gl X "range") (hm : X.mg "range" = none) (ha : MA X c E p m [a, b, c'] fl)
    (hs : starEach [a, b, c'] X.env = (false, eval a X.env) :: starEach [b, c'] X.env := by rfl) (hpl : (backTo pos (starEach [b, c'] X.env)).any (·.1) = false := by rfl) : MI X c E p .st tg (.Call (.Name "range" p0) [a, b, c'] [] pos) (rngI rng3G fl) :=
  let ⟨_, x, y⟩ := ha.ex; ⟨_, pi_range3 hg hm x hs hpl, vi_rng (wi := iRng3) y (fun M ds vs es H R hd e k => by
    unfold rng3G at e
    split at e
    · obtain ⟨h1, rfl⟩ := if_some e
      obtain ⟨x1, r1, rfl, z1, hd⟩ := hd.uncons
      obtain ⟨x2, r2, rfl, z2, hd⟩ := hd.uncons
      obtain ⟨x3, rfl, z3⟩ := hd.one
      refine ⟨_, _, _, rngN _ _ _, by rw [z1.toI, z2.toI, z3.toI], ⟨h1.1, h1.2.1, h1.2.2.1, ?_⟩, k _ gv_rc⟩
      have := h1.2.2.2
      unfold rngN
      omega
    · cases e) fun σ H R z => z⟩

/-! ### for -/
def forL (tf : TF) (b : S → SO) : List D → S → SO
  | [], s => .nx s
  | d :: ds, s => match tf d s with
    | none => .no
    | some s1 => match b s1 with
      | .nx s2 => forL tf b ds s2
      | .ctn s2 => forL tf b ds s2
      | .brk s2 => .nx s2
      | o => o
def forM (fi : PM (List D)) (tf : TF) (b : S → SO) : S → SO := fun s => match fi s with | .ok ds s1 => forL tf b ds s1 | .exc x s1 => .exc x s1 | .no => .no
theorem for_at {wi : TI} {g : TG} {tb : TS} {fi : PM (List D)} {tf : TF} {gb : S → SO} {sl : List Nat} {M0 : Addr → Prop} (hi : ∀ R, PoI (c.at M0) E p .st s σ H R (fi s) → wi σ H R) (hg : VG c sl g tf) (hb : VS c E m tb gb) (L : Lv (c.at M0) s σ H) (q : PoS (c.at M0) E m s σ H D0 (forM fi tf gb s)) : tFor wi g tb D0 σ H := hi _ (by
  unfold forM at q
  cases e1 : fi s with
  | no => rw [e1] at q; exact q
  | exc x s1 => rw [e1] at q; exact exc_fo q
  | ok ds s1 =>
    rw [e1] at q; dsimp only at q
    intro J H1 f1 L1 m1 gv
    have gv : Gv c.Γ (Mo (c.at M0) s1 σ) (Mo (c.at M0) s1 σ) J H1 ds := gv
    have q := PoS.next q (Fo.of f1 m1)
    refine ⟨fun i m' σ2 H2 => i + m' = ds.length ∧ ∃ s2, Lv (c.at M0) s2 σ2 H2 ∧ Fo (c.at M0) s1 σ H1 s2 σ2 H2 ∧ PoS (c.at M0) E m s2 σ2 H2 D0 (forL tf gb (ds.drop i) s2), ⟨ds.length, by omega, s1, L1, Fo.refl, q⟩, ?_⟩
    rintro i m' σ2 H2 ⟨him, s2, L2, fo, q2⟩
    have ex : ExM (Mo (c.at M0) s1 σ) H1 H2 := ex_mo fo.ex
    cases m' with
    | zero =>
      have hi : i = ds.length := by omega
      rw [hi, List.drop_length] at q2
      exact .inl ⟨by rw [hi]; exact gv.stop H2 ex, q2 σ2 H2 L2 Fo.refl⟩
    | succ m' =>
      have hil : i < ds.length := by omega
      refine .inr ⟨gv.go i H2 ex hil, fun σ' H' => ∃ s3, Lv (c.at M0) s3 σ' H' ∧ Fo (c.at M0) s1 σ H1 s3 σ' H' ∧ PoS (c.at M0) E m s3 σ' H' D0 (forL tf gb (ds.drop (i + 1)) s3), fun σ' H' z => ⟨m', Nat.lt_succ_self _, by omega, z⟩, fun x H3 hy => ?_⟩
      obtain ⟨sm, d, hd, dm⟩ := gv.yld i H2 x H3 (Mo (c.at M0) s2 σ2) ex (fun a z hn => by
        rcases z with z | z
        · exact .inl z
        · rcases fo.gr a z with y | y
          · exact .inr y
          · exact absurd y hn) (fun a z hn => by obtain ⟨o, ho, _⟩ := L2.alive z; rw [hn] at ho; cases ho) hil hy
      have L3 := L2.mono sm
      rw [List.drop_eq_getElem_cons hil] at q2
      have hd' : ds[i] = d := by rw [List.getElem?_eq_getElem hil] at hd; exact Option.some.inj hd
      rw [hd'] at q2
      unfold forL at q2
      refine hg.run M0 s2 σ2 H3 x d L3 dm _ ?_
      cases e2 : tf d s2 with
      | none => rw [e2] at q2; exact q2
      | some s3 =>
        rw [e2] at q2; dsimp only at q2
        intro σ3 L4 o3 w3
        have f3 : Fo (c.at M0) s2 σ2 H2 s3 σ3 H3 := ⟨.of sm, .same sm, fun a z => .inl ((o3 a).mp z)⟩
        refine hb.run M0 s3 σ3 H3 L4 _ ?_
        cases e3 : gb s3 with
        | nx s4 => rw [e3] at q2; exact fun σ4 H4 L5 f4 => ⟨s4, L5, fo.trans (f3.trans f4), PoS.next q2 (f3.trans f4)⟩
        | ctn s4 => rw [e3] at q2; exact fun σ4 H4 L5 f4 => ⟨s4, L5, fo.trans (f3.trans f4), PoS.next q2 (f3.trans f4)⟩
        | brk s4 => rw [e3] at q2; exact fun σ4 H4 L5 f4 => q2 σ4 H4 L5 (f3.trans f4)
        | ret d s4 => rw [e3] at q2; exact PoS.next (o := .ret d s4) (D0 := D0) q2 f3
        | exc x s4 => rw [e3] at q2; exact PoS.next (o := .exc x s4) (D0 := D0) q2 f3
        | no => rw [e3] at q2; exact q2)
theorem vs_for {wi : TI} {g : TG} {tb : TS} {fi : PM (List D)} {tf : TF} {gb : S → SO} {sl : List Nat} (hi : VI c E p .st wi fi) (hg : VG c sl g tf) (hb : VS c E m tb gb) : VS c E m (tFor wi g tb) (forM fi tf gb) := ⟨fun M0 s σ H L D0 q => for_at (fun R z => hi.run M0 s σ H L R z) hg hb L q⟩
theorem ms_for {tg it : Expr} {body : List Stmt} {fi : PM (List D)} {tf : TF} {gb : S → SO} {sl : List Nat} (hp : PassesOwn (model X.prog X.w) X.A X.env X.xe) (hc : X.calm = true) (hi : MI X c E p .st tg it fi) (hg : MG X c sl tg tf) (hb : MSs X c E m body gb)
    (hs : ∀ x, foldedSetIterable it X.env x = pure x := by intro _; rfl) : MS X c E m (.For tg it body [] pos) (forM fi tf gb) :=
  let ⟨_, x1, y1⟩ := hi.ex; let ⟨_, x2, y2⟩ := hg.ex; let ⟨_, x3, y3⟩ := hb.ex; ⟨_, ps_for hp hc x1 x2 x3 hs, vs_for y1 y2 y3⟩
end Vl

set_option Elab.async false
set_option linter.all false
set_option maxRecDepth 100000
set_option maxHeartbeats 2000000
/-! several names at once: a, b = x, y -/
namespace Vl
open PySem PySem.Spec L2
open PyProof.Rows hiding St
variable {Γ : KC} {c : Ctx} {M N : Addr → Prop} {s s' s1 s2 s3 : S} {σ σ1 σ2 : St} {H H' H1 H2 : Hp} {v : V} {d : D} {ds : List D} {vs : List V} {i : Nat} {X : Cx} {E : XK} {e a b : Expr} {f fa fb : PM D} {p q pa pb : Bool} {m ma mb : Md} {t ta tb te : TE} {pos : Pos} {ts tr : TS} {g g1 g2 : S → SO} {D0 : Ends} {x : Str} {as : List Addr} {ms : List Md}

/-- values side by side: shared ones, things of their own (at as) -/
def Bd (Γ : KC) (M : Addr → Prop) (H : Hp) : List Md → List D → List V → List Addr → Prop
  | [], ds, vs, as => ds = [] ∧ vs = [] ∧ as = []
  | .st :: ms, ds, vs, as => ∃ d ds' v vs', ds = d :: ds' ∧ vs = v :: vs' ∧ Dm Γ M H d v ∧ Bd Γ M H ms ds' vs' as
  | .fr :: ms, ds, vs, as => ∃ d ds' a vs' as', ds = d :: ds' ∧ vs = .ref a :: vs' ∧ as = a :: as' ∧ Tp Γ M H d a ∧ Bd Γ M H ms ds' vs' as'
  | .now :: _, _, _, _ => False
theorem Bd.anti (s : Sub H N M) : ∀ {ms ds vs as}, Bd Γ M H ms ds vs as → Bd Γ N H ms ds vs as
  | [], _, _, _, h => h
  | .st :: ms, _, _, _, ⟨d, ds', v, vs', h1, h2, h3, h4⟩ => ⟨d, ds', v, vs', h1, h2, Dm.anti s d v h3, Bd.anti s h4⟩
  | .fr :: ms, _, _, _, ⟨d, ds', a, vs', as', h1, h2, h3, h4, h5⟩ => ⟨d, ds', a, vs', as', h1, h2, h3, h4.anti s, Bd.anti s h5⟩
  | .now :: _, _, _, _, h => h.elim
def plusL (M : Addr → Prop) (as : List Addr) : Addr → Prop := fun b => M b ∨ b ∈ as
def PoB' (c : Ctx) (E : XK) (p : Bool) (ms : List Md) (s : S) (σ : St) (H : Hp) (Q : List V → Hp → Prop) : Out (List D) → Prop
  | .ok ds s' => ∀ vs H' as, Fr p (Own c s σ) H H' → Lv c s' σ H' → (∀ a, Own c s' σ a → Own c s σ a) → as.Nodup → (∀ a ∈ as, ¬ Mo c s' σ a ∧ (Own c s σ a ∨ H a = none)) → Lw c (plusL (Mo c s' σ) as) s' σ H' → Bd c.Γ (plusL (Mo c s' σ) as) H' ms ds vs as → Q vs H'
  | .exc x s' => ∀ cls dd H', Lv c s' σ H' → Fr false (Own c s σ) H H' → (∀ a, Own c s' σ a → Own c s σ a) → Xr c s' σ x cls dd H' → E cls dd H'
  | .no => False
structure VB (c : Ctx) (E : XK) (p : Bool) (ms : List Md) (t : TA) (f : PM (List D)) : Prop where
  pu : Pu p f
  run : ∀ M0 s σ H, Lv (c.at M0) s σ H → ∀ Q, PoB' (c.at M0) E p ms s σ H Q (f s) → t σ H Q
structure MB (X : Cx) (c : Ctx) (E : XK) (p : Bool) (ms : List Md) (es : List Expr) (f : PM (List D)) : Prop where
  ex : ∃ t, PA X es t ∧ VB c E p ms t f
theorem vb_nil : VB c E true [] tNil (pur []) := ⟨Pu.rt, fun M0 s σ H L Q q => q [] H [] Fr.refl L (fun _ z => z) List.nodup_nil (fun _ z => nomatch z) (L.anti (fun a z _ => Or.elim z id fun y => nomatch y) fun a z => Or.inl z) ⟨rfl, rfl, rfl⟩⟩
theorem dmf_anti (s : Sub H N M) {fs : List (Str × D)} {gs : List (Str × V)} (h : Dmf Γ M H fs gs) : Dmf Γ N H fs gs := Dmf.anti s fs gs h
theorem xr_unaside {a : Addr} {ex : Exc} {cls : Value} {dd : Option Addr} (h : Xr (c.at (Vl.plus M a)) s' σ ex cls dd H') : Xr (c.at M) s' σ ex cls dd H' := by
  obtain ⟨C, h1, h2, a', gs, h3, h4, h5⟩ := h
  exact ⟨C, h1, h2, a', gs, h3, h4, Dmf.anti (fun b z _ => (mo_plus b).mpr (.inl z)) _ _ h5⟩
theorem vb_consS {tl : TA} {fl : PM (List D)} (ha : VE c E pa .st ta fa) (hr : VB c E pb ms tl fl) : VB c E (pa && pb) (.st :: ms) (tCons ta tl) (consA fa fl) := ⟨ha.pu.bnd fun x => by
    have z := hr.pu.bnd (q := true) (g := fun xs => pur (x :: xs)) fun xs => Pu.rt
    rw [Bool.and_true] at z; exact z, fun M0 s σ H L Q q => ha.run M0 s σ H L _ (by
  unfold consA at q
  cases e1 : fa s with
  | no => rw [bnd_no e1] at q; exact q
  | exc x s1 => rw [bnd_exc e1] at q; exact q
  | ok d1 s1 =>
    rw [bnd_ok e1] at q
    refine fun v1 H1 f1 L1 m1 h1 => hr.run M0 s1 σ H1 L1 _ ?_
    cases e2 : fl s1 with
    | no => rw [bnd_no e2] at q; exact q
    | exc x s2 => rw [bnd_exc e2] at q; exact exc_next (o := no) f1 m1 q
    | ok ds s2 =>
      rw [bnd_ok e2] at q
      intro vs H2 as f2 L2 m2 nd ha2 Lw2 bd
      have h1 : Dm c.Γ (Mo (c.at M0) s1 σ) H1 d1 v1 := h1
      have h1a : Dm c.Γ (plusL (Mo (c.at M0) s1 σ) as) H1 d1 v1 := Dm.anti (fun b z hn => z.elim id fun y => (ha2 b y).2.elim .inr fun w => absurd w hn) d1 v1 h1
      have h1b := Dm.mono (f2.ex.imp fun b z => show plusL (Mo (c.at M0) s1 σ) as b from .inl (.inr z)) d1 v1 h1a
      exact q _ H2 as (f1.and f2 m1) L2 (iff_trans m2 m1) nd (fun b z => ⟨(ha2 b z).1, (ha2 b z).2.elim (fun y => .inl (m1 b y)) fun y => .inr (none_back f1.up y)⟩) Lw2
        ⟨d1, ds, v1, vs, rfl, rfl, Dm.anti (fun b z _ => z.elim (fun y => .inl (own_mo m2 b y)) .inr) d1 v1 h1b, bd⟩)⟩
theorem plusL_cons {a : Addr} (b : Addr) : plusL (Mo (c.at M) s σ) (a :: as) b ↔ plusL (Mo (c.at (Vl.plus M a)) s σ) as b := by
  unfold plusL
  rw [mo_plus, List.mem_cons]
  unfold Vl.plus
  constructor
  · rintro (z | z | z)
    · exact .inl (.inl z)
    · exact .inl (.inr z)
    · exact .inr z
  · rintro ((z | z) | z)
    · exact .inl z
    · exact .inr (.inl z)
    · exact .inr (.inr z)
/-- a thing kept aside comes back into what may change -/
theorem Lw.back1 {a : Addr} (L : Lw (c.at (Vl.plus M a)) N s σ H) : Lw (c.at M) N s σ H := by
  refine ⟨L.len, fun b z => L.sup b (z.elim (fun y => .inl (.inl y)) .inr), L.sh, fun j e h1 h2 => ?_, L.inj, fun b z => L.m0 b (.inl z), L.iof⟩
  obtain ⟨b, eb, nb, t⟩ := L.own j e h1 h2
  exact ⟨b, eb, fun z => nb (.inl z), t⟩
theorem vb_consF {tl : TA} {fl : PM (List D)} (ha : VE c E pa .fr ta fa) (hr : VB c E pb ms tl fl) : VB c E (pa && pb) (.fr :: ms) (tCons ta tl) (consA fa fl) := ⟨ha.pu.bnd fun x => by
    have z := hr.pu.bnd (q := true) (g := fun xs => pur (x :: xs)) fun xs => Pu.rt
    rw [Bool.and_true] at z; exact z, fun M0 s σ H L Q q => ha.run M0 s σ H L _ (by
  unfold consA at q
  cases e1 : fa s with
  | no => rw [bnd_no e1] at q; exact q
  | exc x s1 => rw [bnd_exc e1] at q; exact q
  | ok d1 s1 =>
    rw [bnd_ok e1] at q
    rintro v1 H1 f1 L1 m1 ⟨a, rfl, hn, hf, Lp, tp⟩
    have Lp : Lw (c.at M0) (Vl.plus (Mo (c.at M0) s1 σ) a) s1 σ H1 := Lp
    have tp : Tp c.Γ (Vl.plus (Mo (c.at M0) s1 σ) a) H1 d1 a := tp
    have La : Lv (c.at (Vl.plus M0 a)) s1 σ H1 := Lp.aside (fun b z => z) hn tp.mut
    refine hr.run (Vl.plus M0 a) s1 σ H1 La _ ?_
    cases e2 : fl s1 with
    | no => rw [bnd_no e2] at q; exact q
    | exc x s2 =>
      rw [bnd_exc e2] at q
      have q2 := exc_next (o := no) f1 m1 q
      exact fun cls dd H' L' f' m' x' => q2 cls dd H' (Lw.unaside L').lv f' m' (xr_unaside x')
    | ok ds s2 =>
      rw [bnd_ok e2] at q
      intro vs H2 as f2 L2 m2 nd ha2 Lw2 bd
      have na : ¬ Own (c.at M0) s1 σ a := fun z => hn (.inr z)
      obtain ⟨o, ho, _⟩ := tp.mut
      have ha2' : H2 a = H1 a := (f2.ex a o na ho).trans ho.symm
      have t1 : Tp c.Γ (plusL (Vl.plus (Mo (c.at M0) s1 σ) a) as) H1 d1 a := tp.anti fun b z hnn => z.elim id fun y => (ha2 b y).2.elim (fun w => .inl (.inr w)) fun w => absurd w hnn
      have t2 := t1.mono (f2.ex.imp fun b z => show plusL (Vl.plus (Mo (c.at M0) s1 σ) a) as b from .inl (.inl (.inr z))) ha2'
      have nm : ¬ Mo (c.at M0) s2 σ a := fun z => hn (own_mo (c := c.at M0) m2 a z)
      refine q _ H2 (a :: as) (f1.and f2 m1) (Lw.unaside L2).lv (iff_trans m2 m1) ?_ ?_ ?_ ?_
      · exact List.nodup_cons.mpr ⟨fun z => (ha2 a z).1 (.inl (.inr rfl)), nd⟩
      · intro b z
        rcases List.mem_cons.mp z with z | z
        · subst z; exact ⟨nm, hf⟩
        · exact ⟨fun y => (ha2 b z).1 (y.elim (fun w => .inl (.inl w)) .inr), (ha2 b z).2.elim (fun y => .inl (m1 b y)) fun y => .inr (none_back f1.up y)⟩
      · exact (Lw.back1 (N := plusL (Mo (c.at (Vl.plus M0 a)) s2 σ) as) Lw2).anti (fun b z _ => (plusL_cons b).mp z) fun b z => .inl z
      · refine ⟨d1, ds, a, vs, as, rfl, rfl, rfl, t2.anti fun b z _ => ?_, bd.anti fun b z _ => (plusL_cons b).mp z⟩
        rcases z with z | z
        · exact .inl (.inl (own_mo (c := c.at M0) m2 b z))
        · rcases List.mem_cons.mp z with z | z
          · exact .inl (.inr z)
          · exact .inr z)⟩
theorem mb_nil : MB X c E true [] [] (pur []) := ⟨_, pa_nil, vb_nil⟩
theorem mb_consS {es : List Expr} {fl : PM (List D)} (ha : ME X c E pa .st e fa) (hr : MB X c E pb ms es fl) (hst : starEach (e :: es) X.env = (false, eval e X.env) :: starEach es X.env := by rfl) : MB X c E (pa && pb) (.st :: ms) (e :: es) (consA fa fl) :=
  let ⟨_, x1, y1⟩ := ha.ex; let ⟨_, x2, y2⟩ := hr.ex; ⟨_, pa_cons x1 x2 hst, vb_consS y1 y2⟩
theorem mb_consF {es : List Expr} {fl : PM (List D)} (ha : ME X c E pa .fr e fa) (hr : MB X c E pb ms es fl) (hst : starEach (e :: es) X.env = (false, eval e X.env) :: starEach es X.env := by rfl) : MB X c E (pa && pb) (.fr :: ms) (e :: es) (consA fa fl) :=
  let ⟨_, x1, y1⟩ := ha.ex; let ⟨_, x2, y2⟩ := hr.ex; ⟨_, pa_cons x1 x2 hst, vb_consF y1 y2⟩

/-! ### all of them are stored -/
def setA {α : Type} : List (Option α) → List Nat → List α → Option (List (Option α))
  | s, [], [] => some s
  | s, i :: is, d :: ds => setA (s.set i (some d)) is ds
  | _, _, _ => none
def okS (c : Ctx) : List Nat → List Md → Bool
  | [], [] => true
  | i :: is, .st :: ms => (!c.ow i) && okS c is ms
  | i :: is, .fr :: ms => c.ow i && (c.io i).isNone && okS c is ms
  | _, _ => false
theorem set_all : ∀ {is : List Nat} {ms : List Md} {s s' : S} {σ : St} {ds : List D} {vs : List V} {as : List Addr}, Lw (c.at M) N s σ H → okS c is ms = true → Bd c.Γ N H ms ds vs as → as.Nodup → (∀ a ∈ as, ¬ Mo (c.at M) s σ a ∧ N a) → setA s is ds = some s' →
    ∃ σ', setA σ is vs = some σ' ∧ Lw (c.at M) N s' σ' H ∧ ∀ b, Own (c.at M) s' σ' b → Own (c.at M) s σ b ∨ b ∈ as
  | [], [], s, s', σ, ds, vs, as, L, _, hb, _, _, h => by
    obtain ⟨rfl, rfl, rfl⟩ := hb
    cases h
    exact ⟨σ, rfl, L, fun b z => .inl z⟩
  | i :: is, .st :: ms, s, s', σ, ds, vs, as, L, ho, hb, nd, hn, h => by
    obtain ⟨d, ds', v, vs', rfl, rfl, hd, hb⟩ := hb
    unfold okS at ho
    rw [Bool.and_eq_true] at ho
    have hi : c.ow i = false := by have := ho.1; revert this; cases c.ow i <;> simp
    obtain ⟨σ', h1, h2, h3⟩ := set_all (L.setSh (c := c.at M) hi hd) ho.2 hb nd (fun b z => ⟨fun y => (hn b z).1 ((mo_set (c := c.at M) hi b).mp y), (hn b z).2⟩) h
    exact ⟨σ', h1, h2, fun b z => (h3 b z).elim (fun y => .inl ((own_set (c := c.at M) hi b).mp y)) .inr⟩
  | i :: is, .fr :: ms, s, s', σ, ds, vs, as, L, ho, hb, nd, hn, h => by
    obtain ⟨d, ds', a, vs', as', rfl, rfl, rfl, ht, hb⟩ := hb
    unfold okS at ho
    rw [Bool.and_eq_true, Bool.and_eq_true] at ho
    have hio : c.io i = none := by have := ho.1.2; cases e : c.io i with | none => rfl | some _ => rw [e] at this; cases this
    have ha := hn a (List.mem_cons_self ..)
    have grow : ∀ b, Own (c.at M) (s.set i (some d)) (σ.set i (some (.ref a))) b → Own (c.at M) s σ b ∨ b = a := fun b ⟨j, e', hj, hs, hσ⟩ => by
      rcases get_set hs with ⟨ej, ed, hl⟩ | ⟨ne, hs⟩
      · subst ej
        rw [set_eq (by rw [← L.len]; exact hl)] at hσ; cases hσ
        exact .inr rfl
      · rw [set_ne ne] at hσ; exact .inl ⟨j, e', hj, hs, hσ⟩
    rw [List.nodup_cons] at nd
    obtain ⟨σ', h1, h2, h3⟩ := set_all (L.setOw (c := c.at M) hio ho.1.1 ha.1 ha.2 ht) ho.2 hb nd.2 (fun b z => ⟨fun y => by
      rcases y with y | y
      · exact (hn b (List.mem_cons_of_mem _ z)).1 (.inl y)
      · rcases grow b y with y | y
        · exact (hn b (List.mem_cons_of_mem _ z)).1 (.inr y)
        · subst y; exact nd.1 z, (hn b (List.mem_cons_of_mem _ z)).2⟩) h
    exact ⟨σ', h1, h2, fun b z => (h3 b z).elim (fun y => (grow b y).elim .inl fun w => .inr (by rw [w]; exact List.mem_cons_self ..)) fun y => .inr (List.mem_cons_of_mem _ y)⟩
  | [], _ :: _, _, _, _, _, _, _, _, ho, _, _, _, _ => by cases ho
  | _ :: _, [], _, _, _, _, _, _, _, ho, _, _, _, _ => by cases ho
  | _ :: _, .now :: _, _, _, _, _, _, _, _, ho, _, _, _, _ => by cases ho
def parM (is : List Nat) (fl : PM (List D)) : S → SO := fun s => match fl s with
  | .ok ds s1 => (match setA s1 is ds with | some s2 => .nx s2 | none => .no)
  | .exc x s1 => .exc x s1
  | .no => .no
def tParL (is : List Nat) (ta : TA) : TS := fun D σ H => ta σ H fun vs H1 => ∀ σ', setA σ is vs = some σ' → D.nx σ' H1
theorem vs_parL {is : List Nat} {tl : TA} {fl : PM (List D)} (h : VB c E p ms tl fl) (ho : okS c is ms = true) {k : Ends → L2.St → List V → Hp → Prop}
    (hk : ∀ D σ vs H1 σ', setA σ is vs = some σ' → (∀ H2, Same H1 H2 → D.nx σ' H2) → k D σ vs H1) : VS c E m (fun D σ H => tl σ H (k D σ)) (parM is fl) := ⟨fun M0 s σ H L D0 q => h.run M0 s σ H L _ (by
  unfold parM at q
  cases e1 : fl s with
  | no => rw [e1] at q; exact q
  | exc x s1 => rw [e1] at q; exact exc_fo q
  | ok ds s1 =>
    rw [e1] at q; dsimp only at q
    intro vs H1 as f1 L1 m1 nd ha Lw1 bd
    cases e2 : setA s1 is ds with
    | none => rw [e2] at q; exact q.elim
    | some s2 =>
      rw [e2] at q
      obtain ⟨σ', h1, h2, h3⟩ := set_all (c := c) (M := M0) Lw1 ho bd nd (fun a z => ⟨(ha a z).1, .inr z⟩) e2
      refine hk D0 σ vs H1 σ' h1 fun H2 sm => q σ' H2 ((h2.mono sm).lv) ⟨f1.ex.trans (.of sm), f1.up.trans (.same sm), fun b z => ?_⟩
      rcases h3 b z with z | z
      · exact .inl (m1 b z)
      · exact (ha b z).2)⟩
theorem setA_2 {α : Type} {s s' : List (Option α)} {i j : Nat} {vs : List α} (h : setA s [i, j] vs = some s') : ∃ v w, vs = [v, w] ∧ s' = (s.set i (some v)).set j (some w) := by
  match vs, h with
  | [v, w], h => exact ⟨v, w, rfl, (Option.some.inj h).symm⟩
theorem setA_3 {α : Type} {s s' : List (Option α)} {i j k : Nat} {vs : List α} (h : setA s [i, j, k] vs = some s') : ∃ v w z, vs = [v, w, z] ∧ s' = ((s.set i (some v)).set j (some w)).set k (some z) := by
  match vs, h with
  | [v, w, z], h => exact ⟨v, w, z, rfl, (Option.some.inj h).symm⟩
theorem setA_1 {α : Type} {s s' : List (Option α)} {i : Nat} {is : List Nat} {vs : List α} (h : setA s (i :: is) vs = some s') : ∃ v r, vs = v :: r ∧ setA (s.set i (some v)) is r = some s' := by
  match vs, h with
  | v :: r, h => exact ⟨v, r, rfl, h⟩
theorem setA_0 {α : Type} {s s' : List (Option α)} {vs : List α} (h : setA s [] vs = some s') : vs = [] ∧ s' = s := by
  match vs, h with
  | [], h => exact ⟨rfl, (Option.some.inj h).symm⟩
/-! the machine's rules: two local names, three, any targets by way of a tuple -/
def tPar3 (i j k : Nat) (ta : TA) : TS := fun D σ H => ta σ H fun vs H1 => ∃ v w z, vs = [v, w, z] ∧ D.nx (((σ.set i (some v)).set j (some w)).set k (some z)) H1
theorem ps_par3 {i j k : Nat} {x y z : Str} {a b c' : Expr} {ta : TA} {px py pz pt : Pos} {kt k2 pt2} (hc : X.calm = true) (hN : X.N.Nodup) (hi : X.N[i]? = some x) (hj : X.N[j]? = some y) (hk : X.N[k]? = some z) (hij : i ≠ j) (hik : i ≠ k) (hjk : j ≠ k)
    (hx : X.env.scope.names.lookup x = some .local) (hy : X.env.scope.names.lookup y = some .local) (hz : X.env.scope.names.lookup z = some .local) (ha : PA X [a, b, c'] ta)
    (hw : swappedStores [.Tuple [.Name x px, .Name y py, .Name z pz] kt pt] (.Tuple [a, b, c'] k2 pt2) X.env = pure (some [x, y, z]))
    (hs : swapsWithSole [.Tuple [.Name x px, .Name y py, .Name z pz] kt pt] (.Tuple [a, b, c'] k2 pt2) pos.line X.env = pure false := by rfl) :
    PS X (.Assign [.Tuple [.Name x px, .Name y py, .Name z pz] kt pt] (.Tuple [a, b, c'] k2 pt2) pos) (tPar3 i j k ta) := by
  refine ⟨fun pins s σ H D I h => ?_⟩
  rw [exec_Assign_arm]
  refine wpAny_bind (wpAny_standAt ?_)
  rw [hs]
  refine wpAny_bind (wpAny_pure ?_)
  rw [if_neg (by decide)]
  refine wpAny_bind (Tuple_ (thn (ha.run _ pins s σ H _ I h) fun us s1 ⟨vs, H1, I1, r1, q1⟩ => ?_))
  obtain ⟨v, w, t, e1, q1⟩ := q1
  subst e1
  obtain ⟨u1, u2, u3, rfl, rv, rw', rt⟩ : ∃ u1 u2 u3, us = [u1, u2, u3] ∧ RelV v u1 ∧ RelV w u2 ∧ RelV t u3 := by
    cases r1 with
    | cons p q =>
      cases q with
      | cons p' q' =>
        cases q' with
        | cons p'' q'' =>
          cases q''
          exact ⟨_, _, _, rfl, p, p', p''⟩
  refine wpAny_newObj_type ?_ (by show 3 ≤ sizeLine; decide)
  have I2 : Inv X pins σ H1 { s1 with heap := s1.heap.push { cls := .type "tuple", data := .seq [u1, u2, u3].toArray } } := I1.kept (t' := s1.toks) fun b o e => Heap.get?_push_of_some _ e
  rw [hw]
  refine wpAny_bind (wpAny_pure ?_)
  show wpAny (model X.prog X.w) X.A (do rule "assign.swapped-stores"; let items ← unpackItems (.ref s1.heap.objs.size) 3 none; assignInOrder [fun v => bindName X.env z v, fun v => bindName X.env y v, fun v => bindName X.env x v] items.reverse; pure Flow.next) _ _ _
  refine wpAny_bind (wpAny_rule (wpAny_bind (unpackItems_tuple (items := #[u1, u2, u3]) (I.ok.hd hc) (IsTup.new s1.heap _) fun h' hx' => ?_)))
  have I3 := I2.kept (h' := h') (t' := s1.toks) fun b o e => hx' b o (Nat.ne_of_lt (Heap.lt_size e)) e
  show wpAny _ _ (assignInOrder [fun v => bindName X.env z v, fun v => bindName X.env y v, fun v => bindName X.env x v] [u3, u2, u1] >>= fun _ => pure Flow.next) _ _ _
  refine wpAny_bind (assignInOrder_cons (wpAny_bindName (store_ok I3 hN hk (.inl hz) rt (fun s2 I4 => ?_) (.inr hz))))
  refine assignInOrder_cons (wpAny_bindName (store_ok I4 hN hj (.inl hy) rw' (fun s3 I5 => ?_) (.inr hy)))
  refine assignInOrder_cons (wpAny_bindName (store_ok I5 hN hi (.inl hx) rv (fun s4 I6 => assignInOrder_nil (wpAny_pure ?_)) (.inr hx)))
  rw [List.set_comm _ _ (Ne.symm hij), List.set_comm _ _ (Ne.symm hik), List.set_comm _ _ (Ne.symm hjk)] at I6
  exact ⟨_, H1, I6, q1⟩
variable {fl : PM (List D)}
theorem ms_par2 {i j : Nat} {x y : Str} {a b : Expr} {px py pt : Pos} {kt k2 pt2} (hc : X.calm = true) (hN : X.N.Nodup) (hi : X.N[i]? = some x) (hj : X.N[j]? = some y) (hij : i ≠ j)
    (hx : X.env.scope.names.lookup x = some .local) (hy : X.env.scope.names.lookup y = some .local) (ha : MB X c E p ms [a, b] fl)
    (hw : swappedStores [.Tuple [.Name x px, .Name y py] kt pt] (.Tuple [a, b] k2 pt2) X.env = pure (some [x, y])) (ho : okS c [i, j] ms = true := by rfl)
    (hs : swapsWithSole [.Tuple [.Name x px, .Name y py] kt pt] (.Tuple [a, b] k2 pt2) pos.line X.env = pure false := by rfl) :
    MS X c E m (.Assign [.Tuple [.Name x px, .Name y py] kt pt] (.Tuple [a, b] k2 pt2) pos) (parM [i, j] fl) :=
  let ⟨t, x1, y1⟩ := ha.ex; ⟨_, ps_par hc hN hi hj hij hx hy x1 hw hs, vs_parL y1 ho fun D σ vs H1 σ' h k => by
    obtain ⟨v, w, rfl, rfl⟩ := setA_2 h
    exact ⟨v, w, rfl, k H1 (Same.refl _)⟩⟩
theorem ms_par3 {i j k : Nat} {x y z : Str} {a b c' : Expr} {px py pz pt : Pos} {kt k2 pt2} (hc : X.calm = true) (hN : X.N.Nodup) (hi : X.N[i]? = some x) (hj : X.N[j]? = some y) (hk : X.N[k]? = some z) (hij : i ≠ j) (hik : i ≠ k) (hjk : j ≠ k)
    (hx : X.env.scope.names.lookup x = some .local) (hy : X.env.scope.names.lookup y = some .local) (hz : X.env.scope.names.lookup z = some .local) (ha : MB X c E p ms [a, b, c'] fl)
    (hw : swappedStores [.Tuple [.Name x px, .Name y py, .Name z pz] kt pt] (.Tuple [a, b, c'] k2 pt2) X.env = pure (some [x, y, z])) (ho : okS c [i, j, k] ms = true := by rfl)
    (hs : swapsWithSole [.Tuple [.Name x px, .Name y py, .Name z pz] kt pt] (.Tuple [a, b, c'] k2 pt2) pos.line X.env = pure false := by rfl) :
    MS X c E m (.Assign [.Tuple [.Name x px, .Name y py, .Name z pz] kt pt] (.Tuple [a, b, c'] k2 pt2) pos) (parM [i, j, k] fl) :=
  let ⟨t, x1, y1⟩ := ha.ex; ⟨_, ps_par3 hc hN hi hj hk hij hik hjk hx hy hz x1 hw hs, vs_parL y1 ho fun D σ vs H1 σ' h kk => by
    obtain ⟨v, w, z, rfl, rfl⟩ := setA_3 h
    exact ⟨v, w, z, rfl, kk H1 (Same.refl _)⟩⟩
/-- targets that are names, by way of a tuple -/
inductive Nm (X : Cx) : List Expr → TGs → List Nat → Prop where
  | nil : Nm X [] gNil []
  | cons {x : Str} {pos : Pos} {i : Nat} {es : List Expr} {g : TGs} {is : List Nat} (h : PG X (.Name x pos) (gName i)) (t : Nm X es g is) (hs : (assignEach (.Name x pos :: es) X.env).map (·.2) = assign (.Name x pos) X.env :: (assignEach es X.env).map (·.2) := by rfl) : Nm X (.Name x pos :: es) (gCons (gName i) g) (i :: is)
theorem Nm.pgs {es : List Expr} {g : TGs} {is : List Nat} (h : Nm X es g is) : PGs X es g := by
  induction h with
  | nil => exact pgs_nil
  | cons h _ hs ih => exact pgs_cons h ih hs
theorem Nm.run {es : List Expr} {g : TGs} {is : List Nat} (h : Nm X es g is) : ∀ {σ σ' : L2.St} {H : Hp} {vs : List V} {Q : L2.St → Hp → Prop}, setA σ is vs = some σ' → Q σ' H → g vs σ H Q := by
  induction h with
  | nil => intro σ σ' H vs Q h q; obtain ⟨rfl, rfl⟩ := setA_0 h; exact ⟨rfl, q⟩
  | cons _ _ _ ih => intro σ σ' H vs Q h q; obtain ⟨v, r, rfl, h⟩ := setA_1 h; exact ⟨v, r, rfl, ih h q⟩
theorem setA_len {α : Type} : ∀ {is : List Nat} {s s' : List (Option α)} {vs : List α}, setA s is vs = some s' → vs.length = is.length
  | [], _, _, [], h => rfl
  | i :: is, s, _, v :: r, h => by
    have h : setA (s.set i (some v)) is r = some _ := h
    simp [setA_len h]
theorem ms_parT {es vals : List Expr} {kt k2 : Nat} {pt pt2 : Pos} {is : List Nat} {g : TGs} (hc : X.calm = true) (hn : Nm X es g is) (ha : MB X c E p ms vals fl) (ho : okS c is ms = true := by rfl) (hl : is.length ≤ 1000 := by decide)
    (hn1 : (assignEach es X.env).length = is.length := by rfl) (hst : (assignEach es X.env).findIdx? (·.1) = none := by rfl)
    (hs : swapsWithSole [.Tuple es kt pt] (.Tuple vals k2 pt2) pos.line X.env = pure false := by rfl) (hw : swappedStores [.Tuple es kt pt] (.Tuple vals k2 pt2) X.env = pure none := by rfl)
    (h1 : (assignEach [.Tuple es kt pt] X.env).map (·.2) = [assign (.Tuple es kt pt) X.env] := by rfl) : MS X c E m (.Assign [.Tuple es kt pt] (.Tuple vals k2 pt2) pos) (parM is fl) :=
  let ⟨t, x1, y1⟩ := ha.ex; ⟨_, ps_asg (pe_tup x1) (pg_tup (n := is.length) hc hn.pgs hn1 hst) hs hw h1, vs_parL y1 ho fun D σ vs H1 σ' h k => by
    have hl2 := setA_len h
    refine ⟨by rw [hl2]; exact Nat.le_trans hl (by decide), fun p hp => ⟨p, vs, rfl, .inl (.inl upd_same), hl2, hn.run h (k _ (same_new hp))⟩⟩⟩
end Vl

set_option Elab.async false
set_option linter.all false
set_option maxRecDepth 100000
set_option maxHeartbeats 2000000
/-! the promise of a def under known guards (no repr is under way), its call, its proof, the law's head; then repr of data -/
namespace Vl
open PySem PySem.Spec L2
open PyProof.Rows (envOfC AllBare IntsAre)

/-- as FnOk, but wanted only where no repr is under way -/
structure FnG (P : Program) (w : World) (K : PySem.W.Frag) (mg : Str → Option Value) (base : Heap)
    (CX : CXT) (k : Nat) (f : Addr) (fd : FuncData) (ps : List Str) (sp : Sp) : Prop where
  ln : ∀ ys G R E, sp ys G R E → ys.length = ps.length
  go : ∀ (A : Around) (outer : List Env) (s : Shared) (G : Hp) (args : Args) (us : List Value) (ys : List V) (R : VK) (E : XK),
    A.guards = some [] → Room k A → Env0 P w K mg base A outer s G → BindsTo s fd args (ps.zip us) → Vals ys us → sp ys G R E →
    codeAny (model P w) A (.call (.ref f) args) (CR CX outer P w G s R E) s

section
variable {P : Program} {w : World} {K : PySem.W.Frag} {mg : Str → Option Value} {base : Heap} {CX : CXT} {k j : Nat} {f : Addr} {fd : FuncData} {ps : List Str} {sp : Sp}
theorem FnG.of (F : FnOk P w K mg base CX k f fd ps sp) : FnG P w K mg base CX k f fd ps sp :=
  ⟨F.len, fun A outer s G args us ys R E _ => F.run A outer s G args us ys R E⟩
theorem FnG.mono (F : FnG P w K mg base CX j f fd ps sp) (h : j ≤ k) : FnG P w K mg base CX k f fd ps sp :=
  ⟨F.ln, fun A outer s G args us ys R E hg hr => F.go A outer s G args us ys R E hg (hr.mono h)⟩
end

section
variable {X : Cx} {CX : CXT} {k : Nat} {f : Addr} {fd : FuncData} {ps : List Str} {sp : Sp} {dvs : List V} {ds : List Value} {E : XK} {x : Str} {p pos : Pos} {e : Expr} {es : List Expr} {t : TA}
/-- what is walked in stands where no repr is under way -/
abbrev NoRepr (X : Cx) : Prop := X.A.guards = some []

theorem run_fnG {pins : List (Addr × Obj)} {σ : L2.St} {H : Hp} {s : Shared} {Q : VK} {us : List Value} {vs : List V} (F : FnG X.prog X.w X.K X.mg X.base CX k f fd ps sp)
    (hG : NoRepr X) (hr : Room k X.A) (hb : Binds X.K fd ps ds) (hd : Vals dvs ds) (hx : Passes CX X E)
    (I : Inv X pins σ H s) (r : Vals vs us) (h : sp (vs ++ dvs) H Q E) :
    wpAny (model X.prog X.w) X.A (call (.ref f) us) (EP X pins σ Q) X.xe s := by
  have r2 := r.append hd
  have hl : (us ++ ds).length = ps.length := r2.length.symm.trans (F.ln _ _ _ _ h)
  refine wpAny_call (codeAny_mono (F.go X.A X.stack s H ⟨us, []⟩ (us ++ ds) (vs ++ dvs) Q E hG hr I.env0 (hb s us I.kIn hl) r2 h) ?_)
  rintro (e | fl) s' hq
  · exact hx pins σ H s e s' I hq
  · cases fl <;> first | exact I.after hq | exact False.elim hq
theorem pe_callG (F : FnG X.prog X.w X.K X.mg X.base CX k f fd ps sp)
    (hG : NoRepr X) (hr : Room k X.A) (hg : Gl X x) (hm : X.mg x = some (.ref f)) (hk : PySem.W.keepIn X.K (.ref f) = true)
    (hb : Binds X.K fd ps ds) (hd : Vals dvs ds) (hx : Passes CX X E) (ha : PA X (e :: es) t)
    (hdb : (x == ("__debug__" : Str)) = false := by decide) (he : starEach (e :: es) X.env = (false, eval e X.env) :: starEach es X.env := by rfl)
    (hpl : (backTo pos (starEach es X.env)).any (·.1) = false := by rfl) : PE X (.Call (.Name x p) (e :: es) [] pos) (tCall sp dvs E t) :=
  ⟨fun pins s σ H Q I h => wpAny_Call_Name_kw (ld_glob I hg hm (PySem.W.callWith_K (h₀ := X.base) I.ok.mod.kin hk
    (thn (ha.run pos pins s σ H _ I h) fun us s1 ⟨vs, H1, I1, r, q⟩ => ⟨I1.kIn, run_fnG F hG hr hb hd hx I1 r q⟩) he hpl) hdb)⟩
theorem pe_callG0 (F : FnG X.prog X.w X.K X.mg X.base CX k f fd ps sp)
    (hG : NoRepr X) (hr : Room k X.A) (hg : Gl X x) (hm : X.mg x = some (.ref f)) (hk : PySem.W.keepIn X.K (.ref f) = true)
    (hb : Binds X.K fd ps ds) (hd : Vals dvs ds) (hx : Passes CX X E)
    (hdb : (x == ("__debug__" : Str)) = false := by decide) : PE X (.Call (.Name x p) [] [] pos) (tCall sp dvs E tNil) :=
  ⟨fun pins s σ H Q I h => wpAny_Call_Name_kw (ld_glob I hg hm (PySem.W.callWith_K0 I.kIn hk (run_fnG (us := []) F hG hr hb hd hx I .nil h)) hdb)⟩
end

/-- a def by its body, which may use that no repr is under way -/
theorem fnG_of {CX : CXT} {P : Program} {w : World} {K : PySem.W.Frag} {mg : Str → Option Value} {base : Heap} {k : Nat} {f : Addr}
    {name qual : Str} {params : Arguments} {body : List Stmt} {scope : Scope} {dV kV doc pm cdv ct oc : Value} {an od : Option Addr}
    {osl : Array (Option Value)} {N ps : List Str} {sp : Sp}
    (lk : K.lookup f = some ⟨oc, od, .func (PySem.W.fnOf name qual params body scope dV kV doc pm an cdv ct), osl⟩)
    (hcd : PySem.W.codeIn K cdv qual = true) (S : FnScope N ps scope)
    (ln : ∀ ys G R E, sp ys G R E → ys.length = ps.length)
    (hbody : ∀ (A : Around) (outer : List Env) (s : Shared) (G : Hp) (ys : List V) (R : VK) (E : XK), A.guards = some [] →
      Room k (A.deeper (envOfC qual scope s.heap.objs.size f cdv)) → sp ys G R E →
      ∃ t, PSs (cxOf CX P w K mg base N qual scope f cdv A outer s G E) body t ∧ t { nx := fun _ G' => R .non G', rt := R } (start N ys) G) :
    FnG P w K mg base CX (k + 1) f (PySem.W.fnOf name qual params body scope dV kV doc pm an cdv ct) ps sp := by
  refine ⟨ln, fun A outer s G args us ys R E hg hr e0 hb r hsp => ?_⟩
  have hn := ln _ _ _ _ hsp
  have kin : K.In s.heap := e0.mod.kin.keeps fun b o e => (e0.bs b o e).1
  have noL : s.heap.NoLimit := e0.mod.nolimit.keeps fun b o e => (e0.bs b o e).1
  refine codeAny_call_function hr.depth (kin _ _ lk) rfl S.co S.gen rfl (PySem.W.codeRec_of kin hcd) (hb _ _ _ _ ?_)
  refine wpAny_newFunctionEnv_cells S.kind (fun ⟨m, v⟩ hy => ?_) fun env he s1 x => ?_
  · rcases S.par m (List.of_mem_zip hy).1 with q | q
    · exact .inl q
    · exact .inr ⟨q, PySem.W.cellsFrom_some _ _ _ (.inl q)⟩
  subst he
  refine ⟨noL.keeps x.toInCall.keep, codeAny_func ?_⟩
  obtain ⟨t, ht, hq⟩ := hbody A outer s G ys R E hg (hr.deeper _) hsp
  have I := inv_start (CX := CX) (E := E) S hr.hd e0 hn r x
  refine wpAny_mono (ht.run [] s1 (start N ys) G _ I hq) ?_ fun e s' z => z
  rintro (_ | _ | _ | u) s' z
  · obtain ⟨σ1, G1, J, q⟩ := z
    exact ⟨.non, G1, J.os, J.bare, J.base, J.hok, rfl, q⟩
  · obtain ⟨_, _, _, q⟩ := z
    exact q.elim
  · obtain ⟨_, _, _, q⟩ := z
    exact q.elim
  · obtain ⟨v, σ1, G1, J, rv, q⟩ := z
    exact ⟨v, G1, J.os, J.bare, J.base, J.hok, rv, q⟩

section
variable {P : Program} {w : World} {K : PySem.W.Frag} {mg mb : Str → Option Value} {k : Nat} {fa a : Addr} {fd : FuncData} {x : Str} {sp : Sp} {s : Shared} {us : List Value} {zs : List Int}
/-- the law's def is called by the caller alone: no repr is under way there -/
theorem law_callG (kin : K.In s.heap) (nsg : s.heap.Ns mainGlobals mg) (nsb : s.heap.Ns builtinsNs mb)
    (bb : ∀ y : Str, y ≠ "__name__" → mb y = bootBuiltins y) (noL : s.heap.NoLimit) (gn : s.gens = #[])
    (ga : s.heap.get? a = some { cls := .type "list", data := .seq us.toArray }) (hi : IntsAre us zs) (hl : zs.length ≤ sizeLine) (hr : Room k callerA)
    (F : ∀ base : Heap, K.In base → base.Ns mainGlobals mg → FnG P w K mg base CX0 k fa fd [x] sp)
    (hb : ∀ (s : Shared) (u : Value), BindsTo s fd ⟨[u], []⟩ [(x, u)])
    (hsp : ∀ G : Hp, Only G → LsX K G a (zs.map V.int) → sp [.ref a] G (fun v _ => v = .bl true) fun _ _ _ => False) :
    codeAny (model P w) callerA (.call (.ref fa) ⟨[.ref a], []⟩)
      (fun r z => r = .ok (.ret (.bool true)) ∧ OldK s.heap z.heap ∧ z.os = s.os ∧ AllBare z.gens) s := by
  have rv := vals_ints hi
  have core : ∀ G : Hp, Only G → LsX K G a (zs.map V.int) → HOk P w G s.heap → (∀ b, G b ≠ none → b = a ∧ K.lookup a = none) →
      codeAny (model P w) callerA (.call (.ref fa) ⟨[.ref a], []⟩)
        (fun r z => r = .ok (.ret (.bool true)) ∧ OldK s.heap z.heap ∧ z.os = s.os ∧ AllBare z.gens) s := by
    intro G hO hS hok hA
    have off : ∀ {b : Addr} {o : Obj} {es : Array DictEntry} {ep : Nat}, s.heap.get? b = some o → o.data = .dict es ep → G b = none := by
      intro b o es ep e d
      by_cases q : G b = none
      · exact q
      · obtain ⟨rfl, _⟩ := hA b q
        rw [ga] at e; cases e; cases d
    have ns : ∀ {b : Addr} {m : Str → Option Value}, s.heap.Ns b m → (hidT s.heap G).Ns b m :=
      fun ⟨o, es, ep, e, d, r⟩ => ⟨o, es, ep, hidT_get e (off e d), d, r⟩
    have inB : K.In (hidT s.heap G) := fun b o e => hidT_get (kin b o e) (by
      by_cases q : G b = none
      · exact q
      · obtain ⟨rfl, z⟩ := hA b q
        rw [z] at e; cases e)
    obtain ⟨mc, m1, m2⟩ := noL
    have e0 : Env0 P w K mg (hidT s.heap G) callerA [] s G :=
      ⟨rfl, ⟨inB, ns nsg, ⟨mb, ns nsb, bb⟩, ⟨mc, ns m1, m2⟩⟩, fun b o e => of_hidT e, Nat.le_of_eq (hidT_size _ _), trivial, fun b hb => (List.not_mem_nil hb).elim, hok, .of_eq gn⟩
    refine codeAny_mono ((F _ inB (ns nsg)).go callerA [] s G ⟨[.ref a], []⟩ [.ref a] [.ref a] _ _ rfl hr e0 (hb s (.ref a)) (.cons rfl .nil) (hsp G hO hS)) ?_
    rintro (e | fl) z h
    · exact False.elim h
    · cases fl with
      | ret u =>
        obtain ⟨v, G1, os, bare, un, hok1, r1, q⟩ := h
        obtain rfl : v = .bl true := q
        obtain rfl : u = Value.bool true := r1
        refine ⟨rfl, OldK.of_keep fun b o e => ?_, os, bare⟩
        rcases hO b with q | ⟨ob, ys, q⟩
        · exact un.keep b o e q (fun y => (List.not_mem_nil y).elim) (by simp)
        · have e1 := (hok b _ q).1
          have e2 := (hok1 b _ (un.frzs b ob _ q)).1
          rw [e] at e1; cases e1
          exact e2
      | next => exact False.elim h
      | brk => exact False.elim h
      | cont => exact False.elim h
  by_cases hk : K.lookup a = none
  · refine core (fun b => if b = a then some (.frz { cls := .type "list", data := .seq us.toArray } (.lst (zs.map V.int))) else none)
      (fun b => ?_) (.inl (.inr ⟨{ cls := .type "list", data := .seq us.toArray }, if_pos rfl⟩)) (fun b u z => ?_) (fun b z => ?_)
    · by_cases q : b = a
      · exact .inr ⟨_, _, if_pos q⟩
      · exact .inl (if_neg q)
    · by_cases q : b = a
      · subst q
        dsimp only at z; rw [if_pos rfl] at z; cases z
        exact ⟨ga, by rw [List.length_map]; exact hl, us, _, rv, ga⟩
      · dsimp only at z; rw [if_neg q] at z; cases z
    · by_cases q : b = a
      · exact ⟨q, hk⟩
      · exact absurd (if_neg q) z
  · obtain ⟨o, e⟩ := Option.ne_none_iff_exists'.mp hk
    have e1 := kin a o e
    rw [ga] at e1; cases e1
    have len : us.length ≤ sizeLine := by rw [hi.length]; exact hl
    exact core (fun _ => none) (fun _ => .inl rfl) (.inr ⟨us.toArray, _, e, by rw [List.size_toArray]; exact len, by simpa using rv⟩)
      (fun b u z => nomatch z) (fun b z => absurd rfl z)
end

theorem walk_ofG {l : PySem.W.OpenLaw} {n k : Nat} {q : Program} {loose : List Str} {XP : (Str → Option Value) → Heap → Prop} {YP : World → Heap → Prop}
    {d : DefRec} {K : Params → PySem.W.Frag} {sp : World → Sp} {x : Str}
    (hn : l.most = some n) (hn2 : n ≤ sizeLine) (hdf : d.params.defaults = []) (hr : Room k callerA) (hY : ∀ (w : World) (h : Heap), YP w h → (K w.params).In h)
    (F : ∀ (w : World) (mg : Str → Option Value) (fa : Addr) (h : Heap), (K w.params).In h → h.Ns mainGlobals mg → mg d.name = some (.ref fa) →
      ∃ fd : FuncData, (∀ (s : Shared) (u : Value), BindsTo s fd ⟨[u], []⟩ [(x, u)]) ∧
        ∀ base : Heap, (K w.params).In base → base.Ns mainGlobals mg → FnG l.prog w (K w.params) mg base CX0 k fa fd [x] (sp w))
    (hsp : ∀ (w : World) (G : Hp) (a : Addr) (zs : List Int), zs.length ≤ n → Only G → LsX (K w.params) G a (zs.map V.int) →
      sp w [.ref a] G (fun v _ => v = .bl true) fun _ _ _ => False) :
    PySem.W.WalkO q loose XP YP l.row.toRowW d [] (fun f vs => PySem.call f vs) :=
  Att.attach_call hn hdf fun w s₀ s₁ mg mb fa o pm cd doc a vs ns G Y ho hd hcd hmg hobj hints hlen hg =>
    let ⟨fd, hb, hF⟩ := F w mg fa _ (hY w _ Y) G.T.g hmg
    law_callG (hY w _ Y) G.T.g G.T.b G.T.builtins G.T.nolimit hg hobj hints (Nat.le_trans hlen hn2) hr hF hb fun H hO hS => hsp w H a ns hlen hO hS

/-! ### repr of data -/
/-- the text of data may be made: no int of 1920 bits or more, not too deep, not too long -/
structure Tells (d : PyData) : Prop where
  sh : d.showable = true
  dp : d.depth ≤ 64
  ln : d.shown.length ≤ sizeLine
  nd : d.hasDict = false
def rRepr (K : PySem.W.Frag) : List V → Hp → VK → Prop := fun xs H Q => ∃ v d, xs = [v] ∧ Dp K H v d ∧ Tells d ∧ Q (.str d.shown) H
theorem call_reprD {X : Cx} (hG : NoRepr X) (hr : Room 0 X.A) : CallR X (.builtin "repr") (rRepr X.K) := by
  intro pins s σ H xs us Q I r h
  obtain ⟨v, d, rfl, hv, T, q⟩ := h
  obtain ⟨u, rfl, ru⟩ := vals1 r
  obtain ⟨as, R⟩ := Dp.reads I d v u hv ru
  have un := hr.un
  have dd := T.dp
  cases R with
  | none => exact PySem.P.repr_of_none ⟨.str _, H, I.tok _, ⟨_, rfl⟩, by simpa only [PyData.shown] using q⟩
  | bool b => exact PySem.P.repr_of_bool ⟨.str _, H, I.tok _, ⟨_, rfl⟩, by simpa only [PyData.shown] using q⟩
  | int i t => exact PySem.P.repr_of_int (by have := T.sh; simpa [PyData.showable] using this) ⟨.str _, H, I.tok _, ⟨_, rfl⟩, by simpa only [PyData.shown] using q⟩
  | str x t => exact PySem.P.repr_of_str ⟨.str _, H, I.tok _, ⟨_, rfl⟩, by simpa only [PyData.shown] using q⟩ (by have := T.ln; simpa only [PyData.shown] using this)
  | list h1 h2 h3 h4 => exact repr_of_reads' (.list h1 h2 h3 h4) T.sh (fun z => by rw [T.nd] at z; cases z) hG (by omega) (fun _ _ e => e) (fun h' u tk hk => ⟨.str _, H, I.kept hk, ⟨_, rfl⟩, q⟩) T.ln
  | tuple h1 h2 h3 h4 => exact repr_of_reads' (.tuple h1 h2 h3 h4) T.sh (fun z => by rw [T.nd] at z; cases z) hG (by omega) (fun _ _ e => e) (fun h' u tk hk => ⟨.str _, H, I.kept hk, ⟨_, rfl⟩, q⟩) T.ln
  | dict _ _ _ _ _ => exact absurd T.nd (by simp [PyData.hasDict])

/-- a bound of a text's length, and what Tells wants beside -/
structure Tb (k n : Nat) (d : PyData) : Prop where
  sh : d.showable = true
  dp : d.depth ≤ k
  ln : d.shown.length + 2 ≤ n
  nd : d.hasDict = false
structure TbL (k n : Nat) (ds : List PyData) : Prop where
  sh : PyData.showableAll ds = true
  dp : PyData.depthAll ds ≤ k
  ln : piled (PyData.shownAll ds) ≤ n
  nd : PyData.hasDictAll ds = false
theorem Tb.mono {k k1 n n1 : Nat} {d : PyData} (h : Tb k n d) (h1 : k ≤ k1) (h2 : n ≤ n1) : Tb k1 n1 d := ⟨h.sh, Nat.le_trans h.dp h1, Nat.le_trans h.ln h2, h.nd⟩
theorem Tb.int {i : Int} (h : i.natAbs < 2 ^ 1900) : Tb 0 1925 (.int i) := by
  have l : i.natAbs.log2 < 1920 := by
    by_cases z : i.natAbs = 0
    · rw [z]; decide
    · exact Nat.lt_trans ((Nat.log2_lt z).mpr h) (by decide)
  refine ⟨by simpa [PyData.showable] using l, by simp [PyData.depth], ?_, by simp [PyData.hasDict]⟩
  have e := int_text_length_le (k := 1920) (by decide) l
  rw [PyData.shown_int, ofString_length]; omega
theorem Tb.bool {b : Bool} : Tb 0 10 (.bool b) := ⟨by simp [PyData.showable], by simp [PyData.depth], by rw [PyData.shown_bool]; cases b <;> decide, by simp [PyData.hasDict]⟩
theorem Tb.none : Tb 0 10 .none := ⟨by simp [PyData.showable], by simp [PyData.depth], by rw [PyData.shown_none]; decide, by simp [PyData.hasDict]⟩
theorem TbL.nil {k n : Nat} : TbL k n [] := ⟨by simp [PyData.showableAll], by simp [PyData.depthAll], by simp [PyData.shownAll, piled], by simp [PyData.hasDictAll]⟩
theorem TbL.cons {k n m : Nat} {d : PyData} {ds : List PyData} (h : Tb k n d) (t : TbL k m ds) : TbL k (n + m) (d :: ds) :=
  ⟨by simp [PyData.showableAll, h.sh, t.sh], by have := h.dp; have := t.dp; simp only [PyData.depthAll]; omega,
    by have := h.ln; have := t.ln; rw [PyData.shownAll_cons, piled_cons]; omega, by simp [PyData.hasDictAll, h.nd, t.nd]⟩
theorem TbL.all {k n : Nat} : ∀ {ds : List PyData}, (∀ d ∈ ds, Tb k n d) → TbL k (n * ds.length) ds
  | [], _ => .nil
  | d :: ds, h => by
    have t := TbL.cons (h d (List.mem_cons_self ..)) (TbL.all fun e m => h e (List.mem_cons_of_mem _ m))
    rw [List.length_cons, Nat.mul_succ, Nat.add_comm]; exact t
theorem join_piled (ts : List Str) : (Str.join ", " ts).length ≤ piled ts := by
  by_cases h : ts = []
  · subst h; exact Nat.zero_le _
  · have := join_length_add ts h; omega
theorem Tb.list {k n : Nat} {ds : List PyData} (h : TbL k n ds) : Tb (k + 1) (n + 8) (.list ds) := by
  refine ⟨by simpa [PyData.showable] using h.sh, by simp only [PyData.depth]; have := h.dp; omega, ?_, by simpa [PyData.hasDict] using h.nd⟩
  have e1 : ((("[" : String) : Str)).length = 1 := rfl
  have e2 : ((("]" : String) : Str)).length = 1 := rfl
  have e3 := join_piled (PyData.shownAll ds)
  have e4 := h.ln
  rw [PyData.shown_list, strLen_append, strLen_append, e1, e2]; omega
theorem Tb.tuple {k n : Nat} {ds : List PyData} (h : TbL k n ds) : Tb (k + 1) (n + 8) (.tuple ds) := by
  refine ⟨by simpa [PyData.showable] using h.sh, by simp only [PyData.depth]; have := h.dp; omega, ?_, by simpa [PyData.hasDict] using h.nd⟩
  have e1 : ((("(" : String) : Str)).length = 1 := rfl
  have e2 : (((if ds.length == 1 then ",)" else ")" : String) : Str)).length ≤ 2 := by split <;> decide
  have e3 := join_piled (PyData.shownAll ds)
  have e4 := h.ln
  rw [PyData.shown_tuple, strLen_append, strLen_append, e1]; omega
theorem Tells.of {k n : Nat} {d : PyData} (h : Tb k n d) (h1 : k ≤ 64) (h2 : n ≤ 16777216) : Tells d :=
  ⟨h.sh, Nat.le_trans h.dp h1, by have := h.ln; rw [sizeLine_eq]; omega, h.nd⟩
/-! ### calls with keywords -/
/-- some of a list, by their places -/
def pickN {α : Type} (l : List Nat) (xs : List α) : List α := l.filterMap fun i => xs[i]?
theorem vals_at : ∀ {vs : List V} {us : List Value}, Vals vs us → ∀ i : Nat, (∃ v u, vs[i]? = some v ∧ us[i]? = some u ∧ RelV v u) ∨ (vs[i]? = none ∧ us[i]? = none)
  | _, _, .nil, i => .inr ⟨rfl, rfl⟩
  | _, _, .cons h t, 0 => .inl ⟨_, _, rfl, rfl, h⟩
  | _, _, .cons h t, i + 1 => vals_at t i
theorem vals_pick {vs : List V} {us : List Value} (h : Vals vs us) : ∀ l : List Nat, Vals (pickN l vs) (pickN l us)
  | [] => .nil
  | i :: l => by
    rcases vals_at h i with ⟨v, u, e1, e2, r⟩ | ⟨e1, e2⟩
    · simp only [pickN, List.filterMap_cons, e1, e2]; exact .cons r (vals_pick h l)
    · simp only [pickN, List.filterMap_cons, e1, e2]; exact vals_pick h l
/-- n positional values, the keywords ks; l: where each parameter's value stands among them -/
abbrev gN {α : Type} (l : List Nat) (us ws : List α) : List α := pickN l (us ++ ws)
theorem kbn_of {K : PySem.W.Frag} {x qual : Str} {st : Stmt} {f : Addr} {fd : FuncData} {ps : List Str} (F : Fun K x qual st f fd) (n : Nat) (ks : List Str) (l : List Nat)
    (h : ∀ (kV doc pm : Value) (an : Option Addr) (cdv ct : Value) (us ws : List Value), us.length = n → ws.length = ks.length →
      bindArgs (PySem.W.fnOf x qual (defArgs st) (defBody st) (defScope st) .none kV doc pm an cdv ct) ⟨us, ks.zip ws⟩ = pure (ps.zip (gN l us ws))) :
    KBn K fd ps n ks (gN l) (gN l) := by
  obtain ⟨oc, od, kV, doc, pm, an, cdv, ct, osl, rfl, lk, hcd⟩ := F.ex
  exact ⟨fun s us ws _ l1 l2 => .of_eq (h kV doc pm an cdv ct us ws l1 l2), fun r1 r2 => vals_pick (r1.append r2) l⟩
section
variable {X : Cx} {CX : CXT} {k n : Nat} {f : Addr} {fd : FuncData} {ps ks : List Str} {sp : Sp} {E : XK} {x : Str} {p pos : Pos} {e : Expr} {es : List Expr} {kws : List Keyword} {t tk : TA} {g : List Value → List Value → List Value} {gV : List V → List V → List V}
theorem run_fnNG {pins : List (Addr × Obj)} {σ : L2.St} {H : Hp} {s : Shared} {Q : VK} {us ws : List Value} {vs zs : List V} (F : FnG X.prog X.w X.K X.mg X.base CX k f fd ps sp) (hG : NoRepr X) (hr : Room k X.A) (hb : KBn X.K fd ps n ks g gV) (hx : Passes CX X E)
    (I : Inv X pins σ H s) (r : Vals vs us) (rz : Vals zs ws) (l1 : vs.length = n) (l2 : zs.length = ks.length) (h : sp (gV vs zs) H Q E) : wpAny (model X.prog X.w) X.A (call (.ref f) us (ks.zip ws)) (EP X pins σ Q) X.xe s := by
  have r2 := hb.rel r rz
  refine wpAny_call (codeAny_mono (F.go X.A X.stack s H ⟨us, ks.zip ws⟩ (g us ws) (gV vs zs) Q E hG hr I.env0 (hb.to s us ws I.kIn (r.length.symm.trans l1) (rz.length.symm.trans l2)) r2 h) fun r s' hq => ?_)
  cases r with
  | error e => exact hx pins σ H s e s' I hq
  | ok fl =>
    cases fl with
    | ret u => exact I.after hq
    | next => exact False.elim hq
    | brk => exact False.elim hq
    | cont => exact False.elim hq
/-- keywords, behind positional values or without -/
theorem pe_callNG (F : FnG X.prog X.w X.K X.mg X.base CX k f fd ps sp) (hG : NoRepr X) (hr : Room k X.A) (hg : Gl X x) (hm : X.mg x = some (.ref f)) (hk : PySem.W.keepIn X.K (.ref f) = true) (hb : KBn X.K fd ps n ks g gV) (hx : Passes CX X E)
    (ha : PA X (e :: es) t) (hkw : PK X kws tk) (hall : (backToKw pos (keywordEach kws X.env)).all (·.1.isSome) = true := by rfl) (hks : (backToKw pos (keywordEach kws X.env)).filterMap (·.1) = ks := by rfl)
    (hdb : (x == ("__debug__" : Str)) = false := by decide) (he : starEach (e :: es) X.env = (false, eval e X.env) :: starEach es X.env := by rfl)
    (hpl : ((backTo pos (starEach (e :: es) X.env)).any (·.1) || (backToKw pos (keywordEach kws X.env)).any (·.1.isNone)) = false := by rfl) :
    PE X (.Call (.Name x p) (e :: es) kws pos) (tCallN n ks.length sp gV E t tk) := by
  refine ⟨fun pins s σ H Q I h => ?_⟩
  refine wpAny_Call_Name_kw (ld_glob I hg hm ?_ hdb)
  refine PySem.W.callWith_KW (h₀ := X.base) I.ok.mod.kin hk hall (thn (ha.run pos pins s σ H _ I h) fun us s1 ⟨vs, H1, I1, r, q⟩ => ?_) hpl he
  refine thn (hkw.run pos pins s1 σ H1 _ I1 q) fun ws s2 ⟨zs, H2, I2, rz, l1, l2, q2⟩ => ⟨I2.kIn, ?_⟩
  rw [hks]
  exact run_fnNG F hG hr hb hx I2 r rz l1 l2 q2
theorem pe_callNG0 (F : FnG X.prog X.w X.K X.mg X.base CX k f fd ps sp) (hG : NoRepr X) (hr : Room k X.A) (hg : Gl X x)
    (hm : X.mg x = some (.ref f)) (hk : PySem.W.keepIn X.K (.ref f) = true) (hb : KBn X.K fd ps 0 ks g gV) (hx : Passes CX X E) (hkw : PK X kws tk)
    (hall : (backToKw pos (keywordEach kws X.env)).all (·.1.isSome) = true := by rfl) (hks : (backToKw pos (keywordEach kws X.env)).filterMap (·.1) = ks := by rfl)
    (hdb : (x == ("__debug__" : Str)) = false := by decide)
    (hpl : ((backTo pos (starEach [] X.env)).any (·.1) || (backToKw pos (keywordEach kws X.env)).any (·.1.isNone)) = false := by rfl) :
    PE X (.Call (.Name x p) [] kws pos) (tCallN 0 ks.length sp gV E tNil tk) :=
  ⟨fun pins s σ H Q I h => wpAny_Call_Name_kw (ld_glob I hg hm (PySem.W.callWith_KW0 (h₀ := X.base) I.ok.mod.kin hk hall
    (thn (hkw.run pos pins s σ H _ I h) fun ws s2 ⟨zs, H2, I2, rz, l1, l2, q2⟩ => ⟨I2.kIn, by
      rw [hks]
      exact run_fnNG (us := []) (vs := []) F hG hr hb hx I2 .nil rz rfl l2 q2⟩) hpl) hdb)⟩
end
theorem fun_okG {P : Program} {w : World} {K : PySem.W.Frag} {mg : Str → Option Value} {base : Heap} {x qual : Str} {st : Stmt} {f : Addr} {fd : FuncData} {N ps : List Str} {k : Nat} {sp : Sp}
    (F : Fun K x qual st f fd) (S : FnScope N ps (defScope st)) (ln : ∀ ys G R E, sp ys G R E → ys.length = ps.length)
    (hbody : ∀ (cdv : Value) (A : Around) (outer : List Env) (s : Shared) (G : Hp) (ys : List V) (R : VK) (E : XK), A.guards = some [] →
      Room k (A.deeper (envOfC qual (defScope st) s.heap.objs.size f cdv)) → sp ys G R E →
      ∃ t, PSs (cxOf CX0 P w K mg base N qual (defScope st) f cdv A outer s G E).nox (defBody st) t ∧ t { nx := fun _ G' => R .non G', rt := R } (start N ys) G) :
    FnG P w K mg base CX0 (k + 1) f fd ps sp := by
  obtain ⟨oc, od, kV, doc, pm, an, cdv, ct, osl, rfl, lk, hcd⟩ := F.ex
  refine fnG_of lk hcd S ln fun A outer s G ys R E hg hr hsp => ?_
  obtain ⟨t, h, z⟩ := hbody cdv A outer s G ys R E hg hr hsp
  exact ⟨t, h.nox, z⟩
end Vl

set_option Elab.async false
set_option linter.all false
set_option maxRecDepth 100000
set_option maxHeartbeats 2000000
/-! what a def computes of its arguments; calls; a def by its body -/
namespace Vl
open PySem PySem.Spec L2
variable {Γ : KC} {c : Ctx} {M N M0 : Addr → Prop} {s s' s1 s2 s3 : S} {σ σ1 σ2 : L2.St} {H H' H1 H2 : Hp} {v : V} {d : D} {ds : List D} {vs : List V} {i : Nat} {X : Cx} {E : XK} {e a b : Expr} {f fa fb : PM D} {p q pa pb : Bool} {m ma mb : Md} {t ta tb te : TE} {pos : Pos} {ts tr : TS} {g g1 g2 : S → SO} {D0 : Ends} {x : Str} {as : List Addr} {ms : List Md}

def Tps (Γ : KC) (M : Addr → Prop) (H : Hp) : List D → List Addr → Prop
  | ds, [] => ds = []
  | ds, a :: as => ∃ d r, ds = d :: r ∧ Tp Γ M H d a ∧ Tps Γ M H r as
theorem Tps.anti (s : Sub H N M) : ∀ {as ds}, Tps Γ M H ds as → Tps Γ N H ds as
  | [], _, h => h
  | _ :: _, _, ⟨d, r, h1, h2, h3⟩ => ⟨d, r, h1, h2.anti s, Tps.anti s h3⟩
/-- an exception, M being what may change -/
def XrM (Γ : KC) (M : Addr → Prop) (x : Exc) (cls : Value) (dd : Option Addr) (H' : Hp) : Prop :=
  ∃ C, Γ.cl x.cls = some C ∧ cls = .ref C ∧ ∃ a gs, dd = some a ∧ H' a = some (.xd gs) ∧ Dmf Γ M H' x.fs gs
def Res (Γ : KC) (M : Addr → Prop) (m : Md) (H H' : Hp) (r : D) (outs : List D) (as : List Addr) (v : V) : Prop :=
  match m with
  | .fr => ∃ a, v = .ref a ∧ H a = none ∧ Tp Γ (Vl.plus M a) H' r a ∧ Tps Γ (Vl.plus M a) H' outs as
  | _ => Dm Γ M H' r v ∧ Tps Γ M H' outs as
/-- the promise: at arguments ds (those of kind fr its own) what F tells -/
def spM (Γ : KC) (ms : List Md) (m : Md) (F : List D → OF) : Sp := fun vs H Q E => ∃ (M0 : Addr → Prop) (ds : List D) (as : List Addr), (∀ a, M0 a → ∃ o, H a = some o ∧ MutO o) ∧ as.Nodup ∧ (∀ a ∈ as, ¬ M0 a) ∧ Bd Γ (plusL M0 as) H ms ds vs as ∧
  match F ds with
  | .ok r outs => ∀ v H', ExM (fun b => b ∈ as) H H' → Up H H' → Res Γ (plusL M0 as) m H H' r outs as v → Q v H'
  | .exc x outs => ∀ cls dd H', ExM (fun b => b ∈ as) H H' → Up H H' → Tps Γ (plusL M0 as) H' outs as → XrM Γ (plusL M0 as) x cls dd H' → E cls dd H'
  | .no => False
theorem Bd.len : ∀ {ms ds vs as}, Bd Γ M H ms ds vs as → vs.length = ms.length ∧ ds.length = ms.length
  | [], _, _, _, ⟨h1, h2, _⟩ => by subst h1; subst h2; exact ⟨rfl, rfl⟩
  | .st :: ms, _, _, _, ⟨d, ds', v, vs', h1, h2, h3, h4⟩ => by subst h1; subst h2; have := h4.len; exact ⟨by simp [this.1], by simp [this.2]⟩
  | .fr :: ms, _, _, _, ⟨d, ds', a, vs', as', h1, h2, h3, h4, h5⟩ => by subst h1; subst h2; have := h5.len; exact ⟨by simp [this.1], by simp [this.2]⟩
  | .now :: _, _, _, _, h => h.elim
theorem spM_len {F : List D → OF} (n : Nat) (hn : ms.length = n) (h : spM Γ ms m F vs H Q E) : vs.length = n := by
  obtain ⟨_, _, _, _, _, _, hb, _⟩ := h
  rw [hb.len.1, hn]

/-! ### calls: arguments that are shared -/
theorem bd_all : ∀ {ds vs}, Dms Γ M H ds vs → Bd Γ M H (ds.map fun _ => .st) ds vs []
  | [], _, h => by simp only [Dms] at h; exact ⟨rfl, h, rfl⟩
  | d :: ds, _, h => by
    obtain ⟨x, r, rfl, h1, h2⟩ := h.uncons
    exact ⟨d, ds, x, r, rfl, rfl, h1, bd_all h2⟩
theorem plusL_nil {M : Addr → Prop} (b : Addr) : plusL M [] b ↔ M b := by unfold plusL; simp
def noMf (fs : List (Str × D)) : Bool := fs.all fun kv => noM kv.2
theorem Dmf.keep (hI : ∀ a, M a → ∃ o, H a = some o ∧ MutO o) : ∀ {fs : List (Str × D)} {gs : List (Str × V)}, noMf fs = true → Dmf Γ N H fs gs → Dmf Γ M H fs gs
  | [], _, _, h => by simp only [Dmf] at h ⊢; exact h
  | (k, d) :: fs, _, n, h => by
    simp only [Dmf] at h ⊢
    unfold noMf at n
    rw [List.all_cons, Bool.and_eq_true] at n
    obtain ⟨x, r, e1, h1, h2⟩ := h
    exact ⟨x, r, e1, Dm.keep hI d x n.1 h1, Dmf.keep hI n.2 h2⟩
def callM (n : Nat) (F : List D → OF) (fl : PM (List D)) : PM D := fun s => match fl s with
  | .ok ds s1 => if ds.length = n then (match F ds with | .ok r _ => .ok r s1 | .exc x _ => if noMf x.fs = true then .exc x s1 else .no | .no => .no) else .no
  | .exc x s1 => .exc x s1
  | .no => .no
theorem pu_call {n : Nat} {F : List D → OF} {fl : PM (List D)} (h : Pu p fl) : Pu p (callM n F fl) := fun hp s d s' e => by
  unfold callM at e
  cases e1 : fl s with
  | no => rw [e1] at e; cases e
  | exc x s1 => rw [e1] at e; cases e
  | ok ds s1 =>
    rw [e1] at e; dsimp only at e
    have := h hp s ds s1 e1
    subst this
    split at e
    · cases e2 : F ds with
      | no => rw [e2] at e; cases e
      | exc x o => rw [e2] at e; dsimp only at e; revert e; split <;> (intro e; cases e)
      | ok r o => rw [e2] at e; cases e; rfl
    · cases e
theorem map_const {n : Nat} (h : ds.length = n) : (ds.map fun _ => Md.st) = List.replicate n .st := by
  subst h; induction ds with
  | nil => rfl
  | cons d ds ih => simp [List.replicate_succ, ih]
/-- what is asked of the promise at the call -/
theorem ask_call {n : Nat} {F : List D → OF} {fl : PM (List D)} {Q : VK} (L : Lv (c.at M0) s σ H) (e1 : fl s = .ok ds s1) (f1 : Fr p (Own (c.at M0) s σ) H H1) (L1 : Lv (c.at M0) s1 σ H1) (m1 : ∀ a, Own (c.at M0) s1 σ a → Own (c.at M0) s σ a) {ma : Md} (h1 : Mds (c.at M0) ma s1 σ H1 ds vs) (hp : p = true → s1 = s)
    (hm : (ma = .st ∧ (m = .st ∨ m = .fr) ∧ mb = m) ∨ (m = .st ∧ mb = .now)) (q : Po (c.at M0) E p mb s σ H Q (callM n F fl s)) : spM c.Γ (List.replicate n .st) m F vs H1 Q E := by
  unfold callM at q
  rw [e1] at q; dsimp only at q
  split at q
  · rename_i hn
    have fr : ∀ {H'}, Same H1 H' → Fr p (Own (c.at M0) s σ) H H' := fun {H'} z => by
      have z2 := f1.and (q := true) (N := Own (c.at M0) s σ) (Fr.of z) fun _ z => z
      rwa [Bool.and_true] at z2
    have sm : ∀ {H'}, ExM (fun b => b ∈ ([] : List Addr)) H1 H' → Same H1 H' := fun {H'} z a o h => z a o (by simp) h
    have exc : ∀ {x : Exc} {M : Addr → Prop} {cls dd H'}, noMf x.fs = true → Same H1 H' → XrM c.Γ M x cls dd H' → Xr (c.at M0) s1 σ x cls dd H' := fun {x M cls dd H'} hn e z => by
      obtain ⟨C, h1, h2, a, gs, h3, h4, h5⟩ := z
      exact ⟨C, h1, h2, a, gs, h3, h4, Dmf.keep (fun b y => (L1.mono e).alive y) hn h5⟩
    rcases hm with ⟨rfl, hm, rfl⟩ | ⟨rfl, rfl⟩
    · refine ⟨Mo (c.at M0) s1 σ, ds, [], fun b z => L1.alive z, List.nodup_nil, fun _ z => (nomatch z), ?_, ?_⟩
      · have := bd_all (Γ := c.Γ) (M := plusL (Mo (c.at M0) s1 σ) []) (H := H1) (ds := ds) (vs := vs) (Dms.anti (fun b z _ => (plusL_nil b).mp z) ds vs h1)
        rwa [map_const hn] at this
      · cases e2 : F ds with
        | no => rw [e2] at q; exact q
        | exc x o =>
          rw [e2] at q; dsimp only at q
          split at q
          · exact fun cls dd H' ex up _ xr => q cls dd H' (L1.mono (sm ex)) (Fr.weak (fr (sm ex))) m1 (exc (by assumption) (sm ex) xr)
          · exact q.elim
        | ok r o =>
          rw [e2] at q
          intro v H' ex up rs
          refine q v H' (fr (sm ex)) (L1.mono (sm ex)) m1 ?_
          rcases hm with rfl | rfl
          · exact Dm.anti (fun b z _ => (plusL_nil b).mpr z) _ _ rs.1
          · obtain ⟨a, rfl, hn', t, _⟩ := rs
            exact ⟨a, rfl, L1.notMo hn', .inr (fresh_back f1 hn'), (L1.plus hn').mono (sm ex), t.anti fun b z _ => z.elim (fun y => .inl ((plusL_nil b).mpr y)) .inr⟩
    · refine ⟨Vl.no, ds, [], fun b z => z.elim, List.nodup_nil, fun _ z => (nomatch z), ?_, ?_⟩
      · have := bd_all (Γ := c.Γ) (M := plusL Vl.no []) (H := H1) (ds := ds) (vs := vs) (Dms.anti (fun b z _ => (plusL_nil b).mp z) ds vs h1.no)
        rwa [map_const hn] at this
      · cases e2 : F ds with
        | no => rw [e2] at q; exact q
        | exc x o =>
          rw [e2] at q; dsimp only at q
          split at q
          · exact fun cls dd H' ex up _ xr => q cls dd H' (L1.mono (sm ex)) (Fr.weak (fr (sm ex))) m1 (exc (by assumption) (sm ex) xr)
          · exact q.elim
        | ok r o =>
          rw [e2] at q
          intro v H' ex up rs
          refine q v H' (fr (sm ex)) (L1.mono (sm ex)) m1 ?_
          exact Dm.anti (fun b z _ => (plusL_nil b).mpr z) _ _ rs.1
  · exact q.elim
theorem ve_call {n : Nat} {F : List D → OF} {tl : TA} {fl : PM (List D)} (h : VA c E p ma tl fl) (hm : (ma = .st ∧ (m = .st ∨ m = .fr) ∧ mb = m) ∨ (m = .st ∧ mb = .now)) : VE c E p mb (tCall (spM c.Γ (List.replicate n .st) m F) [] E tl) (callM n F fl) := ⟨pu_call h.pu, fun M0 s σ H L Q q => h.run M0 s σ H L _ (by
  cases e1 : fl s with
  | no => unfold callM at q; rw [e1] at q; exact q
  | exc x s1 => unfold callM at q; rw [e1] at q; exact q
  | ok ds s1 => exact fun vs H1 f1 L1 m1 h1 => by dsimp only; rw [List.append_nil]; exact ask_call (fl := fl) L e1 f1 L1 m1 h1 (fun hp => h.pu hp _ _ _ e1) hm q)⟩
/-- how the kinds go together -/
inductive CK : Md → Md → Md → Prop where
  | st : CK .st .st .st
  | fr : CK .st .fr .fr
  | now {ma : Md} : CK ma .st .now
theorem CK.out (h : CK ma m mb) : (ma = .st ∧ (m = .st ∨ m = .fr) ∧ mb = m) ∨ (m = .st ∧ mb = .now) := by
  cases h
  · exact .inl ⟨rfl, .inl rfl, rfl⟩
  · exact .inl ⟨rfl, .inr rfl, rfl⟩
  · exact .inr ⟨rfl, rfl⟩
variable {CX : CXT} {k : Nat} {fa' : Addr} {fd : FuncData} {ps : List Str} {F : List D → OF} {es : List Expr} {p0 : Pos} {fl : PM (List D)}
theorem me_call {n : Nat} (G : FnG X.prog X.w X.K X.mg X.base CX k fa' fd ps (spM c.Γ (List.replicate n .st) m F)) (hG : NoRepr X) (hr : Room k X.A) (hg : Gl X x) (hmg : X.mg x = some (.ref fa')) (hk : PySem.W.keepIn X.K (.ref fa') = true) (hb : Binds X.K fd ps []) (hx : Passes CX X E)
    (ck : CK ma m mb) (ha : MA X c E p ma (e :: es) fl) (hdb : (x == ("__debug__" : Str)) = false := by decide) (he : starEach (e :: es) X.env = (false, eval e X.env) :: starEach es X.env := by rfl)
    (hpl : (backTo pos (starEach es X.env)).any (·.1) = false := by rfl) : ME X c E p mb (.Call (.Name x p0) (e :: es) [] pos) (callM n F fl) :=
  let ⟨_, x1, y1⟩ := ha.ex; ⟨_, pe_callG G hG hr hg hmg hk hb .nil hx x1 hdb he hpl, ve_call y1 ck.out⟩
/-! keywords: the values in the parameters' order -/
def permA (l : List Nat) (n : Nat) (fl fk : PM (List D)) : PM (List D) := bd fl fun ds => bd fk fun es => fun s => if ds.length = n then .ok (pickN l (ds ++ es)) s else .no
structure VK2 (c : Ctx) (E : XK) (p : Bool) (m : Md) (n k : Nat) (l : List Nat) (t tk : TA) (f : PM (List D)) : Prop where
  pu : Pu p f
  run : ∀ M0 s σ H, Lv (c.at M0) s σ H → ∀ Q, PoA (c.at M0) E p m s σ H Q (f s) → t σ H fun vs H1 => tk σ H1 fun zs H2 => vs.length = n ∧ zs.length = k ∧ Q (gN l vs zs) H2
theorem dms_pick {vs : List V} {ds : List D} (h : Dms Γ M H ds vs) : ∀ l : List Nat, Dms Γ M H (pickN l ds) (pickN l vs)
  | [] => by simp [pickN, Dms]
  | i :: l => by
    cases e : ds[i]? with
    | none =>
      have e2 : vs[i]? = none := by rw [List.getElem?_eq_none_iff] at e ⊢; rw [h.len]; exact e
      simp only [pickN, List.filterMap_cons, e, e2]; exact dms_pick h l
    | some d =>
      obtain ⟨x, e2, hx⟩ := h.at e
      simp only [pickN, List.filterMap_cons, e, e2]; exact Dms.cons hx (dms_pick h l)
structure MK (X : Cx) (c : Ctx) (E : XK) (p : Bool) (m : Md) (kws : List Keyword) (f : PM (List D)) : Prop where
  ex : ∃ t, PK X kws t ∧ VA c E p m t f
theorem mk_nil (hm : m ≠ .fr := by decide) : MK X c E true m [] (pur []) := ⟨_, pk_nil, VA.nil hm⟩
theorem mk_cons {kws : List Keyword} {f : PM (List D)} {kpos : Pos} {nm : Option Str} (ha : ME X c E pa m e fa) (hr : MK X c E pb m kws f) (hs : Stay m pb) (hm : m ≠ .fr := by decide) : MK X c E (pa && pb) m (⟨nm, e, kpos⟩ :: kws) (consA fa f) :=
  let ⟨_, x1, y1⟩ := ha.ex; let ⟨_, x2, y2⟩ := hr.ex; ⟨_, pk_cons x1 x2, VA.cons y1 y2 hs hm⟩
theorem Mds.pick {ds : List D} {vs : List V} (h : Mds c m s' σ H' ds vs) (l : List Nat) : Mds c m s' σ H' (pickN l ds) (pickN l vs) := by
  cases m with
  | now => exact dms_pick h l
  | st => exact dms_pick h l
  | fr => exact h.elim
theorem Mds.app {ds es : List D} {vs ws : List V} (h : Mds c m s' σ H' ds vs) (h2 : Mds c m s' σ H' es ws) : Mds c m s' σ H' (ds ++ es) (vs ++ ws) := by
  cases m with
  | now => exact Dms.append h h2
  | st => exact Dms.append h h2
  | fr => exact h.elim
theorem Mds.len {ds : List D} {vs : List V} (h : Mds c m s' σ H' ds vs) : vs.length = ds.length := by
  cases m with
  | now => exact Dms.len h
  | st => exact Dms.len h
  | fr => exact h.elim
theorem vk2 {n kn : Nat} {l : List Nat} {tl tk : TA} {fl fk : PM (List D)} (h : VA c E pa m tl fl) (hk : VA c E pb m tk fk) (hs : Stay m pb) (hkn : ∀ s es s1, fk s = .ok es s1 → es.length = kn) : VK2 c E (pa && pb) m n kn l tl tk (permA l n fl fk) := ⟨h.pu.bnd fun ds => by
    have z := hk.pu.bnd (q := true) (g := fun es => fun s => if ds.length = n then .ok (pickN l (ds ++ es)) s else .no) fun es _ s d s' e => by
      split at e
      · cases e; rfl
      · cases e
    rw [Bool.and_true] at z; exact z, fun M0 s σ H L Q q => h.run M0 s σ H L _ (by
  unfold permA at q
  cases e1 : fl s with
  | no => rw [bnd_no e1] at q; exact q
  | exc x s1 => rw [bnd_exc e1] at q; exact q
  | ok ds s1 =>
    rw [bnd_ok e1] at q
    refine fun vs H1 f1 L1 m1 h1 => hk.run M0 s1 σ H1 L1 _ ?_
    cases e2 : fk s1 with
    | no => rw [bnd_no e2] at q; exact q
    | exc x s2 => rw [bnd_exc e2] at q; exact exc_next (o := no) f1 m1 q
    | ok es s2 =>
      rw [bnd_ok e2] at q
      intro zs H2 f2 L2 m2 h2
      split at q
      · rename_i hn
        have h1' := h1.stay f2 m2 hs
        exact ⟨h1'.len.trans hn, h2.len.trans (hkn _ _ _ e2), q _ H2 (f1.and f2 m1) L2 (iff_trans m2 m1) ((h1'.app h2).pick l)⟩
      · exact q.elim)⟩
theorem consA_len {fl : PM (List D)} {kn : Nat} (h : ∀ s es s1, fl s = .ok es s1 → es.length = kn) : ∀ s es s1, consA fa fl s = .ok es s1 → es.length = kn + 1 := fun s es s1 e => by
  unfold consA at e
  cases e1 : fa s with
  | no => rw [bnd_no e1] at e; cases e
  | exc x s1 => rw [bnd_exc e1] at e; cases e
  | ok d s2 =>
    rw [bnd_ok e1] at e
    cases e2 : fl s2 with
    | no => rw [bnd_no e2] at e; cases e
    | exc x s1 => rw [bnd_exc e2] at e; cases e
    | ok ds s3 => rw [bnd_ok e2] at e; cases e; simp [h _ _ _ e2]
theorem nilA_len : ∀ s es s1, (pur [] : PM (List D)) s = .ok es s1 → es.length = 0 := fun s es s1 e => by cases e; rfl
theorem ve_callK {n n0 kn : Nat} {l : List Nat} {F : List D → OF} {tl tk : TA} {fl : PM (List D)} (h : VK2 c E p ma n0 kn l tl tk fl) (hm : (ma = .st ∧ (m = .st ∨ m = .fr) ∧ mb = m) ∨ (m = .st ∧ mb = .now)) : VE c E p mb (tCallN n0 kn (spM c.Γ (List.replicate n .st) m F) (gN l) E tl tk) (callM n F fl) := ⟨pu_call h.pu, fun M0 s σ H L Q q => h.run M0 s σ H L (fun vs H1 => spM c.Γ (List.replicate n .st) m F vs H1 Q E) (by
  cases e1 : fl s with
  | no => unfold callM at q; rw [e1] at q; exact q
  | exc x s1 => unfold callM at q; rw [e1] at q; exact q
  | ok ds s1 => exact fun vs H1 f1 L1 m1 h1 => ask_call (fl := fl) L e1 f1 L1 m1 h1 (fun hp => h.pu hp _ _ _ e1) hm q)⟩
theorem me_callK {n n0 : Nat} {l : List Nat} {kws : List Keyword} {ks : List Str} {fk : PM (List D)} (G : FnG X.prog X.w X.K X.mg X.base CX k fa' fd ps (spM c.Γ (List.replicate n .st) m F)) (hG : NoRepr X) (hr : Room k X.A) (hg : Gl X x) (hmg : X.mg x = some (.ref fa')) (hk : PySem.W.keepIn X.K (.ref fa') = true) (hb : KBn X.K fd ps n0 ks (gN l) (gN l)) (hx : Passes CX X E)
    (ck : CK ma m mb) (ha : MA X c E pa ma (e :: es) fl) (hkw : MK X c E pb ma kws fk) (hs : Stay ma pb) (hkn : ∀ s es s1, fk s = .ok es s1 → es.length = ks.length)
    (hall : (backToKw pos (keywordEach kws X.env)).all (·.1.isSome) = true := by rfl) (hks : (backToKw pos (keywordEach kws X.env)).filterMap (·.1) = ks := by rfl)
    (hdb : (x == ("__debug__" : Str)) = false := by decide) (he : starEach (e :: es) X.env = (false, eval e X.env) :: starEach es X.env := by rfl)
    (hpl : ((backTo pos (starEach (e :: es) X.env)).any (·.1) || (backToKw pos (keywordEach kws X.env)).any (·.1.isNone)) = false := by rfl) : ME X c E (pa && pb) mb (.Call (.Name x p0) (e :: es) kws pos) (callM n F (permA l n0 fl fk)) :=
  let ⟨_, x1, y1⟩ := ha.ex; let ⟨_, x2, y2⟩ := hkw.ex; ⟨_, pe_callNG G hG hr hg hmg hk hb hx x1 x2 hall hks hdb he hpl, ve_callK (vk2 y1 y2 hs hkn) ck.out⟩
theorem me_callK0 {n : Nat} {l : List Nat} {kws : List Keyword} {ks : List Str} {fk : PM (List D)} (G : FnG X.prog X.w X.K X.mg X.base CX k fa' fd ps (spM c.Γ (List.replicate n .st) m F)) (hG : NoRepr X) (hr : Room k X.A) (hg : Gl X x) (hmg : X.mg x = some (.ref fa')) (hk : PySem.W.keepIn X.K (.ref fa') = true) (hb : KBn X.K fd ps 0 ks (gN l) (gN l)) (hx : Passes CX X E)
    (ck : CK ma m mb) (hma : ma ≠ .fr) (hkw : MK X c E pb ma kws fk) (hs : Stay ma pb) (hkn : ∀ s es s1, fk s = .ok es s1 → es.length = ks.length)
    (hall : (backToKw pos (keywordEach kws X.env)).all (·.1.isSome) = true := by rfl) (hks : (backToKw pos (keywordEach kws X.env)).filterMap (·.1) = ks := by rfl)
    (hdb : (x == ("__debug__" : Str)) = false := by decide)
    (hpl : ((backTo pos (starEach [] X.env)).any (·.1) || (backToKw pos (keywordEach kws X.env)).any (·.1.isNone)) = false := by rfl) : ME X c E (true && pb) mb (.Call (.Name x p0) [] kws pos) (callM n F (permA l 0 (pur []) fk)) :=
  let ⟨_, x2, y2⟩ := hkw.ex; ⟨_, pe_callNG0 G hG hr hg hmg hk hb hx x2 hall hks hdb hpl, ve_callK (vk2 (VA.nil hma) y2 hs hkn) ck.out⟩
end Vl

set_option Elab.async false
set_option linter.all false
set_option maxRecDepth 100000
set_option maxHeartbeats 2000000
/-! a def by its body; a call whose callee changes what slots own -/
namespace Vl
open PySem PySem.Spec L2
open PyProof.Rows (envOfC)
variable {Γ : KC} {c : Ctx} {M N M0 : Addr → Prop} {s s' s1 s2 s3 : S} {σ σ1 σ2 : L2.St} {H H' H1 H2 : Hp} {v : V} {d : D} {ds : List D} {vs : List V} {i : Nat} {X : Cx} {E : XK} {e a b : Expr} {f fa fb : PM D} {p q pa pb : Bool} {m ma mb : Md} {t ta tb te : TE} {pos : Pos} {ts tr : TS} {g g1 g2 : S → SO} {D0 : Ends} {x : Str} {as : List Addr} {ms : List Md}

theorem Bd.st_at : ∀ {ms : List Md} {ds : List D} {vs : List V} {as : List Addr} {i : Nat} {d : D}, Bd Γ M H ms ds vs as → ms[i]? = some .st → ds[i]? = some d → ∃ v, vs[i]? = some v ∧ Dm Γ M H d v
  | [], _, _, _, _, _, _, h, _ => by simp at h
  | .st :: ms, _, _, _, i, d', ⟨d, ds', v, vs', h1, h2, h3, h4⟩, h, hd => by
    subst h1; subst h2
    cases i with
    | zero => cases hd; exact ⟨v, rfl, h3⟩
    | succ i => exact Bd.st_at (i := i) h4 (by simpa using h) (by simpa using hd)
  | .fr :: ms, _, _, _, i, d', ⟨d, ds', a, vs', as', h1, h2, h3, h4, h5⟩, h, hd => by
    subst h1; subst h2
    cases i with
    | zero => simp at h
    | succ i => exact Bd.st_at (i := i) h5 (by simpa using h) (by simpa using hd)
  | .now :: _, _, _, _, _, _, h, _, _ => h.elim
theorem Bd.fr_at : ∀ {ms : List Md} {ds : List D} {vs : List V} {as : List Addr} {i : Nat} {d : D}, Bd Γ M H ms ds vs as → ms[i]? = some .fr → ds[i]? = some d → ∃ a, vs[i]? = some (.ref a) ∧ a ∈ as ∧ Tp Γ M H d a
  | [], _, _, _, _, _, _, h, _ => by simp at h
  | .st :: ms, _, _, _, i, d', ⟨d, ds', v, vs', h1, h2, h3, h4⟩, h, hd => by
    subst h1; subst h2
    cases i with
    | zero => simp at h
    | succ i => exact Bd.fr_at (i := i) h4 (by simpa using h) (by simpa using hd)
  | .fr :: ms, _, _, _, i, d', ⟨d, ds', a, vs', as', h1, h2, h3, h4, h5⟩, h, hd => by
    subst h1; subst h2; subst h3
    cases i with
    | zero => cases hd; exact ⟨a, rfl, List.mem_cons_self .., h4⟩
    | succ i =>
      obtain ⟨b, h6, h7, h8⟩ := Bd.fr_at (i := i) h5 (by simpa using h) (by simpa using hd)
      exact ⟨b, by simpa using h6, List.mem_cons_of_mem _ h7, h8⟩
  | .now :: _, _, _, _, _, _, h, _, _ => h.elim
theorem Bd.at_fr : ∀ {ms : List Md} {ds : List D} {vs : List V} {as : List Addr} {a : Addr}, Bd Γ M H ms ds vs as → a ∈ as → ∃ (i : Nat) (d : D), ms[i]? = some Md.fr ∧ vs[i]? = some (V.ref a) ∧ ds[i]? = some d
  | [], _, _, _, _, ⟨_, _, h⟩, z => by subst h; cases z
  | .st :: ms, _, _, _, a', ⟨d, ds', v, vs', h1, h2, h3, h4⟩, z => by
    subst h1; subst h2
    obtain ⟨i, d', e1, e2, e3⟩ := Bd.at_fr h4 z
    exact ⟨i + 1, d', by simpa using e1, by simpa using e2, by simpa using e3⟩
  | .fr :: ms, _, _, _, a', ⟨d, ds', a, vs', as', h1, h2, h3, h4, h5⟩, z => by
    subst h1; subst h2; subst h3
    rcases List.mem_cons.mp z with z | z
    · subst z; exact ⟨0, d, rfl, rfl, rfl⟩
    · obtain ⟨i, d', e1, e2, e3⟩ := Bd.at_fr h5 z
      exact ⟨i + 1, d', by simpa using e1, by simpa using e2, by simpa using e3⟩
  | .now :: _, _, _, _, _, h, _ => h.elim
theorem Bd.inj : ∀ {ms : List Md} {ds : List D} {vs : List V} {as : List Addr} {a : Addr} {i j : Nat}, Bd Γ M H ms ds vs as → as.Nodup → ms[i]? = some .fr → ms[j]? = some .fr → vs[i]? = some (.ref a) → vs[j]? = some (.ref a) → i = j
  | [], _, _, _, _, _, _, _, _, h, _, _, _ => by simp at h
  | .st :: ms, _, _, _, a', i, j, ⟨d, ds', v, vs', h1, h2, h3, h4⟩, nd, e1, e2, e3, e4 => by
    subst h1; subst h2
    cases i with
    | zero => simp at e1
    | succ i =>
      cases j with
      | zero => simp at e2
      | succ j => rw [Bd.inj (i := i) (j := j) h4 nd (by simpa using e1) (by simpa using e2) (by simpa using e3) (by simpa using e4)]
  | .fr :: ms, _, _, _, a', i, j, ⟨d, ds', a, vs', as', h1, h2, h3, h4, h5⟩, nd, e1, e2, e3, e4 => by
    subst h1; subst h2; subst h3
    rw [List.nodup_cons] at nd
    have in' : ∀ {k : Nat} {b : Addr}, ms[k]? = some Md.fr → vs'[k]? = some (V.ref b) → b ∈ as' := fun {k b} z1 z2 => by
      have hl := h5.len
      have hk : k < ds'.length := by rw [hl.2]; exact lt_of_get z1
      obtain ⟨a0, q1, q2, _⟩ := Bd.fr_at h5 z1 (List.getElem?_eq_getElem hk)
      rw [z2] at q1; cases q1; exact q2
    cases i with
    | zero =>
      cases j with
      | zero => rfl
      | succ j =>
        have z : a = a' := by simpa using e3
        subst z
        exact absurd (in' (k := j) (by simpa using e2) (by simpa using e4)) nd.1
    | succ i =>
      cases j with
      | zero =>
        have z : a = a' := by simpa using e4
        subst z
        exact absurd (in' (k := i) (by simpa using e1) (by simpa using e3)) nd.1
      | succ j => rw [Bd.inj (i := i) (j := j) h5 nd.2 (by simpa using e1) (by simpa using e2) (by simpa using e3) (by simpa using e4)]
  | .now :: _, _, _, _, _, _, _, h, _, _, _, _, _ => h.elim

/-! ### the entry -/
def ioOf (ms : List Md) (vs : List V) (i : Nat) : Option Addr := match ms[i]? with
  | some .fr => (match vs[i]? with | some (.ref a) => some a | _ => none)
  | _ => none
def ctxOf (Γ : KC) (ow : List Nat) (ms : List Md) (vs : List V) : Ctx := { Γ := Γ, M0 := no, ow := fun i => ow.contains i, io := ioOf ms vs }
def startS (n : Nat) (ds : List D) : S := ds.map some ++ List.replicate (n - ds.length) none
/-- the parameters that own are those of kind fr -/
def okP (ow : List Nat) (ms : List Md) : Bool := (List.range ms.length).all fun i => ow.contains i == (ms[i]? == some .fr)
theorem startS_at {n : Nat} (h : (startS n ds)[i]? = some (some d)) : ds[i]? = some d := by
  unfold startS at h
  by_cases hi : i < ds.length
  · rw [List.getElem?_append_left (by simpa using hi), List.getElem?_map] at h
    cases e : ds[i]? with
    | none => rw [e] at h; cases h
    | some x => rw [e] at h; cases h; rfl
  · rw [List.getElem?_append_right (by simpa using hi), List.getElem?_replicate] at h
    split at h <;> cases h
theorem startS_of {n : Nat} (h : ds[i]? = some d) : (startS n ds)[i]? = some (some d) := by
  unfold startS
  rw [List.getElem?_append_left (by simpa using lt_of_get h), List.getElem?_map, h]; rfl
theorem start_of {N : List Str} {v : V} (h : vs[i]? = some v) : (L2.start N vs)[i]? = some (some v) := by
  unfold L2.start
  rw [List.getElem?_append_left (by simpa using lt_of_get h), List.getElem?_map, h]; rfl
theorem start_at {N : List Str} {v : V} (h : (L2.start N vs)[i]? = some (some v)) : vs[i]? = some v := by
  unfold L2.start at h
  by_cases hi : i < vs.length
  · rw [List.getElem?_append_left (by simpa using hi), List.getElem?_map] at h
    cases e : vs[i]? with
    | none => rw [e] at h; cases h
    | some x => rw [e] at h; cases h; rfl
  · rw [List.getElem?_append_right (by simpa using hi), List.getElem?_replicate] at h
    split at h <;> cases h
theorem okP_at {ow : List Nat} (h : okP ow ms = true) {k : Md} (hi : ms[i]? = some k) : ow.contains i = (k == .fr) := by
  unfold okP at h
  have := List.all_eq_true.mp h i (List.mem_range.mpr (lt_of_get hi))
  rw [hi] at this
  have e := eq_of_beq this
  rw [e]; cases k <;> rfl
theorem Bd.kind (h : Bd Γ M H ms ds vs as) (hi : ms[i]? = some m) : m = .st ∨ m = .fr := by
  induction ms generalizing ds vs as i with
  | nil => simp at hi
  | cons k ms ih =>
    cases k with
    | st =>
      obtain ⟨d, ds', v, vs', h1, h2, h3, h4⟩ := h
      cases i with
      | zero => cases hi; exact .inl rfl
      | succ i => exact ih h4 (i := i) (by simpa using hi)
    | fr =>
      obtain ⟨d, ds', a, vs', as', h1, h2, h3, h4, h5⟩ := h
      cases i with
      | zero => cases hi; exact .inr rfl
      | succ i => exact ih h5 (i := i) (by simpa using hi)
    | now => exact h.elim
theorem own_start {N : List Str} {ow : List Nat} (hb : Bd Γ M H ms ds vs as) (ho : okP ow ms = true) (a : Addr) : Own ((ctxOf Γ ow ms vs).at M0) (startS N.length ds) (L2.start N vs) a ↔ a ∈ as := by
  constructor
  · rintro ⟨i, d, h1, h2, h3⟩
    have h2 := startS_at h2
    have h3 := start_at h3
    have hl := hb.len
    have hi : i < ms.length := by rw [← hl.2]; exact lt_of_get h2
    have hm := List.getElem?_eq_getElem hi
    have e := okP_at ho hm
    have h1 : ow.contains i = true := h1
    rw [h1] at e
    have hf : ms[i]? = some .fr := by rw [hm]; exact congrArg _ (eq_of_beq e.symm)
    obtain ⟨b, q1, q2, _⟩ := hb.fr_at hf h2
    rw [h3] at q1; cases q1; exact q2
  · intro z
    obtain ⟨i, d, h1, h2, h3⟩ := hb.at_fr z
    exact ⟨i, d, by have := okP_at ho h1; exact this, startS_of h3, start_of h2⟩
theorem lv_start {N : List Str} {ow : List Nat} (hb : Bd Γ (plusL M0 as) H ms ds vs as) (ho : okP ow ms = true) (hn : ms.length ≤ N.length) (m0 : ∀ a, M0 a → ∃ o, H a = some o ∧ MutO o) (nd : as.Nodup) (n0 : ∀ a ∈ as, ¬ M0 a) :
    Lv ((ctxOf Γ ow ms vs).at M0) (startS N.length ds) (L2.start N vs) H := by
  have hl := hb.len
  refine Lw.lv (M := plusL M0 as) ⟨?_, fun a z => ?_, fun i d h1 h2 => ?_, fun i d h1 h2 => ?_, fun i j a d e h1 h2 h3 h4 h5 h6 => ?_, m0, fun i a h => ?_⟩
  · unfold startS L2.start
    simp only [List.length_append, List.length_map, List.length_replicate]
    rw [hl.1, hl.2]
  · rcases z with z | z
    · exact .inl z
    · exact .inr ((own_start (M0 := M0) hb ho a).mp z)
  · have h1 := startS_at h1
    have hi : i < ms.length := by rw [← hl.2]; exact lt_of_get h1
    have hm := List.getElem?_eq_getElem hi
    have e := okP_at ho hm
    have h2 : ow.contains i = false := h2
    rw [h2] at e
    have hs : ms[i]? = some .st := by
      rcases hb.kind hm with k | k
      · rw [hm, k]
      · rw [k] at e; cases e
    obtain ⟨v, q1, q2⟩ := hb.st_at hs h1
    exact ⟨v, start_of q1, q2⟩
  · have h1 := startS_at h1
    have hi : i < ms.length := by rw [← hl.2]; exact lt_of_get h1
    have hm := List.getElem?_eq_getElem hi
    have e := okP_at ho hm
    have h2 : ow.contains i = true := h2
    rw [h2] at e
    have hf : ms[i]? = some .fr := by rw [hm]; exact congrArg _ (eq_of_beq e.symm)
    obtain ⟨a, q1, q2, q3⟩ := hb.fr_at hf h1
    exact ⟨a, start_of q1, n0 a q2, q3⟩
  · have k : ∀ {i : Nat} {d : D}, ow.contains i = true → (startS N.length ds)[i]? = some (some d) → ms[i]? = some .fr := fun {i d} z1 z2 => by
      have hi : i < ms.length := by rw [← hl.2]; exact lt_of_get (startS_at z2)
      have hm := List.getElem?_eq_getElem hi
      have e := okP_at ho hm
      rw [z1] at e
      rw [hm]; exact congrArg _ (eq_of_beq e.symm)
    exact hb.inj nd (k h1 h3) (k h2 h4) (start_at h5) (start_at h6)
  · have h : ioOf ms vs i = some a := h
    unfold ioOf at h
    split at h
    · rename_i hf
      split at h
      · rename_i b hv
        cases h
        have hi : i < ds.length := by rw [hl.2]; exact lt_of_get hf
        exact ⟨by have := okP_at ho hf; exact this, ⟨_, startS_of (List.getElem?_eq_getElem hi)⟩, start_of hv⟩
      · cases h
    · cases h
/-! ### the end -/
def outsAt : List Md → Nat → S → List D
  | [], _, _ => []
  | .fr :: ms, i, s => (match s[i]? with | some (some d) => d :: outsAt ms (i + 1) s | _ => outsAt ms (i + 1) s)
  | _ :: ms, i, s => outsAt ms (i + 1) s
theorem tps_outs {c : Ctx} (L : Lw c M s σ H) : ∀ {ms ds as} {vs : List V} {k : Nat}, Bd Γ N H1 ms ds vs as → (∀ j a, ms[j]? = some .fr → vs[j]? = some (.ref a) → c.ow (k + j) = true ∧ (∃ d, s[k + j]? = some (some d)) ∧ σ[k + j]? = some (some (.ref a))) → Tps c.Γ M H (outsAt ms k s) as
  | [], _, as, _, _, ⟨_, _, h⟩, _ => by subst h; rfl
  | .st :: ms, _, as, _, k, ⟨d, ds', v, vs', h1, h2, h3, h4⟩, h => by
    subst h1; subst h2
    exact tps_outs L (k := k + 1) h4 fun j a e1 e2 => by
      have := h (j + 1) a (by simpa using e1) (by simpa using e2)
      rwa [show k + (j + 1) = k + 1 + j by omega] at this
  | .fr :: ms, _, as, _, k, ⟨d, ds', a, vs', as', h1, h2, h3, h4, h5⟩, h => by
    subst h1; subst h2; subst h3
    obtain ⟨q1, ⟨d', q2⟩, q3⟩ := h 0 a rfl rfl
    rw [Nat.add_zero] at q1 q2 q3
    unfold outsAt
    rw [q2]
    obtain ⟨b, e1, _, t⟩ := L.own k d' q2 q1
    rw [q3] at e1; cases e1
    refine ⟨d', _, rfl, t, tps_outs L (k := k + 1) h5 fun j a e1 e2 => ?_⟩
    have := h (j + 1) a (by simpa using e1) (by simpa using e2)
    rwa [show k + (j + 1) = k + 1 + j by omega] at this
  | .now :: _, _, _, _, _, h, _ => h.elim
def runF (n : Nat) (ms : List Md) (m : Md) (g : S → SO) : List D → OF := fun ds => match g (startS n ds) with
  | .nx s => if m = .st then .ok .non (outsAt ms 0 s) else .no
  | .ret d s => .ok d (outsAt ms 0 s)
  | .exc x s => .exc x (outsAt ms 0 s)
  | _ => .no
theorem ask_body {N : List Str} {ow : List Nat} {R : VK} (hm : m ≠ .now) (ho : okP ow ms = true) (hn : ms.length ≤ N.length) (hsp : spM Γ ms m (runF N.length ms m g) vs H R E) {t : TS} (ht : VS (ctxOf Γ ow ms vs) E m t g) : t { nx := fun _ H' => R .non H', rt := R } (L2.start N vs) H := by
  obtain ⟨M0, ds, as, m0, nd, n0, hb, q⟩ := hsp
  have L := lv_start (N := N) hb ho hn m0 nd n0
  refine ht.run M0 _ _ _ L _ ?_
  have own := own_start (M0 := M0) (N := N) hb ho
  have sub : ∀ {s' : S} {σ' : L2.St} {H' : Hp}, Lv ((ctxOf Γ ow ms vs).at M0) s' σ' H' → ∀ b, plusL M0 as b → Mo ((ctxOf Γ ow ms vs).at M0) s' σ' b := fun {s' σ' H'} L' b z => by
    rcases z with z | z
    · exact .inl z
    · obtain ⟨i, d, e1, e2, e3⟩ := hb.at_fr z
      have hio : ((ctxOf Γ ow ms vs).at M0).io i = some b := by show ioOf ms vs i = some b; unfold ioOf; rw [e1]; dsimp only; rw [e2]
      obtain ⟨h1, ⟨d', h2⟩, h3⟩ := L'.iof i b hio
      exact .inr ⟨i, d', h1, h2, h3⟩
  have tps : ∀ {s' : S} {σ' : L2.St} {H' : Hp} {Mx : Addr → Prop}, Lw ((ctxOf Γ ow ms vs).at M0) Mx s' σ' H' → Tps Γ Mx H' (outsAt ms 0 s') as := fun {s' σ' H' Mx} L' => tps_outs L' (k := 0) hb fun j a e1 e2 => by
      have hio : ((ctxOf Γ ow ms vs).at M0).io j = some a := by show ioOf ms vs j = some a; unfold ioOf; rw [e1]; dsimp only; rw [e2]
      have := L'.iof j a hio
      rwa [Nat.zero_add]
  have ex : ∀ {s' : S} {σ' : L2.St} {H' : Hp}, Fo ((ctxOf Γ ow ms vs).at M0) (startS N.length ds) (L2.start N vs) H s' σ' H' → ExM (fun b => b ∈ as) H H' := fun {s' σ' H'} fo => fo.ex.imp fun b z => (own b).mp z
  unfold runF at q
  cases e : g (startS N.length ds) with
  | nx s' =>
    rw [e] at q
    intro σ' H' L' fo
    dsimp only at q
    by_cases hm2 : m = .st
    · rw [if_pos hm2] at q
      subst hm2
      exact q .non H' (ex fo) fo.up ⟨dm_non, Tps.anti (fun b z _ => sub L' b z) (tps L')⟩
    · rw [if_neg hm2] at q
      exact q.elim
  | ret d s' =>
    rw [e] at q
    intro σ' v H' L' fo rt
    refine q v H' (ex fo) fo.up ?_
    cases m with
    | now => exact absurd rfl hm
    | st => exact ⟨Dm.anti (fun b z _ => sub L' b z) _ _ rt, Tps.anti (fun b z _ => sub L' b z) (tps L')⟩
    | fr =>
      obtain ⟨a, rfl, h1, h2, h3, h4⟩ := rt
      refine ⟨a, rfl, ?_, h4.anti fun b z _ => z.elim (fun y => .inl (sub L' b y)) .inr, Tps.anti (fun b z _ => z.elim (fun y => .inl (sub L' b y)) .inr) (tps h3)⟩
      rcases h2 with h2 | h2
      · exact absurd (sub L' a (.inr ((own a).mp h2))) h1
      · exact h2
  | exc x s' =>
    rw [e] at q
    intro σ' cls dd H' L' fo xr
    obtain ⟨C, h1, h2, a, gs, h3, h4, h5⟩ := xr
    exact q cls dd H' (ex fo) fo.up (Tps.anti (fun b z _ => sub L' b z) (tps L')) ⟨C, h1, h2, a, gs, h3, h4, Dmf.anti (fun b z _ => sub L' b z) _ _ h5⟩
  | brk s' => rw [e] at q; exact q.elim
  | ctn s' => rw [e] at q; exact q.elim
  | no => rw [e] at q; exact q.elim
/-- a def by its body -/
theorem fn_mk {P : Program} {w : World} {mg : Str → Option Value} {base : Heap} {qual : Str} {st : Stmt} {f : Addr} {fd : FuncData} {N ps : List Str} {k : Nat} {ow : List Nat} {Γ : KC} (F : Fun Γ.K x qual st f fd) (S : FnScope N ps (defScope st)) (hps : ms.length = ps.length) (hN : ms.length ≤ N.length) (hm : m ≠ .now) (ho : okP ow ms = true)
    (hbody : ∀ (cdv : Value) (A : Around) (outer : List Env) (s : Shared) (G : Hp) (ys : List V) (R : VK) (E : XK), A.guards = some [] → Room k (A.deeper (envOfC qual (defScope st) s.heap.objs.size f cdv)) →
      MSs (cxOf CX0 P w Γ.K mg base N qual (defScope st) f cdv A outer s G E).nox (ctxOf Γ ow ms ys) E m (defBody st) g) :
    FnG P w Γ.K mg base CX0 (k + 1) f fd ps (spM Γ ms m (runF N.length ms m g)) :=
  fun_okG F S (fun vs H Q E h => spM_len ps.length hps h) fun cdv A outer s G ys R E hg hr h => by
    obtain ⟨t, h1, h2⟩ := (hbody cdv A outer s G ys R E hg hr).ex
    exact ⟨t, h1, ask_body hm ho hN h h2⟩
end Vl

set_option Elab.async false
set_option linter.all false
set_option maxRecDepth 100000
set_option maxHeartbeats 2000000
/-! a call whose callee changes what some slots own -/
namespace Vl
open PySem PySem.Spec L2
variable {Γ : KC} {c : Ctx} {M N M0 : Addr → Prop} {s s' s1 s2 s3 : S} {σ σ1 σ2 : L2.St} {H H' H1 H2 : Hp} {v : V} {d : D} {ds outs : List D} {vs : List V} {i : Nat} {X : Cx} {E : XK} {e a b : Expr} {f fa fb : PM D} {p q pa pb : Bool} {m ma mb : Md} {t ta tb te : TE} {pos : Pos} {ts tr : TS} {g g1 g2 : S → SO} {D0 : Ends} {x : Str} {as : List Addr} {ms : List Md} {ks : List (Option Nat)} {is : List Nat}

theorem setA_out {α : Type} : ∀ {is : List Nat} {s s' : List (Option α)} {vs : List α}, setA s is vs = some s' → s'.length = s.length ∧ ∀ j, j ∉ is → s'[j]? = s[j]?
  | [], s, s', vs, h => by obtain ⟨_, rfl⟩ := setA_0 h; exact ⟨rfl, fun _ _ => rfl⟩
  | i :: is, s, s', [], h => by cases h
  | i :: is, s, s', v :: r, h => by
    have h : setA (s.set i (some v)) is r = some s' := h
    obtain ⟨h1, h2⟩ := setA_out h
    refine ⟨by simpa using h1, fun j hj => ?_⟩
    rw [h2 j fun z => hj (List.mem_cons_of_mem _ z)]
    exact set_ne fun z => hj (by rw [z]; exact List.mem_cons_self ..)
theorem setA_in {α : Type} : ∀ {is : List Nat} {s s' : List (Option α)} {vs : List α} {k i : Nat}, setA s is vs = some s' → is.Nodup → is[k]? = some i → i < s.length → ∃ v, vs[k]? = some v ∧ s'[i]? = some (some v)
  | [], _, _, _, _, _, _, _, h, _ => by simp at h
  | i0 :: is, s, s', [], _, _, h, _, _, _ => by cases h
  | i0 :: is, s, s', v :: r, k, i, h, nd, hk, hl => by
    have h : setA (s.set i0 (some v)) is r = some s' := h
    rw [List.nodup_cons] at nd
    cases k with
    | zero =>
      cases hk
      exact ⟨v, rfl, by rw [(setA_out h).2 i0 nd.1]; exact set_eq hl⟩
    | succ k => exact setA_in (k := k) h nd.2 (by simpa using hk) (by simpa using hl)
theorem Tps.at : ∀ {as : List Addr} {ds : List D} {k : Nat} {a : Addr}, Tps Γ M H ds as → as[k]? = some a → ∃ d, ds[k]? = some d ∧ Tp Γ M H d a
  | [], _, _, _, _, h => by simp at h
  | a :: as, _, k, b, ⟨d, r, h1, h2, h3⟩, h => by
    subst h1
    cases k with
    | zero => cases h; exact ⟨d, rfl, h2⟩
    | succ k => exact Tps.at (k := k) h3 (by simpa using h)
def adr (σ : L2.St) (i : Nat) : Addr := match σ[i]? with | some (some (.ref a)) => a | _ => 0
theorem adr_of {a : Addr} (h : σ[i]? = some (some (.ref a))) : adr σ i = a := by unfold adr; rw [h]
/-- all that the slots is own has been changed -/
theorem Lw.puts (L : Lw c M s σ H) (ow : ∀ i ∈ is, c.ow i = true) (lv : ∀ i ∈ is, ∃ d, s[i]? = some (some d)) (nd : is.Nodup) (ex : ExM (fun b => b ∈ is.map (adr σ)) H H') (t : Tps c.Γ M H' outs (is.map (adr σ))) (hp : setA s is outs = some s2) : Lw c M s2 σ H' ∧ ∀ b, Own c s2 σ b ↔ Own c s σ b := by
  obtain ⟨hl, ho⟩ := setA_out hp
  have at_ : ∀ i ∈ is, ∃ d a, s2[i]? = some (some d) ∧ σ[i]? = some (some (.ref a)) ∧ a ∈ is.map (adr σ) ∧ ¬ c.M0 a ∧ Tp c.Γ M H' d a ∧ M a := fun i hi => by
    obtain ⟨d0, h0⟩ := lv i hi
    obtain ⟨a, ea, na, _⟩ := L.own i d0 h0 (ow i hi)
    obtain ⟨k, hk⟩ := List.getElem?_of_mem hi
    obtain ⟨d, h1, h2⟩ := setA_in hp nd hk (lt_of_get h0)
    have hk2 : (is.map (adr σ))[k]? = some a := by rw [List.getElem?_map, hk]; exact congrArg some (adr_of ea)
    obtain ⟨d', h3, h4⟩ := t.at hk2
    rw [h1] at h3; cases h3
    exact ⟨d, a, h2, ea, List.mem_of_getElem? hk2, na, h4, L.sup a (.inr ⟨i, d0, ow i hi, h0, ea⟩)⟩
  have live : ∀ {i : Nat}, (∃ d, s2[i]? = some (some d)) ↔ ∃ d, s[i]? = some (some d) := fun {i} => by
    by_cases hi : i ∈ is
    · exact ⟨fun _ => lv i hi, fun _ => let ⟨d, _, h, _⟩ := at_ i hi; ⟨d, h⟩⟩
    · rw [ho i hi]
  have own : ∀ b, Own c s2 σ b ↔ Own c s σ b := fun b => by
    constructor
    · rintro ⟨i, d, h1, h2, h3⟩
      obtain ⟨d', h2'⟩ := live.mp ⟨d, h2⟩
      exact ⟨i, d', h1, h2', h3⟩
    · rintro ⟨i, d, h1, h2, h3⟩
      obtain ⟨d', h2'⟩ := live.mpr ⟨d, h2⟩
      exact ⟨i, d', h1, h2', h3⟩
  have sub : ∀ b, b ∈ is.map (adr σ) → M b := fun b z => by
    obtain ⟨i, hi, rfl⟩ := List.mem_map.mp z
    obtain ⟨d, a, _, ea, _, _, _, hM⟩ := at_ i hi
    rw [adr_of ea]; exact hM
  have exM : ExM M H H' := ex.imp sub
  have notin : ∀ {i : Nat} {d : D} {a : Addr}, i ∉ is → c.ow i = true → s[i]? = some (some d) → σ[i]? = some (some (.ref a)) → a ∉ is.map (adr σ) := fun {i d a} hi h1 h2 h3 z => by
    obtain ⟨j, hj, e⟩ := List.mem_map.mp z
    obtain ⟨d', h4⟩ := lv j hj
    obtain ⟨a', ea, _, _⟩ := L.own j d' h4 (ow j hj)
    rw [adr_of ea] at e; subst e
    exact hi (L.inj i j a' d d' h1 (ow j hj) h2 h4 h3 ea ▸ hj)
  refine ⟨⟨hl.trans L.len, fun b z => L.sup b (z.elim .inl fun y => .inr ((own b).mp y)), fun j d h1 h2 => ?_, fun j d h1 h2 => ?_, fun j k b d e h1 h2 h3 h4 h5 h6 => ?_, fun b z => ?_, fun j b hj => ?_⟩, own⟩
  · have hj : j ∉ is := fun z => by rw [ow j z] at h2; cases h2
    rw [ho j hj] at h1
    obtain ⟨v, ev, h⟩ := L.sh j d h1 h2
    exact ⟨v, ev, Dm.mono exM d v h⟩
  · by_cases hj : j ∈ is
    · obtain ⟨d', a, e1, e2, _, na, t1, _⟩ := at_ j hj
      rw [h1] at e1; cases e1
      exact ⟨a, e2, na, t1⟩
    · rw [ho j hj] at h1
      obtain ⟨a, ea, na, t1⟩ := L.own j d h1 h2
      obtain ⟨o, ho', _⟩ := t1.mut
      exact ⟨a, ea, na, t1.mono exM ((ex a o (notin hj h2 h1 ea) ho').trans ho'.symm)⟩
  · obtain ⟨d', h3'⟩ := live.mp ⟨d, h3⟩
    obtain ⟨e', h4'⟩ := live.mp ⟨e, h4⟩
    exact L.inj j k b d' e' h1 h2 h3' h4' h5 h6
  · obtain ⟨o, hob, mo⟩ := L.m0 b z
    refine ⟨o, ex b o (fun y => ?_) hob, mo⟩
    obtain ⟨i, hi, e⟩ := List.mem_map.mp y
    obtain ⟨d, a, _, ea, _, na, _, _⟩ := at_ i hi
    rw [adr_of ea] at e; subst e
    exact na z
  · obtain ⟨h1, h2, h3⟩ := L.iof j b hj
    exact ⟨h1, live.mpr h2, h3⟩

/-! ### arguments, some of them names that give what they own to the callee -/
def kd : Option Nat → Md
  | none => .st
  | some _ => .fr
def Qs (c : Ctx) (s' : S) (σ : L2.St) (H' : Hp) : List (Option Nat) → List D → List V → Prop
  | [], ds, vs => ds = [] ∧ vs = []
  | none :: ks, ds, vs => ∃ d r v w, ds = d :: r ∧ vs = v :: w ∧ Dm c.Γ (Mo c s' σ) H' d v ∧ Qs c s' σ H' ks r w
  | some i :: ks, ds, vs => ∃ d r v w, ds = d :: r ∧ vs = v :: w ∧ σ[i]? = some (some v) ∧ Qs c s' σ H' ks r w
theorem Qs.stay : ∀ {ks ds vs}, Qs c s1 σ H1 ks ds vs → Fr p (Own c s1 σ) H1 H2 → (∀ a, Own c s2 σ a → Own c s1 σ a) → Qs c s2 σ H2 ks ds vs
  | [], _, _, h, _, _ => h
  | none :: ks, _, _, ⟨d, r, v, w, h1, h2, h3, h4⟩, e, m => ⟨d, r, v, w, h1, h2, Dm.anti (fun a z _ => own_mo m a z) d v (Dm.mono (ex_mo e.ex) d v h3), Qs.stay h4 e m⟩
  | some i :: ks, _, _, ⟨d, r, v, w, h1, h2, h3, h4⟩, e, m => ⟨d, r, v, w, h1, h2, h3, Qs.stay h4 e m⟩
def PoQ (c : Ctx) (E : XK) (p : Bool) (ks : List (Option Nat)) (s : S) (σ : L2.St) (H : Hp) (Q : List V → Hp → Prop) : Out (List D) → Prop
  | .ok ds s' => ∀ vs H', Fr p (Own c s σ) H H' → Lv c s' σ H' → (∀ a, Own c s' σ a → Own c s σ a) → Qs c s' σ H' ks ds vs → Q vs H'
  | .exc x s' => ∀ cls dd H', Lv c s' σ H' → Fr false (Own c s σ) H H' → (∀ a, Own c s' σ a → Own c s σ a) → Xr c s' σ x cls dd H' → E cls dd H'
  | .no => False
structure VQ (c : Ctx) (E : XK) (p : Bool) (ks : List (Option Nat)) (t : TA) (f : PM (List D)) : Prop where
  run : ∀ M0 s σ H, Lv (c.at M0) s σ H → ∀ Q, PoQ (c.at M0) E p ks s σ H Q (f s) → t σ H Q
structure MQ (X : Cx) (c : Ctx) (E : XK) (p : Bool) (ks : List (Option Nat)) (es : List Expr) (f : PM (List D)) : Prop where
  ex : ∃ t, PA X es t ∧ VQ c E p ks t f
theorem vq_nil : VQ c E true [] tNil (pur []) := ⟨fun M0 s σ H L Q q => q [] H Fr.refl L (fun _ z => z) ⟨rfl, rfl⟩⟩
theorem vq_consS {tl : TA} {fl : PM (List D)} (ha : VE c E pa .st ta fa) (hr : VQ c E pb ks tl fl) : VQ c E (pa && pb) (none :: ks) (tCons ta tl) (consA fa fl) := ⟨fun M0 s σ H L Q q => ha.run M0 s σ H L _ (by
  unfold consA at q
  cases e1 : fa s with
  | no => rw [bnd_no e1] at q; exact q
  | exc x s1 => rw [bnd_exc e1] at q; exact q
  | ok d1 s1 =>
    rw [bnd_ok e1] at q
    refine fun v1 H1 f1 L1 m1 h1 => hr.run M0 s1 σ H1 L1 _ ?_
    cases e2 : fl s1 with
    | no => rw [bnd_no e2] at q; exact q
    | exc x s2 => rw [bnd_exc e2] at q; exact exc_next (o := no) f1 m1 q
    | ok ds s2 =>
      rw [bnd_ok e2] at q
      exact fun vs H2 f2 L2 m2 h2 => q _ H2 (f1.and f2 m1) L2 (iff_trans m2 m1) ⟨d1, ds, v1, vs, rfl, rfl, h1.stay f2 m2 stS, h2⟩)⟩
theorem vq_consO {tl : TA} {fl : PM (List D)} (hr : VQ c E pb ks tl fl) : VQ c E pb (some i :: ks) (tCons (tVar i) tl) (consA (gts i) fl) := ⟨fun M0 s σ H L Q q => by
  unfold consA at q
  cases e0 : s[i]? with
  | none => rw [bnd_no (by unfold gts; rw [e0])] at q; exact q.elim
  | some x0 =>
    cases x0 with
    | none => rw [bnd_no (by unfold gts; rw [e0])] at q; exact q.elim
    | some d0 =>
      rw [bnd_ok (getS_ok e0)] at q
      have hv : ∃ v, σ[i]? = some (some v) := by
        cases ho : c.ow i with
        | false => obtain ⟨v, h, _⟩ := L.sh i d0 e0 ho; exact ⟨v, h⟩
        | true => obtain ⟨a, h, _⟩ := L.own i d0 e0 ho; exact ⟨_, h⟩
      obtain ⟨v, hv⟩ := hv
      refine ⟨v, hv, hr.run M0 s σ H L _ ?_⟩
      cases e2 : fl s with
      | no => rw [bnd_no e2] at q; exact q
      | exc x s2 => rw [bnd_exc e2] at q; exact q
      | ok ds s2 =>
        rw [bnd_ok e2] at q
        exact fun vs H2 f2 L2 m2 h2 => q _ H2 f2 L2 m2 ⟨d0, ds, v, vs, rfl, rfl, hv, h2⟩⟩
theorem mq_nil : MQ X c E true [] [] (pur []) := ⟨_, pa_nil, vq_nil⟩
theorem mq_consS {es : List Expr} {fl : PM (List D)} (ha : ME X c E pa .st e fa) (hr : MQ X c E pb ks es fl) (hst : starEach (e :: es) X.env = (false, eval e X.env) :: starEach es X.env := by rfl) : MQ X c E (pa && pb) (none :: ks) (e :: es) (consA fa fl) :=
  let ⟨_, x1, y1⟩ := ha.ex; let ⟨_, x2, y2⟩ := hr.ex; ⟨_, pa_cons x1 x2 hst, vq_consS y1 y2⟩
theorem mq_consO {es : List Expr} {fl : PM (List D)} (ha : PE X e (tVar i)) (hr : MQ X c E pb ks es fl) (hst : starEach (e :: es) X.env = (false, eval e X.env) :: starEach es X.env := by rfl) : MQ X c E pb (some i :: ks) (e :: es) (consA (gts i) fl) :=
  let ⟨_, x2, y2⟩ := hr.ex; ⟨_, pa_cons ha x2 hst, vq_consO y2⟩
def ioIx (ks : List (Option Nat)) : List Nat := ks.filterMap id
/-- what the arguments are at the call -/
def fillQ (s : S) : List (Option Nat) → List D → Option (List D)
  | [], [] => some []
  | none :: ks, d :: ds => (fillQ s ks ds).map (d :: ·)
  | some i :: ks, _ :: ds => match s[i]? with | some (some d) => (fillQ s ks ds).map (d :: ·) | _ => none
  | _, _ => none
def callQ (ks : List (Option Nat)) (F : List D → OF) (fl : PM (List D)) : PM D := fun s => match fl s with
  | .ok ds s1 => (match fillQ s1 ks ds with
    | some es => (match F es with
      | .ok r outs => (match setA s1 (ioIx ks) outs with | some s2 => .ok r s2 | none => .no)
      | .exc x outs => if noMf x.fs = true then (match setA s1 (ioIx ks) outs with | some s2 => .exc x s2 | none => .no) else .no
      | .no => .no)
    | none => .no)
  | .exc x s1 => .exc x s1
  | .no => .no
def okQ (c : Ctx) (ks : List (Option Nat)) : Bool := (ioIx ks).all (fun i => c.ow i) && decide (ioIx ks).Nodup
theorem bd_fill : ∀ {ks : List (Option Nat)} {ds es : List D} {vs : List V}, (∀ i ∈ ioIx ks, c.ow i = true) → Lw c M s1 σ H → (∀ b, Mo c s1 σ b ↔ M b) → Qs c s1 σ H ks ds vs → fillQ s1 ks ds = some es → Bd c.Γ M H (ks.map kd) es vs ((ioIx ks).map (adr σ))
  | [], _, _, _, _, _, _, ⟨h1, h2⟩, h => by subst h1; subst h2; cases h; exact ⟨rfl, rfl, rfl⟩
  | none :: ks, _, _, _, ho, L, hM, ⟨d, r, v, w, h1, h2, h3, h4⟩, h => by
    subst h1; subst h2
    obtain ⟨es, h5, rfl⟩ := Option.map_eq_some_iff.mp h
    exact ⟨d, es, v, w, rfl, rfl, Dm.anti (fun b z _ => (hM b).mpr z) d v h3, bd_fill ho L hM h4 h5⟩
  | some i :: ks, _, _, _, ho, L, hM, ⟨d, r, v, w, h1, h2, h3, h4⟩, h => by
    subst h1; subst h2
    unfold fillQ at h
    cases e : s1[i]? with
    | none => rw [e] at h; cases h
    | some x =>
      cases x with
      | none => rw [e] at h; cases h
      | some d0 =>
        rw [e] at h
        obtain ⟨es, h5, rfl⟩ := Option.map_eq_some_iff.mp h
        obtain ⟨a, ea, na, t⟩ := L.own i d0 e (ho i (by simp [ioIx]))
        rw [h3] at ea; cases ea
        exact ⟨d0, es, a, w, (ioIx ks).map (adr σ), rfl, rfl, by simp [ioIx, adr_of h3], t, bd_fill (fun j hj => ho j (by simp [ioIx] at hj ⊢; exact .inr hj)) L hM h4 h5⟩
theorem fill_live : ∀ {ks : List (Option Nat)} {ds es : List D}, fillQ s1 ks ds = some es → ∀ i ∈ ioIx ks, ∃ d, s1[i]? = some (some d)
  | [], _, _, _, i, hi => by simp [ioIx] at hi
  | none :: ks, d :: ds, _, h, i, hi => by
    obtain ⟨es, h5, rfl⟩ := Option.map_eq_some_iff.mp h
    exact fill_live h5 i (by simpa [ioIx] using hi)
  | none :: ks, [], _, h, i, hi => by cases h
  | some j :: ks, [], _, h, i, hi => by cases h
  | some j :: ks, d :: ds, _, h, i, hi => by
    unfold fillQ at h
    cases e : s1[j]? with
    | none => rw [e] at h; cases h
    | some x =>
      cases x with
      | none => rw [e] at h; cases h
      | some d0 =>
        rw [e] at h
        obtain ⟨es, h5, rfl⟩ := Option.map_eq_some_iff.mp h
        have hi : i ∈ j :: ioIx ks := by simpa [ioIx] using hi
        rcases List.mem_cons.mp hi with z | z
        · subst z; exact ⟨d0, e⟩
        · exact fill_live h5 i z
open Classical in
theorem ve_callQ {F : List D → OF} {tl : TA} {fl : PM (List D)} (h : VQ c E p ks tl fl) (ho : okQ c ks = true) (hm : m = .st ∨ m = .fr) : VE c E false m (tCall (spM c.Γ (ks.map kd) m F) [] E tl) (callQ ks F fl) := ⟨fun z => (nomatch z), fun M0 s σ H L Q q => h.run M0 s σ H L _ (by
  unfold okQ at ho
  rw [Bool.and_eq_true] at ho
  have hw : ∀ i ∈ ioIx ks, c.ow i = true := fun i hi => List.all_eq_true.mp ho.1 i hi
  have nd : (ioIx ks).Nodup := of_decide_eq_true ho.2
  unfold callQ at q
  cases e1 : fl s with
  | no => rw [e1] at q; exact q
  | exc x s1 =>
    rw [e1] at q
    exact q
  | ok ds s1 =>
    rw [e1] at q; dsimp only at q
    intro vs H1 f1 L1 m1 h1
    show spM c.Γ (ks.map kd) m F (vs ++ []) H1 Q E
    rw [List.append_nil]
    cases e2 : fillQ s1 ks ds with
    | none => rw [e2] at q; exact q.elim
    | some es =>
      rw [e2] at q; dsimp only at q
      have lv := fill_live e2
      have own : ∀ b, b ∈ (ioIx ks).map (adr σ) → Own (c.at M0) s1 σ b ∧ ¬ M0 b := fun b z => by
        obtain ⟨i, hi, rfl⟩ := List.mem_map.mp z
        obtain ⟨d, hd⟩ := lv i hi
        obtain ⟨a, ea, na, _⟩ := L1.own i d hd (hw i hi)
        rw [adr_of ea]
        exact ⟨⟨i, d, hw i hi, hd, ea⟩, na⟩
      have hM : ∀ b, plusL (fun b => Mo (c.at M0) s1 σ b ∧ b ∉ (ioIx ks).map (adr σ)) ((ioIx ks).map (adr σ)) b ↔ Mo (c.at M0) s1 σ b := fun b => by
        unfold plusL
        constructor
        · rintro (z | z)
          · exact z.1
          · exact .inr (own b z).1
        · intro z
          by_cases y : b ∈ (ioIx ks).map (adr σ)
          · exact .inr y
          · exact .inl ⟨z, y⟩
      have ndA : ((ioIx ks).map (adr σ)).Nodup := by
        rw [List.Nodup, List.pairwise_map]
        refine List.Pairwise.imp_of_mem (fun {i j} hi hj hne => ?_) nd
        intro z
        obtain ⟨d, hd⟩ := lv i hi
        obtain ⟨d2, hd2⟩ := lv j hj
        obtain ⟨a, ea, _, _⟩ := L1.own i d hd (hw i hi)
        obtain ⟨a2, ea2, _, _⟩ := L1.own j d2 hd2 (hw j hj)
        rw [adr_of ea, adr_of ea2] at z; subst z
        exact hne (L1.inj i j a d d2 (hw i hi) (hw j hj) hd hd2 ea ea2)
      have Lp := L1.anti (N := plusL (fun b => Mo (c.at M0) s1 σ b ∧ b ∉ (ioIx ks).map (adr σ)) ((ioIx ks).map (adr σ))) (fun b z _ => (hM b).mp z) fun b z => (hM b).mpr z
      refine ⟨fun b => Mo (c.at M0) s1 σ b ∧ b ∉ (ioIx ks).map (adr σ), es, _, fun b z => L1.alive z.1, ndA, fun b z y => y.2 z, bd_fill (c := c.at M0) hw Lp (fun b => (hM b).symm) h1 e2, ?_⟩
      have fin : ∀ {H' : Hp} {N : Addr → Prop} {outs : List D} {s2 : S}, Lw (c.at M0) N s1 σ H1 → (∀ b, plusL (fun b => Mo (c.at M0) s1 σ b ∧ b ∉ (ioIx ks).map (adr σ)) ((ioIx ks).map (adr σ)) b → N b) → ExM (fun b => b ∈ (ioIx ks).map (adr σ)) H1 H' → Tps c.Γ N H' outs ((ioIx ks).map (adr σ)) → setA s1 (ioIx ks) outs = some s2 → Lw (c.at M0) N s2 σ H' ∧ ∀ b, Own (c.at M0) s2 σ b ↔ Own (c.at M0) s1 σ b := fun {H' N outs s2} LN _ ex t hs => LN.puts (c := c.at M0) hw lv nd ex t hs
      have frm : ∀ {H'}, ExM (fun b => b ∈ (ioIx ks).map (adr σ)) H1 H' → Up H1 H' → Fr false (Own (c.at M0) s σ) H H' := fun {H'} ex up => by
        have z := f1.and (q := false) (.mk (ex.imp fun b y => (own b y).1) up) m1
        rwa [Bool.and_false] at z
      cases e3 : F es with
      | no => rw [e3] at q; exact q
      | exc x outs =>
        rw [e3] at q; dsimp only at q
        split at q
        · rename_i hx
          cases e4 : setA s1 (ioIx ks) outs with
          | none => rw [e4] at q; exact q.elim
          | some s2 =>
            rw [e4] at q
            intro cls dd H' ex up t xr
            obtain ⟨L2, o2⟩ := fin Lp (fun _ z => z) ex t e4
            obtain ⟨C, z1, z2, a, gs, z3, z4, z5⟩ := xr
            exact q cls dd H' L2.lv (frm ex up) (fun b y => m1 b ((o2 b).mp y)) ⟨C, z1, z2, a, gs, z3, z4, Dmf.keep (fun b y => L2.lv.alive y) hx z5⟩
        · exact q.elim
      | ok r outs =>
        rw [e3] at q; dsimp only at q
        cases e4 : setA s1 (ioIx ks) outs with
        | none => rw [e4] at q; exact q.elim
        | some s2 =>
          rw [e4] at q
          intro v H' ex up rs
          rcases hm with rfl | rfl
          · obtain ⟨L2, o2⟩ := fin Lp (fun _ z => z) ex rs.2 e4
            refine q v H' (frm ex up) L2.lv (fun b y => m1 b ((o2 b).mp y)) ?_
            exact Dm.anti (fun b z _ => (hM b).mpr (own_mo (c := c.at M0) (fun a y => (o2 a).mp y) b z)) _ _ rs.1
          · obtain ⟨a, rfl, hn, t, ts⟩ := rs
            have mo2 : ∀ {s2 : S}, (∀ b, Own (c.at M0) s2 σ b ↔ Own (c.at M0) s1 σ b) → ∀ b, Mo (c.at M0) s2 σ b → Mo (c.at M0) s1 σ b := fun o2 b z => own_mo (c := c.at M0) (fun a y => (o2 a).mp y) b z
            have Lq := Lp.plus hn
            obtain ⟨L2, o2⟩ := fin Lq (fun b z => .inl z) ex ts e4
            have na : ¬ Mo (c.at M0) s2 σ a := fun z => L1.notMo hn (mo2 o2 a z)
            refine q _ H' (frm ex up) L2.lv (fun b y => m1 b ((o2 b).mp y)) ⟨a, rfl, na, .inr (fresh_back f1 hn), L2.anti (fun b z _ => z.elim (fun y => .inl ((hM b).mpr (mo2 o2 b y))) .inr) fun b z => .inl z, t.anti fun b z _ => z.elim (fun y => .inl ((hM b).mpr (mo2 o2 b y))) .inr⟩)⟩
variable {CX : CXT} {k : Nat} {fa' : Addr} {fd : FuncData} {ps : List Str} {F : List D → OF} {es : List Expr} {p0 : Pos} {fl : PM (List D)}
theorem me_callQ (G : FnG X.prog X.w X.K X.mg X.base CX k fa' fd ps (spM c.Γ (ks.map kd) m F)) (hG : NoRepr X) (hr : Room k X.A) (hg : Gl X x) (hmg : X.mg x = some (.ref fa')) (hk : PySem.W.keepIn X.K (.ref fa') = true) (hb : Binds X.K fd ps []) (hx : Passes CX X E)
    (ha : MQ X c E p ks (e :: es) fl) (ho : okQ c ks = true := by rfl) (hm : m = .st ∨ m = .fr := by first | exact .inl rfl | exact .inr rfl) (hdb : (x == ("__debug__" : Str)) = false := by decide) (he : starEach (e :: es) X.env = (false, eval e X.env) :: starEach es X.env := by rfl)
    (hpl : (backTo pos (starEach es X.env)).any (·.1) = false := by rfl) : ME X c E false m (.Call (.Name x p0) (e :: es) [] pos) (callQ ks F fl) :=
  let ⟨_, x1, y1⟩ := ha.ex; ⟨_, pe_callG G hG hr hg hmg hk hb .nil hx x1 hdb he hpl, ve_callQ y1 ho hm⟩
end Vl

set_option Elab.async false
set_option linter.all false
set_option maxRecDepth 100000
set_option maxHeartbeats 2000000
/-! comprehensions -/
namespace Vl
open PySem PySem.Spec L2
variable {Γ : KC} {c : Ctx} {M N M0 : Addr → Prop} {s s' s1 s2 s3 : S} {σ σ1 σ2 : L2.St} {H H' H1 H2 : Hp} {v : V} {d : D} {ds outs : List D} {vs : List Nat} {i : Nat} {X : Cx} {E : XK} {e a b : Expr} {f fa fb fe : PM D} {p q pa pb pi pk pe : Bool} {m ma mb : Md} {t ta tb te : TE} {pos : Pos} {D0 : Ends} {x : Str}

def noE : XK := fun _ _ _ => False
def wipeS (s : S) : List Nat → S
  | [] => s
  | v :: vs => (wipeS s vs).set v none
def okV (c : Ctx) (vs : List Nat) : Bool := vs.all fun j => (c.io j).isNone && !c.ow j
theorem okV_at (h : okV c vs = true) {j : Nat} (hj : j ∈ vs) : c.io j = none ∧ c.ow j = false := by
  have := List.all_eq_true.mp h j hj
  rw [Bool.and_eq_true] at this
  refine ⟨?_, ?_⟩
  · cases e : c.io j with
    | none => rfl
    | some _ => rw [e] at this; cases this.1
  · have h2 := this.2
    revert h2; cases c.ow j <;> simp
theorem wipeS_len : ∀ vs : List Nat, (wipeS s vs).length = s.length
  | [] => rfl
  | v :: vs => by unfold wipeS; rw [List.length_set, wipeS_len vs]
theorem wipeS_out : ∀ {vs : List Nat} {j : Nat}, j ∉ vs → (wipeS s vs)[j]? = s[j]?
  | [], _, _ => rfl
  | v :: vs, j, h => by
    unfold wipeS
    rw [set_ne fun z => h (by rw [z]; exact List.mem_cons_self ..)]
    exact wipeS_out fun z => h (List.mem_cons_of_mem _ z)
theorem wipe_out : ∀ {vs : List Nat} {j : Nat}, j ∉ vs → (wipe σ vs)[j]? = σ[j]?
  | [], _, _ => rfl
  | v :: vs, j, h => by
    unfold wipe
    rw [set_ne fun z => h (by rw [z]; exact List.mem_cons_self ..)]
    exact wipe_out fun z => h (List.mem_cons_of_mem _ z)
theorem wipe_in : ∀ {vs : List Nat} {j : Nat}, j ∈ vs → j < σ.length → (wipe σ vs)[j]? = some none
  | v :: vs, j, h, hl => by
    unfold wipe
    by_cases e : j = v
    · subst e; exact set_eq (by rw [wipe_length]; exact hl)
    · rw [set_ne e]; exact wipe_in ((List.mem_cons.mp h).resolve_left e) hl
theorem wipe_ext (hl : σ1.length = σ.length) (h : ∀ j, j ∉ vs → σ1[j]? = σ[j]?) : wipe σ1 vs = wipe σ vs := by
  refine List.ext_getElem? fun j => ?_
  by_cases hj : j ∈ vs
  · by_cases hb : j < σ.length
    · rw [wipe_in hj hb, wipe_in hj (by rw [hl]; exact hb)]
    · rw [List.getElem?_eq_none (by rw [wipe_length]; omega), List.getElem?_eq_none (by rw [wipe_length]; omega)]
  · rw [wipe_out hj, wipe_out hj, h j hj]
theorem Lw.wipe (L : Lw c M s σ H) : ∀ {vs : List Nat}, okV c vs = true → Lw c M (wipeS s vs) (L2.wipe σ vs) H
  | [], _ => L
  | v :: vs, h => by
    unfold okV at h
    rw [List.all_cons, Bool.and_eq_true] at h
    have hio : c.io v = none := (okV_at (c := c) (vs := [v]) (by unfold okV; simpa using h.1) (List.mem_singleton.mpr rfl)).1
    exact (Lw.wipe L (vs := vs) h.2).kill hio
theorem own_wipe (h : okV c vs = true) (a : Addr) : Own c (wipeS s vs) (wipe σ vs) a ↔ Own c s σ a := by
  constructor
  · rintro ⟨j, e, hj, hs, hσ⟩
    have : j ∉ vs := fun z => by rw [(okV_at h z).2] at hj; cases hj
    rw [wipeS_out this] at hs; rw [wipe_out this] at hσ
    exact ⟨j, e, hj, hs, hσ⟩
  · rintro ⟨j, e, hj, hs, hσ⟩
    have : j ∉ vs := fun z => by rw [(okV_at h z).2] at hj; cases hj
    exact ⟨j, e, hj, by rw [wipeS_out this]; exact hs, by rw [wipe_out this]; exact hσ⟩
/-- what the callers may change is changed -/
theorem Lw.foreign (L : Lw c M s σ H) (e : ExM c.M0 H H') (k : ∀ a, c.M0 a → ∃ o, H' a = some o ∧ MutO o) : Lw c M s σ H' := by
  have eM : ExM M H H' := e.imp fun a z => L.sup a (.inl z)
  refine ⟨L.len, L.sup, fun i d h1 h2 => ?_, fun i d h1 h2 => ?_, L.inj, k, L.iof⟩
  · obtain ⟨v, ev, h⟩ := L.sh i d h1 h2; exact ⟨v, ev, Dm.mono eM d v h⟩
  · obtain ⟨a, ea, na, t⟩ := L.own i d h1 h2
    obtain ⟨o, ho, _⟩ := t.mut
    exact ⟨a, ea, na, t.mono eM ((e a o na ho).trans ho.symm)⟩
/-- a new list is laid aside -/
theorem Lw.lay {a : Addr} {o : HO} (L : Lv (c.at M) s σ H) (h : H a = none) (mo : MutO o) : Lv (c.at (Vl.plus M a)) s σ (upd H a o) := by
  have L1 : Lw (c.at M) (Vl.plus (Mo (c.at M) s σ) a) s σ (upd H a o) := (L.plus h).mono (same_new h)
  exact L1.aside (fun b z => z) (L.notMo h) ⟨o, upd_same, mo⟩

/-! ### [fe for tf in ds if k], nothing changed in it -/
def lcP (tf : TF) (k : PM Bool) (fe : PM D) (b : S) : List D → Option (List D)
  | [] => some []
  | d :: ds => match tf d b with
    | none => none
    | some s1 => match k s1 with
      | .ok true s2 => (match fe s2 with | .ok y _ => (lcP tf k fe b ds).map (y :: ·) | _ => none)
      | .ok false _ => lcP tf k fe b ds
      | _ => none
def lcE (fi : PM (List D)) (tf : TF) (k : PM Bool) (fe : PM D) (vs : List Nat) : PM D := fun s => match fi s with
  | .ok ds s1 => (match lcP tf k fe (wipeS s1 vs) ds with | some ys => if ds.length ≤ 1000000 then .ok (.lst ys) s1 else .no | none => .no)
  | .exc x s1 => .exc x s1
  | .no => .no
theorem lcP_len {tf : TF} {k : PM Bool} {b : S} : ∀ {ds ys : List D}, lcP tf k fe b ds = some ys → ys.length ≤ ds.length
  | [], ys, h => by cases h; exact Nat.le_refl _
  | d :: ds, ys, h => by
    unfold lcP at h
    split at h
    · cases h
    · split at h
      · split at h
        · obtain ⟨r, h1, rfl⟩ := Option.map_eq_some_iff.mp h
          have := lcP_len h1
          simp; omega
        · cases h
      · have := lcP_len h
        simp; omega
      · cases h
theorem line_le {n : Nat} (h : n ≤ 1000000) : n ≤ sizeLine := Nat.le_trans h (by decide)
theorem pu_lc {fi : PM (List D)} {tf : TF} {k : PM Bool} (h : Pu pi fi) : Pu pi (lcE fi tf k fe vs) := fun hp s d s' e => by
  unfold lcE at e
  cases e1 : fi s with
  | no => rw [e1] at e; cases e
  | exc x s1 => rw [e1] at e; cases e
  | ok ds s1 =>
    rw [e1] at e; dsimp only at e
    have := h hp s ds s1 e1
    subst this
    revert e
    split
    · split
      · intro e; cases e; rfl
      · intro e; cases e
    · intro e; cases e
/-- the block's slots: those of the def, its own names put -/
theorem own_blk {sl : List Nat} (ho : okV c vs = true) (hsl : ∀ j ∈ sl, j ∈ vs) (h : ∀ a, Own c s2 σ2 a ↔ Own c (wipeS s vs) (wipe σ vs) a) (a : Addr) : Own c s2 σ2 a ↔ Own c s σ a := (h a).trans (own_wipe ho a)
theorem lc_at {wi : TI} {fi : PM (List D)} {g : TG} {tf : TF} {sl : List Nat} {tt : TT} {k : PM Bool} {M0 : Addr → Prop} {Q : VK} (hi : ∀ R, PoI (c.at M0) E pi mb s σ H R (fi s) → wi σ H R) (hg : VG c sl g tf) (hk : VT c noE true tt k) (he : VE c noE true .st te fe) (ho : okV c vs = true) (hsl : ∀ j ∈ sl, j ∈ vs)  (L : Lv (c.at M0) s σ H) (q : Po (c.at M0) E pi .fr s σ H Q (lcE fi tf k fe vs s)) : tLc wi g tt te vs σ H Q := hi _ (by
  unfold lcE at q
  cases e1 : fi s with
  | no => rw [e1] at q; exact q
  | exc x s1 => rw [e1] at q; exact q
  | ok ds s1 =>
    rw [e1] at q; dsimp only at q
    intro J H1 f1 L1 m1 gv D hD
    have gv : Gv c.Γ (Mm (c.at M0) mb s1 σ) (Mo (c.at M0) s1 σ) J H1 ds := gv
    cases e2 : lcP tf k fe (wipeS s1 vs) ds with
    | none => rw [e2] at q; exact q.elim
    | some ys =>
      rw [e2] at q; dsimp only at q
      split at q
      · rename_i hlen
        have LD : Lv (c.at (Vl.plus M0 D)) s1 σ (upd H1 D (.lst [])) := Lw.lay L1 hD trivial
        have MD : ∀ b, Mo (c.at (Vl.plus M0 D)) s1 σ b ↔ Vl.plus (Mo (c.at M0) s1 σ) D b := fun b => mo_plus b
        have hDM : Mo (c.at (Vl.plus M0 D)) s1 σ D := (MD D).mpr (.inr rfl)
        refine ⟨fun i m' H2 => i + m' = ds.length ∧ ExM (fun a => a = D) (upd H1 D (.lst [])) H2 ∧ ∃ acc zs rest, H2 D = some (.lst acc) ∧ Dms c.Γ (Mo (c.at (Vl.plus M0 D)) s1 σ) H2 zs acc ∧ zs.length ≤ i ∧ lcP tf k fe (wipeS s1 vs) (ds.drop i) = some rest ∧ zs ++ rest = ys, ⟨ds.length, by omega, ExM.refl, [], [], ys, upd_same, Dms.nil, Nat.le_refl _, by rw [List.drop_zero]; exact e2, rfl⟩, ?_⟩
        rintro i m' H2 ⟨him, ex, acc, zs, rest, hacc, hzs, hzl, hrest, hys⟩
        have same1 : Same H1 H2 := fun a o ha => ex a o (fun z => by subst z; rw [hD] at ha; cases ha) (by rw [upd_ne (ne_of_none ha hD)]; exact ha)
        have exM : ExM (Mm (c.at M0) mb s1 σ) H1 H2 := .of same1
        have L2' : Lv (c.at (Vl.plus M0 D)) s1 σ H2 := LD.foreign (c := c.at (Vl.plus M0 D)) (ex.imp fun a z => .inr z) fun a z => by
          rcases z with z | z
          · by_cases y : a = D
            · subst y; exact ⟨_, hacc, trivial⟩
            · obtain ⟨o, h1, h2⟩ := LD.m0 a (.inl z)
              exact ⟨o, ex a o y h1, h2⟩
          · subst z; exact ⟨_, hacc, trivial⟩
        cases m' with
        | zero =>
          have hi' : i = ds.length := by omega
          subst hi'
          rw [List.drop_length] at hrest
          cases hrest
          rw [List.append_nil] at hys
          subst hys
          refine .inl ⟨gv.stop H2 exM, ?_⟩
          have lw := Lw.unaside L2'
          refine q _ H2 (by have z := f1.and (q := true) (N := Own (c.at M0) s σ) (Fr.of same1) fun _ z => z; rwa [Bool.and_true] at z) lw.lv m1 ⟨D, rfl, L1.notMo hD, .inr (fresh_back f1 hD), lw, ?_⟩
          simp only [Tp]
          exact ⟨acc, hacc, Dms.anti (fun b z _ => (MD b).mpr z) _ _ hzs⟩
        | succ m' =>
          have hil : i < ds.length := by omega
          refine .inr ⟨gv.go i H2 exM hil, fun H' => ExM (fun a => a = D) (upd H1 D (.lst [])) H' ∧ ∃ acc zs rest, H' D = some (.lst acc) ∧ Dms c.Γ (Mo (c.at (Vl.plus M0 D)) s1 σ) H' zs acc ∧ zs.length ≤ i + 1 ∧ lcP tf k fe (wipeS s1 vs) (ds.drop (i + 1)) = some rest ∧ zs ++ rest = ys, fun H' z => ⟨m', Nat.lt_succ_self _, by omega, z⟩, fun x H3 hy => ?_⟩
          obtain ⟨sm, d, hd, dm⟩ := gv.yld i H2 x H3 (Mo (c.at (Vl.plus M0 D)) s1 σ) exM (fun a z hn => by
            have z := (MD a).mp z
            rcases z with z | z
            · exact z
            · exact absurd (z ▸ hD) hn) (fun a z hn => by obtain ⟨o, ho, _⟩ := L2'.alive z; rw [hn] at ho; cases ho) hil hy
          have L3 := L2'.mono sm
          have Lb : Lv (c.at (Vl.plus M0 D)) (wipeS s1 vs) (wipe σ vs) H3 := (Lw.wipe (c := c.at (Vl.plus M0 D)) L3 ho).lv
          have ob := own_wipe (c := c.at (Vl.plus M0 D)) (s := s1) (σ := σ) ho
          rw [List.drop_eq_getElem_cons hil] at hrest
          have hd' : ds[i] = d := by rw [List.getElem?_eq_getElem hil] at hd; exact Option.some.inj hd
          rw [hd'] at hrest
          unfold lcP at hrest
          refine hg.run (Vl.plus M0 D) _ _ H3 x d Lb (Dm.anti (fun a z _ => z.elim .inl fun y => .inr ((ob a).mp y)) d x dm) _ ?_
          cases e3 : tf d (wipeS s1 vs) with
          | none => rw [e3] at hrest; cases hrest
          | some s2 =>
            rw [e3] at hrest; dsimp only at hrest
            intro σ2 L4 o4 w4
            have o4' : ∀ a, Own (c.at (Vl.plus M0 D)) s2 σ2 a ↔ Own (c.at (Vl.plus M0 D)) s1 σ a := fun a => (o4 a).trans (ob a)
            refine ⟨(wipe_ext (by rw [w4.l2]) fun j hj => w4.o2 j fun z => hj (hsl j z)).trans (wipe_ext (wipe_length σ vs) fun j hj => wipe_out hj), hk.run (Vl.plus M0 D) s2 σ2 H3 L4 _ ?_⟩
            have exs : ∀ {H'}, Same H3 H' → ExM (fun a => a = D) (upd H1 D (.lst [])) H' := fun {H'} z => ex.trans ((ExM.of sm).trans (.of z))
            cases e4 : k s2 with
            | no => rw [e4] at hrest; cases hrest
            | exc x s3 => rw [e4] at hrest; cases hrest
            | ok t s3 =>
              rw [e4] at hrest
              have h34 := hk.pu rfl s2 t s3 e4
              subst h34
              intro H4 f4 L5 m5
              have f4 : Same H3 H4 := f4
              cases t with
              | false =>
                rw [if_neg (by decide)]
                exact ⟨exs f4, acc, zs, rest, f4 D _ (sm D _ hacc), Dms.mono (.of f4) _ _ (Dms.mono (.of sm) _ _ hzs), by omega, hrest, hys⟩
              | true =>
                rw [if_pos rfl]
                dsimp only at hrest
                refine he.run (Vl.plus M0 D) s3 σ2 H4 L5 _ ?_
                cases e5 : fe s3 with
                | no => rw [e5] at hrest; cases hrest
                | exc x s4 => rw [e5] at hrest; cases hrest
                | ok y s4 =>
                  rw [e5] at hrest; dsimp only at hrest
                  have h45 := he.pu rfl s3 y s4 e5
                  subst h45
                  obtain ⟨rest', hr', rfl⟩ := Option.map_eq_some_iff.mp hrest
                  intro v H5 f5 L6 m6 hv
                  have f5 : Same H4 H5 := f5
                  have hacc5 : H5 D = some (.lst acc) := f5 D _ (f4 D _ (sm D _ hacc))
                  have hv : Dm c.Γ (Mo (c.at (Vl.plus M0 D)) s4 σ2) H5 y v := hv
                  have hv' : Dm c.Γ (Mo (c.at (Vl.plus M0 D)) s1 σ) H5 y v := Dm.anti (fun a z _ => z.elim .inl fun w => .inr ((o4' a).mpr w)) y v hv
                  have z5 : Dms c.Γ (Mo (c.at (Vl.plus M0 D)) s1 σ) H5 zs acc := Dms.mono (.of f5) _ _ (Dms.mono (.of f4) _ _ (Dms.mono (.of sm) _ _ hzs))
                  have exu : ExM (Mo (c.at (Vl.plus M0 D)) s1 σ) H5 (upd H5 D (.lst (acc ++ [v]))) := exm_upd hDM
                  refine ⟨acc, hacc5, by rw [z5.len]; exact Nat.lt_of_le_of_lt hzl (Nat.lt_of_lt_of_le hil (line_le hlen)), ?_, acc ++ [v], zs ++ [y], rest', upd_same, (Dms.mono exu _ _ z5).append (Dms.cons (Dm.mono exu _ _ hv') Dms.nil), by simp; omega, hr', by simpa using hys⟩
                  exact (exs (fun a o h => f5 a o (f4 a o h))).trans (exm_upd rfl)
      · exact q.elim)
theorem ve_lc {wi : TI} {fi : PM (List D)} {g : TG} {tf : TF} {sl : List Nat} {tt : TT} {k : PM Bool} (hi : VI c E pi mb wi fi) (hg : VG c sl g tf) (hk : VT c noE true tt k) (he : VE c noE true .st te fe) (ho : okV c vs = true) (hsl : ∀ j ∈ sl, j ∈ vs) : VE c E pi .fr (tLc wi g tt te vs) (lcE fi tf k fe vs) := ⟨pu_lc hi.pu, fun M0 s σ H L Q q => lc_at (fun R z => hi.run M0 s σ H L R z) hg hk he ho hsl L q⟩
/-! what a comprehension's block is walked in -/
variable {elt tg iter : Expr} {ifs : List Expr} {scope : Scope} {own : List (Str × Nat)} {fi : PM (List D)} {tf : TF} {k : PM Bool} {sl : List Nat}
/-! the reading that asks just what is computed -/
def canE (c : Ctx) (E : XK) (p : Bool) (m : Md) (f : PM D) : TE := fun σ H Q => ∃ M0 s, Lv (c.at M0) s σ H ∧ Po (c.at M0) E p m s σ H Q (f s)
def canT (c : Ctx) (E : XK) (p : Bool) (f : PM Bool) : TT := fun σ H Q => ∃ M0 s, Lv (c.at M0) s σ H ∧ PoB (c.at M0) E p s σ H Q (f s)
def canG (c : Ctx) (sl : List Nat) (tf : TF) : TG := fun v σ H Q => ∃ M0 s d, Lv (c.at M0) s σ H ∧ Dm c.Γ (Mo (c.at M0) s σ) H d v ∧ TgP (c.at M0) sl s σ H Q (tf d s)
theorem ME.can (h : ME X c E p m e f) : PE X e (canE c E p m f) ∧ VE c E p m (canE c E p m f) f := by
  obtain ⟨t, h1, h2⟩ := h.ex
  exact ⟨⟨fun pins s σ H Q I ⟨M0, s0, L, q⟩ => h1.run pins s σ H Q I (h2.run M0 s0 σ H L Q q)⟩, h2.pu, fun M0 s σ H L Q q => ⟨M0, s, L, q⟩⟩
theorem MT.can {f : PM Bool} (h : MT X c E p e f) : PT X e (canT c E p f) ∧ VT c E p (canT c E p f) f := by
  obtain ⟨t, h1, h2⟩ := h.ex
  exact ⟨⟨fun pins s σ H Q I ⟨M0, s0, L, q⟩ => h1.run pins s σ H Q I (h2.run M0 s0 σ H L Q q)⟩, h2.pu, fun M0 s σ H L Q q => ⟨M0, s, L, q⟩⟩
theorem MG.can (h : MG X c sl tg tf) : PG X tg (canG c sl tf) ∧ VG c sl (canG c sl tf) tf := by
  obtain ⟨t, h1, h2⟩ := h.ex
  exact ⟨⟨fun pins s σ H v u Q I r ⟨M0, s0, d, L, hd, q⟩ => h1.run pins s σ H v u Q I r (h2.run M0 s0 σ H v d L hd Q q)⟩, ⟨fun M0 s σ H v d L hd Q q => ⟨M0, s, d, L, hd, q⟩⟩⟩
structure MTs (X : Cx) (c : Ctx) (E : XK) (p : Bool) (es : List Expr) (f : PM Bool) : Prop where
  ex : PTs X es (canT c E p f) ∧ VT c E p (canT c E p f) f
theorem mts_nil : MTs X c E true [] (pur true) := ⟨⟨fun pins s σ H Q I ⟨M0, s0, L, q⟩ => pts_nil.run pins s σ H Q I (q H Fr.refl L fun _ z => z)⟩, Pu.rt, fun M0 s σ H L Q q => ⟨M0, s, L, q⟩⟩
theorem mts_one {f : PM Bool} (h : MT X c E p e f) : MTs X c E p [e] f := ⟨pts_one h.can.1, h.can.2⟩
abbrev blkX (X : Cx) (scope : Scope) (s : Shared) (H : Hp) (C : Addr) (cl : List (Str × Addr)) (fp : List Addr) : Cx := X.blk s H scope (compEnvC scope cl C X.env) fp
theorem me_lc (hc : X.calm = true) (hN : X.N.Nodup) (hi : MI X c E pi mb tg iter fi) (ok : BlkOk X.N X.env.scope scope own) (hg : ∀ s H C cl fp, MG (blkX X scope s H C cl fp) c sl tg tf) (ht : ∀ s H C cl fp, MTs (blkX X scope s H C cl fp) c noE true ifs k) (he : ∀ s H C cl fp, ME (blkX X scope s H C cl fp) c noE true .st elt fe)
    (ho : okV c (own.map (·.2)) = true := by rfl) (hsl : ∀ j ∈ sl, j ∈ own.map (·.2) := by decide) (hs : ∀ x, foldedSetIterable iter X.env x = pure x := by intro _; rfl) : ME X c E pi .fr (.ListComp elt [⟨tg, iter, ifs, 0⟩] scope pos) (lcE fi tf k fe (own.map (·.2))) :=
  let ⟨_, x1, y1⟩ := hi.ex
  have s0 : Shared := X.s_0
  ⟨_, pe_lc hc hN x1 ok (fun s H C cl fp => (hg s H C cl fp).can.1) (fun s H C cl fp => (ht s H C cl fp).ex.1) (fun s H C cl fp => (he s H C cl fp).can.1) hs, ve_lc y1 (hg s0 (fun _ => none) 0 [] []).can.2 (ht s0 (fun _ => none) 0 [] []).ex.2 (he s0 (fun _ => none) 0 [] []).can.2 ho hsl⟩
theorem ms_setLc {y : Str} {py spos : Pos} {md : Md} (hc : X.calm = true) (hN : X.N.Nodup) (hy : X.N[i]? = some y) (hyl : X.env.scope.names.lookup y = some .local)
    (hsw : swapsWith (.ListComp elt [⟨tg, iter, ifs, 0⟩] scope pos) (some (.Name y py)) spos.line X.env = pure true) (hi : MI X c E pi mb tg iter fi) (ok : BlkOk X.N X.env.scope scope own) (hg : ∀ s H C cl fp, MG (blkX X scope s H C cl fp) c sl tg tf) (ht : ∀ s H C cl fp, MTs (blkX X scope s H C cl fp) c noE true ifs k) (he : ∀ s H C cl fp, ME (blkX X scope s H C cl fp) c noE true .st elt fe)
    (hio : c.io i = none := by rfl) (ho : okV c (own.map (·.2)) = true := by rfl) (hsl : ∀ j ∈ sl, j ∈ own.map (·.2) := by decide) (hs : ∀ x, foldedSetIterable iter X.env x = pure x := by intro _; rfl) :
    MS X c E md (.Assign [.Name y py] (.ListComp elt [⟨tg, iter, ifs, 0⟩] scope pos) spos) (setM i (lcE fi tf k fe (own.map (·.2)))) :=
  let ⟨_, x1, y1⟩ := hi.ex
  have s0 : Shared := X.s_0
  have v := ve_lc y1 (hg s0 (fun _ => none) 0 [] []).can.2 (ht s0 (fun _ => none) 0 [] []).ex.2 (he s0 (fun _ => none) 0 [] []).can.2 ho hsl
  ⟨_, L2.ps_setLc hc hN hy hyl hsw x1 ok (fun s H C cl fp => (hg s H C cl fp).can.1) (fun s H C cl fp => (ht s H C cl fp).ex.1) (fun s H C cl fp => (he s H C cl fp).can.1) hs, by
    cases h : c.ow i with
    | false => exact vs_set v.st_of_fr h
    | true => exact vs_setO v h hio⟩

/-! ### .. where the block changes what slots own -/
def backS (s : S) : List Nat → S → S
  | [], s' => s'
  | j :: vs, s' => (backS s vs s').set j (s[j]?.join)
theorem backS_len : ∀ {vs : List Nat}, (backS s vs s').length = s'.length
  | [] => rfl
  | j :: vs => by unfold backS; rw [List.length_set, backS_len]
theorem backS_out : ∀ {vs : List Nat} {j : Nat}, j ∉ vs → (backS s vs s')[j]? = s'[j]?
  | [], _, _ => rfl
  | v :: vs, j, h => by
    unfold backS
    rw [set_ne fun z => h (by rw [z]; exact List.mem_cons_self ..)]
    exact backS_out fun z => h (List.mem_cons_of_mem _ z)
theorem backS_in : ∀ {vs : List Nat} {j : Nat}, j ∈ vs → j < s'.length → (backS s vs s')[j]? = some (s[j]?.join)
  | v :: vs, j, h, hl => by
    unfold backS
    by_cases e : j = v
    · subst e; exact set_eq (by rw [backS_len]; exact hl)
    · rw [set_ne e]; exact backS_in ((List.mem_cons.mp h).resolve_left e) hl
def lcL (tf : TF) (k : PM Bool) (fe : PM D) (vs : List Nat) : List D → S → Out (List D)
  | [], s => .ok [] s
  | d :: ds, s => match tf d (wipeS s vs) with
    | none => .no
    | some s1 => match k s1 with
      | .ok true s2 => (match fe s2 with
        | .ok y s3 => (match lcL tf k fe vs ds s3 with | .ok ys s4 => .ok (y :: ys) s4 | _ => .no)
        | _ => .no)
      | .ok false s2 => lcL tf k fe vs ds s2
      | _ => .no
def lcS (fi : PM (List D)) (tf : TF) (k : PM Bool) (fe : PM D) (vs : List Nat) : PM D := fun s => match fi s with
  | .ok ds s1 => (match lcL tf k fe vs ds s1 with | .ok ys s2 => if ds.length ≤ 1000000 then .ok (.lst ys) (backS s1 vs s2) else .no | _ => .no)
  | .exc x s1 => .exc x s1
  | .no => .no
theorem lcL_len {tf : TF} {k : PM Bool} : ∀ {ds outs : List D} {s s' : S}, lcL tf k fe vs ds s = .ok outs s' → outs.length ≤ ds.length
  | [], _, _, _, h => by cases h; exact Nat.le_refl _
  | d :: ds, outs, s, s', h => by
    unfold lcL at h
    split at h
    · cases h
    · split at h
      · split at h
        · split at h
          · rename_i h1; cases h; have := lcL_len h1; simp; omega
          · cases h
        · cases h
      · have := lcL_len h; simp; omega
      · cases h
theorem wipe_back (hl : s'.length = s.length) : wipeS (backS s vs s') vs = wipeS s' vs := by
  refine List.ext_getElem? fun j => ?_
  have win : ∀ {t : S}, j ∈ vs → j < t.length → (wipeS t vs)[j]? = some none := fun {t} h hb => by
    clear hl
    induction vs with
    | nil => cases h
    | cons v vs ih =>
      unfold wipeS
      by_cases e : j = v
      · subst e; exact set_eq (by rw [wipeS_len]; exact hb)
      · rw [set_ne e]; exact ih ((List.mem_cons.mp h).resolve_left e)
  by_cases hj : j ∈ vs
  · by_cases hb : j < s'.length
    · rw [win hj (by rw [backS_len]; exact hb), win hj hb]
    · rw [List.getElem?_eq_none (by rw [wipeS_len, backS_len]; omega), List.getElem?_eq_none (by rw [wipeS_len]; omega)]
  · rw [wipeS_out hj, wipeS_out hj, backS_out hj]
/-- behind the block -/
theorem lv_back (L1 : Lv c s1 σ H1) (L : Lv c s' σ1 H') (ho : okV c vs = true) (hl : σ1.length = σ.length) (h2 : ∀ j, j ∉ vs → σ1[j]? = σ[j]?) (ex : ExM (Mo c s1 σ) H1 H') (sub : ∀ a, Own c s' σ1 a → Own c s1 σ a) : Lv c (backS s1 vs s') σ H' ∧ ∀ a, Own c (backS s1 vs s') σ a ↔ Own c s' σ1 a := by
  have own : ∀ a, Own c (backS s1 vs s') σ a ↔ Own c s' σ1 a := fun a => by
    constructor
    · rintro ⟨j, e, hj, hs, hσ⟩
      have : j ∉ vs := fun z => by rw [(okV_at ho z).2] at hj; cases hj
      rw [backS_out this] at hs
      exact ⟨j, e, hj, hs, by rw [h2 j this]; exact hσ⟩
    · rintro ⟨j, e, hj, hs, hσ⟩
      have : j ∉ vs := fun z => by rw [(okV_at ho z).2] at hj; cases hj
      exact ⟨j, e, hj, by rw [backS_out this]; exact hs, by rw [← h2 j this]; exact hσ⟩
  have nvs : ∀ {j : Nat}, c.ow j = true → j ∉ vs := fun {j} hj z => by rw [(okV_at ho z).2] at hj; cases hj
  refine ⟨Lw.lv (M := Mo c s' σ1) ⟨by rw [backS_len, L.len, hl], fun a z => z.elim .inl fun y => .inr ((own a).mp y), fun j d h3 h4 => ?_, fun j d h3 h4 => ?_, fun i j a d e g1 g2 g3 g4 g5 g6 => ?_, L.m0, fun j a hj => ?_⟩, own⟩
  · by_cases hj : j ∈ vs
    · have hb : j < s'.length := by have := lt_of_get h3; rwa [backS_len] at this
      rw [backS_in hj hb] at h3
      have h3 : s1[j]?.join = some d := Option.some.inj h3
      have h5 : s1[j]? = some (some d) := by
        cases e : s1[j]? with
        | none => rw [e] at h3; cases h3
        | some x => rw [e] at h3; exact congrArg some h3
      obtain ⟨v, ev, hv⟩ := L1.sh j d h5 h4
      exact ⟨v, ev, Dm.anti (fun a z _ => z.elim .inl fun y => .inr (sub a y)) d v (Dm.mono ex d v hv)⟩
    · rw [backS_out hj] at h3
      obtain ⟨v, ev, hv⟩ := L.sh j d h3 h4
      exact ⟨v, by rw [← h2 j hj]; exact ev, hv⟩
  · have hj := nvs h4
    rw [backS_out hj] at h3
    obtain ⟨a, ea, na, t⟩ := L.own j d h3 h4
    exact ⟨a, by rw [← h2 j hj]; exact ea, na, t⟩
  · rw [backS_out (nvs g1)] at g3
    rw [backS_out (nvs g2)] at g4
    rw [← h2 i (nvs g1)] at g5
    rw [← h2 j (nvs g2)] at g6
    exact L.inj i j a d e g1 g2 g3 g4 g5 g6
  · obtain ⟨g1, g2, g3⟩ := L.iof j a hj
    rw [backS_out (nvs g1)]
    exact ⟨g1, g2, by rw [← h2 j (nvs g1)]; exact g3⟩
theorem lcS_at {wi : TI} {fi : PM (List D)} {g : TG} {tf : TF} {sl : List Nat} {tt : TT} {k : PM Bool} {M0 : Addr → Prop} {Q : VK} (hi : ∀ R, PoI (c.at M0) E pi .st s σ H R (fi s) → wi σ H R) (hg : VG c sl g tf) (hk : VT c noE pk tt k) (he : VE c noE pe .st te fe) (ho : okV c vs = true) (hsl : ∀ j ∈ sl, j ∈ vs)  (L : Lv (c.at M0) s σ H) (q : Po (c.at M0) E false .fr s σ H Q (lcS fi tf k fe vs s)) : tLc wi g tt te vs σ H Q := hi _ (by
  unfold lcS at q
  cases e1 : fi s with
  | no => rw [e1] at q; exact q
  | exc x s1 => rw [e1] at q; exact fun cls dd H' L' f' m' x' => q cls dd H' L' f' m' x'
  | ok ds s1 =>
    rw [e1] at q; dsimp only at q
    intro J H1 f1 L1 m1 gv D hD
    have gv : Gv c.Γ (Mo (c.at M0) s1 σ) (Mo (c.at M0) s1 σ) J H1 ds := gv
    cases e2 : lcL tf k fe vs ds s1 with
    | no => rw [e2] at q; exact q.elim
    | exc x s2 => rw [e2] at q; exact q.elim
    | ok ys send =>
      rw [e2] at q; dsimp only at q
      split at q
      · rename_i hlen
        have LD : Lv (c.at (Vl.plus M0 D)) s1 σ (upd H1 D (.lst [])) := Lw.lay L1 hD trivial
        have b0 : backS s1 vs s1 = s1 := by
          refine List.ext_getElem? fun j => ?_
          by_cases hj : j ∈ vs
          · by_cases hb : j < s1.length
            · rw [backS_in hj hb, List.getElem?_eq_getElem hb]; rfl
            · rw [List.getElem?_eq_none (by rw [backS_len]; omega), List.getElem?_eq_none (by omega)]
          · exact backS_out hj
        refine ⟨fun i m' H2 => i + m' = ds.length ∧ ∃ scur acc zs rest, scur.length = s1.length ∧ Lv (c.at (Vl.plus M0 D)) (backS s1 vs scur) σ H2 ∧ ExM (fun a => a = D ∨ Own (c.at M0) s1 σ a) (upd H1 D (.lst [])) H2 ∧ Up (upd H1 D (.lst [])) H2 ∧ (∀ a, Own (c.at M0) (backS s1 vs scur) σ a → Own (c.at M0) s1 σ a) ∧ H2 D = some (.lst acc) ∧ Dms c.Γ (Mo (c.at (Vl.plus M0 D)) (backS s1 vs scur) σ) H2 zs acc ∧ zs.length ≤ i ∧ lcL tf k fe vs (ds.drop i) scur = .ok rest send ∧ zs ++ rest = ys,
          ⟨ds.length, by omega, s1, [], [], ys, rfl, by rw [b0]; exact LD, ExM.refl, fun _ z => z, fun a z => by rwa [b0] at z, upd_same, Dms.nil, Nat.le_refl _, by rw [List.drop_zero]; exact e2, rfl⟩, ?_⟩
        rintro i m' H2 ⟨him, scur, acc, zs, rest, hsl', L2', ex, up, sub, hacc, hzs, hzl, hrest, hys⟩
        have ex1 : ExM (Own (c.at M0) s1 σ) H1 H2 := fun a o n ha => ex a o (fun z => z.elim (fun y => by subst y; rw [hD] at ha; cases ha) n) (by rw [upd_ne (ne_of_none ha hD)]; exact ha)
        have up1 : Up H1 H2 := (Up.same (same_new hD)).trans up
        have exM : ExM (Mo (c.at M0) s1 σ) H1 H2 := ex_mo (c := c.at M0) ex1
        have MD : ∀ (t : S) b, Mo (c.at (Vl.plus M0 D)) t σ b ↔ Vl.plus (Mo (c.at M0) t σ) D b := fun t b => mo_plus b
        cases m' with
        | zero =>
          have hi' : i = ds.length := by omega
          subst hi'
          rw [List.drop_length] at hrest
          cases hrest
          rw [List.append_nil] at hys
          subst hys
          refine .inl ⟨gv.stop H2 exM, ?_⟩
          have lw := Lw.unaside L2'
          have nD : ¬ Mo (c.at M0) (backS s1 vs send) σ D := fun z => L1.notMo hD (own_mo (c := c.at M0) sub D z)
          refine q _ H2 (by have z := f1.and (q := false) (.mk ex1 up1) m1; rwa [Bool.and_false] at z) lw.lv (fun a z => m1 a (sub a z)) ⟨D, rfl, nD, .inr (fresh_back f1 hD), lw, ?_⟩
          simp only [Tp]
          exact ⟨acc, hacc, Dms.anti (fun b z _ => (MD _ b).mpr z) _ _ hzs⟩
        | succ m' =>
          have hil : i < ds.length := by omega
          refine .inr ⟨gv.go i H2 exM hil, fun H' => ∃ scur acc zs rest, scur.length = s1.length ∧ Lv (c.at (Vl.plus M0 D)) (backS s1 vs scur) σ H' ∧ ExM (fun a => a = D ∨ Own (c.at M0) s1 σ a) (upd H1 D (.lst [])) H' ∧ Up (upd H1 D (.lst [])) H' ∧ (∀ a, Own (c.at M0) (backS s1 vs scur) σ a → Own (c.at M0) s1 σ a) ∧ H' D = some (.lst acc) ∧ Dms c.Γ (Mo (c.at (Vl.plus M0 D)) (backS s1 vs scur) σ) H' zs acc ∧ zs.length ≤ i + 1 ∧ lcL tf k fe vs (ds.drop (i + 1)) scur = .ok rest send ∧ zs ++ rest = ys, fun H' z => ⟨m', Nat.lt_succ_self _, by omega, z⟩, fun x H3 hy => ?_⟩
          obtain ⟨sm, d, hd, dm⟩ := gv.yld i H2 x H3 (Mo (c.at (Vl.plus M0 D)) (backS s1 vs scur) σ) exM (fun a z hn => by
            have z := (MD _ a).mp z
            rcases z with z | z
            · exact own_mo (c := c.at M0) sub a z
            · exact absurd (z ▸ hD) hn) (fun a z hn => by obtain ⟨o, ho, _⟩ := L2'.alive z; rw [hn] at ho; cases ho) hil hy
          have L3 := L2'.mono sm
          have hwb : wipeS (backS s1 vs scur) vs = wipeS scur vs := wipe_back hsl'
          have Lb : Lv (c.at (Vl.plus M0 D)) (wipeS scur vs) (wipe σ vs) H3 := by rw [← hwb]; exact (Lw.wipe (c := c.at (Vl.plus M0 D)) L3 ho).lv
          have ob : ∀ a, Own (c.at (Vl.plus M0 D)) (wipeS scur vs) (wipe σ vs) a ↔ Own (c.at (Vl.plus M0 D)) (backS s1 vs scur) σ a := fun a => by rw [← hwb]; exact own_wipe (c := c.at (Vl.plus M0 D)) ho a
          rw [List.drop_eq_getElem_cons hil] at hrest
          have hd' : ds[i] = d := by rw [List.getElem?_eq_getElem hil] at hd; exact Option.some.inj hd
          rw [hd'] at hrest
          unfold lcL at hrest
          refine hg.run (Vl.plus M0 D) _ _ H3 x d Lb (Dm.anti (fun a z _ => z.elim .inl fun y => .inr ((ob a).mp y)) d x dm) _ ?_
          cases e3 : tf d (wipeS scur vs) with
          | none => rw [e3] at hrest; cases hrest
          | some s2 =>
            rw [e3] at hrest; dsimp only at hrest
            intro σ2 L4 o4 w4
            have o4' : ∀ a, Own (c.at (Vl.plus M0 D)) s2 σ2 a ↔ Own (c.at (Vl.plus M0 D)) (backS s1 vs scur) σ a := fun a => (o4 a).trans (ob a)
            have σl : σ2.length = σ.length := by rw [w4.l2, wipe_length]
            have σo : ∀ j, j ∉ vs → σ2[j]? = σ[j]? := fun j hj => (w4.o2 j fun z => hj (hsl j z)).trans (wipe_out hj)
            refine ⟨wipe_ext σl σo, hk.run (Vl.plus M0 D) s2 σ2 H3 L4 _ ?_⟩
            -- what the block did so far
            have step : ∀ {s3 : S} {H' : Hp}, Lv (c.at (Vl.plus M0 D)) s3 σ2 H' → ExM (Own (c.at (Vl.plus M0 D)) s2 σ2) H3 H' → Up H3 H' → (∀ a, Own (c.at (Vl.plus M0 D)) s3 σ2 a → Own (c.at (Vl.plus M0 D)) s2 σ2 a) →
                s3.length = s1.length ∧ Lv (c.at (Vl.plus M0 D)) (backS s1 vs s3) σ H' ∧ ExM (fun a => a = D ∨ Own (c.at M0) s1 σ a) (upd H1 D (.lst [])) H' ∧ Up (upd H1 D (.lst [])) H' ∧ (∀ a, Own (c.at M0) (backS s1 vs s3) σ a → Own (c.at M0) s1 σ a) ∧ H' D = some (.lst acc) ∧ Dms c.Γ (Mo (c.at (Vl.plus M0 D)) (backS s1 vs s3) σ) H' zs acc ∧ (∀ a, Own (c.at M0) (backS s1 vs s3) σ a ↔ Own (c.at M0) s3 σ2 a) := fun {s3 H'} L5 e5 u5 m5 => by
              have sub5 : ∀ a, Own (c.at (Vl.plus M0 D)) s3 σ2 a → Own (c.at M0) s1 σ a := fun a z => sub a ((o4' a).mp (m5 a z))
              have nD : ¬ Own (c.at (Vl.plus M0 D)) s2 σ2 D := fun z => L1.notMo hD (.inr (sub D ((o4' D).mp z)))
              have exA : ExM (fun a => a = D ∨ Own (c.at M0) s1 σ a) (upd H1 D (.lst [])) H' := ex.trans ((ExM.of sm).trans (e5.imp fun a z => .inr (sub a ((o4' a).mp z))))
              have exB : ExM (Mo (c.at (Vl.plus M0 D)) s1 σ) (upd H1 D (.lst [])) H' := exA.imp fun a z => z.elim (fun y => .inl (.inr y)) .inr
              obtain ⟨L6, o6⟩ := lv_back (c := c.at (Vl.plus M0 D)) LD L5 ho σl σo exB sub5
              have l5 : s3.length = s1.length := by rw [L5.len, σl, ← L1.len]
              refine ⟨l5, L6, exA, up.trans ((Up.same sm).trans u5), fun a z => sub5 a ((o6 a).mp z), e5 D _ nD (sm D _ hacc), ?_, o6⟩
              have z1 : Dms c.Γ (Mo (c.at (Vl.plus M0 D)) (backS s1 vs scur) σ) H' zs acc := by
                have exZ : ExM (Own (c.at (Vl.plus M0 D)) (backS s1 vs scur) σ) H3 H' := e5.imp fun a z => (o4' a).mp z
                exact Dms.mono (ex_mo (c := c.at (Vl.plus M0 D)) exZ) _ _ (Dms.mono (.of sm) _ _ hzs)
              exact Dms.anti (fun a z _ => z.elim .inl fun y => .inr ((o4' a).mp (m5 a ((o6 a).mp y)))) _ _ z1
            cases e4 : k s2 with
            | no => rw [e4] at hrest; cases hrest
            | exc x s3 => rw [e4] at hrest; cases hrest
            | ok t s3 =>
              rw [e4] at hrest
              intro H4 f4 L5 m5
              cases t with
              | false =>
                rw [if_neg (by decide)]
                obtain ⟨g1, g2, g3, g4, g5, g6, g7, _⟩ := step L5 f4.ex f4.up m5
                exact ⟨s3, acc, zs, rest, g1, g2, g3, g4, g5, g6, g7, by omega, hrest, hys⟩
              | true =>
                rw [if_pos rfl]
                dsimp only at hrest
                refine he.run (Vl.plus M0 D) s3 σ2 H4 L5 _ ?_
                cases e5 : fe s3 with
                | no => rw [e5] at hrest; cases hrest
                | exc x s4 => rw [e5] at hrest; cases hrest
                | ok y s4 =>
                  rw [e5] at hrest; dsimp only at hrest
                  cases e6 : lcL tf k fe vs (ds.drop (i + 1)) s4 with
                  | no => rw [e6] at hrest; cases hrest
                  | exc x s5 => rw [e6] at hrest; cases hrest
                  | ok rest' s5 =>
                    rw [e6] at hrest
                    cases hrest
                    intro v H5 f5 L6 m6 hv
                    have hv : Dm c.Γ (Mo (c.at (Vl.plus M0 D)) s4 σ2) H5 y v := hv
                    obtain ⟨g1, g2, g3, g4, g5, g6, g7, g8⟩ := step L6 (f4.ex.trans (f5.ex.imp m5)) (f4.up.trans f5.up) (fun a z => m5 a (m6 a z))
                    have hv' : Dm c.Γ (Mo (c.at (Vl.plus M0 D)) (backS s1 vs s4) σ) H5 y v := Dm.anti (fun a z _ => z.elim .inl fun w => .inr ((g8 a).mp w)) y v hv
                    have hDM : Mo (c.at (Vl.plus M0 D)) (backS s1 vs s4) σ D := .inl (.inr rfl)
                    have exu : ExM (Mo (c.at (Vl.plus M0 D)) (backS s1 vs s4) σ) H5 (upd H5 D (.lst (acc ++ [v]))) := exm_upd hDM
                    have upu : Up H5 (upd H5 D (.lst (acc ++ [v]))) := fun a ha z => by
                      by_cases w : a = D
                      · subst w; rw [upd_same] at z; cases z
                      · rw [upd_ne w] at z; exact ha z
                    refine ⟨acc, g6, by rw [g7.len]; exact Nat.lt_of_le_of_lt hzl (Nat.lt_of_lt_of_le hil (line_le hlen)), s4, acc ++ [v], zs ++ [y], rest', g1, g2.foreign (c := c.at (Vl.plus M0 D)) (exm_upd (.inr rfl)) fun a z => ?_, g3.trans (exm_upd (.inl rfl)), g4.trans upu, g5, upd_same, (Dms.mono exu _ _ g7).append (Dms.cons (Dm.mono exu _ _ hv') Dms.nil), by simp; omega, e6, by simpa using hys⟩
                    by_cases w : a = D
                    · subst w; exact ⟨_, upd_same, trivial⟩
                    · obtain ⟨o, h1, h2⟩ := g2.m0 a z
                      exact ⟨o, by rw [upd_ne w]; exact h1, h2⟩
      · exact q.elim)
theorem ve_lcS {wi : TI} {fi : PM (List D)} {g : TG} {tf : TF} {sl : List Nat} {tt : TT} {k : PM Bool} (hi : VI c E pi .st wi fi) (hg : VG c sl g tf) (hk : VT c noE pk tt k) (he : VE c noE pe .st te fe) (ho : okV c vs = true) (hsl : ∀ j ∈ sl, j ∈ vs) : VE c E false .fr (tLc wi g tt te vs) (lcS fi tf k fe vs) := ⟨fun z => (nomatch z), fun M0 s σ H L Q q => lcS_at (fun R z => hi.run M0 s σ H L R z) hg hk he ho hsl L q⟩
theorem me_lcS (hc : X.calm = true) (hN : X.N.Nodup) (hi : MI X c E pi .st tg iter fi) (ok : BlkOk X.N X.env.scope scope own) (hg : ∀ s H C cl fp, MG (blkX X scope s H C cl fp) c sl tg tf) (ht : ∀ s H C cl fp, MTs (blkX X scope s H C cl fp) c noE pk ifs k) (he : ∀ s H C cl fp, ME (blkX X scope s H C cl fp) c noE pe .st elt fe)
    (ho : okV c (own.map (·.2)) = true := by rfl) (hsl : ∀ j ∈ sl, j ∈ own.map (·.2) := by decide) (hs : ∀ x, foldedSetIterable iter X.env x = pure x := by intro _; rfl) : ME X c E false .fr (.ListComp elt [⟨tg, iter, ifs, 0⟩] scope pos) (lcS fi tf k fe (own.map (·.2))) :=
  let ⟨_, x1, y1⟩ := hi.ex
  have s0 : Shared := X.s_0
  ⟨_, pe_lc hc hN x1 ok (fun s H C cl fp => (hg s H C cl fp).can.1) (fun s H C cl fp => (ht s H C cl fp).ex.1) (fun s H C cl fp => (he s H C cl fp).can.1) hs, ve_lcS y1 (hg s0 (fun _ => none) 0 [] []).can.2 (ht s0 (fun _ => none) 0 [] []).ex.2 (he s0 (fun _ => none) 0 [] []).can.2 ho hsl⟩
theorem ms_setLcS {y : Str} {py spos : Pos} {md : Md} (hc : X.calm = true) (hN : X.N.Nodup) (hy : X.N[i]? = some y) (hyl : X.env.scope.names.lookup y = some .local)
    (hsw : swapsWith (.ListComp elt [⟨tg, iter, ifs, 0⟩] scope pos) (some (.Name y py)) spos.line X.env = pure true) (hi : MI X c E pi .st tg iter fi) (ok : BlkOk X.N X.env.scope scope own) (hg : ∀ s H C cl fp, MG (blkX X scope s H C cl fp) c sl tg tf) (ht : ∀ s H C cl fp, MTs (blkX X scope s H C cl fp) c noE pk ifs k) (he : ∀ s H C cl fp, ME (blkX X scope s H C cl fp) c noE pe .st elt fe)
    (hio : c.io i = none := by rfl) (ho : okV c (own.map (·.2)) = true := by rfl) (hsl : ∀ j ∈ sl, j ∈ own.map (·.2) := by decide) (hs : ∀ x, foldedSetIterable iter X.env x = pure x := by intro _; rfl) :
    MS X c E md (.Assign [.Name y py] (.ListComp elt [⟨tg, iter, ifs, 0⟩] scope pos) spos) (setM i (lcS fi tf k fe (own.map (·.2)))) :=
  let ⟨_, x1, y1⟩ := hi.ex
  have s0 : Shared := X.s_0
  have v := ve_lcS y1 (hg s0 (fun _ => none) 0 [] []).can.2 (ht s0 (fun _ => none) 0 [] []).ex.2 (he s0 (fun _ => none) 0 [] []).can.2 ho hsl
  ⟨_, L2.ps_setLc hc hN hy hyl hsw x1 ok (fun s H C cl fp => (hg s H C cl fp).can.1) (fun s H C cl fp => (ht s H C cl fp).ex.1) (fun s H C cl fp => (he s H C cl fp).can.1) hs, by
    cases h : c.ow i with
    | false => exact vs_set v.st_of_fr h
    | true => exact vs_setO v h hio⟩
end Vl

set_option Elab.async false
set_option linter.all false
set_option maxRecDepth 100000
set_option maxHeartbeats 2000000
/-! dicts whose keys are ints and texts -/
namespace Vl
open PySem PySem.Spec L2
variable {c : Ctx} {M N : Addr → Prop} {s s' s1 s2 : S} {σ σ1 σ2 : St} {H H' H1 H2 : Hp} {v : V} {d : D} {i : Nat} {X : Cx} {E : XK} {e a b : Expr} {f fa fb : PM D} {p q pa pb pi : Bool} {m ma mb : Md} {t ta tb te td : TE} {pos : Pos} {ts tr : TS} {g g1 g2 : S → SO} {D0 : Ends} {Γ : KC}

/-! ### tables -/
section
variable {κ : Type} [DecidableEq κ]
def kget (ks : List (κ × D)) (k : κ) : Option D := (ks.find? fun p => decide (p.1 = k)).map (·.2)
def kput (ks : List (κ × D)) (k : κ) (d : D) : List (κ × D) := if (ks.any fun p => decide (p.1 = k)) = true then ks.map (fun p => if p.1 = k then (p.1, d) else p) else ks ++ [(k, d)]
end
def kD : Key → D
  | .inl i => .int i
  | .inr x => .str x
def kof : D → Option Key
  | .int i => some (.inl i)
  | .str x => some (.inr x)
  | _ => none
theorem dm_kD {k : Key} : Dm Γ M H (kD k) (kV k) := by
  cases k with
  | inl i => exact dm_int
  | inr x => exact dm_str
theorem dm_kof {k : Key} (h : kof d = some k) (hd : Dm Γ M H d v) : v = kV k := by
  cases d <;> simp only [kof] at h <;> cases h
  · exact hd.toI
  · exact hd.toS
def OD (Γ : KC) (M : Addr → Prop) (H : Hp) : Option D → Option V → Prop
  | some d, some v => Dm Γ M H d v
  | none, none => True
  | _, _ => False
theorem Dmk.uncons {k : Key} {ks : List (Key × D)} {xs : List (Key × V)} (h : Dmk Γ M H ((k, d) :: ks) xs) : ∃ x r, xs = (k, x) :: r ∧ Dm Γ M H d x ∧ Dmk Γ M H ks r := by simpa only [Dmk] using h
theorem Dmk.cons {k : Key} {ks : List (Key × D)} {r : List (Key × V)} (h : Dm Γ M H d v) (t : Dmk Γ M H ks r) : Dmk Γ M H ((k, d) :: ks) ((k, v) :: r) := by
  simp only [Dmk]; exact ⟨v, r, rfl, h, t⟩
theorem Dmk.nil : Dmk Γ M H [] [] := by simp [Dmk]
theorem Dmk.get (k : Key) : ∀ {ks : List (Key × D)} {xs : List (Key × V)}, Dmk Γ M H ks xs → OD Γ M H (kget ks k) (valV xs k)
  | [], _, h => by simp only [Dmk] at h; subst h; trivial
  | (j, d) :: ks, _, h => by
    obtain ⟨x, r, rfl, h1, h2⟩ := h.uncons
    by_cases e : j = k
    · rw [valV_pos e]
      have : kget ((j, d) :: ks) k = some d := by simp [kget, List.find?_cons, e]
      rw [this]; exact h1
    · rw [valV_neg e]
      have : kget ((j, d) :: ks) k = kget ks k := by simp [kget, List.find?_cons, e]
      rw [this]; exact Dmk.get k h2
theorem Dmk.len : ∀ {ks : List (Key × D)} {xs : List (Key × V)}, Dmk Γ M H ks xs → xs.length = ks.length
  | [], _, h => by simp only [Dmk] at h; subst h; rfl
  | (j, d) :: ks, _, h => by
    obtain ⟨x, r, rfl, h1, h2⟩ := h.uncons
    simp [Dmk.len h2]
theorem Dmk.any (k : Key) : ∀ {ks : List (Key × D)} {xs : List (Key × V)}, Dmk Γ M H ks xs → (xs.any fun p => decide (p.1 = k)) = ks.any fun p => decide (p.1 = k)
  | [], _, h => by simp only [Dmk] at h; subst h; rfl
  | (j, d) :: ks, _, h => by
    obtain ⟨x, r, rfl, h1, h2⟩ := h.uncons
    rw [List.any_cons, List.any_cons, Dmk.any k h2]
theorem Dmk.repl {k : Key} {y : D} {w : V} (hy : Dm Γ M H y w) : ∀ {ks : List (Key × D)} {xs : List (Key × V)}, Dmk Γ M H ks xs → Dmk Γ M H (ks.map fun p => if p.1 = k then (p.1, y) else p) (xs.map fun p => if p.1 = k then (p.1, w) else p)
  | [], _, h => by simp only [Dmk] at h; subst h; exact Dmk.nil
  | (j, d) :: ks, _, h => by
    obtain ⟨x, r, rfl, h1, h2⟩ := h.uncons
    rw [List.map_cons, List.map_cons]
    by_cases e : j = k
    · simp only [e, if_true]; exact Dmk.cons hy (Dmk.repl hy h2)
    · simp only [if_neg e]; exact Dmk.cons h1 (Dmk.repl hy h2)
theorem Dmk.snoc {k : Key} : ∀ {ks : List (Key × D)} {xs : List (Key × V)}, Dmk Γ M H ks xs → Dm Γ M H d v → Dmk Γ M H (ks ++ [(k, d)]) (xs ++ [(k, v)])
  | [], _, h, hd => by simp only [Dmk] at h; subst h; exact Dmk.cons hd Dmk.nil
  | (j, d) :: ks, _, h, hd => by
    obtain ⟨x, r, rfl, h1, h2⟩ := h.uncons
    exact Dmk.cons h1 (Dmk.snoc h2 hd)
theorem Dmk.put {ks : List (Key × D)} {xs : List (Key × V)} {k : Key} (h : Dmk Γ M H ks xs) (hd : Dm Γ M H d v) : Dmk Γ M H (kput ks k d) (putK xs k v) := by
  unfold kput putK
  rw [h.any k]
  split
  · exact Dmk.repl hd h
  · exact Dmk.snoc h hd
theorem Dmk.at : ∀ {ks : List (Key × D)} {xs : List (Key × V)} {j : Nat} {k : Key} {w : V}, Dmk Γ M H ks xs → xs[j]? = some (k, w) → ∃ d, ks[j]? = some (k, d) ∧ Dm Γ M H d w
  | [], _, _, _, _, h, e => by simp only [Dmk] at h; subst h; simp at e
  | (k', d) :: ks, _, j, k, w, h, e => by
    obtain ⟨x, r, rfl, h1, h2⟩ := h.uncons
    cases j with
    | zero => cases e; exact ⟨d, rfl, h1⟩
    | succ j => exact Dmk.at (j := j) h2 (by simpa using e)
theorem dm_dk {ks : List (Key × D)} (h : Dm Γ M H (.dk ks) v) : ∃ a kvs, v = .ref a ∧ ¬ M a ∧ Rd H a (.dK kvs) ∧ Dmk Γ M H ks kvs := by simpa only [Dm] using h

/-! ### d[k], k in d, d.get(k, x) -/
def rDGet : R2 := fun x y H Q => ∃ a v, x = .ref a ∧ DGet H a y (some v) ∧ Q v H
theorem ixTail {prog : Program} {w : World} {A : Around} {EE : Value → Shared → Prop} {sh : Shared} {value slice : Expr} {o u : Value} {T id : String} {Q : Value → Shared → Prop}
    (hl : typeLookup (.type T) "__getitem__" = pure (some (.builtin id))) (hs : subscripted slice false o u = operate [o, u] (getItem o u)) (hT : sh.TypeIs o T) (h₂ : wpAny (model prog w) A (getItem o u) Q EE sh) :
    wpAny (model prog w) A (PyProof.Rows.subscriptTail value slice o u) Q EE sh := by
  have last : wpAny (model prog w) A (subscripted slice false o u) (fun x z => wpAny (model prog w) A (letTemporaryGo value o x >>= fun _ => pure x) Q EE z) EE sh :=
    hs ▸ wpAny_operating (wpAny_mono h₂ (fun _ _ q => wpAny_bind (wpAny_letTemporaryGo (wpAny_pure q))) fun _ _ q => q)
  unfold PyProof.Rows.subscriptTail
  exact wpAny_bind (getitemInPython_of_ne hT.not_modules ▸ wpAny_bind (wpAny_specialOf hT hl (by
    first | exact wpAny_pure (wpAny_bind last) | exact wpAny_bind (wpAny_pure (wpAny_bind last)) | exact wpAny_bind last)))
theorem ix_dict (hu : X.A.units + 1 < cLine) : IxR X rDGet := by
  intro value slice pins s σ H x y v u Q I rx ry h hs
  obtain ⟨a, z, rfl, g, q⟩ := h
  cases rx
  exact ixTail PySem.F.slot_dict_getitem.lookup hs (dict_typeIs I g) (d_getItem hu I g ry fun w' s3 I3 rw' => ⟨z, H, I3, rw', q⟩)
theorem dget_of {ks : List (Key × D)} {k : Key} {y : V} {kd : D} (h : Dm Γ M H (.dk ks) v) (hk : kof kd = some k) (hy : Dm Γ no H1 kd y) : ∃ a o, v = .ref a ∧ IsD H a ∧ DGet H a y o ∧ OD Γ M H (kget ks k) o := by
  obtain ⟨a, kvs, rfl, _, h2, h3⟩ := dm_dk h
  exact ⟨a, valV kvs k, rfl, .inl ⟨kvs, h2⟩, .inl ⟨kvs, k, h2, dm_kof hk hy, rfl⟩, h3.get k⟩
theorem OD.some {o : Option V} (h : OD Γ M H (some d) o) : ∃ v, o = some v ∧ Dm Γ M H d v := by
  cases o with
  | none => exact h.elim
  | some v => exact ⟨v, rfl, h⟩
theorem OD.isSome {x : Option D} {o : Option V} (h : OD Γ M H x o) : o.isSome = x.isSome := by
  cases x <;> cases o <;> first | rfl | exact h.elim
theorem OD.getD {x : Option D} {o : Option V} (h : OD Γ M H x o) (hd : Dm Γ M H d v) : Dm Γ M H (x.getD d) (o.getD v) := by
  cases x <;> cases o <;> first | exact hd | exact h | exact h.elim
def dgG : GD := fun ds => match ds with | [.dk ks, k] => (kof k).bind (kget ks) | _ => none
theorem rm_dget : RM Γ (arg2 rDGet) dgG := fun M ds vs d H hM hv e Q q => by
  unfold dgG at e
  split at e
  · obtain ⟨k, e1, e2⟩ := Option.bind_eq_some_iff.mp e
    obtain ⟨x, r, rfl, h1, h2⟩ := hv.uncons
    obtain ⟨y, rfl, h3⟩ := h2.one
    obtain ⟨a, o, rfl, _, h4, h5⟩ := dget_of h1 e1 h3.no
    rw [e2] at h5
    obtain ⟨z, rfl, h6⟩ := h5.some
    exact ⟨_, _, rfl, a, z, rfl, h4, q z H (Same.refl _) h6⟩
  · cases e
/-- s[i] of all: lists, tuples, texts, dicts -/
def rIxA (K : PySem.W.Frag) : R2 := fun x y H Q => rIx K x y H Q ∨ rDGet x y H Q
def ixAG : GD := fun ds => match ds with | [.dk ks, k] => (kof k).bind (kget ks) | _ => ixG ds
theorem ixA (hu : X.A.units + 1 < cLine) : IxR X (rIxA X.K) := ix_seq.or (ix_dict hu)
theorem rm_ixA : RM Γ (arg2 (rIxA Γ.K)) ixAG := fun M ds vs d H hM hv e Q q => by
  by_cases hd : ∃ ks k, ds = [.dk ks, k]
  · obtain ⟨ks, k, rfl⟩ := hd
    obtain ⟨x, y, h1, h2⟩ := rm_dget M _ vs d H hM hv e Q q
    exact ⟨x, y, h1, .inr h2⟩
  · have e' : ixG ds = some d := by
      unfold ixAG at e
      split at e
      · exact absurd ⟨_, _, rfl⟩ hd
      · exact e
    obtain ⟨x, y, h1, h2⟩ := rm_ix M ds vs d H hM hv e' Q q
    exact ⟨x, y, h1, .inl h2⟩
theorem cl_ixA : Cl Γ (arg2 (rIxA Γ.K)) ixAG .st .st := .m rm_ixA
theorem cl_ixAN : Cl Γ (arg2 (rIxA Γ.K)) ixAG m .now := .n rm_ixA

/-! in, not in -/
def rDIn (neg : Bool) : R2 := fun y x H Q => ∃ a o, x = .ref a ∧ DGet H a y o ∧ Q (.bl (if neg then !o.isSome else o.isSome)) H
theorem op_inDk (hu : X.A.units + 1 < cLine) : OpR X (compareOp .In) (rDIn false) := by
  intro pins s σ H x y v u Q I rx ry h
  obtain ⟨a, o, rfl, g, q⟩ := h
  cases ry
  exact d_in hu I g rx fun s3 I3 => ⟨.bl o.isSome, H, I3, rfl, q⟩
theorem op_notInDk (hu : X.A.units + 1 < cLine) : OpR X (compareOp .NotIn) (rDIn true) := by
  intro pins s σ H x y v u Q I rx ry h
  obtain ⟨a, o, rfl, g, q⟩ := h
  cases ry
  exact d_notIn hu I g rx fun s3 I3 => ⟨.bl (!o.isSome), H, I3, rfl, q⟩
def rInStr (neg : Bool) : R2 := fun x y H Q => ∃ (c : Nat) (z : Str), x = .str ⟨#[c]⟩ ∧ y = .str z ∧ Q (.bl (if neg then !decide (c ∈ z.cps.toList) else decide (c ∈ z.cps.toList))) H
def rInA (K : PySem.W.Frag) (neg : Bool) : R2 := fun x y H Q => ((rIn K neg x y H Q ∨ (if neg then rNotInD K x y H Q else rInD K x y H Q)) ∨ rInStr neg x y H Q) ∨ rDIn neg x y H Q
theorem op_inA (hu : X.A.units + 65 < cLine) : OpR X (compareOp .In) (rInA X.K false) := ((op_in_seq.or (op_inD hu)).or op_in_sign).or (op_inDk (by omega))
theorem op_notInA (hu : X.A.units + 65 < cLine) : OpR X (compareOp .NotIn) (rInA X.K true) := ((op_notIn_seq.or (op_notInD hu)).or op_notIn_sign).or (op_notInDk (by omega))
def vOf : D → Option V
  | .non => some .non
  | .bl b => some (.bl b)
  | .int i => some (.int i)
  | .str x => some (.str x)
  | _ => none
def vsOf : List D → Option (List V)
  | [] => some []
  | d :: ds => (vOf d).bind fun v => (vsOf ds).map (v :: ·)
theorem vOf_eq {u : V} (h : vOf d = some u) (hd : Dm Γ M H d v) : v = u ∧ flatV u = true := by
  cases d <;> simp only [vOf] at h <;> cases h
  · exact ⟨hd.toN, rfl⟩
  · exact ⟨hd.toB, rfl⟩
  · exact ⟨hd.toI, rfl⟩
  · exact ⟨hd.toS, rfl⟩
theorem vsOf_eq : ∀ {ds : List D} {us vs : List V}, vsOf ds = some us → Dms Γ M H ds vs → vs = us ∧ us.all flatV = true
  | [], _, _, h, hd => by simp only [vsOf] at h; cases h; simp only [Dms] at hd; exact ⟨hd, rfl⟩
  | d :: ds, us, vs, h, hd => by
    simp only [vsOf] at h
    obtain ⟨u, e1, h⟩ := Option.bind_eq_some_iff.mp h
    obtain ⟨r, e2, rfl⟩ := Option.map_eq_some_iff.mp h
    obtain ⟨x, rs, rfl, h1, h2⟩ := hd.uncons
    obtain ⟨rfl, f1⟩ := vOf_eq e1 h1
    obtain ⟨rfl, f2⟩ := vsOf_eq e2 h2
    exact ⟨rfl, by rw [List.all_cons, f1, f2]; rfl⟩
/-- whether x is among ds -/
def memP (x : D) (ds : List D) (ls : Bool) : Option Bool := match vOf x, vsOf ds with
  | some u, some us => some (inV u us)
  | _, _ => if ls = true then (toPy x).bind fun p => (toPys ds).bind fun ps => if SeqAt.shaped p = true ∧ SeqAt.shaped (.list ps) = true then some (ps.any fun z => PyData.eqv z p) else none else none
def inP : D → D → Option Bool
  | x, .lst ds => memP x ds true
  | x, .tup ds => memP x ds false
  | .str x, .str z => match x with
    | ⟨⟨[c]⟩⟩ => some (decide (c ∈ z.cps.toList))
    | _ => none
  | k, .dk ks => (kof k).map fun k => (kget ks k).isSome
  | _, _ => none
def inG (neg : Bool) : GD := fun ds => match ds with | [x, y] => (inP x y).map fun b => .bl (if neg then !b else b) | _ => none
theorem memP_run {x : D} {ds : List D} {ls b neg : Bool} {xv : V} {xs : List V} {a : Addr} {Q : VK} (e : memP x ds ls = some b) (hx : Dm Γ M H x xv) (hs : if ls = true then SqL Γ.K H a xs else SqT Γ.K H a xs) (hd : Dms Γ M H ds xs) (q : Q (.bl (if neg then !b else b)) H) : rInA Γ.K neg xv (.ref a) H Q := by
  unfold memP at e
  split at e
  · rename_i u us e1 e2
    cases e
    obtain ⟨rfl, f1⟩ := vOf_eq e1 hx
    obtain ⟨rfl, f2⟩ := vsOf_eq e2 hd
    refine .inl (.inl (.inl ⟨a, _, rfl, ?_, f1, f2, q⟩))
    cases ls with
    | true => exact .inl hs
    | false => exact .inr hs
  · obtain ⟨rfl, e⟩ : ls = true ∧ _ := by
      split at e
      · exact ⟨by assumption, e⟩
      · cases e
    obtain ⟨p, e1, e⟩ := Option.bind_eq_some_iff.mp e
    obtain ⟨ps, e2, e⟩ := Option.bind_eq_some_iff.mp e
    obtain ⟨⟨s1, s2⟩, rfl⟩ := if_some e
    refine .inl (.inl (.inr ?_))
    have d1 := toPy_dp _ _ _ e1 hx
    have d2 : Dp Γ.K H (.ref a) (.list ps) := .lst hs (toPys_dp _ _ _ e2 hd)
    cases neg with
    | true => exact ⟨p, ps, d1, d2, s1, s2, q⟩
    | false => exact ⟨p, ps, d1, d2, s1, s2, q⟩
theorem cl_in {neg : Bool} : Cl Γ (arg2 (rInA Γ.K neg)) (inG neg) m .st := .s fun ds vs d H hv e Q q => by
  unfold inG at e
  split at e
  · obtain ⟨b, e1, rfl⟩ := Option.map_eq_some_iff.mp e
    obtain ⟨x, r, rfl, h1, h2⟩ := hv.uncons
    obtain ⟨y, rfl, h3⟩ := h2.one
    have fin := q (.bl (if neg then !b else b)) H (Same.refl _) fun _ => dm_bl
    refine ⟨x, y, rfl, ?_⟩
    unfold inP at e1
    split at e1
    · simp only [Dm] at h3
      obtain ⟨a, ys, rfl, h4, h5⟩ := h3
      exact memP_run e1 h1 h4.sq h5 fin
    · simp only [Dm] at h3
      obtain ⟨a, ys, rfl, h4, h5⟩ := h3
      exact memP_run e1 h1 h4.sq h5 fin
    · split at e1
      · cases e1
        exact .inl (.inr ⟨_, _, h1.toS, h3.toS, fin⟩)
      · cases e1
    · obtain ⟨k, e2, rfl⟩ := Option.map_eq_some_iff.mp e1
      obtain ⟨a, o, rfl, _, h4, h5⟩ := dget_of h3 e2 h1
      refine .inr ⟨a, o, rfl, h4, ?_⟩
      rw [h5.isSome]; exact fin
    · cases e1
  · cases e
end Vl

set_option Elab.async false
set_option linter.all false
set_option maxRecDepth 100000
set_option maxHeartbeats 2000000
/-! dicts: get, stores, dict(), displays -/
namespace Vl
open PySem PySem.Spec L2
variable {c : Ctx} {M N : Addr → Prop} {s s' s1 s2 : S} {σ σ1 σ2 : St} {H H' H1 H2 : Hp} {v : V} {d : D} {i : Nat} {X : Cx} {E : XK} {e a b : Expr} {f fa fb fd fk fx fv : PM D} {p q pa pb pc pi : Bool} {m ma mb mk : Md} {t ta tb te td ty tx : TE} {pos pos' apos cpos : Pos} {ts tr : TS} {g g1 g2 : S → SO} {D0 : Ends} {Γ : KC}

theorem mdr_mm (hm : m ≠ .fr) : Mdr c m s H s' σ H' d v ↔ Dm c.Γ (Mm c m s' σ) H' d v := by
  cases m with
  | now => exact Iff.rfl
  | st => exact Iff.rfl
  | fr => exact absurd rfl hm
def isDk : D → Bool
  | .dk _ => true
  | _ => false
def getG (d k x : D) : Option D := match d with | .dk ks => (kof k).map fun k => (kget ks k).getD x | _ => none
def getM (fd fk fx : PM D) : PM D := bd fd fun d => if isDk d = true then bd fk fun k => bd fx fun x => lft (getG d k x) else fun _ => .no
theorem isDk_is (h : isDk d = true) (hd : Dm Γ M H d v) : ∃ a, v = .ref a ∧ IsD H a := by
  cases d <;> simp only [isDk] at h <;> try cases h
  obtain ⟨a, kvs, rfl, _, h2, _⟩ := dm_dk hd
  exact ⟨a, rfl, .inl ⟨kvs, h2⟩⟩
theorem isDk_eq (h : isDk d = true) : ∃ ks, d = .dk ks := by
  cases d <;> simp only [isDk] at h <;> first | exact ⟨_, rfl⟩ | cases h
theorem pu_get (h1 : Pu pa fd) (h2 : Pu pb fk) (h3 : Pu pc fx) : Pu (pa && (pb && pc)) (getM fd fk fx) := h1.bnd fun d => by
  split
  · refine h2.bnd fun k => ?_
    have z := h3.bnd (q := true) (g := fun x => lft (getG d k x)) fun x => Pu.lift
    rwa [Bool.and_true] at z
  · exact pu_no
theorem ve_get2 (hd : VE c E pa m td fd) (hk : VE c E pb mk ty fk) (hx : VE c E pc m tx fx) (hm : m ≠ .fr) (hs1 : Stay m pb) (hs2 : Stay m pc) : VE c E (pa && (pb && pc)) m (tDGet2 td ty tx) (getM fd fk fx) := ⟨pu_get hd.pu hk.pu hx.pu, fun M0 s σ H L Q q => hd.run M0 s σ H L _ (by
  unfold getM at q
  cases e1 : fd s with
  | no => rw [bnd_no e1] at q; exact q
  | exc x s1 => rw [bnd_exc e1] at q; exact q
  | ok d s1 =>
    rw [bnd_ok e1] at q
    intro v H1 f1 L1 m1 h1
    split at q
    · rename_i hk'
      have h1 := (mdr_mm hm).mp h1
      obtain ⟨a, rfl, isd⟩ := isDk_is hk' h1
      obtain ⟨ks, rfl⟩ := isDk_eq hk'
      refine ⟨a, rfl, isd, hk.run M0 s1 σ H1 L1 _ ?_⟩
      cases e2 : fk s1 with
      | no => rw [bnd_no e2] at q; exact q
      | exc x s2 => rw [bnd_exc e2] at q; exact exc_next (o := no) f1 m1 q
      | ok k s2 =>
        rw [bnd_ok e2] at q
        intro y H2 f2 L2 m2 h2
        refine hx.run M0 s2 σ H2 L2 _ ?_
        have f12 := f1.and f2 m1
        cases e3 : fx s2 with
        | no => rw [bnd_no e3] at q; exact q
        | exc x s3 => rw [bnd_exc e3] at q; exact exc_next (o := no) f12 (iff_trans m2 m1) q
        | ok x s3 =>
          rw [bnd_ok e3] at q
          intro z H3 f3 L3 m3 h3
          unfold lft at q
          cases e4 : getG (.dk ks) k x with
          | none => rw [e4] at q; exact q.elim
          | some r =>
            rw [e4] at q
            simp only [getG] at e4
            obtain ⟨k', ek, rfl⟩ := Option.map_eq_some_iff.mp e4
            have w1 : Mdr (c.at M0) m s H s3 σ H3 (.dk ks) (.ref a) := (((mdr_mm hm).mpr h1).stay f2 m2 hs1).stay f3 m3 hs2
            have w1 := (mdr_mm hm).mp w1
            obtain ⟨a', o, ea, _, h4, h5⟩ := dget_of w1 ek h2.no
            cases ea
            refine ⟨o, h4, q _ H3 ?_ L3 (iff_trans m3 (iff_trans m2 m1)) ((mdr_mm hm).mpr (h5.getD ((mdr_mm hm).mp h3)))⟩
            have z2 := f12.and f3 (iff_trans m2 m1)
            rwa [Bool.and_assoc] at z2
    · exact q.elim)⟩
theorem me_get2 {o k x : Expr} (hu : X.A.units + 1 < cLine) (hd : ME X c E pa m o fd) (hk : ME X c E pb mk k fk) (hx : ME X c E pc m x fx) (hs1 : Stay m pb) (hs2 : Stay m pc) (hm : m ≠ .fr := by decide) (w : M2 X o "get" apos k x cpos := by exact ⟨rfl, rfl, rfl, rfl⟩) :
    ME X c E (pa && (pb && pc)) m (.Call (.Attribute o "get" apos) [k, x] [] cpos) (getM fd fk fx) :=
  let ⟨_, x1, y1⟩ := hd.ex; let ⟨_, x2, y2⟩ := hk.ex; let ⟨_, x3, y3⟩ := hx.ex; ⟨_, pe_dget2 hu x1 x2 x3 w, ve_get2 y1 y2 y3 hm hs1 hs2⟩

/-! ### o[k] = v, o a slot that owns a list or a dict -/
def setIG (o k v : D) : Option D := match o with
  | .lst xs => (match k with | .int n => (ixN xs.length n).map fun j => .lst (xs.set j v) | _ => none)
  | .dk ks => if ks.length < 1000000 then (kof k).map fun k => .dk (kput ks k v) else none
  | _ => none
def rSetA : V → V → V → Hp → (Hp → Prop) → Prop := fun o i v H Q => rSetL o i v H Q ∨ ∃ a H4, o = .ref a ∧ DPut H a i v H4 ∧ Q H4
theorem set_any (hu : X.A.units + 1 < cLine) : PSet X rSetA := by
  intro pins s σ H o i v ov iv u Q I ro ri rv h
  rcases h with h | ⟨a, H4, rfl, g, q⟩
  · exact set_list pins s σ H o i v ov iv u Q I ro ri rv h
  · cases ro
    exact d_setItem hu I g ri rv fun s4 I4 => ⟨H4, I4, q⟩
theorem rset_run {d0 kd vd d1 : D} {a : Addr} {kv vv : V} {Q : Hp → Prop} (hM : M a) (t : Tp Γ M H d0 a) (hk : Dm Γ Vl.no H kd kv) (hv : Dm Γ M H vd vv) (e : setIG d0 kd vd = some d1) (q : ∀ o, MutO o → Tp Γ M (upd H a o) d1 a → Q (upd H a o)) : rSetA (.ref a) kv vv H Q := by
  cases d0 <;> simp only [setIG] at e <;> try cases e
  · cases kd <;> simp only at e <;> try cases e
    obtain ⟨j, e1, rfl⟩ := Option.map_eq_some_iff.mp e
    simp only [Tp] at t
    obtain ⟨ys, e6, h6⟩ := t
    have := hk.toI
    subst this
    have ex : ExM M H (upd H a (.lst (ys.set j vv))) := exm_upd hM
    exact .inl ⟨a, ys, _, j, rfl, rfl, e6, by rw [h6.len]; exact e1, q _ trivial (by simp only [Tp]; exact ⟨_, upd_same, (Dms.mono ex _ _ h6).set (Dm.mono ex _ _ hv)⟩)⟩
  · split at e
    · rename_i hl
      obtain ⟨k, e1, rfl⟩ := Option.map_eq_some_iff.mp e
      simp only [Tp] at t
      obtain ⟨kvs, e6, h6⟩ := t
      have := dm_kof e1 hk
      subst this
      have ex : ExM M H (upd H a (.dK (putK kvs k vv))) := exm_upd hM
      exact .inr ⟨a, _, rfl, .k e6 (by rw [h6.len]; exact line6 hl), q _ trivial (by simp only [Tp]; exact ⟨_, upd_same, (Dmk.mono ex _ _ h6).put (Dm.mono ex _ _ hv)⟩)⟩
    · cases e
def setI (i : Nat) (fk fv : PM D) : S → SO := fun s => match fv s with
  | .ok d s1 => (match s1[i]? with
    | some (some _) => (match fk s1 with
      | .ok k s2 => (match s2[i]? with
        | some (some o) => (match setIG o k d with | some o' => .nx (s2.set i (some o')) | none => .no)
        | _ => .no)
      | .exc x s2 => .exc x s2
      | .no => .no)
    | _ => .no)
  | .exc x s1 => .exc x s1
  | .no => .no
theorem vs_setI {tk tv : TE} {fk fv : PM D} (hv : VE c E pa .st tv fv) (hk : VE c E pb mb tk fk) (ho : c.ow i = true) : VS c E m (tAsg tv (gSub (tVar i) tk rSetA)) (setI i fk fv) := ⟨fun M0 s σ H L D0 q => hv.run M0 s σ H L _ (by
  unfold setI at q
  cases e1 : fv s with
  | no => rw [e1] at q; exact q
  | exc x s1 => rw [e1] at q; exact exc_fo q
  | ok d s1 =>
    rw [e1] at q; dsimp only at q
    intro v H1 f1 L1 m1 h1
    cases e2 : s1[i]? with
    | none => rw [e2] at q; exact q.elim
    | some x1 =>
      cases x1 with
      | none => rw [e2] at q; exact q.elim
      | some d1 =>
        rw [e2] at q; dsimp only at q
        obtain ⟨a, ea, na, t1⟩ := L1.own i d1 e2 ho
        refine ⟨_, ea, hk.run M0 s1 σ H1 L1 _ ?_⟩
        cases e3 : fk s1 with
        | no => rw [e3] at q; exact q
        | exc x s2 => rw [e3] at q; exact exc_fo (PoS.next (o := .exc x s2) q (.of f1 m1))
        | ok k s2 =>
          rw [e3] at q; dsimp only at q
          intro w H2 f2 L2 m2 h2
          have h1' := h1.stay f2 m2 stS
          cases e4 : s2[i]? with
          | none => rw [e4] at q; exact q.elim
          | some x2 =>
            cases x2 with
            | none => rw [e4] at q; exact q.elim
            | some o =>
              rw [e4] at q; dsimp only at q
              cases e5 : setIG o k d with
              | none => rw [e5] at q; exact q.elim
              | some o' =>
                rw [e5] at q; dsimp only at q
                obtain ⟨b, eb, nb, t2⟩ := L2.own i _ e4 ho
                rw [ea] at eb; cases eb
                have hw : Own (c.at M0) s2 σ a := ⟨i, _, ho, e4, ea⟩
                refine rset_run (Γ := c.Γ) (M := Mo (c.at M0) s2 σ) (.inr hw) t2 h2.no h1' e5 fun ob mo t3 => ?_
                refine q σ _ (L2.put (c := c.at M0) (o := ob) ho e4 ea mo t3).lv ((Fo.of f1 m1).trans ((Fo.of f2 m2).trans ⟨exm_upd hw, fun b hb z => ?_, fun b z => .inl ((own_put e4 b).mp z)⟩))
                by_cases y : b = a
                · subst y; rw [upd_same] at z; cases z
                · rw [upd_ne y] at z; exact hb z)⟩
theorem ms_setI {o k : Expr} {fk fv : PM D} (hu : X.A.units + 1 < cLine) (ho : PE X o (tVar i)) (hk : ME X c E pb mb k fk) (hv : ME X c E pa .st e fv) (hw : c.ow i = true := by rfl)
    (ha : ∀ v, assign (.Subscript o k pos') X.env v = (do
      let ov ← holding [v] (eval o X.env)
      let iv ← holding [v, ov] (eval k X.env)
      standAt pos'
      holding [v, ov, iv] (setItem ov iv v)
      release [v, ov, iv] []) := by intro _; rfl)
    (hs : swapsWithSole [.Subscript o k pos'] e pos.line X.env = pure false := by rfl) (hsw : swappedStores [.Subscript o k pos'] e X.env = pure none := by rfl)
    (h1 : (assignEach [.Subscript o k pos'] X.env).map (·.2) = [assign (.Subscript o k pos') X.env] := by rfl) : MS X c E m (.Assign [.Subscript o k pos'] e pos) (setI i fk fv) :=
  let ⟨_, x1, y1⟩ := hk.ex; let ⟨_, x2, y2⟩ := hv.ex; ⟨_, ps_asg x2 (pg_sub ho x1 (set_any hu) ha) hs hsw h1, vs_setI y2 y1 hw⟩

/-! ### {}, dict(x), {k: v, ..} -/
def rDNew : RA := fun _ H Q => ∀ p, H p = none → Q (.ref p) (upd H p (.dK []))
theorem me_dnew : ME X c E true .fr (.Dict [] [] pos) (apA (fun _ => some (.dk [])) (pur [])) := ⟨tCB rDNew tNil, pe_dnewK, (VA.nil (m := .st) (by decide)).ap (.f fun M ds vs d H hd e Q q p hp => by
  cases e
  exact q p _ hp (by simp only [Tp]; exact ⟨[], upd_same, Dmk.nil⟩))⟩
def mergeD (ks more : List (Key × D)) : List (Key × D) := more.foldl (fun acc kv => kput acc kv.1 kv.2) ks
theorem Dmk.merge : ∀ {more ks : List (Key × D)} {xs ys : List (Key × V)}, Dmk Γ M H ks xs → Dmk Γ M H more ys → Dmk Γ M H (mergeD ks more) (mergeK xs ys)
  | [], _, _, _, h, h' => by simp only [Dmk] at h'; subst h'; exact h
  | (k, d) :: more, _, _, _, h, h' => by
    obtain ⟨x, r, rfl, h1, h2⟩ := h'.uncons
    have z := Dmk.merge (h.put (k := k) h1) h2
    exact z
def pairsD : List D → Option (List (Key × D))
  | [] => some []
  | .tup [k, v] :: r => (kof k).bind fun k => (pairsD r).map ((k, v) :: ·)
  | _ :: _ => none
theorem pairs_run : ∀ {ds : List D} {xs : List V} {ks : List (Key × D)}, Dms Γ M H ds xs → pairsD ds = some ks → ∃ ps kvs, xs = ps.map V.ref ∧ Paired (fun p (kv : Key × V) => SqT Γ.K H p [kV kv.1, kv.2]) ps kvs ∧ Dmk Γ M H ks kvs
  | [], _, _, h, e => by
    simp only [pairsD] at e; cases e
    simp only [Dms] at h; subst h
    exact ⟨[], [], rfl, .nil, Dmk.nil⟩
  | d :: ds, _, ks, h, e => by
    obtain ⟨x, r, rfl, h1, h2⟩ := h.uncons
    unfold pairsD at e
    split at e
    · rename_i heq; cases heq
    · rename_i heq
      cases heq
      obtain ⟨k', e1, e⟩ := Option.bind_eq_some_iff.mp e
      obtain ⟨ks', e2, rfl⟩ := Option.map_eq_some_iff.mp e
      obtain ⟨ps, kvs, rfl, h3, h4⟩ := pairs_run h2 e2
      simp only [Dm] at h1
      obtain ⟨a, ys, rfl, h5, h6⟩ := h1
      obtain ⟨y, r, rfl, h7, h8⟩ := h6.uncons
      obtain ⟨z, rfl, h9⟩ := h8.one
      have := dm_kof e1 h7
      subst this
      exact ⟨a :: ps, (k', z) :: kvs, rfl, .cons h5.sq h3, Dmk.cons h9 h4⟩
    · cases e
def dictG : GD := fun ds => match ds with | [.lst ds] => (pairsD ds).map fun ks => .dk (mergeD [] ks) | [.dk ks] => some (.dk ks) | _ => none
def rDict (K : PySem.W.Frag) : RA := fun xs H Q => (∃ (a : Addr) (ps : List Addr) (kvs : List (Key × V)), xs = [.ref a] ∧ SqL K H a (ps.map V.ref) ∧ Paired (fun p kv => SqT K H p [kV kv.1, kv.2]) ps kvs ∧
    ∀ p, H p = none → Q (.ref p) (upd H p (.dK (mergeK [] kvs)))) ∨ (∃ (a : Addr) (kvs : List (Key × V)), xs = [.ref a] ∧ Rd H a (.dK kvs) ∧ ∀ p, H p = none → Q (.ref p) (upd H p (.dK kvs)))
theorem call_dictA (hc : X.calm = true) : CallR X (.type "dict") (rDict X.K) := (call_dictP hc).or call_dictD
theorem rf_dict : RF Γ (rDict Γ.K) dictG := fun M ds vs d H hv e Q q => by
  unfold dictG at e
  split at e
  · obtain ⟨ks, e1, rfl⟩ := Option.map_eq_some_iff.mp e
    obtain ⟨x, rfl, h1⟩ := hv.one
    simp only [Dm] at h1
    obtain ⟨a, ys, rfl, h4, h5⟩ := h1
    obtain ⟨ps, kvs, rfl, h6, h7⟩ := pairs_run h5 e1
    refine .inl ⟨a, ps, kvs, rfl, h4.sq, h6, fun p hp => q p _ hp ?_⟩
    simp only [Tp]
    exact ⟨_, upd_same, Dmk.merge Dmk.nil (Dmk.mono (.of (same_new hp)) _ _ h7)⟩
  · cases e
    obtain ⟨x, rfl, h1⟩ := hv.one
    obtain ⟨a, kvs, rfl, _, h4, h5⟩ := dm_dk h1
    refine .inr ⟨a, kvs, rfl, h4, fun p hp => q p _ hp ?_⟩
    simp only [Tp]
    exact ⟨_, upd_same, Dmk.mono (.of (same_new hp)) _ _ h5⟩
  · cases e
theorem cl_dict : Cl Γ (rDict Γ.K) dictG .st .fr := .f rf_dict
end Vl

set_option Elab.async false
set_option linter.all false
set_option maxRecDepth 100000
set_option maxHeartbeats 2000000
/-! walks over dicts (locked while they run); what a slot owns given to all -/
namespace Vl
open PySem PySem.Spec L2
variable {c : Ctx} {M N : Addr → Prop} {s s' s1 s2 : S} {σ σ' σ1 σ2 : St} {H H' H0 H1 H2 : Hp} {v : V} {d : D} {i : Nat} {X : Cx} {E : XK} {e : Expr} {a : Addr} {f fa fb fd fk fx fv fe : PM D} {p q pa pb pc pi pk pe : Bool} {m ma mb mk : Md} {t ta tb te td ty tx : TE} {pos pos' apos cpos : Pos} {ts tr : TS} {g g1 g2 : S → SO} {D0 : Ends} {Γ : KC} {vs : List Nat}

/-! ### heaps that are read alike -/
structure Lk (H H' : Hp) : Prop where
  rd : ∀ b u, Rd H b u → (∀ o w, u ≠ .frz o w) → Rd H' b u
  tp : ∀ b xs, H b = some (.tup xs) → H' b = some (.tup xs)
  tf : ∀ b o xs, H b = some (.frz o (.tup xs)) → H' b = some (.frz o (.tup xs))
  ins : ∀ b A dx gs, H b = some (.ins A dx gs) → H' b = some (.ins A dx gs)
theorem LsS.lk {a : Addr} {xs : List V} (k : Lk H H') (h : LsS Γ M H a xs) : LsS Γ M H' a xs := by
  rcases h with ⟨m, h⟩ | h
  · exact .inl ⟨m, k.rd a _ h fun _ _ => nofun⟩
  · exact .inr h
theorem TuS.lk {b : Bool} {a : Addr} {xs : List V} (k : Lk H H') (h : TuS Γ M H b a xs) : TuS Γ M H' b a xs := by
  rcases h with ⟨m, ⟨o, h0, h⟩ | ⟨h0, h⟩⟩ | h
  · exact .inl ⟨m, .inl ⟨o, h0, k.tf a _ _ h⟩⟩
  · exact .inl ⟨m, .inr ⟨h0, k.tp a _ h⟩⟩
  · exact .inr h
mutual
theorem Dm.lk (k : Lk H H') : ∀ (d : D) (v : V), Dm Γ M H d v → Dm Γ M H' d v
  | .non, _, h => by simp only [Dm] at h ⊢; exact h
  | .bl _, _, h => by simp only [Dm] at h ⊢; exact h
  | .int _, _, h => by simp only [Dm] at h ⊢; exact h
  | .str _, _, h => by simp only [Dm] at h ⊢; exact h
  | .oth _, _, h => by simp only [Dm] at h ⊢; exact h
  | .lst ds, _, h => by simp only [Dm] at h ⊢; obtain ⟨a, xs, r, h1, h2⟩ := h; exact ⟨a, xs, r, h1.lk k, Dms.lk k ds xs h2⟩
  | .tup ds, _, h => by simp only [Dm] at h ⊢; obtain ⟨a, xs, r, h1, h2⟩ := h; exact ⟨a, xs, r, h1.lk k, Dms.lk k ds xs h2⟩
  | .dk ks, _, h => by simp only [Dm] at h ⊢; obtain ⟨a, kvs, r, m, h1, h2⟩ := h; exact ⟨a, kvs, r, m, k.rd a _ h1 (fun _ _ => nofun), Dmk.lk k ks kvs h2⟩
  | .dt ks, _, h => by simp only [Dm] at h ⊢; obtain ⟨a, kvs, r, m, h1, h2⟩ := h; exact ⟨a, kvs, r, m, k.rd a _ h1 (fun _ _ => nofun), Dmt.lk k ks kvs h2⟩
  | .ins C fs, _, h => by simp only [Dm] at h ⊢; obtain ⟨a, A, dx, gs, r, m, c, h1, h2⟩ := h; exact ⟨a, A, dx, gs, r, m, c, k.ins _ _ _ _ h1, Dmf.lk k fs gs h2⟩
theorem Dms.lk (k : Lk H H') : ∀ (ds : List D) (xs : List V), Dms Γ M H ds xs → Dms Γ M H' ds xs
  | [], _, h => by simp only [Dms] at h ⊢; exact h
  | d :: ds, _, h => by simp only [Dms] at h ⊢; obtain ⟨x, r, e1, h1, h2⟩ := h; exact ⟨x, r, e1, Dm.lk k d x h1, Dms.lk k ds r h2⟩
theorem Dmk.lk (k : Lk H H') : ∀ (ds : List (Key × D)) (xs : List (Key × V)), Dmk Γ M H ds xs → Dmk Γ M H' ds xs
  | [], _, h => by simp only [Dmk] at h ⊢; exact h
  | (j, d) :: ds, _, h => by simp only [Dmk] at h ⊢; obtain ⟨x, r, e1, h1, h2⟩ := h; exact ⟨x, r, e1, Dm.lk k d x h1, Dmk.lk k ds r h2⟩
theorem Dmt.lk (k : Lk H H') : ∀ (ds : List (List Key × D)) (xs : List (List Key × V)), Dmt Γ M H ds xs → Dmt Γ M H' ds xs
  | [], _, h => by simp only [Dmt] at h ⊢; exact h
  | (j, d) :: ds, _, h => by simp only [Dmt] at h ⊢; obtain ⟨x, r, e1, h1, h2⟩ := h; exact ⟨x, r, e1, Dm.lk k d x h1, Dmt.lk k ds r h2⟩
theorem Dmf.lk (k : Lk H H') : ∀ (ds : List (Str × D)) (xs : List (Str × V)), Dmf Γ M H ds xs → Dmf Γ M H' ds xs
  | [], _, h => by simp only [Dmf] at h ⊢; exact h
  | (j, d) :: ds, _, h => by simp only [Dmf] at h ⊢; obtain ⟨x, r, e1, h1, h2⟩ := h; exact ⟨x, r, e1, Dm.lk k d x h1, Dmf.lk k ds r h2⟩
end
theorem Tp.lk (k : Lk H H') (ea : H' a = H a) (h : Tp Γ M H d a) : Tp Γ M H' d a := by
  cases d <;> simp only [Tp] at h ⊢
  · obtain ⟨xs, h1, h2⟩ := h; exact ⟨xs, ea.trans h1, Dms.lk k _ _ h2⟩
  · obtain ⟨xs, h1, h2⟩ := h; exact ⟨xs, ea.trans h1, Dmk.lk k _ _ h2⟩
  · obtain ⟨xs, h1, h2⟩ := h; exact ⟨xs, ea.trans h1, Dmt.lk k _ _ h2⟩
  · obtain ⟨A, dx, gs, c, h1, h2⟩ := h; exact ⟨A, dx, gs, c, ea.trans h1, Dmf.lk k _ _ h2⟩
theorem Lw.lk (L : Lw c M s σ H) (k : Lk H H') (e : ∀ b, Mo c s σ b → H' b = H b) : Lw c M s σ H' where
  len := L.len
  sup := L.sup
  sh := fun i d h1 h2 => let ⟨v, ev, h⟩ := L.sh i d h1 h2; ⟨v, ev, Dm.lk k d v h⟩
  own := fun i d h1 h2 => by
    obtain ⟨a, ea, h, t⟩ := L.own i d h1 h2
    exact ⟨a, ea, h, t.lk k (e a (.inr ⟨i, d, h2, h1, ea⟩))⟩
  inj := L.inj
  m0 := fun a h => let ⟨o, ho, m⟩ := L.m0 a h; ⟨o, (e a (.inl h)).trans ho, m⟩
  iof := L.iof
structure Pln (u : HO) : Prop where
  tp : ∀ xs, u ≠ .tup xs
  ins : ∀ A dx gs, u ≠ .ins A dx gs
  frz : ∀ o w, u ≠ .frz o w
theorem pln_dK {kvs : List (Key × V)} : Pln (.dK kvs) := ⟨fun _ => nofun, fun _ _ _ => nofun, fun _ _ => nofun⟩
theorem Lk.lock {u : HO} {o : Obj} (h : H a = some u) (n : Pln u) : Lk H (upd H a (.frz o u)) where
  rd := fun b w hr hw => by
    by_cases z : b = a
    · subst z
      rcases hr with hr | ⟨o', hr⟩
      · rw [h] at hr; cases hr; exact .inr ⟨o, upd_same⟩
      · rw [h] at hr; cases hr; exact absurd rfl (n.frz _ _)
    · rcases hr with hr | ⟨o', hr⟩
      · exact .inl (by rw [upd_ne z]; exact hr)
      · exact .inr ⟨o', by rw [upd_ne z]; exact hr⟩
  tp := fun b xs hb => by
    rw [upd_ne (fun z => by subst z; rw [h] at hb; cases hb; exact n.tp _ rfl)]; exact hb
  tf := fun b o xs hb => by
    rw [upd_ne (fun z => by subst z; rw [h] at hb; cases hb; exact n.frz _ _ rfl)]; exact hb
  ins := fun b A dx gs hb => by
    rw [upd_ne (fun z => by subst z; rw [h] at hb; cases hb; exact n.ins _ _ _ rfl)]; exact hb
theorem Lk.unlock {u : HO} {o : Obj} (h : H a = some (.frz o u)) (n : Pln u) : Lk H (upd H a u) where
  rd := fun b w hr hw => by
    by_cases z : b = a
    · subst z
      rcases hr with hr | ⟨o', hr⟩
      · rw [h] at hr; cases hr; exact absurd rfl (hw _ _)
      · rw [h] at hr; cases hr; exact .inl upd_same
    · rcases hr with hr | ⟨o', hr⟩
      · exact .inl (by rw [upd_ne z]; exact hr)
      · exact .inr ⟨o', by rw [upd_ne z]; exact hr⟩
  tp := fun b xs hb => by
    rw [upd_ne (fun z => by subst z; rw [h] at hb; cases hb)]; exact hb
  tf := fun b o xs hb => by
    rw [upd_ne (fun z => by subst z; rw [h] at hb; cases hb; exact n.tp _ rfl)]; exact hb
  ins := fun b A dx gs hb => by
    rw [upd_ne (fun z => by subst z; rw [h] at hb; cases hb)]; exact hb

/-! ### the rules: a lock where a value is read, an unlock at an end -/
def tLk (H0 : Hp) (td : TE) : TE := fun σ H Q => td σ H fun x H1 => Q x H1 ∨ ∃ d u, x = .ref d ∧ H1 d = some u ∧ Mut (some u) ∧ ∀ od, (∀ o' u', H0 d ≠ some (.frz o' u')) → Q x (upd H1 d (.frz od u))
theorem pe_lk (h : PE X e td) : PE X e (tLk X.H_0 td) := ⟨fun pins s σ H Q I w => thn (h.run pins s σ H _ I w) fun v s1 ⟨x, H1, I1, rx, q⟩ => by
  rcases q with q | ⟨d, u, rfl, hd, mu, q⟩
  · exact ⟨x, H1, I1, rx, q⟩
  · obtain ⟨od, I2⟩ := I1.lock hd mu
    exact ⟨_, _, I2, rx, q od (I1.nofrz hd mu)⟩⟩
def UL (H0 : Hp) (Q : Hp → Prop) (H' : Hp) : Prop := Q H' ∨ ∃ d od u, H' d = some (.frz od u) ∧ (∀ o' u', H0 d ≠ some (.frz o' u')) ∧ Q (upd H' d u)
theorem UL.run {pins : List (Addr × Obj)} {sh : Shared} {Q : Hp → Prop} (I : Inv X pins σ H sh) (h : UL X.H_0 Q H) : ∃ H', Inv X pins σ H' sh ∧ Q H' := by
  rcases h with h | ⟨d, od, u, h1, h2, h3⟩
  · exact ⟨H, I, h⟩
  · exact ⟨_, I.unlock h1 h2, h3⟩
def ulD (H0 : Hp) (D : Ends) : Ends := ⟨fun σ' H' => UL H0 (D.nx σ') H', fun v H' => UL H0 (D.rt v) H', fun σ' H' => UL H0 (D.bk σ') H', fun σ' H' => UL H0 (D.ct σ') H'⟩
def tUl (H0 : Hp) (t : TS) : TS := fun D σ H => t (ulD H0 D) σ H
def tUlE (H0 : Hp) (t : TE) : TE := fun σ H Q => t σ H fun v H' => UL H0 (Q v) H'
theorem ps_ul {st : Stmt} (h : PS X st ts) : PS X st (tUl X.H_0 ts) := ⟨fun pins s σ H D I hw => thn (h.run pins s σ H _ I hw) fun f s1 q => by
  cases f with
  | next => obtain ⟨σ', H', I2, q⟩ := q; obtain ⟨H2, I3, q⟩ := UL.run I2 q; exact ⟨σ', H2, I3, q⟩
  | brk => obtain ⟨σ', H', I2, q⟩ := q; obtain ⟨H2, I3, q⟩ := UL.run I2 q; exact ⟨σ', H2, I3, q⟩
  | cont => obtain ⟨σ', H', I2, q⟩ := q; obtain ⟨H2, I3, q⟩ := UL.run I2 q; exact ⟨σ', H2, I3, q⟩
  | ret v => obtain ⟨x, σ', H', I2, r, q⟩ := q; obtain ⟨H2, I3, q⟩ := UL.run I2 q; exact ⟨x, σ', H2, I3, r, q⟩⟩
theorem pe_ul (h : PE X e t) : PE X e (tUlE X.H_0 t) := ⟨fun pins s σ H Q I hw => thn (h.run pins s σ H _ I hw) fun v s1 ⟨x, H1, I1, r, q⟩ => by
  obtain ⟨H2, I3, q⟩ := UL.run I1 q
  exact ⟨x, H2, I3, r, q⟩⟩

/-! ### what holds behind a lock, and behind an unlock -/
theorem Lw.lock {u : HO} {o : Obj} (L : Lw c M s σ H) (h : H a = some u) (n : Pln u) (hn : ¬ Mo c s σ a) : Lw c M s σ (upd H a (.frz o u)) := L.lk (.lock h n) fun b hb => upd_ne fun z => hn (z ▸ hb)
/-- after a run from the locked heap -/
structure Ulk (c : Ctx) (s : S) (σ : St) (H : Hp) (a : Addr) (od : Obj) (u : HO) (s' : S) (σ' : St) (H' : Hp) : Prop where
  at_ : H' a = some (.frz od u)
  lv : Lv c s' σ' (upd H' a u)
  lk : Lk H' (upd H' a u)
  ne : ∀ b, Mo c s' σ' b → b ≠ a
  fo : Fo c s σ H s' σ' (upd H' a u)
theorem ulk_of {u : HO} {od : Obj} (L : Lv c s σ H) (h : H a = some u) (n : Pln u) (hn : ¬ Mo c s σ a) (L' : Lv c s' σ' H') (fo : Fo c s σ (upd H a (.frz od u)) s' σ' H') : Ulk c s σ H a od u s' σ' H' := by
  have e1 : H' a = some (.frz od u) := fo.ex a _ (fun z => hn (.inr z)) upd_same
  have ne : ∀ b, Mo c s' σ' b → b ≠ a := fun b z y => by
    subst y
    rcases z with z | z
    · exact hn (.inl z)
    · rcases fo.gr b z with w | w
      · exact hn (.inr w)
      · rw [upd_same] at w; cases w
  refine ⟨e1, L'.lk (.unlock e1 n) fun b z => upd_ne (ne b z), .unlock e1 n, ne, ⟨fun b o nb hb => ?_, fun b hb z => ?_, fun b z => ?_⟩⟩
  · by_cases y : b = a
    · subst y; rw [h] at hb; cases hb; exact upd_same
    · rw [upd_ne y]; exact fo.ex b o nb (by rw [upd_ne y]; exact hb)
  · by_cases y : b = a
    · subst y; rw [upd_same] at z; cases z
    · rw [upd_ne y] at z
      exact fo.up b (by rw [upd_ne y]; exact hb) z
  · rcases fo.gr b z with w | w
    · exact .inl w
    · refine .inr ?_
      rw [upd_ne (ne b (.inr z))] at w; exact w
theorem Mrt.unlock {u : HO} {od : Obj} (k : Ulk c s σ H a od u s' σ' H') (ha : H a ≠ none) (h : Mrt c m s σ (upd H a (.frz od u)) s' σ' H' d v) : Mrt c m s σ H s' σ' (upd H' a u) d v := by
  cases m with
  | now => exact Dm.lk k.lk _ _ h
  | st => exact Dm.lk k.lk _ _ h
  | fr =>
    obtain ⟨b, rfl, h1, h2, h3, h4⟩ := h
    have ne : b ≠ a := fun z => by
      subst z
      cases d <;> simp only [Tp] at h4
      · obtain ⟨_, h4, _⟩ := h4; rw [k.at_] at h4; cases h4
      · obtain ⟨_, h4, _⟩ := h4; rw [k.at_] at h4; cases h4
      · obtain ⟨_, h4, _⟩ := h4; rw [k.at_] at h4; cases h4
      · obtain ⟨_, _, _, _, h4, _⟩ := h4; rw [k.at_] at h4; cases h4
    refine ⟨b, rfl, h1, ?_, h3.lk k.lk fun b z => upd_ne (k.ne b z), h4.lk k.lk (upd_ne ne)⟩
    rcases h2 with h2 | h2
    · exact .inl h2
    · rw [upd_ne ne] at h2; exact .inr h2
def noxS : SO → SO
  | .exc _ _ => .no
  | o => o
theorem PoS.lock {u : HO} {od : Obj} {o : SO} (L : Lv c s σ H) (h : H a = some u) (n : Pln u) (hn : ¬ Mo c s σ a) (h0 : ∀ o' u', H0 a ≠ some (.frz o' u')) (q : PoS c E m s σ H D0 (noxS o)) : PoS c E m s σ (upd H a (.frz od u)) (ulD H0 D0) o := by
  have ha : H a ≠ none := by rw [h]; nofun
  cases o with
  | nx s' => exact fun σ' H' L' f => have k := ulk_of L h n hn L' f; .inr ⟨a, od, u, k.at_, h0, q σ' _ k.lv k.fo⟩
  | brk s' => exact fun σ' H' L' f => have k := ulk_of L h n hn L' f; .inr ⟨a, od, u, k.at_, h0, q σ' _ k.lv k.fo⟩
  | ctn s' => exact fun σ' H' L' f => have k := ulk_of L h n hn L' f; .inr ⟨a, od, u, k.at_, h0, q σ' _ k.lv k.fo⟩
  | ret d s' => exact fun σ' v H' L' f r => have k := ulk_of L h n hn L' f; .inr ⟨a, od, u, k.at_, h0, q σ' v _ k.lv k.fo (r.unlock k ha)⟩
  | exc x s' => exact q.elim
  | no => exact q
theorem PoS.weakU {o : SO} (q : PoS c E m s σ H D0 (noxS o)) : PoS c E m s σ H (ulD H0 D0) o := by
  cases o with
  | nx s' => exact fun σ' H' L' f => .inl (q σ' H' L' f)
  | brk s' => exact fun σ' H' L' f => .inl (q σ' H' L' f)
  | ctn s' => exact fun σ' H' L' f => .inl (q σ' H' L' f)
  | ret d s' => exact fun σ' v H' L' f r => .inl (q σ' v H' L' f r)
  | exc x s' => exact q.elim
  | no => exact q

/-! ### for k in d, d.items(), d.keys(), d.values() -/
abbrev JD := Addr → Obj → List (Key × V) → It
abbrev GK := List (Key × D) → List D
def dkI (G : GK) (f : PM D) : PM (List D) := bd f fun d => match d with | .dk ks => pur (G ks) | _ => fun _ => .no
structure WalkD (J : JD) (G : GK) : Prop where
  gv : ∀ Γ M W a o kvs ks H, ¬ M a → (∀ b, M b → W b) → H a = some (.frz o (.dK kvs)) → Dmk Γ W H ks kvs → Gv Γ M W (J a o kvs) H (G ks)
abbrev KD := V → Hp → (It → Hp → Prop) → Prop
structure ReadD (J : JD) (K : KD) : Prop where
  run : ∀ a o kvs H R, H a = some (.frz o (.dK kvs)) → R (J a o kvs) H → K (.ref a) H R
def tiD (H0 : Hp) (td : TE) (K : KD) : TI := fun σ H R => tLk H0 td σ H fun x H1 => K x H1 R
structure MID (X : Cx) (c : Ctx) (E : XK) (p : Bool) (tg it : Expr) (f : PM (List D)) : Prop where
  ex : ∃ td K J G f0, PI X tg it (tiD X.H_0 td K) ∧ VE c E p .st td f0 ∧ f = dkI G f0 ∧ WalkD J G ∧ ReadD J K
def itmsG : GK := fun ks => ks.map fun p => .tup [kD p.1, p.2]
def keysG : GK := fun ks => ks.map fun p => kD p.1
def valsG : GK := fun ks => ks.map fun p => p.2
theorem nds_k {k : Key} {d : D} : nds [kD k, d] = false := by cases k <;> rfl
theorem walk_items : WalkD Iti itmsG := ⟨fun Γ M W a o kvs ks H hM hW ha hd => {
  go := fun i H' e hi => ⟨e a _ hM ha, by have := hd.len; simp [itmsG] at hi; omega⟩
  stop := fun H' e => ⟨e a _ hM ha, by have := hd.len; simp [itmsG]; omega⟩
  yld := fun i H' x H'' N e sub al hi ⟨T, k, v, hkv, hx, hT, hH⟩ => by
    subst hx; subst hH
    obtain ⟨d, h1, h2⟩ := hd.at hkv
    have sm : Same H' (upd H' T (.tup [kV k, v])) := same_new hT
    refine ⟨sm, .tup [kD k, d], by simp [itmsG, h1], ?_⟩
    simp only [Dm]
    exact ⟨T, _, rfl, .inl ⟨fun z => al T z hT, .inr ⟨nds_k, upd_same⟩⟩, Dms.cons dm_kD (Dms.cons (Dm.mono (.of sm) _ _ (Dm.both sub (e.imp hW) h2)) Dms.nil)⟩ }⟩
theorem walk_keys' : WalkD Itk keysG := ⟨fun Γ M W a o kvs ks H hM hW ha hd => {
  go := fun i H' e hi => ⟨e a _ hM ha, by have := hd.len; simp [keysG] at hi; omega⟩
  stop := fun H' e => ⟨e a _ hM ha, by have := hd.len; simp [keysG]; omega⟩
  yld := fun i H' x H'' N e sub al hi ⟨hH, k, v, hkv, hx⟩ => by
    subst hx; subst hH
    obtain ⟨d, h1, h2⟩ := hd.at hkv
    exact ⟨Same.refl _, kD k, by simp [keysG, h1], dm_kD⟩ }⟩
theorem walk_vals : WalkD Itd valsG := ⟨fun Γ M W a o kvs ks H hM hW ha hd => {
  go := fun i H' e hi => ⟨e a _ hM ha, by have := hd.len; simp [valsG] at hi; omega⟩
  stop := fun H' e => ⟨e a _ hM ha, by have := hd.len; simp [valsG]; omega⟩
  yld := fun i H' x H'' N e sub al hi ⟨hH, k, hkv⟩ => by
    subst hH
    obtain ⟨d, h1, h2⟩ := hd.at hkv
    exact ⟨Same.refl _, d, by simp [valsG, h1], Dm.both sub (e.imp hW) h2⟩ }⟩
def kI (J : JD) : KD := fun x H1 R => ∃ d o kvs, x = .ref d ∧ H1 d = some (.frz o (.dK kvs)) ∧ R (J d o kvs) H1
theorem read_I {J : JD} : ReadD J (kI J) := ⟨fun a o kvs H R h q => ⟨a, o, kvs, rfl, h, q⟩⟩
def kKeys : KD := fun x H1 R => ∃ d o, x = .ref d ∧ ((∃ kvs, H1 d = some (.frz o (.dK kvs)) ∧ R (Itk d o kvs) H1) ∨ ∃ kvs, H1 d = some (.frz o (.dT kvs)) ∧ R (Itkt d o kvs) H1)
theorem read_keys : ReadD Itk kKeys := ⟨fun a o kvs H R h q => ⟨a, o, rfl, .inl ⟨kvs, h, q⟩⟩⟩
theorem mid_items {elts : List Expr} {kk : Nat} {tpos : Pos} (h : ME X c E p .st e f) (hbase : attributeBase e "items" X.env (eval e X.env) = eval e X.env := by rfl) (hline : (apos.endLine == cpos.line) = true := by rfl) : MID X c E p (.Tuple elts kk tpos) (.Call (.Attribute e "items" apos) [] [] cpos) (dkI itmsG f) :=
  let ⟨t, x, y⟩ := h.ex; ⟨t, kI Iti, Iti, itmsG, f, pi_items (pe_lk x) hbase hline, y, rfl, walk_items, read_I⟩
theorem mid_values {tg : Expr} (h : ME X c E p .st e f) (hbase : attributeBase e "values" X.env (eval e X.env) = eval e X.env := by rfl) (hline : (apos.endLine == cpos.line) = true := by rfl) : MID X c E p tg (.Call (.Attribute e "values" apos) [] [] cpos) (dkI valsG f) :=
  let ⟨t, x, y⟩ := h.ex; ⟨t, kI Itd, Itd, valsG, f, pi_values (pe_lk x) hbase hline, y, rfl, walk_vals, read_I⟩
theorem mid_keysM {tg : Expr} (h : ME X c E p .st e f) (hbase : attributeBase e "keys" X.env (eval e X.env) = eval e X.env := by rfl) (hline : (apos.endLine == cpos.line) = true := by rfl) : MID X c E p tg (.Call (.Attribute e "keys" apos) [] [] cpos) (dkI keysG f) :=
  let ⟨t, x, y⟩ := h.ex; ⟨t, kI Itk, Itk, keysG, f, pi_keysM (pe_lk x) hbase hline, y, rfl, walk_keys', read_I⟩
theorem mid_keys {tg : Expr} (h : ME X c E p .st e f) : MID X c E p tg e (dkI keysG f) :=
  let ⟨t, x, y⟩ := h.ex; ⟨t, kKeys, Itk, keysG, f, pi_keys (pe_lk x), y, rfl, walk_keys', read_keys⟩
def forDM (fi : PM (List D)) (tf : TF) (b : S → SO) : S → SO := fun s => match fi s with | .ok ds s1 => noxS (forL tf b ds s1) | .exc x s1 => .exc x s1 | .no => .no
theorem dkI_ok {G : GK} {ks : List (Key × D)} (h : f s = .ok (.dk ks) s1) : dkI G f s = .ok (G ks) s1 := by unfold dkI; rw [bnd_ok h]; rfl
theorem vs_forD {td : TE} {K : KD} {J : JD} {G : GK} {g : TG} {tb : TS} {tf : TF} {gb : S → SO} {sl : List Nat} (h : VE c E p .st td f) (hw : WalkD J G) (hr : ReadD J K) (hg : VG c sl g tf) (hb : VS c E m tb gb) : VS c E m (tUl H0 (tFor (tiD H0 td K) g tb)) (forDM (dkI G f) tf gb) := ⟨fun M0 s σ H L D0 q => h.run M0 s σ H L _ (by
  unfold forDM at q
  cases e1 : f s with
  | no => rw [show dkI G f s = .no from by unfold dkI; rw [bnd_no e1]] at q; exact q
  | exc x s1 => rw [show dkI G f s = .exc x s1 from by unfold dkI; rw [bnd_exc e1]] at q; exact exc_fo q
  | ok d s1 =>
    by_cases hk : isDk d = true
    · obtain ⟨ks, rfl⟩ := isDk_eq hk
      rw [dkI_ok e1] at q; dsimp only at q
      intro v H1 f1 L1 m1 h1
      obtain ⟨a, kvs, rfl, ha, hrd, hd⟩ := dm_dk h1
      have q := PoS.next q (Fo.of f1 m1)
      have ha : ¬ Mo (c.at M0) s1 σ a := ha
      rcases hrd with e1 | ⟨o, e1⟩
      · refine .inr ⟨a, .dK kvs, rfl, e1, trivial, fun od hn => hr.run a od kvs _ _ upd_same ?_⟩
        have L2 : Lv (c.at M0) s1 σ (upd H1 a (.frz od (.dK kvs))) := L1.lock e1 pln_dK ha
        exact for_at (c := c) (p := true) (wi := fun _ H R => R (J a od kvs) H) (fi := pur (G ks)) (fun R z => z _ _ Fr.refl L2 (fun _ z => z) (hw.gv _ _ _ a od kvs ks _ ha (fun _ z => z) upd_same (Dmk.lk (.lock e1 pln_dK) _ _ hd))) hg hb L2 (PoS.lock L1 e1 pln_dK ha hn q)
      · refine .inl (hr.run a o kvs _ _ e1 ?_)
        exact for_at (c := c) (p := true) (wi := fun _ H R => R (J a o kvs) H) (fi := pur (G ks)) (fun R z => z _ _ Fr.refl L1 (fun _ z => z) (hw.gv _ _ _ a o kvs ks _ ha (fun _ z => z) e1 hd)) hg hb L1 (PoS.weakU q)
    · rw [show dkI G f s = .no from by unfold dkI; rw [bnd_ok e1]; cases d <;> first | rfl | exact absurd rfl hk] at q; exact q.elim)⟩
theorem ms_forD {tg it : Expr} {body : List Stmt} {fi : PM (List D)} {tf : TF} {gb : S → SO} {sl : List Nat} (hp : PassesOwn (model X.prog X.w) X.A X.env X.xe) (hc : X.calm = true) (hi : MID X c E p tg it fi) (hg : MG X c sl tg tf) (hb : MSs X c E m body gb)
    (hs : ∀ x, foldedSetIterable it X.env x = pure x := by intro _; rfl) : MS X c E m (.For tg it body [] pos) (forDM fi tf gb) :=
  let ⟨td, K, J, G, f0, x1, y1, e, w, r⟩ := hi.ex; let ⟨_, x2, y2⟩ := hg.ex; let ⟨_, x3, y3⟩ := hb.ex; ⟨_, ps_ul (ps_for hp hc x1 x2 x3 hs), by rw [e]; exact vs_forD y1 w r y2 y3⟩

/-! comprehensions over dicts -/
theorem Po.lockT {u : HO} {od : Obj} {Q : VK} (L : Lv c s1 σ H1) (h : H1 a = some u) (n : Pln u) (hn : ¬ Mo c s1 σ a) (h0 : ∀ o' u', H0 a ≠ some (.frz o' u')) (f1 : Fr p (Own c s σ) H H1) (m1 : ∀ a, Own c s1 σ a → Own c s σ a)
    (q : ∀ v H', Fr p (Own c s σ) H H' → Lv c s1 σ H' → (∀ a, Own c s1 σ a → Own c s σ a) → Mdr c .fr s H s1 σ H' d v → Q v H') : Po c E true .fr s1 σ (upd H1 a (.frz od u)) (fun v H' => UL H0 (Q v) H') (.ok d s1) := fun v H' f2 L2 m2 hd => by
  have f2 : Same (upd H1 a (.frz od u)) H' := f2
  have k := ulk_of (od := od) L h n hn L2 (Fo.of (p := true) f2 fun _ z => z)
  have sm : Same H1 (upd H' a u) := fun b o hb => by
    by_cases y : b = a
    · subst y; rw [h] at hb; cases hb; exact upd_same
    · rw [upd_ne y]; exact f2 b o (by rw [upd_ne y]; exact hb)
  have hd : Mrt c .fr s1 σ (upd H1 a (.frz od u)) s1 σ H' d v := hd.rt
  obtain ⟨b, rfl, h2, h3, h4, h5⟩ := hd.unlock k (by rw [h]; nofun)
  refine .inr ⟨a, od, u, k.at_, h0, q _ _ ?_ k.lv m1 ⟨b, rfl, h2, ?_, h4, h5⟩⟩
  · have z := f1.and (q := true) (N := Own c s σ) (Fr.of sm) fun _ z => z
    rwa [Bool.and_true] at z
  · rcases h3 with h3 | h3
    · exact .inl (m1 b h3)
    · exact .inr (fresh_back f1 h3)
theorem Po.plainT {Q : VK} (f1 : Fr p (Own c s σ) H H1) (m1 : ∀ a, Own c s1 σ a → Own c s σ a)
    (q : ∀ v H', Fr p (Own c s σ) H H' → Lv c s1 σ H' → (∀ a, Own c s1 σ a → Own c s σ a) → Mdr c .fr s H s1 σ H' d v → Q v H') : Po c E true .fr s1 σ H1 (fun v H' => UL H0 (Q v) H') (.ok d s1) := fun v H' f2 L2 m2 hd => by
  refine .inl (q v H' ?_ L2 m1 (hd.back f1.up m1))
  have z := f1.and (q := true) f2 m1
  rwa [Bool.and_true] at z
theorem lcE_ok {fi : PM (List D)} {tf : TF} {k : PM Bool} {ds ys : List D} (h : fi s = .ok ds s1) (h2 : lcP tf k fe (wipeS s1 vs) ds = some ys) (h3 : ds.length ≤ 1000000) : lcE fi tf k fe vs s = .ok (.lst ys) s1 := by
  unfold lcE; rw [h]; dsimp only; rw [h2]; dsimp only; rw [if_pos h3]
theorem ve_lcD {td : TE} {K : KD} {J : JD} {G : GK} {g : TG} {tf : TF} {sl : List Nat} {tt : TT} {k : PM Bool} (h : VE c E p .st td f) (hw : WalkD J G) (hr : ReadD J K) (hg : VG c sl g tf) (hk : VT c noE true tt k) (he : VE c noE true .st te fe) (ho : okV c vs = true) (hsl : ∀ j ∈ sl, j ∈ vs) : VE c E p .fr (tUlE H0 (tLc (tiD H0 td K) g tt te vs)) (lcE (dkI G f) tf k fe vs) := ⟨pu_lc (by
    have z := h.pu.bnd (q := true) (g := fun d => match d with | .dk ks => pur (G ks) | _ => fun _ => .no) fun d => by
      cases d <;> first | exact Pu.rt | exact pu_no
    rw [Bool.and_true] at z; exact z), fun M0 s σ H L Q q => h.run M0 s σ H L _ (by
  cases e1 : f s with
  | no => unfold lcE at q; rw [show dkI G f s = .no from by unfold dkI; rw [bnd_no e1]] at q; exact q
  | exc x s1 => unfold lcE at q; rw [show dkI G f s = .exc x s1 from by unfold dkI; rw [bnd_exc e1]] at q; exact q
  | ok d s1 =>
    by_cases hkd : isDk d = true
    · obtain ⟨ks, rfl⟩ := isDk_eq hkd
      intro v H1 f1 L1 m1 h1
      obtain ⟨a, kvs, rfl, ha, hrd, hd⟩ := dm_dk h1
      have ha : ¬ Mo (c.at M0) s1 σ a := ha
      have ok := dkI_ok (G := G) e1
      cases e2 : lcP tf k fe (wipeS s1 vs) (G ks) with
      | none => unfold lcE at q; rw [ok] at q; dsimp only at q; rw [e2] at q; exact q.elim
      | some ys =>
        by_cases e3 : (G ks).length ≤ 1000000
        · rw [lcE_ok ok e2 e3] at q
          have ok2 : lcE (pur (G ks)) tf k fe vs s1 = .ok (.lst ys) s1 := lcE_ok rfl e2 e3
          rcases hrd with e1 | ⟨o, e1⟩
          · refine .inr ⟨a, .dK kvs, rfl, e1, trivial, fun od hn => hr.run a od kvs _ _ upd_same ?_⟩
            have L2 : Lv (c.at M0) s1 σ (upd H1 a (.frz od (.dK kvs))) := L1.lock e1 pln_dK ha
            exact lc_at (c := c) (E := E) (pi := true) (mb := .st) (wi := fun _ H R => R (J a od kvs) H) (fi := pur (G ks)) (fun R z => z _ _ Fr.refl L2 (fun _ z => z) (hw.gv _ _ _ a od kvs ks _ ha (fun _ z => z) upd_same (Dmk.lk (.lock e1 pln_dK) _ _ hd))) hg hk he ho hsl L2 (by rw [ok2]; exact Po.lockT L1 e1 pln_dK ha hn f1 m1 q)
          · refine .inl (hr.run a o kvs _ _ e1 ?_)
            exact lc_at (c := c) (E := E) (pi := true) (mb := .st) (wi := fun _ H R => R (J a o kvs) H) (fi := pur (G ks)) (fun R z => z _ _ Fr.refl L1 (fun _ z => z) (hw.gv _ _ _ a o kvs ks _ ha (fun _ z => z) e1 hd)) hg hk he ho hsl L1 (by rw [ok2]; exact Po.plainT (H0 := H0) f1 m1 q)
        · unfold lcE at q; rw [ok] at q; dsimp only at q; rw [e2] at q; dsimp only at q; rw [if_neg e3] at q; exact q.elim
    · unfold lcE at q
      rw [show dkI G f s = .no from by unfold dkI; rw [bnd_ok e1]; cases d <;> first | rfl | exact absurd rfl hkd] at q; exact q.elim)⟩
variable {elt tg iter : Expr} {ifs : List Expr} {scope : Scope} {own : List (Str × Nat)} {fi : PM (List D)} {tf : TF} {k : PM Bool} {sl : List Nat}
theorem me_lcD (hc : X.calm = true) (hN : X.N.Nodup) (hi : MID X c E pi tg iter fi) (ok : BlkOk X.N X.env.scope scope own) (hg : ∀ s H C cl fp, MG (blkX X scope s H C cl fp) c sl tg tf) (ht : ∀ s H C cl fp, MTs (blkX X scope s H C cl fp) c noE true ifs k) (he : ∀ s H C cl fp, ME (blkX X scope s H C cl fp) c noE true .st elt fe)
    (ho : okV c (own.map (·.2)) = true := by rfl) (hsl : ∀ j ∈ sl, j ∈ own.map (·.2) := by decide) (hs : ∀ x, foldedSetIterable iter X.env x = pure x := by intro _; rfl) : ME X c E pi .fr (.ListComp elt [⟨tg, iter, ifs, 0⟩] scope pos) (lcE fi tf k fe (own.map (·.2))) :=
  let ⟨_, K, J, G, f0, x1, y1, e, w, r⟩ := hi.ex
  have s0 : Shared := X.s_0
  ⟨_, pe_ul (pe_lc hc hN x1 ok (fun s H C cl fp => (hg s H C cl fp).can.1) (fun s H C cl fp => (ht s H C cl fp).ex.1) (fun s H C cl fp => (he s H C cl fp).can.1) hs), by rw [e]; exact ve_lcD y1 w r (hg s0 (fun _ => none) 0 [] []).can.2 (ht s0 (fun _ => none) 0 [] []).ex.2 (he s0 (fun _ => none) 0 [] []).can.2 ho hsl⟩
theorem ms_setLcD {y : Str} {py spos : Pos} {md : Md} (hc : X.calm = true) (hN : X.N.Nodup) (hy : X.N[i]? = some y) (hyl : X.env.scope.names.lookup y = some .local)
    (hsw : swapsWith (.ListComp elt [⟨tg, iter, ifs, 0⟩] scope pos) (some (.Name y py)) spos.line X.env = pure true) (hi : MID X c E pi tg iter fi) (ok : BlkOk X.N X.env.scope scope own) (hg : ∀ s H C cl fp, MG (blkX X scope s H C cl fp) c sl tg tf) (ht : ∀ s H C cl fp, MTs (blkX X scope s H C cl fp) c noE true ifs k) (he : ∀ s H C cl fp, ME (blkX X scope s H C cl fp) c noE true .st elt fe)
    (hio : c.io i = none := by rfl) (ho : okV c (own.map (·.2)) = true := by rfl) (hsl : ∀ j ∈ sl, j ∈ own.map (·.2) := by decide) (hs : ∀ x, foldedSetIterable iter X.env x = pure x := by intro _; rfl) :
    MS X c E md (.Assign [.Name y py] (.ListComp elt [⟨tg, iter, ifs, 0⟩] scope pos) spos) (setM i (lcE fi tf k fe (own.map (·.2)))) :=
  let ⟨_, K, J, G, f0, x1, y1, e, w, r⟩ := hi.ex
  have s0 : Shared := X.s_0
  have v := ve_lcD (H0 := X.H_0) y1 w r (hg s0 (fun _ => none) 0 [] []).can.2 (ht s0 (fun _ => none) 0 [] []).ex.2 (he s0 (fun _ => none) 0 [] []).can.2 ho hsl
  ⟨_, ps_ul (L2.ps_setLc hc hN hy hyl hsw x1 ok (fun s H C cl fp => (hg s H C cl fp).can.1) (fun s H C cl fp => (ht s H C cl fp).ex.1) (fun s H C cl fp => (he s H C cl fp).can.1) hs), by
    rw [e]
    cases h : c.ow i with
    | false => exact vs_set v.st_of_fr h
    | true => exact vs_setO v h hio⟩

/-! ### a slot that owns is shared from here on -/
def Ctx.shr (c : Ctx) (i : Nat) : Ctx := { c with ow := fun j => !(j == i) && c.ow j }
theorem shr_ow {j : Nat} : (c.shr i).ow j = true ↔ j ≠ i ∧ c.ow j = true := by
  show (!(j == i) && c.ow j) = true ↔ _
  simp
theorem own_shr : ∀ a, Own (c.shr i) s σ a → Own c s σ a := fun a ⟨j, d, h1, h2, h3⟩ => ⟨j, d, (shr_ow.mp h1).2, h2, h3⟩
theorem mo_shr : ∀ a, Mo (c.shr i) s σ a → Mo c s σ a := fun a z => z.elim .inl fun z => .inr (own_shr a z)
theorem Lw.shr (L : Lv c s σ H) (ho : c.ow i = true) (hi : c.io i = none) : Lv (c.shr i) s σ H where
  len := L.len
  sup := fun a z => z
  sh := fun j d h1 h2 => by
    by_cases ej : j = i
    · subst ej
      obtain ⟨a, ea, na, t⟩ := L.own j d h1 ho
      refine ⟨_, ea, Tp.dm (t.anti fun b z _ => mo_shr b z) ?_⟩
      rintro (z | ⟨k, e, h3, h4, h5⟩)
      · exact na z
      · exact (shr_ow.mp h3).1 (L.inj k j a e d (shr_ow.mp h3).2 ho h4 h1 h5 ea)
    · have h3 : c.ow j = false := by
        cases w : c.ow j with
        | false => rfl
        | true => rw [shr_ow.mpr ⟨ej, w⟩] at h2; cases h2
      obtain ⟨v, ev, hd⟩ := L.sh j d h1 h3
      exact ⟨v, ev, Dm.anti (fun b z _ => mo_shr b z) d v hd⟩
  own := fun j d h1 h2 => by
    obtain ⟨a, ea, na, t⟩ := L.own j d h1 (shr_ow.mp h2).2
    exact ⟨a, ea, na, t.anti fun b z _ => mo_shr b z⟩
  inj := fun j k a d e h1 h2 => L.inj j k a d e (shr_ow.mp h1).2 (shr_ow.mp h2).2
  m0 := L.m0
  iof := fun j a h => by
    obtain ⟨h1, h2, h3⟩ := L.iof j a h
    have ne : j ≠ i := fun z => by
      subst z
      have h : c.io j = some a := h
      rw [hi] at h; cases h
    exact ⟨shr_ow.mpr ⟨ne, h1⟩, h2, h3⟩
theorem own_unshr (a : Addr) : Own c (s.set i none) σ a ↔ Own (c.shr i) (s.set i none) σ a := by
  constructor
  · rintro ⟨j, d, h1, h2, h3⟩
    rcases get_set h2 with ⟨_, ed, _⟩ | ⟨ne, _⟩
    · cases ed
    · exact ⟨j, d, shr_ow.mpr ⟨ne, h1⟩, h2, h3⟩
  · rintro ⟨j, d, h1, h2, h3⟩
    exact ⟨j, d, (shr_ow.mp h1).2, h2, h3⟩
theorem own_shr_set (a : Addr) : Own (c.shr i) (s.set i none) σ a ↔ Own (c.shr i) s σ a := by
  constructor
  · rintro ⟨j, d, h1, h2, h3⟩
    rcases get_set h2 with ⟨_, ed, _⟩ | ⟨ne, h2⟩
    · cases ed
    · exact ⟨j, d, h1, h2, h3⟩
  · rintro ⟨j, d, h1, h2, h3⟩
    exact ⟨j, d, h1, by rw [set_ne (shr_ow.mp h1).1]; exact h2, h3⟩
theorem own_back (a : Addr) : Own c (s.set i none) σ a ↔ Own (c.shr i) s σ a := (own_unshr a).trans (own_shr_set a)
theorem mo_back (a : Addr) : Mo c (s.set i none) σ a ↔ Mo (c.shr i) s σ a := by
  unfold Mo; rw [own_back]; exact Iff.rfl
theorem Lw.unshr (L : Lw (c.shr i) M s σ H) (hi : c.io i = none) : Lw c M (s.set i none) σ H where
  len := by simpa using L.len
  sup := fun a z => L.sup a ((mo_back a).mp z)
  sh := fun j d h1 h2 => by
    rcases get_set h1 with ⟨_, ed, _⟩ | ⟨ne, h1⟩
    · cases ed
    · refine L.sh j d h1 ?_
      cases w : (c.shr i).ow j with
      | false => rfl
      | true => rw [(shr_ow.mp w).2] at h2; cases h2
  own := fun j d h1 h2 => by
    rcases get_set h1 with ⟨_, ed, _⟩ | ⟨ne, h1⟩
    · cases ed
    · exact L.own j d h1 (shr_ow.mpr ⟨ne, h2⟩)
  inj := fun j k a d e h1 h2 h3 h4 h5 h6 => by
    rcases get_set h3 with ⟨_, ed, _⟩ | ⟨n1, h3⟩
    · cases ed
    rcases get_set h4 with ⟨_, ed, _⟩ | ⟨n2, h4⟩
    · cases ed
    exact L.inj j k a d e (shr_ow.mpr ⟨n1, h1⟩) (shr_ow.mpr ⟨n2, h2⟩) h3 h4 h5 h6
  m0 := L.m0
  iof := fun j a h => by
    have ne : j ≠ i := fun z => by subst z; rw [hi] at h; cases h
    obtain ⟨h1, ⟨d, h2⟩, h3⟩ := L.iof j a h
    exact ⟨(shr_ow.mp h1).2, ⟨d, by rw [set_ne ne]; exact h2⟩, h3⟩
def shM (i : Nat) (g : S → SO) : S → SO := fun s => match g s with
  | .nx s' => .nx (s'.set i none)
  | .brk s' => .brk (s'.set i none)
  | .ctn s' => .ctn (s'.set i none)
  | .ret d s' => .ret d (s'.set i none)
  | .exc x s' => .exc x (s'.set i none)
  | .no => .no
theorem Fo.unshr (h : Fo (c.shr i) s σ H s' σ' H') : Fo c s σ H (s'.set i none) σ' H' := ⟨h.ex.imp fun a z => own_shr a z, h.up, fun a z => (h.gr a ((own_back a).mp z)).imp (own_shr a) id⟩
theorem vs_shr (h : VS (c.shr i) E m ts g) (ho : c.ow i = true) (hi : c.io i = none) : VS c E m ts (shM i g) := ⟨fun M0 s σ H L D0 q => h.run M0 s σ H (Lw.shr (c := c.at M0) L ho hi) D0 (by
  unfold shM at q
  have back : ∀ {s' σ' H'}, Lv ((c.shr i).at M0) s' σ' H' → Lv (c.at M0) (s'.set i none) σ' H' := fun {s' σ' H'} L' => (Lw.unshr (c := c.at M0) L' hi).lv
  cases e : g s with
  | nx s' => rw [e] at q; exact fun σ' H' L' f => q σ' H' (back L') (Fo.unshr (c := c.at M0) f)
  | brk s' => rw [e] at q; exact fun σ' H' L' f => q σ' H' (back L') (Fo.unshr (c := c.at M0) f)
  | ctn s' => rw [e] at q; exact fun σ' H' L' f => q σ' H' (back L') (Fo.unshr (c := c.at M0) f)
  | ret d s' =>
    rw [e] at q
    refine fun σ' v H' L' f r => q σ' v H' (back L') (Fo.unshr (c := c.at M0) f) ?_
    cases m with
    | now => exact r
    | st => exact Dm.anti (fun b z _ => (mo_back (c := c.at M0) b).mp z) _ _ r
    | fr =>
      obtain ⟨a, rfl, h1, h2, h3, h4⟩ := r
      refine ⟨a, rfl, fun z => h1 ((mo_back (c := c.at M0) a).mp z), h2.imp (fun z => own_shr (c := c.at M0) a z) id, ?_, h4.anti fun b z _ => z.imp (fun w => (mo_back (c := c.at M0) b).mp w) id⟩
      exact (Lw.unshr (c := c.at M0) h3 hi).anti (fun b z _ => z.imp (fun w => (mo_back (c := c.at M0) b).mp w) id) fun b z => .inl z
  | exc x s' =>
    rw [e] at q
    refine fun σ' cls dd H' L' f r => q σ' cls dd H' (back L') (Fo.unshr (c := c.at M0) f) ?_
    obtain ⟨C, h1, h2, a, gs, h3, h4, h5⟩ := r
    exact ⟨C, h1, h2, a, gs, h3, h4, Dmf.anti (fun b z _ => (mo_back (c := c.at M0) b).mp z) _ _ h5⟩
  | no => rw [e] at q; exact q)⟩
theorem mss_shr {sts : List Stmt} (i : Nat) (h : MSs X (c.shr i) E m sts g) (ho : c.ow i = true := by rfl) (hi : c.io i = none := by rfl) : MSs X c E m sts (shM i g) := let ⟨t, x, y⟩ := h.ex; ⟨t, x, vs_shr y ho hi⟩
end Vl

set_option Elab.async false
set_option linter.all false
set_option maxRecDepth 100000
set_option maxHeartbeats 2000000
/-! enumerate (of a tuple too), zip -/
namespace Vl
open PySem PySem.Spec L2
section
variable {prog : Program} {w : World}
/-- what enumerate makes of anything whose iterator is one new object -/
theorem enum_new {v : Value} {o : Obj} {Z : Heap → Prop} (B : Begins v o Z) : Meets (Builtin.«enumerate.__new__» ⟨[.type "enumerate", v], []⟩) (fun _ R s => Z s.heap ∧ R (.ok (.ret (.ref (s.heap.push o).objs.size)))
    { s with heap := (s.heap.push o).push { cls := .type "enumerate", data := .fields #[.none, .bool false, .ref s.heap.objs.size, rawInt 0, .none, .none] } }) := .of_wp fun prog w A R ⟨hp, g, d, tk, os⟩ ⟨hz, hR⟩ => by
  have sub := sub_enumerate
  have step : ∀ {A' : Around} {E Q : Value → Shared → Prop}, Q (.ref hp.objs.size) ⟨hp.push o, g, d, tk, os⟩ → wpAny (model prog w) A' (pyIter v) Q E ⟨hp, g, d, tk, os⟩ := fun q => B.iter prog w _ _ _ _ hz q
  wp_walk using step
  refine wpAny_stack_any (fun _ => wpAny_pure ?_)
  split
  · rename_i cl _ _ _ _ _
    cases (cl == Value.type "enumerate") <;> (wp_walk using step; exact ⟨_, rfl, hR⟩)
  · wp_walk using step; exact ⟨_, rfl, hR⟩
theorem enum_tuple {A : Around} {E : Value → Shared → Prop} {s : Shared} {t : Addr} {items : Array Value} {Q : Value → Shared → Prop} (ht : s.heap.IsTuple t items)
    (h : ∀ h', IsEnum h' (s.heap.objs.size + 1) s.heap.objs.size 0 .none → h'.IsTupleIter s.heap.objs.size t 0 → (∀ b o, s.heap.get? b = some o → h'.get? b = some o) → Q (.ref (s.heap.objs.size + 1)) { s with heap := h' }) :
    wpAny (model prog w) A (call (.type "enumerate") [.ref t]) Q E s := by
  have B := begins_tuple t items
  refine callType_new F.called_enumerate (by decide) (F.typeCall_enumerate_1 _) (F.newCall_enumerate_1 _) (fun x => F.args_object_init_2 x _) F.entry_enumerate_new (enum_new B) ⟨ht, ?_⟩
  have sz : (s.heap.push { cls := .type "tuple_iterator", data := .fields #[.ref t, .int 0 0] }).objs.size = s.heap.objs.size + 1 := Heap.size_push ..
  have he := Heap.get?_push_size (s.heap.push { cls := .type "tuple_iterator", data := .fields #[.ref t, .int 0 0] }) (o := { cls := .type "enumerate", data := .fields #[.none, .bool false, .ref s.heap.objs.size, rawInt 0, .none, .none] }) rfl
  refine ⟨⟨_, he, rfl⟩, ?_⟩
  rw [sz] at he ⊢
  exact h _ he ⟨_, Heap.get?_push_of_some _ (Heap.get?_push_size _ rfl), rfl, rfl⟩ fun b o x => Heap.get?_push_of_some _ (Heap.get?_push_of_some _ x)
end
/-- the tuple at a, each item with its number in a new pair -/
def IteT (K : PySem.W.Frag) (a : Addr) : It where
  go := fun i H => ∃ (xs : List V) (x : V), SqT K H a xs ∧ xs[i]? = some x
  yld := fun i H v H' => ∃ T x, v = .ref T ∧ H T = none ∧ H' = upd H T (.tup [.int (i : Nat), x]) ∧ ∀ xs, SqT K H a xs → xs[i]? = some x
  stop := fun i H => ∃ xs : List V, SqT K H a xs ∧ xs.length = i
theorem enum_ne {h : Heap} {e it a : Addr} {i : Int} {old : Value} {items : Array Value} (he : IsEnum h e it i old) (ha : h.IsTuple a items) : e ≠ a := fun z => by
  subst z
  obtain ⟨o, ho, hc, _⟩ := ha
  have : h.get? e = some _ := he
  rw [ho] at this
  injection this with this
  rw [this] at hc
  simp at hc
theorem turn_enumT {P : Program} {w : World} {K : PySem.W.Frag} {elts : List Expr} {kk : Nat} {tpos : Pos} (a e it : Addr) :
    Turn P w K (.Tuple elts kk tpos) (IteT K a) [e, it] e (fun i h => (∃ old, IsEnum h e it ((i : Nat) : Int) old) ∧ h.IsTupleIter it a i ∧ e ≠ it ∧ a ≠ it) where
  mem := List.mem_cons_self ..
  obj := fun i h ⟨⟨old, he⟩, ⟨o, ho, hc, hd⟩, _⟩ b hb => by
    rcases List.mem_cons.mp hb with z | z
    · subst z; exact ⟨_, he, fun v q => nomatch q⟩
    · rw [List.mem_singleton.mp z]; exact ⟨o, ho, fun v q => by rw [hd] at q; cases q⟩
  keep := fun i h h' ⟨⟨old, he⟩, hi, hn⟩ k => ⟨⟨old, k e (by simp) _ he⟩, hi.at fun o q => k it (by simp) o q, hn⟩
  item := fun X hP hw hK hc i pins s σ H E I hf ⟨⟨old, he⟩, hit, hne, hai⟩ ⟨xs, x, hq, hx⟩ => by
    subst hP hw hK
    obtain ⟨its, rv, pt, _⟩ := I.tuple hq
    have hT : s.heap.IsTuple a its.toArray := pt
    obtain ⟨u, hu, ru⟩ := rv.get hx
    have lt : i < its.toArray.size := by rw [List.size_toArray]; exact (List.getElem?_eq_some_iff.mp hu).1
    have el := Heap.lt_size (show s.heap.get? e = some _ from he)
    have il : it < s.heap.objs.size := by obtain ⟨_, q, _⟩ := hit; exact Heap.lt_size q
    refine wpAny_pyNext_enum_itemD (Draws.tuple (show X.A.in1.handled = none from I.ok.hd hc) it a hai its.toArray) he ⟨hit, hT⟩ lt hne (fun m => ?_) fun y h' tk hy ho st hnew _ hk => ⟨_, rfl, ?_⟩
    · rcases List.mem_cons.mp m with z | z
      · exact hne z
      · exact enum_ne he hT (List.mem_singleton.mp z)
    have ey : y = u := by
      have hy' : its[i]? = some y := by simpa using hy
      rw [hu] at hy'; exact (Option.some.inj hy').symm
    subst ey
    refine wpAny_letOwnedTupleGo_enum (s := { s with heap := h', toks := tk + 1 }) ho fun h'' he' sb => ?_
    have hT2 := (sb.2 _ (Nat.ne_of_gt el)).trans hnew
    have nw : ObjOk X.prog X.w (upd H s.heap.objs.size (.tup [.int (i : Nat), x])) h'' s.heap.objs.size (.tup [.int (i : Nat), x]) :=
      ⟨(by decide : 2 ≤ sizeLine), _, .cons ⟨_, rfl⟩ (.cons ru .nil), ⟨_, hT2, rfl, _, rfl⟩⟩
    have I1 : Inv X pins σ (upd H s.heap.objs.size (.tup [.int (i : Nat), x])) { s with heap := h'', toks := tk + 1 } := I.turnedNew (ch := [e, it]) (fun b o hb q => by
      have h1 : b ≠ e := fun z => hb (by simp [z])
      have h2 : b ≠ it := fun z => hb (by simp [z])
      exact (sb.2 b h1).trans (hk b o h1 h2 q)) hf (Nat.le_refl _) nw
    refine ⟨.ref s.heap.objs.size, _, I1, rfl, ⟨_, x, rfl, I.hok.fresh (Nat.le_refl _), rfl, fun ys hy => by rw [I.tuple_inj hy hq]; exact hx⟩, ⟨⟨y, ?_⟩, st.1.at fun o q => (sb.2 it (Ne.symm hne)).trans q, hne, hai⟩, fun b hb => ?_⟩
    · rw [show ((i + 1 : Nat) : Int) = (i : Int) + 1 by omega]; exact he'
    · have hb' : b ≠ s.heap.objs.size := by
        rcases List.mem_cons.mp hb with z | z
        · rw [z]; exact Nat.ne_of_lt el
        · rw [List.mem_singleton.mp z]; exact Nat.ne_of_lt il
      rw [upd_ne hb']
      exact (hf b hb).1
  done := fun X hP hw hK hc i pins s σ H E I hf ⟨⟨old, he⟩, hit, hne, hai⟩ ⟨xs, hq, hl⟩ => by
    subst hP hw hK
    obtain ⟨its, rv, pt, _⟩ := I.tuple hq
    have hT : s.heap.IsTuple a its.toArray := pt
    obtain ⟨f0, f1, f2, f3, f4, f5⟩ := hf it (by simp)
    have hlen := rv.length
    have ei : i = its.toArray.size := by rw [List.size_toArray]; omega
    subst ei
    exact wpAny_pyNext_enum_endD (Draws.tuple (show X.A.in1.handled = none from I.ok.hd hc) it a hai its.toArray) he ⟨hit, hT⟩ fun h' eb => ⟨rfl, I.turned (t' := s.toks) (fun b o hb q => eb b o hb q) f0 f1 f3 f4 f5⟩
  self := fun A i s Q E ⟨⟨_, he⟩, _⟩ h => wpAny_pyIter_enum he h
/-- enumerate of a list or of a tuple -/
def iEnumS (K : PySem.W.Frag) (ta : TA) : TI := fun σ H R => ta σ H fun vs H1 => ∃ a xs, vs = [.ref a] ∧ ((SqL K H1 a xs ∧ R (Ite K a) H1) ∨ (SqT K H1 a xs ∧ R (IteT K a) H1))
theorem pi_enumS {X : Cx} {e : Expr} {ta : TA} {p pos tpos : Pos} {elts : List Expr} {kk : Nat} (hg : Gl X "enumerate") (hm : X.mg "enumerate" = none) (ha : PA X [e] ta) (hs : starEach [e] X.env = [(false, eval e X.env)] := by rfl) :
    PI X (.Tuple elts kk tpos) (.Call (.Name "enumerate" p) [e] [] pos) (iEnumS X.K ta) := ⟨fun pins s σ H R I h => by
  refine PyProof.Rows.Call_ (ld_blt I hg hm PyProof.Rows.boot_enumerate (PyProof.Rows.callWith_type1 (thn (ha.run pos pins s σ H _ I h) fun us s1 ⟨vs, H1, J1, rv, a, xs, ev, w⟩ => ?_) hs rfl))
  subst ev
  cases rv with
  | cons r rr =>
    cases rr; cases r
    have fpk : ∀ b ∈ [s1.heap.objs.size + 1, s1.heap.objs.size], FpOk X pins H1 b := fun b hb => by
      have : s1.heap.objs.size ≤ b := by simp at hb; omega
      exact J1.fpOk this (J1.hok.fresh this)
    rcases w with ⟨hq, q⟩ | ⟨hq, q⟩
    · obtain ⟨its, _, z, _⟩ := J1.list hq
      exact call_enumerate_list z.isList fun h' he hit _ hk => wpAny_pyIter_enum he ⟨_, [s1.heap.objs.size + 1, s1.heap.objs.size], _, _, H1, rfl, J1.kept (t' := s1.toks) hk, turn_enum a _ _, ⟨⟨.none, he⟩, hit, Nat.succ_ne_self _⟩, fpk, q⟩
    · obtain ⟨its, _, z, _⟩ := J1.tuple hq
      have hT : s1.heap.IsTuple a its.toArray := z
      have al : a < s1.heap.objs.size := by obtain ⟨o, ho, _⟩ := hT; exact Heap.lt_size ho
      exact enum_tuple hT fun h' he hit hk => wpAny_pyIter_enum he ⟨_, [s1.heap.objs.size + 1, s1.heap.objs.size], _, _, H1, rfl, J1.kept (t' := s1.toks) hk, turn_enumT a _ _, ⟨⟨.none, he⟩, hit, Nat.succ_ne_self _, Nat.ne_of_lt al⟩, fpk, q⟩⟩

section
variable {c : Ctx} {M N : Addr → Prop} {s s' s1 s2 : S} {σ : St} {H H' H1 H2 : Hp} {v : V} {d : D} {X : Cx} {E : XK} {p : Bool} {m : Md} {Γ : KC} {ds : List D} {pos : Pos}
def enumD (ds : List D) : List D := ds.mapIdx fun (k : Nat) d => .tup [.int (k : Int), d]
def zipDD (ds es : List D) : List D := List.zipWith (fun d e => .tup [d, e]) ds es
/-- what zip's pairs begin with is no tuple -/
def zipOk (ds : List D) : Bool := ds.all fun d => !nds [d]
theorem zip_nds {i : Nat} {dy : D} (h : zipOk ds = true) (e : ds[i]? = some d) : nds [d, dy] = false := by
  have := List.all_eq_true.mp h d (List.mem_of_getElem? e)
  cases d <;> first | rfl | (simp [nds] at this)
@[simp] theorem zipOk_ints {ns : List Int} : zipOk (ns.map .int) = true := by simp [zipOk, nds]
@[simp] theorem zipOk_nil : zipOk [] = true := rfl
@[simp] theorem zipOk_int {n : Int} : zipOk (.int n :: ds) = zipOk ds := by simp [zipOk, nds]
theorem pair_new {T : Addr} {x y : V} {dx dy : D} (hk : nds [dx, dy] = false) (hT : H T = none) (al : ∀ p, N p → H p ≠ none) (hx : Dm Γ N H dx x) (hy : Dm Γ N H dy y) : Same H (upd H T (.tup [x, y])) ∧ Dm Γ N (upd H T (.tup [x, y])) (.tup [dx, dy]) (.ref T) := by
  have sm : Same H (upd H T (.tup [x, y])) := same_new hT
  refine ⟨sm, ?_⟩
  simp only [Dm]
  exact ⟨T, _, rfl, .inl ⟨fun z => al T z hT, .inr ⟨hk, upd_same⟩⟩, Dms.cons (Dm.mono (.of sm) _ _ hx) (Dms.cons (Dm.mono (.of sm) _ _ hy) Dms.nil)⟩
theorem gv_el {W : Addr → Prop} {a : Addr} {xs : List V} (hM : ∀ a, M a → W a) (hs : LsS Γ M H a xs) (hd : Dms Γ W H ds xs) : Gv Γ M W (Ite Γ.K a) H (enumD ds) where
  go := fun i H' e hi => by
    have hl := hd.len
    have h2 : i < xs.length := by simp [enumD] at hi; omega
    exact ⟨xs, xs[i], (hs.mono e).sq, List.getElem?_eq_getElem h2⟩
  stop := fun H' e => ⟨xs, (hs.mono e).sq, by have := hd.len; simp [enumD]; omega⟩
  yld := fun i H' x H'' N e sub al hi ⟨T, y, hx, hT, hH, hy⟩ => by
    subst hx; subst hH
    obtain ⟨d, h1, h2⟩ := hd.get (hy xs (hs.mono e).sq)
    obtain ⟨z1, z2⟩ := pair_new (x := .int (i : Nat)) rfl hT al (dm_int (i := (i : Int))) (Dm.both sub (e.imp hM) h2)
    exact ⟨z1, _, by simp [enumD, h1], z2⟩
theorem gv_et {b0 : Bool} {W : Addr → Prop} {a : Addr} {xs : List V} (hM : ∀ a, M a → W a) (hs : TuS Γ M H b0 a xs) (hd : Dms Γ W H ds xs) : Gv Γ M W (IteT Γ.K a) H (enumD ds) where
  go := fun i H' e hi => by
    have hl := hd.len
    have h2 : i < xs.length := by simp [enumD] at hi; omega
    exact ⟨xs, xs[i], (hs.mono e).sq, List.getElem?_eq_getElem h2⟩
  stop := fun H' e => ⟨xs, (hs.mono e).sq, by have := hd.len; simp [enumD]; omega⟩
  yld := fun i H' x H'' N e sub al hi ⟨T, y, hx, hT, hH, hy⟩ => by
    subst hx; subst hH
    obtain ⟨d, h1, h2⟩ := hd.get (hy xs (hs.mono e).sq)
    obtain ⟨z1, z2⟩ := pair_new (x := .int (i : Nat)) rfl hT al (dm_int (i := (i : Int))) (Dm.both sub (e.imp hM) h2)
    exact ⟨z1, _, by simp [enumD, h1], z2⟩
theorem gv_zl {W : Addr → Prop} {a b : Addr} {xs ys : List V} {es : List D} (hzo : zipOk ds = true) (hM : ∀ a, M a → W a) (hs : LsS Γ M H a xs) (hd : Dms Γ W H ds xs) (hs2 : LsS Γ M H b ys) (hd2 : Dms Γ W H es ys) : Gv Γ M W (Itz Γ.K a b) H (zipDD ds es) where
  go := fun i H' e hi => by
    have hl := hd.len; have hl2 := hd2.len
    simp [zipDD] at hi
    exact ⟨xs, ys, xs[i]'(by omega), ys[i]'(by omega), (hs.mono e).sq, (hs2.mono e).sq, List.getElem?_eq_getElem _, List.getElem?_eq_getElem _⟩
  stop := fun H' e => ⟨xs, ys, (hs.mono e).sq, (hs2.mono e).sq, by have := hd.len; have := hd2.len; simp [zipDD]; omega⟩
  yld := fun i H' x H'' N e sub al hi ⟨T, y, z, hx, hT, hH, hy, hz⟩ => by
    subst hx; subst hH
    obtain ⟨d, h1, h2⟩ := hd.get (hy xs (hs.mono e).sq)
    obtain ⟨d', h3, h4⟩ := hd2.get (hz ys (hs2.mono e).sq)
    obtain ⟨z1, z2⟩ := pair_new (zip_nds hzo h1) hT al (Dm.both sub (e.imp hM) h2) (Dm.both sub (e.imp hM) h4)
    exact ⟨z1, _, by simp [zipDD, List.getElem?_zipWith, h1, h3], z2⟩
theorem gv_zt {b0 b1 : Bool} {W : Addr → Prop} {a b : Addr} {xs ys : List V} {es : List D} (hzo : zipOk ds = true) (hM : ∀ a, M a → W a) (hs : TuS Γ M H b0 a xs) (hd : Dms Γ W H ds xs) (hs2 : TuS Γ M H b1 b ys) (hd2 : Dms Γ W H es ys) : Gv Γ M W (RZ.ItzT Γ.K a b) H (zipDD ds es) where
  go := fun i H' e hi => by
    have hl := hd.len; have hl2 := hd2.len
    simp [zipDD] at hi
    exact ⟨xs, ys, xs[i]'(by omega), ys[i]'(by omega), (hs.mono e).sq, (hs2.mono e).sq, List.getElem?_eq_getElem _, List.getElem?_eq_getElem _⟩
  stop := fun H' e => ⟨xs, ys, (hs.mono e).sq, (hs2.mono e).sq, by have := hd.len; have := hd2.len; simp [zipDD]; omega⟩
  yld := fun i H' x H'' N e sub al hi ⟨T, y, z, hx, hT, hH, hy, hz⟩ => by
    subst hx; subst hH
    obtain ⟨d, h1, h2⟩ := hd.get (hy xs (hs.mono e).sq)
    obtain ⟨d', h3, h4⟩ := hd2.get (hz ys (hs2.mono e).sq)
    obtain ⟨z1, z2⟩ := pair_new (zip_nds hzo h1) hT al (Dm.both sub (e.imp hM) h2) (Dm.both sub (e.imp hM) h4)
    exact ⟨z1, _, by simp [zipDD, List.getElem?_zipWith, h1, h3], z2⟩
theorem vi_args {wi : TA → TI} {gg : List D → Option (List D)} {ta : TA} {fl : PM (List D)} (h : VA c E p .st ta fl)
    (hw : ∀ M ds vs es H (R : It → Hp → Prop), Dms c.Γ M H ds vs → gg ds = some es → (∀ J, Gv c.Γ M M J H es → R J H) → wi (fun _ _ k => k vs H) [] H R)
    (hwi : ∀ σ H R, (ta σ H fun vs H1 => wi (fun _ _ k => k vs H1) [] H1 R) → wi ta σ H R) : VI c E p .st (wi ta) (rngI gg fl) := ⟨by
  have z := h.pu.bnd (q := true) (g := fun ds => lft (gg ds)) fun d => Pu.lift
  rw [Bool.and_true] at z; exact z, fun M0 s σ H L R q => hwi σ H R (h.run M0 s σ H L _ (by
  unfold rngI at q
  cases e1 : fl s with
  | no => rw [bnd_no e1] at q; exact q
  | exc x s1 => rw [bnd_exc e1] at q; exact q
  | ok ds s1 =>
    rw [bnd_ok e1] at q
    intro vs H1 f1 L1 m1 h1
    unfold lft at q
    cases e2 : gg ds with
    | none => rw [e2] at q; exact q.elim
    | some es =>
      rw [e2] at q
      exact hw (Mo (c.at M0) s1 σ) ds vs es H1 R h1 e2 fun J gv => q J H1 f1 L1 m1 gv))⟩
def enumG : List D → Option (List D)
  | [d] => (itemsG d).map enumD
  | _ => none
def zipG : List D → Option (List D)
  | [.lst ds, .lst es] => if zipOk ds = true then some (zipDD ds es) else none
  | [.tup ds, .tup es] => if zipOk ds = true then some (zipDD ds es) else none
  | _ => none
variable {e e2 : Expr} {fl : PM (List D)} {p0 tpos : Pos} {elts : List Expr} {kk : Nat}
theorem mi_enum (hg : Gl X "enumerate") (hm : X.mg "enumerate" = none) (ha : MA X c E p .st [e] fl) (hs : starEach [e] X.env = [(false, eval e X.env)] := by rfl) (hK : X.K = c.Γ.K := by rfl) : MI X c E p .st (.Tuple elts kk tpos) (.Call (.Name "enumerate" p0) [e] [] pos) (rngI enumG fl) :=
  let ⟨t, x, y⟩ := ha.ex; ⟨iEnumS c.Γ.K t, by rw [← hK]; exact pi_enumS hg hm x hs, vi_args (wi := iEnumS c.Γ.K) y (fun M ds vs es H R hd e k => by
    unfold enumG at e
    split at e
    · obtain ⟨xs, e1, rfl⟩ := Option.map_eq_some_iff.mp e
      obtain ⟨z, rfl, hz⟩ := hd.one
      rename_i d
      cases d <;> simp only [itemsG] at e1 <;> cases e1 <;> simp only [Dm] at hz
      · obtain ⟨a, ys, rfl, h1, h2⟩ := hz; exact ⟨a, ys, rfl, .inl ⟨h1.sq, k _ (gv_el (fun _ z => z) h1 h2)⟩⟩
      · obtain ⟨a, ys, rfl, h1, h2⟩ := hz; exact ⟨a, ys, rfl, .inr ⟨h1.sq, k _ (gv_et (fun _ z => z) h1 h2)⟩⟩
    · cases e) fun σ H R z => z⟩
theorem mi_zip (hg : Gl X "zip") (hm : X.mg "zip" = none) (ha : MA X c E p .st [e, e2] fl) (hs : starEach [e, e2] X.env = (false, eval e X.env) :: starEach [e2] X.env := by rfl) (hpl : (backTo pos (starEach [e2] X.env)).any (·.1) = false := by rfl) (hK : X.K = c.Γ.K := by rfl) : MI X c E p .st (.Tuple elts kk tpos) (.Call (.Name "zip" p0) [e, e2] [] pos) (rngI zipG fl) :=
  let ⟨t, x, y⟩ := ha.ex; ⟨RZ.iZipA c.Γ.K t, by rw [← hK]; exact RZ.pi_zipA hg hm x hs hpl, vi_args (wi := RZ.iZipA c.Γ.K) y (fun M ds vs es H R hd e k => by
    unfold zipG at e
    split at e
    · obtain ⟨hz, rfl⟩ := if_some e
      obtain ⟨x, r, rfl, h1, h2⟩ := hd.uncons
      obtain ⟨y, rfl, h3⟩ := h2.one
      simp only [Dm] at h1 h3
      obtain ⟨a, xs, rfl, h4, h5⟩ := h1
      obtain ⟨b, ys, rfl, h6, h7⟩ := h3
      exact ⟨a, b, xs, ys, rfl, .inl ⟨h4.sq, h6.sq, k _ (gv_zl hz (fun _ z => z) h4 h5 h6 h7)⟩⟩
    · obtain ⟨hz, rfl⟩ := if_some e
      obtain ⟨x, r, rfl, h1, h2⟩ := hd.uncons
      obtain ⟨y, rfl, h3⟩ := h2.one
      simp only [Dm] at h1 h3
      obtain ⟨a, xs, rfl, h4, h5⟩ := h1
      obtain ⟨b, ys, rfl, h6, h7⟩ := h3
      exact ⟨a, b, xs, ys, rfl, .inr ⟨h4.sq, h6.sq, k _ (gv_zt hz (fun _ z => z) h4 h5 h6 h7)⟩⟩
    · cases e) fun σ H R z => z⟩
end
end Vl

set_option Elab.async false
set_option linter.all false
set_option maxRecDepth 100000
set_option maxHeartbeats 2000000
/-! joins, slices, displays of dicts, texts -/
namespace Vl
open PySem PySem.Spec L2
variable {c : Ctx} {M N : Addr → Prop} {s s' s1 s2 : S} {σ σ' σ1 σ2 : St} {H H' H0 H1 H2 : Hp} {v : V} {d : D} {i : Nat} {X : Cx} {E : XK} {e : Expr} {a : Addr} {f fa fb fd fk fx fv fe fl fh : PM D} {p q pa pb pc pi pk pe : Bool} {m ma mb mk : Md} {t ta tb te td ty tx : TE} {pos pos' apos cpos : Pos} {D0 : Ends} {Γ : KC}

/-! ### + of all kinds -/
def rCatR (K : PySem.W.Frag) : R2 := fun x y H Q => ∃ l b xs zs, x = .ref l ∧ y = .ref b ∧ LsX K H l xs ∧ LsX K H b zs ∧ xs.length + zs.length ≤ sizeLine ∧ ∀ p, H p = none → Q (.ref p) (upd H p (.lst (xs ++ zs)))
theorem op_catR : OpR X (binaryOp .Add) (rCatR X.K) := by
  intro pins s σ H x y v u Q I rx ry h
  obtain ⟨l, b, xs, zs, rfl, rfl, hH, hB, hz, q⟩ := h
  cases rx
  cases ry
  obtain ⟨its, n, r, hl, e⟩ := hH.lst I
  obtain ⟨its2, n2, r2, hl2, e2⟩ := hB.lst I
  refine PySem.P.add_list e e2 ?_ (by rw [List.size_toArray, List.size_toArray]; omega)
  have ea : its.toArray ++ its2.toArray = (its ++ its2).toArray := by simp
  rw [ea]
  exact ⟨.ref _, _, I.lnew (t' := s.toks) (r.append r2) (by rw [List.length_append]; omega), rfl, q _ I.fresh⟩
def rCatF (K : PySem.W.Frag) : R2 := fun x y H Q => ∃ a b xs ys, x = .ref a ∧ y = .ref b ∧ SqT K H a xs ∧ SqT K H b ys ∧ xs.length + ys.length ≤ sizeLine ∧
  (xs = [] → Q (.ref b) H) ∧ (xs ≠ [] → ys = [] → Q (.ref a) H) ∧ (xs ≠ [] → ys ≠ [] → ∀ p o, H p = none → o.dict = none → Q (.ref p) (upd H p (.frz o (.tup (xs ++ ys)))))
theorem op_catF : OpR X (binaryOp .Add) (rCatF X.K) := by
  intro pins s σ H x y v u Q I rx ry h
  obtain ⟨a, b, xs, ys, rfl, rfl, ha, hb, hz, q0, q1, q2⟩ := h
  cases rx
  cases ry
  obtain ⟨its, r1, p1, _⟩ := I.tuple ha
  obtain ⟨its2, r2, p2, _⟩ := I.tuple hb
  by_cases hx : xs = []
  · subst hx
    cases r1
    exact cat_tup0 p1 p2 ⟨.ref b, H, I, rfl, q0 rfl⟩
  · refine HT.cat_tup p1 p2 (fun z => hx (r1.nil_iff.mp z)) (fun z => ⟨.ref a, H, I, rfl, q1 hx (r2.nil_iff.mp z)⟩) (fun z => ?_) (by rw [← r1.length, ← r2.length]; exact hz)
    exact ⟨.ref s.heap.objs.size, _, I.laid (t' := s.toks) (o := .frz { cls := .type "tuple", data := .seq (its ++ its2).toArray } (.tup (xs ++ ys))) (fun b ob q => Heap.get?_push_of_some _ q) (Nat.le_refl _)
      ⟨Heap.get?_push_size _ rfl, by rw [List.length_append]; exact hz, _, r1.append r2, PyProof.Rows.IsTup.new _ _⟩, rfl, q2 hx (fun w => z (r2.nil_iff.mpr w)) _ _ (I.hok.fresh (Nat.le_refl _)) rfl⟩
def rAddStr : R2 := fun x y H Q => ∃ i j, x = .str i ∧ y = .str j ∧ i.length + j.length ≤ sizeLine ∧ Q (.str (i ++ j)) H
def rAddA (K : PySem.W.Frag) : R2 := fun x y H Q => ((rI0 (fun i j => .int (i + j)) x y H Q ∨ rCatR K x y H Q) ∨ rCatF K x y H Q) ∨ rAddStr x y H Q
theorem op_addA : OpR X (binaryOp .Add) (rAddA X.K) := ((op_add.or op_catR).or op_catF).or op_add_str
def catG : GD := fun ds => match ds with | [.lst xs, .lst ys] => if xs.length + ys.length ≤ 1000000 then some (.lst (xs ++ ys)) else none | _ => none
def addG : GD := fun ds => match ds with
  | [.int i, .int j] => some (.int (i + j))
  | [.lst xs, .lst ys] => if xs.length + ys.length ≤ 1000000 then some (.lst (xs ++ ys)) else none
  | [.tup xs, .tup ys] => if xs.length + ys.length ≤ 1000000 then some (.tup (xs ++ ys)) else none
  | [.str x, .str y] => if x.length + y.length ≤ 1000000 then some (.str (x ++ y)) else none
  | _ => none
theorem rf_cat : RF Γ (arg2 (rCatR Γ.K)) catG := fun M ds vs d H hv e Q q => by
  unfold catG at e
  split at e
  · rename_i xs ys
    obtain ⟨hl, rfl⟩ := if_some e
    obtain ⟨x, r, rfl, h1, h2⟩ := hv.uncons
    obtain ⟨y, rfl, h3⟩ := h2.one
    simp only [Dm] at h1 h3
    obtain ⟨a, us, rfl, h4, h5⟩ := h1
    obtain ⟨b, ws, rfl, h6, h7⟩ := h3
    refine ⟨_, _, rfl, a, b, us, ws, rfl, rfl, h4.lx, h6.lx, by rw [h5.len, h7.len]; exact line_le hl, fun p hp => q p _ hp ?_⟩
    simp only [Tp]
    have sm : ExM M H (upd H p (.lst (us ++ ws))) := .of (same_new hp)
    exact ⟨_, upd_same, (Dms.mono sm _ _ h5).append (Dms.mono sm _ _ h7)⟩
  · cases e
theorem cl_catF : Cl Γ (arg2 (rCatR Γ.K)) catG .st .fr := .f rf_cat
theorem rm_add : RM Γ (arg2 (rAddA Γ.K)) addG := fun M ds vs d H hM hv e Q q => by
  unfold addG at e
  split at e
  · cases e
    refine ⟨_, _, dms_ii hv, .inl (.inl (.inl ⟨_, _, rfl, rfl, q _ H (Same.refl _) dm_int⟩))⟩
  · rename_i xs ys
    obtain ⟨x, y, ez, w⟩ := rf_cat (Γ := Γ) M _ _ _ H hv e Q fun x o hx t => q _ _ (same_new hx) (t.dm fun z => hM x z hx)
    exact ⟨x, y, ez, .inl (.inl (.inr w))⟩
  · rename_i xs ys
    obtain ⟨hl, rfl⟩ := if_some e
    obtain ⟨x, r, rfl, h1, h2⟩ := hv.uncons
    obtain ⟨y, rfl, h3⟩ := h2.one
    have h1' := h1; have h3' := h3
    simp only [Dm] at h1 h3
    obtain ⟨a, us, rfl, h4, h5⟩ := h1
    obtain ⟨b, ws, rfl, h6, h7⟩ := h3
    have l1 := h5.len; have l2 := h7.len
    refine ⟨_, _, rfl, .inl (.inr ⟨a, b, us, ws, rfl, rfl, h4.sq, h6.sq, by rw [l1, l2]; exact line_le hl, fun z => ?_, fun z1 z2 => ?_, fun z1 z2 p o hp ho => ?_⟩)⟩
    · subst z
      have : xs = [] := by cases xs with | nil => rfl | cons _ _ => simp at l1
      subst this
      exact q _ H (Same.refl _) h3'
    · subst z2
      have : ys = [] := by cases ys with | nil => rfl | cons _ _ => simp at l2
      subst this
      exact q _ H (Same.refl _) (by rw [List.append_nil]; exact h1')
    · refine q _ _ (same_new hp) ?_
      have sm : ExM M H (upd H p (.frz o (.tup (us ++ ws)))) := .of (same_new hp)
      simp only [Dm]
      exact ⟨p, _, rfl, .new (fun z => hM p z hp) upd_same ho, (Dms.mono sm _ _ h5).append (Dms.mono sm _ _ h7)⟩
  · obtain ⟨hl, rfl⟩ := if_some e
    obtain ⟨x, r, rfl, h1, h2⟩ := hv.uncons
    obtain ⟨y, rfl, h3⟩ := h2.one
    rw [h1.toS, h3.toS]
    exact ⟨_, _, rfl, .inr ⟨_, _, rfl, rfl, line_le hl, q _ H (Same.refl _) dm_str⟩⟩
  · cases e
theorem cl_add : Cl Γ (arg2 (rAddA Γ.K)) addG .st .st := .m rm_add
theorem cl_addN : Cl Γ (arg2 (rAddA Γ.K)) addG m .now := .n rm_add

/-! ### repr, str -/
def tellsB (d : PyData) : Bool := d.showable && decide (d.depth ≤ 64) && decide (d.shown.length ≤ 16777216) && !d.hasDict
theorem tells_of (h : tellsB d' = true) : Tells d' := by
  unfold tellsB at h
  simp only [Bool.and_eq_true, decide_eq_true_eq, Bool.not_eq_true'] at h
  exact ⟨h.1.1.1, h.1.1.2, by rw [sizeLine_eq]; exact h.1.2, h.2⟩
def reprG : GD := fun ds => match ds with | [d] => (toPy d).bind fun p => if tellsB p = true then some (.str p.shown) else none | _ => none
theorem cl_repr : Cl Γ (rRepr Γ.K) reprG m .st := .s fun ds vs d H hv e Q q => by
  unfold reprG at e
  split at e
  · obtain ⟨p, e1, e2⟩ := Option.bind_eq_some_iff.mp e
    obtain ⟨ht, rfl⟩ := if_some e2
    obtain ⟨x, rfl, h1⟩ := hv.one
    exact ⟨x, p, rfl, toPy_dp _ _ _ e1 h1, tells_of ht, q _ H (Same.refl _) fun _ => dm_str⟩
  · cases e
def rStr : RA := fun xs H Q => (∃ i, xs = [.int i] ∧ i.natAbs.log2 < 1920 ∧ Q (.str (toString i)) H) ∨ ∃ a, xs = [.str a] ∧ Q (.str a) H
theorem call_strA : CallR X (.type "str") rStr := call_str_int.or SkE.call_str_str
def strG : GD := fun ds => match ds with | [.int i] => if i.natAbs.log2 < 1920 then some (.str (toString i)) else none | [.str x] => some (.str x) | _ => none
theorem cl_str : Cl Γ rStr strG m .st := .s fun ds vs d H hv e Q q => by
  unfold strG at e
  split at e
  · obtain ⟨hl, rfl⟩ := if_some e
    obtain ⟨x, rfl, h1⟩ := hv.one
    rw [h1.toI]
    exact .inl ⟨_, rfl, hl, q _ H (Same.refl _) fun _ => dm_str⟩
  · cases e
    obtain ⟨x, rfl, h1⟩ := hv.one
    rw [h1.toS]
    exact .inr ⟨_, rfl, q _ H (Same.refl _) fun _ => dm_str⟩
  · cases e
/-! min, max of two ints; of a list -/
abbrev rMax2 (K : PySem.W.Frag) : RA := fun xs H Q => (∃ i j, xs = [.int i, .int j] ∧ Q (.int (if j > i then j else i)) H) ∨ rMax K xs H Q
abbrev rMin2 (K : PySem.W.Frag) : RA := fun xs H Q => (∃ i j, xs = [.int i, .int j] ∧ Q (.int (if j < i then j else i)) H) ∨ rMin K xs H Q
def max2G : GD := fun ds => match ds with | [.int i, .int j] => some (.int (max i j)) | _ => maxG ds
def min2G : GD := fun ds => match ds with | [.int i, .int j] => some (.int (min i j)) | _ => minG ds
theorem call_maxA (hc : X.calm = true) : CallR X (.builtin "max") (rMax2 X.K) := (call_max2 hc).or (cr_max hc)
theorem call_minA (hc : X.calm = true) : CallR X (.builtin "min") (rMin2 X.K) := (call_min2 hc).or (cr_min hc)
theorem cl_run_s {r : RA} {g : GD} (h : Cl Γ r g .now .st) : RS Γ r g := by
  cases h with
  | s h => exact h
theorem cl_maxA : Cl Γ (rMax2 Γ.K) max2G m .st := .s fun ds vs d H hv e Q q => by
  unfold max2G at e
  split at e
  · cases e
    refine .inl ⟨_, _, dms_ii hv, ?_⟩
    rename_i i j
    have z : (if j > i then j else i) = max i j := by split <;> omega
    rw [z]; exact q _ H (Same.refl _) fun _ => dm_int
  · exact .inr (cl_run_s cl_max ds vs d H hv e Q q)
theorem cl_minA : Cl Γ (rMin2 Γ.K) min2G m .st := .s fun ds vs d H hv e Q q => by
  unfold min2G at e
  split at e
  · cases e
    refine .inl ⟨_, _, dms_ii hv, ?_⟩
    rename_i i j
    have z : (if j < i then j else i) = min i j := by split <;> omega
    rw [z]; exact q _ H (Same.refl _) fun _ => dm_int
  · exact .inr (cl_run_s cl_min ds vs d H hv e Q q)
/-! sorted of ints -/
def srtL (ns : List Int) : List Int := ns.mergeSort fun a b => decide (a ≤ b)
def sortedG : GD := fun ds => match ds with | [.lst ds] => (toInts ds).map fun ns => .lst ((srtL ns).map .int) | _ => none
theorem ints_dms : ∀ {ns : List Int}, Dms Γ M H (ns.map D.int) (ns.map V.int)
  | [] => Dms.nil
  | n :: ns => Dms.cons dm_int ints_dms
theorem srt_uniq {as bs : List Int} (h : as.Perm bs) (h1 : as.Pairwise (· ≤ ·)) (h2 : bs.Pairwise (· ≤ ·)) : as = bs :=
  h.eq_of_pairwise (le := (· ≤ ·)) (fun a b _ _ x y => Int.le_antisymm x y) h1 h2
theorem cl_sorted : Cl Γ (rSortedI Γ.K) sortedG .st .fr := .f fun M ds vs d H hv e Q q => by
  unfold sortedG at e
  split at e
  · obtain ⟨ns, e1, rfl⟩ := Option.map_eq_some_iff.mp e
    have := toInts_eq e1
    subst this
    obtain ⟨x, rfl, h1⟩ := hv.one
    simp only [Dm] at h1
    obtain ⟨a, xs, rfl, h2, h3⟩ := h1
    have := dms_ints h3
    subst this
    refine ⟨a, ns, rfl, h2.sq, fun ns' p h4 h5 hp => q p _ hp ?_⟩
    have : ns' = srtL ns := srt_uniq (h4.trans (List.mergeSort_perm ns _).symm) h5 (by
      have z := List.pairwise_mergeSort (le := fun a b : Int => decide (a ≤ b)) (fun a b c h1 h2 => by simp at *; omega) (fun a b => by simp; omega) ns
      exact z.imp fun h => by simpa using h)
    subst this
    simp only [Tp]
    exact ⟨_, upd_same, ints_dms⟩
  · cases e
end Vl

set_option Elab.async false
set_option linter.all false
set_option maxRecDepth 100000
set_option maxHeartbeats 2000000
/-! slices, displays of dicts -/
namespace Vl
open PySem PySem.Spec L2
variable {c : Ctx} {M N : Addr → Prop} {s s' s1 s2 : S} {σ σ' σ1 σ2 : St} {H H' H0 H1 H2 : Hp} {v : V} {d : D} {i : Nat} {X : Cx} {E : XK} {e : Expr} {a : Addr} {f fa fb fd fk fx fv fe : PM D} {fl fh : PM (Option Int)} {p q pa pb pc pi pk pe : Bool} {m ma mb mk : Md} {t ta tb te td ty tx : TE} {pos pos' apos cpos : Pos} {D0 : Ends} {Γ : KC}

/-! ### a[lo:hi] -/
def PoO (c : Ctx) (E : XK) (p : Bool) (s : S) (σ : St) (H : Hp) (Q : Option Int → Hp → Prop) : Out (Option Int) → Prop
  | .ok b s' => ∀ H', Fr p (Own c s σ) H H' → Lv c s' σ H' → (∀ a, Own c s' σ a → Own c s σ a) → Q b H'
  | .exc x s' => ∀ cls dd H', Lv c s' σ H' → Fr false (Own c s σ) H H' → (∀ a, Own c s' σ a → Own c s σ a) → Xr c s' σ x cls dd H' → E cls dd H'
  | .no => False
structure VOp (c : Ctx) (E : XK) (p : Bool) (t : TO) (f : PM (Option Int)) : Prop where
  pu : Pu p f
  run : ∀ M0 s σ H, Lv (c.at M0) s σ H → ∀ Q, PoO (c.at M0) E p s σ H Q (f s) → t σ H Q
structure MOp (X : Cx) (c : Ctx) (E : XK) (p : Bool) (e : Option Expr) (f : PM (Option Int)) : Prop where
  ex : ∃ t, PO X e t ∧ VOp c E p t f
def prtS (f : PM D) : PM (Option Int) := bd f fun d => match d with | .int i => pur (some i) | _ => fun _ => .no
theorem mop_none : MOp X c E true none (pur none) := ⟨_, po_none, Pu.rt, fun M0 s σ H L Q q => q H Fr.refl L fun _ z => z⟩
theorem mop_some (h : ME X c E p m e f) : MOp X c E p (some e) (prtS f) := let ⟨_, x, y⟩ := h.ex; ⟨_, po_some x, by
    have z := y.pu.bnd (q := true) (g := fun d => match d with | .int i => pur (some i) | _ => fun _ => .no) fun d => by
      cases d <;> first | exact Pu.rt | exact pu_no
    rwa [Bool.and_true] at z, fun M0 s σ H L Q q => y.run M0 s σ H L _ (by
  unfold prtS at q
  cases e1 : f s with
  | no => rw [bnd_no e1] at q; exact q
  | exc x s1 => rw [bnd_exc e1] at q; exact q
  | ok d s1 =>
    rw [bnd_ok e1] at q
    intro v H1 f1 L1 m1 h1
    cases d with
    | int i => exact ⟨i, h1.no.toI, q H1 f1 L1 m1⟩
    | _ => exact q.elim)⟩
def cutD (xs : List D) (lo hi : Option Int) : List D := (xs.drop (HT.sIx xs.length 0 lo)).take (HT.sIx xs.length xs.length hi - HT.sIx xs.length 0 lo)
theorem dms_cut {ds : List D} {xs : List V} {lo hi : Option Int} (h : Dms Γ M H ds xs) : Dms Γ M H (cutD ds lo hi) (cutV xs lo hi) := by
  unfold cutD cutV
  rw [h.len]
  exact (h.drop _).take _
def rSlF (K : PySem.W.Frag) : V → Option Int → Option Int → Hp → VK → Prop := fun x lo hi H Q => ∃ a xs, x = .ref a ∧ SqT K H a xs ∧
  (HT.sIx xs.length 0 lo = 0 ∧ HT.sIx xs.length xs.length hi = xs.length → Q (.ref a) H) ∧ (¬ (HT.sIx xs.length 0 lo = 0 ∧ HT.sIx xs.length xs.length hi = xs.length) → ∀ p o, H p = none → o.dict = none → Q (.ref p) (upd H p (.frz o (.tup (cutV xs lo hi)))))
theorem sl_tupF : L2.SlR X (rSlF X.K) := by
  intro pins s σ H x v vl vu lo hi sl Q I rx hs pl pu h
  obtain ⟨a, xs, rfl, hx, q1, q2⟩ := h
  cases rx
  obtain ⟨its, r, ht, hz⟩ := I.tuple hx
  have hlen : its.toArray.size = xs.length := by rw [List.size_toArray]; exact r.length.symm
  by_cases hw : HT.sIx xs.length 0 lo = 0 ∧ HT.sIx xs.length xs.length hi = xs.length
  · refine ⟨"tuple", _, PyProof.Rows.slot_tuple_getitem.lookup, ht.typeIs, ?_⟩
    exact getItem_tuple_whole ht hs pl pu (by rw [hlen]; exact hw) ⟨.ref a, H, I, rfl, q1 hw⟩
  · refine ⟨"tuple", _, PyProof.Rows.slot_tuple_getitem.lookup, ht.typeIs, ?_⟩
    refine HT.getItem_tuple_cut ht hs pl pu (by rw [hlen]; exact hw) ?_ (by rw [hlen]; exact hz)
    rw [hlen]
    exact ⟨.ref s.heap.objs.size, _, I.laid (t' := s.toks) (o := .frz _ (.tup (cutV xs lo hi))) (fun b ob q => Heap.get?_push_of_some _ q) (Nat.le_refl _)
      ⟨Heap.get?_push_size _ rfl, Nat.le_trans (cutV_length xs lo hi) hz, _, (r.drop (HT.sIx xs.length 0 lo)).take (HT.sIx xs.length xs.length hi - HT.sIx xs.length 0 lo), PyProof.Rows.IsTup.new _ _⟩, rfl, q2 hw _ _ (I.hok.fresh (Nat.le_refl _)) rfl⟩
def rSlAll (K : PySem.W.Frag) : V → Option Int → Option Int → Hp → VK → Prop := fun x lo hi H Q => (rSlL K x lo hi H Q ∨ rSlF K x lo hi H Q) ∨ rSlS x lo hi H Q
theorem sl_all : L2.SlR X (rSlAll X.K) := (sl_list.or sl_tupF).or sl_str
def cutG (d : D) (lo hi : Option Int) : Option D := match d with
  | .lst ds => some (.lst (cutD ds lo hi))
  | .tup ds => some (.tup (cutD ds lo hi))
  | .str z => if z.length ≤ 16777216 then some (.str (cutS z lo hi)) else none
  | _ => none
def cutGL (d : D) (lo hi : Option Int) : Option D := match d with
  | .lst ds => some (.lst (cutD ds lo hi))
  | _ => none
theorem whole_of {ds : List D} {lo hi : Option Int} (h : HT.sIx ds.length 0 lo = 0 ∧ HT.sIx ds.length ds.length hi = ds.length) : cutD ds lo hi = ds := by
  unfold cutD
  rw [h.1, h.2]
  simp
theorem cut_m {lo hi : Option Int} {d' : D} {Q : VK} (hM : ∀ a, M a → H a ≠ none) (hd : Dm Γ M H d v) (e : cutG d lo hi = some d') (q : ∀ v H', Same H H' → Dm Γ M H' d' v → Q v H') : rSlAll Γ.K v lo hi H Q := by
  unfold cutG at e
  split at e
  · cases e
    simp only [Dm] at hd
    obtain ⟨a, xs, rfl, h1, h2⟩ := hd
    refine .inl (.inl ⟨a, xs, rfl, h1.sq, fun p hp => q _ _ (same_new hp) ?_⟩)
    simp only [Dm]
    exact ⟨p, _, rfl, .inl ⟨fun z => hM p z hp, .inl upd_same⟩, Dms.mono (.of (same_new hp)) _ _ (dms_cut h2)⟩
  · cases e
    have hd' := hd
    simp only [Dm] at hd
    obtain ⟨a, xs, rfl, h1, h2⟩ := hd
    have hl := h2.len
    refine .inl (.inr ⟨a, xs, rfl, h1.sq, fun w => q _ H (Same.refl _) (by rw [whole_of (by rw [← hl]; exact w)]; exact hd'), fun w p o hp ho => q _ _ (same_new hp) ?_⟩)
    simp only [Dm]
    exact ⟨p, _, rfl, .new (fun z => hM p z hp) upd_same ho, Dms.mono (.of (same_new hp)) _ _ (dms_cut h2)⟩
  · obtain ⟨hl, rfl⟩ := if_some e
    exact .inr ⟨_, hd.toS, by rw [sizeLine_eq]; exact hl, q _ H (Same.refl _) dm_str⟩
  · cases e
theorem cut_f {lo hi : Option Int} {d' : D} {Q : VK} (hd : Dm Γ M H d v) (e : cutGL d lo hi = some d') (q : ∀ x o, H x = none → Tp Γ M (upd H x o) d' x → Q (.ref x) (upd H x o)) : rSlAll Γ.K v lo hi H Q := by
  unfold cutGL at e
  split at e
  · cases e
    simp only [Dm] at hd
    obtain ⟨a, xs, rfl, h1, h2⟩ := hd
    refine .inl (.inl ⟨a, xs, rfl, h1.sq, fun p hp => q p _ hp ?_⟩)
    simp only [Tp]
    exact ⟨_, upd_same, Dms.mono (.of (same_new hp)) _ _ (dms_cut h2)⟩
  · cases e
def slM (g : D → Option Int → Option Int → Option D) (f : PM D) (fl fh : PM (Option Int)) : PM D := bd f fun d => bd fl fun l => bd fh fun h => lft (g d l h)
theorem pu_sl {g : D → Option Int → Option Int → Option D} (h1 : Pu pa f) (h2 : Pu pb fl) (h3 : Pu pc fh) : Pu (pa && (pb && pc)) (slM g f fl fh) := h1.bnd fun d => h2.bnd fun k => by
  have z := h3.bnd (q := true) (g := fun h => lft (g d k h)) fun x => Pu.lift
  rwa [Bool.and_true] at z
theorem sl_run {g : D → Option Int → Option Int → Option D} {tl th : TO} {M0 : Addr → Prop} {Q : VK} (hf : VE c E pa m te f) (hl : VOp c E pb tl fl) (hh : VOp c E pc th fh) (hs1 : Stay m pb) (hs2 : Stay m pc) (L : Lv (c.at M0) s σ H)
    (fin : ∀ d l h s' H' v r, Fr (pa && (pb && pc)) (Own (c.at M0) s σ) H H' → Lv (c.at M0) s' σ H' → (∀ a, Own (c.at M0) s' σ a → Own (c.at M0) s σ a) → Mdr (c.at M0) m s H s' σ H' d v → g d l h = some r →
      Po (c.at M0) E (pa && (pb && pc)) mb s σ H Q (.ok r s') → rSlAll c.Γ.K v l h H' Q)
    (q : Po (c.at M0) E (pa && (pb && pc)) mb s σ H Q (slM g f fl fh s)) : tSl (rSlAll c.Γ.K) te tl th σ H Q := hf.run M0 s σ H L _ (by
  unfold slM at q
  cases e1 : f s with
  | no => rw [bnd_no e1] at q; exact q
  | exc x s1 => rw [bnd_exc e1] at q; exact q
  | ok d s1 =>
    rw [bnd_ok e1] at q
    intro v H1 f1 L1 m1 h1
    refine hl.run M0 s1 σ H1 L1 _ ?_
    cases e2 : fl s1 with
    | no => rw [bnd_no e2] at q; exact q
    | exc x s2 => rw [bnd_exc e2] at q; exact exc_next (o := no) f1 m1 q
    | ok l s2 =>
      rw [bnd_ok e2] at q
      intro H2 f2 L2 m2
      refine hh.run M0 s2 σ H2 L2 _ ?_
      have f12 := f1.and f2 m1
      cases e3 : fh s2 with
      | no => rw [bnd_no e3] at q; exact q
      | exc x s3 => rw [bnd_exc e3] at q; exact exc_next (o := no) f12 (iff_trans m2 m1) q
      | ok h s3 =>
        rw [bnd_ok e3] at q
        intro H3 f3 L3 m3
        have z2 := f12.and f3 (iff_trans m2 m1)
        rw [Bool.and_assoc] at z2
        unfold lft at q
        cases e4 : g d l h with
        | none => rw [e4] at q; exact q.elim
        | some r =>
          rw [e4] at q
          exact fin d l h s3 H3 v r z2 L3 (iff_trans m3 (iff_trans m2 m1)) ((h1.stay f2 m2 hs1).stay f3 m3 hs2) e4 q)
theorem me_sl {lo hi : Option Expr} {p2 : Pos} (h : ME X c E pa m e f) (h1 : MOp X c E pb lo fl) (h2 : MOp X c E pc hi fh) (hs1 : Stay m pb) (hs2 : Stay m pc) (hm : m ≠ .fr := by decide) (hK : X.K = c.Γ.K := by rfl) : ME X c E (pa && (pb && pc)) m (.Subscript e (.Slice lo hi none p2) pos) (slM cutG f fl fh) :=
  let ⟨_, x1, y1⟩ := h.ex; let ⟨_, x2, y2⟩ := h1.ex; let ⟨_, x3, y3⟩ := h2.ex; ⟨tSl (rSlAll c.Γ.K) _ _ _, by rw [← hK]; exact pe_slice sl_all x1 x2 x3, pu_sl y1.pu y2.pu y3.pu, fun M0 s σ H L Q q => sl_run y1 y2 y3 hs1 hs2 L (fun d l h s' H' v r z2 L3 m3 h3 e4 q => by
    refine cut_m (Γ := c.Γ) (M := Mm (c.at M0) m s' σ) (fun a z hn => ?_) ((mdr_mm hm).mp h3) e4 fun w H4 sm hw => q w H4 ?_ (L3.mono sm) m3 ((mdr_mm hm).mpr hw)
    · cases m with
      | now => exact z.elim
      | st => obtain ⟨o, ho, _⟩ := L3.alive z; rw [hn] at ho; cases ho
      | fr => exact hm rfl
    · have z := z2.and (q := true) (N := Own (c.at M0) s σ) (Fr.of sm) fun _ z => z
      rwa [Bool.and_true] at z) q⟩
theorem me_slF {lo hi : Option Expr} {p2 : Pos} (h : ME X c E pa .st e f) (h1 : MOp X c E pb lo fl) (h2 : MOp X c E pc hi fh) (hK : X.K = c.Γ.K := by rfl) : ME X c E (pa && (pb && pc)) .fr (.Subscript e (.Slice lo hi none p2) pos) (slM cutGL f fl fh) :=
  let ⟨_, x1, y1⟩ := h.ex; let ⟨_, x2, y2⟩ := h1.ex; let ⟨_, x3, y3⟩ := h2.ex; ⟨tSl (rSlAll c.Γ.K) _ _ _, by rw [← hK]; exact pe_slice sl_all x1 x2 x3, pu_sl y1.pu y2.pu y3.pu, fun M0 s σ H L Q q => sl_run y1 y2 y3 stS stS L (fun d l h s' H' v r z2 L3 m3 h3 e4 q => by
    have h3 : Dm c.Γ (Mo (c.at M0) s' σ) H' d v := h3
    refine cut_f (Γ := c.Γ) (M := fun a => Mo (c.at M0) s' σ a ∨ H' a = none) (Dm.anti (fun a z hn => z.elim id fun y => absurd y hn) d v h3) e4 fun x o hx t => ?_
    have sm := same_new (o := o) hx
    refine q _ _ ?_ (L3.mono sm) m3 ⟨x, rfl, L3.notMo hx, .inr (fresh_back z2 hx), (L3.plus hx).mono sm, t.anti fun b z _ => z.imp id fun w => by rw [w]; exact hx⟩
    have z := z2.and (q := true) (N := Own (c.at M0) s σ) (Fr.of sm) fun _ z => z
    rwa [Bool.and_true] at z) q⟩

/-! ### {k: v, ..} -/
def PoP (c : Ctx) (E : XK) (p : Bool) (s : S) (σ : St) (H : Hp) (Q : List (V × V) → Hp → Prop) : Out (List (Key × D)) → Prop
  | .ok ks s' => ∀ kvs H', Fr p (Own c s σ) H H' → Lv c s' σ H' → (∀ a, Own c s' σ a → Own c s σ a) → Dmk c.Γ (Mo c s' σ) H' ks kvs → Q (kvs.map fun kv => (kV kv.1, kv.2)) H'
  | .exc x s' => ∀ cls dd H', Lv c s' σ H' → Fr false (Own c s σ) H H' → (∀ a, Own c s' σ a → Own c s σ a) → Xr c s' σ x cls dd H' → E cls dd H'
  | .no => False
structure VPs (c : Ctx) (E : XK) (p : Bool) (trs : List (TE × TE)) (f : PM (List (Key × D))) : Prop where
  pu : Pu p f
  run : ∀ M0 s σ H, Lv (c.at M0) s σ H → ∀ Q, PoP (c.at M0) E p s σ H Q (f s) → tPairs trs σ H Q
structure MPs (X : Cx) (c : Ctx) (E : XK) (p : Bool) (pos : Pos) (ks : List (Option Expr)) (vs : List Expr) (f : PM (List (Key × D))) : Prop where
  ex : ∃ trs, PPs X pos ks vs trs ∧ VPs c E p trs f
def consP (fk fv : PM D) (fr : PM (List (Key × D))) : PM (List (Key × D)) := bd fk fun k => bd fv fun v => match kof k with | some k => bd fr fun r => pur ((k, v) :: r) | none => fun _ => .no
theorem mps_nil : MPs X c E true pos [] [] (pur []) := ⟨[], pps_nil, Pu.rt, fun M0 s σ H L Q q => q [] H Fr.refl L (fun _ z => z) Dmk.nil⟩
theorem mps_cons {k v : Expr} {ks : List (Option Expr)} {vs : List Expr} {fr : PM (List (Key × D))} (hk : ME X c E pa mk k fk) (hv : ME X c E pb .st v fv) (hr : MPs X c E pc pos ks vs fr) : MPs X c E (pa && (pb && pc)) pos (some k :: ks) (v :: vs) (consP fk fv fr) :=
  let ⟨_, x1, y1⟩ := hk.ex; let ⟨_, x2, y2⟩ := hv.ex; let ⟨_, x3, y3⟩ := hr.ex; ⟨_, pps_cons x1 x2 x3, y1.pu.bnd fun k => y2.pu.bnd fun v => by
    cases kof k with
    | none => exact pu_no
    | some k =>
      have z := y3.pu.bnd (q := true) (g := fun r => pur ((k, v) :: r)) fun r => Pu.rt
      rwa [Bool.and_true] at z, fun M0 s σ H L Q q => y1.run M0 s σ H L _ (by
  unfold consP at q
  cases e1 : fk s with
  | no => rw [bnd_no e1] at q; exact q
  | exc x s1 => rw [bnd_exc e1] at q; exact q
  | ok k s1 =>
    rw [bnd_ok e1] at q
    intro x H1 f1 L1 m1 h1
    refine y2.run M0 s1 σ H1 L1 _ ?_
    cases e2 : fv s1 with
    | no => rw [bnd_no e2] at q; exact q
    | exc x s2 => rw [bnd_exc e2] at q; exact exc_next (o := no) f1 m1 q
    | ok v s2 =>
      rw [bnd_ok e2] at q
      intro y H2 f2 L2 m2 h2
      refine y3.run M0 s2 σ H2 L2 _ ?_
      have f12 := f1.and f2 m1
      cases e4 : kof k with
      | none => rw [e4] at q; exact q.elim
      | some k' =>
        rw [e4] at q; dsimp only at q
        have xk := dm_kof e4 h1.no
        subst xk
        cases e3 : fr s2 with
        | no => rw [bnd_no e3] at q; exact q
        | exc x s3 => rw [bnd_exc e3] at q; exact exc_next (o := no) f12 (iff_trans m2 m1) q
        | ok r s3 =>
          rw [bnd_ok e3] at q
          intro kvs H3 f3 L3 m3 h3
          have z2 := f12.and f3 (iff_trans m2 m1)
          rw [Bool.and_assoc] at z2
          exact q ((k', y) :: kvs) H3 z2 L3 (iff_trans m3 (iff_trans m2 m1)) (Dmk.cons (h2.stay f3 m3 stS) h3))⟩
def dispM (f : PM (List (Key × D))) : PM D := bd f fun ks => if ks.length ≤ 15 then pur (.dk (mergeD [] ks)) else fun _ => .no
theorem me_disp {ks : List (Option Expr)} {vs : List Expr} {f : PM (List (Key × D))} (h : MPs X c E p pos ks vs f) (hall : ks.all (·.isSome) = true := by rfl) (hl : ks.length = vs.length := by rfl) (h0 : ks ≠ [] := by simp) (h15 : ks.length ≤ 15 := by decide) : ME X c E p .fr (.Dict ks vs pos) (dispM f) :=
  let ⟨_, x1, y1⟩ := h.ex; ⟨_, pe_disp x1 hall hl h0 h15, by
    have z := y1.pu.bnd (q := true) (g := fun ks => if ks.length ≤ 15 then pur (D.dk (mergeD [] ks)) else fun _ => Out.no) fun ks => by
      split
      · exact Pu.rt
      · exact pu_no
    rwa [Bool.and_true] at z, fun M0 s σ H L Q q b hb => by
    have LD : Lv (c.at (Vl.plus M0 b)) s σ (upd H b (.dK [])) := Lw.lay L hb trivial
    have sm0 : Same H (upd H b (.dK [])) := same_new hb
    refine y1.run (Vl.plus M0 b) s σ _ LD _ ?_
    unfold dispM at q
    cases e1 : f s with
    | no => rw [bnd_no e1] at q; exact q
    | exc x s1 =>
      rw [bnd_exc e1] at q
      refine fun cls dd H' L' f' m' xr => q cls dd H' (Lw.unaside L').lv ?_ m' ?_
      · have z := (Fr.of (p := true) (M := Own (c.at M0) s σ) sm0).and (q := false) f' fun _ z => z
        rwa [Bool.and_false] at z
      · obtain ⟨C, h1, h2, a, gs, h3, h4, h5⟩ := xr
        exact ⟨C, h1, h2, a, gs, h3, h4, Dmf.anti (fun b' z _ => (mo_plus b').mpr (.inl z)) _ _ h5⟩
    | ok ks s1 =>
      rw [bnd_ok e1] at q
      intro kvs H2 f2 L2 m2 hk
      have nb : ¬ Own (c.at (Vl.plus M0 b)) s σ b := fun z => by
        obtain ⟨j, e, h1, h2, h3⟩ := z
        obtain ⟨a, h4, h5, _⟩ := LD.own j e h2 h1
        rw [h3] at h4; cases h4
        exact h5 (.inr rfl)
      have eb : H2 b = some (.dK []) := f2.ex b _ nb upd_same
      split at q
      · rename_i hlen
        refine ⟨eb, kvs, rfl, by rw [hk.len]; exact hlen, ?_⟩
        have L3 : Lv (c.at (Vl.plus M0 b)) s1 σ (upd H2 b (.dK (mergeK [] kvs))) := L2.foreign (c := c.at (Vl.plus M0 b)) (exm_upd (.inr rfl)) fun a z => by
          by_cases w : a = b
          · subst w; exact ⟨_, upd_same, trivial⟩
          · obtain ⟨o, h1, h2⟩ := L2.m0 a z
            exact ⟨o, by rw [upd_ne w]; exact h1, h2⟩
        have lw := Lw.unaside L3
        have nMo : ¬ Mo (c.at M0) s1 σ b := fun z => by
          rcases z with z | ⟨j, e, h1, h2, h3⟩
          · obtain ⟨o, ho, _⟩ := L.m0 b z
            rw [hb] at ho; cases ho
          · obtain ⟨a, h4, h5, _⟩ := L2.own j e h2 h1
            rw [h3] at h4; cases h4
            exact h5 (.inr rfl)
        refine q _ _ ?_ lw.lv m2 ⟨b, rfl, nMo, .inr hb, lw, ?_⟩
        · cases p with
          | true =>
            have f2 : Same (upd H b (.dK [])) H2 := f2
            exact fun a o ha => by
              have w : a ≠ b := ne_of_none ha hb
              rw [upd_ne w]; exact f2 a o (by rw [upd_ne w]; exact ha)
          | false =>
            refine Fr.mk (fun a o na ha => ?_) fun a ha z => ?_
            · have w : a ≠ b := ne_of_none ha hb
              rw [upd_ne w]; exact f2.ex a o na (by rw [upd_ne w]; exact ha)
            · have w : a ≠ b := fun y => ha (y ▸ hb)
              rw [upd_ne w] at z
              exact f2.up a (by rw [upd_ne w]; exact ha) z
        · simp only [Tp]
          refine ⟨_, upd_same, ?_⟩
          have hk' : Dmk c.Γ (Vl.plus (Mo (c.at M0) s1 σ) b) H2 ks kvs := Dmk.anti (fun a z _ => (mo_plus a).mpr z) _ _ hk
          exact Dmk.mono (exm_upd (.inr rfl)) _ _ (Dmk.merge Dmk.nil hk')
      · exact q.elim⟩
end Vl

set_option Elab.async false
set_option linter.all false
set_option maxRecDepth 100000
set_option maxHeartbeats 2000000
/-! small things that the printed texts use -/
namespace Vl
open PySem PySem.Spec L2
theorem pass00 {X : Cx} {E : XK} : Passes CX0 X E := fun _ _ _ _ _ _ _ h => h.elim
theorem hu65 {A : Around} {k : Nat} (hr : Room k A) : A.units + 65 < cLine := by have := hr.un; omega
theorem hu1 {A : Around} {k : Nat} (hr : Room k A) : A.units + 1 < cLine := by have := hr.un; omega
theorem dm_wtup {Γ : KC} {M : Addr → Prop} {H : Hp} {a : Addr} {xs : List V} {ds : List D} (w : WrT Γ a xs) (h : Dms Γ M H ds xs) : Dm Γ M H (.tup ds) (.ref a) := by
  simp only [Dm]; exact ⟨a, xs, rfl, .inr w, h⟩
theorem dm_ty' {Γ : KC} {M : Addr → Prop} {H : Hp} {u : V} : Dm Γ M H (.oth u) u := by simp [Dm]
theorem law_sp {Γ : KC} {F : List D → OF} {a : Addr} {ns : List Int} {H : Hp} (hS : LsX Γ.K H a (ns.map V.int)) (h : F [.lst (ns.map .int)] = .ok (.bl true) []) : spM Γ [.st] .st F [.ref a] H (fun v _ => v = .bl true) (fun _ _ _ => False) := by
  refine ⟨no, [.lst (ns.map .int)], [], fun _ z => z.elim, List.nodup_nil, (fun _ z => nomatch z), ⟨_, [], _, [], rfl, rfl, ?_, rfl, rfl, rfl⟩, ?_⟩
  · simp only [Dm]
    refine ⟨a, _, rfl, ?_, ints_dms⟩
    rcases hS with h | h
    · exact .inl ⟨(fun z => Or.elim z id fun y => nomatch y), h⟩
    · exact .inr h
  · rw [h]
    exact fun v H' _ _ r => r.1.toB

abbrev rLenB (K : PySem.W.Frag) : RA := fun xs H Q => rLen K xs H Q ∨ ∃ a kvs, xs = [V.ref a] ∧ Rd H a (.dK kvs) ∧ Q (.int kvs.length) H
theorem call_lenB {X : Cx} : CallR X (.builtin "len") (rLenB X.K) := call_lenA.or (by
  intro pins s σ H xs us Q I r h
  obtain ⟨a, kvs, rfl, e, q⟩ := h
  obtain ⟨u, rfl, rx⟩ := vals1 r
  cases rx
  exact d_len I e fun t s' I' => ⟨.int kvs.length, H, I', ⟨t, rfl⟩, q⟩)
def lenBG : GD := fun ds => match ds with | [.dk ks] => some (.int ks.length) | _ => lenG ds
theorem cl_lenB {Γ : KC} {m : Md} : Cl Γ (rLenB Γ.K) lenBG m .st := .s fun ds vs d H hv e Q q => by
  unfold lenBG at e
  split at e
  · cases e
    obtain ⟨x, rfl, h1⟩ := hv.one
    obtain ⟨a, kvs, rfl, _, h4, h5⟩ := dm_dk h1
    exact .inr ⟨a, kvs, rfl, h4, by rw [h5.len]; exact q _ H (Same.refl _) fun _ => dm_int⟩
  · exact .inl (cl_run_s cl_len ds vs d H hv e Q q)
end Vl

set_option Elab.async false
set_option linter.all false
set_option maxRecDepth 100000
set_option maxHeartbeats 2000000
/-! chains of comparisons -/
namespace Vl
open PySem PySem.Spec L2
variable {c : Ctx} {M N : Addr → Prop} {s s' s1 s2 : S} {σ σ' σ1 σ2 : St} {H H' H0 H1 H2 : Hp} {v : V} {d : D} {i : Nat} {X : Cx} {E : XK} {e ea eb ec : Expr} {f fa fb fc : PM D} {p q pa pb pc : Bool} {m ma mb mk : Md} {t ta tb tc te : TE} {pos : Pos} {Γ : KC} {r r' : R2} {g g' : GD}
def chnK (g' : GD) (fc : PM D) (y : D) : D → PM D
  | .bl true => bd fc fun w => lft (g' [y, w])
  | .bl false => pur (.bl false)
  | _ => fun _ => .no
def chnM (g g' : GD) (fa fb fc : PM D) : PM D := bd fa fun x => bd fb fun y => bd (lft (g [x, y])) (chnK g' fc y)
theorem pu_chnK (h : Pu p fc) {y d : D} : Pu p (chnK g' fc y d) := by
  unfold chnK
  split
  · have z := h.bnd (q := true) (g := fun w => lft (g' [y, w])) fun w => Pu.lift
    rwa [Bool.and_true] at z
  · exact Pu.rt
  · exact pu_no
theorem VE.chain (ha : VE c E pa m ta fa) (hb : VE c E pb m tb fb) (hc : VE c E pc m tc fc) (hm : m ≠ .fr) (hs1 : Stay m pb) (hs2 : Stay m pc) (h : RS c.Γ (arg2 r) g) (h' : RS c.Γ (arg2 r') g') :
    VE c E (pa && (pb && pc)) .st (tChain r r' ta tb tc) (chnM g g' fa fb fc) := ⟨ha.pu.bnd fun x => hb.pu.bnd fun y => by
    have z := (Pu.lift (p := true) (o := g [x, y])).bnd (q := pc) fun d => pu_chnK (g' := g') (y := y) (d := d) hc.pu
    rwa [Bool.true_and] at z, fun M0 s σ H L Q q => ha.run M0 s σ H L _ (by
  unfold chnM at q
  cases e1 : fa s with
  | no => rw [bnd_no e1] at q; exact q
  | exc x s1 => rw [bnd_exc e1] at q; exact q
  | ok d1 s1 =>
    rw [bnd_ok e1] at q
    intro v1 H1 f1 L1 m1 h1
    refine hb.run M0 s1 σ H1 L1 _ ?_
    cases e2 : fb s1 with
    | no => rw [bnd_no e2] at q; exact q
    | exc x s2 => rw [bnd_exc e2] at q; exact exc_next (o := no) f1 m1 q
    | ok d2 s2 =>
      rw [bnd_ok e2] at q
      intro v2 H2 f2 L2 m2 h2
      have f12 := f1.and f2 m1
      have m12 := iff_trans m2 m1
      cases eg : g [d1, d2] with
      | none => rw [eg] at q; exact q.elim
      | some d =>
        rw [eg, bnd_ok lift_some] at q
        have z := h [d1, d2] [v1, v2] d H2 (Dms.cons (h1.stay f2 m2 hs1).no (Dms.cons h2.no Dms.nil)) eg (fun z H3 => ∃ k, z = .bl k ∧ (if k = true then tc σ H3 fun w' H4 => r' v2 w' H4 Q else Q (.bl false) H3)) (fun w H3 sm hw => by
          cases d with
          | bl b =>
            refine ⟨b, (hw no).toB, ?_⟩
            cases b with
            | false =>
              rw [if_neg (by decide)]
              have q : Po (c.at M0) E (pa && (pb && pc)) .st s σ H Q (.ok (.bl false) s2) := q
              refine q _ H3 ?_ (L2.mono sm) m12 mst_bl
              have z := (f12.and (q := true) (N := Own (c.at M0) s σ) (Fr.of sm) fun _ z => z).left (q := pc)
              rwa [Bool.and_true, Bool.and_assoc] at z
            | true =>
              rw [if_pos rfl]
              have q : Po (c.at M0) E (pa && (pb && pc)) .st s σ H Q (bd fc (fun w => lft (g' [d2, w])) s2) := q
              refine hc.run M0 s2 σ H3 (L2.mono sm) _ ?_
              have f13 : Fr (pa && pb) (Own (c.at M0) s σ) H H3 := by
                have z := f12.and (q := true) (N := Own (c.at M0) s σ) (Fr.of sm) fun _ z => z
                rwa [Bool.and_true] at z
              cases e3 : fc s2 with
              | no => rw [bnd_no e3] at q; exact q
              | exc x s3 => rw [bnd_exc e3] at q; exact exc_next (o := no) f13 m12 q
              | ok d3 s3 =>
                rw [bnd_ok e3] at q
                intro v3 H4 f4 L4 m4 h4
                unfold lft at q
                cases eg' : g' [d2, d3] with
                | none => rw [eg'] at q; exact q.elim
                | some d' =>
                  rw [eg'] at q
                  have h2' : Mdr (c.at M0) m s1 H1 s2 σ H3 d2 v2 := h2.stay (p := true) (Fr.of sm) (fun _ z => z) (by
                    rcases hs2 with w | ⟨w, _⟩
                    · exact .inl w
                    · exact .inr ⟨w, rfl⟩)
                  have z' := h' [d2, d3] [v2, v3] d' H4 (Dms.cons (h2'.stay f4 m4 hs2).no (Dms.cons h4.no Dms.nil)) eg' Q (fun w' H5 sm' hw' => by
                    refine q w' H5 ?_ (L4.mono sm') (iff_trans m4 m12) (hw' _)
                    have z := (f13.and f4 m12).and (q := true) (N := Own (c.at M0) s σ) (Fr.of sm') fun _ z => z
                    rwa [Bool.and_true, Bool.and_assoc] at z)
                  obtain ⟨x, y, ez, z'⟩ := z'
                  cases ez
                  exact z'
          | _ => exact q.elim)
        obtain ⟨x, y, ez, z⟩ := z
        cases ez
        exact z)⟩
theorem me_chain {op op' : CmpOp} (ho : OpR X (compareOp op) r) (ho' : OpR X (compareOp op') r') (h : Cl c.Γ (arg2 r) g .now .st) (h' : Cl c.Γ (arg2 r') g' .now .st) (ha : ME X c E pa m ea fa) (hb : ME X c E pb m eb fb) (hc : ME X c E pc m ec fc) (hs1 : Stay m pb) (hs2 : Stay m pc) (hm : m ≠ .fr := by decide)
    (hl : lastMarks [op, op'] [eb, ec] = false := by with_unfolding_all rfl) : ME X c E (pa && (pb && pc)) .st (.Compare ea [op, op'] [eb, ec] pos) (chnM g g' fa fb fc) :=
  let ⟨_, x1, y1⟩ := ha.ex; let ⟨_, x2, y2⟩ := hb.ex; let ⟨_, x3, y3⟩ := hc.ex; ⟨_, pe_chain ho ho' x1 x2 x3 hl, y1.chain y2 y3 hm hs1 hs2 (cl_run_s h) (cl_run_s h')⟩
theorem mt_chain {op op' : CmpOp} (ho : OpR X (compareOp op) r) (ho' : OpR X (compareOp op') r') (h : Cl c.Γ (arg2 r) g .now .st) (h' : Cl c.Γ (arg2 r') g' .now .st) (ha : ME X c E pa m ea fa) (hb : ME X c E pb m eb fb) (hc : ME X c E pc m ec fc) (hs1 : Stay m pb) (hs2 : Stay m pc) (hm : m ≠ .fr := by decide)
    (hl : lastMarks [op, op'] [eb, ec] = false := by with_unfolding_all rfl) : MT X c E (pa && (pb && pc)) (.Compare ea [op, op'] [eb, ec] pos) (tru (chnM g g' fa fb fc)) :=
  let ⟨_, x1, y1⟩ := ha.ex; let ⟨_, x2, y2⟩ := hb.ex; let ⟨_, x3, y3⟩ := hc.ex; ⟨_, pt_chain ho ho' x1 x2 x3 hl, (y1.chain y2 y3 hm hs1 hs2 (cl_run_s h) (cl_run_s h')).tst⟩
end Vl

set_option Elab.async false
set_option linter.all false
set_option maxRecDepth 100000
set_option maxHeartbeats 2000000
/-! how many unlike whole numbers a list has: len(set(xs)), the numbers being unlike -/
namespace Vl
open PySem PySem.Spec L2 StX
variable {c : Ctx} {M N : Addr → Prop} {H : Hp} {v : V} {d : D} {X : Cx} {E : XK} {a : Expr} {fa : PM D} {p q pos : Pos} {pa : Bool} {m mb : Md} {Γ : KC}
def lenSetG : GD := intsG fun ns => if ns.Nodup ∧ ns.length ≤ 4000 then some (.int ns.length) else none
def rLenSet (K : PySem.W.Frag) : V → Hp → VK → Prop := fun x H Q => ∃ (l : Addr) (ns : List Int), x = .ref l ∧ SqL K H l (ns.map V.int) ∧ ns.Nodup ∧ ns.length ≤ 4000 ∧ Q (.int (ns.length : Nat)) H
theorem cl_lenSet : Cl Γ (arg1 (rLenSet Γ.K)) lenSetG m .st := .s fun ds vs d H hv e Q q => by
  obtain ⟨a, ns, rfl, h1, h2⟩ := intsG_some e hv
  obtain ⟨⟨h3, h4⟩, rfl⟩ := if_some h2
  exact ⟨_, rfl, a, ns, rfl, h1, h3, h4, q _ H (Same.refl _) fun _ => dm_int⟩
theorem me_lenSet {p2 : Pos} (hg : Gl X "len") (hm : X.mg "len" = none) (hg2 : Gl X "set") (hm2 : X.mg "set" = none) (h : Cl c.Γ (arg1 (rLenSet X.K)) lenSetG m .st) (ha : ME X c E pa m a fa) (hf : m ≠ .fr := by decide) (hc : X.calm = true := by rfl)
    (na : starEach [a] X.env = (false, eval a X.env) :: starEach [] X.env := by rfl) : ME X c E pa .st (.Call (.Name "len" p) [.Call (.Name "set" p2) [a] [] q] [] pos) (op1 lenSetG fa) :=
  let ⟨_, x, y⟩ := ha.ex; ⟨_, RZ.pe_lenSetI hg hm hg2 hm2 x hc na, y.ap1 hf h⟩
@[simp] theorem lenSetG_ok {ns : List Int} (h : ns.Nodup) (hl : ns.length ≤ 4000) : lenSetG [.lst (ns.map D.int)] = some (.int ns.length) := by
  unfold lenSetG intsG
  simp [h, hl]
/-! xs[::-1] -/
theorem Dms.rev : ∀ {ds : List D} {xs : List V}, Dms Γ M H ds xs → Dms Γ M H ds.reverse xs.reverse
  | [], xs, h => by simp only [Dms] at h; subst h; exact Dms.nil
  | d :: ds, xs, h => by
    simp only [Dms] at h
    obtain ⟨x, r, rfl, h1, h2⟩ := h
    rw [List.reverse_cons, List.reverse_cons]
    exact Dms.append (Dms.rev h2) (Dms.cons h1 Dms.nil)
def revLG : GD := fun ds => match ds with | [.lst xs] => some (.lst xs.reverse) | _ => none
def rRevL (K : PySem.W.Frag) : V → Hp → VK → Prop := fun x H Q => ∃ (a : Addr) (xs : List V), x = .ref a ∧ SqL K H a xs ∧ ∀ p, H p = none → Q (.ref p) (upd H p (.lst xs.reverse))
theorem rf_revL : RF Γ (arg1 (rRevL Γ.K)) revLG := fun M ds vs d H hv e Q q => by
  unfold revLG at e
  split at e
  · cases e
    obtain ⟨x, rfl, h1⟩ := hv.one
    simp only [Dm] at h1
    obtain ⟨a, ys, rfl, h4, h5⟩ := h1
    refine ⟨_, rfl, a, ys, rfl, h4.sq, fun l hl => q _ _ hl ?_⟩
    simp only [Tp]
    exact ⟨ys.reverse, upd_same, (Dms.mono (.of (same_new hl)) _ _ h5).rev⟩
  · cases e
theorem cl_revL : Cl Γ (arg1 (rRevL Γ.K)) revLG .st .fr := .f rf_revL
theorem cl_revLN : Cl Γ (arg1 (rRevL Γ.K)) revLG m .now := .n rf_revL.rm
theorem me_revL {k : Nat} {p1 p2 p3 : Pos} (h : Cl c.Γ (arg1 (rRevL X.K)) revLG m mb) (ha : ME X c E pa m a fa) (hf : m ≠ .fr := by decide) :
    ME X c E pa mb (.Subscript a (.Slice none none (some (.UnaryOp .USub (.Constant (.int 1) k p1) p2)) p3) pos) (op1 revLG fa) :=
  let ⟨_, x, y⟩ := ha.ex; ⟨_, pe_revL x, y.ap1 hf h⟩
@[simp] theorem revLG_ok {ds : List D} : revLG [.lst ds] = some (.lst ds.reverse) := rfl
/-! (*xs, y) -/
theorem dm_items {ds : List D} (hd : Dm Γ M H d v) (e : itemsG d = some ds) : ∃ a xs, v = .ref a ∧ (SqT Γ.K H a xs ∨ SqL Γ.K H a xs) ∧ Dms Γ M H ds xs := by
  cases d <;> simp only [itemsG] at e <;> cases e <;> simp only [Dm] at hd
  · obtain ⟨a, xs, rfl, h2, h3⟩ := hd; exact ⟨a, xs, rfl, .inr h2.sq, h3⟩
  · obtain ⟨a, xs, rfl, h2, h3⟩ := hd; exact ⟨a, xs, rfl, .inl h2.sq, h3⟩
theorem Mdr.items {s s' : S} {σ : St} {H' : Hp} {ds : List D} (h : Mdr c m s H s' σ H' d v) (hm : m ≠ .fr) (e : itemsG d = some ds) : ∃ a xs, v = .ref a ∧ (SqT c.Γ.K H' a xs ∨ SqL c.Γ.K H' a xs) ∧ Mds c m s' σ H' ds xs := by
  cases m with
  | now => exact dm_items h e
  | st => exact dm_items h e
  | fr => exact absurd rfl hm
theorem Mds.app2 {s' : S} {σ : St} {H' : Hp} {ds es : List D} {vs ws : List V} (hm : m ≠ .fr) (h : Mds c m s' σ H' ds vs) (t : Mds c m s' σ H' es ws) : Mds c m s' σ H' (ds ++ es) (vs ++ ws) := by
  cases m with
  | now => exact Dms.append h t
  | st => exact Dms.append h t
  | fr => exact absurd rfl hm
def starA (fa : PM D) (fr : PM (List D)) : PM (List D) := bd fa fun x => bd (lft (itemsG x)) fun xs => bd fr fun ys => pur (xs ++ ys)
variable {s s' s1 s2 : S} {σ : St} {H1 H2 : Hp} {pb : Bool} {ta : TE}
theorem VA.star {t : TA} {f : PM (List D)} (ha : VE c E pa m ta fa) (hr : VA c E pb m t f) (hs : Stay m pb) (hm : m ≠ .fr) : VA c E (pa && pb) m (tStar c.Γ.K ta t) (starA fa f) := ⟨ha.pu.bnd fun x => by
    have z := hr.pu.bnd (q := true) (g := fun ys => pur (ys)) fun xs => Pu.rt
    have y := (Pu.lift (p := true) (o := itemsG x)).bnd (q := pb) (g := fun xs => bd f fun ys => pur (xs ++ ys)) fun xs => by
      have z := hr.pu.bnd (q := true) (g := fun ys => pur (xs ++ ys)) fun xs => Pu.rt
      rwa [Bool.and_true] at z
    rwa [Bool.true_and] at y, fun M0 s σ H L Q q => ha.run M0 s σ H L _ (by
  unfold starA at q
  cases e1 : fa s with
  | no => rw [bnd_no e1] at q; exact q
  | exc x s1 => rw [bnd_exc e1] at q; exact q
  | ok d1 s1 =>
    rw [bnd_ok e1] at q
    intro v1 H1 f1 L1 m1 h1
    cases eg : itemsG d1 with
    | none => rw [eg] at q; exact q.elim
    | some ds1 =>
      rw [eg, bnd_ok lift_some] at q
      obtain ⟨a, xs, rfl, hq, hi⟩ := Mdr.items h1 hm eg
      refine ⟨a, xs, rfl, hq, hr.run M0 s1 σ H1 L1 _ ?_⟩
      cases e2 : f s1 with
      | no => rw [bnd_no e2] at q; exact q
      | exc x s2 => rw [bnd_exc e2] at q; exact exc_next (o := no) f1 m1 q
      | ok ds s2 =>
        rw [bnd_ok e2] at q
        exact fun vs H2 f2 L2 m2 h2 => q _ H2 (f1.and f2 m1) L2 (iff_trans m2 m1) (Mds.app2 hm (hi.stay f2 m2 hs) h2))⟩
theorem ma_star {e : Expr} {es : List Expr} {f : PM (List D)} (ha : ME X c E pa m e fa) (hr : MA X c E pb m es f) (hs : Stay m pb) (hm : m ≠ .fr := by decide) (hK : X.K = c.Γ.K := by rfl) (hst : starEach (.Starred e p :: es) X.env = (true, eval e X.env) :: starEach es X.env := by rfl) :
    MA X c E (pa && pb) m (.Starred e p :: es) (starA fa f) :=
  let ⟨_, x1, y1⟩ := ha.ex; let ⟨_, x2, y2⟩ := hr.ex; ⟨_, pa_star x1 x2 hst, hK ▸ VA.star y1 y2 hs hm⟩
@[simp] theorem starA_ap {fr : PM (List D)} : starA fa fr s = bd fa (fun x => bd (lft (itemsG x)) fun xs => bd fr fun ys => pur (xs ++ ys)) s := rfl
end Vl

set_option Elab.async false
set_option linter.all false
set_option maxRecDepth 100000
set_option maxHeartbeats 2000000
/-! own classes: attributes that are read -/
namespace Vl
open PySem PySem.Spec L2 StX
variable {s s' s1 s2 : S} {σ : St} {H1 H2 : Hp} {pb : Bool} {i : Nat} {e : Expr} {pos' : Pos} {c : Ctx} {M N : Addr → Prop} {H : Hp} {v : V} {d : D} {X : Cx} {E : XK} {a : Expr} {fa : PM D} {pos : Pos} {p pa : Bool} {m mb : Md} {Γ : KC}
theorem Dmf.lookup {f : Str} : ∀ {fs : List (Str × D)} {gs : List (Str × V)} {d : D}, Dmf Γ M H fs gs → fs.lookup f = some d → ∃ v, gs.lookup f = some v ∧ Dm Γ M H d v
  | [], _, _, _, e => by cases e
  | (k, x) :: fs, gs, d, h, e => by
    simp only [Dmf] at h
    obtain ⟨y, r, rfl, h1, h2⟩ := h
    rw [List.lookup_cons] at e ⊢
    cases hk : (f == k) with
    | true =>
      rw [hk] at e
      cases e
      exact ⟨y, rfl, h1⟩
    | false =>
      rw [hk] at e
      exact Dmf.lookup h2 e
/-- each of these classes lets the attribute be read from the instance -/
def FldOk (Γ : KC) (cs : List Str) (f : Str) : Prop := ∀ C ∈ cs, ∀ A, Γ.cl C = some A → Cls Γ.K A ∧ NoAttr Γ.K A f
theorem FldOk.nil {f : Str} : FldOk Γ [] f := fun _ h => by cases h
theorem FldOk.cons {f C : Str} {A : Addr} {cs : List Str} (e : Γ.cl C = some A) (h : Cls Γ.K A) (n : NoAttr Γ.K A f) (r : FldOk Γ cs f) : FldOk Γ (C :: cs) f := fun D hD B eB => by
  rcases List.mem_cons.mp hD with rfl | hD
  · rw [e] at eB
    cases eB
    exact ⟨h, n⟩
  · exact r D hD B eB
def fldG (cs : List Str) (f : Str) : GD := fun ds => match ds with | [.ins C fs] => if C ∈ cs then fs.lookup f else none | _ => none
def rFld (K : PySem.W.Frag) (f : Str) : V → Hp → VK → Prop := fun x H Q => ∃ a C dx fs v, x = .ref a ∧ H a = some (.ins C dx fs) ∧ Cls K C ∧ NoAttr K C f ∧ fs.lookup f = some v ∧ Q v H
theorem rm_fld {cs : List Str} {f : Str} (k : FldOk Γ cs f) : RM Γ (arg1 (rFld Γ.K f)) (fldG cs f) := fun M ds vs d H hM hv e Q q => by
  unfold fldG at e
  split at e
  · split at e
    · next C fs hC =>
      obtain ⟨x, rfl, h1⟩ := hv.one
      simp only [Dm] at h1
      obtain ⟨a, A, dx, gs, rfl, hm, hA, h2, h3⟩ := h1
      obtain ⟨w, e1, h4⟩ := Dmf.lookup h3 e
      obtain ⟨k1, k2⟩ := k C hC A hA
      exact ⟨_, rfl, a, A, dx, gs, w, rfl, h2, k1, k2, e1, q w H (Same.refl _) h4⟩
    · cases e
  · cases e
theorem cl_fld {cs : List Str} {f : Str} (k : FldOk Γ cs f) : Cl Γ (arg1 (rFld Γ.K f)) (fldG cs f) .st .st := .m (rm_fld k)
theorem cl_fldN {cs : List Str} {f : Str} (k : FldOk Γ cs f) : Cl Γ (arg1 (rFld Γ.K f)) (fldG cs f) m .now := .n (rm_fld k)
theorem me_fld {cs : List Str} {f : Str} (h : Cl c.Γ (arg1 (rFld X.K f)) (fldG cs f) m mb) (ha : ME X c E pa m a fa) (hf : m ≠ .fr := by decide) (hb : attributeBase a f X.env (eval a X.env) = eval a X.env := by rfl) :
    ME X c E pa mb (.Attribute a f pos) (op1 (fldG cs f) fa) :=
  let ⟨_, x, y⟩ := ha.ex; ⟨_, pe_fld x hb, y.ap1 hf h⟩
@[simp] theorem fldG_ok {cs : List Str} {f C : Str} {fs : List (Str × D)} (h : C ∈ cs) : fldG cs f [.ins C fs] = fs.lookup f := by
  unfold fldG
  exact if_pos h
/-! self.f = e, self a slot that owns an instance -/
def fput (f : Str) (d : D) : List (Str × D) → List (Str × D)
  | [] => [(f, d)]
  | (g, x) :: r => if g = f then (g, d) :: r else (g, x) :: fput f d r
theorem Dmf.len : ∀ {fs : List (Str × D)} {gs : List (Str × V)}, Dmf Γ M H fs gs → gs.length = fs.length
  | [], gs, h => by simp only [Dmf] at h; subst h; rfl
  | (k, x) :: fs, gs, h => by
    simp only [Dmf] at h
    obtain ⟨y, r, rfl, h1, h2⟩ := h
    simp only [List.length_cons, Dmf.len h2]
theorem Dmf.put {f : Str} (hd : Dm Γ M H d v) : ∀ {fs : List (Str × D)} {gs : List (Str × V)}, Dmf Γ M H fs gs → Dmf Γ M H (fput f d fs) (putF f v gs)
  | [], gs, h => by
    simp only [Dmf] at h
    subst h
    unfold fput putF
    simp only [Dmf]
    exact ⟨v, [], rfl, hd, rfl⟩
  | (k, x) :: fs, gs, h => by
    simp only [Dmf] at h
    obtain ⟨y, r, rfl, h1, h2⟩ := h
    unfold fput putF
    by_cases hk : k = f
    · rw [if_pos hk, if_pos hk]
      simp only [Dmf]
      exact ⟨v, r, rfl, hd, h2⟩
    · rw [if_neg hk, if_neg hk]
      simp only [Dmf]
      exact ⟨y, _, rfl, h1, Dmf.put hd h2⟩
def setFG (cs : List Str) (f : Str) (o d : D) : Option D := match o with | .ins C fs => if C ∈ cs ∧ fs.length < 1000 then some (.ins C (fput f d fs)) else none | _ => none
def setF (i : Nat) (cs : List Str) (f : Str) (fv : PM D) : S → SO := fun s => match fv s with
  | .ok d s1 => (match s1[i]? with
    | some (some o) => (match setFG cs f o d with | some o' => .nx (s1.set i (some o')) | none => .no)
    | _ => .no)
  | .exc x s1 => .exc x s1
  | .no => .no
theorem rsetF_run {cs : List Str} {f : Str} {d0 vd d1 : D} {a : Addr} {vv : V} {Q : Hp → Prop} (k : FldOk Γ cs f) (hM : M a) (t : Tp Γ M H d0 a) (hv : Dm Γ M H vd vv) (e : setFG cs f d0 vd = some d1) (q : ∀ o, MutO o → Tp Γ M (upd H a o) d1 a → Q (upd H a o)) :
    ∃ C dx fs, H a = some (.ins C dx fs) ∧ Cls Γ.K C ∧ NoAttr Γ.K C f ∧ fs.length < 1000 ∧ Q (upd H a (.ins C dx (putF f vv fs))) := by
  unfold setFG at e
  split at e
  · next C fs =>
    obtain ⟨⟨h1, h2⟩, rfl⟩ := if_some e
    simp only [Tp] at t
    obtain ⟨A, dx, gs, hA, h3, h4⟩ := t
    obtain ⟨k1, k2⟩ := k C h1 A hA
    have ex : ExM M H (upd H a (.ins A dx (putF f vv gs))) := exm_upd hM
    refine ⟨A, dx, gs, h3, k1, k2, by rw [h4.len]; exact h2, q _ trivial ?_⟩
    simp only [Tp]
    exact ⟨A, dx, _, hA, upd_same, Dmf.put (Dm.mono ex _ _ hv) (Dmf.mono ex _ _ h4)⟩
  · cases e
theorem vs_setF {tv : TE} {fv : PM D} {cs : List Str} {f : Str} (k : FldOk c.Γ cs f) (hv : VE c E pa .st tv fv) (ho : c.ow i = true) : VS c E m (sFld c.Γ.K (tVar i) tv f) (setF i cs f fv) := ⟨fun M0 s σ H L D0 q => hv.run M0 s σ H L _ (by
  unfold setF at q
  cases e1 : fv s with
  | no => rw [e1] at q; exact q
  | exc x s1 => rw [e1] at q; exact exc_fo q
  | ok d s1 =>
    rw [e1] at q; dsimp only at q
    intro v H1 f1 L1 m1 h1
    cases e2 : s1[i]? with
    | none => rw [e2] at q; exact q.elim
    | some x1 =>
      cases x1 with
      | none => rw [e2] at q; exact q.elim
      | some o =>
        rw [e2] at q; dsimp only at q
        obtain ⟨a, ea, na, t1⟩ := L1.own i o e2 ho
        cases e5 : setFG cs f o d with
        | none => rw [e5] at q; exact q.elim
        | some o' =>
          rw [e5] at q; dsimp only at q
          have hw : Own (c.at M0) s1 σ a := ⟨i, _, ho, e2, ea⟩
          obtain ⟨C, dx, fs, z1, z2, z3, z4, z5⟩ := rsetF_run (Γ := c.Γ) (M := Mo (c.at M0) s1 σ) (Q := fun H3 => D0.nx σ H3) k (.inr hw) t1 h1 e5 fun ob mo t3 => by
            refine q σ _ (L1.put (c := c.at M0) (o := ob) ho e2 ea mo t3).lv ((Fo.of f1 m1).trans ⟨exm_upd hw, fun b hb z => ?_, fun b z => .inl ((own_put e2 b).mp z)⟩)
            by_cases y : b = a
            · subst y; rw [upd_same] at z; cases z
            · rw [upd_ne y] at z; exact hb z
          exact ⟨_, ea, a, C, dx, fs, rfl, z1, z2, z3, z4, z5⟩)⟩
theorem ms_setF {o : Expr} {fv : PM D} {cs : List Str} {f : Str} (k : FldOk c.Γ cs f) (ho : PE X o (tVar i)) (hv : ME X c E pa .st e fv) (hw : c.ow i = true := by rfl) (hK : X.K = c.Γ.K := by rfl) (hs : swapsWith e (some (.Attribute o f pos')) pos.line X.env = pure false := by rfl) :
    MS X c E m (.Assign [.Attribute o f pos'] e pos) (setF i cs f fv) :=
  let ⟨_, x2, y2⟩ := hv.ex; ⟨_, ps_fld ho x2 hs, hK ▸ vs_setF k y2 hw⟩
/-! C(..) -/
def mkM (C : Str) (n : Nat) (F : List D → OF) (fl : PM (List D)) : PM D := fun s => match fl s with
  | .ok ds s1 => if ds.length = n then (match F (.ins C [] :: ds) with | .ok .non [o] => .ok o s1 | .exc x _ => if noMf x.fs = true then .exc x s1 else .no | _ => .no) else .no
  | .exc x s1 => .exc x s1
  | .no => .no
theorem pu_make {C : Str} {n : Nat} {F : List D → OF} {fl : PM (List D)} (h : Pu p fl) : Pu p (mkM C n F fl) := fun hp s d s' e => by
  unfold mkM at e
  cases e1 : fl s with
  | no => rw [e1] at e; cases e
  | exc x s1 => rw [e1] at e; cases e
  | ok ds s1 =>
    rw [e1] at e; dsimp only at e
    have := h hp s ds s1 e1
    subst this
    split at e
    · split at e
      · cases e; rfl
      · revert e; split <;> (intro e; cases e)
      · cases e
    · cases e
theorem ve_make {C : Addr} {Cn : Str} {n : Nat} {F : List D → OF} {tl : TA} {fl : PM (List D)} (hC : c.Γ.cl Cn = some C) (h : VA c E p .st tl fl) : VE c E p .fr (tMakeR C (spM c.Γ (.fr :: List.replicate n .st) .st F) E tl) (mkM Cn n F fl) := ⟨pu_make h.pu, fun M0 s σ H L Q q => h.run M0 s σ H L _ (by
  unfold mkM at q
  cases e1 : fl s with
  | no => rw [e1] at q; exact q
  | exc x s1 => rw [e1] at q; exact q
  | ok ds s1 =>
    rw [e1] at q; dsimp only at q
    intro vs H1 f1 L1 m1 h1 x dx hx hdx hne
    split at q
    · rename_i hn
      have same : Same H1 (upd (upd H1 dx (.own x)) x (.ins C dx [])) := fun a o ha => by
        have n1 : a ≠ x := ne_of_none ha hx
        have n2 : a ≠ dx := ne_of_none ha hdx
        rw [upd_ne n1, upd_ne n2]; exact ha
      have fr : ∀ {H3}, ExM (fun b => b ∈ [x]) (upd (upd H1 dx (.own x)) x (.ins C dx [])) H3 → Same H1 H3 := fun {H3} ex a o ha => ex a o (by simp; exact ne_of_none ha hx) (same a o ha)
      have frm : ∀ {H'}, Same H1 H' → Fr p (Own (c.at M0) s σ) H H' := fun {H'} z => by
        have z2 := f1.and (q := true) (N := Own (c.at M0) s σ) (Fr.of z) fun _ z => z
        rwa [Bool.and_true] at z2
      have sb : Sub H1 (plusL (Mo (c.at M0) s1 σ) [x]) (Mo (c.at M0) s1 σ) := fun b z hb => by
        rcases z with z | z
        · exact z
        · simp only [List.mem_singleton] at z
          subst z
          exact absurd hx hb
      refine ⟨Mo (c.at M0) s1 σ, .ins Cn [] :: ds, [x], fun b z => (L1.mono same).alive z, by simp, fun a ha z => ?_, ?_, ?_⟩
      · simp only [List.mem_singleton] at ha
        subst ha
        exact L1.notMo hx z
      · have z := bd_all (Γ := c.Γ) (M := plusL (Mo (c.at M0) s1 σ) [x]) (H := upd (upd H1 dx (.own x)) x (.ins C dx [])) (ds := ds) (vs := vs) (Dms.mono (.of same) ds vs (Dms.anti sb ds vs h1))
        rw [map_const hn] at z
        refine ⟨_, ds, x, vs, [], rfl, rfl, rfl, ?_, z⟩
        simp only [Tp]
        exact ⟨C, dx, [], hC, upd_same, by simp only [Dmf]⟩
      · cases e2 : F (.ins Cn [] :: ds) with
        | no => rw [e2] at q; exact q
        | exc y o =>
          rw [e2] at q; dsimp only at q
          split at q
          · next hy =>
            exact fun cls dd H3 ex up _ xr => q cls dd H3 (L1.mono (fr ex)) (Fr.weak (frm (fr ex))) m1 (by
              obtain ⟨B, z1, z2, a, gs, z3, z4, z5⟩ := xr
              exact ⟨B, z1, z2, a, gs, z3, z4, Dmf.keep (fun b y => (L1.mono (fr ex)).alive y) hy z5⟩)
          · exact q.elim
        | ok r outs =>
          rw [e2] at q
          intro v H3 ex up rs
          obtain ⟨r1, r2⟩ := rs
          cases r with
          | non =>
            obtain ⟨o, r, rfl, t, r3⟩ := r2
            cases r with
            | nil =>
              simp only [Dm] at r1
              subst r1
              exact ⟨rfl, q _ H3 (frm (fr ex)) (L1.mono (fr ex)) m1 ⟨x, rfl, L1.notMo hx, .inr (fresh_back f1 hx), (L1.plus hx).mono (fr ex), t.anti fun b z _ => z.elim .inl fun y => .inr (by rw [y]; simp)⟩⟩
            | cons _ _ => exact q.elim
          | _ => exact q.elim
    · exact q.elim)⟩
section
variable {CX : CXT} {k : Nat} {C f : Addr} {fd : FuncData} {ps : List Str} {sp : Sp} {dvs : List V} {ds : List Value} {x : Str} {p0 : Pos} {es : List Expr} {t : TA}
theorem run_makeG {pins : List (Addr × Obj)} {σ : L2.St} {H : Hp} {s : Shared} {Q : VK} {us : List Value} {vs : List V} (M : L2.Mk X.K C f) (F : FnG X.prog X.w X.K X.mg X.base CX k f fd ps sp) (hG : NoRepr X) (hr : Room (k + 1) X.A) (hb : Binds X.K fd ps [])
    (hx : Passes CX X E) (I : Inv X pins σ H s) (r : Vals vs us)
    (h : ∀ x dx, H x = none → H dx = none → dx ≠ x → sp (.ref x :: vs) (upd (upd H dx (.own x)) x (.ins C dx [])) (fun v H2 => v = .non ∧ Q (.ref x) H2) E) :
    wpAny (model X.prog X.w) X.A (call (.ref C) us) (EP X pins σ Q) X.xe s := by
  have hq := h (s.heap.objs.size + 1) s.heap.objs.size (I.hok.fresh (Nat.le_succ _)) (I.hok.fresh (Nat.le_refl _)) (Nat.ne_of_lt (Nat.lt_succ_self _))
  have I2 := Inv.made (C := C) I
  have r2 : Vals (V.ref (s.heap.objs.size + 1) :: vs) (Value.ref (s.heap.objs.size + 1) :: us) := .cons rfl r
  have hl : ((Value.ref (s.heap.objs.size + 1) :: us) ++ []).length = ps.length := by
    have e := r2.length
    rw [F.ln _ _ _ _ hq] at e
    rw [List.append_nil]
    exact e.symm
  have hbb := hb _ (Value.ref (s.heap.objs.size + 1) :: us) I2.kIn hl
  rw [List.append_nil] at hbb
  refine wpAny_call (make_map (f := f) I.kIn M.makes M.init (beq_iff_eq.mp M.fn) (codeAny_mono (F.go _ X.stack _ _ ⟨Value.ref (s.heap.objs.size + 1) :: us, []⟩ (Value.ref (s.heap.objs.size + 1) :: us) _ _ E hG (hr.make C us [])
    (I2.env0.make C us []) hbb r2 hq) fun r s' hq' => ?_))
  cases r with
  | error e => exact hx pins σ _ _ e s' I2 hq'
  | ok fl =>
    cases fl with
    | ret u =>
      obtain ⟨v, H', I3, rv, ev, q3⟩ := I2.after hq'
      subst ev
      exact ⟨rv, ⟨V.ref (s.heap.objs.size + 1), H', I3, rfl, q3⟩⟩
    | next => exact False.elim hq'
    | brk => exact False.elim hq'
    | cont => exact False.elim hq'
theorem pe_makeG (M : L2.Mk X.K C f) (F : FnG X.prog X.w X.K X.mg X.base CX k f fd ps sp) (hG : NoRepr X) (hr : Room (k + 1) X.A) (hg : Gl X x) (hm : X.mg x = some (.ref C)) (hb : Binds X.K fd ps []) (hx : Passes CX X E) (ha : PA X (e :: es) t) (hdb : (x == ("__debug__" : Str)) = false := by decide)
    (he : starEach (e :: es) X.env = (false, eval e X.env) :: starEach es X.env := by rfl) (hpl : (backTo pos (starEach es X.env)).any (·.1) = false := by rfl) : PE X (.Call (.Name x p0) (e :: es) [] pos) (tMakeR C sp E t) := by
  refine ⟨fun pins s σ H Q I h => ?_⟩
  refine wpAny_Call_Name_kw (ld_glob I hg hm ?_ hdb)
  refine PySem.W.callWith_K (h₀ := X.base) I.ok.mod.kin M.kp (thn (ha.run pos pins s σ H _ I h) fun us s1 ⟨vs, H1, I1, r, q⟩ => ⟨I1.kIn, ?_⟩) he hpl
  exact run_makeG M F hG hr hb hx I1 r q
theorem me_make {Cn : Str} {n : Nat} {F : List D → OF} {fl : PM (List D)} (M : L2.Mk X.K C f) (G : FnG X.prog X.w X.K X.mg X.base CX k f fd ps (spM c.Γ (.fr :: List.replicate n .st) .st F)) (hG : NoRepr X) (hr : Room (k + 1) X.A) (hg : Gl X x) (hm : X.mg x = some (.ref C)) (hb : Binds X.K fd ps []) (hx : Passes CX X E)
    (hC : c.Γ.cl Cn = some C) (ha : MA X c E p .st (e :: es) fl) (hdb : (x == ("__debug__" : Str)) = false := by decide)
    (he : starEach (e :: es) X.env = (false, eval e X.env) :: starEach es X.env := by rfl) (hpl : (backTo pos (starEach es X.env)).any (·.1) = false := by rfl) : ME X c E p .fr (.Call (.Name x p0) (e :: es) [] pos) (mkM Cn n F fl) :=
  let ⟨_, x1, y1⟩ := ha.ex; ⟨_, pe_makeG M G hG hr hg hm hb hx x1 hdb he hpl, ve_make hC y1⟩
end
/-! o.m(..), o data -/
section
variable {CX : CXT} {k : Nat} {C f : Addr} {fd : FuncData} {ps : List Str} {sp : Sp} {x : Str} {apos : Pos} {es : List Expr} {t : TA} {ta : TE} {o : Expr} {mn : Str} {Cn : Str}
theorem pe_methG {pl : Sem Bool} (he : PE X o ta) (c : Cls X.K C) (hm : Meth X.K C mn f) (F : FnG X.prog X.w X.K X.mg X.base CX k f fd ps sp) (hG : NoRepr X) (hr : Room k X.A) (hb : Binds X.K fd ps []) (hx : Passes CX X E) (ha : PA X (e :: es) t)
    (hst : starEach (e :: es) X.env = (false, eval e X.env) :: starEach es X.env := by rfl) (hpl : (backTo pos (starEach es X.env)).any (·.1) = false := by rfl)
    (ht : eval (.Call (.Attribute o mn apos) (e :: es) [] pos) X.env = (do
      let ov ← eval o X.env
      standAt apos.atName
      let (f, first) ← holding [ov] (getMethod ov mn pl)
      callWith pos f first (backTo pos (starEach (e :: es) X.env)) (backToKw pos (keywordEach [] X.env))) := by rfl) :
    PE X (.Call (.Attribute o mn apos) (e :: es) [] pos) (tMeth C mn sp [] E ta t) := by
  refine ⟨fun pins s σ H Q I h => ?_⟩
  refine PySem.W.methodCall_KW (pl := pl) (thn (he.run pins s σ H _ I h) fun u s1 ⟨x, H1, I1, rx, a, dx, fs, ex, ea, l, q⟩ => ?_) ht
  subst ex
  obtain rfl : u = Value.ref a := rx
  refine getmeth_ok I1 ea c hm l ?_
  refine PySem.W.callWith_K (first := [.ref a]) (h₀ := X.base) I.ok.mod.kin hm.kp (thn (ha.run pos pins s1 σ H1 _ I1 q) fun us s2 ⟨vs, H2, I2, r, q2⟩ => ⟨I2.kIn, ?_⟩) hst hpl
  exact run_fnG (us := .ref a :: us) (vs := .ref a :: vs) F hG hr hb .nil hx I2 (.cons rfl r) q2
theorem pe_methG0 {pl : Sem Bool} (he : PE X o ta) (c : Cls X.K C) (hm : Meth X.K C mn f) (F : FnG X.prog X.w X.K X.mg X.base CX k f fd ps sp) (hG : NoRepr X) (hr : Room k X.A) (hb : Binds X.K fd ps []) (hx : Passes CX X E)
    (ht : eval (.Call (.Attribute o mn apos) [] [] pos) X.env = (do
      let ov ← eval o X.env
      standAt apos.atName
      let (f, first) ← holding [ov] (getMethod ov mn pl)
      callWith pos f first (backTo pos (starEach [] X.env)) (backToKw pos (keywordEach [] X.env))) := by rfl) :
    PE X (.Call (.Attribute o mn apos) [] [] pos) (tMeth C mn sp [] E ta tNil) := by
  refine ⟨fun pins s σ H Q I h => ?_⟩
  refine PySem.W.methodCall_KW (pl := pl) (thn (he.run pins s σ H _ I h) fun u s1 ⟨x, H1, I1, rx, a, dx, fs, ex, ea, l, q⟩ => ?_) ht
  subst ex
  obtain rfl : u = Value.ref a := rx
  refine getmeth_ok I1 ea c hm l ?_
  exact PySem.W.callWith_K0 (first := [.ref a]) I1.kIn hm.kp (run_fnG (us := [.ref a]) (vs := [.ref a]) F hG hr hb .nil hx I1 (.cons rfl .nil) q)
def insG (Cn mn : Str) : GD := fun ds => match ds with | [.ins B fs] => if B = Cn ∧ fs.lookup mn = none then some (.ins B fs) else none | _ => none
def rIns (C : Addr) (mn : Str) : V → Hp → VK → Prop := fun x H Q => ∃ a dx fs, x = .ref a ∧ H a = some (.ins C dx fs) ∧ fs.lookup mn = none ∧ Q x H
theorem Dmf.lookN {f : Str} : ∀ {fs : List (Str × D)} {gs : List (Str × V)}, Dmf Γ M H fs gs → fs.lookup f = none → gs.lookup f = none
  | [], gs, h, _ => by simp only [Dmf] at h; subst h; rfl
  | (k, x) :: fs, gs, h, e => by
    simp only [Dmf] at h
    obtain ⟨y, r, rfl, h1, h2⟩ := h
    rw [List.lookup_cons] at e ⊢
    cases hk : (f == k) with
    | true => rw [hk] at e; cases e
    | false => rw [hk] at e; exact Dmf.lookN h2 e
theorem rm_ins (hC : Γ.cl Cn = some C) : RM Γ (arg1 (rIns C mn)) (insG Cn mn) := fun M ds vs d H hM hv e Q q => by
  unfold insG at e
  split at e
  · next B fs =>
    obtain ⟨⟨h1, h2⟩, rfl⟩ := if_some e
    subst h1
    obtain ⟨x, rfl, h1⟩ := hv.one
    have h0 := h1
    simp only [Dm] at h1
    obtain ⟨a, A, dx, gs, rfl, hm, hA, h4, h3⟩ := h1
    rw [hC] at hA
    cases hA
    exact ⟨_, rfl, a, dx, gs, rfl, h4, Dmf.lookN h3 h2, q _ H (Same.refl _) h0⟩
  · cases e
theorem me_meth {pl : Sem Bool} {n : Nat} {F : List D → OF} {fl : PM (List D)} {ma : Md} (c1 : Cls X.K C) (hm : Meth X.K C mn f) (G : FnG X.prog X.w X.K X.mg X.base CX k f fd ps (spM c.Γ (List.replicate n .st) m F)) (hG : NoRepr X) (hr : Room k X.A) (hb : Binds X.K fd ps []) (hx : Passes CX X E)
    (hC : Cl c.Γ (arg1 (rIns C mn)) (insG Cn mn) ma ma) (ck : CK ma m mb) (ho : ME X c E pa ma o fa) (ha : MA X c E pb ma (e :: es) fl) (hs : Stay ma pb) (hf : ma ≠ .fr := by decide)
    (hst : starEach (e :: es) X.env = (false, eval e X.env) :: starEach es X.env := by rfl) (hpl : (backTo pos (starEach es X.env)).any (·.1) = false := by rfl)
    (ht : eval (.Call (.Attribute o mn apos) (e :: es) [] pos) X.env = (do
      let ov ← eval o X.env
      standAt apos.atName
      let (f, first) ← holding [ov] (getMethod ov mn pl)
      callWith pos f first (backTo pos (starEach (e :: es) X.env)) (backToKw pos (keywordEach [] X.env))) := by rfl) :
    ME X c E (pa && pb) mb (.Call (.Attribute o mn apos) (e :: es) [] pos) (callM n F (consA (op1 (insG Cn mn) fa) fl)) :=
  let ⟨_, x1, y1⟩ := ho.ex; let ⟨_, x2, y2⟩ := ha.ex; ⟨_, pe_methG x1 c1 hm G hG hr hb hx x2 hst hpl ht, ve_call (VA.cons (y1.ap1 hf hC) y2 hs hf) ck.out⟩
theorem me_meth0 {pl : Sem Bool} {n : Nat} {F : List D → OF} {ma : Md} (c1 : Cls X.K C) (hm : Meth X.K C mn f) (G : FnG X.prog X.w X.K X.mg X.base CX k f fd ps (spM c.Γ (List.replicate n .st) m F)) (hG : NoRepr X) (hr : Room k X.A) (hb : Binds X.K fd ps []) (hx : Passes CX X E)
    (hC : Cl c.Γ (arg1 (rIns C mn)) (insG Cn mn) ma ma) (ck : CK ma m mb) (ho : ME X c E pa ma o fa) (hf : ma ≠ .fr := by decide) (hs : Stay ma true)
    (ht : eval (.Call (.Attribute o mn apos) [] [] pos) X.env = (do
      let ov ← eval o X.env
      standAt apos.atName
      let (f, first) ← holding [ov] (getMethod ov mn pl)
      callWith pos f first (backTo pos (starEach [] X.env)) (backToKw pos (keywordEach [] X.env))) := by rfl) :
    ME X c E (pa && true) mb (.Call (.Attribute o mn apos) [] [] pos) (callM n F (consA (op1 (insG Cn mn) fa) (pur []))) :=
  let ⟨_, x1, y1⟩ := ho.ex; ⟨_, pe_methG0 x1 c1 hm G hG hr hb hx ht, ve_call (VA.cons (y1.ap1 hf hC) (VA.nil hf) hs hf) ck.out⟩
theorem cl_ins (hC : Γ.cl Cn = some C) : Cl Γ (arg1 (rIns C mn)) (insG Cn mn) .st .st := .m (rm_ins hC)
theorem cl_insN (hC : Γ.cl Cn = some C) : Cl Γ (arg1 (rIns C mn)) (insG Cn mn) m .now := .n (rm_ins hC)
end
/-! isinstance(x, C), C an own class -/
structure ClsT (K : PySem.W.Frag) (C : Addr) : Prop where
  cl : Cls K C
  ha : PySem.W.findIn K (.ref C) "__class__" = some (some (.builtin "object.__class__"))
  hn : PySem.W.specialIn K (.builtin "object.__class__") "__get__" = some (some (.builtin "getset_descriptor.__get__"))
  htk : PySem.W.takesIn K (.builtin "object.__class__") = some true
  hm : PySem.W.mroIn K C (.type "object") = some true
def tyNs : List String := ["NoneType", "bool", "int", "str", "list", "tuple", "dict"]
theorem tyD_in {n : String} (h : tyD d = some n) : n ∈ tyNs := by
  cases d <;> simp only [tyD] at h <;> cases h <;> decide
structure IsiOk (Γ : KC) (A : Addr) (ans : Str → Option Bool) : Prop where
  own : ∀ B b, ans B = some b → ∃ C, Γ.cl B = some C ∧ ClsT Γ.K C ∧ PySem.W.kitOne Γ.K (.ref C) (.ref A) = some b
  ty : ∀ n ∈ tyNs, PySem.W.kitOne Γ.K (.type n) (.ref A) = some false
def isiOG (A : Addr) (ans : Str → Option Bool) : GD := fun ds => match ds with
  | [.ins B _, .oth (.ref a)] => if a = A then (ans B).map .bl else none
  | [d, .oth (.ref a)] => if a = A ∧ isDt d = false then (tyD d).map fun _ => .bl false else none
  | _ => none
theorem cl_isiO {A : Addr} {ans : Str → Option Bool} (k : IsiOk Γ A ans) : Cl Γ (rIsi Γ.K) (isiOG A ans) m .st := .s fun ds vs d H hv e Q q => by
  unfold isiOG at e
  split at e
  · next B fs a =>
    split at e
    · next ha =>
      subst ha
      obtain ⟨b, e2, rfl⟩ := Option.map_eq_some_iff.mp e
      obtain ⟨C, hC, t, e3⟩ := k.own B b e2
      obtain ⟨x, r, rfl, h1, h2⟩ := hv.uncons
      obtain ⟨y, rfl, h3⟩ := h2.one
      simp only [Dm] at h1
      obtain ⟨p, C', dx, gs, rfl, _, hC', h4, _⟩ := h1
      rw [hC] at hC'
      cases hC'
      exact ⟨_, .ref a, _, _, b, by rw [h3.toO], .own a, .base (.ins h4 t.cl t.ha t.hn t.htk t.hm), e3, q _ H (Same.refl _) fun _ => dm_bl⟩
    · cases e
  · next d a _ =>
    split at e
    · next ha =>
      obtain ⟨rfl, hd⟩ := ha
      obtain ⟨t, e1, rfl⟩ := Option.map_eq_some_iff.mp e
      obtain ⟨x, r, rfl, h1, h2⟩ := hv.uncons
      obtain ⟨y, rfl, h3⟩ := h2.one
      exact ⟨x, .ref a, _, _, false, by rw [h3.toO], .own a, dm_ty h1 e1 (isDt_ne hd), k.ty t (tyD_in e1), q _ H (Same.refl _) fun _ => dm_bl⟩
    · cases e
  · cases e
end Vl

set_option Elab.async false
set_option linter.all false
set_option maxRecDepth 100000
set_option maxHeartbeats 2000000
/-! list(d.items()), sorted(d.items()), sorted of a dict's keys, sorted of pairs -/
namespace Vl
open PySem PySem.Spec PyProof.Rows L2
variable {c : Ctx} {M N : Addr → Prop} {H H' : Hp} {v : V} {d : D} {X : Cx} {E : XK} {e a : Expr} {fa : PM D} {p q pos apos cpos : Pos} {pa : Bool} {m mb : Md} {Γ : KC} {te : TE}

/-! ### pairs of ints in their order -/
def lexLe (p q : Int × Int) : Bool := !(SrtO.lexB q p)
def srtP (ps : List (Int × Int)) : List (Int × Int) := ps.mergeSort lexLe
theorem lexLe_iff {p q : Int × Int} : lexLe p q = true ↔ p.1 < q.1 ∨ (p.1 = q.1 ∧ p.2 ≤ q.2) := by
  unfold lexLe
  rw [Bool.not_eq_true', SrtO.lexB_no]
  omega
theorem lexLe_uniq {as bs : List (Int × Int)} (h : as.Perm bs) (h1 : as.Pairwise fun p q => lexLe p q = true) (h2 : bs.Pairwise fun p q => lexLe p q = true) : as = bs :=
  h.eq_of_pairwise (le := fun p q => lexLe p q = true) (fun a b _ _ x y => by
    have x := lexLe_iff.mp x
    have y := lexLe_iff.mp y
    exact Prod.ext (by omega) (by omega)) h1 h2
theorem srtP_sorted (ps : List (Int × Int)) : (srtP ps).Pairwise fun p q => lexLe p q = true :=
  List.pairwise_mergeSort (le := lexLe) (fun a b c h1 h2 => by rw [lexLe_iff] at *; omega) (fun a b => by rw [Bool.or_eq_true, lexLe_iff, lexLe_iff]; omega) ps
theorem srtP_perm (ps : List (Int × Int)) : (srtP ps).Perm ps := List.mergeSort_perm ps _
theorem srtP_uniq {as bs : List (Int × Int)} (h : as.Perm bs) (h1 : as.Pairwise fun p q => lexLe p q = true) : as = srtP bs := lexLe_uniq (h.trans (srtP_perm bs).symm) h1 (srtP_sorted bs)
theorem lexLe_of {p q : Int × Int} (h : SrtO.lexB q p = false) : lexLe p q = true := by unfold lexLe; rw [h]; rfl

/-! ### what pair a value is -/
theorem isPair_inj {h : Heap} {v : Value} {i j i' j' : Int} (h1 : Srt.IsPair h v i j) (h2 : Srt.IsPair h v i' j') : i = i' ∧ j = j' := by
  obtain ⟨a, o, t, u, n, rfl, ho, hc, hd⟩ := h1
  obtain ⟨a', o', t', u', n', e, ho', hc', hd'⟩ := h2
  cases e
  rw [ho] at ho'; cases ho'
  rw [hd] at hd'
  cases hd'
  exact ⟨rfl, rfl⟩
open Classical in
noncomputable def pairOf (h : Heap) (v : Value) : Int × Int := if e : ∃ p : Int × Int, Srt.IsPair h v p.1 p.2 then e.choose else (0, 0)
theorem pairOf_eq {h : Heap} {v : Value} {p : Int × Int} (e : Srt.IsPair h v p.1 p.2) : pairOf h v = p := by
  have x : ∃ p : Int × Int, Srt.IsPair h v p.1 p.2 := ⟨p, e⟩
  unfold pairOf
  rw [dif_pos x]
  obtain ⟨e1, e2⟩ := isPair_inj x.choose_spec e
  exact Prod.ext e1 e2
theorem pairOf_is {h : Heap} {v : Value} {p : Int × Int} (e : Srt.IsPair h v p.1 p.2) : Srt.IsPair h v (pairOf h v).1 (pairOf h v).2 := by rw [pairOf_eq e]; exact e
abbrev PrsV (h : Heap) : List Value → List (Int × Int) → Prop := Paired fun v p => Srt.IsPair h v p.1 p.2
theorem prs_map {h : Heap} : ∀ {its : List Value} {ps : List (Int × Int)}, PrsV h its ps → ps = its.map (pairOf h) ∧ ∀ v ∈ its, Srt.IsPair h v (pairOf h v).1 (pairOf h v).2
  | _, _, .nil => ⟨rfl, fun _ z => by simp at z⟩
  | _, _, .cons r t => by
    obtain ⟨e, f⟩ := prs_map t
    refine ⟨by rw [List.map_cons, pairOf_eq r, e], fun v hv => ?_⟩
    rcases List.mem_cons.mp hv with z | z
    · subst z; exact pairOf_is r
    · exact f v z
/-- the sorted ones, with their pairs -/
theorem prs_out {h : Heap} {its out : List Value} {ps : List (Int × Int)} {xs : List V} (hp : PrsV h its ps) (e1 : xs = its.map backV) (h1 : SrtO.Srtd (fun v u => SrtO.lexB (pairOf h v) (pairOf h u)) out) (h2 : SrtO.Stb (fun v u => SrtO.lexB (pairOf h v) (pairOf h u)) out its) :
    ∃ zs : List (V × (Int × Int)), zs = out.map (fun v => (backV v, pairOf h v)) ∧ zs.Perm (xs.zip ps) ∧ (zs.map (·.2)).Pairwise (fun p q => lexLe p q = true) ∧ zs.map (·.1) = out.map backV := by
  refine ⟨_, rfl, ?_, ?_, ?_⟩
  · have e : xs.zip ps = its.map fun v => (backV v, pairOf h v) := by rw [e1, (prs_map hp).1, List.zip_map']
    rw [e]
    exact h2.perm.map _
  · rw [List.map_map]
    exact List.pairwise_map.mpr (h1.imp fun {x y} z => lexLe_of z)
  · rw [List.map_map]; rfl

/-! ### sorted(xs), xs a list of pairs of ints -/
abbrev PrsX (K : PySem.W.Frag) (H : Hp) : List V → List (Int × Int) → Prop := Paired fun x p => ∃ t, x = V.ref t ∧ SqT K H t [.int p.1, .int p.2]
theorem prs_of {pins : List (Addr × Obj)} {σ : L2.St} {s : Shared} (I : Inv X pins σ H s) : ∀ {xs : List V} {its : List Value} {ps : List (Int × Int)}, Vals xs its → PrsX X.K H xs ps → PrsV s.heap its ps
  | _, _, _, .nil, .nil => .nil
  | _, _, _, .cons r t, .cons h t' => .cons (by
      obtain ⟨a, e, h⟩ := h
      subst e
      cases r
      obtain ⟨its, rv, ⟨o, ho, hc, n, hd⟩, _⟩ := I.tuple h
      obtain ⟨u1, u2, rfl, ri, rj⟩ := vals2 rv
      obtain ⟨t1, rfl⟩ := ri
      obtain ⟨t2, rfl⟩ := rj
      exact ⟨a, o, t1, t2, n, rfl, ho, hc, hd⟩) (prs_of I t t')
theorem prs_refs {K : PySem.W.Frag} : ∀ {xs : List V} {ps : List (Int × Int)}, PrsX K H xs ps → ∀ x ∈ xs, ∃ a, x = V.ref a
  | _, _, .nil, _, z => by simp at z
  | _, _, .cons h t, x, z => by
    rcases List.mem_cons.mp z with e | e
    · subst e; obtain ⟨a, e, _⟩ := h; exact ⟨a, e⟩
    · exact prs_refs t x e
def rSortedPT (K : PySem.W.Frag) : RA := fun vs H Q => ∃ (a : Addr) (xs : List V) (ps : List (Int × Int)), vs = [V.ref a] ∧ SqL K H a xs ∧ PrsX K H xs ps ∧
  ∀ (zs : List (V × (Int × Int))) (p : Addr), zs.Perm (xs.zip ps) → (zs.map (·.2)).Pairwise (fun p q => lexLe p q = true) → H p = none → Q (.ref p) (upd H p (.lst (zs.map (·.1))))
theorem cr_sortedPT : CallR X (.builtin "sorted") (rSortedPT X.K) := by
  intro pins s σ H vs us Q I r h
  obtain ⟨a, xs, ps, rfl, hs, hx, q⟩ := h
  obtain ⟨its, rv, hl, hz⟩ := I.list hs
  obtain ⟨u, rfl, ru⟩ := vals1 r
  obtain rfl : u = Value.ref a := ru
  obtain ⟨e1, e2⟩ := refs_back rv (prs_refs hx)
  have hp := prs_of I rv hx
  refine SrtO.sorted_pairsO (k := pairOf s.heap) hl.isList (by rw [← rv.length]; exact hz) (prs_map hp).2 fun h' d out h1 h2 kp hd hn => ?_
  have h3 : ∀ u ∈ out, ∃ a, u = Value.ref a := fun u hu => e2 u (h2.perm.mem_iff.mp hu)
  obtain ⟨n, hn⟩ := hn
  obtain ⟨zs, ez, p1, p2, p3⟩ := prs_out hp e1 h1 h2
  refine ⟨.ref d, upd H d (.lst (out.map backV)), I.laid (t' := s.toks) kp hd ⟨?_, out, n, vals_back h3, hn⟩, rfl, ?_⟩
  · rw [List.length_map, h2.perm.length_eq, ← rv.length]
    exact hz
  · have z := q zs d p1 p2 (I.hok.fresh hd)
    rwa [p3] at z

/-! ### sorted(d), d a dict whose keys are ints -/
def rSortedDJ : RA := fun xs H Q => ∃ (a : Addr) (kvs : List (Key × V)) (ks : List Int), xs = [.ref a] ∧ Rd H a (.dK kvs) ∧ kvs.map (·.1) = ks.map Sum.inl ∧
    ∀ (ys : List Int) (p : Addr), ys.Perm ks → ys.Pairwise (· ≤ ·) → H p = none → Q (.ref p) (upd H p (.lst (ys.map V.int)))
theorem call_sortedDJ (hcalm : X.calm = true) : CallR X (.builtin "sorted") rSortedDJ := by
  intro pins s σ H xs us Q I r q
  obtain ⟨a, kvs, ks, ex, hd, hks, q⟩ := q
  subst ex
  obtain ⟨u, eu, rx⟩ := vals1 r
  subst eu
  cases rx
  obtain ⟨z, lo, vs, rel, dd⟩ := dk_rd I.hok hd
  obtain ⟨ep, hat⟩ := dd.dictAt
  have hkeys : vs.map (·.1) = ks.map Sum.inl := rel.keys.symm.trans hks
  have hl : vs.length = ks.length := by
    have e := congrArg List.length hkeys
    rw [List.length_map, List.length_map] at e
    exact e
  have h16 : vs.length ≤ sizeLine := by rw [← rel.length]; exact z
  refine Calls.call_function_entry PyProof.Rows.kind_sorted PyProof.Rows.plain_sorted PyProof.Rows.entry_sorted (PyProof.Rows.args_sorted1 _) ?_
  unfold Builtin.«sorted»
  refine wpAny_bind (m := checkCount "sorted" 1 1 _) (wpAny_pure ?_)
  refine wpAny_bind (PySem.W.kdu_collect (A := X.A.in1) (PySem.W.kdl_dict (knd := mixKind X.prog X.w) (kvs := vs) (ep := ep) lo) (I.ok.hd hcalm) hat h16 fun h' tk acc hk hacc => ?_)
  have hal : acc.toList.length = ks.length := by rw [Array.length_toList, hacc.1, hl]
  have hS : IntsAre acc.toList ks := ints_each hal fun j v e => by
    obtain ⟨k, x, e1, e2⟩ := hacc.2 j v (by rw [← Array.getElem?_toList]; exact e)
    have e3 : (vs.map (·.1))[j]? = some k := by rw [List.getElem?_map, e1]; rfl
    rw [hkeys, List.getElem?_map] at e3
    cases e4 : ks[j]? with
    | none => rw [e4] at e3; cases e3
    | some y =>
      rw [e4] at e3
      have e5 : Sum.inl y = k := Option.some.inj e3
      subst e5
      rcases keyIs_shape (show keyIs (Sum.inl y) v = true from e2) with ⟨i, t, ek, ev⟩ | ⟨z, t, ek, ev⟩
      · cases ek
        exact ⟨y, t, rfl, ev⟩
      · cases ek
  have I1 : Inv X pins σ H { s with heap := h', toks := tk } := I.kept hk
  have hz2 : acc.toList.length ≤ sizeLine := by rw [hal, ← hl]; exact h16
  refine wpAny_bind (wpAny_newList ?_ hz2)
  have hoL : (h'.push (seqObj "list" acc.toList.toArray 0)).get? h'.objs.size = some (seqObj "list" acc.toList.toArray 0) := Heap.get?_push_size _ rfl
  show wpAny _ _ _ _ _ { s with heap := h'.push (seqObj "list" acc.toList.toArray 0), toks := tk }
  refine wpAny_bind (wpAny_holding (wpAny_call_entry PyProof.Rows.slot_list_sort ⟨_, hoL, rfl⟩ PyProof.Rows.entry_list_sort
    (SrtO.list_sort_ord (s := { s with heap := h'.push (seqObj "list" acc.toList.toArray 0), toks := tk }) SrtO.swo_int hoL hz2 (fun h2 => SrtO.ints_sortable hS h2) fun out h1 h2 => ⟨.none, rfl, ?_⟩) (PyProof.Rows.args_list_sort _)))
  obtain ⟨k1, k2, k3⟩ := SrtO.ints_out hS h1 h2
  obtain ⟨e', he'⟩ := PyProof.Rows.sortedHeap_at (vs := acc.toList) (out := out.toArray) hoL
  have hlen : ((out.map SrtO.iv).map V.int).length ≤ sizeLine := by
    rw [List.length_map, k2.length_eq, ← hl]
    exact h16
  refine wpAny_pure ⟨_, rfl, .ref h'.objs.size, upd H h'.objs.size (.lst ((out.map SrtO.iv).map V.int)), I1.laid (t' := tk) (fun b u e => ?_) (Nat.le_refl _)
    (show ObjOk X.prog X.w _ _ _ (.lst ((out.map SrtO.iv).map V.int)) from ⟨hlen, out, e', vals_of_ints k1, he'⟩), rfl, q _ _ k2 k3 (I1.hok.fresh (Nat.le_refl _))⟩
  have hb : b < h'.objs.size := Heap.lt_size e
  rw [PyProof.Rows.sortedHeap_old (Nat.ne_of_lt hb) (by rw [size_push']; exact Nat.lt_succ_of_lt hb)]
  exact Heap.get?_push_of_some _ e

/-! ### the items of a dict laid as tuples, in a list -/
theorem items_laid2 {pins : List (Addr × Obj)} {σ : L2.St} {s : Shared} {h' : Heap} {tk lo L n : Nat} {kvs : List (Key × V)} {vs : List (Key × Value)} {its : List Value} {xs : List V} {as : List Addr} (I : Inv X pins σ H s) (kv : KV kvs vs)
    (hk : ∀ b o, s.heap.get? b = some o → h'.get? b = some o) (hL : s.heap.objs.size ≤ L) (hSn : L ∉ as) (hS : h'.get? L = some (seqObj "list" its.toArray n)) (rv : Vals xs its) (hz : xs.length ≤ sizeLine) (hl : as.length = vs.length) (hlo : s.heap.objs.size ≤ lo) (hG : PySem.W.KdxG (mixKind X.prog X.w) vs lo h' as) :
    ∃ H' : Hp, (∀ b o, H b = some o → H' b = some o) ∧ H L = none ∧ (∀ t ∈ as, H t = none) ∧ H' L = some (.lst xs) ∧ Paired (fun (t : Addr) (q : Key × V) => H' t = some (.tup [kV q.1, q.2])) as kvs ∧ Inv X pins σ H' { s with heap := h', toks := tk } := by
  have lk : kvs.length = vs.length := Paired.length kv
  have nd : as.Nodup := List.Pairwise.imp (fun {a b} (h : a < b) => Nat.ne_of_lt h) hG.rise
  have new : ∀ t ∈ as, H t = none := fun t ht => I.hok.fresh (Nat.le_trans hlo (Nat.le_of_lt (hG.above t ht)))
  have newS : H L = none := I.hok.fresh hL
  have atP := LiI.putT_at as kvs (upd H L (.lst xs)) (by omega) nd
  have off : ∀ b, b ∉ as → b ≠ L → LiI.putT (upd H L (.lst xs)) as kvs b = H b := fun b h1 h2 => by rw [LiI.putT_off as kvs _ h1, upd_ne h2]
  have low : ∀ b o, s.heap.get? b = some o → b ∉ as ∧ b ≠ L := fun b o e => ⟨fun z => absurd (Heap.lt_size e) (Nat.not_lt.mpr (Nat.le_trans hlo (Nat.le_of_lt (hG.above b z)))), Nat.ne_of_lt (Nat.lt_of_lt_of_le (Heap.lt_size e) hL)⟩
  have kp : ∀ b u, H b = some u → (LiI.putT (upd H L (.lst xs)) as kvs) b = some u := fun b u e => by
    rw [off b (fun z => by rw [new b z] at e; cases e) (fun z => by rw [z, newS] at e; cases e)]
    exact e
  have eS : LiI.putT (upd H L (.lst xs)) as kvs L = some (.lst xs) := by rw [LiI.putT_off as kvs _ hSn, upd_same]
  refine ⟨LiI.putT (upd H L (.lst xs)) as kvs, kp, newS, new, eS, atP, ?_⟩
  refine I.call' (ch := []) rfl ⟨fun b o q _ _ _ => hk b o q, fun b o q _ _ _ => ⟨o.slots, hk b o q⟩, fun b o q n _ => ?_, fun b o q _ => ⟨o, hk b o q⟩, fun b xs q => kp b _ q, fun b o u q => kp b _ q, fun b ps q => ⟨#[], by rw [kp b _ q]; simp⟩⟩ (fun b u q => ?_) I.bare fun b z => by simp at z
  · obtain ⟨z1, z2⟩ := low b o q
    rw [off b z1 z2]
    exact n
  · by_cases hb : b ∈ as
    · obtain ⟨j, pk, e1, e2, e3⟩ := LiI.paired_ix atP hb
      rw [e3] at q
      cases q
      obtain ⟨key, k, x, f1, f2, f3⟩ := hG.pairs j b e1
      obtain ⟨qv, g1, g2, g3⟩ := LiI.paired_get kv e2
      rw [f1] at g1
      cases g1
      have rk : RelV (kV pk.1) key := by
        rw [g2]
        exact relV_key (show keyIs k key = true from f2)
      exact ⟨by show 2 ≤ sizeLine; decide, [key, x], .cons rk (.cons g3 .nil), ⟨_, f3, rfl, _, rfl⟩⟩
    · by_cases hb2 : b = L
      · rw [hb2] at q ⊢
        rw [eS] at q
        cases q
        exact ⟨hz, its, n, rv, hS⟩
      · rw [off b hb hb2] at q
        exact (I.hok b u q).stay (fun d v _ y => hk d v y) (fun d y => kp d _ y) fun d xs y => kp d _ y

/-! ### list(d.items()) -/
def rItL : V → Hp → VK → Prop := fun x H Q => ∃ (d : Addr) (kvs : List (Key × V)), x = .ref d ∧ Rd H d (.dK kvs) ∧
  ∀ (H' : Hp) (p : Addr) (ts : List Addr), (∀ b o, H b = some o → H' b = some o) → H p = none → (∀ t ∈ ts, H t = none) → p ∉ ts → H' p = some (.lst (ts.map V.ref)) → Paired (fun (t : Addr) (q : Key × V) => H' t = some (.tup [kV q.1, q.2])) ts kvs → Q (.ref p) H'
theorem pe_itL (hc : X.calm = true) (he : PE X e te) (hg : Gl X "list") (hm : X.mg "list" = none) (hv : bootBuiltins "list" = some (.type "list")) (hbase : attributeBase e "items" X.env (eval e X.env) = eval e X.env := by rfl) (hline : (apos.endLine == cpos.line) = true := by rfl)
    (hs : starEach [.Call (.Attribute e "items" apos) [] [] cpos] X.env = (false, eval (.Call (.Attribute e "items" apos) [] [] cpos) X.env) :: starEach [] X.env := by rfl) :
    PE X (.Call (.Name "list" p) [.Call (.Attribute e "items" apos) [] [] cpos] [] pos) (tUn rItL te) := by
  refine ⟨fun pins s σ H Q I hq => ?_⟩
  refine wpAny_Call_Name_kw (ld_blt I hg hm hv ?_)
  refine PyProof.Rows.callWith_type1 ?_ hs rfl
  rw [hs]
  show wpAny _ _ (spliced ((false, eval (.Call (.Attribute e "items" apos) [] [] cpos) X.env) :: backTo pos (starEach [] X.env))) _ _ s
  refine Calls.spliced_cons ?_
  refine wpAny_Call_method (T := "dict") (id := "dict.items") hbase rfl hline F.plainAttrs_dict F.slot_dict_items F.type_dict_items (thn (he.run pins s σ H _ I hq) fun u s1 ⟨x, H1, I1, rx, d, kvs, ex, hd, q⟩ => ?_)
  subst ex
  obtain rfl : u = Value.ref d := rx
  obtain ⟨hz, hs0, vs, kv, hdo⟩ := hd.ok I1.hok
  obtain ⟨ep, hat⟩ := hdo.dictAt
  have lk : kvs.length = vs.length := Paired.length kv
  have I2 : Inv X pins σ H1 { s1 with heap := s1.heap.push { cls := .type "dict_items", data := .fields #[.ref d] } } := I1.kept (t' := s1.toks) fun b ob q => Heap.get?_push_of_some _ q
  refine ⟨hdo.typeIs, hdo.mapOf.noDict, ?_⟩
  show wpAny _ _ (callWith cpos (.builtin "dict.items") [.ref d] [] []) _ X.xe s1
  refine method_meetsIn F.slot_dict_items F.entry_dict_items rfl (PySem.evalArgs_none ⟨rfl, hdo.typeIs, F.args_dict_items_1 _, _, meets_dict_items (mixKind X.prog X.w) d hs0, ⟨vs, hdo⟩, ?_⟩)
  refine Calls.spliced_nil ?_
  refine PySem.W.kdx_call (knd := mixKind X.prog X.w) (kvs := vs) (ep := ep) (I1.ok.hd hc) ⟨_, Heap.get?_push_size _ rfl, rfl, rfl⟩ (hat.push _) (by omega) fun h' tk acc c as hk hS hl hG hacc => ?_
  have hSn : (s1.heap.push { cls := .type "dict_items", data := .fields #[.ref d] }).objs.size ∉ as := fun z => Nat.lt_irrefl _ (hG.above _ z)
  obtain ⟨H', k1, k2, k3, k5, k6, J⟩ := items_laid2 (tk := tk) (its := acc.toList) (xs := as.map V.ref) (n := c) I2 kv hk (Nat.le_refl _) hSn (by rw [Array.toArray_toList]; exact hS) (by rw [hacc]; exact LiI.vals_refs as) (by rw [List.length_map]; omega) hl (Nat.le_refl _) hG
  exact ⟨.ref _, H', J, rfl, q H' _ as k1 k2 k3 hSn k5 k6⟩

/-! ### sorted(d.items()) -/
def ipK (p : Int × Int) : Key × V := (.inl p.1, .int p.2)
def rItS : V → Hp → VK → Prop := fun x H Q => ∃ (d : Addr) (ps : List (Int × Int)), x = .ref d ∧ Rd H d (.dK (ps.map ipK)) ∧
  ∀ (H' : Hp) (p : Addr) (zs : List (V × (Int × Int))), (∀ b o, H b = some o → H' b = some o) → H p = none → (∀ z ∈ zs, ∃ t, z.1 = .ref t ∧ H t = none ∧ t ≠ p ∧ H' t = some (.tup [.int z.2.1, .int z.2.2])) → (zs.map (·.2)).Perm ps → (zs.map (·.2)).Pairwise (fun p q => lexLe p q = true) → H' p = some (.lst (zs.map (·.1))) → Q (.ref p) H'
theorem paired_zip {α β : Type} {F : α → β → Prop} : ∀ {xs : List α} {ys : List β}, xs.length = ys.length → (∀ (j : Nat) (x : α) (y : β), xs[j]? = some x → ys[j]? = some y → F x y) → Paired F xs ys
  | [], [], _, _ => .nil
  | [], _ :: _, h, _ => by cases h
  | _ :: _, [], h, _ => by cases h
  | x :: xs, y :: ys, h, f => .cons (f 0 x y rfl rfl) (paired_zip (Nat.succ.inj h) fun j a b e1 e2 => f (j + 1) a b e1 e2)
theorem prs_vals {h : Heap} {its : List Value} {ps : List (Int × Int)} (hp : PrsV h its ps) {h2 : Heap} (k : ∀ b o, h.get? b = some o → h2.get? b = some o) : PrsV h2 its ps := by
  induction hp with
  | nil => exact .nil
  | cons r t ih => exact .cons (r.keeps fun b o e _ => k b o e) ih
theorem pe_itS (hc : X.calm = true) (he : PE X e te) (hg : Gl X "sorted") (hm : X.mg "sorted" = none) (hv : bootBuiltins "sorted" = some (.builtin "sorted")) (hbase : attributeBase e "items" X.env (eval e X.env) = eval e X.env := by rfl) (hline : (apos.endLine == cpos.line) = true := by rfl)
    (hs : starEach [.Call (.Attribute e "items" apos) [] [] cpos] X.env = (false, eval (.Call (.Attribute e "items" apos) [] [] cpos) X.env) :: starEach [] X.env := by rfl) :
    PE X (.Call (.Name "sorted" p) [.Call (.Attribute e "items" apos) [] [] cpos] [] pos) (tUn rItS te) := by
  refine ⟨fun pins s σ H Q I hq => ?_⟩
  refine wpAny_Call_Name_kw (ld_blt I hg hm hv ?_)
  refine PyProof.Rows.callWith_builtin1 ?_ hs rfl
  rw [hs]
  show wpAny _ _ (spliced ((false, eval (.Call (.Attribute e "items" apos) [] [] cpos) X.env) :: backTo pos (starEach [] X.env))) _ _ s
  refine Calls.spliced_cons ?_
  refine wpAny_Call_method (T := "dict") (id := "dict.items") hbase rfl hline F.plainAttrs_dict F.slot_dict_items F.type_dict_items (thn (he.run pins s σ H _ I hq) fun u s1 ⟨x, H1, I1, rx, d, ps, ex, hd, q⟩ => ?_)
  subst ex
  obtain rfl : u = Value.ref d := rx
  obtain ⟨hz, hs0, vs, kv, hdo⟩ := hd.ok I1.hok
  obtain ⟨ep, hat⟩ := hdo.dictAt
  have lk : (ps.map ipK).length = vs.length := Paired.length kv
  have I2 : Inv X pins σ H1 { s1 with heap := s1.heap.push { cls := .type "dict_items", data := .fields #[.ref d] } } := I1.kept (t' := s1.toks) fun b ob q => Heap.get?_push_of_some _ q
  refine ⟨hdo.typeIs, hdo.mapOf.noDict, ?_⟩
  show wpAny _ _ (callWith cpos (.builtin "dict.items") [.ref d] [] []) _ X.xe s1
  refine method_meetsIn F.slot_dict_items F.entry_dict_items rfl (PySem.evalArgs_none ⟨rfl, hdo.typeIs, F.args_dict_items_1 _, _, meets_dict_items (mixKind X.prog X.w) d hs0, ⟨vs, hdo⟩, ?_⟩)
  refine Calls.spliced_nil ?_
  refine Calls.call_function_entry PyProof.Rows.kind_sorted PyProof.Rows.plain_sorted PyProof.Rows.entry_sorted (PyProof.Rows.args_sorted1 _) ?_
  unfold Builtin.«sorted»
  refine wpAny_bind (m := checkCount "sorted" 1 1 _) (wpAny_pure ?_)
  refine wpAny_bind (PySem.W.kdx_collect (A := X.A.in1) (knd := mixKind X.prog X.w) (kvs := vs) (ep := ep) (I1.ok.hd hc) ⟨_, Heap.get?_push_size _ rfl, rfl, rfl⟩ (hat.push _) (by omega) fun h' tk as hk hl hG => ?_)
  generalize hv0 : s1.heap.push { cls := .type "dict_items", data := .fields #[.ref d] } = h0 at I2 hk hG
  have hz2 : (as.map Value.ref).length ≤ sizeLine := by rw [List.length_map]; omega
  refine wpAny_bind (wpAny_newList ?_ hz2)
  have hoL : (h'.push (seqObj "list" (as.map Value.ref).toArray 0)).get? h'.objs.size = some (seqObj "list" (as.map Value.ref).toArray 0) := Heap.get?_push_size _ rfl
  have hle : h0.objs.size ≤ h'.objs.size := by
    have z := Heap.lt_size (hk s1.heap.objs.size _ (by rw [← hv0]; exact Heap.get?_push_size _ rfl))
    rw [← hv0, Heap.size_push]
    exact z
  -- the pairs
  have hp : PrsV h' (as.map Value.ref) ps := paired_zip (by rw [List.length_map, hl, ← lk, List.length_map]) fun j x y e1 e2 => by
    rw [List.getElem?_map] at e1
    obtain ⟨b, e3, rfl⟩ := Option.map_eq_some_iff.mp e1
    obtain ⟨key, k, z, f1, f2, f3⟩ := hG.pairs j b e3
    obtain ⟨qv, g1, g2, g3⟩ := LiI.paired_get kv (i := j) (x := ipK y) (by rw [List.getElem?_map, e2]; rfl)
    rw [f1] at g1
    cases g1
    have g2 : Sum.inl y.1 = k := g2
    subst g2
    obtain ⟨t2, rfl⟩ : ∃ t, z = Value.int y.2 t := g3
    rcases keyIs_shape (show keyIs (Sum.inl y.1) key = true from f2) with ⟨i, t, ek, ev⟩ | ⟨z, t, ek, ev⟩
    · cases ek
      subst ev
      exact ⟨b, _, t, t2, _, rfl, f3, rfl, rfl⟩
    · cases ek
  have kb : ∀ b o, h'.get? b = some o → (h'.push (seqObj "list" (as.map Value.ref).toArray 0)).get? b = some o := fun b o e => Heap.get?_push_of_some _ e
  have hp2 := prs_vals hp kb
  obtain ⟨em, hm2⟩ := prs_map hp2
  show wpAny _ _ _ _ _ { s1 with heap := h'.push (seqObj "list" (as.map Value.ref).toArray 0), toks := tk }
  refine wpAny_bind (wpAny_holding (wpAny_call_entry PyProof.Rows.slot_list_sort ⟨_, hoL, rfl⟩ PyProof.Rows.entry_list_sort
    (SrtO.list_sort_ord (s := { s1 with heap := h'.push (seqObj "list" (as.map Value.ref).toArray 0), toks := tk }) (SrtO.swo_lex (pairOf (h'.push (seqObj "list" (as.map Value.ref).toArray 0)))) hoL hz2 (fun h2 => SrtO.pairs_sortableO (by omega) hm2 fun o e => ?_) fun out h1 h2 => ⟨.none, rfl, ?_⟩) (PyProof.Rows.args_list_sort _)))
  · have e' : some o = some (seqObj "list" (as.map Value.ref).toArray 0) := e.symm.trans hoL
    cases e'
    intro c
    exact absurd (Value.type.inj c) (by decide)
  · have eb : as.map V.ref = (as.map Value.ref).map backV := by rw [List.map_map]; rfl
    obtain ⟨zs, ez, p1, p2, p3⟩ := prs_out hp2 eb h1 h2
    have e2 : ∀ u ∈ out, ∃ t ∈ as, u = Value.ref t := fun u hu => by
      obtain ⟨t, ht, e⟩ := List.mem_map.mp (h2.perm.mem_iff.mp hu)
      exact ⟨t, ht, e.symm⟩
    obtain ⟨e', he'⟩ := PyProof.Rows.sortedHeap_at (vs := as.map Value.ref) (out := out.toArray) hoL
    have kF : ∀ b o, h'.get? b = some o → (PyProof.Rows.sortedHeap (h'.push (seqObj "list" (as.map Value.ref).toArray 0)) h'.objs.size (as.map Value.ref) out.toArray).get? b = some o := fun b o e => by
      have hb : b < h'.objs.size := Heap.lt_size e
      rw [PyProof.Rows.sortedHeap_old (Nat.ne_of_lt hb) (by rw [size_push']; exact Nat.lt_succ_of_lt hb)]
      exact Heap.get?_push_of_some _ e
    have hLn : h'.objs.size ∉ as := fun z => Nat.lt_irrefl _ (hG.there z)
    have hG2 : PySem.W.KdxG (mixKind X.prog X.w) vs s1.heap.objs.size (PyProof.Rows.sortedHeap (h'.push (seqObj "list" (as.map Value.ref).toArray 0)) h'.objs.size (as.map Value.ref) out.toArray) as :=
      ⟨hG.rise, fun b hb => Nat.lt_of_le_of_lt (by rw [← hv0, Heap.size_push]; exact Nat.le_succ _) (hG.above b hb), fun j b e => by
        obtain ⟨key, k, z, f1, f2, f3⟩ := hG.pairs j b e
        exact ⟨key, k, z, f1, f2, kF _ _ f3⟩⟩
    have k0 : ∀ b o, s1.heap.get? b = some o → (PyProof.Rows.sortedHeap (h'.push (seqObj "list" (as.map Value.ref).toArray 0)) h'.objs.size (as.map Value.ref) out.toArray).get? b = some o := fun b o e => kF b o (hk b o (by rw [← hv0]; exact Heap.get?_push_of_some _ e))
    have hs1 : s1.heap.objs.size ≤ h'.objs.size := Nat.le_trans (by rw [← hv0, Heap.size_push]; exact Nat.le_succ _) hle
    obtain ⟨H', k1, k2, k3, k5, k6, J⟩ := items_laid2 (tk := tk) (its := out) (xs := out.map backV) (n := e') I1 kv k0 hs1 hLn he' (vals_back fun u hu => let ⟨t, _, e⟩ := e2 u hu; ⟨t, e⟩) (by rw [List.length_map, h2.perm.length_eq]; exact hz2) hl (Nat.le_refl _) hG2
    refine wpAny_pure ⟨_, rfl, .ref h'.objs.size, H', J, rfl, q H' _ zs k1 k2 (fun z hz => ?_) ?_ p2 (by rw [p3]; exact k5)⟩
    · have hz' := p1.mem_iff.mp hz
      obtain ⟨j, hj⟩ := List.mem_iff_getElem?.mp hz'
      obtain ⟨j1, j2⟩ := List.getElem?_zip_eq_some.mp hj
      rw [List.getElem?_map] at j1
      obtain ⟨t, j1, j3⟩ := Option.map_eq_some_iff.mp j1
      obtain ⟨qv, g1, g2⟩ := LiI.paired_get k6 j1
      rw [List.getElem?_map, j2] at g1
      cases g1
      exact ⟨t, j3.symm, k3 t (List.mem_of_getElem? j1), fun z => hLn (z ▸ List.mem_of_getElem? j1), g2⟩
    · have e := p1.map (·.2)
      rwa [List.map_snd_zip (by rw [List.length_map, hl, ← lk, List.length_map]; exact Nat.le_refl _)] at e

/-! ### as data -/
def pairI (p : Int × Int) : D := .tup [.int p.1, .int p.2]
def toPr : D → Option (Int × Int)
  | .tup [.int i, .int j] => some (i, j)
  | _ => none
def toPrs : List D → Option (List (Int × Int))
  | [] => some []
  | d :: ds => (toPr d).bind fun p => (toPrs ds).map (p :: ·)
theorem toPr_eq {p : Int × Int} (h : toPr d = some p) : d = pairI p := by
  unfold toPr at h
  split at h
  · cases h; rfl
  · cases h
theorem toPrs_eq : ∀ {ds : List D} {ps : List (Int × Int)}, toPrs ds = some ps → ds = ps.map pairI
  | [], _, h => by simp only [toPrs] at h; cases h; rfl
  | d :: ds, _, h => by
    simp only [toPrs] at h
    obtain ⟨p, e1, h⟩ := Option.bind_eq_some_iff.mp h
    obtain ⟨ps, e2, rfl⟩ := Option.map_eq_some_iff.mp h
    rw [toPr_eq e1, toPrs_eq e2]; rfl
@[simp] theorem toPrs_map : ∀ {ps : List (Int × Int)}, toPrs (ps.map pairI) = some ps
  | [] => rfl
  | p :: ps => by simp only [List.map_cons, toPrs, toPr, pairI, Option.bind_some]; rw [toPrs_map]; rfl
def keysI : List (Key × D) → Option (List Int)
  | [] => some []
  | (.inl i, _) :: r => (keysI r).map (i :: ·)
  | _ => none
theorem keysI_eq : ∀ {ks : List (Key × D)} {ns : List Int}, keysI ks = some ns → ks.map (·.1) = ns.map Sum.inl
  | [], _, h => by simp only [keysI] at h; cases h; rfl
  | (.inl i, d) :: r, _, h => by
    simp only [keysI] at h
    obtain ⟨ns, e, rfl⟩ := Option.map_eq_some_iff.mp h
    rw [List.map_cons, keysI_eq e]; rfl
  | (.inr i, d) :: r, _, h => by simp [keysI] at h
def pairsI : List (Key × D) → Option (List (Int × Int))
  | [] => some []
  | (.inl i, .int j) :: r => (pairsI r).map ((i, j) :: ·)
  | _ => none
theorem Dmk.keys : ∀ {ks : List (Key × D)} {xs : List (Key × V)}, Dmk Γ M H ks xs → xs.map (·.1) = ks.map (·.1)
  | [], _, h => by simp only [Dmk] at h; subst h; rfl
  | (j, d) :: ks, _, h => by
    obtain ⟨x, r, rfl, h1, h2⟩ := h.uncons
    rw [List.map_cons, List.map_cons, Dmk.keys h2]
theorem pairsI_eq : ∀ {ks : List (Key × D)} {xs : List (Key × V)} {ps : List (Int × Int)}, pairsI ks = some ps → Dmk Γ M H ks xs → xs = ps.map ipK
  | [], _, _, h, hd => by simp only [pairsI] at h; cases h; simp only [Dmk] at hd; subst hd; rfl
  | (.inl i, .int j) :: r, _, _, h, hd => by
    simp only [pairsI] at h
    obtain ⟨ns, e, rfl⟩ := Option.map_eq_some_iff.mp h
    obtain ⟨x, r, rfl, h1, h2⟩ := hd.uncons
    rw [h1.toI, pairsI_eq e h2]; rfl
  | (.inr i, d) :: r, _, _, h, hd => by simp [pairsI] at h
  | (.inl i, .bl _) :: r, _, _, h, hd => by simp [pairsI] at h
  | (.inl i, .non) :: r, _, _, h, hd => by simp [pairsI] at h
  | (.inl i, .str _) :: r, _, _, h, hd => by simp [pairsI] at h
  | (.inl i, .lst _) :: r, _, _, h, hd => by simp [pairsI] at h
  | (.inl i, .tup _) :: r, _, _, h, hd => by simp [pairsI] at h
  | (.inl i, .dk _) :: r, _, _, h, hd => by simp [pairsI] at h
  | (.inl i, .dt _) :: r, _, _, h, hd => by simp [pairsI] at h
  | (.inl i, .ins _ _) :: r, _, _, h, hd => by simp [pairsI] at h
  | (.inl i, .oth _) :: r, _, _, h, hd => by simp [pairsI] at h
theorem dms_prs : ∀ {ps : List (Int × Int)} {xs : List V}, Dms Γ M H (ps.map pairI) xs → PrsX Γ.K H xs ps
  | [], _, h => by simp only [List.map_nil, Dms] at h; subst h; exact .nil
  | p :: ps, _, h => by
    rw [List.map_cons] at h
    obtain ⟨x, r, rfl, h1, h2⟩ := h.uncons
    unfold pairI at h1
    simp only [Dm] at h1
    obtain ⟨a, ys, rfl, h3, h4⟩ := h1
    obtain ⟨y1, r1, rfl, h5, h6⟩ := h4.uncons
    obtain ⟨y2, rfl, h7⟩ := h6.one
    rw [h5.toI, h7.toI] at h3
    exact .cons ⟨a, rfl, h3.sq⟩ (dms_prs h2)
theorem dms_zip : ∀ {ps : List (Int × Int)} {xs : List V}, Dms Γ M H (ps.map pairI) xs → ∀ z ∈ xs.zip ps, Dm Γ M H (pairI z.2) z.1
  | [], _, h, z, hz => by simp only [List.map_nil, Dms] at h; subst h; simp at hz
  | p :: ps, _, h, z, hz => by
    rw [List.map_cons] at h
    obtain ⟨x, r, rfl, h1, h2⟩ := h.uncons
    rw [List.zip_cons_cons] at hz
    rcases List.mem_cons.mp hz with e | e
    · subst e; exact h1
    · exact dms_zip h2 z e
theorem dms_of_zs : ∀ {zs : List (V × (Int × Int))}, (∀ z ∈ zs, Dm Γ M H (pairI z.2) z.1) → Dms Γ M H ((zs.map (·.2)).map pairI) (zs.map (·.1))
  | [], _ => Dms.nil
  | z :: zs, h => Dms.cons (h z List.mem_cons_self) (dms_of_zs fun y hy => h y (List.mem_cons_of_mem _ hy))
def rSortedA (K : PySem.W.Frag) : RA := fun xs H Q => (rSortedI K xs H Q ∨ rSortedPT K xs H Q) ∨ rSortedDJ xs H Q
theorem call_sortedA (hc : X.calm = true) : CallR X (.builtin "sorted") (rSortedA X.K) := (cr_sortedI.or cr_sortedPT).or (call_sortedDJ hc)
def sortedAG : GD := fun ds => match ds with
  | [.lst ds] => (match toInts ds with | some ns => some (.lst ((srtL ns).map .int)) | none => (toPrs ds).map fun ps => .lst ((srtP ps).map pairI))
  | [.dk ks] => (keysI ks).map fun ns => .lst ((srtL ns).map .int)
  | _ => none
theorem srtL_uniq {as bs : List Int} (h : as.Perm bs) (h1 : as.Pairwise (· ≤ ·)) : as = srtL bs := srt_uniq (h.trans (List.mergeSort_perm bs _).symm) h1 (by
  have z := List.pairwise_mergeSort (le := fun a b : Int => decide (a ≤ b)) (fun a b c h1 h2 => by simp at *; omega) (fun a b => by simp; omega) bs
  exact z.imp fun h => by simpa using h)
theorem rf_sortedA : RF Γ (rSortedA Γ.K) sortedAG := fun M ds vs d H hv e Q q => by
  unfold sortedAG at e
  split at e
  · obtain ⟨x, rfl, h1⟩ := hv.one
    simp only [Dm] at h1
    obtain ⟨a, xs, rfl, h2, h3⟩ := h1
    split at e
    · rename_i ns e1
      cases e
      have := toInts_eq e1
      subst this
      have := dms_ints h3
      subst this
      refine .inl (.inl ⟨a, ns, rfl, h2.sq, fun ns' p h4 h5 hp => q p _ hp ?_⟩)
      rw [srtL_uniq h4 h5]
      simp only [Tp]
      exact ⟨_, upd_same, ints_dms⟩
    · obtain ⟨ps, e1, rfl⟩ := Option.map_eq_some_iff.mp e
      have := toPrs_eq e1
      subst this
      refine .inl (.inr ⟨a, xs, ps, rfl, h2.sq, dms_prs h3, fun zs p h4 h5 hp => q p _ hp ?_⟩)
      have e2 : zs.map (·.2) = srtP ps := srtP_uniq (by
        have z := h4.map (·.2)
        rwa [List.map_snd_zip (by have := h3.len; rw [List.length_map] at this; omega)] at z) h5
      simp only [Tp]
      rw [← e2]
      exact ⟨_, upd_same, Dms.mono (.of (same_new hp)) _ _ (dms_of_zs fun z hz => dms_zip h3 z (h4.mem_iff.mp hz))⟩
  · obtain ⟨ns, e1, rfl⟩ := Option.map_eq_some_iff.mp e
    obtain ⟨x, rfl, h1⟩ := hv.one
    obtain ⟨a, kvs, rfl, _, h4, h5⟩ := dm_dk h1
    refine .inr ⟨a, kvs, ns, rfl, h4, h5.keys.trans (keysI_eq e1), fun ys p h6 h7 hp => q p _ hp ?_⟩
    rw [srtL_uniq h6 h7]
    simp only [Tp]
    exact ⟨_, upd_same, ints_dms⟩
  · cases e
theorem cl_sortedA : Cl Γ (rSortedA Γ.K) sortedAG .st .fr := .f rf_sortedA
def itLG : GD := fun ds => match ds with | [.dk ks] => some (.lst (itmsG ks)) | _ => none
theorem items_dms {p : Addr} (hM : ∀ a, M a → H a ≠ none) (hp : H p = none) (e : Same H H') : ∀ {ks : List (Key × D)} {kvs : List (Key × V)} {ts : List Addr}, Dmk Γ M H ks kvs → (∀ t ∈ ts, H t = none) → p ∉ ts → Paired (fun (t : Addr) (q : Key × V) => H' t = some (.tup [kV q.1, q.2])) ts kvs → Dms Γ (plus M p) H' (itmsG ks) (ts.map V.ref)
  | [], _, _, hd, _, _, hq => by
    simp only [Dmk] at hd
    subst hd
    cases hq
    exact Dms.nil
  | (k, d) :: ks, _, _, hd, ht, hn, hq => by
    obtain ⟨x, r, rfl, h1, h2⟩ := hd.uncons
    cases hq with
    | cons h t =>
      rename_i a as
      refine Dms.cons ?_ (items_dms hM hp e h2 (fun t z => ht t (List.mem_cons_of_mem _ z)) (fun z => hn (List.mem_cons_of_mem _ z)) t)
      have ha := ht a List.mem_cons_self
      simp only [Dm]
      refine ⟨a, _, rfl, .inl ⟨fun z => z.elim (fun m => hM a m ha) fun y => hn (by rw [← y]; exact List.mem_cons_self), .inr ⟨nds_k, h⟩⟩, Dms.cons dm_kD (Dms.cons ?_ Dms.nil)⟩
      exact Dm.mono (.of e) _ _ (Dm.anti (fun b z hb => z.elim id fun y => absurd (y ▸ hp) hb) _ _ h1)
theorem cl_itL : Cl Γ (arg1 rItL) itLG .st .fr := .g fun M ds vs d H hM hv e Q q => by
  unfold itLG at e
  split at e
  · cases e
    obtain ⟨x, rfl, h1⟩ := hv.one
    obtain ⟨a, kvs, rfl, _, h4, h5⟩ := dm_dk h1
    refine ⟨_, rfl, a, kvs, rfl, h4, fun H' p ts sm hp ht hpn eL pr => q p H' hp sm ?_⟩
    simp only [Tp]
    exact ⟨_, eL, items_dms hM hp sm h5 ht hpn pr⟩
  · cases e
theorem me_itL (hc : X.calm = true) (ha : ME X c E pa .st e fa) (hg : Gl X "list") (hm : X.mg "list" = none) (hv : bootBuiltins "list" = some (.type "list")) (hbase : attributeBase e "items" X.env (eval e X.env) = eval e X.env := by rfl) (hline : (apos.endLine == cpos.line) = true := by rfl)
    (hs : starEach [.Call (.Attribute e "items" apos) [] [] cpos] X.env = (false, eval (.Call (.Attribute e "items" apos) [] [] cpos) X.env) :: starEach [] X.env := by rfl) :
    ME X c E pa .fr (.Call (.Name "list" p) [.Call (.Attribute e "items" apos) [] [] cpos] [] pos) (op1 itLG fa) :=
  let ⟨_, x, y⟩ := ha.ex; ⟨_, pe_itL hc x hg hm hv hbase hline hs, y.ap1 (by decide) cl_itL⟩
def itSG : GD := fun ds => match ds with | [.dk ks] => (pairsI ks).map fun ps => .lst ((srtP ps).map pairI) | _ => none
theorem cl_itS : Cl Γ (arg1 rItS) itSG .st .fr := .g fun M ds vs d H hM hv e Q q => by
  unfold itSG at e
  split at e
  · obtain ⟨ps, e1, rfl⟩ := Option.map_eq_some_iff.mp e
    obtain ⟨x, rfl, h1⟩ := hv.one
    obtain ⟨a, kvs, rfl, _, h4, h5⟩ := dm_dk h1
    have := pairsI_eq e1 h5
    subst this
    refine ⟨_, rfl, a, ps, rfl, h4, fun H' p zs sm hp hz hperm hs eL => q p H' hp sm ?_⟩
    simp only [Tp]
    rw [← srtP_uniq hperm hs]
    refine ⟨_, eL, dms_of_zs fun z hz' => ?_⟩
    obtain ⟨t, e2, e3, e4, e5⟩ := hz z hz'
    rw [e2]
    unfold pairI
    simp only [Dm]
    exact ⟨t, _, rfl, .inl ⟨fun w => w.elim (fun m => hM t m e3) e4, .inr ⟨rfl, e5⟩⟩, Dms.cons dm_int (Dms.cons dm_int Dms.nil)⟩
  · cases e
theorem me_itS (hc : X.calm = true) (ha : ME X c E pa .st e fa) (hg : Gl X "sorted") (hm : X.mg "sorted" = none) (hv : bootBuiltins "sorted" = some (.builtin "sorted")) (hbase : attributeBase e "items" X.env (eval e X.env) = eval e X.env := by rfl) (hline : (apos.endLine == cpos.line) = true := by rfl)
    (hs : starEach [.Call (.Attribute e "items" apos) [] [] cpos] X.env = (false, eval (.Call (.Attribute e "items" apos) [] [] cpos) X.env) :: starEach [] X.env := by rfl) :
    ME X c E pa .fr (.Call (.Name "sorted" p) [.Call (.Attribute e "items" apos) [] [] cpos] [] pos) (op1 itSG fa) :=
  let ⟨_, x, y⟩ := ha.ex; ⟨_, pe_itS hc x hg hm hv hbase hline hs, y.ap1 (by decide) cl_itS⟩
end Vl

set_option Elab.async false
set_option linter.all false
set_option maxRecDepth 100000
set_option maxHeartbeats 2000000
/-! a dict comprehension of two walks: the loop of any clause, then both -/
namespace Vl
open PySem PySem.Spec PyProof.Rows L2
section
variable {Y : Cx} {tg iter : Expr} {ifs : List Expr} {lv m0 : Nat} {it D : Addr} {kx vx a0 i0 a1 i1 : Expr} {f0 f1 : List Expr} {scope : Scope} {pos : Pos} {body : Sem Fin → Sem Fin} {pins : List (Addr × Obj)} {σ : L2.St} {H0 : Hp} {s0 : Shared} {vs : List Nat} {J : It} {fp : List Addr} {tn : Nat → Heap → Prop} {g : TG} {tt : TT} {R : Result → Shared → Prop} {W : Nat → Nat → Hp → Prop}
/-- σ' knows what σ knows -/
def KnS (σ σ' : L2.St) : Prop := σ.length = σ'.length ∧ ∀ (j : Nat) v, σ[j]? = some (some v) → σ'[j]? = some (some v)
theorem KnS.rf (σ : L2.St) : KnS σ σ := ⟨rfl, fun _ _ h => h⟩
/-- the body of a turn, from slots σ2 -/
def TurnB (Y : Cx) (pins : List (Addr × Obj)) (σ : L2.St) (body : Sem Fin → Sem Fin) (Nx : Hp → Prop) (σ2 : L2.St) (H : Hp) : Prop :=
  ∀ (p : List (Addr × Obj)) (s : Shared) (k : Sem Fin) (Q : Fin → Shared → Prop) (E : Value → Shared → Prop), Inv Y (pins ++ p) σ2 H s → (∀ (s' : Shared) (σ3 : L2.St) (H' : Hp), Inv Y (pins ++ p) σ3 H' s' → KnS σ σ3 → Nx H' → wpAny (model Y.prog Y.w) Y.A k Q E s') → wpAny (model Y.prog Y.w) Y.A (body k) Q E s
/-- what a turn does ahead of its body, and the next one -/
def turnOf (env : Env) (tg iter : Expr) (ifs : List Expr) (it : Value) (body : Sem Fin → Sem Fin) (nxt : Code) : Sem Fin := do
  standAt iter.pos
  match ← pyNext it with
  | none => pure (.done .next)
  | some v =>
    letOwnedTupleGo tg it v
    assign tg env v
    let mut ok := true
    for c in ifs do
      if ok then ok ← isTrue c env (eval c env)
    if ok then body (again nxt) else again nxt
abbrev clA (tg iter : Expr) (ifs : List Expr) : Comprehension := ⟨tg, iter, ifs, 0⟩
abbrev dc2X (kx vx tg iter : Expr) (ifs : List Expr) (tg1 iter1 : Expr) (ifs1 : List Expr) (scope : Scope) (pos : Pos) : Expr := .DictComp kx vx [clA tg iter ifs, clA tg1 iter1 ifs1] scope pos
theorem clause_loop {Bd : (Hp → Prop) → L2.St → Hp → Prop} (e : compTurn (dc2X kx vx a0 i0 f0 a1 i1 f1 scope pos) lv (.ref it) (.ref D) Y.env = turnOf Y.env tg iter ifs (.ref it) body (.compLoop (dc2X kx vx a0 i0 f0 a1 i1 f1 scope pos) lv (.ref it) (.ref D) Y.env)) (hc : Y.calm = true) (hxe : Y.xe = fun _ _ => False) (T : Turn Y.prog Y.w Y.K tg J fp it tn) (hg : PG Y tg g) (ht : PTs Y ifs tt)
    (I : Inv Y pins (wipe σ vs) H0 s0) (st : tn 0 s0.heap) (hf : ∀ b ∈ fp, FpOk Y pins H0 b) (w0 : W 0 m0 H0)
    (turn : ∀ i m H, W i m H → (J.stop i H ∧ ∀ s', Inv Y pins (wipe σ vs) H s' → R (.ok .next) s') ∨ (J.go i H ∧ ∃ Nx : Hp → Prop, (∀ H', Nx H' → ∃ m', m' < m ∧ W (i + 1) m' H') ∧ ∀ x H', J.yld i H x H' → g x (wipe σ vs) H' fun σ2 H2 => wipe σ2 vs = wipe σ vs ∧ tt σ2 H2 fun b H3 =>
      if b = true then Bd Nx σ2 H3 else Nx H3)) (hbd : ∀ Nx σ2 H, wipe σ2 vs = wipe σ vs → Bd Nx σ2 H → TurnB Y pins (wipe σ vs) body Nx σ2 H) :
    codeAny (model Y.prog Y.w) Y.A (.compLoop (dc2X kx vx a0 i0 f0 a1 i1 f1 scope pos) lv (.ref it) (.ref D) Y.env) R s0 := by
  refine codeAny_loop rfl (fun m s' => ∃ i H', Inv Y pins (wipe σ vs) H' s' ∧ tn i s'.heap ∧ (∀ b ∈ fp, H' b = none) ∧ W i m H') ?_ m0 ⟨0, H0, I, st, fun b hb => (hf b hb).1, w0⟩
  rintro m s1 ⟨i, H1, I1, st1, n1, w1⟩
  show wpAny _ Y.A ((compTurn (dc2X kx vx a0 i0 f0 a1 i1 f1 scope pos) lv (.ref it) (.ref D) Y.env).onRaise (fun x => do noteFrame x Y.env; theTreesLotGoes x)) _ _ s1
  refine wpAny_noted ?_
  rw [e]
  have okf : ∀ {H : Hp}, (∀ b ∈ fp, H b = none) → ∀ b ∈ fp, FpOk Y pins H b := fun n b hb => ⟨n b hb, (hf b hb).2⟩
  unfold turnOf
  refine wpAny_bind (wpAny_standAt (wpAny_bind ?_))
  rcases turn i m H1 w1 with ⟨stop, fin⟩ | ⟨go, Nx, hN, step⟩
  · refine thnF (T.done Y rfl rfl rfl hc i pins s1 _ H1 (fun _ _ => False) I1 (okf n1) st1 stop) fun r s2 ⟨hr, I2⟩ => ?_
    subst hr
    exact wpAny_pure (fin s2 I2)
  · refine thnF (T.item Y rfl rfl rfl hc i pins s1 _ H1 (fun _ _ => False) I1 (okf n1) st1 go) fun r s2 ⟨u, hr, h2⟩ => ?_
    subst hr
    refine wpAny_bind (thnF h2 fun _ s3 ⟨x, H3, I3, r3, y3, st3, n3⟩ => ?_)
    have I3' := I3.pinned (okf n3) (T.obj _ _ st3)
    have z1 := hg.run _ s3 _ H3 x u _ I3' r3 (step x H3 y3)
    rw [hxe] at z1
    refine wpAny_bind (thnF z1 fun _ s4 ⟨σ4, H4, I4, hw4, q4⟩ => ?_)
    have z2 := ht.run _ s4 σ4 H4 _ I4 q4
    rw [hxe] at z2
    refine wpAny_bind (thnF z2 fun b s5 ⟨H5, I5, q5⟩ => ?_)
    have k4 : KnS (wipe σ vs) σ4 := ⟨by rw [← hw4, wipe_length], fun j v e => by rw [← hw4] at e; exact (wipe_some e).1⟩
    have fin : ∀ {σ6 : L2.St} {s6 : Shared} {H6 : Hp}, Inv Y (pins ++ pinsAt fp s3.heap) σ6 H6 s6 → KnS (wipe σ vs) σ6 → Nx H6 → ∃ m', m' < m ∧ ∃ i H', Inv Y pins (wipe σ vs) H' s6 ∧ tn i s6.heap ∧ (∀ b ∈ fp, H' b = none) ∧ W i m' H' := fun {σ6 s6 H6} I6 k6 nx => by
      obtain ⟨m', hm, w'⟩ := hN H6 nx
      have at_ : ∀ b ∈ fp, ∀ o, s3.heap.get? b = some o → s6.heap.get? b = some o ∧ H6 b = none := fun b hb o e =>
        have z := I6.pin (b, o) (List.mem_append_right _ (List.mem_append_right _ (mem_pinsAt hb e)))
        ⟨z.1, z.2.1⟩
      refine ⟨m', hm, i + 1, H6, I6.unpinned.weak k6.1 k6.2, T.keep _ _ _ st3 fun b hb o e => (at_ b hb o e).1, fun b hb => ?_, w'⟩
      obtain ⟨o, e, _⟩ := T.obj _ _ st3 b hb
      exact (at_ b hb o e).2
    cases b with
    | false =>
      have q5 : Nx H5 := q5
      exact wpAny_pure ⟨rfl, fin I5 k4 q5⟩
    | true =>
      have q5 : Bd Nx σ4 H5 := q5
      exact hbd Nx σ4 H5 hw4 q5 _ s5 _ _ _ I5 fun s6 σ6 H6 I6 k6 nx => wpAny_pure ⟨rfl, fin I6 k6 nx⟩
end
section
variable {X : Cx} {kx vx tg iter tg1 iter1 : Expr} {ifs ifs1 : List Expr} {scope : Scope} {own : List (Str × Nat)} {vs1 : List Nat} {pos pos' : Pos} {wi wi1 : TI} {g g1 : TG} {tt tt1 : TT} {tk tv : TE}
/-- a pair put into the dict -/
def putB (kx vx : Expr) (D : Addr) (env : Env) (nx : Sem Fin) : Sem Fin := do
  (do
    let kv ← eval kx env
    let vv ← holding [kv] (eval vx env)
    standAt { kx.pos with endLine := vx.pos.endLine, endCol := vx.pos.endCol }
    holding [kv, vv] (dictSet D kv vv))
  nx
/-- the inner walk -/
def walkB (C iter1 : Expr) (D : Addr) (env : Env) (nx : Sem Fin) : Sem Fin := do
  let x ← eval iter1 env
  standAt iter1.pos
  let x ← foldedSetIterable iter1 env x
  let i ← holding [x] (pyIter x)
  let _ ← runOwn (.compStart C 1 i (.ref D) env) env
  nx
theorem turn_in {it : Value} {D : Addr} {env : Env} : compTurn (dc2X kx vx tg iter ifs tg1 iter1 ifs1 scope pos) 1 it (.ref D) env = turnOf env tg1 iter1 ifs1 it (putB kx vx D env) (.compLoop (dc2X kx vx tg iter ifs tg1 iter1 ifs1 scope pos) 1 it (.ref D) env) := by rfl
theorem turn_out {it : Value} {D : Addr} {env : Env} : compTurn (dc2X kx vx tg iter ifs tg1 iter1 ifs1 scope pos) 0 it (.ref D) env = turnOf env tg iter ifs it (walkB (dc2X kx vx tg iter ifs tg1 iter1 ifs1 scope pos) iter1 D env) (.compLoop (dc2X kx vx tg iter ifs tg1 iter1 ifs1 scope pos) 0 it (.ref D) env) := by rfl
theorem put_turn {Y : Cx} {pins : List (Addr × Obj)} {σ σ2 : L2.St} {H : Hp} {D : Addr} {Nx : Hp → Prop} (hxe : Y.xe = fun _ _ => False) (hk : PE Y kx tk) (he : PE Y vx tv) (kn : KnS σ σ2)
    (h : tk σ2 H fun y H4 => tv σ2 H4 fun z H5 => ∃ kvs k, y = kV k ∧ H5 D = some (.dK kvs) ∧ kvs.length < sizeLine ∧ Nx (upd H5 D (.dK (putK kvs k z)))) : TurnB Y pins σ (putB kx vx D Y.env) Nx σ2 H := by
  intro p s nx Q E I q
  unfold putB
  have z1 := hk.run _ s σ2 H _ I h
  rw [hxe] at z1
  refine wpAny_bind (wpAny_bind (thnF z1 fun kv s4 ⟨y, H4, I4, r4, q4⟩ => ?_))
  have z2 := he.run _ s4 σ2 H4 _ I4 q4
  rw [hxe] at z2
  refine wpAny_bind (wpAny_holding (thnF z2 fun vv s5 ⟨z, H5, I5, r5, kvs, k, ek, hD, hz, nx'⟩ => ?_))
  subst ek
  exact wpAny_bind (wpAny_standAt (wpAny_holding (d_dictSet I5 hD hz r4 r5 fun s6 I6 => q s6 _ _ I6 kn nx')))
theorem start_in {prog : Program} {w : World} {A : Around} {R : Result → Shared → Prop} {s : Shared} {it acc : Value} {env : Env} (h0 : codeAny (model prog w) A (.compLoop (dc2X kx vx tg iter ifs tg1 iter1 ifs1 scope pos) 1 it acc env) R s)
    (h : wpAny (model prog w) A (pyIter it) (fun it' s' => codeAny (model prog w) A (.compLoop (dc2X kx vx tg iter ifs tg1 iter1 ifs1 scope pos) 1 it' acc env) R s') (notedBy (model prog w) A env fun x s' => R (.error x) s') s) :
    codeAny (model prog w) A (.compStart (dc2X kx vx tg iter ifs tg1 iter1 ifs1 scope pos) 1 it acc env) R s := by
  refine codeAny_of_tree ?_
  show wpAny _ _ ((compStart (dc2X kx vx tg iter ifs tg1 iter1 ifs1 scope pos) 1 it acc env).onRaise (fun x => do noteFrame x env; standAt theWindowsPlace)) _ _ s
  refine wpAny_notedAt ?_
  unfold compStart
  show wpAny _ _ (ask >>= _) _ _ s
  refine wpAny_bind (wpAny_askSetting (wpAny_ite ?_))
  have z : wpAny (model prog w) A (pyIter it) (fun it' s' => (True ∧ codeAny (model prog w) A (.compLoop (dc2X kx vx tg iter ifs tg1 iter1 ifs1 scope pos) 1 it' acc env) R s')) (notedBy (model prog w) A env fun x s' => R (.error x) s') s := wpAny_mono h (fun _ _ y => ⟨trivial, y⟩) fun _ _ y => y
  split
  · first
      | exact wpAny_pure ⟨rfl, h0⟩
      | exact wpAny_bind (wpAny_pure (wpAny_pure ⟨rfl, h0⟩))
  · refine wpAny_bind (wpAny_rule ?_)
    first
      | exact wpAny_bind (wpAny_standAt (wpAny_bind (wpAny_mono z (fun it' s' y => wpAny_pure ⟨rfl, y.2⟩) fun _ _ y => y)))
      | (show wpAny _ _ (standAt iter1.pos >>= _) _ _ s; exact wpAny_bind (wpAny_standAt (wpAny_bind (wpAny_mono z (fun it' s' y => wpAny_pure ⟨rfl, y.2⟩) fun _ _ y => y))))
theorem walk_turn {Y : Cx} {pins : List (Addr × Obj)} {σ σ2 : L2.St} {H : Hp} {D : Addr} {Nx : Hp → Prop} (hc : Y.calm = true) (hxe : Y.xe = fun _ _ => False) (hi : PI Y tg1 iter1 wi1) (hg : PG Y tg1 g1) (ht : PTs Y ifs1 tt1) (hk : PE Y kx tk) (he : PE Y vx tv) (hs1 : ∀ x, foldedSetIterable iter1 Y.env x = pure x) (kn : KnS σ (wipe σ2 vs1))
    (h : wi1 σ2 H fun J1 H4 => ∃ W1 : Nat → Nat → Hp → Prop, (∃ m, W1 0 m H4) ∧ ∀ j k H, W1 j k H →
      (J1.stop j H ∧ Nx H) ∨ (J1.go j H ∧ ∃ Nx1 : Hp → Prop, (∀ H', Nx1 H' → ∃ k', k' < k ∧ W1 (j + 1) k' H') ∧ ∀ x H', J1.yld j H x H' → g1 x (wipe σ2 vs1) H' fun σ3 H5 => wipe σ3 vs1 = wipe σ2 vs1 ∧ tt1 σ3 H5 fun b H6 =>
        if b = true then tk σ3 H6 fun y H7 => tv σ3 H7 fun z H8 => ∃ kvs k, y = kV k ∧ H8 D = some (.dK kvs) ∧ kvs.length < sizeLine ∧ Nx1 (upd H8 D (.dK (putK kvs k z))) else Nx1 H6)) :
    TurnB Y pins σ (walkB (dc2X kx vx tg iter ifs tg1 iter1 ifs1 scope pos) iter1 D Y.env) Nx σ2 H := by
  intro p s nx Q E I q
  unfold walkB
  have z1 := hi.run _ s σ2 H _ I h
  rw [hxe] at z1
  refine wpAny_bind (thnF z1 fun xv s1 hx => ?_)
  refine wpAny_bind (wpAny_standAt (wpAny_bind (wpAny_of_eq (hs1 xv) (wpAny_bind (wpAny_holding (thnF hx fun itv s2 h2 => ?_))))))
  obtain ⟨it1, fp1, tn1, J1, H2, e1, I2, T1, st1, f1, W1, ⟨m1, w1⟩, turn1⟩ := h2
  subst e1
  refine wpAny_bind (wpAny_runOwn ?_)
  rw [Around.mark_none]
  have loop : codeAny (model Y.prog Y.w) Y.A (.compLoop (dc2X kx vx tg iter ifs tg1 iter1 ifs1 scope pos) 1 (.ref it1) (.ref D) Y.env) (fun r s' => r = .ok .next ∧ ∃ H', Inv Y (pins ++ p) (wipe σ2 vs1) H' s' ∧ Nx H') s2 := by
    refine clause_loop (vs := vs1) (σ := σ2) (Bd := fun Nx1 σ3 H6 => tk σ3 H6 fun y H7 => tv σ3 H7 fun z H8 => ∃ kvs k, y = kV k ∧ H8 D = some (.dK kvs) ∧ kvs.length < sizeLine ∧ Nx1 (upd H8 D (.dK (putK kvs k z)))) turn_in hc hxe T1 hg ht (I2.weak (wipe_length _ _) fun j v e => (wipe_some e).1) st1 f1 w1 (fun j k H' w' => ?_) fun Nx1 σ3 H6 hw q => put_turn hxe hk he ⟨by rw [← hw, wipe_length], fun j v e => by rw [← hw] at e; exact (wipe_some e).1⟩ q
    rcases turn1 j k H' w' with ⟨st, nx1⟩ | ⟨go, Nx1, hN, step⟩
    · exact .inl ⟨st, fun s' I' => ⟨rfl, H', I', nx1⟩⟩
    · exact .inr ⟨go, Nx1, hN, step⟩
  refine codeAny_mono (start_in loop (T1.self Y.A 0 _ _ _ st1 loop)) fun r s' hr => ?_
  obtain ⟨rfl, H', I', nx'⟩ := hr
  first
    | exact q s' _ H' I' kn nx'
    | exact wpAny_pure (q s' _ H' I' kn nx')
    | exact wpAny_bind (wpAny_pure (q s' _ H' I' kn nx'))
/-- {k: v for tg in iter if .. for tg1 in iter1 if ..}; vs the block's names, vs1 those of the second target -/
def tDc2 (wi : TI) (g : TG) (tt : TT) (wi1 : TI) (g1 : TG) (tt1 : TT) (tk tv : TE) (vs vs1 : List Nat) : TE := fun σ H Q => wi σ H fun J H1 => ∀ D, H1 D = none → ∃ W : Nat → Nat → Hp → Prop, (∃ m, W 0 m (upd H1 D (.dK []))) ∧ ∀ i m H, W i m H →
  (J.stop i H ∧ Q (.ref D) H) ∨ (J.go i H ∧ ∃ Nx : Hp → Prop, (∀ H', Nx H' → ∃ m', m' < m ∧ W (i + 1) m' H') ∧ ∀ x H', J.yld i H x H' → g x (wipe σ vs) H' fun σ2 H2 => wipe σ2 vs = wipe σ vs ∧ tt σ2 H2 fun b H3 =>
    if b = true then wi1 σ2 H3 fun J1 H4 => ∃ W1 : Nat → Nat → Hp → Prop, (∃ m, W1 0 m H4) ∧ ∀ j k H, W1 j k H →
      (J1.stop j H ∧ Nx H) ∨ (J1.go j H ∧ ∃ Nx1 : Hp → Prop, (∀ H', Nx1 H' → ∃ k', k' < k ∧ W1 (j + 1) k' H') ∧ ∀ x H', J1.yld j H x H' → g1 x (wipe σ2 vs1) H' fun σ3 H5 => wipe σ3 vs1 = wipe σ2 vs1 ∧ tt1 σ3 H5 fun b H6 =>
        if b = true then tk σ3 H6 fun y H7 => tv σ3 H7 fun z H8 => ∃ kvs k, y = kV k ∧ H8 D = some (.dK kvs) ∧ kvs.length < sizeLine ∧ Nx1 (upd H8 D (.dK (putK kvs k z))) else Nx1 H6)
    else Nx H3)
abbrev BlkAll (X : Cx) (scope : Scope) (P : Cx → Prop) : Prop := ∀ (s : Shared) (H : Hp) (C : Addr) (cl : List (Str × Addr)) (fp : List Addr), P (X.blk s H scope (compEnvC scope cl C X.env) fp)
theorem pe_dc2 (hc : X.calm = true) (hN : X.N.Nodup) (hi : PI X tg iter wi) (ok : BlkOk X.N X.env.scope scope own) (hv : ∀ i ∈ vs1, i ∈ own.map (·.2)) (hg : BlkAll X scope fun Y => PG Y tg g) (ht : BlkAll X scope fun Y => PTs Y ifs tt) (hi1 : BlkAll X scope fun Y => PI Y tg1 iter1 wi1)
    (hg1 : BlkAll X scope fun Y => PG Y tg1 g1) (ht1 : BlkAll X scope fun Y => PTs Y ifs1 tt1) (hk : BlkAll X scope fun Y => PE Y kx tk) (he : BlkAll X scope fun Y => PE Y vx tv) (hs : ∀ x, foldedSetIterable iter X.env x = pure x := by intro _; rfl) (hs1 : ∀ env x, foldedSetIterable iter1 env x = pure x := by intro _ _; rfl) :
    PE X (dc2X kx vx tg iter ifs tg1 iter1 ifs1 scope pos) (tDc2 wi g tt wi1 g1 tt1 tk tv (own.map (·.2)) vs1) := by
  refine ⟨fun pins s σ H Q I h => ?_⟩
  rw [arm_eval_DictComp]
  have hfree : ∀ y ∈ scope.names, y.2 = .free → ∃ c, X.env.cells.lookup y.1 = some c := fun y hy e => (ok.free y hy e).elim (fun k => I.ok.has _ (.inl k)) fun k => I.ok.has _ (.inr k)
  refine wpAny_comprehension_free (use := none) rfl hs (closure_ok hfree) ok.kind (fun y hy e => by rw [ok.uniq y hy, e]) (thn (hi.run pins s σ H _ I h) fun xv s1 hx => thn hx fun itv s2 h2 => ?_)
  obtain ⟨it, fp, tn, J, H2, e, I2, T, st2, f2, q⟩ := h2
  subst e
  refine wpAny_newObj_type (newEnv_comp ?_)
  have hDn : H2 s2.heap.objs.size = none := I2.hok.fresh (Nat.le_refl _)
  obtain ⟨W, ⟨m0, w0⟩, turn⟩ := q _ hDn
  generalize hD : s2.heap.objs.size = D at hDn w0 turn ⊢
  -- with the new dict
  have I3 : Inv X pins σ (upd H2 D (.dK [])) { s2 with heap := s2.heap.push { cls := .type "dict", data := .dict #[] } } := by
    refine I2.laid (t' := s2.toks) (fun b o e => Heap.get?_push_of_some _ e) (Nat.le_of_eq hD) ?_
    rw [← hD]
    exact dk_empty s2.heap I2.big
  have f3 : ∀ b ∈ fp, FpOk X pins (upd H2 D (.dK [])) b ∧ b < (s2.heap.push { cls := .type "dict", data := .dict #[] }).objs.size := fun b hb => by
    obtain ⟨o, eo, _⟩ := T.obj _ _ st2 b hb
    have hlt : b < s2.heap.objs.size := Heap.lt_size eo
    refine ⟨⟨?_, (f2 b hb).2⟩, by rw [Heap.size_push]; exact Nat.lt_succ_of_lt hlt⟩
    rw [upd_ne (by rw [← hD]; exact Nat.ne_of_lt hlt)]
    exact (f2 b hb).1
  have st3 : tn 0 (s2.heap.push { cls := .type "dict", data := .dict #[] }) := T.keep _ _ _ st2 fun b _ o e => Heap.get?_push_of_some _ e
  generalize hs3 : ({ s2 with heap := s2.heap.push { cls := .type "dict", data := .dict #[] } } : Shared) = s3 at I3
  have h3 : s3.heap = s2.heap.push { cls := .type "dict", data := .dict #[] } := by rw [← hs3]
  rw [← h3] at f3 st3
  have I4 := block_start I3 ok hN f3
  generalize hH3 : upd H2 D (.dK []) = H3 at I3 I4 w0 f3
  have pg := hg s3 H3 s3.heap.objs.size (cellsFrom (s3.heap.objs.size + 1) scope.names (cloFrom X.env.cells scope.names [])) fp
  have pt := ht s3 H3 s3.heap.objs.size (cellsFrom (s3.heap.objs.size + 1) scope.names (cloFrom X.env.cells scope.names [])) fp
  have pk := hk s3 H3 s3.heap.objs.size (cellsFrom (s3.heap.objs.size + 1) scope.names (cloFrom X.env.cells scope.names [])) fp
  have pe := he s3 H3 s3.heap.objs.size (cellsFrom (s3.heap.objs.size + 1) scope.names (cloFrom X.env.cells scope.names [])) fp
  have pi1 := hi1 s3 H3 s3.heap.objs.size (cellsFrom (s3.heap.objs.size + 1) scope.names (cloFrom X.env.cells scope.names [])) fp
  have pg1 := hg1 s3 H3 s3.heap.objs.size (cellsFrom (s3.heap.objs.size + 1) scope.names (cloFrom X.env.cells scope.names [])) fp
  have pt1 := ht1 s3 H3 s3.heap.objs.size (cellsFrom (s3.heap.objs.size + 1) scope.names (cloFrom X.env.cells scope.names [])) fp
  generalize hce : compEnvC scope (cellsFrom (s3.heap.objs.size + 1) scope.names (cloFrom X.env.cells scope.names [])) s3.heap.objs.size X.env = ce at I4 pg pt pk pe pi1 pg1 pt1
  have cL : ce.locals = s3.heap.objs.size := by subst hce; rfl
  have fb : ∀ b ∈ fp, FpOk (X.blk s3 H3 scope ce fp) [] H3 b := fun b hb =>
    ⟨(f3 b hb).1.1, (I4.ok.exf b hb).1, I4.ok.exfs b hb, .inl hb, fun x c e => (I4.ok.exf b hb).2 x c e, fun p hp => absurd (show p ∈ ([] : List (Addr × Obj)) ++ [] from hp) (by simp)⟩
  have loop : codeAny (model X.prog X.w) X.A (.compLoop (dc2X kx vx tg iter ifs tg1 iter1 ifs1 scope pos) 0 (.ref it) (.ref D) ce) (compPost (model X.prog X.w) X.A X.xe none (fun v s' => EP X pins σ Q v s') (.ref D) s3.heap.objs.size) { s3 with heap := pushCells (s3.heap.push { cls := .type "dict", data := .dict #[] }) scope.names } := by
    refine clause_loop (Y := X.blk s3 H3 scope ce fp) (vs := own.map (·.2)) (σ := σ) (pins := []) (W := W) (Bd := fun Nx σ2 H3 => wi1 σ2 H3 fun J1 H4 => ∃ W1 : Nat → Nat → Hp → Prop, (∃ m, W1 0 m H4) ∧ ∀ j k H, W1 j k H →
      (J1.stop j H ∧ Nx H) ∨ (J1.go j H ∧ ∃ Nx1 : Hp → Prop, (∀ H', Nx1 H' → ∃ k', k' < k ∧ W1 (j + 1) k' H') ∧ ∀ x H', J1.yld j H x H' → g1 x (wipe σ2 vs1) H' fun σ3 H5 => wipe σ3 vs1 = wipe σ2 vs1 ∧ tt1 σ3 H5 fun b H6 =>
        if b = true then tk σ3 H6 fun y H7 => tv σ3 H7 fun z H8 => ∃ kvs k, y = kV k ∧ H8 D = some (.dK kvs) ∧ kvs.length < sizeLine ∧ Nx1 (upd H8 D (.dK (putK kvs k z))) else Nx1 H6)) turn_out hc rfl T pg pt I4 (T.keep _ _ _ st3 fun b _ o e => pushCells_keeps _ _ _ _ (Heap.get?_push_of_some _ e)) fb w0 (fun i m H5 w5 => ?_) fun Nx σ2 H6 hw q6 => ?_
    · rcases turn i m H5 w5 with ⟨stop, qq⟩ | ⟨go, Nx, hNx, step⟩
      · refine .inl ⟨stop, fun s6 I6 => ?_⟩
        have I7 : Inv X pins σ H5 s6 := I3.call' (ch := fp) I6.os I6.base I6.hok I6.bare fun b hb => ⟨(f3 b hb).1.2.2.2.1, (f3 b hb).1.2.1, (f3 b hb).1.2.2.2.2.1, (f3 b hb).1.2.2.2.2.2⟩
        have nC : H5 s3.heap.objs.size = none := by
          have z : H5 ce.locals = none := I6.free
          rw [cL] at z
          exact z
        obtain ⟨m2, hn, _⟩ := I6.loc
        have hn : s6.heap.Ns ce.locals m2 := hn
        rw [cL] at hn
        obtain ⟨p0, p1, p2, p3, p4, p5⟩ := I3.fpOk (Nat.le_refl _) nC
        exact ⟨m2, hn, fun h'' sb => ⟨.ref D, H5, I7.turned (t' := s6.toks) (fun b o hb e => (sb.2 b hb).trans e) p0 p1 p3 p4 p5, rfl, qq⟩⟩
      · exact .inr ⟨go, Nx, hNx, step⟩
    · refine walk_turn (Y := X.blk s3 H3 scope ce fp) hc rfl pi1 pg1 pt1 pk pe (hs1 ce) ⟨by rw [wipe_length, wipe_length, ← wipe_length σ2 (own.map (·.2)), hw, wipe_length], fun j v e => ?_⟩ q6
      rw [← hw] at e
      obtain ⟨e1, e2⟩ := wipe_some e
      rw [Vl.wipe_out fun z => e2 (hv j z)]
      exact e1
  show codeAny _ _ (.compStart (dc2X kx vx tg iter ifs tg1 iter1 ifs1 scope pos) 0 (.ref it) (.ref D) (compEnvC scope (cellsFrom (s3.heap.objs.size + 1) scope.names (cloFrom X.env.cells scope.names [])) s3.heap.objs.size X.env)) (compPost (model X.prog X.w) X.A X.xe none (fun v s' => EP X pins σ Q v s') (.ref D) s3.heap.objs.size) { s3 with heap := pushCells (s3.heap.push { cls := .type "dict", data := .dict #[] }) scope.names }
  rw [hce]
  have st4 : tn 0 (pushCells (s3.heap.push { cls := .type "dict", data := .dict #[] }) scope.names) := T.keep _ _ _ st3 fun b _ o e => pushCells_keeps _ _ _ _ (Heap.get?_push_of_some _ e)
  exact codeAny_compStart_dict loop (T.self X.A 0 _ _ _ st4 loop)
end
end Vl

set_option Elab.async false
set_option linter.all false
set_option maxRecDepth 100000
set_option maxHeartbeats 2000000
/-! what dict comprehensions compute (nothing is changed in them) -/
namespace Vl
open PySem PySem.Spec L2
variable {Γ : KC} {c : Ctx} {M N M0 M1 W : Addr → Prop} {s s' s1 s2 s3 sB : S} {σ σ1 σ2 σB : L2.St} {H H' H1 H2 Hg : Hp} {v : V} {d : D} {ds : List D} {vs vs1 : List Nat} {i : Nat} {X : Cx} {E : XK} {p q pa pb pi : Bool} {m mb : Md} {pos : Pos} {x : Str} {fk fv : PM D} {tk tv : TE}
def dcP (tf : TF) (k : PM Bool) (fk fv : PM D) (b : S) : List D → Option (List (Key × D))
  | [] => some []
  | d :: ds => match tf d b with
    | none => none
    | some s1 => match k s1 with
      | .ok true s2 => (match fk s2 with
        | .ok y s3 => (match kof y, fv s3 with
          | some a, .ok z _ => (dcP tf k fk fv b ds).map ((a, z) :: ·)
          | _, _ => none)
        | _ => none)
      | .ok false _ => dcP tf k fk fv b ds
      | _ => none
theorem kput_len (ks : List (Key × D)) (k : Key) (d : D) : (kput ks k d).length ≤ ks.length + 1 := by
  unfold kput
  split
  · rw [List.length_map]; omega
  · simp
theorem mergeD_len : ∀ (ps ks : List (Key × D)), (mergeD ks ps).length ≤ ks.length + ps.length
  | [], ks => Nat.le_refl _
  | p :: ps, ks => by
    have h1 := mergeD_len ps (kput ks p.1 p.2)
    have h2 := kput_len ks p.1 p.2
    show (mergeD (kput ks p.1 p.2) ps).length ≤ _
    rw [List.length_cons]; omega
theorem mergeD_app (ks ps qs : List (Key × D)) : mergeD ks (ps ++ qs) = mergeD (mergeD ks ps) qs := by unfold mergeD; rw [List.foldl_append]
theorem Dmk.anti' (h : ∀ a, N a → M a) {ks : List (Key × D)} {kvs : List (Key × V)} (x : Dmk Γ M H ks kvs) : Dmk Γ N H ks kvs := Dmk.anti (fun a z _ => h a z) ks kvs x
/-- what one turn's rules ask of the dict at D -/
abbrev PutAt (D : Addr) (Nx : Hp → Prop) (y z : V) (H : Hp) : Prop := ∃ kvs k, y = kV k ∧ H D = some (.dK kvs) ∧ kvs.length < sizeLine ∧ Nx (upd H D (.dK (putK kvs k z)))
theorem dc_loop {ks0 ps : List (Key × D)} {D : Addr} {J : It} {g : TG} {tf : TF} {sl : List Nat} {tt : TT} {k : PM Bool} {kvs0 : List (Key × V)} {Fin : Hp → Prop}
    (hg : VG c sl g tf) (ht : VT c noE true tt k) (hk : VE c noE true .st tk fk) (hv : VE c noE true .st tv fv) (ho : okV c vs = true) (hsl : ∀ j ∈ sl, j ∈ vs)
    (L : Lv (c.at (plus M0 D)) sB σB H1) (hD : H1 D = some (.dK kvs0)) (hks : Dmk c.Γ (Mo (c.at (plus M0 D)) sB σB) H1 ks0 kvs0)
    (gv : Gv c.Γ M1 W J Hg ds) (hgo : ∀ H2, ExM (fun a => a = D) H1 H2 → ExM M1 Hg H2) (hN : Sub Hg (Mo (c.at (plus M0 D)) sB σB) W)
    (e : dcP tf k fk fv (wipeS sB vs) ds = some ps) (hz : ks0.length + ps.length ≤ 1000000)
    (fin : ∀ H2 kvs, ExM (fun a => a = D) H1 H2 → H2 D = some (.dK kvs) → Dmk c.Γ (Mo (c.at (plus M0 D)) sB σB) H2 (mergeD ks0 ps) kvs → Fin H2) :
    ∃ Wk : Nat → Nat → Hp → Prop, (∃ m, Wk 0 m H1) ∧ ∀ i m H, Wk i m H → (J.stop i H ∧ Fin H) ∨ (J.go i H ∧ ∃ Nx : Hp → Prop, (∀ H', Nx H' → ∃ m', m' < m ∧ Wk (i + 1) m' H') ∧ ∀ x H', J.yld i H x H' → g x (wipe σB vs) H' fun σ2 H2 => wipe σ2 vs = wipe σB vs ∧ tt σ2 H2 fun b H3 =>
      if b = true then tk σ2 H3 fun y H4 => tv σ2 H4 fun z H5 => PutAt D Nx y z H5 else Nx H3) := by
  have hDM : Mo (c.at (plus M0 D)) sB σB D := .inl (.inr rfl)
  refine ⟨fun i m' H2 => i + m' = ds.length ∧ ExM (fun a => a = D) H1 H2 ∧ ∃ kvs zs rest, H2 D = some (.dK kvs) ∧ Dmk c.Γ (Mo (c.at (plus M0 D)) sB σB) H2 zs kvs ∧ zs.length + rest.length ≤ 1000000 ∧ dcP tf k fk fv (wipeS sB vs) (ds.drop i) = some rest ∧ mergeD zs rest = mergeD ks0 ps, ⟨ds.length, by omega, ExM.refl, kvs0, ks0, ps, hD, hks, hz, by rw [List.drop_zero]; exact e, rfl⟩, ?_⟩
  rintro i m' H2 ⟨him, ex, kvs, zs, rest, hacc, hzs, hzl, hrest, hys⟩
  have exM := hgo H2 ex
  have L2' : Lv (c.at (plus M0 D)) sB σB H2 := L.foreign (c := c.at (plus M0 D)) (ex.imp fun a z => .inr z) fun a z => by
    by_cases y : a = D
    · subst y; exact ⟨_, hacc, trivial⟩
    · obtain ⟨o, h1, h2⟩ := L.m0 a z
      exact ⟨o, ex a o y h1, h2⟩
  cases m' with
  | zero =>
    have hi' : i = ds.length := by omega
    subst hi'
    rw [List.drop_length] at hrest
    cases hrest
    exact .inl ⟨gv.stop H2 exM, fin H2 kvs ex hacc (hys ▸ hzs)⟩
  | succ m' =>
    have hil : i < ds.length := by omega
    refine .inr ⟨gv.go i H2 exM hil, fun H' => ExM (fun a => a = D) H1 H' ∧ ∃ kvs zs rest, H' D = some (.dK kvs) ∧ Dmk c.Γ (Mo (c.at (plus M0 D)) sB σB) H' zs kvs ∧ zs.length + rest.length ≤ 1000000 ∧ dcP tf k fk fv (wipeS sB vs) (ds.drop (i + 1)) = some rest ∧ mergeD zs rest = mergeD ks0 ps, fun H' z => ⟨m', Nat.lt_succ_self _, by omega, z⟩, fun x H3 hy => ?_⟩
    obtain ⟨sm, d, hd, dm⟩ := gv.yld i H2 x H3 (Mo (c.at (plus M0 D)) sB σB) exM hN (fun a z hn => by obtain ⟨o, ho, _⟩ := L2'.alive z; rw [hn] at ho; cases ho) hil hy
    have L3 := L2'.mono sm
    have Lb : Lv (c.at (plus M0 D)) (wipeS sB vs) (wipe σB vs) H3 := (Lw.wipe (c := c.at (plus M0 D)) L3 ho).lv
    have ob := own_wipe (c := c.at (plus M0 D)) (s := sB) (σ := σB) ho
    rw [List.drop_eq_getElem_cons hil] at hrest
    have hd' : ds[i] = d := by rw [List.getElem?_eq_getElem hil] at hd; exact Option.some.inj hd
    rw [hd'] at hrest
    unfold dcP at hrest
    refine hg.run (plus M0 D) _ _ H3 x d Lb (Dm.anti (fun a z _ => z.elim .inl fun y => .inr ((ob a).mp y)) d x dm) _ ?_
    cases e3 : tf d (wipeS sB vs) with
    | none => rw [e3] at hrest; cases hrest
    | some s2 =>
      rw [e3] at hrest; dsimp only at hrest
      intro σ2 L4 o4 w4
      have o4' : ∀ a, Own (c.at (plus M0 D)) s2 σ2 a ↔ Own (c.at (plus M0 D)) sB σB a := fun a => (o4 a).trans (ob a)
      refine ⟨(wipe_ext (by rw [w4.l2]) fun j hj => w4.o2 j fun z => hj (hsl j z)).trans (wipe_ext (wipe_length σB vs) fun j hj => Vl.wipe_out hj), ht.run (plus M0 D) s2 σ2 H3 L4 _ ?_⟩
      have exs : ∀ {H'}, Same H3 H' → ExM (fun a => a = D) H1 H' := fun {H'} z => ex.trans ((ExM.of sm).trans (.of z))
      cases e4 : k s2 with
      | no => rw [e4] at hrest; cases hrest
      | exc x s3 => rw [e4] at hrest; cases hrest
      | ok t s3 =>
        rw [e4] at hrest
        have h34 := ht.pu rfl s2 t s3 e4
        subst h34
        intro H4 f4 L5 m5
        have f4 : Same H3 H4 := f4
        cases t with
        | false =>
          rw [if_neg (by decide)]
          exact ⟨exs f4, kvs, zs, rest, f4 D _ (sm D _ hacc), Dmk.mono (.of f4) _ _ (Dmk.mono (.of sm) _ _ hzs), hzl, hrest, hys⟩
        | true =>
          rw [if_pos rfl]
          dsimp only at hrest
          refine hk.run (plus M0 D) s3 σ2 H4 L5 _ ?_
          cases e5 : fk s3 with
          | no => rw [e5] at hrest; cases hrest
          | exc x s4 => rw [e5] at hrest; cases hrest
          | ok y s4 =>
            rw [e5] at hrest; dsimp only at hrest
            have h45 := hk.pu rfl s3 y s4 e5
            subst h45
            intro yv H5 f5 L6 m6 hyv
            have f5 : Same H4 H5 := f5
            refine hv.run (plus M0 D) s4 σ2 H5 L6 _ ?_
            cases ek : kof y with
            | none => rw [ek] at hrest; cases hrest
            | some key =>
              rw [ek] at hrest
              cases e6 : fv s4 with
              | no => rw [e6] at hrest; cases hrest
              | exc x s5 => rw [e6] at hrest; cases hrest
              | ok z s5 =>
                rw [e6] at hrest
                have hrest : (dcP tf k fk fv (wipeS sB vs) (ds.drop (i + 1))).map ((key, z) :: ·) = some rest := hrest
                have h56 := hv.pu rfl s4 z s5 e6
                subst h56
                obtain ⟨rest', hr', rfl⟩ := Option.map_eq_some_iff.mp hrest
                intro zv H6 f6 L7 m7 hzv
                have f6 : Same H5 H6 := f6
                have hyk : yv = kV key := dm_kof ek hyv.no
                have hacc6 : H6 D = some (.dK kvs) := f6 D _ (f5 D _ (f4 D _ (sm D _ hacc)))
                have hzv : Dm c.Γ (Mo (c.at (plus M0 D)) s5 σ2) H6 z zv := hzv
                have hzv' : Dm c.Γ (Mo (c.at (plus M0 D)) sB σB) H6 z zv := Dm.anti (fun a z _ => z.elim .inl fun w => .inr ((o4' a).mpr w)) z zv hzv
                have z6 : Dmk c.Γ (Mo (c.at (plus M0 D)) sB σB) H6 zs kvs := Dmk.mono (.of f6) _ _ (Dmk.mono (.of f5) _ _ (Dmk.mono (.of f4) _ _ (Dmk.mono (.of sm) _ _ hzs)))
                have exu : ExM (Mo (c.at (plus M0 D)) sB σB) H6 (upd H6 D (.dK (putK kvs key zv))) := exm_upd hDM
                rw [List.length_cons] at hzl
                refine ⟨kvs, key, hyk, hacc6, by rw [z6.len]; exact Nat.lt_of_lt_of_le (by omega) (line_le (Nat.le_refl 1000000)), (exs fun a o h => f6 a o (f5 a o (f4 a o h))).trans (exm_upd rfl), putK kvs key zv, kput zs key z, rest', upd_same, (Dmk.mono exu _ _ z6).put (Dm.mono exu _ _ hzv'), ?_, hr', hys⟩
                have := kput_len zs key z
                omega
def dcE (fi : PM (List D)) (tf : TF) (k : PM Bool) (fk fv : PM D) (vs : List Nat) : PM D := fun s => match fi s with
  | .ok ds s1 => (match dcP tf k fk fv (wipeS s1 vs) ds with | some ps => if ps.length ≤ 1000000 then .ok (.dk (mergeD [] ps)) s1 else .no | none => .no)
  | .exc x s1 => .exc x s1
  | .no => .no
/-- from the walk's list -/
theorem pu_of {fi : PM (List D)} {h : List D → S → Option D} (hf : Pu pi fi) : Pu pi (fun s => match fi s with | .ok ds s1 => (match h ds s1 with | some d => .ok d s1 | none => .no) | .exc x s1 => .exc x s1 | .no => .no : PM D) := fun hp s d s' e => by
  dsimp only at e
  cases e1 : fi s with
  | no => rw [e1] at e; cases e
  | exc x s1 => rw [e1] at e; cases e
  | ok ds s1 =>
    rw [e1] at e; dsimp only at e
    have := hf hp s ds s1 e1
    subst this
    cases e2 : h ds s1 with
    | none => rw [e2] at e; cases e
    | some d => rw [e2] at e; cases e; rfl
theorem pu_dc {fi : PM (List D)} {tf : TF} {k : PM Bool} (hf : Pu pi fi) : Pu pi (dcE fi tf k fk fv vs) := fun hp s d s' e => by
  unfold dcE at e
  cases e1 : fi s with
  | no => rw [e1] at e; cases e
  | exc x s1 => rw [e1] at e; cases e
  | ok ds s1 =>
    rw [e1] at e; dsimp only at e
    have := hf hp s ds s1 e1
    subst this
    revert e
    split
    · split
      · intro e; cases e; rfl
      · intro e; cases e
    · intro e; cases e
theorem ve_dc {wi : TI} {fi : PM (List D)} {g : TG} {tf : TF} {sl : List Nat} {tt : TT} {k : PM Bool} (hi : VI c E pi mb wi fi) (hg : VG c sl g tf) (ht : VT c noE true tt k) (hk : VE c noE true .st tk fk) (hv : VE c noE true .st tv fv) (ho : okV c vs = true) (hsl : ∀ j ∈ sl, j ∈ vs) :
    VE c E pi .fr (tDc wi g tt tk tv vs) (dcE fi tf k fk fv vs) := ⟨pu_dc hi.pu, fun M0 s σ H L Q q => hi.run M0 s σ H L _ (by
  unfold dcE at q
  cases e1 : fi s with
  | no => rw [e1] at q; exact q
  | exc x s1 => rw [e1] at q; exact q
  | ok ds s1 =>
    rw [e1] at q; dsimp only at q
    intro J H1 f1 L1 m1 gv D hD
    have gv : Gv c.Γ (Mm (c.at M0) mb s1 σ) (Mo (c.at M0) s1 σ) J H1 ds := gv
    cases e2 : dcP tf k fk fv (wipeS s1 vs) ds with
    | none => rw [e2] at q; exact q.elim
    | some ps =>
      rw [e2] at q; dsimp only at q
      split at q
      · rename_i hlen
        have LD : Lv (c.at (Vl.plus M0 D)) s1 σ (upd H1 D (.dK [])) := Lw.lay L1 hD trivial
        have MD : ∀ b, Mo (c.at (Vl.plus M0 D)) s1 σ b ↔ Vl.plus (Mo (c.at M0) s1 σ) D b := fun b => mo_plus b
        have same1 : ∀ H2, ExM (fun a => a = D) (upd H1 D (.dK [])) H2 → Same H1 H2 := fun H2 ex a o ha => ex a o (fun z => by subst z; rw [hD] at ha; cases ha) (by rw [upd_ne (ne_of_none ha hD)]; exact ha)
        refine dc_loop (Fin := Q (.ref D)) hg ht hk hv ho hsl LD upd_same Dmk.nil gv (fun H2 ex => .of (same1 H2 ex)) (fun a z hn => ((MD a).mp z).elim id fun y => absurd (y ▸ hD) hn) e2 (by simpa using hlen) fun H2 kvs ex hacc hzs => ?_
        have L2' : Lv (c.at (Vl.plus M0 D)) s1 σ H2 := LD.foreign (c := c.at (Vl.plus M0 D)) (ex.imp fun a z => .inr z) fun a z => by
          by_cases y : a = D
          · subst y; exact ⟨_, hacc, trivial⟩
          · obtain ⟨o, h1, h2⟩ := LD.m0 a z
            exact ⟨o, ex a o y h1, h2⟩
        have lw := Lw.unaside L2'
        refine q _ H2 (by have z := f1.and (q := true) (N := Own (c.at M0) s σ) (Fr.of (same1 H2 ex)) fun _ z => z; rwa [Bool.and_true] at z) lw.lv m1 ⟨D, rfl, L1.notMo hD, .inr (fresh_back f1 hD), lw, ?_⟩
        simp only [Tp]
        exact ⟨kvs, hacc, hzs.anti' fun b z => (MD b).mpr z⟩
      · exact q.elim)⟩
/-! ### two walks -/
def dcP2 (tf : TF) (k : PM Bool) (fi1 : PM (List D)) (tf1 : TF) (k1 : PM Bool) (fk fv : PM D) (vs1 : List Nat) (b : S) : List D → Option (List (Key × D))
  | [] => some []
  | d :: ds => match tf d b with
    | none => none
    | some s1 => match k s1 with
      | .ok true s2 => (match fi1 s2 with
        | .ok es s3 => (match dcP tf1 k1 fk fv (wipeS s3 vs1) es with
          | some ps => (dcP2 tf k fi1 tf1 k1 fk fv vs1 b ds).map (ps ++ ·)
          | none => none)
        | _ => none)
      | .ok false _ => dcP2 tf k fi1 tf1 k1 fk fv vs1 b ds
      | _ => none
def dcE2 (fi : PM (List D)) (tf : TF) (k : PM Bool) (fi1 : PM (List D)) (tf1 : TF) (k1 : PM Bool) (fk fv : PM D) (vs vs1 : List Nat) : PM D := fun s => match fi s with
  | .ok ds s1 => (match dcP2 tf k fi1 tf1 k1 fk fv vs1 (wipeS s1 vs) ds with | some ps => if ps.length ≤ 1000000 then .ok (.dk (mergeD [] ps)) s1 else .no | none => .no)
  | .exc x s1 => .exc x s1
  | .no => .no
theorem pu_dc2 {fi fi1 : PM (List D)} {tf tf1 : TF} {k k1 : PM Bool} (hf : Pu pi fi) : Pu pi (dcE2 fi tf k fi1 tf1 k1 fk fv vs vs1) := fun hp s d s' e => by
  unfold dcE2 at e
  cases e1 : fi s with
  | no => rw [e1] at e; cases e
  | exc x s1 => rw [e1] at e; cases e
  | ok ds s1 =>
    rw [e1] at e; dsimp only at e
    have := hf hp s ds s1 e1
    subst this
    revert e
    split
    · split
      · intro e; cases e; rfl
      · intro e; cases e
    · intro e; cases e
theorem ve_dc2 {wi wi1 : TI} {fi fi1 : PM (List D)} {g g1 : TG} {tf tf1 : TF} {sl sl1 : List Nat} {tt tt1 : TT} {k k1 : PM Bool} (hi : VI c E pi mb wi fi) (hg : VG c sl g tf) (ht : VT c noE true tt k) (hi1 : VI c noE true .st wi1 fi1) (hg1 : VG c sl1 g1 tf1) (ht1 : VT c noE true tt1 k1) (hk : VE c noE true .st tk fk) (hv : VE c noE true .st tv fv) (ho : okV c vs = true) (hsl : ∀ j ∈ sl, j ∈ vs) (ho1 : okV c vs1 = true) (hsl1 : ∀ j ∈ sl1, j ∈ vs1) :
    VE c E pi .fr (tDc2 wi g tt wi1 g1 tt1 tk tv vs vs1) (dcE2 fi tf k fi1 tf1 k1 fk fv vs vs1) := ⟨pu_dc2 hi.pu, fun M0 s σ H L Q q => hi.run M0 s σ H L _ (by
  unfold dcE2 at q
  cases e1 : fi s with
  | no => rw [e1] at q; exact q
  | exc x s1 => rw [e1] at q; exact q
  | ok ds sB =>
    rw [e1] at q; dsimp only at q
    intro J H1 f1 L1 m1 gv D hD
    have gv : Gv c.Γ (Mm (c.at M0) mb sB σ) (Mo (c.at M0) sB σ) J H1 ds := gv
    cases e2 : dcP2 tf k fi1 tf1 k1 fk fv vs1 (wipeS sB vs) ds with
    | none => rw [e2] at q; exact q.elim
    | some ps =>
      rw [e2] at q; dsimp only at q
      split at q
      · rename_i hlen
        have LD : Lv (c.at (Vl.plus M0 D)) sB σ (upd H1 D (.dK [])) := Lw.lay L1 hD trivial
        have MD : ∀ b, Mo (c.at (Vl.plus M0 D)) sB σ b ↔ Vl.plus (Mo (c.at M0) sB σ) D b := fun b => mo_plus b
        have hDM : Mo (c.at (Vl.plus M0 D)) sB σ D := .inl (.inr rfl)
        have same1 : ∀ H2, ExM (fun a => a = D) (upd H1 D (.dK [])) H2 → Same H1 H2 := fun H2 ex a o ha => ex a o (fun z => by subst z; rw [hD] at ha; cases ha) (by rw [upd_ne (ne_of_none ha hD)]; exact ha)
        refine ⟨fun i m' H2 => i + m' = ds.length ∧ ExM (fun a => a = D) (upd H1 D (.dK [])) H2 ∧ ∃ kvs zs rest, H2 D = some (.dK kvs) ∧ Dmk c.Γ (Mo (c.at (Vl.plus M0 D)) sB σ) H2 zs kvs ∧ zs.length + rest.length ≤ 1000000 ∧ dcP2 tf k fi1 tf1 k1 fk fv vs1 (wipeS sB vs) (ds.drop i) = some rest ∧ mergeD zs rest = mergeD [] ps, ⟨ds.length, by omega, ExM.refl, [], [], ps, upd_same, Dmk.nil, by simpa using hlen, by rw [List.drop_zero]; exact e2, rfl⟩, ?_⟩
        rintro i m' H2 ⟨him, ex, kvs, zs, rest, hacc, hzs, hzl, hrest, hys⟩
        have exM : ExM (Mm (c.at M0) mb sB σ) H1 H2 := .of (same1 H2 ex)
        have L2' : Lv (c.at (Vl.plus M0 D)) sB σ H2 := LD.foreign (c := c.at (Vl.plus M0 D)) (ex.imp fun a z => .inr z) fun a z => by
          by_cases y : a = D
          · subst y; exact ⟨_, hacc, trivial⟩
          · obtain ⟨o, h1, h2⟩ := LD.m0 a z
            exact ⟨o, ex a o y h1, h2⟩
        cases m' with
        | zero =>
          have hi' : i = ds.length := by omega
          subst hi'
          rw [List.drop_length] at hrest
          cases hrest
          have lw := Lw.unaside L2'
          refine .inl ⟨gv.stop H2 exM, q _ H2 (by have z := f1.and (q := true) (N := Own (c.at M0) s σ) (Fr.of (same1 H2 ex)) fun _ z => z; rwa [Bool.and_true] at z) lw.lv m1 ⟨D, rfl, L1.notMo hD, .inr (fresh_back f1 hD), lw, ?_⟩⟩
          simp only [Tp]
          have hys : zs = mergeD [] ps := hys
          rw [← hys]
          exact ⟨kvs, hacc, hzs.anti' fun b z => (MD b).mpr z⟩
        | succ m' =>
          have hil : i < ds.length := by omega
          refine .inr ⟨gv.go i H2 exM hil, fun H' => ExM (fun a => a = D) (upd H1 D (.dK [])) H' ∧ ∃ kvs zs rest, H' D = some (.dK kvs) ∧ Dmk c.Γ (Mo (c.at (Vl.plus M0 D)) sB σ) H' zs kvs ∧ zs.length + rest.length ≤ 1000000 ∧ dcP2 tf k fi1 tf1 k1 fk fv vs1 (wipeS sB vs) (ds.drop (i + 1)) = some rest ∧ mergeD zs rest = mergeD [] ps, fun H' z => ⟨m', Nat.lt_succ_self _, by omega, z⟩, fun x H3 hy => ?_⟩
          obtain ⟨sm, d, hd, dm⟩ := gv.yld i H2 x H3 (Mo (c.at (Vl.plus M0 D)) sB σ) exM (fun a z hn => ((MD a).mp z).elim id fun y => absurd (y ▸ hD) hn) (fun a z hn => by obtain ⟨o, ho, _⟩ := L2'.alive z; rw [hn] at ho; cases ho) hil hy
          have L3 := L2'.mono sm
          have Lb : Lv (c.at (Vl.plus M0 D)) (wipeS sB vs) (wipe σ vs) H3 := (Lw.wipe (c := c.at (Vl.plus M0 D)) L3 ho).lv
          have ob := own_wipe (c := c.at (Vl.plus M0 D)) (s := sB) (σ := σ) ho
          rw [List.drop_eq_getElem_cons hil] at hrest
          have hd' : ds[i] = d := by rw [List.getElem?_eq_getElem hil] at hd; exact Option.some.inj hd
          rw [hd'] at hrest
          unfold dcP2 at hrest
          refine hg.run (Vl.plus M0 D) _ _ H3 x d Lb (Dm.anti (fun a z _ => z.elim .inl fun y => .inr ((ob a).mp y)) d x dm) _ ?_
          cases e3 : tf d (wipeS sB vs) with
          | none => rw [e3] at hrest; cases hrest
          | some s2 =>
            rw [e3] at hrest; dsimp only at hrest
            intro σ2 L4 o4 w4
            have o4' : ∀ a, Own (c.at (Vl.plus M0 D)) s2 σ2 a ↔ Own (c.at (Vl.plus M0 D)) sB σ a := fun a => (o4 a).trans (ob a)
            refine ⟨(wipe_ext (by rw [w4.l2]) fun j hj => w4.o2 j fun z => hj (hsl j z)).trans (wipe_ext (wipe_length σ vs) fun j hj => Vl.wipe_out hj), ht.run (Vl.plus M0 D) s2 σ2 H3 L4 _ ?_⟩
            have exs : ∀ {H'}, Same H3 H' → ExM (fun a => a = D) (upd H1 D (.dK [])) H' := fun {H'} z => ex.trans ((ExM.of sm).trans (.of z))
            cases e4 : k s2 with
            | no => rw [e4] at hrest; cases hrest
            | exc x s3 => rw [e4] at hrest; cases hrest
            | ok t s3 =>
              rw [e4] at hrest
              have h34 := ht.pu rfl s2 t s3 e4
              subst h34
              intro H4 f4 L5 m5
              have f4 : Same H3 H4 := f4
              cases t with
              | false =>
                rw [if_neg (by decide)]
                exact ⟨exs f4, kvs, zs, rest, f4 D _ (sm D _ hacc), Dmk.mono (.of f4) _ _ (Dmk.mono (.of sm) _ _ hzs), hzl, hrest, hys⟩
              | true =>
                rw [if_pos rfl]
                dsimp only at hrest
                refine hi1.run (Vl.plus M0 D) s3 σ2 H4 L5 _ ?_
                cases e5 : fi1 s3 with
                | no => rw [e5] at hrest; cases hrest
                | exc x s4 => rw [e5] at hrest; cases hrest
                | ok es s4 =>
                  rw [e5] at hrest; dsimp only at hrest
                  have h45 := hi1.pu rfl s3 es s4 e5
                  subst h45
                  cases e6 : dcP tf1 k1 fk fv (wipeS s4 vs1) es with
                  | none => rw [e6] at hrest; cases hrest
                  | some ps1 =>
                    rw [e6] at hrest; dsimp only at hrest
                    obtain ⟨rest', hr', rfl⟩ := Option.map_eq_some_iff.mp hrest
                    rw [List.length_append] at hzl
                    intro J1 H5 f5 L6 m6 gv1
                    have f5 : Same H4 H5 := f5
                    have gv1 : Gv c.Γ (Mo (c.at (Vl.plus M0 D)) s4 σ2) (Mo (c.at (Vl.plus M0 D)) s4 σ2) J1 H5 es := gv1
                    have hacc5 : H5 D = some (.dK kvs) := f5 D _ (f4 D _ (sm D _ hacc))
                    have mo : ∀ a, Mo (c.at (Vl.plus M0 D)) s4 σ2 a ↔ Mo (c.at (Vl.plus M0 D)) sB σ a := fun a => ⟨fun z => z.elim .inl fun y => .inr ((o4' a).mp y), fun z => z.elim .inl fun y => .inr ((o4' a).mpr y)⟩
                    have z5 : Dmk c.Γ (Mo (c.at (Vl.plus M0 D)) s4 σ2) H5 zs kvs := (Dmk.mono (.of f5) _ _ (Dmk.mono (.of f4) _ _ (Dmk.mono (.of sm) _ _ hzs))).anti' fun a z => (mo a).mp z
                    refine dc_loop hg1 ht1 hk hv ho1 hsl1 L6 hacc5 z5 gv1 (fun H7 ex7 => ex7.imp fun a z => .inl (.inr z)) (fun a z _ => z) e6 (by omega) fun H7 kvs7 ex7 hacc7 hz7 => ?_
                    refine ⟨(exs fun a o h => f5 a o (f4 a o h)).trans ex7, kvs7, mergeD zs ps1, rest', hacc7, hz7.anti' fun a z => (mo a).mpr z, ?_, hr', by rw [← mergeD_app]; exact hys⟩
                    have := mergeD_len ps1 zs
                    omega
      · exact q.elim)⟩
/-! ### as constructs -/
variable {kx vx tg iter tg1 iter1 : Expr} {ifs ifs1 : List Expr} {scope : Scope} {own : List (Str × Nat)} {fi fi1 : PM (List D)} {tf tf1 : TF} {k k1 : PM Bool} {sl sl1 : List Nat}
theorem me_dc (hc : X.calm = true) (hN : X.N.Nodup) (hi : MI X c E pi mb tg iter fi) (ok : BlkOk X.N X.env.scope scope own) (hg : ∀ s H C cl fp, MG (blkX X scope s H C cl fp) c sl tg tf) (ht : ∀ s H C cl fp, MTs (blkX X scope s H C cl fp) c noE true ifs k) (hk : ∀ s H C cl fp, ME (blkX X scope s H C cl fp) c noE true .st kx fk) (hv : ∀ s H C cl fp, ME (blkX X scope s H C cl fp) c noE true .st vx fv)
    (ho : okV c (own.map (·.2)) = true := by rfl) (hsl : ∀ j ∈ sl, j ∈ own.map (·.2) := by decide) (hs : ∀ x, foldedSetIterable iter X.env x = pure x := by intro _; rfl) : ME X c E pi .fr (.DictComp kx vx [⟨tg, iter, ifs, 0⟩] scope pos) (dcE fi tf k fk fv (own.map (·.2))) :=
  let ⟨_, x1, y1⟩ := hi.ex
  have s0 : Shared := X.s_0
  have z : Hp := fun _ => none
  ⟨_, pe_dc hc hN x1 ok (fun s H C cl fp => (hg s H C cl fp).can.1) (fun s H C cl fp => (ht s H C cl fp).ex.1) (fun s H C cl fp => (hk s H C cl fp).can.1) (fun s H C cl fp => (hv s H C cl fp).can.1) hs, ve_dc y1 (hg s0 z 0 [] []).can.2 (ht s0 z 0 [] []).ex.2 (hk s0 z 0 [] []).can.2 (hv s0 z 0 [] []).can.2 ho hsl⟩
/-- the inner walk's reading, as it is in any block -/
def canI (c : Ctx) (E : XK) (p : Bool) (m : Md) (f : PM (List D)) : TI := fun σ H R => ∃ M0 s, Lv (c.at M0) s σ H ∧ PoI (c.at M0) E p m s σ H R (f s)
theorem MI.can {f : PM (List D)} (h : MI X c E p m tg iter f) : PI X tg iter (canI c E p m f) ∧ VI c E p m (canI c E p m f) f := by
  obtain ⟨t, h1, h2⟩ := h.ex
  exact ⟨⟨fun pins s σ H R I ⟨M0, s0, L, q⟩ => h1.run pins s σ H R I (h2.run M0 s0 σ H L R q)⟩, h2.pu, fun M0 s σ H L R q => ⟨M0, s, L, q⟩⟩
theorem me_dc2 (hc : X.calm = true) (hN : X.N.Nodup) (hi : MI X c E pi mb tg iter fi) (ok : BlkOk X.N X.env.scope scope own) (hg : ∀ s H C cl fp, MG (blkX X scope s H C cl fp) c sl tg tf) (ht : ∀ s H C cl fp, MTs (blkX X scope s H C cl fp) c noE true ifs k) (hi1 : ∀ s H C cl fp, MI (blkX X scope s H C cl fp) c noE true .st tg1 iter1 fi1)
    (hg1 : ∀ s H C cl fp, MG (blkX X scope s H C cl fp) c sl1 tg1 tf1) (ht1 : ∀ s H C cl fp, MTs (blkX X scope s H C cl fp) c noE true ifs1 k1) (hk : ∀ s H C cl fp, ME (blkX X scope s H C cl fp) c noE true .st kx fk) (hv : ∀ s H C cl fp, ME (blkX X scope s H C cl fp) c noE true .st vx fv) (hvs : ∀ i ∈ vs1, i ∈ own.map (·.2) := by decide)
    (ho : okV c (own.map (·.2)) = true := by rfl) (hsl : ∀ j ∈ sl, j ∈ own.map (·.2) := by decide) (ho1 : okV c vs1 = true := by rfl) (hsl1 : ∀ j ∈ sl1, j ∈ vs1 := by decide) (hs : ∀ x, foldedSetIterable iter X.env x = pure x := by intro _; rfl) (hs1 : ∀ env x, foldedSetIterable iter1 env x = pure x := by intro _ _; rfl) :
    ME X c E pi .fr (.DictComp kx vx [⟨tg, iter, ifs, 0⟩, ⟨tg1, iter1, ifs1, 0⟩] scope pos) (dcE2 fi tf k fi1 tf1 k1 fk fv (own.map (·.2)) vs1) :=
  let ⟨_, x1, y1⟩ := hi.ex
  have s0 : Shared := X.s_0
  have z : Hp := fun _ => none
  ⟨_, pe_dc2 hc hN x1 ok hvs (fun s H C cl fp => (hg s H C cl fp).can.1) (fun s H C cl fp => (ht s H C cl fp).ex.1) (fun s H C cl fp => (hi1 s H C cl fp).can.1) (fun s H C cl fp => (hg1 s H C cl fp).can.1) (fun s H C cl fp => (ht1 s H C cl fp).ex.1) (fun s H C cl fp => (hk s H C cl fp).can.1) (fun s H C cl fp => (hv s H C cl fp).can.1) hs hs1, ve_dc2 y1 (hg s0 z 0 [] []).can.2 (ht s0 z 0 [] []).ex.2 (hi1 s0 z 0 [] []).can.2 (hg1 s0 z 0 [] []).can.2 (ht1 s0 z 0 [] []).ex.2 (hk s0 z 0 [] []).can.2 (hv s0 z 0 [] []).can.2 ho hsl ho1 hsl1⟩
end Vl

set_option Elab.async false
set_option linter.all false
set_option maxRecDepth 100000
set_option maxHeartbeats 2000000
/-! list(x) of a dict too; evaluation of what WA .. WE bring -/
namespace Vl
open PySem PySem.Spec L2
variable {Γ : KC} {m : Md} {X : Cx} {H : Hp}
def listAG : GD := fun ds => match ds with | [.dk ks] => some (.lst (keysG ks)) | _ => listG ds
def rListA (K : PySem.W.Frag) : RA := fun xs H Q => rListOf K xs H Q ∨ ∃ (a : Addr) (kvs : List (Key × V)), xs = [.ref a] ∧ Rd H a (.dK kvs) ∧ ∀ p, H p = none → Q (.ref p) (upd H p (.lst (kvs.map fun kv => kV kv.1)))
theorem call_listA (hc : X.calm = true) : CallR X (.type "list") (rListA X.K) := call_list_of.or (call_listD hc)
theorem dms_keys {M : Addr → Prop} : ∀ {ks : List (Key × D)} {kvs : List (Key × V)}, kvs.map (·.1) = ks.map (·.1) → Dms Γ M H (keysG ks) (kvs.map fun kv => kV kv.1)
  | [], [], _ => Dms.nil
  | [], _ :: _, e => by cases e
  | _ :: _, [], e => by cases e
  | (k, d) :: ks, (k', v) :: kvs, e => by
    rw [List.map_cons, List.map_cons] at e
    obtain ⟨e1, e2⟩ := List.cons.inj e
    have e1 : k' = k := e1
    subst e1
    exact Dms.cons dm_kD (dms_keys e2)
theorem rf_listA : RF Γ (rListA Γ.K) listAG := fun M ds vs d H hv e Q q => by
  unfold listAG at e
  split at e
  · cases e
    obtain ⟨x, rfl, h1⟩ := hv.one
    obtain ⟨a, kvs, rfl, _, h4, h5⟩ := dm_dk h1
    refine .inr ⟨a, kvs, rfl, h4, fun p hp => q p _ hp ?_⟩
    simp only [Tp]
    exact ⟨_, upd_same, dms_keys h5.keys⟩
  · exact .inl (rf_listOf M ds vs d H hv e Q q)
theorem cl_listA : Cl Γ (rListA Γ.K) listAG .st .fr := .f rf_listA
theorem cl_listAN : Cl Γ (rListA Γ.K) listAG m .now := .n rf_listA.rm
@[simp] theorem listAG_l {xs : List D} : listAG [.lst xs] = some (.lst xs) := rfl
@[simp] theorem listAG_t {xs : List D} : listAG [.tup xs] = some (.lst xs) := rfl
@[simp] theorem listAG_d {ks : List (Key × D)} : listAG [.dk ks] = some (.lst (keysG ks)) := rfl
@[simp] theorem itLG_d {ks : List (Key × D)} : itLG [.dk ks] = some (.lst (itmsG ks)) := rfl
theorem sortedAG_i {ns : List Int} : sortedAG [.lst (ns.map .int)] = some (.lst ((srtL ns).map .int)) := by
  show (match toInts (ns.map D.int) with | some ns => _ | none => _) = _
  rw [toInts_map]
theorem toInts_prs {p : Int × Int} {ps : List (Int × Int)} : toInts (((p :: ps).map pairI)) = none := by
  simp [pairI, toInts]
theorem sortedAG_p {ps : List (Int × Int)} : sortedAG [.lst (ps.map pairI)] = some (.lst ((srtP ps).map pairI)) := by
  cases ps with
  | nil => simp [sortedAG, toInts, srtL, srtP]
  | cons p ps =>
    show (match toInts ((p :: ps).map pairI) with | some ns => some (D.lst ((srtL ns).map .int)) | none => (toPrs ((p :: ps).map pairI)).map fun ps => .lst ((srtP ps).map pairI)) = _
    rw [toInts_prs, toPrs_map]
    rfl
end Vl

set_option Elab.async false
set_option linter.all false
set_option maxRecDepth 100000
set_option maxHeartbeats 2000000
/-! dict(t) of a tuple of pairs; attributes of owned things; calls of methods that change; default values -/
namespace Vl
open PySem PySem.Spec L2
open PyProof.Rows (envOfC)
variable {s s' s1 s2 : S} {σ : St} {H H' H1 H2 : Hp} {pb : Bool} {i : Nat} {e : Expr} {pos' : Pos} {c : Ctx} {M N : Addr → Prop} {v : V} {d : D} {X : Cx} {E : XK} {a : Expr} {fa : PM D} {pos : Pos} {p pa : Bool} {m mb : Md} {Γ : KC}
theorem pairs_two {pins : List (Addr × Obj)} {s : Shared} (I : Inv X pins σ H s) : ∀ {ps : List Addr} {kvs : List (Key × V)}, Paired (fun p kv => SqT X.K H p [kV kv.1, kv.2]) ps kvs →
    ∃ (prs : List (Key × Value)) (ps2 : List (Value × Value)), KV kvs prs ∧ prs.length = ps.length ∧ ps2.length = ps.length ∧ ∀ (j : Nat) (k v : Value), ps2[j]? = some (k, v) → ∃ (b : Addr) (q : Key), ps[j]? = some b ∧ s.heap.IsTuple b #[k, v] ∧ prs[j]? = some (q, v) ∧ keyIs q k = true
  | _, _, .nil => ⟨[], [], .nil, rfl, rfl, fun j k v e => by simp at e⟩
  | _, _, .cons (a := p) (b := kv) h t => by
    obtain ⟨prs, ps2, r, hl, hl2, hp⟩ := pairs_two I t
    obtain ⟨its, rv, ht, _⟩ := I.tuple h
    obtain ⟨u, y, ei, ru, ry⟩ := vals2 rv
    subst ei
    refine ⟨(kv.1, y) :: prs, (u, y) :: ps2, .cons ⟨rfl, ry⟩ r, by rw [List.length_cons, List.length_cons, hl], by rw [List.length_cons, List.length_cons, hl2], fun j k v e => ?_⟩
    cases j with
    | zero =>
      have e' : (u, y) = (k, v) := Option.some.inj e
      cases e'
      exact ⟨p, kv.1, rfl, ht, rfl, kV_is (P := X.prog) (w := X.w) ru⟩
    | succ j =>
      obtain ⟨b, q, e1, e2, e3, e4⟩ := hp j k v (by simpa using e)
      exact ⟨b, q, by simpa using e1, e2, by simpa using e3, e4⟩
/-- a plain tuple, tracked or written -/
def PlK (K : PySem.W.Frag) (H : Hp) (a : Addr) (xs : List V) : Prop := PlT H a xs ∨ ∃ (o : Obj) (its : Array Value) (n : Nat), K.lookup a = some o ∧ o.cls = .type "tuple" ∧ o.data = .seq its n ∧ its.size ≤ sizeLine ∧ Vals xs its.toList ∧ o.dict = none
theorem PlK.get {pins : List (Addr × Obj)} {s : Shared} {a : Addr} {xs : List V} (I : Inv X pins σ H s) (h : PlK X.K H a xs) : ∃ (o : Obj) (its : List Value) (n : Nat), s.heap.get? a = some o ∧ o.cls = .type "tuple" ∧ o.dict = none ∧ o.data = .seq its.toArray n ∧ Vals xs its ∧ xs.length ≤ sizeLine := by
  rcases h with ⟨o, ho, hq⟩ | ⟨o, its, n, h1, h2, h3, h4, h5, h6⟩
  · obtain ⟨hg, hz, its, rv, o', hg', hc, n, hdat⟩ := I.hok a _ hq
    rw [hg] at hg'
    cases hg'
    exact ⟨o, its, n, hg, hc, ho, hdat, rv, hz⟩
  · exact ⟨o, its.toList, n, I.kIn a _ h1, h2, h6, by simpa using h3, h5, by rw [h5.length]; simpa using h4⟩
def rDictT (K : PySem.W.Frag) : RA := fun xs H Q => ∃ (a : Addr) (ps : List Addr) (kvs : List (Key × V)), xs = [.ref a] ∧ PlK K H a (ps.map V.ref) ∧ Paired (fun p kv => SqT K H p [kV kv.1, kv.2]) ps kvs ∧
    ∀ p, H p = none → Q (.ref p) (upd H p (.dK (mergeK [] kvs)))
theorem call_dictT (hcalm : X.calm = true) : CallR X (.type "dict") (rDictT X.K) := by
  intro pins s σ H xs us Q I r q
  obtain ⟨a, ps, kvs, ex, hq, hp, q⟩ := q
  subst ex
  obtain ⟨u, eu, rx⟩ := vals1 r
  subst eu
  cases rx
  obtain ⟨o, its, n, hg, hc, ho, hdat, rv, hz⟩ := hq.get I
  have ei := refs_at rv
  subst ei
  rw [List.length_map] at hz
  obtain ⟨prs, ps2, rel, hl, hl2, hpr⟩ := pairs_two I hp
  have e1 : ∀ j, j < ps.length → ps[j]? = some (ps.getD j 0) := fun j hj => by rw [List.getD_eq_getElem?_getD, List.getElem?_eq_getElem hj]; rfl
  have ok : PlainSeq "tuple" s.heap a (ps.map Value.ref).toArray ∧ PairItems s.heap (ps.map Value.ref).toArray (fun j => ps.getD j 0) ps2 :=
    ⟨⟨o, n, hg, hc, ho, hdat⟩, by simp [hl2], fun j k v e => by
      obtain ⟨b, q', z1, z2, _, _⟩ := hpr j k v e
      have z3 : ps.getD j 0 = b := by rw [List.getD_eq_getElem?_getD, z1]; rfl
      dsimp only
      rw [z3]
      exact ⟨by simp [z1], .inl z2⟩⟩
  refine _root_.PySem.call_dict_pairs (knd := mixKind X.prog X.w) (kvs := prs) (PairArg.tuple a (ps.map Value.ref).toArray (fun j => ps.getD j 0) ps2) (I.ok.hd hcalm) ok ⟨by rw [hl, hl2], fun j k v e => ?_⟩ (by rw [hl2]; exact hz) fun h' tk hd' k => ?_
  · obtain ⟨b, q', _, _, z3, z4⟩ := hpr j k v e
    exact ⟨q', z3, z4⟩
  · have hm : (s.heap.objs.size == sysModules) = false := beq_eq_false_iff_ne.mpr (Nat.ne_of_gt I.big)
    have hlen : (mergeK [] kvs).length ≤ sizeLine := by
      refine Nat.le_trans (length_mergeK kvs []) ?_
      rw [List.length_nil, Nat.zero_add, rel.length, hl]
      exact hz
    exact ⟨.ref s.heap.objs.size, upd H s.heap.objs.size (.dK (mergeK [] kvs)), I.laid (t' := tk) (fun b o e => k b o (by simp) e) (Nat.le_refl _) (show ObjOk X.prog X.w _ _ _ (.dK (mergeK [] kvs)) from ⟨hlen, hm, merged [] prs, KV.merge rel .nil, hd'⟩), rfl, q _ (I.hok.fresh (Nat.le_refl _))⟩
def dictAG : GD := fun ds => match ds with | [.tup ds] => (pairsD ds).map fun ks => .dk (mergeD [] ks) | _ => dictG ds
def rDictA (K : PySem.W.Frag) : RA := fun xs H Q => rDict K xs H Q ∨ rDictT K xs H Q
theorem call_dictB (hc : X.calm = true) : CallR X (.type "dict") (rDictA X.K) := (call_dictA hc).or (call_dictT hc)
theorem pairs_nds : ∀ {ds : List D} {ks : List (Key × D)}, pairsD ds = some ks → nds ds = true
  | [], _, _ => rfl
  | d :: ds, ks, e => by
    unfold pairsD at e
    split at e
    · rename_i heq; cases heq
    · rename_i heq; cases heq; rfl
    · cases e
theorem cl_dictA : Cl Γ (rDictA Γ.K) dictAG .st .fr := .f fun M ds vs d H hv e Q q => by
  unfold dictAG at e
  split at e
  · obtain ⟨ks, e1, rfl⟩ := Option.map_eq_some_iff.mp e
    obtain ⟨x, rfl, h1⟩ := hv.one
    simp only [Dm] at h1
    obtain ⟨a, ys, rfl, h4, h5⟩ := h1
    obtain ⟨ps, kvs, rfl, h6, h7⟩ := pairs_run h5 e1
    rw [pairs_nds e1] at h4
    have h8 : PlK Γ.K H a (ps.map V.ref) := by
      rcases h4 with ⟨_, h | ⟨h, _⟩⟩ | h
      · exact .inl h
      · cases h
      · exact .inr h
    refine .inr ⟨a, ps, kvs, rfl, h8, h6, fun p hp => q p _ hp ?_⟩
    simp only [Tp]
    exact ⟨_, upd_same, Dmk.merge Dmk.nil (Dmk.mono (.of (same_new hp)) _ _ h7)⟩
  · exact .inl (rf_dict M ds vs d H hv e Q q)
@[simp] theorem dictAG_l {xs : List D} : dictAG [.lst xs] = dictG [.lst xs] := rfl
@[simp] theorem dictAG_d {xs : List (Key × D)} : dictAG [.dk xs] = some (.dk xs) := rfl
@[simp] theorem dictAG_t {xs : List D} : dictAG [.tup xs] = (pairsD xs).map fun ks => .dk (mergeD [] ks) := rfl
/-! ### attributes of what a slot owns -/
theorem ve_fldO {cs : List Str} {f : Str} (k : FldOk c.Γ cs f) (ho : c.ow i = true) : VE c E true .st (tUn (rFld c.Γ.K f) (tVar i)) (op1 (fldG cs f) (gts i)) := ⟨by
    have z := (Pu.getS (p := true) (i := i)).bnd (q := true) (g := fun x => lft (fldG cs f [x])) fun x => Pu.lift
    exact z, fun M0 s σ H L Q q => by
  unfold op1 at q
  cases e0 : s[i]? with
  | none => rw [bnd_no (by unfold gts; rw [e0])] at q; exact q.elim
  | some x0 =>
    cases x0 with
    | none => rw [bnd_no (by unfold gts; rw [e0])] at q; exact q.elim
    | some o =>
      rw [bnd_ok (getS_ok e0)] at q
      obtain ⟨a, ea, na, t⟩ := L.own i o e0 ho
      unfold lft at q
      cases e1 : fldG cs f [o] with
      | none => rw [e1] at q; exact q.elim
      | some d =>
        rw [e1] at q
        unfold fldG at e1
        split at e1
        · rename_i C fs heq
          cases heq
          split at e1
          · rename_i hC
            simp only [Tp] at t
            obtain ⟨A, dx, gs, hA, hH, hf⟩ := t
            obtain ⟨w, e2, h4⟩ := Dmf.lookup hf e1
            obtain ⟨k1, k2⟩ := k C hC A hA
            exact ⟨_, ea, a, A, dx, gs, w, rfl, hH, k1, k2, e2, q w H Fr.refl L (fun _ z => z) h4⟩
          · cases e1
        · cases e1⟩
theorem me_fldO {cs : List Str} {f : Str} {o : Expr} (k : FldOk c.Γ cs f) (hp : PE X o (tVar i)) (ho : c.ow i = true := by rfl) (hK : X.K = c.Γ.K := by rfl) (hb : attributeBase o f X.env (eval o X.env) = eval o X.env := by rfl) :
    ME X c E true .st (.Attribute o f pos) (op1 (fldG cs f) (gts i)) := ⟨_, pe_fld hp hb, by rw [hK]; exact ve_fldO k ho⟩
/-! ### o.m(..), o a name that owns, m changes it -/
def tConM (C : Addr) (mn : Str) (i : Nat) (tl : TA) : TA := fun σ H Q => tVar i σ H fun x H1 => ∃ a dx fs, x = .ref a ∧ H1 a = some (.ins C dx fs) ∧ fs.lookup mn = none ∧ tl σ H1 fun vs H2 => Q (x :: vs) H2
theorem vq_consM {C : Addr} {Cn mn : Str} {ks : List (Option Nat)} {tl : TA} {fl : PM (List D)} (hC : c.Γ.cl Cn = some C) (ho : c.ow i = true) (hr : VQ c E pb ks tl fl) : VQ c E pb (some i :: ks) (tConM C mn i tl) (consA (op1 (insG Cn mn) (gts i)) fl) := ⟨fun M0 s σ H L Q q => by
  unfold consA op1 at q
  cases e0 : s[i]? with
  | none => rw [bnd_no (bnd_no (by unfold gts; rw [e0]))] at q; exact q.elim
  | some x0 =>
    cases x0 with
    | none => rw [bnd_no (bnd_no (by unfold gts; rw [e0]))] at q; exact q.elim
    | some d0 =>
      obtain ⟨a, ea, na, t⟩ := L.own i d0 e0 ho
      cases e1 : insG Cn mn [d0] with
      | none => rw [bnd_no (by rw [bnd_ok (getS_ok e0)]; unfold lft; rw [e1])] at q; exact q.elim
      | some d1 =>
        rw [bnd_ok (a := d1) (s' := s) (by rw [bnd_ok (getS_ok e0)]; unfold lft; rw [e1])] at q
        unfold insG at e1
        split at e1
        · rename_i B fs heq
          cases heq
          obtain ⟨⟨rfl, h2⟩, rfl⟩ := if_some e1
          simp only [Tp] at t
          obtain ⟨A, dx, gs, hA, hH, hf⟩ := t
          rw [show (c.at M0).Γ.cl B = some C from hC] at hA
          cases hA
          refine ⟨_, ea, a, dx, gs, rfl, hH, Dmf.lookN hf h2, hr.run M0 s σ H L _ ?_⟩
          cases e2 : fl s with
          | no => rw [bnd_no e2] at q; exact q
          | exc x s2 => rw [bnd_exc e2] at q; exact q
          | ok ds s2 =>
            rw [bnd_ok e2] at q
            exact fun vs H2 f2 L2 m2 h2 => q _ H2 f2 L2 m2 ⟨_, ds, _, vs, rfl, rfl, ea, h2⟩
        · cases e1⟩
section
variable {CX : CXT} {k : Nat} {C f : Addr} {fd : FuncData} {ps : List Str} {apos : Pos} {es : List Expr} {o : Expr} {mn Cn : Str} {ks : List (Option Nat)} {F : List D → OF} {fl : PM (List D)}
theorem me_methQ {pl : Sem Bool} (c1 : Cls X.K C) (hm : Meth X.K C mn f) (G : FnG X.prog X.w X.K X.mg X.base CX k f fd ps (spM c.Γ ((some i :: ks).map kd) m F)) (hG : NoRepr X) (hr : Room k X.A) (hb : Binds X.K fd ps []) (hx : Passes CX X E)
    (hC : c.Γ.cl Cn = some C) (ho : PE X o (tVar i)) (ha : MQ X c E p ks (e :: es) fl) (hq : okQ c (some i :: ks) = true := by rfl) (hmd : m = .st ∨ m = .fr := by first | exact .inl rfl | exact .inr rfl)
    (hst : starEach (e :: es) X.env = (false, eval e X.env) :: starEach es X.env := by rfl) (hpl : (backTo pos (starEach es X.env)).any (·.1) = false := by rfl)
    (ht : eval (.Call (.Attribute o mn apos) (e :: es) [] pos) X.env = (do
      let ov ← eval o X.env
      standAt apos.atName
      let (f, first) ← holding [ov] (getMethod ov mn pl)
      callWith pos f first (backTo pos (starEach (e :: es) X.env)) (backToKw pos (keywordEach [] X.env))) := by rfl) :
    ME X c E false m (.Call (.Attribute o mn apos) (e :: es) [] pos) (callQ (some i :: ks) F (consA (op1 (insG Cn mn) (gts i)) fl)) :=
  have hi : c.ow i = true := by
    unfold okQ at hq
    rw [Bool.and_eq_true] at hq
    exact List.all_eq_true.mp hq.1 i (by simp [ioIx])
  let ⟨_, x2, y2⟩ := ha.ex; ⟨_, pe_methG ho c1 hm G hG hr hb hx x2 hst hpl ht, ve_callQ (vq_consM (mn := mn) hC hi y2) hq hmd⟩
theorem me_methQ0 {pl : Sem Bool} (c1 : Cls X.K C) (hm : Meth X.K C mn f) (G : FnG X.prog X.w X.K X.mg X.base CX k f fd ps (spM c.Γ [.fr] m F)) (hG : NoRepr X) (hr : Room k X.A) (hb : Binds X.K fd ps []) (hx : Passes CX X E)
    (hC : c.Γ.cl Cn = some C) (ho : PE X o (tVar i)) (hi : c.ow i = true := by rfl) (hmd : m = .st ∨ m = .fr := by first | exact .inl rfl | exact .inr rfl)
    (ht : eval (.Call (.Attribute o mn apos) [] [] pos) X.env = (do
      let ov ← eval o X.env
      standAt apos.atName
      let (f, first) ← holding [ov] (getMethod ov mn pl)
      callWith pos f first (backTo pos (starEach [] X.env)) (backToKw pos (keywordEach [] X.env))) := by rfl) :
    ME X c E false m (.Call (.Attribute o mn apos) [] [] pos) (callQ [some i] F (consA (op1 (insG Cn mn) (gts i)) (pur []))) :=
  ⟨_, pe_methG0 ho c1 hm G hG hr hb hx ht, ve_callQ (ks := [some i]) (vq_consM (mn := mn) hC hi vq_nil) (by unfold okQ; simp [ioIx, hi]) hmd⟩
/-! ### a call that leaves the last values to the defaults -/
def tApp (tl : TA) (dvs : List V) : TA := fun σ H Q => tl σ H fun vs H1 => Q (vs ++ dvs) H1
def appA (fl : PM (List D)) (cds : List D) : PM (List D) := bd fl fun ds => pur (ds ++ cds)
theorem va_app {tl : TA} {fl : PM (List D)} {cds : List D} {dvs : List V} (h : VA c E p m tl fl) (hc : ∀ M H, Dms c.Γ M H cds dvs) : VA c E p m (tApp tl dvs) (appA fl cds) := ⟨by
    have z := h.pu.bnd (q := true) (g := fun ds => pur (ds ++ cds)) fun xs => Pu.rt
    rw [Bool.and_true] at z; exact z, fun M0 s σ H L Q q => h.run M0 s σ H L _ (by
  unfold appA at q
  cases e1 : fl s with
  | no => rw [bnd_no e1] at q; exact q
  | exc x s1 => rw [bnd_exc e1] at q; exact q
  | ok ds s1 =>
    rw [bnd_ok e1] at q
    intro vs H1 f1 L1 m1 h1
    refine q _ H1 f1 L1 m1 ?_
    cases m with
    | now => exact Dms.append h1 (hc _ _)
    | st => exact Dms.append h1 (hc _ _)
    | fr => exact h1.elim)⟩
theorem tCall_app {sp : Sp} {dvs : List V} {tl : TA} : tCall sp dvs E tl = tCall sp [] E (tApp tl dvs) := by
  funext σ H Q
  unfold tCall tApp
  simp only [List.append_nil]
theorem me_callD {n : Nat} {x : Str} {p0 : Pos} {ma : Md} {cds : List D} {dvs : List V} {ds : List Value} (G : FnG X.prog X.w X.K X.mg X.base CX k f fd ps (spM c.Γ (List.replicate n .st) m F)) (hG : NoRepr X) (hr : Room k X.A) (hg : Gl X x) (hmg : X.mg x = some (.ref f)) (hk : PySem.W.keepIn X.K (.ref f) = true) (hb : Vals dvs ds ∧ Binds X.K fd ps ds) (hx : Passes CX X E)
    (hc : ∀ M H, Dms c.Γ M H cds dvs) (ck : CK ma m mb) (ha : MA X c E p ma (e :: es) fl) (hdb : (x == ("__debug__" : Str)) = false := by decide) (he : starEach (e :: es) X.env = (false, eval e X.env) :: starEach es X.env := by rfl)
    (hpl : (backTo pos (starEach es X.env)).any (·.1) = false := by rfl) : ME X c E p mb (.Call (.Name x p0) (e :: es) [] pos) (callM n F (appA fl cds)) :=
  let ⟨_, x1, y1⟩ := ha.ex; ⟨_, pe_callG G hG hr hg hmg hk hb.2 hb.1 hx x1 hdb he hpl, by rw [tCall_app]; exact ve_call (va_app y1 hc) ck.out⟩
end
theorem fun_okGD {P : Program} {w : World} {K : PySem.W.Frag} {mg : Str → Option Value} {base : Heap} {x qual : Str} {st : Stmt} {dvs : List V} {kws : List (Str × V)} {f : Addr} {fd : FuncData} {N ps : List Str} {k : Nat} {sp : Sp}
    (F : FunD K x qual (defArgs st) (defBody st) (defScope st) dvs kws f fd) (S : FnScope N ps (defScope st)) (ln : ∀ ys G R E, sp ys G R E → ys.length = ps.length)
    (hbody : ∀ (cdv : Value) (A : Around) (outer : List Env) (s : Shared) (G : Hp) (ys : List V) (R : VK) (E : XK), A.guards = some [] →
      Room k (A.deeper (envOfC qual (defScope st) s.heap.objs.size f cdv)) → sp ys G R E →
      ∃ t, PSs (cxOf CX0 P w K mg base N qual (defScope st) f cdv A outer s G E).nox (defBody st) t ∧ t { nx := fun _ G' => R .non G', rt := R } (start N ys) G) :
    FnG P w K mg base CX0 (k + 1) f fd ps sp := by
  obtain ⟨oc, od, dV, kV, doc, pm, an, cdv, ct, osl, rfl, lk, hcd, _⟩ := F.ex
  refine fnG_of lk hcd S ln fun A outer s G ys R E hg hr hsp => ?_
  obtain ⟨t, h, z⟩ := hbody cdv A outer s G ys R E hg hr hsp
  exact ⟨t, h.nox, z⟩
/-- a def with defaults by its body -/
theorem fn_mkD {P : Program} {w : World} {mg : Str → Option Value} {base : Heap} {x qual : Str} {st : Stmt} {dvs : List V} {kws : List (Str × V)} {f : Addr} {fd : FuncData} {N ps : List Str} {k : Nat} {ow : List Nat} {ms : List Md} {g : S → SO} {Γ : KC} (F : FunD Γ.K x qual (defArgs st) (defBody st) (defScope st) dvs kws f fd) (S : FnScope N ps (defScope st)) (hps : ms.length = ps.length) (hN : ms.length ≤ N.length) (hm : m ≠ .now) (ho : okP ow ms = true)
    (hbody : ∀ (cdv : Value) (A : Around) (outer : List Env) (s : Shared) (G : Hp) (ys : List V) (R : VK) (E : XK), A.guards = some [] → Room k (A.deeper (envOfC qual (defScope st) s.heap.objs.size f cdv)) →
      MSs (cxOf CX0 P w Γ.K mg base N qual (defScope st) f cdv A outer s G E).nox (ctxOf Γ ow ms ys) E m (defBody st) g) :
    FnG P w Γ.K mg base CX0 (k + 1) f fd ps (spM Γ ms m (runF N.length ms m g)) :=
  fun_okGD F S (fun vs H Q E h => spM_len ps.length hps h) fun cdv A outer s G ys R E hg hr h => by
    obtain ⟨t, h1, h2⟩ := (hbody cdv A outer s G ys R E hg hr).ex
    exact ⟨t, h1, ask_body hm ho hN h h2⟩
/-- own classes by their names in the module -/
def clG (K : PySem.W.Frag) (n : Str) : Option Addr := match PySem.W.nsIn K mainGlobals n with
  | some (some (.ref a)) => some a
  | _ => none
abbrev ctG (K : PySem.W.Frag) : KC := ⟨K, clG K⟩
theorem bind_full {K : PySem.W.Frag} {fd : FuncData} {ps : List Str} {ds : List Value} (h : Vals [] ds) (b : Binds K fd ps ds) : Binds K fd ps [] := by cases h; exact b
theorem clG_of {K : PySem.W.Frag} {n : Str} {a : Addr} (h : PySem.W.nsIn K mainGlobals n = some (some (.ref a))) : clG K n = some a := by unfold clG; rw [h]
end Vl

set_option Elab.async false
set_option linter.all false
set_option maxRecDepth 100000
set_option maxHeartbeats 2000000
/-! sorted(t), len(set(t)) of a tuple of ints -/
namespace Vl
open PySem PySem.Spec L2 StX
open PyProof.Rows (IntsAre seqObj size_push')
variable {c : Ctx} {M N : Addr → Prop} {H : Hp} {v : V} {d : D} {X : Cx} {E : XK} {a : Expr} {fa : PM D} {p q pos : Pos} {pa : Bool} {m mb : Md} {Γ : KC} {σ : L2.St}
def rSortedTI (K : PySem.W.Frag) : RA := fun vs H Q => ∃ (a : Addr) (ns : List Int), vs = [V.ref a] ∧ SqT K H a (ns.map V.int) ∧
  ∀ (ns' : List Int) (p : Addr), ns'.Perm ns → ns'.Pairwise (· ≤ ·) → H p = none → Q (.ref p) (upd H p (.lst (ns'.map V.int)))
theorem call_sortedTI : CallR X (.builtin "sorted") (rSortedTI X.K) := by
  intro pins s σ H xs us Q I r q
  obtain ⟨a, ks, ex, hd, q⟩ := q
  subst ex
  rw [Vals.ref1 r]
  obtain ⟨its, rv, ⟨o, ho, hc, n, hdat⟩, hz⟩ := I.tuple hd
  have hS : IntsAre its ks := rv.ints
  have hl : its.length = ks.length := by rw [← rv.length, List.length_map]
  have h16 : its.length ≤ sizeLine := by rw [← rv.length]; exact hz
  refine Calls.call_function_entry PyProof.Rows.kind_sorted PyProof.Rows.plain_sorted PyProof.Rows.entry_sorted (PyProof.Rows.args_sorted1 _) ?_
  unfold Builtin.«sorted»
  refine wpAny_bind (m := checkCount "sorted" 1 1 _) (wpAny_pure ?_)
  refine wpAny_bind (wpAny_collect_seq a (.inr rfl) ho hc hdat (fun h' hk => ?_) (by rw [List.size_toArray]; exact h16))
  have I1 : Inv X pins σ H { s with heap := h' } := I.kept (t' := s.toks) hk
  show wpAny _ _ _ _ _ { s with heap := h' }
  have e0 : its.toArray.toList = its := by simp
  rw [e0]
  refine wpAny_bind (wpAny_newList ?_ h16)
  have hoL : (h'.push (seqObj "list" its.toArray 0)).get? h'.objs.size = some (seqObj "list" its.toArray 0) := Heap.get?_push_size _ rfl
  show wpAny _ _ _ _ _ { s with heap := h'.push (seqObj "list" its.toArray 0) }
  refine wpAny_bind (wpAny_holding (wpAny_call_entry PyProof.Rows.slot_list_sort ⟨_, hoL, rfl⟩ PyProof.Rows.entry_list_sort
    (SrtO.list_sort_ord (s := { s with heap := h'.push (seqObj "list" its.toArray 0) }) SrtO.swo_int hoL h16 (fun h2 => SrtO.ints_sortable hS h2) fun out h1 h2 => ⟨.none, rfl, ?_⟩) (PyProof.Rows.args_list_sort _)))
  obtain ⟨k1, k2, k3⟩ := SrtO.ints_out hS h1 h2
  obtain ⟨e', he'⟩ := PyProof.Rows.sortedHeap_at (vs := its) (out := out.toArray) hoL
  have hlen : ((out.map SrtO.iv).map V.int).length ≤ sizeLine := by
    rw [List.length_map, k2.length_eq, ← hl]
    exact h16
  refine wpAny_pure ⟨_, rfl, .ref h'.objs.size, upd H h'.objs.size (.lst ((out.map SrtO.iv).map V.int)), I1.laid (t' := s.toks) (fun b u e => ?_) (Nat.le_refl _)
    (show ObjOk X.prog X.w _ _ _ (.lst ((out.map SrtO.iv).map V.int)) from ⟨hlen, out, e', vals_of_ints k1, he'⟩), rfl, q _ _ k2 k3 (I1.hok.fresh (Nat.le_refl _))⟩
  have hb : b < h'.objs.size := Heap.lt_size e
  rw [PyProof.Rows.sortedHeap_old (Nat.ne_of_lt hb) (by rw [size_push']; exact Nat.lt_succ_of_lt hb)]
  exact Heap.get?_push_of_some _ e
def sortedBG : GD := fun ds => match ds with
  | [.tup ds] => (toInts ds).map fun ns => .lst ((srtL ns).map .int)
  | _ => sortedAG ds
def rSortedB (K : PySem.W.Frag) : RA := fun xs H Q => rSortedA K xs H Q ∨ rSortedTI K xs H Q
theorem call_sortedB (hc : X.calm = true) : CallR X (.builtin "sorted") (rSortedB X.K) := (call_sortedA hc).or call_sortedTI
theorem cl_sortedB : Cl Γ (rSortedB Γ.K) sortedBG .st .fr := .f fun M ds vs d H hv e Q q => by
  unfold sortedBG at e
  split at e
  · obtain ⟨ns, e1, rfl⟩ := Option.map_eq_some_iff.mp e
    obtain ⟨x, rfl, h1⟩ := hv.one
    simp only [Dm] at h1
    obtain ⟨a, xs, rfl, h2, h3⟩ := h1
    have := toInts_eq e1
    subst this
    have := dms_ints h3
    subst this
    refine .inr ⟨a, ns, rfl, h2.sq, fun ns' p h4 h5 hp => q p _ hp ?_⟩
    rw [srtL_uniq h4 h5]
    simp only [Tp]
    exact ⟨_, upd_same, ints_dms⟩
  · exact .inl (rf_sortedA M ds vs d H hv e Q q)
@[simp] theorem sortedBG_l {xs : List D} : sortedBG [.lst xs] = sortedAG [.lst xs] := rfl
@[simp] theorem sortedBG_d {xs : List (Key × D)} : sortedBG [.dk xs] = sortedAG [.dk xs] := rfl
theorem sortedBG_t {ns : List Int} : sortedBG [.tup (ns.map .int)] = some (.lst ((srtL ns).map .int)) := by
  show (toInts (ns.map D.int)).map _ = _
  rw [toInts_map]
  rfl
/-! len(set(t)) -/
def rLenSetT (K : PySem.W.Frag) : V → Hp → VK → Prop := fun x H Q => ∃ (l : Addr) (ns : List Int), x = .ref l ∧ SqT K H l (ns.map V.int) ∧ ns.Nodup ∧ ns.length ≤ 4000 ∧ Q (.int (ns.length : Nat)) H
theorem pe_lenSetT {ta : TE} {p2 : Pos} (hg : Gl X "len") (hm : X.mg "len" = none) (hg2 : Gl X "set") (hm2 : X.mg "set" = none) (ha : PE X a ta) (hc : X.calm = true := by rfl)
    (na : starEach [a] X.env = (false, eval a X.env) :: starEach [] X.env := by rfl) : PE X (.Call (.Name "len" p) [.Call (.Name "set" p2) [a] [] q] [] pos) (tUn (fun x H Q => rLenSet X.K x H Q ∨ rLenSetT X.K x H Q) ta) := by
  refine ⟨fun pins s σ H Q I h => ?_⟩
  refine PyProof.Rows.Call_ (ld_blt I hg hm boot_len ?_)
  refine PyProof.Rows.callWith_builtin1 (PyProof.Rows.args_cons ?_ rfl) rfl rfl
  refine PyProof.Rows.Call_ (ld_blt I hg2 hm2 PyProof.Rows.boot_set ?_)
  refine PyProof.Rows.callWith_type1 (PyProof.Rows.args_cons (thn (ha.run pins s σ H _ I h) fun v s1 ⟨x, H1, I1, r1, q1⟩ => PyProof.Rows.args_nil ?_) na) na rfl
  rcases q1 with ⟨l, ns, rfl, hq, hnd, hl, q1⟩ | ⟨l, ns, rfl, hq, hnd, hl, q1⟩
  · cases r1
    obtain ⟨its, r, pl, hz⟩ := I1.list hq
    have hlen : its.toArray.size = ns.length := by rw [List.size_toArray, ← r.length, List.length_map]
    refine call_set_list (I1.ok.hd hc) pl.isList (by simpa using RZ.intsAre_vals r) (by rw [hlen]; unfold scanBound; omega) fun h' tk hS hk => ?_
    refine PyProof.Rows.args_nil ?_
    rw [hlen, RZ.firstMet_nodup hnd ns.length (Nat.le_refl _), List.take_length] at hS
    obtain ⟨o, es, ep, t, ho, hex, hd, _, _, _, hf, hn⟩ := hS
    have I2 : Inv X pins σ H1 { s1 with heap := h', toks := tk } := I1.kept fun b o e => hk b o (Heap.lt_size e) e
    exact call_len_set ho hex hd hf (by rw [hn] <;> omega) ⟨.int ns.length, H1, I2.tok _, ⟨_, by rw [hn]⟩, q1⟩
  · cases r1
    obtain ⟨its, r, pl, hz⟩ := I1.tuple hq
    have hlen : its.toArray.size = ns.length := by rw [List.size_toArray, ← r.length, List.length_map]
    refine call_set_tupI ns (I1.ok.hd hc) (show s1.heap.IsTuple l its.toArray from pl) (by simpa using RZ.intsAre_vals r) (by unfold scanBound; omega) fun h' tk c hS hcn hk => ?_
    refine PyProof.Rows.args_nil ?_
    obtain ⟨o, es, ep, t, ho, hex, hd, _, hnd2, hmem, _, hf, hn, _⟩ := hS
    have hp : (es.toList.map keyOf).Perm ns := (List.perm_ext_iff_of_nodup hnd2 hnd).mpr fun k => by
      rw [← hmem k]; simp
    have hn2 : es.size = ns.length := by
      have z := hp.length_eq
      rwa [List.length_map, Array.length_toList] at z
    have I2 : Inv X pins σ H1 { s1 with heap := h', toks := tk } := I1.kept fun b o e => hk b o e
    exact call_len_set ho hex hd hf (by rw [hn2]; omega) ⟨.int ns.length, H1, I2.tok _, ⟨_, by rw [hn2]⟩, q1⟩
def lenSetBG : GD := fun ds => match ds with
  | [.tup ds] => (toInts ds).bind fun ns => if ns.Nodup ∧ ns.length ≤ 4000 then some (.int ns.length) else none
  | _ => lenSetG ds
theorem cl_lenSetB : Cl Γ (arg1 fun x H Q => rLenSet Γ.K x H Q ∨ rLenSetT Γ.K x H Q) lenSetBG m .st := .s fun ds vs d H hv e Q q => by
  unfold lenSetBG at e
  split at e
  · obtain ⟨ns, e1, e⟩ := Option.bind_eq_some_iff.mp e
    obtain ⟨⟨h3, h4⟩, rfl⟩ := if_some e
    obtain ⟨x, rfl, h1⟩ := hv.one
    simp only [Dm] at h1
    obtain ⟨a, xs, rfl, h2, h5⟩ := h1
    have := toInts_eq e1
    subst this
    have := dms_ints h5
    subst this
    exact ⟨_, rfl, .inr ⟨a, ns, rfl, h2.sq, h3, h4, q _ H (Same.refl _) fun _ => dm_int⟩⟩
  · unfold lenSetG at e
    obtain ⟨a, ns, rfl, h1, h2⟩ := intsG_some e hv
    obtain ⟨⟨h3, h4⟩, rfl⟩ := if_some h2
    exact ⟨_, rfl, .inl ⟨a, ns, rfl, h1, h3, h4, q _ H (Same.refl _) fun _ => dm_int⟩⟩
theorem me_lenSetB {p2 : Pos} (hg : Gl X "len") (hm : X.mg "len" = none) (hg2 : Gl X "set") (hm2 : X.mg "set" = none) (h : Cl c.Γ (arg1 fun x H Q => rLenSet X.K x H Q ∨ rLenSetT X.K x H Q) lenSetBG m .st) (ha : ME X c E pa m a fa) (hf : m ≠ .fr := by decide) (hc : X.calm = true := by rfl)
    (na : starEach [a] X.env = (false, eval a X.env) :: starEach [] X.env := by rfl) : ME X c E pa .st (.Call (.Name "len" p) [.Call (.Name "set" p2) [a] [] q] [] pos) (op1 lenSetBG fa) :=
  let ⟨_, x, y⟩ := ha.ex; ⟨_, pe_lenSetT hg hm hg2 hm2 x hc na, y.ap1 hf h⟩
@[simp] theorem lenSetBG_l {xs : List D} : lenSetBG [.lst xs] = lenSetG [.lst xs] := rfl
theorem lenSetBG_t {ns : List Int} (h : ns.Nodup) (hl : ns.length ≤ 4000) : lenSetBG [.tup (ns.map D.int)] = some (.int ns.length) := by
  show (toInts (ns.map D.int)).bind _ = _
  rw [toInts_map]
  exact if_pos ⟨h, hl⟩
end Vl

set_option Elab.async false
set_option linter.all false
set_option maxRecDepth 100000
/-! the mirrors of the package's defs -/
namespace Pk
open PySem PySem.Spec L2 Vl

noncomputable def g_is_integer : S → SO :=
  (retM (adV (apA isiG (consA (gts 0) (consA (pur (.oth (.ty "int"))) (pur [])))) (ntV (apA isiG (consA (gts 0) (consA (pur (.oth (.ty "bool"))) (pur [])))))))
noncomputable def m_is_integer : List D → OF := runF 1 (List.replicate 1 .st) .st g_is_integer
noncomputable def g_are_integers : S → SO :=
  (seqM (ifM (orB (notB (tru (apA isi2G (consA (gts 0) (consA (apA tupG (consA (pur (.oth (.ty "list"))) (consA (pur (.oth (.ty "tuple"))) (pur [])))) (pur [])))))) (tru (op2 neG (apA lenBG (consA (gts 0) (pur []))) (gts 1))))
    (retM (pur (.bl false)))
    nxM)
  (retM (apA allG (consA (lcE (seqI (gts 0)) (tgN 2) (pur true) (callM 1 m_is_integer (consA (gts 2) (pur []))) [2]) (pur [])))))
noncomputable def m_are_integers : List D → OF := runF 3 (List.replicate 2 .st) .st g_are_integers
noncomputable def g_is_fraction : S → SO :=
  (retM (adV (callM 2 m_are_integers (consA (gts 0) (consA (pur (.int 2)) (pur [])))) (adV (op2 gtG (op2 ixAG (gts 0) (pur (.int 1))) (pur (.int 0))) (op2 eqG (apA gcdG (consA (op2 ixAG (gts 0) (pur (.int 0))) (consA (op2 ixAG (gts 0) (pur (.int 1))) (pur [])))) (pur (.int 1))))))
noncomputable def m_is_fraction : List D → OF := runF 1 (List.replicate 1 .st) .st g_is_fraction
noncomputable def g_is_within : S → SO :=
  (seqM (ifM (notB (tru (callM 1 m_is_integer (consA (gts 0) (pur [])))))
    (retM (pur (.bl false)))
    nxM)
  (retM (adV (orrV (op2 isNG (gts 1) (pur .non)) (op2 leG (gts 1) (gts 0))) (orrV (op2 isNG (gts 2) (pur .non)) (op2 leG (gts 0) (gts 2))))))
noncomputable def m_is_within : List D → OF := runF 3 (List.replicate 3 .st) .st g_is_within
noncomputable def g_least_pair : S → SO :=
  (seqM (setM 2 (ifX (tru (op2 gtG (gts 1) (pur (.int 0)))) (apA gcdG (consA (gts 0) (consA (gts 1) (pur [])))) (op1 negG (apA gcdG (consA (gts 0) (consA (gts 1) (pur [])))))))
  (retM (apA tupG (consA (op2 fdivG (gts 0) (gts 2)) (consA (op2 fdivG (gts 1) (gts 2)) (pur []))))))
noncomputable def m_least_pair : List D → OF := runF 3 (List.replicate 2 .st) .st g_least_pair
noncomputable def g_both : S → SO :=
  (retM (callM 2 m_least_pair (consA (op2 addG (op2 mulI (op2 ixAG (gts 0) (pur (.int 0))) (op2 ixAG (gts 1) (pur (.int 1)))) (op2 mulI (op2 ixAG (gts 1) (pur (.int 0))) (op2 ixAG (gts 0) (pur (.int 1))))) (consA (op2 mulI (op2 ixAG (gts 0) (pur (.int 1))) (op2 ixAG (gts 1) (pur (.int 1)))) (pur [])))))
noncomputable def m_both : List D → OF := runF 2 (List.replicate 2 .st) .st g_both
noncomputable def g_need_fraction : S → SO :=
  (seqM (ifM (notB (tru (callM 1 m_is_fraction (consA (gts 0) (pur [])))))
    noM'
    nxM)
  (retM (apA tupG (consA (op2 ixAG (gts 0) (pur (.int 0))) (consA (op2 ixAG (gts 0) (pur (.int 1))) (pur []))))))
noncomputable def m_need_fraction : List D → OF := runF 2 (List.replicate 2 .st) .st g_need_fraction
noncomputable def g_added : S → SO :=
  (retM (callM 2 m_both (consA (callM 2 m_need_fraction (consA (gts 0) (consA (pur (.str "one")) (pur [])))) (consA (callM 2 m_need_fraction (consA (gts 1) (consA (pur (.str "other")) (pur [])))) (pur [])))))
noncomputable def m_added : List D → OF := runF 2 (List.replicate 2 .st) .st g_added
noncomputable def g_turned : S → SO :=
  (retM (apA tupG (consA (op1 negG (op2 ixAG (gts 0) (pur (.int 0)))) (consA (op2 ixAG (gts 0) (pur (.int 1))) (pur [])))))
noncomputable def m_turned : List D → OF := runF 1 (List.replicate 1 .st) .st g_turned
noncomputable def g_less : S → SO :=
  (retM (callM 2 m_both (consA (callM 2 m_need_fraction (consA (gts 0) (consA (pur (.str "one")) (pur [])))) (consA (callM 1 m_turned (consA (callM 2 m_need_fraction (consA (gts 1) (consA (pur (.str "other")) (pur [])))) (pur []))) (pur [])))))
noncomputable def m_less : List D → OF := runF 2 (List.replicate 2 .st) .st g_less
noncomputable def g_times : S → SO :=
  (retM (callM 2 m_least_pair (consA (op2 mulI (op2 ixAG (gts 0) (pur (.int 0))) (op2 ixAG (gts 1) (pur (.int 0)))) (consA (op2 mulI (op2 ixAG (gts 0) (pur (.int 1))) (op2 ixAG (gts 1) (pur (.int 1)))) (pur [])))))
noncomputable def m_times : List D → OF := runF 2 (List.replicate 2 .st) .st g_times
noncomputable def g_multiplied : S → SO :=
  (retM (callM 2 m_times (consA (callM 2 m_need_fraction (consA (gts 0) (consA (pur (.str "one")) (pur [])))) (consA (callM 2 m_need_fraction (consA (gts 1) (consA (pur (.str "other")) (pur [])))) (pur [])))))
noncomputable def m_multiplied : List D → OF := runF 2 (List.replicate 2 .st) .st g_multiplied
noncomputable def g_is_less : S → SO :=
  (retM (op2 ltG (op2 mulI (op2 ixAG (gts 0) (pur (.int 0))) (op2 ixAG (gts 1) (pur (.int 1)))) (op2 mulI (op2 ixAG (gts 1) (pur (.int 0))) (op2 ixAG (gts 0) (pur (.int 1))))))
noncomputable def m_is_less : List D → OF := runF 2 (List.replicate 2 .st) .st g_is_less
noncomputable def g_below : S → SO :=
  (retM (callM 2 m_is_less (consA (callM 2 m_need_fraction (consA (gts 0) (consA (pur (.str "one")) (pur [])))) (consA (callM 2 m_need_fraction (consA (gts 1) (consA (pur (.str "other")) (pur [])))) (pur [])))))
noncomputable def m_below : List D → OF := runF 2 (List.replicate 2 .st) .st g_below
noncomputable def g_need_number : S → SO :=
  (ifM (notB (tru (callM 3 m_is_within (consA (gts 0) (consA (gts 2) (consA (gts 3) (pur [])))))))
    noM'
    nxM)
noncomputable def m_need_number : List D → OF := runF 4 (List.replicate 4 .st) .st g_need_number
noncomputable def g_reduced : S → SO :=
  (seqM (dropM (callM 4 m_need_number (consA (gts 0) (consA (pur (.str "up")) (consA (pur .non) (consA (pur .non) (pur [])))))))
  (seqM (ifM (orB (notB (tru (callM 1 m_is_integer (consA (gts 1) (pur []))))) (tru (op2 eqG (gts 1) (pur (.int 0)))))
    noM'
    nxM)
  (retM (callM 2 m_least_pair (consA (gts 0) (consA (gts 1) (pur [])))))))
noncomputable def m_reduced : List D → OF := runF 2 (List.replicate 2 .st) .st g_reduced
noncomputable def g_colour_in : S → SO :=
  (retM (ifX (tru (op2 gtG (apA lenBG (consA (gts 0) (pur []))) (pur (.int 0)))) (op2 modG (op2 ixAG (gts 0) (pur (.int 0))) (pur (.int 2))) (pur .non)))
noncomputable def m_colour_in : List D → OF := runF 1 (List.replicate 1 .st) .st g_colour_in
noncomputable def g_need_colour : S → SO :=
  (ifM (notB (tru (apA allG (consA (lcE (seqI (gts 0)) (tgN 1) (pur true) (op2 eqG (op2 modG (gts 1) (pur (.int 2))) (callM 1 m_colour_in (consA (gts 0) (pur [])))) [1]) (pur [])))))
    noM'
    nxM)
noncomputable def m_need_colour : List D → OF := runF 2 (List.replicate 1 .st) .st g_need_colour
noncomputable def g_kept_heaps : S → SO :=
  (retM (apA tupleG (consA (apA sortedAG (consA (lcE (seqI (gts 0)) (tgT [tgN 1, tgN 2]) (pur true) (apA tupG (consA (gts 1) (consA (gts 2) (pur [])))) [1, 2]) (pur []))) (pur []))))
noncomputable def m_kept_heaps : List D → OF := runF 3 (List.replicate 1 .st) .st g_kept_heaps
noncomputable def g_is_heap : S → SO :=
  (retM (adV (callM 2 m_are_integers (consA (gts 0) (consA (pur (.int 2)) (pur [])))) (adV (callM 3 m_is_within (consA (op2 ixAG (gts 0) (pur (.int 0))) (consA (op1 negG (pur (.int 1000000))) (consA (pur (.int 1000000)) (pur []))))) (callM 3 m_is_within (consA (op2 ixAG (gts 0) (pur (.int 1))) (consA (pur (.int 1)) (consA (pur (.int 1000000000000000000000000000000000000000000000000000000000000)) (pur []))))))))
noncomputable def m_is_heap : List D → OF := runF 1 (List.replicate 1 .st) .st g_is_heap
noncomputable def g_are_heaps : S → SO :=
  (seqM (ifM (orB (notB (tru (apA isi2G (consA (gts 0) (consA (apA tupG (consA (pur (.oth (.ty "list"))) (consA (pur (.oth (.ty "tuple"))) (pur [])))) (pur [])))))) (orB (tru (op2 gtG (apA lenBG (consA (gts 0) (pur []))) (pur (.int 60)))) (notB (tru (apA allG (consA (lcE (seqI (gts 0)) (tgN 2) (pur true) (callM 1 m_is_heap (consA (gts 2) (pur []))) [2]) (pur [])))))))
    (retM (pur (.bl false)))
    nxM)
  (seqM (setM 1 (lcE (seqI (gts 0)) (tgT [tgN 3, tgN 4]) (pur true) (gts 3) [3, 4]))
  (retM (op2 eqG (op1 lenSetG (gts 1)) (apA lenBG (consA (gts 1) (pur [])))))))
noncomputable def m_are_heaps : List D → OF := runF 5 (List.replicate 1 .st) .st g_are_heaps
noncomputable def g_need_heaps : S → SO :=
  (seqM (ifM (notB (tru (callM 1 m_are_heaps (consA (gts 0) (pur [])))))
    noM'
    nxM)
  (retM (callM 1 m_kept_heaps (consA (gts 0) (pur [])))))
noncomputable def m_need_heaps : List D → OF := runF 2 (List.replicate 2 .st) .st g_need_heaps
noncomputable def g_need_lefts : S → SO :=
  (seqM (ifM (orB (notB (tru (apA isi2G (consA (gts 0) (consA (apA tupG (consA (pur (.oth (.ty "list"))) (consA (pur (.oth (.ty "tuple"))) (pur [])))) (pur [])))))) (tru (op2 gtG (apA lenBG (consA (gts 0) (pur []))) (pur (.int 400)))))
    noM'
    nxM)
  (seqM (ifM (orB (notB (tru (apA allG (consA (lcE (seqI (gts 0)) (tgN 2) (pur true) (callM 3 m_is_within (consA (gts 2) (consA (op1 negG (pur (.int 1000000))) (consA (pur (.int 1000000)) (pur []))))) [2]) (pur []))))) (tru (op2 ltG (op1 lenSetBG (gts 0)) (apA lenBG (consA (gts 0) (pur []))))))
    noM'
    nxM)
  (retM (apA tupleG (consA (apA sortedBG (consA (gts 0) (pur []))) (pur []))))))
noncomputable def m_need_lefts : List D → OF := runF 3 (List.replicate 2 .st) .st g_need_lefts
noncomputable def g_spots_of : S → SO :=
  (retM (lcE (seqI (gts 0)) (tgT [tgN 1, tgN 2]) (pur true) (gts 1) [1, 2]))
noncomputable def m_spots_of : List D → OF := runF 3 (List.replicate 1 .st) .st g_spots_of
noncomputable def g_need_start : S → SO :=
  (seqM (parM [2, 3] (consA (callM 2 m_need_heaps (consA (gts 0) (consA (pur (.str "heaps")) (pur [])))) (consA (callM 2 m_need_lefts (appA (consA (gts 1) (pur [])) [(.str "lefts")])) (pur []))))
  (seqM (dropM (callM 1 m_need_colour (consA (callM 1 m_spots_of (consA (gts 2) (pur []))) (pur []))))
  (retM (apA tupG (consA (gts 2) (consA (gts 3) (pur [])))))))
noncomputable def m_need_start : List D → OF := runF 4 (List.replicate 2 .st) .st g_need_start
noncomputable def g_Line___init__ : S → SO :=
  (seqM (asgM (callM 2 m_need_start (consA (gts 1) (consA (gts 2) (pur [])))) (tgT [tgN 3, tgN 4]))
  (seqM (setF 0 ["Line"] "tick" (pur (.int 0)))
  (seqM (setF 0 ["Line"] "heaps" (gts 3))
  (setF 0 ["Line"] "lefts" (gts 4)))))
noncomputable def m_Line___init__ : List D → OF := runF 5 [.fr, .st, .st] .st g_Line___init__
noncomputable def g_colour_of : S → SO :=
  (seqM (setM 1 (callM 1 m_spots_of (consA (callM 2 m_need_heaps (consA (gts 0) (consA (pur (.str "heaps")) (pur [])))) (pur []))))
  (seqM (dropM (callM 1 m_need_colour (consA (gts 1) (pur []))))
  (retM (callM 1 m_colour_in (consA (gts 1) (pur []))))))
noncomputable def m_colour_of : List D → OF := runF 2 (List.replicate 1 .st) .st g_colour_of
noncomputable def g_chips_in : S → SO :=
  (seqM (setM 1 (callM 2 m_need_heaps (consA (gts 0) (consA (pur (.str "heaps")) (pur [])))))
  (seqM (dropM (callM 1 m_need_colour (consA (callM 1 m_spots_of (consA (gts 1) (pur []))) (pur []))))
  (retM (apA sumG (consA (lcE (seqI (gts 1)) (tgT [tgN 2, tgN 3]) (pur true) (gts 3) [2, 3]) (pur []))))))
noncomputable def m_chips_in : List D → OF := runF 4 (List.replicate 1 .st) .st g_chips_in
noncomputable def g_sent_on : S → SO :=
  (seqM (parM [2, 3] (consA (dcE (seqI (gts 1)) (tgN 4) (pur true) (gts 4) (pur (.bl true)) [4]) (consA (apA lstG (pur [])) (pur []))))
  (seqM (forM (seqI (gts 0)) (tgT [tgN 4, tgN 5])
    (seqM (setM 6 (op2 subG (gts 5) (op2 fdivG (gts 5) (pur (.int 2)))))
  (dropM (mutM "list" 3 appG (consA (ifX (tru (op2 (inG false) (gts 4) (gts 2))) (apA tupG (consA (gts 4) (consA (gts 6) (consA (op2 fdivG (gts 5) (pur (.int 2))) (pur []))))) (apA tupG (consA (gts 4) (consA (op2 fdivG (gts 5) (pur (.int 2))) (consA (gts 6) (pur [])))))) (pur []))))))
  (retM (movS 3))))
noncomputable def m_sent_on : List D → OF := runF 7 (List.replicate 2 .st) .st g_sent_on
noncomputable def g_Line_advance : S → SO :=
  (seqM (parM [1, 2] (consA (apA (fun _ => some (.dk [])) (pur [])) (consA (dcE (seqI (op1 (fldG ["Line"] "lefts") (gts 0))) (tgN 3) (pur true) (gts 3) (pur (.bl true)) [3]) (pur []))))
  (seqM (forM (seqI (callM 2 m_sent_on (consA (op1 (fldG ["Line"] "heaps") (gts 0)) (consA (op1 (fldG ["Line"] "lefts") (gts 0)) (pur []))))) (tgT [tgN 3, tgN 4, tgN 5])
    (seqM (forM (seqI (apA tupG (consA (apA tupG (consA (op2 subG (gts 3) (pur (.int 1))) (consA (gts 4) (pur [])))) (consA (apA tupG (consA (op2 addG (gts 3) (pur (.int 1))) (consA (gts 5) (pur [])))) (pur []))))) (tgT [tgN 6, tgN 7])
    (setI 1 (gts 6) (bd (op2 addG (getM (gts 1) (gts 6) (pur (.int 0))) (gts 7)) sca)))
  (ifM (tru (op2 neG (gts 4) (gts 5)))
    (setI 2 (gts 3) (ntV (getM (gts 2) (gts 3) (pur (.bl false)))))
    nxM)))
  (shM 1 (shM 2 (seqM (setF 0 ["Line"] "heaps" (apA tupleG (consA (apA sortedAG (consA (lcE (dkI itmsG (gts 1)) (tgT [tgN 3, tgN 7]) (tru (op2 gtG (gts 7) (pur (.int 0)))) (apA tupG (consA (gts 3) (consA (gts 7) (pur [])))) [3, 7]) (pur []))) (pur []))))
  (seqM (setF 0 ["Line"] "lefts" (apA tupleG (consA (apA sortedAG (consA (lcE (dkI itmsG (gts 2)) (tgT [tgN 3, tgN 8]) (tru (gts 8)) (gts 3) [3, 8]) (pur []))) (pur []))))
  (seqM (setF 0 ["Line"] "tick" (op2 addG (op1 (fldG ["Line"] "tick") (gts 0)) (pur (.int 1))))
  (retM (op1 (fldG ["Line"] "tick") (gts 0))))))))))
noncomputable def m_Line_advance : List D → OF := runF 9 [.fr] .st g_Line_advance
noncomputable def g_Line_forward : S → SO :=
  (seqM (dropM (callM 4 m_need_number (consA (gts 1) (consA (pur (.str "many")) (consA (pur (.int 0)) (consA (pur (.int 200)) (pur [])))))))
  (seqM (forM (rngI rng1G (consA (gts 1) (pur []))) (tgN 2)
    (dropM (callQ [some 0] m_Line_advance (consA (op1 (insG "Line" "advance") (gts 0)) (pur [])))))
  (retM (op1 (fldG ["Line"] "tick") (gts 0)))))
noncomputable def m_Line_forward : List D → OF := runF 3 [.fr, .st] .st g_Line_forward
noncomputable def g_Line_heap_at : S → SO :=
  (seqM (dropM (callM 4 m_need_number (consA (gts 1) (consA (pur (.str "spot")) (consA (pur .non) (consA (pur .non) (pur [])))))))
  (retM (getM (apA dictAG (consA (op1 (fldG ["Line"] "heaps") (gts 0)) (pur []))) (gts 1) (pur (.int 0)))))
noncomputable def m_Line_heap_at : List D → OF := runF 2 (List.replicate 2 .st) .st g_Line_heap_at
noncomputable def g_choices : S → SO :=
  (seqM (setM 2 (pur (.int 1)))
  (seqM (forM (rngI rng1G (consA (gts 1) (pur []))) (tgN 3)
    (setM 2 (op2 fdivG (op2 mulI (gts 2) (op2 subG (gts 0) (gts 3))) (op2 addG (gts 3) (pur (.int 1))))))
  (retM (gts 2))))
noncomputable def m_choices : List D → OF := runF 4 (List.replicate 2 .st) .st g_choices
noncomputable def g_rows_to : S → SO :=
  (seqM (ifM (orB (tru (op2 gtG (apA absG (consA (gts 0) (pur []))) (gts 1))) (tru (op2 eqG (op2 modG (op2 addG (gts 0) (gts 1)) (pur (.int 2))) (pur (.int 1)))))
    (retM (pur (.int 0)))
    nxM)
  (retM (callM 2 m_choices (consA (gts 1) (consA (op2 fdivG (op2 subG (gts 1) (apA absG (consA (gts 0) (pur [])))) (pur (.int 2))) (pur []))))))
noncomputable def m_rows_to : List D → OF := runF 2 (List.replicate 2 .st) .st g_rows_to
noncomputable def g_share_in : S → SO :=
  (retM (callM 2 m_least_pair (consA (callM 2 m_rows_to (consA (gts 0) (consA (gts 1) (pur [])))) (consA (op2 shlG (pur (.int 1)) (gts 1)) (pur [])))))
noncomputable def m_share_in : List D → OF := runF 2 (List.replicate 2 .st) .st g_share_in
noncomputable def g_share_of : S → SO :=
  (seqM (dropM (callM 4 m_need_number (consA (gts 0) (consA (pur (.str "far")) (consA (op1 negG (pur (.int 400))) (consA (pur (.int 400)) (pur [])))))))
  (seqM (dropM (callM 4 m_need_number (consA (gts 1) (consA (pur (.str "ticks")) (consA (pur (.int 0)) (consA (pur (.int 400)) (pur [])))))))
  (retM (callM 2 m_share_in (consA (gts 0) (consA (gts 1) (pur [])))))))
noncomputable def m_share_of : List D → OF := runF 2 (List.replicate 2 .st) .st g_share_of
noncomputable def g_mean_in : S → SO :=
  (seqM (setM 3 (apA sumG (consA (lcE (seqI (gts 0)) (tgT [tgN 4, tgN 5]) (pur true) (op2 mulI (gts 5) (callM 2 m_rows_to (consA (op2 subG (gts 1) (gts 4)) (consA (gts 2) (pur []))))) [4, 5]) (pur []))))
  (retM (callM 2 m_least_pair (consA (gts 3) (consA (op2 shlG (pur (.int 1)) (gts 2)) (pur []))))))
noncomputable def m_mean_in : List D → OF := runF 6 (List.replicate 3 .st) .st g_mean_in
noncomputable def g_reached : S → SO :=
  (retM (apA sortedAG (consA (dcE2 (seqI (gts 0)) (tgT [tgN 2, tgN 3]) (pur true) (rngI rng3G (consA (op1 negG (gts 1)) (consA (op2 addG (gts 1) (pur (.int 1))) (consA (pur (.int 2)) (pur []))))) (tgN 4) (pur true) (op2 addG (gts 2) (gts 4)) (pur (.bl true)) [2, 3, 4] [4]) (pur []))))
noncomputable def m_reached : List D → OF := runF 5 (List.replicate 2 .st) .st g_reached
noncomputable def g_means : S → SO :=
  (seqM (setM 2 (callM 2 m_need_heaps (consA (gts 0) (consA (pur (.str "heaps")) (pur [])))))
  (seqM (dropM (callM 4 m_need_number (consA (gts 1) (consA (pur (.str "ticks")) (consA (pur (.int 0)) (consA (pur (.int 200)) (pur [])))))))
  (seqM (dropM (callM 1 m_need_colour (consA (callM 1 m_spots_of (consA (gts 2) (pur []))) (pur []))))
  (seqM (setM 3 (lcE (seqI (callM 2 m_reached (consA (gts 2) (consA (gts 1) (pur []))))) (tgN 4) (pur true) (apA tupG (consA (gts 4) (consA (callM 3 m_mean_in (consA (gts 2) (consA (gts 4) (consA (gts 1) (pur []))))) (pur [])))) [4]))
  (retM (apA tupleG (consA (lcE (seqI (gts 3)) (tgT [tgN 4, tgN 5]) (tru (op2 neG (gts 5) (pur (.tup [(.int 0), (.int 1)])))) (apA tupG (consA (gts 4) (consA (gts 5) (pur [])))) [4, 5]) (pur []))))))))
noncomputable def m_means : List D → OF := runF 6 (List.replicate 2 .st) .st g_means
noncomputable def g_mean_at : S → SO :=
  (seqM (setM 3 (callM 2 m_need_heaps (consA (gts 0) (consA (pur (.str "heaps")) (pur [])))))
  (seqM (dropM (callM 4 m_need_number (consA (gts 1) (consA (pur (.str "spot")) (consA (pur .non) (consA (pur .non) (pur [])))))))
  (seqM (dropM (callM 4 m_need_number (consA (gts 2) (consA (pur (.str "ticks")) (consA (pur (.int 0)) (consA (pur (.int 200)) (pur [])))))))
  (seqM (dropM (callM 1 m_need_colour (consA (callM 1 m_spots_of (consA (gts 3) (pur []))) (pur []))))
  (retM (callM 3 m_mean_in (consA (gts 3) (consA (gts 1) (consA (gts 2) (pur []))))))))))
noncomputable def m_mean_at : List D → OF := runF 4 (List.replicate 3 .st) .st g_mean_at
noncomputable def g_line_behind : S → SO :=
  (seqM (setM 3 (mkM "Line" 2 m_Line___init__ (consA (gts 0) (consA (gts 1) (pur [])))))
  (seqM (dropM (callQ [some 3, none] m_Line_forward (consA (op1 (insG "Line" "forward") (gts 3)) (consA (gts 2) (pur [])))))
  (retM (movS 3))))
noncomputable def m_line_behind : List D → OF := runF 4 (List.replicate 3 .st) .st g_line_behind
noncomputable def g_gap_in : S → SO :=
  (retM (callM 2 m_both (consA (apA tupG (consA (gts 0) (consA (pur (.int 1)) (pur [])))) (consA (callM 1 m_turned (consA (gts 1) (pur []))) (pur [])))))
noncomputable def m_gap_in : List D → OF := runF 2 (List.replicate 2 .st) .st g_gap_in
noncomputable def g_gaps : S → SO :=
  (seqM (parM [3, 4] (consA (callM 2 m_need_heaps (consA (gts 0) (consA (pur (.str "heaps")) (pur [])))) (consA (callM 2 m_need_lefts (appA (consA (gts 1) (pur [])) [(.str "lefts")])) (pur []))))
  (seqM (dropM (callM 4 m_need_number (consA (gts 2) (consA (pur (.str "ticks")) (consA (pur (.int 0)) (consA (pur (.int 60)) (pur [])))))))
  (seqM (dropM (callM 1 m_need_colour (consA (callM 1 m_spots_of (consA (gts 3) (pur []))) (pur []))))
  (seqM (setM 5 (apA dictAG (consA (op1 (fldG ["Line"] "heaps") (callM 3 m_line_behind (consA (gts 3) (consA (gts 4) (consA (gts 2) (pur [])))))) (pur []))))
  (seqM (setM 6 (lcE (seqI (callM 2 m_reached (consA (gts 3) (consA (gts 2) (pur []))))) (tgN 7) (pur true) (apA tupG (consA (gts 7) (consA (callM 2 m_gap_in (consA (getM (gts 5) (gts 7) (pur (.int 0))) (consA (callM 3 m_mean_in (consA (gts 3) (consA (gts 7) (consA (gts 2) (pur []))))) (pur [])))) (pur [])))) [7]))
  (retM (apA tupleG (consA (lcE (seqI (gts 6)) (tgT [tgN 7, tgN 8]) (tru (op2 neG (gts 8) (pur (.tup [(.int 0), (.int 1)])))) (apA tupG (consA (gts 7) (consA (gts 8) (pur [])))) [7, 8]) (pur [])))))))))
noncomputable def m_gaps : List D → OF := runF 9 (List.replicate 3 .st) .st g_gaps
noncomputable def g_gap_at : S → SO :=
  (seqM (parM [4, 5] (consA (callM 2 m_need_heaps (consA (gts 0) (consA (pur (.str "heaps")) (pur [])))) (consA (callM 2 m_need_lefts (appA (consA (gts 1) (pur [])) [(.str "lefts")])) (pur []))))
  (seqM (dropM (callM 4 m_need_number (consA (gts 2) (consA (pur (.str "spot")) (consA (pur .non) (consA (pur .non) (pur [])))))))
  (seqM (dropM (callM 4 m_need_number (consA (gts 3) (consA (pur (.str "ticks")) (consA (pur (.int 0)) (consA (pur (.int 60)) (pur [])))))))
  (seqM (dropM (callM 1 m_need_colour (consA (callM 1 m_spots_of (consA (gts 4) (pur []))) (pur []))))
  (retM (callM 2 m_gap_in (consA (callM 2 m_Line_heap_at (consA (op1 (insG "Line" "heap_at") (callM 3 m_line_behind (consA (gts 4) (consA (gts 5) (consA (gts 3) (pur [])))))) (consA (gts 2) (pur [])))) (consA (callM 3 m_mean_in (consA (gts 4) (consA (gts 2) (consA (gts 3) (pur []))))) (pur [])))))))))
noncomputable def m_gap_at : List D → OF := runF 6 (List.replicate 4 .st) .st g_gap_at
noncomputable def g_first_in : S → SO :=
  (seqM (ifM (tru (op2 ltG (gts 1) (gts 0)))
    (retM (pur (.tup [(.int 0), (.int 1)])))
    nxM)
  (retM (callM 2 m_least_pair (consA (op2 mulI (gts 0) (callM 2 m_rows_to (consA (gts 0) (consA (gts 1) (pur []))))) (consA (op2 mulI (gts 1) (op2 shlG (pur (.int 1)) (gts 1))) (pur []))))))
noncomputable def m_first_in : List D → OF := runF 2 (List.replicate 2 .st) .st g_first_in
noncomputable def g_first_share : S → SO :=
  (seqM (dropM (callM 4 m_need_number (consA (gts 0) (consA (pur (.str "far")) (consA (pur (.int 1)) (consA (pur (.int 400)) (pur [])))))))
  (seqM (dropM (callM 4 m_need_number (consA (gts 1) (consA (pur (.str "ticks")) (consA (pur (.int 0)) (consA (pur (.int 400)) (pur [])))))))
  (retM (callM 2 m_first_in (consA (gts 0) (consA (gts 1) (pur [])))))))
noncomputable def m_first_share : List D → OF := runF 2 (List.replicate 2 .st) .st g_first_share
noncomputable def g_shares_to : S → SO :=
  (retM (lcE (rngI rng3G (consA (gts 0) (consA (op2 addG (gts 1) (pur (.int 1))) (consA (pur (.int 2)) (pur []))))) (tgN 2) (pur true) (apA tupG (consA (gts 2) (consA (callM 2 m_first_in (consA (gts 0) (consA (gts 2) (pur [])))) (pur [])))) [2]))
noncomputable def m_shares_to : List D → OF := runF 3 (List.replicate 2 .st) .st g_shares_to
noncomputable def g_greatest_in : S → SO :=
  (seqM (setM 2 (pur (.tup [(.int 0), (.int 1)])))
  (seqM (forM (seqI (callM 2 m_shares_to (consA (gts 0) (consA (gts 1) (pur []))))) (tgT [tgN 3, tgN 4])
    (seqM (ifM (tru (callM 2 m_is_less (consA (gts 4) (consA (gts 2) (pur [])))))
    (retM (gts 2))
    nxM)
  (setM 2 (gts 4))))
  (retM (gts 2))))
noncomputable def m_greatest_in : List D → OF := runF 5 (List.replicate 2 .st) .st g_greatest_in
noncomputable def g_best_ticks : S → SO :=
  (seqM (dropM (callM 4 m_need_number (consA (gts 0) (consA (pur (.str "far")) (consA (pur (.int 1)) (consA (pur (.int 400)) (pur [])))))))
  (seqM (dropM (callM 4 m_need_number (consA (gts 1) (consA (pur (.str "most")) (consA (pur (.int 0)) (consA (pur (.int 400)) (pur [])))))))
  (seqM (setM 2 (callM 2 m_greatest_in (consA (gts 0) (consA (gts 1) (pur [])))))
  (retM (apA tupleG (consA (lcE (seqI (callM 2 m_shares_to (consA (gts 0) (consA (gts 1) (pur []))))) (tgT [tgN 3, tgN 4]) (tru (op2 eqG (gts 4) (gts 2))) (gts 3) [3, 4]) (pur [])))))))
noncomputable def m_best_ticks : List D → OF := runF 5 (List.replicate 2 .st) .st g_best_ticks
noncomputable def g_reach_rows : S → SO :=
  (seqM (dropM (callM 4 m_need_number (consA (gts 0) (consA (pur (.str "ticks")) (consA (pur (.int 0)) (consA (pur (.int 200)) (pur [])))))))
  (retM (apA tupleG (consA (lcE (rngI rng2G (consA (pur (.int 1)) (consA (op2 addG (gts 0) (pur (.int 1))) (pur [])))) (tgN 1) (pur true) (callM 2 m_greatest_in (consA (gts 1) (consA (gts 0) (pur [])))) [1]) (pur [])))))
noncomputable def m_reach_rows : List D → OF := runF 2 (List.replicate 1 .st) .st g_reach_rows
noncomputable def g_total_of : S → SO :=
  (seqM (setM 1 (pur (.tup [(.int 0), (.int 1)])))
  (seqM (forM (seqI (gts 0)) (tgN 2)
    (setM 1 (callM 2 m_both (consA (gts 1) (consA (gts 2) (pur []))))))
  (retM (gts 1))))
noncomputable def m_total_of : List D → OF := runF 3 (List.replicate 1 .st) .st g_total_of
noncomputable def g_reach : S → SO :=
  (retM (callM 2 m_times (consA (apA tupG (consA (pur (.int 2)) (consA (pur (.int 1)) (pur [])))) (consA (callM 1 m_total_of (consA (callM 1 m_reach_rows (consA (gts 0) (pur []))) (pur []))) (pur [])))))
noncomputable def m_reach : List D → OF := runF 1 (List.replicate 1 .st) .st g_reach
noncomputable def g_colour_at : S → SO :=
  (retM (op2 modG (op2 addG (op2 ixAG (gts 0) (pur (.int 0))) (op2 ixAG (gts 0) (pur (.int 1)))) (pur (.int 2))))
noncomputable def m_colour_at : List D → OF := runF 1 (List.replicate 1 .st) .st g_colour_at
noncomputable def g_is_weight : S → SO :=
  (retM (adV (callM 3 m_is_within (consA (gts 0) (consA (op1 negG (pur (.int 1000000))) (consA (pur (.int 1000000)) (pur []))))) (op2 neG (gts 0) (pur (.int 0)))))
noncomputable def m_is_weight : List D → OF := runF 1 (List.replicate 1 .st) .st g_is_weight
noncomputable def g_is_row : S → SO :=
  (seqM (ifM (orB (notB (tru (callM 2 m_are_integers (consA (gts 0) (consA (pur (.int 3)) (pur [])))))) (notB (tru (callM 3 m_is_within (consA (op2 ixAG (gts 0) (pur (.int 0))) (consA (op1 negG (pur (.int 1000000))) (consA (pur (.int 1000000)) (pur []))))))))
    (retM (pur (.bl false)))
    nxM)
  (retM (adV (callM 3 m_is_within (consA (op2 ixAG (gts 0) (pur (.int 1))) (consA (pur (.int 0)) (consA (pur (.int 60)) (pur []))))) (callM 1 m_is_weight (consA (op2 ixAG (gts 0) (pur (.int 2))) (pur []))))))
noncomputable def m_is_row : List D → OF := runF 1 (List.replicate 1 .st) .st g_is_row
noncomputable def g_are_rows : S → SO :=
  (seqM (ifM (orB (notB (tru (apA isi2G (consA (gts 0) (consA (apA tupG (consA (pur (.oth (.ty "list"))) (consA (pur (.oth (.ty "tuple"))) (pur [])))) (pur [])))))) (notB (tru (chnM leG leG (pur (.int 1)) (apA lenBG (consA (gts 0) (pur []))) (pur (.int 40))))))
    (retM (pur (.bl false)))
    nxM)
  (seqM (ifM (notB (tru (apA allG (consA (lcE (seqI (gts 0)) (tgN 1) (pur true) (callM 1 m_is_row (consA (gts 1) (pur []))) [1]) (pur [])))))
    (retM (pur (.bl false)))
    nxM)
  (retM (op2 eqG (apA lenBG (consA (dcE (seqI (gts 0)) (tgT [tgN 2, tgN 3, tgN 4]) (pur true) (apA tupG (consA (gts 2) (consA (gts 3) (pur [])))) (pur (.bl true)) [2, 3, 4]) (pur []))) (apA lenBG (consA (gts 0) (pur [])))))))
noncomputable def m_are_rows : List D → OF := runF 5 (List.replicate 1 .st) .st g_are_rows
noncomputable def g_place_of : S → SO :=
  (retM (apA tupG (consA (op2 ixAG (gts 0) (pur (.int 1))) (consA (op2 ixAG (gts 0) (pur (.int 0))) (pur [])))))
noncomputable def m_place_of : List D → OF := runF 1 (List.replicate 1 .st) .st g_place_of
noncomputable def g_need_fit : S → SO :=
  (seqM (dropM (callM 1 m_need_colour (consA (callM 1 m_spots_of (consA (gts 1) (pur []))) (pur []))))
  (ifM (notB (tru (apA allG (consA (lcE (seqI (callM 1 m_spots_of (consA (gts 1) (pur [])))) (tgN 2) (pur true) (op2 eqG (op2 modG (gts 2) (pur (.int 2))) (op1 (fldG ["Look"] "colour") (gts 0))) [2]) (pur [])))))
    noM'
    nxM))
noncomputable def m_need_fit : List D → OF := runF 3 (List.replicate 2 .st) .st g_need_fit
noncomputable def g_worth_in : S → SO :=
  (seqM (parM [3, 4] (consA (mkM "Line" 2 m_Line___init__ (consA (gts 1) (consA (gts 2) (pur [])))) (consA (pur (.int 0)) (pur []))))
  (seqM (forM (seqI (op1 (fldG ["Look"] "rows") (gts 0))) (tgT [tgN 5, tgN 6, tgN 7])
    (seqM (dropM (callQ [some 3, none] m_Line_forward (consA (op1 (insG "Line" "forward") (gts 3)) (consA (op2 subG (gts 6) (op1 (fldG ["Line"] "tick") (gts 3))) (pur [])))))
  (setM 4 (op2 addG (gts 4) (op2 mulI (gts 7) (callM 2 m_Line_heap_at (consA (op1 (insG "Line" "heap_at") (gts 3)) (consA (gts 5) (pur [])))))))))
  (retM (gts 4))))
noncomputable def m_worth_in : List D → OF := runF 8 (List.replicate 3 .st) .st g_worth_in
noncomputable def g_mean_of_look : S → SO :=
  (retM (callM 1 m_total_of (consA (lcE (seqI (op1 (fldG ["Look"] "rows") (gts 0))) (tgT [tgN 2, tgN 3, tgN 4]) (pur true) (callM 2 m_times (consA (apA tupG (consA (gts 4) (consA (pur (.int 1)) (pur [])))) (consA (callM 3 m_mean_in (consA (gts 1) (consA (gts 2) (consA (gts 3) (pur []))))) (pur [])))) [2, 3, 4]) (pur []))))
noncomputable def m_mean_of_look : List D → OF := runF 5 (List.replicate 2 .st) .st g_mean_of_look
noncomputable def g_first_counts : S → SO :=
  (seqM (setM 1 (apA lstG (consA (apA (fun _ => some (.dk [])) (pur [])) (pur []))))
  (seqM (forM (rngI rng2G (consA (pur (.int 1)) (consA (op2 addG (gts 0) (pur (.int 1))) (pur [])))) (tgN 2)
    (seqM (parM [3, 4] (consA (bd (op2 ixAG (gts 1) (op1 negG (pur (.int 1)))) sca) (consA (apA (fun _ => some (.dk [])) (pur [])) (pur []))))
  (seqM (forM (rngI rng3G (consA (op2 subG (pur (.int 2)) (op2 modG (gts 2) (pur (.int 2)))) (consA (op2 addG (gts 2) (pur (.int 1))) (consA (pur (.int 2)) (pur []))))) (tgN 5)
    (seqM (setM 6 (ifX (tru (op2 gtG (gts 5) (pur (.int 1)))) (getM (gts 3) (op2 subG (gts 5) (pur (.int 1))) (pur (.int 0))) (apA intG (consA (op2 eqG (gts 2) (pur (.int 1))) (pur [])))))
  (setI 4 (gts 5) (op2 addG (gts 6) (getM (gts 3) (op2 addG (gts 5) (pur (.int 1))) (pur (.int 0)))))))
  (shM 4 (dropM (mutM "list" 1 appG (consA (gts 4) (pur []))))))))
  (retM (movS 1))))
noncomputable def m_first_counts : List D → OF := runF 7 (List.replicate 1 .st) .st g_first_counts
noncomputable def g_own_change : S → SO :=
  (seqM (setM 4 (pur (.int 0)))
  (seqM (forM (seqI (op1 (fldG ["Look"] "rows") (gts 0))) (tgT [tgN 5, tgN 6, tgN 7])
    (ifM (andB (tru (op2 gtG (gts 6) (gts 3))) (tru (op2 neG (gts 5) (gts 2))))
    (seqM (setM 8 (op2 shlG (op2 mulI (gts 7) (getM (op2 ixAG (gts 1) (op2 subG (gts 6) (gts 3))) (apA absG (consA (op2 subG (gts 5) (gts 2)) (pur []))) (pur (.int 0)))) (op2 addG (op2 subG (op1 (fldG ["Look"] "last") (gts 0)) (gts 6)) (gts 3))))
  (setM 4 (op2 addG (gts 4) (ifX (tru (op2 gtG (gts 5) (gts 2))) (gts 8) (op1 negG (gts 8))))))
    nxM))
  (retM (gts 4))))
noncomputable def m_own_change : List D → OF := runF 9 (List.replicate 4 .st) .st g_own_change
noncomputable def g_change_in : S → SO :=
  (retM (callM 2 m_least_pair (consA (gts 1) (consA (op2 shlG (pur (.int 1)) (op1 (fldG ["Look"] "last") (gts 0))) (pur [])))))
noncomputable def m_change_in : List D → OF := runF 2 (List.replicate 2 .st) .st g_change_in
noncomputable def g_changes_at : S → SO :=
  (seqM (setM 2 (callM 1 m_first_counts (consA (op1 (fldG ["Look"] "last") (gts 0)) (pur []))))
  (seqM (setM 3 (lcE (rngI rng1G (consA (op1 (fldG ["Look"] "last") (gts 0)) (pur []))) (tgN 4) (pur true) (apA tupG (consA (gts 4) (consA (callM 4 m_own_change (consA (gts 0) (consA (gts 2) (consA (gts 1) (consA (gts 4) (pur [])))))) (pur [])))) [4]))
  (retM (apA tupleG (consA (lcE (seqI (gts 3)) (tgT [tgN 4, tgN 5]) (tru (op2 neG (gts 5) (pur (.int 0)))) (apA tupG (consA (gts 4) (consA (callM 2 m_change_in (consA (gts 0) (consA (gts 5) (pur [])))) (pur [])))) [4, 5]) (pur []))))))
noncomputable def m_changes_at : List D → OF := runF 6 (List.replicate 2 .st) .st g_changes_at
noncomputable def g_more_of : S → SO :=
  (retM (ifX (tru (callM 2 m_is_less (consA (op2 ixAG (gts 0) (pur (.int 0))) (consA (op2 ixAG (gts 1) (pur (.int 0))) (pur []))))) (gts 1) (gts 0)))
noncomputable def m_more_of : List D → OF := runF 2 (List.replicate 2 .st) .st g_more_of
noncomputable def g_with_pick : S → SO :=
  (retM (apA tupG (consA (callM 2 m_both (consA (op2 ixAG (gts 0) (pur (.int 0))) (consA (gts 1) (pur [])))) (consA (apA tupG (starA (op2 ixAG (gts 0) (pur (.int 1))) (consA (gts 2) (pur [])))) (pur [])))))
noncomputable def m_with_pick : List D → OF := runF 3 (List.replicate 3 .st) .st g_with_pick
noncomputable def g_best_turns : S → SO :=
  (seqM (parM [1, 2] (consA (apA tupG (consA (pur (.tup [(.int 0), (.int 1)])) (consA (apA tupG (pur [])) (pur [])))) (consA (apA tupG (consA (pur (.tup [(.int 0), (.int 1)])) (consA (apA tupG (pur [])) (pur [])))) (pur []))))
  (seqM (forM (rngI enumG (consA (gts 0) (pur []))) (tgT [tgN 3, tgN 4])
    (parM [1, 2] (consA (callM 2 m_more_of (consA (gts 1) (consA (callM 3 m_with_pick (consA (gts 2) (consA (gts 4) (consA (gts 3) (pur []))))) (pur [])))) (consA (callM 2 m_more_of (consA (gts 2) (consA (callM 3 m_with_pick (consA (gts 1) (consA (callM 1 m_turned (consA (gts 4) (pur []))) (consA (gts 3) (pur []))))) (pur [])))) (pur [])))))
  (seqM (asgM (callM 2 m_more_of (consA (gts 1) (consA (gts 2) (pur [])))) (tgT [tgN 5, tgN 6]))
  (seqM (setM 7 (ifX (tru (callM 2 m_is_less (consA (op2 ixAG (gts 1) (pur (.int 0))) (consA (op2 ixAG (gts 2) (pur (.int 0))) (pur []))))) (op1 negG (pur (.int 1))) (pur (.int 1))))
  (seqM (setM 8 (ifX (tru (op2 eqG (op2 modG (apA lenBG (consA (gts 6) (pur []))) (pur (.int 2))) (pur (.int 1)))) (gts 7) (op1 negG (gts 7))))
  (retM (apA tupG (consA (gts 5) (consA (gts 6) (consA (ifX (tru (op2 neG (gts 6) (apA tupG (pur [])))) (gts 8) (pur (.int 1))) (pur [])))))))))))
noncomputable def m_best_turns : List D → OF := runF 9 (List.replicate 1 .st) .st g_best_turns
noncomputable def g_need_numbers : S → SO :=
  (seqM (ifM (orB (notB (tru (apA isi2G (consA (gts 0) (consA (apA tupG (consA (pur (.oth (.ty "list"))) (consA (pur (.oth (.ty "tuple"))) (pur [])))) (pur [])))))) (tru (op2 gtG (apA lenBG (consA (gts 0) (pur []))) (pur (.int 60)))))
    noM'
    nxM)
  (seqM (ifM (notB (tru (apA allG (consA (lcE (seqI (gts 0)) (tgN 1) (pur true) (callM 1 m_is_fraction (consA (gts 1) (pur []))) [1]) (pur [])))))
    noM'
    nxM)
  (retM (lcE (seqI (gts 0)) (tgN 1) (pur true) (apA tupG (consA (op2 ixAG (gts 1) (pur (.int 0))) (consA (op2 ixAG (gts 1) (pur (.int 1))) (pur [])))) [1]))))
noncomputable def m_need_numbers : List D → OF := runF 2 (List.replicate 1 .st) .st g_need_numbers
noncomputable def g_signed : S → SO :=
  (retM (ifX (tru (op2 eqG (gts 1) (pur (.int 1)))) (gts 0) (callM 1 m_turned (consA (gts 0) (pur [])))))
noncomputable def m_signed : List D → OF := runF 2 (List.replicate 2 .st) .st g_signed
noncomputable def g_greatest_from : S → SO :=
  (seqM (parM [2, 3] (consA (pur .non) (consA (pur (.tup [(.int 0), (.int 1)])) (pur []))))
  (seqM (forM (seqI (gts 0)) (tgN 4)
    (seqM (setM 5 (callM 2 m_signed (consA (gts 4) (consA (gts 1) (pur [])))))
  (seqM (setM 6 (callM 2 m_both (consA (gts 3) (consA (gts 5) (pur [])))))
  (seqM (ifM (tru (op2 notNG (gts 2) (pur .non)))
    (seqM (setM 7 (callM 2 m_both (consA (gts 2) (consA (callM 1 m_turned (consA (gts 5) (pur []))) (pur [])))))
  (seqM (setM 6 (ifX (tru (callM 2 m_is_less (consA (gts 6) (consA (gts 2) (pur []))))) (gts 2) (gts 6)))
  (setM 3 (ifX (tru (callM 2 m_is_less (consA (gts 3) (consA (gts 7) (pur []))))) (gts 7) (gts 3)))))
    nxM)
  (setM 2 (gts 6))))))
  (retM (ifX (orB (tru (op2 isNG (gts 2) (pur .non))) (tru (callM 2 m_is_less (consA (gts 2) (consA (gts 3) (pur [])))))) (gts 3) (gts 2)))))
noncomputable def m_greatest_from : List D → OF := runF 8 (List.replicate 2 .st) .st g_greatest_from
noncomputable def g_between : S → SO :=
  (retM (apA tupG (consA (callM 1 m_turned (consA (callM 2 m_greatest_from (consA (gts 0) (consA (op1 negG (gts 1)) (pur [])))) (pur []))) (consA (callM 2 m_greatest_from (consA (gts 0) (consA (gts 1) (pur [])))) (pur [])))))
noncomputable def m_between : List D → OF := runF 2 (List.replicate 2 .st) .st g_between
noncomputable def g_turns_from : S → SO :=
  (seqM (setM 2 (callM 1 m_need_numbers (consA (gts 0) (pur []))))
  (seqM (dropM (callM 4 m_need_number (consA (gts 1) (consA (pur (.str "sign")) (consA (op1 negG (pur (.int 1))) (consA (pur (.int 1)) (pur [])))))))
  (seqM (ifM (tru (op2 eqG (gts 1) (pur (.int 0))))
    noM'
    nxM)
  (retM (callM 2 m_between (consA (gts 2) (consA (gts 1) (pur []))))))))
noncomputable def m_turns_from : List D → OF := runF 3 (List.replicate 2 .st) .st g_turns_from
noncomputable def g_sum_of_picks : S → SO :=
  (seqM (setM 3 (pur (.tup [(.int 0), (.int 1)])))
  (seqM (forM (rngI enumG (consA (gts 1) (pur []))) (tgT [tgN 4, tgN 5])
    (setM 3 (callM 2 m_both (consA (gts 3) (consA (callM 2 m_signed (consA (op2 ixAG (gts 0) (gts 5)) (consA (ifX (tru (op2 eqG (op2 modG (gts 4) (pur (.int 2))) (pur (.int 0)))) (gts 2) (op1 negG (gts 2))) (pur [])))) (pur []))))))
  (retM (gts 3))))
noncomputable def m_sum_of_picks : List D → OF := runF 6 (List.replicate 3 .st) .st g_sum_of_picks
noncomputable def g_are_picks : S → SO :=
  (seqM (ifM (orB (notB (tru (apA isiG (consA (gts 0) (consA (pur (.oth (.ty "tuple"))) (pur [])))))) (notB (tru (apA allG (consA (lcE (seqI (gts 0)) (tgN 2) (pur true) (callM 3 m_is_within (consA (gts 2) (consA (pur (.int 0)) (consA (op2 subG (gts 1) (pur (.int 1))) (pur []))))) [2]) (pur []))))))
    (retM (pur (.bl false)))
    nxM)
  (retM (apA allG (consA (lcE (rngI zipG (consA (gts 0) (consA (slM cutG (gts 0) (prtS (pur (.int 1))) (pur none)) (pur [])))) (tgT [tgN 3, tgN 4]) (pur true) (op2 ltG (gts 3) (gts 4)) [3, 4]) (pur [])))))
noncomputable def m_are_picks : List D → OF := runF 5 (List.replicate 2 .st) .st g_are_picks
noncomputable def g_odd_in : S → SO :=
  (seqM (parM [3, 4] (consA (mkM "Line" 2 m_Line___init__ (consA (gts 0) (consA (gts 1) (pur [])))) (consA (apA lstG (pur [])) (pur []))))
  (seqM (forM (rngI rng1G (consA (gts 2) (pur []))) (tgN 5)
    (seqM (setM 6 (dcE (seqI (op1 (fldG ["Line"] "lefts") (gts 3))) (tgN 7) (pur true) (gts 7) (pur (.bl true)) [7]))
  (seqM (dropM (mutM "list" 4 appG (consA (apA tupleG (consA (lcE (seqI (op1 (fldG ["Line"] "heaps") (gts 3))) (tgT [tgN 7, tgN 8]) (tru (op2 eqG (op2 modG (gts 8) (pur (.int 2))) (pur (.int 1)))) (apA tupG (consA (gts 7) (consA (ifX (tru (op2 (inG false) (gts 7) (gts 6))) (op1 negG (pur (.int 1))) (pur (.int 1))) (pur [])))) [7, 8]) (pur []))) (pur []))))
  (dropM (callQ [some 3] m_Line_advance (consA (op1 (insG "Line" "advance") (gts 3)) (pur [])))))))
  (retM (movS 4))))
noncomputable def m_odd_in : List D → OF := runF 9 (List.replicate 3 .st) .st g_odd_in
noncomputable def g_odd_heaps : S → SO :=
  (seqM (parM [3, 4] (consA (callM 2 m_need_heaps (consA (gts 0) (consA (pur (.str "heaps")) (pur [])))) (consA (callM 2 m_need_lefts (appA (consA (gts 1) (pur [])) [(.str "lefts")])) (pur []))))
  (seqM (dropM (callM 4 m_need_number (consA (gts 2) (consA (pur (.str "ticks")) (consA (pur (.int 0)) (consA (pur (.int 60)) (pur [])))))))
  (seqM (dropM (callM 1 m_need_colour (consA (callM 1 m_spots_of (consA (gts 3) (pur []))) (pur []))))
  (retM (apA tupleG (consA (callM 3 m_odd_in (consA (gts 3) (consA (gts 4) (consA (gts 2) (pur []))))) (pur [])))))))
noncomputable def m_odd_heaps : List D → OF := runF 5 (List.replicate 3 .st) .st g_odd_heaps
noncomputable def g_are_odds : S → SO :=
  (retM (adV (apA isiG (consA (gts 0) (consA (pur (.oth (.ty "tuple"))) (pur [])))) (apA allG (consA (lcE (seqI (gts 0)) (tgN 1) (pur true) (callM 2 m_are_integers (consA (gts 1) (consA (pur (.int 3)) (pur [])))) [1]) (pur [])))))
noncomputable def m_are_odds : List D → OF := runF 2 (List.replicate 1 .st) .st g_are_odds
noncomputable def g_need_row : S → SO :=
  (seqM (dropM (callM 4 m_need_number (consA (gts 0) (consA (pur (.str "low")) (consA (op1 negG (pur (.int 999900))) (consA (pur (.int 999900)) (pur [])))))))
  (seqM (dropM (callM 4 m_need_number (consA (gts 1) (consA (pur (.str "high")) (consA (gts 0) (consA (op2 addG (gts 0) (pur (.int 80))) (pur [])))))))
  (dropM (callM 4 m_need_number (consA (gts 2) (consA (pur (.str "ticks")) (consA (pur (.int 0)) (consA (pur (.int 10)) (pur [])))))))))
noncomputable def m_need_row : List D → OF := runF 3 (List.replicate 3 .st) .st g_need_row
noncomputable def g_need_wish : S → SO :=
  (seqM (ifM (orB (notB (tru (apA isi2G (consA (gts 0) (consA (apA tupG (consA (pur (.oth (.ty "list"))) (consA (pur (.oth (.ty "tuple"))) (pur [])))) (pur [])))))) (notB (tru (apA allG (consA (lcE (seqI (gts 0)) (tgN 2) (pur true) (callM 2 m_are_integers (consA (gts 2) (consA (pur (.int 2)) (pur [])))) [2]) (pur []))))))
    noM'
    nxM)
  (seqM (setM 1 (apA tupleG (consA (lcE (seqI (gts 0)) (tgT [tgN 3, tgN 4]) (pur true) (apA tupG (consA (gts 3) (consA (gts 4) (pur [])))) [3, 4]) (pur []))))
  (seqM (ifM (tru (op2 ltG (op1 lenSetG (gts 1)) (apA lenBG (consA (gts 1) (pur [])))))
    noM'
    nxM)
  (retM (gts 1)))))
noncomputable def m_need_wish : List D → OF := runF 5 (List.replicate 1 .st) .st g_need_wish
noncomputable def g_need_wished : S → SO :=
  (seqM (parM [6, 7] (consA (callM 2 m_need_lefts (appA (consA (gts 0) (pur [])) [(.str "lefts")])) (consA (callM 1 m_need_wish (consA (gts 1) (pur []))) (pur []))))
  (seqM (dropM (callM 4 m_need_number (consA (gts 2) (consA (pur (.str "colour")) (consA (pur (.int 0)) (consA (pur (.int 1)) (pur [])))))))
  (seqM (dropM (callM 3 m_need_row (consA (gts 3) (consA (gts 4) (consA (gts 5) (pur []))))))
  (seqM (ifM (notB (tru (apA allG (consA (lcE (seqI (gts 7)) (tgT [tgN 8, tgN 9]) (pur true) (adV (chnM leG leG (gts 3) (gts 8) (gts 4)) (chnM leG ltG (pur (.int 0)) (gts 9) (gts 5))) [8, 9]) (pur [])))))
    noM'
    nxM)
  (seqM (ifM (notB (tru (apA allG (consA (lcE (seqI (gts 7)) (tgT [tgN 8, tgN 9]) (pur true) (op2 eqG (op2 modG (op2 addG (gts 8) (gts 9)) (pur (.int 2))) (gts 2)) [8, 9]) (pur [])))))
    noM'
    nxM)
  (retM (apA tupG (consA (gts 6) (consA (gts 7) (pur []))))))))))
noncomputable def m_need_wished : List D → OF := runF 10 (List.replicate 6 .st) .st g_need_wished
noncomputable def g_granting : S → SO :=
  (seqM (parM [6, 7, 8] (consA (dcE (seqI (gts 1)) (tgN 15) (pur true) (gts 15) (pur (.bl true)) [15]) (consA (apA (fun _ => some (.dk [])) (pur [])) (consA (apA lstG (consA (pur (.int 1)) (pur []))) (pur [])))))
  (seqM (forM (rngI rng1G (consA (gts 5) (pur []))) (tgN 9)
    (seqM (setM 10 (mkM "Line" 2 m_Line___init__ (consA (op1 itSG (bd (gts 7) sca)) (consA (gts 0) (pur [])))))
  (seqM (dropM (callQ [some 10, none] m_Line_forward (consA (op1 (insG "Line" "forward") (gts 10)) (consA (gts 9) (pur [])))))
  (shM 10 (seqM (setM 11 (apA dictAG (consA (op1 (fldG ["Line"] "heaps") (gts 10)) (pur []))))
  (seqM (forM (rngI rng3G (consA (op2 addG (gts 3) (op2 modG (op2 addG (op2 addG (gts 3) (gts 9)) (gts 2)) (pur (.int 2)))) (consA (op2 addG (gts 4) (pur (.int 1))) (consA (pur (.int 2)) (pur []))))) (tgN 12)
    (ifM (tru (op2 neG (op2 modG (getM (gts 11) (gts 12) (pur (.int 0))) (pur (.int 2))) (apA intG (consA (op2 (inG false) (apA tupG (consA (gts 12) (consA (gts 9) (pur [])))) (gts 6)) (pur [])))))
    (seqM (setI 7 (op2 addG (gts 12) (gts 9)) (bd (op2 addG (getM (gts 7) (op2 addG (gts 12) (gts 9)) (pur (.int 0))) (op2 shlG (pur (.int 1)) (gts 9))) sca))
  (forM (rngI enumG (consA (gts 8) (pur []))) (tgT [tgN 13, tgN 14])
    (setI 11 (op2 addG (gts 12) (op2 mulI (pur (.int 2)) (gts 13))) (bd (op2 addG (getM (gts 11) (op2 addG (gts 12) (op2 mulI (pur (.int 2)) (gts 13))) (pur (.int 0))) (gts 14)) sca))))
    nxM))
  (setM 8 (lcE (rngI zipG (consA (apA lstG (consA (pur (.int 0)) (starA (gts 8) (pur [])))) (consA (apA lstG (starA (gts 8) (consA (pur (.int 0)) (pur [])))) (pur [])))) (tgT [tgN 16, tgN 17]) (pur true) (op2 addG (gts 16) (gts 17)) [16, 17]))))))))
  (shM 7 (retM (apA tupleG (consA (op1 itSG (gts 7)) (pur [])))))))
noncomputable def m_granting : List D → OF := runF 18 (List.replicate 6 .st) .st g_granting
noncomputable def g_start_for : S → SO :=
  (seqM (asgM (callM 6 m_need_wished (consA (gts 0) (consA (gts 1) (consA (gts 2) (consA (gts 3) (consA (gts 4) (consA (gts 5) (pur [])))))))) (tgT [tgN 6, tgN 7]))
  (retM (callM 6 m_granting (consA (gts 6) (consA (gts 7) (consA (gts 2) (consA (gts 3) (consA (gts 4) (consA (gts 5) (pur []))))))))))
noncomputable def m_start_for : List D → OF := runF 8 (List.replicate 6 .st) .st g_start_for
noncomputable def g_ends_of : S → SO :=
  (retM (lcE (rngI rng1G (consA (op1 (fldG ["Board"] "homes") (gts 0)) (pur []))) (tgN 2) (pur true) (ifX (tru (op2 eqG (gts 2) (gts 1))) (pur (.tup [(.int 1), (.int 1)])) (pur (.tup [(.int 0), (.int 1)]))) [2]))
noncomputable def m_ends_of : List D → OF := runF 3 (List.replicate 2 .st) .st g_ends_of
noncomputable def g_need_near : S → SO :=
  (seqM (asgM (callM 1 m_ends_of (consA (gts 0) (pur []))) (tgT [tgN 1, tgN 2]))
  (seqM (ifM (orB (tru (op2 ltG (gts 1) (op1 negG (pur (.int 999900))))) (tru (op2 gtG (gts 2) (pur (.int 999900)))))
    noM'
    nxM)
  (ifM (tru (op2 gtG (op2 addG (op2 subG (gts 2) (gts 1)) (op2 mulI (pur (.int 2)) (op1 (fldG ["Look"] "last") (gts 0)))) (pur (.int 118))))
    noM'
    nxM)))
noncomputable def m_need_near : List D → OF := runF 3 (List.replicate 1 .st) .st g_need_near
noncomputable def g_added_wish : S → SO :=
  (forM (seqI (gts 3)) (tgN 4)
    (setI 0 (apA tupG (consA (gts 2) (consA (op2 addG (op2 modG (op2 addG (gts 2) (op1 (fldG ["Look"] "colour") (gts 1))) (pur (.int 2))) (op2 mulI (pur (.int 2)) (gts 4))) (pur [])))) (pur (.bl true))))
noncomputable def m_added_wish : List D → OF := runF 5 [.fr, .st, .st, .st] .st g_added_wish
noncomputable def g_line_at : S → SO :=
  (seqM (setM 3 (mkM "Line" 2 m_Line___init__ (consA (apA tupG (pur [])) (consA (apA tupG (pur [])) (pur [])))))
  (seqM (setF 3 ["Line"] "tick" (gts 0))
  (seqM (setF 3 ["Line"] "heaps" (apA tupleG (consA (gts 1) (pur []))))
  (seqM (setF 3 ["Line"] "lefts" (apA tupleG (consA (gts 2) (pur []))))
  (retM (movS 3))))))
noncomputable def m_line_at : List D → OF := runF 4 (List.replicate 3 .st) .fr g_line_at
noncomputable def g_later_row : S → SO :=
  (retM (lcE (rngI zipG (consA (apA lstG (consA (pur (.int 0)) (starA (gts 0) (pur [])))) (consA (apA lstG (starA (gts 0) (consA (pur (.int 0)) (pur [])))) (pur [])))) (tgT [tgN 1, tgN 2]) (pur true) (op2 addG (gts 1) (gts 2)) [1, 2]))
noncomputable def m_later_row : List D → OF := runF 3 (List.replicate 1 .st) .st g_later_row
noncomputable def g_heaps_for : S → SO :=
  (seqM (asgM (apA tupG (consA (callM 1 m_ends_of (consA (gts 0) (pur []))) (consA (apA (fun _ => some (.dk [])) (pur [])) (pur [])))) (tgT [tgT [tgN 3, tgN 4], tgN 5]))
  (seqM (parM [6, 7] (consA (callM 3 m_line_at (consA (pur (.int 0)) (consA (apA tupG (pur [])) (consA (gts 1) (pur []))))) (consA (apA lstG (consA (pur (.int 1)) (pur []))) (pur []))))
  (seqM (forM (rngI rng1G (consA (op1 (fldG ["Look"] "last") (gts 0)) (pur []))) (tgN 8)
    (seqM (parM [9, 10] (consA (apA dictAG (consA (op1 (fldG ["Line"] "heaps") (gts 6)) (pur []))) (consA (op2 subG (op1 (fldG ["Look"] "last") (gts 0)) (gts 8)) (pur []))))
  (seqM (forM (rngI rng2G (consA (op2 subG (gts 3) (gts 10)) (consA (op2 addG (op2 addG (gts 4) (gts 10)) (pur (.int 1))) (pur [])))) (tgN 11)
    (ifM (andB (tru (op2 eqG (op2 modG (op2 addG (gts 11) (gts 8)) (pur (.int 2))) (op1 (fldG ["Look"] "colour") (gts 0)))) (tru (op2 neG (op2 modG (getM (gts 9) (gts 11) (pur (.int 0))) (pur (.int 2))) (apA intG (consA (op2 (inG false) (apA tupG (consA (gts 11) (consA (gts 8) (pur [])))) (gts 2)) (pur []))))))
    (seqM (setI 5 (op2 addG (gts 11) (gts 8)) (bd (op2 addG (getM (gts 5) (op2 addG (gts 11) (gts 8)) (pur (.int 0))) (op2 shlG (pur (.int 1)) (gts 8))) sca))
  (forM (rngI enumG (consA (gts 7) (pur []))) (tgT [tgN 12, tgN 13])
    (setI 9 (op2 addG (gts 11) (op2 mulI (pur (.int 2)) (gts 12))) (bd (op2 addG (getM (gts 9) (op2 addG (gts 11) (op2 mulI (pur (.int 2)) (gts 12))) (pur (.int 0))) (gts 13)) sca))))
    nxM))
  (shM 9 (seqM (parM [6, 7] (consA (callM 3 m_line_at (consA (gts 8) (consA (apA tupleG (consA (op1 itSG (gts 9)) (pur []))) (consA (op1 (fldG ["Line"] "lefts") (gts 6)) (pur []))))) (consA (callM 1 m_later_row (consA (gts 7) (pur []))) (pur []))))
  (dropM (callQ [some 6] m_Line_advance (consA (op1 (insG "Line" "advance") (gts 6)) (pur [])))))))))
  (shM 5 (retM (apA tupleG (consA (op1 itSG (gts 5)) (pur []))))))))
noncomputable def m_heaps_for : List D → OF := runF 14 (List.replicate 3 .st) .st g_heaps_for
noncomputable def g_picks_from : S → SO :=
  (seqM (parM [2, 3] (consA (apA tupG (consA (pur (.tup [(.int 0), (.int 1)])) (consA (apA tupG (pur [])) (pur [])))) (consA (pur .non) (pur []))))
  (seqM (forM (rngI enumG (consA (gts 0) (pur []))) (tgT [tgN 4, tgN 5])
    (seqM (setM 6 (callM 2 m_signed (consA (gts 5) (consA (gts 1) (pur [])))))
  (seqM (setM 7 (apA tupG (consA (callM 2 m_both (consA (op2 ixAG (gts 2) (pur (.int 0))) (consA (gts 6) (pur [])))) (consA (apA tupG (starA (op2 ixAG (gts 2) (pur (.int 1))) (consA (gts 4) (pur [])))) (pur [])))))
  (seqM (ifM (tru (op2 notNG (gts 3) (pur .non)))
    (seqM (setM 8 (apA tupG (consA (callM 2 m_both (consA (op2 ixAG (gts 3) (pur (.int 0))) (consA (callM 2 m_signed (consA (gts 5) (consA (op1 negG (gts 1)) (pur [])))) (pur [])))) (consA (apA tupG (starA (op2 ixAG (gts 3) (pur (.int 1))) (consA (gts 4) (pur [])))) (pur [])))))
  (seqM (setM 7 (ifX (tru (callM 2 m_is_less (consA (op2 ixAG (gts 7) (pur (.int 0))) (consA (op2 ixAG (gts 3) (pur (.int 0))) (pur []))))) (gts 3) (gts 7)))
  (setM 2 (ifX (tru (callM 2 m_is_less (consA (op2 ixAG (gts 2) (pur (.int 0))) (consA (op2 ixAG (gts 8) (pur (.int 0))) (pur []))))) (gts 8) (gts 2)))))
    nxM)
  (setM 3 (gts 7))))))
  (retM (ifX (andB (tru (op2 notNG (gts 3) (pur .non))) (tru (callM 2 m_is_less (consA (op2 ixAG (gts 2) (pur (.int 0))) (consA (op2 ixAG (gts 3) (pur (.int 0))) (pur [])))))) (op2 ixAG (gts 3) (pur (.int 1))) (op2 ixAG (gts 2) (pur (.int 1)))))))
noncomputable def m_picks_from : List D → OF := runF 9 (List.replicate 2 .st) .st g_picks_from
noncomputable def g_over : S → SO :=
  (retM (callM 2 m_times (consA (gts 0) (consA (callM 2 m_least_pair (consA (op2 ixAG (gts 1) (pur (.int 1))) (consA (op2 ixAG (gts 1) (pur (.int 0))) (pur [])))) (pur [])))))
noncomputable def m_over : List D → OF := runF 2 (List.replicate 2 .st) .st g_over
noncomputable def g_lessened : S → SO :=
  (seqM (setM 3 (callM 1 m_turned (consA (callM 2 m_over (consA (op2 ixAG (gts 0) (gts 2)) (consA (op2 ixAG (gts 1) (gts 2)) (pur [])))) (pur []))))
  (retM (lcE (rngI zipG (consA (gts 0) (consA (gts 1) (pur [])))) (tgT [tgN 4, tgN 5]) (pur true) (callM 2 m_both (consA (gts 4) (consA (callM 2 m_times (consA (gts 3) (consA (gts 5) (pur [])))) (pur [])))) [4, 5])))
noncomputable def m_lessened : List D → OF := runF 6 (List.replicate 3 .st) .st g_lessened
noncomputable def g_equation_of : S → SO :=
  (seqM (setM 4 (op2 ixAG (op1 (fldG ["Board"] "rows") (gts 0)) (gts 1)))
  (seqM (setM 5 (op2 catG (op2 mulI (apA lstG (consA (pur (.tup [(.int 0), (.int 1)])) (pur []))) (op1 (fldG ["Board"] "places") (gts 0))) (apA lstG (consA (gts 3) (pur [])))))
  (seqM (setI 5 (gts 1) (pur (.tup [(.int 1), (.int 1)])))
  (seqM (forM (seqI (gts 4)) (tgN 6)
    (ifM (tru (op2 ltG (gts 6) (op1 (fldG ["Board"] "places") (gts 0))))
    (setI 5 (gts 6) (bd (callM 2 m_both (consA (op2 ixAG (gts 5) (gts 6)) (consA (apA tupG (consA (op1 negG (pur (.int 1))) (consA (apA lenBG (consA (gts 4) (pur []))) (pur [])))) (pur [])))) sca))
    (setI 5 (op1 negG (pur (.int 1))) (bd (callM 2 m_both (consA (op2 ixAG (gts 5) (op1 negG (pur (.int 1)))) (consA (callM 2 m_times (consA (op2 ixAG (gts 2) (op2 subG (gts 6) (op1 (fldG ["Board"] "places") (gts 0)))) (consA (apA tupG (consA (pur (.int 1)) (consA (apA lenBG (consA (gts 4) (pur []))) (pur [])))) (pur [])))) (pur [])))) sca))))
  (retM (movS 5))))))
noncomputable def m_equation_of : List D → OF := runF 7 (List.replicate 4 .st) .st g_equation_of
noncomputable def g_mean_over : S → SO :=
  (retM (callM 2 m_times (consA (callM 1 m_total_of (consA (lcE (seqI (gts 0)) (tgN 2) (pur true) (op2 ixAG (gts 1) (gts 2)) [2]) (pur []))) (consA (apA tupG (consA (pur (.int 1)) (consA (apA lenBG (consA (gts 0) (pur []))) (pur [])))) (pur [])))))
noncomputable def m_mean_over : List D → OF := runF 3 (List.replicate 2 .st) .st g_mean_over
noncomputable def g_need_hands : S → SO :=
  (seqM (ifM (orB (notB (tru (apA isi2G (consA (gts 1) (consA (apA tupG (consA (pur (.oth (.ty "list"))) (consA (pur (.oth (.ty "tuple"))) (pur [])))) (pur [])))))) (tru (op2 neG (apA lenBG (consA (gts 1) (pur []))) (op1 (fldG ["Board"] "places") (gts 0)))))
    noM'
    nxM)
  (seqM (ifM (notB (tru (apA allG (consA (lcE (rngI zipG (consA (gts 1) (consA (op1 (fldG ["Board"] "rows") (gts 0)) (pur [])))) (tgT [tgN 2, tgN 3]) (pur true) (callM 3 m_is_within (consA (gts 2) (consA (pur (.int 0)) (consA (op2 subG (apA lenBG (consA (gts 3) (pur []))) (pur (.int 1))) (pur []))))) [2, 3]) (pur [])))))
    noM'
    nxM)
  (retM (apA listAG (consA (gts 1) (pur []))))))
noncomputable def m_need_hands : List D → OF := runF 4 (List.replicate 2 .st) .st g_need_hands
noncomputable def g_World_need_out : S → SO :=
  (dropM (callM 4 m_need_number (consA (gts 1) (consA (pur (.str "walker")) (consA (pur (.int 0)) (consA (op2 subG (apA lenBG (consA (op1 (fldG ["World"] "standing") (gts 0)) (pur []))) (pur (.int 1))) (pur [])))))))
noncomputable def m_World_need_out : List D → OF := runF 2 (List.replicate 2 .st) .st g_World_need_out
noncomputable def g_World_need_away : S → SO :=
  (ifM (tru (op2 geG (op2 ixAG (op1 (fldG ["World"] "standing") (gts 0)) (gts 1)) (op1 (fldG ["Board"] "places") (op1 (fldG ["World"] "board") (gts 0)))))
    noM'
    nxM)
noncomputable def m_World_need_away : List D → OF := runF 2 (List.replicate 2 .st) .st g_World_need_away
noncomputable def g_need_home : S → SO :=
  (dropM (callM 4 m_need_number (consA (gts 1) (consA (pur (.str "home")) (consA (pur (.int 0)) (consA (op2 subG (op1 (fldG ["Board"] "homes") (gts 0)) (pur (.int 1))) (pur [])))))))
noncomputable def m_need_home : List D → OF := runF 2 (List.replicate 2 .st) .st g_need_home
noncomputable def g_span_of : S → SO :=
  (seqM (parM [1, 2] (consA (op2 ixAG (gts 0) (pur (.int 0))) (consA (op2 ixAG (gts 0) (pur (.int 0))) (pur []))))
  (seqM (forM (seqI (gts 0)) (tgN 3)
    (seqM (setM 1 (ifX (tru (callM 2 m_is_less (consA (gts 3) (consA (gts 1) (pur []))))) (gts 3) (gts 1)))
  (setM 2 (ifX (tru (callM 2 m_is_less (consA (gts 2) (consA (gts 3) (pur []))))) (gts 3) (gts 2)))))
  (retM (apA tupG (consA (gts 1) (consA (gts 2) (pur [])))))))
noncomputable def m_span_of : List D → OF := runF 4 (List.replicate 1 .st) .st g_span_of
noncomputable def g_row_worths : S → SO :=
  (seqM (setM 3 (apA lstG (consA (pur (.tup [(.int 0), (.int 1)])) (pur []))))
  (seqM (forM (seqI (slM cutG (op2 ixAG (op1 (fldG ["Board"] "rows") (gts 0)) (gts 1)) (pur none) (prtS (op1 negG (pur (.int 1)))))) (tgN 4)
    (dropM (mutM "list" 3 appG (consA (bd (callM 2 m_both (consA (op2 ixAG (gts 3) (op1 negG (pur (.int 1)))) (consA (callM 2 m_both (consA (op2 ixAG (gts 2) (gts 1)) (consA (callM 1 m_turned (consA (op2 ixAG (gts 2) (gts 4)) (pur []))) (pur [])))) (pur [])))) sca) (pur [])))))
  (shM 3 (retM (apA tupleG (consA (gts 3) (pur [])))))))
noncomputable def m_row_worths : List D → OF := runF 5 (List.replicate 3 .st) .st g_row_worths
noncomputable def g_all_worths : S → SO :=
  (retM (apA tupleG (consA (lcE (rngI rng1G (consA (op1 (fldG ["Board"] "places") (gts 0)) (pur []))) (tgN 2) (pur true) (callM 3 m_row_worths (consA (gts 0) (consA (gts 2) (consA (gts 1) (pur []))))) [2]) (pur []))))
noncomputable def m_all_worths : List D → OF := runF 3 (List.replicate 2 .st) .st g_all_worths
noncomputable def g_are_fractions : S → SO :=
  (retM (adV (apA isiG (consA (gts 0) (consA (pur (.oth (.ty "tuple"))) (pur [])))) (adV (op2 eqG (apA lenBG (consA (gts 0) (pur []))) (gts 1)) (apA allG (consA (lcE (seqI (gts 0)) (tgN 2) (pur true) (callM 1 m_is_fraction (consA (gts 2) (pur []))) [2]) (pur []))))))
noncomputable def m_are_fractions : List D → OF := runF 3 (List.replicate 2 .st) .st g_are_fractions
noncomputable def g_are_spans : S → SO :=
  (seqM (ifM (orB (notB (tru (apA isiG (consA (gts 0) (consA (pur (.oth (.ty "tuple"))) (pur [])))))) (tru (op2 neG (apA lenBG (consA (gts 0) (pur []))) (gts 1))))
    (retM (pur (.bl false)))
    nxM)
  (retM (apA allG (consA (lcE (seqI (gts 0)) (tgN 2) (pur true) (callM 2 m_are_fractions (consA (gts 2) (consA (pur (.int 2)) (pur [])))) [2]) (pur [])))))
noncomputable def m_are_spans : List D → OF := runF 3 (List.replicate 2 .st) .st g_are_spans
noncomputable def g_Scan_ahead : S → SO :=
  (retM (ifX (tru (op2 ltG (op1 (fldG ["Scan"] "at") (gts 0)) (apA lenBG (consA (op1 (fldG ["Scan"] "words") (gts 0)) (pur []))))) (op2 ixAG (op1 (fldG ["Scan"] "words") (gts 0)) (op1 (fldG ["Scan"] "at") (gts 0))) (pur .non)))
noncomputable def m_Scan_ahead : List D → OF := runF 1 (List.replicate 1 .st) .st g_Scan_ahead
noncomputable def g_Scan_refuse : S → SO :=
  noM'
noncomputable def m_Scan_refuse : List D → OF := runF 1 (List.replicate 1 .st) .st g_Scan_refuse
noncomputable def g_Scan_take : S → SO :=
  (seqM (setM 1 (bd (callM 1 m_Scan_ahead (consA (op1 (insG "Scan" "ahead") (gts 0)) (pur []))) sca))
  (seqM (ifM (tru (op2 isNG (gts 1) (pur .non)))
    (dropM (callM 1 m_Scan_refuse (consA (op1 (insG "Scan" "refuse") (gts 0)) (pur []))))
    nxM)
  (seqM (setF 0 ["Scan"] "at" (op2 addG (op1 (fldG ["Scan"] "at") (gts 0)) (pur (.int 1))))
  (retM (gts 1)))))
noncomputable def m_Scan_take : List D → OF := runF 2 [.fr] .st g_Scan_take
noncomputable def g_Scan_take_just : S → SO :=
  (seqM (ifM (tru (op2 neG (callM 1 m_Scan_ahead (consA (op1 (insG "Scan" "ahead") (gts 0)) (pur []))) (gts 1)))
    (dropM (callM 1 m_Scan_refuse (consA (op1 (insG "Scan" "refuse") (gts 0)) (pur []))))
    nxM)
  (retM (callQ [some 0] m_Scan_take (consA (op1 (insG "Scan" "take") (gts 0)) (pur [])))))
noncomputable def m_Scan_take_just : List D → OF := runF 2 [.fr, .st] .st g_Scan_take_just
noncomputable def g_written : S → SO :=
  (seqM (setM 1 (ifX (tru (op2 eqG (slM cutG (gts 0) (pur none) (prtS (pur (.int 1)))) (pur (.str "-")))) (slM cutG (gts 0) (prtS (pur (.int 1))) (pur none)) (gts 0)))
  (seqM (ifM (orB (tru (op2 eqG (gts 1) (pur (.str "")))) (orB (tru (op2 gtG (apA lenBG (consA (gts 1) (pur []))) (pur (.int 140)))) (notB (tru (apA allG (consA (lcE (seqI (gts 1)) (tgN 2) (pur true) (op2 (inG false) (gts 2) (pur (.str "0123456789"))) [2]) (pur [])))))))
    (retM (pur .non))
    nxM)
  (seqM (ifM (andB (tru (op2 eqG (op2 ixAG (gts 1) (pur (.int 0))) (pur (.str "0")))) (tru (op2 neG (gts 0) (pur (.str "0")))))
    (retM (pur .non))
    nxM)
  (retM (apA intG (consA (gts 0) (pur [])))))))
noncomputable def m_written : List D → OF := runF 3 (List.replicate 1 .st) .st g_written
noncomputable def g_Scan_take_number : S → SO :=
  (seqM (setM 3 (bd (callM 1 m_Scan_ahead (consA (op1 (insG "Scan" "ahead") (gts 0)) (pur []))) sca))
  (seqM (setM 4 (ifX (tru (op2 isNG (gts 3) (pur .non))) (pur .non) (callM 1 m_written (consA (gts 3) (pur [])))))
  (seqM (ifM (notB (tru (callM 3 m_is_within (consA (gts 4) (consA (gts 1) (consA (gts 2) (pur [])))))))
    (dropM (callM 1 m_Scan_refuse (consA (op1 (insG "Scan" "refuse") (gts 0)) (pur []))))
    nxM)
  (seqM (setF 0 ["Scan"] "at" (op2 addG (op1 (fldG ["Scan"] "at") (gts 0)) (pur (.int 1))))
  (retM (gts 4))))))
noncomputable def m_Scan_take_number : List D → OF := runF 5 [.fr, .st, .st] .st g_Scan_take_number
noncomputable def g_is_name : S → SO :=
  (seqM (ifM (orB (tru (op2 isNG (gts 0) (pur .non))) (orB (tru (op2 (inG false) (gts 0) (pur (.tup [(.str "numbers"), (.str "turn"), (.str "set"), (.str "up"), (.str "down"), (.str "copy"), (.str "add"), (.str "dice"), (.str "chance"), (.str "else"), (.str "if"), (.str "not"), (.str "home")])))) (notB (tru (chnM leG leG (pur (.int 1)) (apA lenBG (consA (gts 0) (pur []))) (pur (.int 8)))))))
    (retM (pur (.bl false)))
    nxM)
  (retM (apA allG (consA (lcE (seqI (gts 0)) (tgN 1) (pur true) (op2 (inG false) (gts 1) (pur (.str "abcdefghijklmnopqrstuvwxyz"))) [1]) (pur [])))))
noncomputable def m_is_name : List D → OF := runF 2 (List.replicate 1 .st) .st g_is_name
noncomputable def g_taken_number : S → SO :=
  (seqM (ifM (orB (notB (tru (callM 1 m_is_name (consA (callM 1 m_Scan_ahead (consA (op1 (insG "Scan" "ahead") (gts 0)) (pur []))) (pur []))))) (tru (op2 (inG false) (callM 1 m_Scan_ahead (consA (op1 (insG "Scan" "ahead") (gts 0)) (pur []))) (gts 1))))
    (dropM (callM 1 m_Scan_refuse (consA (op1 (insG "Scan" "refuse") (gts 0)) (pur []))))
    nxM)
  (seqM (setM 2 (callQ [some 0] m_Scan_take (consA (op1 (insG "Scan" "take") (gts 0)) (pur []))))
  (seqM (setM 3 (callQ [some 0, none, none] m_Scan_take_number (consA (op1 (insG "Scan" "take_number") (gts 0)) (consA (op1 negG (pur (.int 99))) (consA (pur (.int 99)) (pur []))))))
  (seqM (setM 4 (callQ [some 0, none, none] m_Scan_take_number (consA (op1 (insG "Scan" "take_number") (gts 0)) (consA (gts 3) (consA (pur (.int 99)) (pur []))))))
  (retM (apA tupG (consA (gts 2) (consA (gts 3) (consA (gts 4) (consA (callQ [some 0, none, none] m_Scan_take_number (consA (op1 (insG "Scan" "take_number") (gts 0)) (consA (gts 3) (consA (gts 4) (pur []))))) (pur [])))))))))))
noncomputable def m_taken_number : List D → OF := runF 5 [.fr, .st] .st g_taken_number
noncomputable def g_taken_numbers : S → SO :=
  (seqM (dropM (callQ [some 0, none] m_Scan_take_just (consA (op1 (insG "Scan" "take_just") (gts 0)) (consA (pur (.str "numbers")) (pur [])))))
  (seqM (dropM (callQ [some 0, none] m_Scan_take_just (consA (op1 (insG "Scan" "take_just") (gts 0)) (consA (pur (.str "{")) (pur [])))))
  (seqM (setM 1 (apA lstG (consA (callQ [some 0, none] m_taken_number (consA (gts 0) (consA (apA lstG (pur [])) (pur [])))) (pur []))))
  (seqM (whM (tru (op2 neG (callM 1 m_Scan_ahead (consA (op1 (insG "Scan" "ahead") (gts 0)) (pur []))) (pur (.str "}"))))
    (seqM (ifM (tru (op2 eqG (apA lenBG (consA (gts 1) (pur []))) (pur (.int 4))))
    (dropM (callM 1 m_Scan_refuse (consA (op1 (insG "Scan" "refuse") (gts 0)) (pur []))))
    nxM)
  (dropM (mutM "list" 1 appG (consA (callQ [some 0, none] m_taken_number (consA (gts 0) (consA (lcE (seqI (gts 1)) (tgT [tgN 2, tgN 3, tgN 3, tgN 3]) (pur true) (gts 2) [2, 3, 3, 3]) (pur [])))) (pur []))))))
  (seqM (dropM (callQ [some 0] m_Scan_take (consA (op1 (insG "Scan" "take") (gts 0)) (pur []))))
  (retM (movS 1)))))))
noncomputable def m_taken_numbers : List D → OF := runF 4 [.fr] .st g_taken_numbers
noncomputable def g_Scan_refuse_last : S → SO :=
  noM'
noncomputable def m_Scan_refuse_last : List D → OF := runF 1 (List.replicate 1 .st) .st g_Scan_refuse_last
noncomputable def g_put_at : S → SO :=
  (seqM (setM 4 (apA min2G (consA (apA max2G (consA (gts 3) (consA (op2 ixAG (op1 (fldG ["Game"] "lows") (gts 0)) (gts 2)) (pur [])))) (consA (op2 ixAG (op1 (fldG ["Game"] "highs") (gts 0)) (gts 2)) (pur [])))))
  (retM (apA tupG (starA (slM cutG (gts 1) (pur none) (prtS (gts 2))) (consA (gts 4) (starA (slM cutG (gts 1) (prtS (op2 addG (gts 2) (pur (.int 1)))) (pur none)) (pur [])))))))
noncomputable def m_put_at : List D → OF := runF 5 (List.replicate 4 .st) .st g_put_at
noncomputable def g_changed : S → SO :=
  (seqM (asgM (gts 1) (tgT [tgN 3, tgN 4, tgN 5]))
  (seqM (ifM (tru (op2 eqG (gts 3) (pur (.str "set"))))
    (retM (callM 4 m_put_at (consA (gts 0) (consA (gts 2) (consA (gts 4) (consA (gts 5) (pur [])))))))
    nxM)
  (seqM (ifM (tru (op2 eqG (gts 3) (pur (.str "copy"))))
    (retM (callM 4 m_put_at (consA (gts 0) (consA (gts 2) (consA (gts 4) (consA (op2 ixAG (gts 2) (gts 5)) (pur [])))))))
    nxM)
  (seqM (setM 6 (op2 ixAG (dispM (consP (pur (.str "up")) (gts 5) (consP (pur (.str "down")) (op1 negG (gts 5)) (consP (pur (.str "add")) (ifX (tru (op2 eqG (gts 3) (pur (.str "add")))) (op2 ixAG (gts 2) (gts 5)) (pur (.int 0))) (pur []))))) (gts 3)))
  (retM (callM 4 m_put_at (consA (gts 0) (consA (gts 2) (consA (gts 4) (consA (op2 addG (op2 ixAG (gts 2) (gts 4)) (gts 6)) (pur [])))))))))))
noncomputable def m_changed : List D → OF := runF 7 (List.replicate 3 .st) .st g_changed
noncomputable def g_is_so : S → SO :=
  (seqM (asgM (gts 0) (tgT [tgN 2, tgN 3, tgN 4, tgN 5, tgN 6]))
  (seqM (setM 7 (ifX (tru (op2 isNG (gts 5) (pur .non))) (gts 6) (op2 ixAG (gts 1) (gts 5))))
  (seqM (setM 8 (ifX (tru (op2 eqG (gts 4) (pur (.str "=")))) (op2 eqG (op2 ixAG (gts 1) (gts 3)) (gts 7)) (op2 ltG (op2 ixAG (gts 1) (gts 3)) (gts 7))))
  (retM (op2 neG (gts 8) (gts 2))))))
noncomputable def m_is_so : List D → OF := runF 9 (List.replicate 2 .st) .st g_is_so
noncomputable def g_gone_on : S → SO :=
  (seqM (whM (andB (tru (op2 neG (gts 1) (apA tupG (pur [])))) (tru (op2 (inG true) (op2 ixAG (op2 ixAG (gts 1) (pur (.int 0))) (pur (.int 0))) (pur (.tup [(.str "dice"), (.str "chance"), (.str "home")])))))
    (seqM (parM [3, 1] (consA (op2 ixAG (gts 1) (pur (.int 0))) (consA (slM cutG (gts 1) (prtS (pur (.int 1))) (pur none)) (pur []))))
  (ifM (tru (op2 eqG (op2 ixAG (gts 3) (pur (.int 0))) (pur (.str "if"))))
    (setM 1 (op2 addG (ifX (tru (callM 2 m_is_so (consA (op2 ixAG (gts 3) (pur (.int 1))) (consA (gts 2) (pur []))))) (op2 ixAG (gts 3) (pur (.int 2))) (op2 ixAG (gts 3) (pur (.int 3)))) (gts 1)))
    (setM 2 (callM 3 m_changed (consA (gts 0) (consA (gts 3) (consA (gts 2) (pur [])))))))))
  (retM (apA tupG (consA (gts 1) (consA (gts 2) (pur []))))))
noncomputable def m_gone_on : List D → OF := runF 4 (List.replicate 3 .st) .st g_gone_on
noncomputable def g_need_standing : S → SO :=
  (seqM (ifM (notB (tru (callM 2 m_are_integers (consA (gts 1) (consA (apA lenBG (consA (op1 (fldG ["Game"] "names") (gts 0)) (pur []))) (pur []))))))
    noM'
    nxM)
  (seqM (ifM (notB (tru (apA allG (consA (lcE (rngI zipG (consA (op1 (fldG ["Game"] "lows") (gts 0)) (consA (gts 1) (consA (op1 (fldG ["Game"] "highs") (gts 0)) (pur []))))) (tgT [tgN 2, tgN 3, tgN 4]) (pur true) (chnM leG leG (gts 2) (gts 3) (gts 4)) [2, 3, 4]) (pur [])))))
    noM'
    nxM)
  (retM (apA tupleG (consA (gts 1) (pur []))))))
noncomputable def m_need_standing : List D → OF := runF 5 (List.replicate 2 .st) .st g_need_standing
noncomputable def g_turn_by : S → SO :=
  (seqM (asgM (callM 3 m_gone_on (consA (gts 0) (consA (op1 (fldG ["Game"] "deeds") (gts 0)) (consA (gts 1) (pur []))))) (tgT [tgN 3, tgN 4]))
  (seqM (forM (seqI (gts 2)) (tgN 5)
    (seqM (ifM (orB (tru (op2 eqG (gts 3) (apA tupG (pur [])))) (tru (op2 eqG (op2 ixAG (op2 ixAG (gts 3) (pur (.int 0))) (pur (.int 0))) (pur (.str "home")))))
    noM'
    nxM)
  (seqM (asgM (slM cutG (op2 ixAG (gts 3) (pur (.int 0))) (pur none) (prtS (pur (.int 3)))) (tgT [tgN 6, tgN 7, tgN 8]))
  (seqM (ifM (tru (op2 gtG (gts 5) (ifX (tru (op2 eqG (gts 6) (pur (.str "dice")))) (gts 8) (op2 addG (gts 7) (gts 8)))))
    noM'
    nxM)
  (seqM (asgM (op2 ixAG (callM 3 m_choices (consA (gts 0) (consA (gts 3) (consA (gts 4) (pur []))))) (ifX (tru (op2 eqG (gts 6) (pur (.str "dice")))) (op2 subG (gts 5) (pur (.int 1))) (apA intG (consA (op2 gtG (gts 5) (gts 7)) (pur []))))) (tgT [tgN 9, tgN 10, tgN 11]))
  (asgM (callM 3 m_gone_on (consA (gts 0) (consA (gts 9) (consA (gts 10) (pur []))))) (tgT [tgN 3, tgN 4])))))))
  (seqM (ifM (andB (tru (op2 neG (gts 3) (apA tupG (pur [])))) (tru (op2 neG (op2 ixAG (op2 ixAG (gts 3) (pur (.int 0))) (pur (.int 0))) (pur (.str "home")))))
    noM'
    nxM)
  (retM (apA tupG (consA (ifX (tru (op2 neG (gts 3) (apA tupG (pur [])))) (op2 ixAG (op2 ixAG (gts 3) (pur (.int 0))) (pur (.int 1))) (pur .non)) (consA (gts 4) (pur []))))))))
noncomputable def m_turn_by : List D → OF := runF 12 (List.replicate 3 .st) .st g_turn_by
noncomputable def g_need_weights : S → SO :=
  (seqM (ifM (orB (notB (tru (apA isi2G (consA (gts 0) (consA (apA tupG (consA (pur (.oth (.ty "list"))) (consA (pur (.oth (.ty "tuple"))) (pur [])))) (pur [])))))) (notB (tru (chnM leG leG (pur (.int 1)) (apA lenBG (consA (gts 0) (pur []))) (pur (.int 60))))))
    noM'
    nxM)
  (seqM (ifM (notB (tru (apA allG (consA (lcE (seqI (gts 0)) (tgN 1) (pur true) (callM 3 m_is_within (consA (gts 1) (consA (pur (.int 1)) (consA (pur (.int 60)) (pur []))))) [1]) (pur [])))))
    noM'
    nxM)
  (seqM (ifM (tru (op2 gtG (apA sumG (consA (gts 0) (pur []))) (pur (.int 60))))
    noM'
    nxM)
  (retM (apA tupleG (consA (gts 0) (pur [])))))))
noncomputable def m_need_weights : List D → OF := runF 2 (List.replicate 1 .st) .st g_need_weights
noncomputable def g_due_at : S → SO :=
  (retM (op1 negG (op2 fdivG (op2 mulI (op1 negG (op2 addG (gts 1) (pur (.int 1)))) (gts 2)) (gts 0))))
noncomputable def m_due_at : List D → OF := runF 3 (List.replicate 3 .st) .st g_due_at
noncomputable def g_whole_of : S → SO :=
  (seqM (setM 1 (pur (.int 1)))
  (seqM (forM (seqI (gts 0)) (tgT [tgN 2, tgT [tgN 2, tgN 3]])
    (setM 1 (op2 mulI (op2 fdivG (gts 1) (apA gcdG (consA (gts 1) (consA (gts 3) (pur []))))) (gts 3))))
  (retM (gts 1))))
noncomputable def m_whole_of : List D → OF := runF 4 (List.replicate 1 .st) .st g_whole_of
noncomputable def g_are_standings : S → SO :=
  (seqM (ifM (orB (notB (tru (apA isiG (consA (gts 0) (consA (pur (.oth (.ty "tuple"))) (pur [])))))) (tru (op2 neG (gts 0) (gts 1))))
    (retM (pur (.bl false)))
    nxM)
  (retM (apA allG (consA (lcE (seqI (gts 0)) (tgN 2) (pur true) (callM 2 m_are_integers (consA (gts 2) (consA (apA lenBG (consA (op2 ixAG (gts 1) (pur (.int 0))) (pur []))) (pur [])))) [2]) (pur [])))))
noncomputable def m_are_standings : List D → OF := runF 3 (List.replicate 2 .st) .st g_are_standings
noncomputable def g_need_ends : S → SO :=
  (seqM (dropM (callM 4 m_need_number (consA (gts 0) (consA (pur (.str "low")) (consA (pur .non) (consA (pur .non) (pur [])))))))
  (dropM (callM 4 m_need_number (consA (gts 1) (consA (pur (.str "high")) (consA (gts 0) (consA (op2 addG (gts 0) (pur (.int 119))) (pur []))))))))
noncomputable def m_need_ends : List D → OF := runF 2 (List.replicate 2 .st) .st g_need_ends
noncomputable def g_heap_sign : S → SO :=
  (seqM (ifM (tru (op2 eqG (op2 modG (gts 0) (pur (.int 2))) (pur (.int 1))))
    (retM (ifX (tru (gts 1)) (pur (.str "<")) (pur (.str ">"))))
    nxM)
  (retM (ifX (tru (op2 gtG (gts 0) (pur (.int 0)))) (pur (.str "=")) (pur (.str ".")))))
noncomputable def m_heap_sign : List D → OF := runF 2 (List.replicate 2 .st) .st g_heap_sign
noncomputable def g_weight_sign : S → SO :=
  (retM (ifX (tru (op2 gtG (gts 0) (pur (.int 0)))) (pur (.str "+")) (pur (.str "-"))))
noncomputable def m_weight_sign : List D → OF := runF 1 (List.replicate 1 .st) .st g_weight_sign
noncomputable def g_change_sign : S → SO :=
  (retM (ifX (tru (op2 eqG (gts 0) (pur (.int 0)))) (pur (.str ".")) (ifX (tru (op2 gtG (gts 0) (pur (.int 0)))) (pur (.str ">")) (pur (.str "<")))))
noncomputable def m_change_sign : List D → OF := runF 1 (List.replicate 1 .st) .st g_change_sign
noncomputable def g_Scan_finish : S → SO :=
  (ifM (tru (op2 ltG (op1 (fldG ["Scan"] "at") (gts 0)) (apA lenBG (consA (op1 (fldG ["Scan"] "words") (gts 0)) (pur [])))))
    (dropM (callM 1 m_Scan_refuse (consA (op1 (insG "Scan" "refuse") (gts 0)) (pur []))))
    nxM)
noncomputable def m_Scan_finish : List D → OF := runF 1 (List.replicate 1 .st) .st g_Scan_finish
noncomputable def g_refuse_last_one : S → SO :=
  (seqM (setF 0 ["Scan"] "at" (op2 subG (op1 (fldG ["Scan"] "at") (gts 0)) (pur (.int 1))))
  (dropM (callM 1 m_Scan_refuse (consA (op1 (insG "Scan" "refuse") (gts 0)) (pur [])))))
noncomputable def m_refuse_last_one : List D → OF := runF 1 [.fr] .st g_refuse_last_one
noncomputable def g_taken_spot : S → SO :=
  (seqM (setM 2 (callQ [some 0, none, none] m_Scan_take_number (consA (op1 (insG "Scan" "take_number") (gts 0)) (consA (op1 negG (pur (.int 1000000))) (consA (pur (.int 1000000)) (pur []))))))
  (seqM (ifM (tru (op2 (inG false) (gts 2) (gts 1)))
    (dropM (callQ [some 0] m_refuse_last_one (consA (gts 0) (pur []))))
    nxM)
  (retM (gts 2))))
noncomputable def m_taken_spot : List D → OF := runF 3 [.fr, .st] .st g_taken_spot
noncomputable def g_taken_heaps : S → SO :=
  (seqM (setM 1 (apA (fun _ => some (.dk [])) (pur [])))
  (seqM (whM (tru (op2 neG (callM 1 m_Scan_ahead (consA (op1 (insG "Scan" "ahead") (gts 0)) (pur []))) (pur (.str "/"))))
    (seqM (ifM (tru (op2 eqG (apA lenBG (consA (gts 1) (pur []))) (pur (.int 60))))
    (dropM (callM 1 m_Scan_refuse (consA (op1 (insG "Scan" "refuse") (gts 0)) (pur []))))
    nxM)
  (seqM (setM 2 (callQ [some 0, none] m_taken_spot (consA (gts 0) (consA (bd (gts 1) sca) (pur [])))))
  (seqM (ifM (tru (apA anyG (consA (lcE (seqI (gts 1)) (tgN 3) (pur true) (op2 neG (op2 modG (op2 subG (gts 2) (gts 3)) (pur (.int 2))) (pur (.int 0))) [3]) (pur []))))
    (dropM (callQ [some 0] m_refuse_last_one (consA (gts 0) (pur []))))
    nxM)
  (setI 1 (gts 2) (callQ [some 0, none, none] m_Scan_take_number (consA (op1 (insG "Scan" "take_number") (gts 0)) (consA (pur (.int 1)) (consA (pur (.int 1000000000000000000000000000000000000000000000000000000000000)) (pur []))))))))))
  (shM 1 (seqM (dropM (callQ [some 0, none] m_Scan_take_just (consA (op1 (insG "Scan" "take_just") (gts 0)) (consA (pur (.str "/")) (pur [])))))
  (retM (apA tupleG (consA (op1 itSG (gts 1)) (pur []))))))))
noncomputable def m_taken_heaps : List D → OF := runF 4 [.fr] .st g_taken_heaps
noncomputable def g_taken_lefts : S → SO :=
  (seqM (setM 1 (apA (fun _ => some (.dk [])) (pur [])))
  (seqM (whM (tru (op2 notNG (callM 1 m_Scan_ahead (consA (op1 (insG "Scan" "ahead") (gts 0)) (pur []))) (pur .non)))
    (seqM (ifM (tru (op2 eqG (apA lenBG (consA (gts 1) (pur []))) (pur (.int 400))))
    (dropM (callM 1 m_Scan_refuse (consA (op1 (insG "Scan" "refuse") (gts 0)) (pur []))))
    nxM)
  (setI 1 (callQ [some 0, none] m_taken_spot (consA (gts 0) (consA (bd (gts 1) sca) (pur [])))) (pur (.bl true)))))
  (shM 1 (retM (apA tupleG (consA (apA sortedAG (consA (gts 1) (pur []))) (pur [])))))))
noncomputable def m_taken_lefts : List D → OF := runF 2 [.fr] .st g_taken_lefts
end Pk

set_option Elab.async false
set_option linter.all false
set_option maxRecDepth 100000
set_option maxHeartbeats 2000000
/-! what the mirrors compute, step by step -/
namespace Vl
open PySem PySem.Spec L2
variable {s s' : S} {α β : Type}
@[simp] theorem bd_ap {f : PM α} {g : α → PM β} : bd f g s = (match f s with | .ok a s' => g a s' | .exc x s' => .exc x s' | .no => .no) := rfl
@[simp] theorem pur_ap {a : α} : pur a s = .ok a s := rfl
@[simp] theorem lft_so {a : α} : lft (some a) s = .ok a s := rfl
@[simp] theorem lft_no : (lft (none : Option α)) s = .no := rfl
@[simp] theorem sca_ap {d : D} : sca d s = if noM d = true then .ok d s else .no := rfl
@[simp] theorem gts_ap {i : Nat} : gts i s = (match s[i]? with | some (some d) => .ok d s | _ => .no) := rfl
@[simp] theorem movS_ap {i : Nat} : movS i s = (match s[i]? with | some (some d) => .ok d (s.set i none) | _ => .no) := rfl
@[simp] theorem op2_ap {g : GD} {fa fb : PM D} : op2 g fa fb s = bd fa (fun x => bd fb fun y => lft (g [x, y])) s := rfl
@[simp] theorem op1_ap {g : GD} {fa : PM D} : op1 g fa s = bd fa (fun x => lft (g [x])) s := rfl
@[simp] theorem consA_ap {fa : PM D} {fr : PM (List D)} : consA fa fr s = bd fa (fun x => bd fr fun xs => pur (x :: xs)) s := rfl
@[simp] theorem apA_ap {g : GD} {f : PM (List D)} : apA g f s = bd f (fun ds => lft (g ds)) s := rfl
def kP (k : D) (v : D) (fr : PM (List (Key × D))) : PM (List (Key × D)) := match kof k with | some k => bd fr fun r => pur ((k, v) :: r) | none => fun _ => .no
@[simp] theorem consP_ap {fk fv : PM D} {fr : PM (List (Key × D))} : consP fk fv fr s = bd fk (fun k => bd fv fun v => kP k v fr) s := rfl
@[simp] theorem kP_i {i : Int} {v : D} {fr : PM (List (Key × D))} : kP (.int i) v fr s = bd fr (fun r => pur ((.inl i, v) :: r)) s := rfl
@[simp] theorem kP_s {i : Str} {v : D} {fr : PM (List (Key × D))} : kP (.str i) v fr s = bd fr (fun r => pur ((.inr i, v) :: r)) s := rfl
def dispK (ks : List (Key × D)) : PM D := if ks.length ≤ 15 then pur (.dk (mergeD [] ks)) else fun _ => .no
@[simp] theorem dispM_ap {f : PM (List (Key × D))} : dispM f s = bd f dispK s := rfl
@[simp] theorem dispK_ap {ks : List (Key × D)} : dispK ks s = if ks.length ≤ 15 then .ok (.dk (mergeD [] ks)) s else .no := by unfold dispK; split <;> rfl
def truK (d : D) : PM Bool := match d with | .bl b => pur b | _ => fun _ => .no
@[simp] theorem tru_ap {f : PM D} : tru f s = bd f truK s := rfl
@[simp] theorem truK_b {b : Bool} : truK (.bl b) s = .ok b s := rfl
def andK (g : PM Bool) (b : Bool) : PM Bool := if b then g else pur false
@[simp] theorem andB_ap {f g : PM Bool} : andB f g s = bd f (andK g) s := rfl
@[simp] theorem andK_ap {g : PM Bool} {b : Bool} : andK g b s = if b = true then g s else .ok false s := by cases b <;> rfl
def orKB (g : PM Bool) (b : Bool) : PM Bool := if b then pur true else g
@[simp] theorem orB_ap {f g : PM Bool} : orB f g s = bd f (orKB g) s := rfl
@[simp] theorem orK_ap {g : PM Bool} {b : Bool} : orKB g b s = if b = true then .ok true s else g s := by cases b <;> rfl
@[simp] theorem notB_ap {f : PM Bool} : notB f s = bd f (fun b => pur (!b)) s := rfl
@[simp] theorem adV_ap {fa fb : PM D} : adV fa fb s = bd fa (adK fb) s := rfl
@[simp] theorem adK_ap {fb : PM D} {b : Bool} : adK fb (.bl b) s = if b = true then bd fb sca s else .ok (.bl false) s := by cases b <;> rfl
@[simp] theorem orrV_ap {fa fb : PM D} : orrV fa fb s = bd fa (orK fb) s := rfl
@[simp] theorem orKV_ap {fb : PM D} {b : Bool} : orK fb (.bl b) s = if b = true then .ok (.bl true) s else bd fb sca s := by cases b <;> rfl
@[simp] theorem ntV_ap {fa : PM D} : ntV fa s = bd fa ntK s := rfl
@[simp] theorem ntK_ap {b : Bool} : ntK (.bl b) s = .ok (.bl (!b)) s := rfl
def ifK (fa fb : PM D) (b : Bool) : PM D := if b then fa else fb
@[simp] theorem ifX_ap {g : PM Bool} {fa fb : PM D} : ifX g fa fb s = bd g (ifK fa fb) s := rfl
@[simp] theorem ifK_ap {fa fb : PM D} {b : Bool} : ifK fa fb b s = if b = true then fa s else fb s := by cases b <;> rfl
def getK (fk fx : PM D) (d : D) : PM D := if isDk d = true then bd fk fun k => bd fx fun x => lft (getG d k x) else fun _ => .no
@[simp] theorem getM_ap {fd fk fx : PM D} : getM fd fk fx s = bd fd (getK fk fx) s := rfl
@[simp] theorem getK_ap {fk fx : PM D} {ks : List (Key × D)} : getK fk fx (.dk ks) s = bd fk (fun k => bd fx fun x => lft (getG (.dk ks) k x)) s := rfl
def prtK (d : D) : PM (Option Int) := match d with | .int i => pur (some i) | _ => fun _ => .no
@[simp] theorem prtS_ap {f : PM D} : prtS f s = bd f prtK s := rfl
@[simp] theorem prtK_i {i : Int} : prtK (.int i) s = .ok (some i) s := rfl
@[simp] theorem slM_ap {g : D → Option Int → Option Int → Option D} {f : PM D} {fl fh : PM (Option Int)} : slM g f fl fh s = bd f (fun d => bd fl fun l => bd fh fun h => lft (g d l h)) s := rfl
@[simp] theorem chnM_ap {g g' : GD} {fa fb fc : PM D} : chnM g g' fa fb fc s = bd fa (fun x => bd fb fun y => bd (lft (g [x, y])) (chnK g' fc y)) s := rfl
@[simp] theorem chnK_ap {g' : GD} {fc : PM D} {y : D} {b : Bool} : chnK g' fc y (.bl b) s = if b = true then bd fc (fun w => lft (g' [y, w])) s else .ok (.bl false) s := by cases b <;> rfl
@[simp] theorem seqM_ap {f g : S → SO} : seqM f g s = (match f s with | .nx s' => g s' | o => o) := rfl
@[simp] theorem ifM_ap {g : PM Bool} {g1 g2 : S → SO} : ifM g g1 g2 s = (match g s with | .ok b s' => if b = true then g1 s' else g2 s' | .exc x s' => .exc x s' | .no => .no) := rfl
@[simp] theorem setM_ap {i : Nat} {f : PM D} : setM i f s = (match f s with | .ok d s' => .nx (s'.set i (some d)) | .exc x s' => .exc x s' | .no => .no) := rfl
@[simp] theorem retM_ap {f : PM D} : retM f s = (match f s with | .ok d s' => .ret d s' | .exc x s' => .exc x s' | .no => .no) := rfl
@[simp] theorem dropM_ap {f : PM D} : dropM f s = (match f s with | .ok _ s' => .nx s' | .exc x s' => .exc x s' | .no => .no) := rfl
@[simp] theorem nxM_ap : nxM s = .nx s := rfl
@[simp] theorem brkM_ap : brkM s = .brk s := rfl
@[simp] theorem ctnM_ap : ctnM s = .ctn s := rfl
@[simp] theorem noM_ap : noM' s = .no := rfl
@[simp] theorem retNM_ap : retNM s = .ret .non s := rfl
@[simp] theorem asgM_ap {f : PM D} {tf : TF} : asgM f tf s = (match f s with | .ok d s' => (match tf d s' with | some s2 => .nx s2 | none => .no) | .exc x s' => .exc x s' | .no => .no) := rfl
@[simp] theorem shM_ap {i : Nat} {g : S → SO} : shM i g s = (match g s with | .nx s' => .nx (s'.set i none) | .brk s' => .brk (s'.set i none) | .ctn s' => .ctn (s'.set i none) | .ret d s' => .ret d (s'.set i none) | .exc x s' => .exc x (s'.set i none) | .no => .no) := rfl
@[simp] theorem tgN_ap {i : Nat} {d : D} : tgN i d s = some (s.set i (some d)) := rfl
@[simp] theorem tgT_ap {ts : List TF} {ds : List D} : tgT ts (.tup ds) s = tgL ts ds s := rfl
@[simp] theorem tgT_apl {ts : List TF} {ds : List D} : tgT ts (.lst ds) s = tgL ts ds s := rfl
@[simp] theorem forM_ap {fi : PM (List D)} {tf : TF} {b : S → SO} : forM fi tf b s = (match fi s with | .ok ds s1 => forL tf b ds s1 | .exc x s1 => .exc x s1 | .no => .no) := rfl
@[simp] theorem forDM_ap {fi : PM (List D)} {tf : TF} {b : S → SO} : forDM fi tf b s = (match fi s with | .ok ds s1 => noxS (forL tf b ds s1) | .exc x s1 => .exc x s1 | .no => .no) := rfl
@[simp] theorem rngI_ap {g : List D → Option (List D)} {f : PM (List D)} : rngI g f s = bd f (fun ds => lft (g ds)) s := rfl
@[simp] theorem seqI_ap {f : PM D} : seqI f s = bd f (fun d => lft (itemsG d)) s := rfl
def dkK (G : GK) (d : D) : PM (List D) := match d with | .dk ks => pur (G ks) | _ => fun _ => .no
@[simp] theorem dkI_ap {G : GK} {f : PM D} : dkI G f s = bd f (dkK G) s := rfl
@[simp] theorem dkK_ap {G : GK} {ks : List (Key × D)} : dkK G (.dk ks) s = .ok (G ks) s := rfl
def oV : OF → PM D
  | .ok r _ => pur r
  | .exc x _ => fun s => if noMf x.fs = true then .exc x s else .no
  | .no => fun _ => .no
@[simp] theorem oV_ok {r : D} {o : List D} : oV (.ok r o) s = .ok r s := rfl
def callV (n : Nat) (F : List D → OF) (ds : List D) : PM D := if ds.length = n then oV (F ds) else fun _ => .no
@[simp] theorem callM_ap {n : Nat} {F : List D → OF} {fl : PM (List D)} : callM n F fl s = bd fl (callV n F) s := by
  unfold callM bd callV
  cases fl s with
  | ok ds s1 => dsimp only; split; · cases F ds <;> rfl
                · rfl
  | _ => rfl
@[simp] theorem callV_ap {n : Nat} {F : List D → OF} {ds : List D} : callV n F ds s = if ds.length = n then oV (F ds) s else .no := by unfold callV; split <;> rfl
def oW (is : List Nat) (s : S) : OF → Out D
  | .ok r outs => (match setA s is outs with | some s2 => .ok r s2 | none => .no)
  | .exc x outs => if noMf x.fs = true then (match setA s is outs with | some s2 => .exc x s2 | none => .no) else .no
  | .no => .no
theorem oW_ok {is : List Nat} {r : D} {outs : List D} {s2 : S} (h : setA s is outs = some s2) : oW is s (.ok r outs) = .ok r s2 := by unfold oW; dsimp only; rw [h]
def callW (ks : List (Option Nat)) (F : List D → OF) (ds : List D) : PM D := fun s => match fillQ s ks ds with | some es => oW (ioIx ks) s (F es) | none => .no
@[simp] theorem callQ_ap {ks : List (Option Nat)} {F : List D → OF} {fl : PM (List D)} : callQ ks F fl s = bd fl (callW ks F) s := by
  unfold callQ bd callW
  cases fl s with
  | ok ds s1 => dsimp only; cases fillQ s1 ks ds with
    | none => rfl
    | some es => dsimp only; cases F es <;> rfl
  | _ => rfl
theorem callW_ok {ks : List (Option Nat)} {F : List D → OF} {ds es outs : List D} {r : D} {s2 : S} (h1 : fillQ s ks ds = some es) (h2 : F es = .ok r outs) (h3 : setA s (ioIx ks) outs = some s2) : callW ks F ds s = .ok r s2 := by
  unfold callW; rw [h1]; dsimp only; rw [h2]; exact oW_ok h3
def endF (ms : List Md) (m : Md) : SO → OF
  | .nx s => if m = .st then .ok .non (outsAt ms 0 s) else .no
  | .ret d s => .ok d (outsAt ms 0 s)
  | .exc x s => .exc x (outsAt ms 0 s)
  | _ => .no
@[simp] theorem runF_ap {n : Nat} {ms : List Md} {m : Md} {g : S → SO} {ds : List D} : runF n ms m g ds = endF ms m (g (startS n ds)) := by
  unfold runF; cases g (startS n ds) <;> rfl
@[simp] theorem endF_ret {ms : List Md} {m : Md} {d : D} : endF ms m (.ret d s) = .ok d (outsAt ms 0 s) := rfl
@[simp] theorem endF_nx {ms : List Md} : endF ms .st (.nx s) = .ok .non (outsAt ms 0 s) := rfl
@[simp] theorem forL_nil {tf : TF} {b : S → SO} : forL tf b [] s = .nx s := rfl
theorem forL_cons {tf : TF} {b : S → SO} {d : D} {ds : List D} : forL tf b (d :: ds) s = (match tf d s with | none => .no | some s1 => (match b s1 with | .nx s2 => forL tf b ds s2 | .ctn s2 => forL tf b ds s2 | .brk s2 => .nx s2 | o => o)) := by
  first
    | (rw [forL]; done)
    | (rw [forL]; rcases tf d s with _ | s1
       · rfl
       · dsimp only; cases b s1 <;> rfl)
/-- a loop whose body goes on, by an invariant -/
theorem forL_inv {tf : TF} {b : S → SO} (I : Nat → S → Prop) : ∀ (ds : List D) (k : Nat) (s : S), I k s → (∀ j d s, ds[j]? = some d → I (k + j) s → ∃ s1 s2, tf d s = some s1 ∧ (b s1 = .nx s2 ∨ b s1 = .ctn s2) ∧ I (k + j + 1) s2) → ∃ s', forL tf b ds s = .nx s' ∧ I (k + ds.length) s'
  | [], k, s, h, _ => ⟨s, rfl, h⟩
  | d :: ds, k, s, h, st => by
    obtain ⟨s1, s2, e1, e2, h2⟩ := st 0 d s rfl h
    obtain ⟨s', e3, h3⟩ := forL_inv I ds (k + 1) s2 h2 fun j d' s'' hj hi => by
      have := st (j + 1) d' s'' (by simpa using hj) (by rwa [show k + (j + 1) = k + 1 + j by omega])
      rwa [show k + (j + 1) + 1 = k + 1 + j + 1 by omega] at this
    refine ⟨s', ?_, by rw [List.length_cons, show k + (ds.length + 1) = k + 1 + ds.length by omega]; exact h3⟩
    rw [forL_cons, e1]
    dsimp only
    rcases e2 with e2 | e2 <;> (rw [e2]; exact e3)
@[simp] theorem tgL_nil : tgL [] [] s = some s := rfl
@[simp] theorem tgL_cons {f : TF} {ts : List TF} {d : D} {ds : List D} : tgL (f :: ts) (d :: ds) s = (f d s).bind (tgL ts ds) := by
  rw [tgL]
@[simp] theorem startS_ap {n : Nat} {ds : List D} : startS n ds = ds.map some ++ List.replicate (n - ds.length) none := rfl
@[simp] theorem outsAt_nil {i : Nat} : outsAt [] i s = [] := rfl
@[simp] theorem outsAt_st {ms : List Md} {i : Nat} : outsAt (.st :: ms) i s = outsAt ms (i + 1) s := rfl
@[simp] theorem outsAt_fr {ms : List Md} {i : Nat} : outsAt (.fr :: ms) i s = (match s[i]? with | some (some d) => d :: outsAt ms (i + 1) s | _ => outsAt ms (i + 1) s) := rfl
/-! the operations on ints -/
section
variable {i j : Int} {a b : Bool}
@[simp] theorem addG_i : addG [.int i, .int j] = some (.int (i + j)) := rfl
@[simp] theorem subG_i : subG [.int i, .int j] = some (.int (i - j)) := rfl
theorem mulI_l (h : i.natAbs < 2 ^ 64) : mulI [.int i, .int j] = some (.int (i * j)) := if_pos (.inl h)
theorem mulI_r (h : j.natAbs < 2 ^ 64) : mulI [.int i, .int j] = some (.int (i * j)) := if_pos (.inr (.inl h))
theorem mulI_w (h : i.natAbs.log2 + j.natAbs.log2 < 1000000) : mulI [.int i, .int j] = some (.int (i * j)) := if_pos (.inr (.inr h))
theorem fdivG_ok (h : j ≠ 0) (h2 : j.natAbs.log2 < 9000) : fdivG [.int i, .int j] = some (.int (i.fdiv j)) := if_pos ⟨h, h2⟩
theorem modG_ok (h : j ≠ 0) : modG [.int i, .int j] = some (.int (i.fmod j)) := if_pos h
theorem modG_pos (h : 0 < j) : modG [.int i, .int j] = some (.int (i % j)) := by
  rw [modG_ok (by omega), Int.fmod_eq_emod_of_nonneg _ (by omega)]
theorem shlG_ok (h : 0 ≤ j) (h2 : (i.natAbs.log2 : Int) + j ≤ 2 ^ 26) : shlG [.int i, .int j] = some (.int (i * 2 ^ j.toNat)) := if_pos ⟨h, h2⟩
theorem shlG_1 (h : 0 ≤ j) (h2 : j ≤ 2 ^ 26) : shlG [.int 1, .int j] = some (.int (2 ^ j.toNat)) := by
  rw [shlG_ok h (by have : (1 : Int).natAbs.log2 = 0 := by decide
                    omega), Int.one_mul]
theorem powG_ok (h : 0 ≤ j) (h2 : j ≤ 1000000) (h3 : i.natAbs < 2 ^ 64) : powG [.int i, .int j] = some (.int (i ^ j.toNat)) := if_pos ⟨h, h2, h3⟩
@[simp] theorem negG_i : negG [.int i] = some (.int (-i)) := rfl
@[simp] theorem ltG_i : ltG [.int i, .int j] = some (.bl (decide (i < j))) := rfl
@[simp] theorem leG_i : leG [.int i, .int j] = some (.bl (decide (i ≤ j))) := rfl
@[simp] theorem gtG_i : gtG [.int i, .int j] = some (.bl (decide (j < i))) := rfl
@[simp] theorem geG_i : geG [.int i, .int j] = some (.bl (decide (j ≤ i))) := rfl
@[simp] theorem gcdG_i : gcdG [.int i, .int j] = some (.int ((Nat.gcd i.natAbs j.natAbs : Nat) : Int)) := rfl
@[simp] theorem absG_i : absG [.int i] = some (.int (if i < 0 then -i else i)) := rfl
@[simp] theorem intG_i : intG [.int i] = some (.int i) := rfl
@[simp] theorem intG_b : intG [.bl a] = some (.int (if a then 1 else 0)) := rfl
theorem eqP_i : eqP (.int i) (.int j) = some (decide (i = j)) := by
  have h1 : SeqAt.shaped (.int i) = true := rfl
  have h2 : SeqAt.shaped (.int j) = true := rfl
  simp only [eqP, toPy, Option.bind_some, h1, h2, and_self, if_true, PyData.eqv]
  by_cases h : i = j <;> simp [h]
@[simp] theorem eqG_i : eqG [.int i, .int j] = some (.bl (decide (i = j))) := by
  simp only [eqG, eqP_i, Option.map_some]
@[simp] theorem neG_i : neG [.int i, .int j] = some (.bl (!decide (i = j))) := by
  simp only [neG, eqP_i, Option.map_some]
@[simp] theorem isi_int : isiG [.int i, .oth (.ty "int")] = some (.bl true) := by rfl
@[simp] theorem isi_intb : isiG [.int i, .oth (.ty "bool")] = some (.bl false) := by rfl
@[simp] theorem isNG_i : isNG [.int i, .non] = some (.bl false) := rfl
@[simp] theorem isNG_n : isNG [.non, .non] = some (.bl true) := rfl
@[simp] theorem lenBG_l {ds : List D} : lenBG [.lst ds] = some (.int ds.length) := rfl
@[simp] theorem lenBG_t {ds : List D} : lenBG [.tup ds] = some (.int ds.length) := rfl
@[simp] theorem ixAG_l {ds : List D} : ixAG [.lst ds, .int i] = L2.atI ds i := rfl
@[simp] theorem ixAG_t {ds : List D} : ixAG [.tup ds, .int i] = L2.atI ds i := rfl
theorem tupG_ok {ds : List D} (h : ds.length ≤ 100000) : tupG ds = some (.tup ds) := if_pos h
theorem lstG_ok {ds : List D} (h : ds.length ≤ 100000) : lstG ds = some (.lst ds) := if_pos h
end
end Vl

set_option Elab.async false
set_option linter.all false
/-! fractions, rows of steps, first shares: plain reckoning -/
namespace Vl
/-- below 2 ^ n, above and below the line -/
def Sz (q : Rat) (n : Nat) : Prop := q.num.natAbs < 2 ^ n ∧ q.den < 2 ^ n
theorem Sz.mono {q : Rat} {n m : Nat} (h : Sz q n) (l : n ≤ m) : Sz q m :=
  ⟨Nat.lt_of_lt_of_le h.1 (Nat.pow_le_pow_right (by decide) l), Nat.lt_of_lt_of_le h.2 (Nat.pow_le_pow_right (by decide) l)⟩
theorem fdiv_neg_dvd {a g : Int} (h : g ∣ a) (h0 : g ≠ 0) : a.fdiv (-g) = -(a / g) := by
  rw [Int.fdiv_eq_ediv_of_dvd (Int.neg_dvd.mpr h), Int.ediv_neg]
theorem add_lp (p q : Rat) : Rat.divInt (p.num * q.den + q.num * p.den) (p.den * q.den) = p + q := by
  rw [Rat.add_def', ← Int.natCast_mul, Rat.divInt_ofNat]
theorem mul_lp (p q : Rat) : Rat.divInt (p.num * q.num) (p.den * q.den) = p * q := by
  rw [Rat.mul_def', ← Int.natCast_mul, Rat.divInt_ofNat]
theorem lt_lp (p q : Rat) : decide (p.num * q.den < q.num * p.den) = decide (p < q) := by
  rw [decide_eq_decide, Rat.lt_iff]
theorem den_ne (q : Rat) : (q.den : Int) ≠ 0 := by have := q.den_pos; omega
theorem mul_ne {a b : Int} (h : a ≠ 0) (h2 : b ≠ 0) : a * b ≠ 0 := by
  intro e; rcases Int.mul_eq_zero.mp e with e | e
  · exact h e
  · exact h2 e
/-- sizes of sums and products -/
theorem natAbs_div_le (a : Int) (n : Nat) : (a / (n : Int)).natAbs ≤ a.natAbs ∨ ¬ ((n : Int) ∣ a) := by
  by_cases h : (n : Int) ∣ a
  · left
    rw [Int.natAbs_ediv_of_dvd h]
    exact Nat.div_le_self _ _
  · exact .inr h
theorem num_le (a : Int) (b : Int) (h : 0 < b) : (Rat.divInt a b).num.natAbs ≤ a.natAbs ∧ (Rat.divInt a b).den ≤ b.natAbs := by
  rw [Rat.num_divInt, Rat.den_divInt, if_neg (by omega), Int.sign_eq_one_of_pos h, Int.one_mul]
  refine ⟨?_, Nat.div_le_self _ _⟩
  rcases natAbs_div_le a (b.gcd a) with h | h
  · exact h
  · exact absurd (Int.gcd_dvd_right ..) h
theorem pow_mul_lt {a b n m : Nat} (ha : a < 2 ^ n) (hb : b < 2 ^ m) : a * b < 2 ^ (n + m) := by
  rw [Nat.pow_add]; exact Nat.mul_lt_mul'' ha hb
theorem Sz.mul {p q : Rat} {n m : Nat} (hp : Sz p n) (hq : Sz q m) : Sz (p * q) (n + m) := by
  have h := num_le (p.num * q.num) (p.den * q.den) (by have := p.den_pos; have := q.den_pos; exact Int.mul_pos (by omega) (by omega))
  rw [mul_lp] at h
  refine ⟨Nat.lt_of_le_of_lt h.1 ?_, Nat.lt_of_le_of_lt h.2 ?_⟩
  · rw [Int.natAbs_mul]; exact pow_mul_lt hp.1 hq.1
  · rw [Int.natAbs_mul]; exact pow_mul_lt hp.2 hq.2
theorem Sz.add {p q : Rat} {n m : Nat} (hp : Sz p n) (hq : Sz q m) : Sz (p + q) (n + m + 1) := by
  have h := num_le (p.num * q.den + q.num * p.den) (p.den * q.den) (by have := p.den_pos; have := q.den_pos; exact Int.mul_pos (by omega) (by omega))
  rw [add_lp] at h
  refine ⟨Nat.lt_of_le_of_lt h.1 ?_, Nat.lt_of_le_of_lt h.2 ?_⟩
  · have h1 := Int.natAbs_add_le (p.num * q.den) (q.num * p.den)
    have h2 : (p.num * q.den).natAbs < 2 ^ (n + m) := by rw [Int.natAbs_mul]; exact pow_mul_lt hp.1 hq.2
    have h3 : (q.num * p.den).natAbs < 2 ^ (n + m) := by rw [Int.natAbs_mul, Nat.add_comm n m]; exact pow_mul_lt hq.1 hp.2
    rw [Nat.pow_succ]; omega
  · rw [Int.natAbs_mul, Nat.pow_succ]
    have := pow_mul_lt hp.2 hq.2
    have e : (p.den : Int).natAbs * (q.den : Int).natAbs = p.den * q.den := rfl
    omega
theorem Sz.neg {p : Rat} {n : Nat} (hp : Sz p n) : Sz (-p) n := by
  refine ⟨?_, hp.2⟩
  rw [Rat.neg_num, Int.natAbs_neg]; exact hp.1
theorem Sz.sub {p q : Rat} {n m : Nat} (hp : Sz p n) (hq : Sz q m) : Sz (p - q) (n + m + 1) := by
  rw [Rat.sub_eq_add_neg]; exact hp.add hq.neg
/-- equal data of fractions: equal fractions -/
theorem den_small {p q : Rat} (hp : Sz p 4000) (hq : Sz q 4000) : ((p.den : Int) * q.den).natAbs < 2 ^ 8999 := by
  rw [Int.natAbs_mul]
  exact Nat.lt_of_lt_of_le (pow_mul_lt hp.2 hq.2) (Nat.pow_le_pow_right (by decide) (by decide))
theorem num_le' (a : Int) (b : Int) (h : b ≠ 0) : (Rat.divInt a b).num.natAbs ≤ a.natAbs ∧ (Rat.divInt a b).den ≤ b.natAbs := by
  rcases Int.lt_or_gt_of_ne h with h1 | h1
  · have e : Rat.divInt a b = Rat.divInt (-a) (-b) := (Rat.neg_divInt_neg a b).symm
    rw [e]
    have := num_le (-a) (-b) (by omega)
    rw [Int.natAbs_neg, Int.natAbs_neg] at this
    exact this
  · exact num_le a b h1
theorem sz_0 : Sz 0 1 := ⟨by decide, by decide⟩
theorem sz_1 : Sz 1 1 := ⟨by decide, by decide⟩
theorem sz_m1 : Sz (-1) 1 := ⟨by decide, by decide⟩
theorem sz_le {q : Rat} {n : Nat} (h : Sz q n) (l : n ≤ 4000) : Sz q 4000 := h.mono l
/-- how many rows of t steps end at x -/
def wk : Nat → Int → Int
  | 0, x => if x = 0 then 1 else 0
  | t + 1, x => wk t (x - 1) + wk t (x + 1)
theorem wk_nonneg : ∀ (t : Nat) (x : Int), 0 ≤ wk t x
  | 0, x => by unfold wk; split <;> omega
  | t + 1, x => by have h1 := wk_nonneg t (x - 1); have h2 := wk_nonneg t (x + 1); unfold wk; omega
theorem wk_le : ∀ (t : Nat) (x : Int), wk t x ≤ 2 ^ t
  | 0, x => by unfold wk; split <;> simp
  | t + 1, x => by have h1 := wk_le t (x - 1); have h2 := wk_le t (x + 1); unfold wk; rw [Int.pow_succ]; omega
theorem wk_far : ∀ (t : Nat) (x : Int), (t : Int) < x ∨ x < -(t : Int) → wk t x = 0
  | 0, x, h => by unfold wk; rw [if_neg (by omega)]
  | t + 1, x, h => by unfold wk; rw [wk_far t (x - 1) (by omega), wk_far t (x + 1) (by omega)]; rfl
theorem wk_par : ∀ (t : Nat) (x : Int), (x + t) % 2 = 1 → wk t x = 0
  | 0, x, h => by unfold wk; rw [if_neg (by omega)]
  | t + 1, x, h => by unfold wk; rw [wk_par t (x - 1) (by omega), wk_par t (x + 1) (by omega)]; rfl
theorem wk_neg : ∀ (t : Nat) (x : Int), wk t (-x) = wk t x
  | 0, x => by unfold wk; by_cases h : x = 0 <;> simp [h]
  | t + 1, x => by
    unfold wk
    rw [show -x - 1 = -(x + 1) by omega, show -x + 1 = -(x - 1) by omega, wk_neg t (x + 1), wk_neg t (x - 1), Int.add_comm]
/-- neighbours of one colour -/
theorem wk_ratio : ∀ (t : Nat) (x : Int), (t - x) * wk t x = (t + x + 2) * wk t (x + 2)
  | 0, x => by
    unfold wk
    by_cases h : x = 0
    · subst h; simp
    · by_cases h2 : x + 2 = 0
      · rw [if_neg h, if_pos h2]; have : x = -2 := by omega
        subst this; decide
      · rw [if_neg h, if_neg h2]; simp
  | t + 1, x => by
    have h1 := wk_ratio t (x - 1)
    have h2 := wk_ratio t (x + 1)
    rw [show x - 1 + 2 = x + 1 by omega] at h1
    rw [show x + 1 + 2 = x + 3 by omega] at h2
    unfold wk
    rw [show x + 2 - 1 = x + 1 by omega, show x + 2 + 1 = x + 3 by omega]
    have e : ((t + 1 : Nat) : Int) = (t : Int) + 1 := by omega
    rw [e]
    grind
/-- how many of them come to d at the last step, and not before -/
def fp : Nat → Nat → Int
  | 0, 0 => 1
  | 0, _ + 1 => 0
  | _ + 1, 0 => 0
  | t + 1, d + 1 => fp t d + fp t (d + 2)
theorem fp_nonneg : ∀ (t d : Nat), 0 ≤ fp t d
  | 0, 0 => by decide
  | 0, _ + 1 => by simp [fp]
  | _ + 1, 0 => by simp [fp]
  | t + 1, d + 1 => by have h1 := fp_nonneg t d; have h2 := fp_nonneg t (d + 2); simp only [fp]; omega
theorem fp_le : ∀ (t d : Nat), fp t d ≤ 2 ^ t
  | 0, 0 => by decide
  | 0, _ + 1 => by simp [fp]
  | t + 1, 0 => by simp only [fp]; exact Int.le_of_lt (Int.pow_pos (by decide))
  | t + 1, d + 1 => by have h1 := fp_le t d; have h2 := fp_le t (d + 2); simp only [fp]; rw [Int.pow_succ]; omega
theorem fp_far : ∀ (t d : Nat), t < d → fp t d = 0
  | 0, 0, h => by omega
  | 0, _ + 1, _ => by simp [fp]
  | _ + 1, 0, h => by omega
  | t + 1, d + 1, h => by simp only [fp]; rw [fp_far t d (by omega), fp_far t (d + 2) (by omega)]; rfl
theorem fp_self : ∀ (n : Nat), fp n n = 1
  | 0 => rfl
  | n + 1 => by simp only [fp]; rw [fp_self n, fp_far n (n + 2) (by omega)]; rfl
/-- the ballot's rule -/
theorem fp_wk : ∀ (t d : Nat), (t : Int) * fp t d = d * wk t d
  | 0, 0 => by simp [fp, wk]
  | 0, d + 1 => by
    simp only [fp, wk]
    rw [if_neg (by omega)]; simp
  | t + 1, 0 => by simp [fp]
  | t + 1, d + 1 => by
    have h1 := fp_wk t d
    have h2 := fp_wk t (d + 2)
    have h3 := wk_ratio t d
    simp only [fp, wk]
    have e1 : ((d + 1 : Nat) : Int) - 1 = d := by omega
    have e2 : ((d + 1 : Nat) : Int) + 1 = (d : Int) + 2 := by omega
    rw [e1, e2]
    have e3 : ((d + 2 : Nat) : Int) = (d : Int) + 2 := by omega
    rw [e3] at h2
    have e4 : ((t + 1 : Nat) : Int) = (t : Int) + 1 := by omega
    have e5 : ((d + 1 : Nat) : Int) = (d : Int) + 1 := by omega
    rw [e4, e5]
    rcases Nat.eq_zero_or_pos t with h0 | h0
    · subst h0
      cases d with
      | zero => simp [fp, wk]
      | succ d => 
        simp only [fp, wk]
        rw [if_neg (by omega), if_neg (by omega)]; simp
    · have hz : (t : Int) ≠ 0 := by omega
      refine Int.eq_of_mul_eq_mul_left hz ?_
      grind
/-- to be there: to come there first, and to be there again -/
def conv (t d : Nat) : Nat → Int
  | 0 => 0
  | n + 1 => conv t d n + fp n d * wk (t - n) 0
theorem conv_zero (t : Nat) : ∀ n, conv t 0 (n + 1) = wk t 0
  | 0 => by simp [conv, fp]
  | n + 1 => by
    have ih := conv_zero t n
    show conv t 0 (n + 1) + fp (n + 1) 0 * wk (t - (n + 1)) 0 = _
    rw [ih]; simp [fp]
theorem conv_step (t d : Nat) : ∀ n, n ≤ t + 1 → conv (t + 1) (d + 1) (n + 1) = conv t d n + conv t (d + 2) n
  | 0, _ => by simp [conv, fp]
  | n + 1, h => by
    have ih := conv_step t d n (by omega)
    show conv (t + 1) (d + 1) (n + 1) + fp (n + 1) (d + 1) * wk (t + 1 - (n + 1)) 0 = (conv t d n + fp n d * wk (t - n) 0) + (conv t (d + 2) n + fp n (d + 2) * wk (t - n) 0)
    rw [ih, show t + 1 - (n + 1) = t - n by omega]
    simp only [fp]
    grind
theorem conv_eq : ∀ (t d : Nat), conv t d (t + 1) = wk t d
  | t, 0 => conv_zero t t
  | 0, d + 1 => by
    simp only [conv, fp, wk]
    rw [if_neg (by omega)]; simp
  | t + 1, d + 1 => by
    rw [conv_step t d (t + 1) (by omega), conv_eq t d, conv_eq t (d + 2)]
    simp only [wk]
    rw [show ((d + 1 : Nat) : Int) - 1 = (d : Int) by omega, show ((d + 1 : Nat) : Int) + 1 = ((d + 2 : Nat) : Int) by omega]

/-! choices -/
def ch : Nat → Nat → Int
  | _, 0 => 1
  | 0, _ + 1 => 0
  | n + 1, k + 1 => ch n k + ch n (k + 1)
theorem ch_nonneg : ∀ (n k : Nat), 0 ≤ ch n k
  | 0, 0 => by simp [ch]
  | _ + 1, 0 => by simp [ch]
  | 0, _ + 1 => by simp [ch]
  | n + 1, k + 1 => by have h1 := ch_nonneg n k; have h2 := ch_nonneg n (k + 1); simp only [ch]; omega
theorem ch_le : ∀ (n k : Nat), ch n k ≤ 2 ^ n
  | 0, 0 => by simp [ch]
  | n + 1, 0 => by
    simp only [ch]
    have : (0 : Int) < 2 ^ (n + 1) := Int.pow_pos (by decide)
    omega
  | 0, _ + 1 => by simp [ch]
  | n + 1, k + 1 => by have h1 := ch_le n k; have h2 := ch_le n (k + 1); simp only [ch]; rw [Int.pow_succ]; omega
theorem ch_zero (n : Nat) : ch n 0 = 1 := by cases n <;> rfl
theorem ch_step : ∀ (n k : Nat), ch n (k + 1) * (k + 1) = ch n k * (n - k)
  | 0, 0 => by simp [ch]
  | 0, k + 1 => by simp [ch]
  | n + 1, 0 => by
    have ih := ch_step n 0
    rw [ch_zero] at ih
    simp only [ch]
    have e : ((n + 1 : Nat) : Int) = (n : Int) + 1 := by omega
    rw [e]
    simp at ih ⊢
    omega
  | n + 1, k + 1 => by
    have h1 := ch_step n k
    have h2 := ch_step n (k + 1)
    simp only [ch]
    have e : ((n + 1 : Nat) : Int) = (n : Int) + 1 := by omega
    have e2 : ((k + 1 : Nat) : Int) = (k : Int) + 1 := by omega
    rw [e2] at h2
    rw [e, e2]
    grind
theorem ch_div (n k : Nat) : ch n k * (n - k) / (k + 1) = ch n (k + 1) := by
  rw [← ch_step]
  exact Int.mul_ediv_cancel _ (by omega)
theorem wk_ch : ∀ (t j : Nat), wk t (2 * j - t) = ch t j
  | 0, 0 => by simp [wk, ch]
  | 0, j + 1 => by simp only [wk, ch]; rw [if_neg (by omega)]
  | t + 1, 0 => by
    simp only [wk]
    rw [wk_far t _ (by omega), show (2 * ((0 : Nat) : Int) - ((t + 1 : Nat) : Int) + 1) = 2 * ((0 : Nat) : Int) - t by omega, wk_ch t 0, ch_zero, ch_zero]; rfl
  | t + 1, j + 1 => by
    simp only [wk, ch]
    rw [show (2 * ((j + 1 : Nat) : Int) - ((t + 1 : Nat) : Int) - 1) = 2 * (j : Int) - t by omega, show (2 * ((j + 1 : Nat) : Int) - ((t + 1 : Nat) : Int) + 1) = 2 * ((j + 1 : Nat) : Int) - t by omega, wk_ch t j, wk_ch t (j + 1)]
/-- rows_to by choices -/
theorem wk_rows (t : Nat) (x : Int) (h1 : ¬ ((t : Int) < (if x < 0 then -x else x))) (h2 : ¬ (x + t) % 2 = 1) : ch t (((t - (if x < 0 then -x else x)) / 2).toNat) = wk t x := by
  have key : ∀ y : Int, 0 ≤ y → y ≤ t → (y + t) % 2 = 0 → ch t ((((t : Int) - y) / 2).toNat) = wk t y := fun y a b c => by
    rw [← wk_ch, ← wk_neg t y]
    congr 1
    omega
  by_cases hx : x < 0
  · rw [if_pos hx] at h1 ⊢
    rw [key (-x) (by omega) (by omega) (by omega), wk_neg]
  · rw [if_neg hx] at h1 ⊢
    exact key x (by omega) (by omega) (by omega)

/-! shares as fractions -/
def PP (t : Nat) (x : Int) : Rat := Rat.divInt (wk t x) (2 ^ t)
def FF (t d : Nat) : Rat := Rat.divInt (fp t d) (2 ^ t)
theorem pow2_ne (t : Nat) : (2 : Int) ^ t ≠ 0 := by
  have : (0 : Int) < 2 ^ t := Int.pow_pos (by decide)
  omega
theorem pow2_abs (t : Nat) : ((2 : Int) ^ t).natAbs = 2 ^ t := by rw [Int.natAbs_pow]; rfl
theorem pow2_lt {t : Nat} (h : t ≤ 400) : ((2 : Int) ^ t).natAbs < 2 ^ 8999 := by
  rw [pow2_abs]; exact Nat.pow_lt_pow_right (by decide) (by omega)
theorem pow2_mul_lt {t : Nat} (h : t ≤ 400) : ((t : Int) * 2 ^ t).natAbs < 2 ^ 8999 := by
  rw [Int.natAbs_mul, pow2_abs]
  have h1 : (t : Int).natAbs < 2 ^ 400 := by
    rw [Int.natAbs_natCast]; exact Nat.lt_of_le_of_lt h (by decide)
  exact Nat.lt_of_lt_of_le (Nat.mul_lt_mul'' h1 (Nat.pow_lt_pow_right (by decide) (show t < 401 by omega))) (by rw [← Nat.pow_add]; exact Nat.pow_le_pow_right (by decide) (by decide))
theorem FF_far {t d : Nat} (h : t < d) : FF t d = 0 := by unfold FF; rw [fp_far t d h, Rat.zero_divInt]
theorem FF_eq {t d : Nat} (h : t ≠ 0) : Rat.divInt (d * wk t d) (t * 2 ^ t) = FF t d := by
  unfold FF
  rw [← fp_wk, Rat.divInt_mul_left (by omega)]
theorem pw_le {z : Int} {t : Nat} (h0 : 0 ≤ z) (h : z ≤ 2 ^ t) : Sz (Rat.divInt z (2 ^ t)) (t + 1) := by
  have hb := num_le z (2 ^ t) (Int.pow_pos (by decide))
  have h2 : z.natAbs ≤ 2 ^ t := by
    have h3 := pow2_abs t
    omega
  have hp : 2 ^ t < 2 ^ (t + 1) := by rw [Nat.pow_succ]; have : 0 < 2 ^ t := Nat.pow_pos (by decide); omega
  exact ⟨by omega, by have := pow2_abs t; omega⟩
theorem sz_PP (t : Nat) (x : Int) : Sz (PP t x) (t + 1) := pw_le (wk_nonneg t x) (wk_le t x)
theorem sz_FF (t d : Nat) : Sz (FF t d) (t + 1) := pw_le (fp_nonneg t d) (fp_le t d)

/-! rising, then falling: what greatest_in finds -/
def ts (x m : Nat) : List Nat := (List.range (((m : Int) + 2 - x) / 2).toNat).map fun k => x + 2 * k
def fs (x m : Nat) : List Rat := (ts x m).map fun t => FF t x
def gr : Rat → List Rat → Rat
  | f, [] => f
  | f, y :: ys => if y < f then f else gr y ys
def rows (m : Nat) : List Rat := (List.range m).map fun k => gr 0 (fs (k + 1) m)
theorem ts_le {x m t : Nat} (h : t ∈ ts x m) : x ≤ t ∧ t ≤ m := by
  unfold ts at h
  obtain ⟨k, hk, rfl⟩ := List.mem_map.mp h
  rw [List.mem_range] at hk
  omega
theorem gr_mem : ∀ (f : Rat) (l : List Rat), gr f l = f ∨ gr f l ∈ l
  | f, [] => .inl rfl
  | f, y :: ys => by
    unfold gr
    split
    · exact .inl rfl
    · rcases gr_mem y ys with h | h
      · right; rw [h]; exact List.mem_cons_self ..
      · right; exact List.mem_cons_of_mem _ h
theorem gr_ge : ∀ (f : Rat) (l : List Rat), f ≤ gr f l
  | f, [] => Rat.le_refl
  | f, y :: ys => by
    unfold gr
    split
    · exact Rat.le_refl
    · rename_i h
      exact Rat.le_trans (Rat.not_lt.mp h) (gr_ge y ys)
theorem gr_more : ∀ (f : Rat) (l r : List Rat), gr f l ≤ gr f (l ++ r)
  | f, [], r => gr_ge f r
  | f, y :: ys, r => by
    show (if y < f then f else gr y ys) ≤ (if y < f then f else gr y (ys ++ r))
    split
    · exact Rat.le_refl
    · exact gr_more y ys r
theorem sz_gr {x m : Nat} : Sz (gr 0 (fs x m)) (m + 1) := by
  rcases gr_mem 0 (fs x m) with h | h
  · rw [h]; exact sz_0.mono (by omega)
  · obtain ⟨t, ht, e⟩ := List.mem_map.mp h
    rw [← e]
    exact (sz_FF t x).mono (by have := ts_le ht; omega)
theorem ts_more (x m : Nat) : ∃ r, ts x (m + 1) = ts x m ++ r := by
  unfold ts
  obtain ⟨k, hk⟩ : ∃ k, ((((m + 1 : Nat) : Int) + 2 - x) / 2).toNat = (((m : Int) + 2 - x) / 2).toNat + k := ⟨((((m + 1 : Nat) : Int) + 2 - x) / 2).toNat - (((m : Int) + 2 - x) / 2).toNat, by omega⟩
  rw [hk, List.range_add, List.map_append]
  exact ⟨_, rfl⟩
theorem rows_more (k m : Nat) : gr 0 (fs k m) ≤ gr 0 (fs k (m + 1)) := by
  obtain ⟨r, e⟩ := ts_more k m
  unfold fs
  rw [e, List.map_append]
  exact gr_more _ _ _
theorem sz_sum {B : Nat} : ∀ (qs : List Rat), (∀ q ∈ qs, Sz q B) → Sz qs.sum (qs.length * (B + 1) + 1)
  | [], _ => sz_0.mono (by omega)
  | q :: qs, h => by
    rw [List.sum_cons]
    exact ((h q (List.mem_cons_self ..)).add (sz_sum qs fun x hx => h x (List.mem_cons_of_mem _ hx))).mono (by rw [List.length_cons, Nat.succ_mul]; omega)
theorem rows_bd {m : Nat} {q : Rat} (h : q ∈ rows m) : Sz q (m + 1) := by
  obtain ⟨k, _, rfl⟩ := List.mem_map.mp h
  exact sz_gr
theorem rows_len (m : Nat) : (rows m).length = m := by simp [rows]
theorem rows_take {m : Nat} (h : m ≤ 60) (k : Nat) : Sz ((rows m).take k).sum 4000 := by
  refine (sz_sum _ fun q hq => rows_bd (List.mem_of_mem_take hq)).mono ?_
  have h1 : ((rows m).take k).length ≤ m := by rw [List.length_take, rows_len]; omega
  have h2 : ((rows m).take k).length * (m + 1 + 1) ≤ 60 * 62 := Nat.mul_le_mul (by omega) (by omega)
  omega
theorem take_sum {qs : List Rat} {i : Nat} {q : Rat} (h : qs[i]? = some q) : (qs.take (i + 1)).sum = (qs.take i).sum + q := by
  rw [List.take_add_one, h]
  simp [List.sum_append, Rat.add_zero]

end Vl

set_option Elab.async false
set_option linter.all false
set_option maxRecDepth 100000
set_option maxHeartbeats 2000000
/-! dicts of ints by ints; walks in a row -/
namespace Vl
open PySem PySem.Spec L2
/-! ### list comprehensions -/
def lc1 (tf : TF) (k : PM Bool) (fe : PM D) (b : S) (d : D) : Option (Option D) := match tf d b with
  | none => none
  | some s1 => match k s1 with
    | .ok true s2 => (match fe s2 with | .ok y _ => some (some y) | _ => none)
    | .ok false _ => some none
    | _ => none
theorem lcP_cons {tf : TF} {k : PM Bool} {fe : PM D} {b : S} {d : D} {ds : List D} : lcP tf k fe b (d :: ds) = (lc1 tf k fe b d).bind fun o => (lcP tf k fe b ds).map (o.toList ++ ·) := by
  rw [lcP, lc1]
  cases tf d b with
  | none => rfl
  | some s1 =>
    dsimp only
    cases k s1 with
    | ok t s2 =>
      cases t with
      | true => dsimp only; cases fe s2 <;> rfl
      | false => dsimp only; cases lcP tf k fe b ds <;> rfl
    | _ => rfl
theorem lcP_fm {tf : TF} {k : PM Bool} {fe : PM D} {b : S} {h : D → Option D} : ∀ {ds : List D}, (∀ d ∈ ds, lc1 tf k fe b d = some (h d)) → lcP tf k fe b ds = some (ds.filterMap h)
  | [], _ => rfl
  | d :: ds, H => by
    rw [lcP_cons, H d (List.mem_cons_self ..), lcP_fm fun e m => H e (List.mem_cons_of_mem _ m)]
    simp only [Option.bind_some, Option.map_some, List.filterMap_cons]
    cases h d <;> rfl
theorem lcP_map {tf : TF} {k : PM Bool} {fe : PM D} {b : S} {h : D → D} {ds : List D} (H : ∀ d ∈ ds, lc1 tf k fe b d = some (some (h d))) : lcP tf k fe b ds = some (ds.map h) := by
  rw [lcP_fm (h := fun d => some (h d)) H, List.filterMap_eq_map']
theorem lcE_ok' {fi : PM (List D)} {tf : TF} {k : PM Bool} {fe : PM D} {vs : List Nat} {s s1 : S} {ds ys : List D} (h : fi s = .ok ds s1) (h2 : lcP tf k fe (wipeS s1 vs) ds = some ys) (h3 : ds.length ≤ 1000000) : lcE fi tf k fe vs s = .ok (.lst ys) s1 := lcE_ok h h2 h3
@[simp] theorem wipeS_nil {s : S} : wipeS s [] = s := rfl
@[simp] theorem wipeS_cons {s : S} {v : Nat} {vs : List Nat} : wipeS s (v :: vs) = (wipeS s vs).set v none := rfl
@[simp] theorem noM_int {i : Int} : noM (.int i) = true := rfl
@[simp] theorem noM_bl {i : Bool} : noM (.bl i) = true := rfl
@[simp] theorem noM_str {i : Str} : noM (.str i) = true := rfl
/-! ### while: by a measure that falls -/
theorem whM_true {k : PM Bool} {b : S → SO} {s s1 s2 : S} (h1 : k s = .ok true s1) (h2 : b s1 = .nx s2) {o : SO} (h3 : whM k b s2 = o) (ho : o ≠ .no) : whM k b s = o := by
  unfold whM at h3
  split at h3
  · rename_i ex
    refine whM_eq (n := ex.choose + 1) ?_ ho
    unfold whN
    rw [h1]; dsimp only; rw [h2]; exact h3
  · exact absurd h3.symm ho
theorem whM_false {k : PM Bool} {b : S → SO} {s s1 : S} (h1 : k s = .ok false s1) : whM k b s = .nx s1 := whM_eq (n := 1) (by unfold whN; rw [h1]) nofun
/-! ### dicts of ints -/
abbrev LI := List (Int × Int)
def emb (l : LI) : List (Key × D) := l.map fun p => (Sum.inl p.1, D.int p.2)
def lval : LI → Int → Int
  | [], _ => 0
  | p :: l, z => (if p.1 = z then p.2 else 0) + lval l z
def lput (l : LI) (z v : Int) : LI := if z ∈ l.map Prod.fst then l.map (fun p => if p.1 = z then (p.1, v) else p) else l ++ [(z, v)]
abbrev NdK (l : LI) : Prop := (l.map Prod.fst).Nodup
theorem lval_not {z : Int} : ∀ {l : LI}, z ∉ l.map Prod.fst → lval l z = 0
  | [], _ => rfl
  | p :: l, h => by
    rw [List.map_cons, List.mem_cons] at h
    rw [lval, if_neg (fun e => h (.inl e.symm)), lval_not (fun m => h (.inr m)), Int.add_zero]
theorem kget_emb {z : Int} : ∀ {l : LI}, NdK l → kget (emb l) (.inl z) = if z ∈ l.map Prod.fst then some (.int (lval l z)) else none
  | [], _ => rfl
  | p :: l, nd => by
    rw [NdK, List.map_cons, List.nodup_cons] at nd
    by_cases e : p.1 = z
    · have h1 : kget (emb (p :: l)) (.inl z) = some (.int p.2) := by simp [kget, emb, e]
      rw [h1, List.map_cons, if_pos (by rw [← e]; exact List.mem_cons_self ..), lval, if_pos e, lval_not (by rw [← e]; exact nd.1), Int.add_zero]
    · have h1 : kget (emb (p :: l)) (.inl z) = kget (emb l) (.inl z) := by simp [kget, emb, e]
      rw [h1, kget_emb nd.2, lval, if_neg e, Int.zero_add, List.map_cons]
      have : (z ∈ p.1 :: l.map Prod.fst) ↔ z ∈ l.map Prod.fst := by rw [List.mem_cons]; exact ⟨fun h => h.elim (fun w => absurd w.symm e) id, .inr⟩
      simp only [this]
theorem getG_emb {l : LI} {z : Int} (nd : NdK l) : getG (.dk (emb l)) (.int z) (.int 0) = some (.int (lval l z)) := by
  simp only [getG, kof, Option.map_some, kget_emb nd]
  split
  · rfl
  · rename_i h; rw [lval_not h]; rfl
theorem kput_emb {l : LI} {z v : Int} : kput (emb l) (.inl z) (.int v) = emb (lput l z v) := by
  have h1 : ((emb l).any fun p => decide (p.1 = (Sum.inl z : Key))) = true ↔ z ∈ l.map Prod.fst := by
    simp [emb, List.any_eq_true]
  unfold kput lput
  by_cases h : z ∈ l.map Prod.fst
  · rw [if_pos h, if_pos (h1.mpr h)]
    simp only [emb, List.map_map]
    refine List.map_congr_left fun p _ => ?_
    by_cases e : p.1 = z <;> simp [e]
  · rw [if_neg h, if_neg (fun w => h (h1.mp w))]
    simp [emb]
theorem keys_put {l : LI} {z v : Int} : (lput l z v).map Prod.fst = if z ∈ l.map Prod.fst then l.map Prod.fst else l.map Prod.fst ++ [z] := by
  unfold lput
  split
  · rw [List.map_map]
    refine List.map_congr_left fun p _ => ?_
    show (if p.1 = z then (p.1, v) else p).1 = p.1
    split <;> rfl
  · simp
theorem lput_nd {l : LI} {z v : Int} (nd : NdK l) : NdK (lput l z v) := by
  show ((lput l z v).map Prod.fst).Nodup
  rw [keys_put]
  split
  · exact nd
  · rename_i h
    rw [List.nodup_append]
    refine ⟨nd, by simp, fun a ha b hb => ?_⟩
    rw [List.mem_singleton] at hb
    subst hb
    exact fun e => h (e ▸ ha)
theorem lput_len {l : LI} {z v : Int} : (lput l z v).length ≤ l.length + 1 := by
  unfold lput; split <;> simp
theorem lval_app {z : Int} : ∀ {l r : LI}, lval (l ++ r) z = lval l z + lval r z
  | [], r => by simp [lval]
  | p :: l, r => by
    rw [List.cons_append, lval, lval, lval_app]; omega
theorem lval_repl {z v y : Int} : ∀ {l : LI}, NdK l → z ∈ l.map Prod.fst → lval (l.map fun p => if p.1 = z then (p.1, v) else p) y = if y = z then v else lval l y
  | [], _, h => by simp at h
  | p :: l, nd, h => by
    rw [NdK, List.map_cons, List.nodup_cons] at nd
    rw [List.map_cons, lval]
    by_cases e : p.1 = z
    · have hn : z ∉ l.map Prod.fst := by rw [← e]; exact nd.1
      have hm : (l.map fun p => if p.1 = z then (p.1, v) else p) = l := by
        conv => rhs; rw [← List.map_id l]
        refine List.map_congr_left fun q hq => ?_
        rw [if_neg (fun w => hn (by rw [← w]; exact List.mem_map_of_mem hq))]; rfl
      rw [hm, if_pos e, lval]
      by_cases ey : y = z
      · rw [if_pos ey, ey]
        rw [if_pos e, lval_not hn, Int.add_zero]
      · rw [if_neg ey]
        have ny : ¬ p.1 = y := fun w => ey (by rw [← w, e])
        simp only [if_neg ny]
    · rw [List.map_cons, List.mem_cons] at h
      have h : z ∈ l.map Prod.fst := h.elim (fun w => absurd w.symm e) id
      rw [lval_repl nd.2 h, if_neg e, lval]
      by_cases ey : y = z
      · rw [if_pos ey, if_neg (fun w => e (by rw [w, ey])), Int.zero_add, if_pos ey]
      · rw [if_neg ey, if_neg ey]
theorem lval_put {l : LI} {z v y : Int} (nd : NdK l) : lval (lput l z v) y = if y = z then v else lval l y := by
  unfold lput
  split
  · rename_i h; exact lval_repl nd h
  · rename_i h
    rw [lval_app, lval, lval, Int.add_zero]
    by_cases e : y = z
    · rw [e, if_pos rfl, if_pos rfl, lval_not h, Int.zero_add]
    · rw [if_neg (fun w => e w.symm), if_neg e, Int.add_zero]
theorem setIG_emb {l : LI} {z v : Int} (h : l.length < 1000000) : setIG (.dk (emb l)) (.int z) (.int v) = some (.dk (emb (lput l z v))) := by
  have : (emb l).length < 1000000 := by simpa [emb] using h
  simp only [setIG, this, if_true, kof, Option.map_some, kput_emb]
theorem lput_new {l : LI} {z v : Int} (h : z ∉ l.map Prod.fst) : lput l z v = l ++ [(z, v)] := if_neg h
theorem merge_emb' : ∀ {r l : LI}, NdK (l ++ r) → mergeD (emb l) (emb r) = emb (l ++ r)
  | [], l, _ => by simp [mergeD, emb]
  | p :: r, l, nd => by
    have hp : p.1 ∉ l.map Prod.fst := by
      rw [NdK, List.map_append, List.nodup_append] at nd
      exact fun m => nd.2.2 _ m _ (by rw [List.map_cons]; exact List.mem_cons_self ..) rfl
    have e : mergeD (emb l) (emb (p :: r)) = mergeD (kput (emb l) (.inl p.1) (.int p.2)) (emb r) := rfl
    rw [e, kput_emb, lput_new hp, merge_emb' (by simpa using nd)]
    simp
theorem merge_emb {l : LI} (nd : NdK l) : mergeD [] (emb l) = emb l := merge_emb' (l := []) nd
theorem itmsG_emb {l : LI} : itmsG (emb l) = l.map pairI := by
  simp only [itmsG, emb, List.map_map]
  exact List.map_congr_left fun p _ => rfl
theorem pairsD_pr : ∀ {l : LI}, pairsD (l.map pairI) = some (emb l)
  | [] => rfl
  | p :: l => by
    rw [List.map_cons, pairI, pairsD, pairsD_pr]; rfl
theorem dictG_pr {l : LI} (nd : NdK l) : dictG [.lst (l.map pairI)] = some (.dk (emb l)) := by
  simp only [dictG, pairsD_pr, Option.map_some, merge_emb nd]
theorem lval_filter {d y : Int} : ∀ {l : LI}, lval (l.filter fun p => !decide (p.1 = d)) y = if y = d then 0 else lval l y
  | [] => by simp [lval]
  | p :: l => by
    by_cases e : p.1 = d
    · rw [List.filter_cons_of_neg (by simp [e]), lval_filter, lval]
      split
      · rfl
      · rename_i h; rw [if_neg (fun w => h (by rw [← w, e])), Int.zero_add]
    · rw [List.filter_cons_of_pos (by simp [e]), lval, lval_filter, lval]
      by_cases h : y = d
      · rw [if_pos h, if_pos h, if_neg (fun w => e (by rw [w, h])), Int.zero_add]
      · rw [if_neg h, if_neg h]
theorem nd_filter {l : LI} {f : Int × Int → Bool} (nd : NdK l) : NdK (l.filter f) := List.Nodup.sublist (List.filter_sublist.map _) nd
theorem nd_len : ∀ (n : Nat) (xs : List Nat), xs.Nodup → (∀ x ∈ xs, x < n) → xs.length ≤ n
  | 0, [], _, _ => Nat.le_refl _
  | 0, x :: xs, _, h => absurd (h x (List.mem_cons_self ..)) (by omega)
  | n + 1, xs, nd, h => by
    have h2 := nd_len n (xs.erase n) (nd.erase n) fun x hx => by
      have := (nd.mem_erase_iff).mp hx
      have := h x this.2
      omega
    have : xs.length ≤ (xs.erase n).length + 1 := by
      rw [List.length_erase]; split <;> omega
    omega
theorem nd_keys {l : LI} {B : Nat} (nd : NdK l) (h : ∀ p ∈ l, -(B : Int) ≤ p.1 ∧ p.1 ≤ B) : l.length ≤ 2 * B + 1 := by
  have h2 := nd_len (2 * B + 1) ((l.map Prod.fst).map fun z : Int => (z + (B : Int)).toNat) (by
    rw [List.Nodup, List.pairwise_map]
    refine List.Pairwise.imp_of_mem (R := fun a b : Int => a ≠ b) ?_ nd
    intro a b ha hb hne e
    obtain ⟨p, hp, rfl⟩ := List.mem_map.mp ha
    obtain ⟨q, hq, rfl⟩ := List.mem_map.mp hb
    have := h p hp; have := h q hq
    exact hne (by omega)) (fun x hx => by
    obtain ⟨z, hz, rfl⟩ := List.mem_map.mp hx
    obtain ⟨p, hp, rfl⟩ := List.mem_map.mp hz
    have := h p hp
    omega)
  simpa using h2
theorem mem_put {l : LI} {z v : Int} {p : Int × Int} (h : p ∈ lput l z v) : p.1 = z ∨ ∃ q ∈ l, q.1 = p.1 := by
  have h1 : p.1 ∈ (lput l z v).map Prod.fst := List.mem_map_of_mem h
  rw [keys_put] at h1
  split at h1
  · obtain ⟨q, hq, e⟩ := List.mem_map.mp h1
    exact .inr ⟨q, hq, e⟩
  · rcases List.mem_append.mp h1 with h1 | h1
    · obtain ⟨q, hq, e⟩ := List.mem_map.mp h1
      exact .inr ⟨q, hq, e⟩
    · exact .inl (List.mem_singleton.mp h1)
theorem lval_take {l : LI} {k : Nat} {p : Int × Int} {y : Int} (h : l[k]? = some p) : lval (l.take (k + 1)) y = lval (l.take k) y + (if p.1 = y then p.2 else 0) := by
  rw [List.take_add_one, h, lval_app]
  simp [lval]
end Vl

set_option Elab.async false
set_option linter.all false
set_option maxRecDepth 100000
set_option maxHeartbeats 4000000
set_option exponentiation.threshold 20000
/-! what the package's defs compute -/
namespace Pk
open PySem PySem.Spec L2 Vl
variable {i j : Int}
@[simp] theorem is_integer_i : m_is_integer [.int i] = .ok (.bl true) [] := by
  simp [m_is_integer, g_is_integer]
@[simp] theorem is_within_i {lo hi : Int} : m_is_within [.int i, .int lo, .int hi] = .ok (.bl (decide (lo ≤ i) && decide (i ≤ hi))) [] := by
  by_cases h : lo ≤ i <;> simp [m_is_within, g_is_within, h]
theorem need_number_i {x : Str} {lo hi : Int} (h1 : lo ≤ i) (h2 : i ≤ hi) : m_need_number [.int i, .str x, .int lo, .int hi] = .ok .non [] := by
  simp [m_need_number, g_need_number, h1, h2]
/-- the fraction q -/
def frq (q : Rat) : D := .tup [.int q.num, .int q.den]
theorem lp_frq (up down : Int) (h : 0 < down) : (D.tup [.int (up.fdiv (Nat.gcd up.natAbs down.natAbs : Nat)), .int (down.fdiv (Nat.gcd up.natAbs down.natAbs : Nat))]) = frq (Rat.divInt up down) := by
  have hg : (Nat.gcd up.natAbs down.natAbs : Int) = (Int.gcd down up : Int) := by
    rw [Nat.gcd_comm]; rfl
  have d1 : (Int.gcd down up : Int) ∣ up := Int.gcd_dvd_right ..
  have d2 : (Int.gcd down up : Int) ∣ down := Int.gcd_dvd_left ..
  unfold frq
  rw [hg, Rat.num_divInt, Rat.den_divInt, if_neg (by omega), Int.fdiv_eq_ediv_of_dvd d1, Int.fdiv_eq_ediv_of_dvd d2, Int.sign_eq_one_of_pos h, Int.one_mul]
  congr 3
  rw [Int.natCast_ediv, Int.natAbs_of_nonneg (by omega)]
theorem gcd_log {u w : Int} (hw : 0 < w) (h : w.natAbs < 2 ^ 8999) : ((Nat.gcd u.natAbs w.natAbs : Nat) : Int) ≠ 0 ∧ ((Nat.gcd u.natAbs w.natAbs : Nat) : Int).natAbs.log2 < 9000 := by
  have h0 : 0 < Nat.gcd u.natAbs w.natAbs := Nat.gcd_pos_of_pos_right _ (by omega)
  have h1 : Nat.gcd u.natAbs w.natAbs ≤ w.natAbs := Nat.le_of_dvd (by omega) (Nat.gcd_dvd_right ..)
  refine ⟨by omega, ?_⟩
  rw [Int.natAbs_natCast]
  exact Nat.lt_trans ((Nat.log2_lt (by omega)).mpr (Nat.lt_of_le_of_lt h1 h)) (by decide)
theorem least_pair_eq {u d : Int} (hd : 0 < d) (hb : d.natAbs < 2 ^ 8999) : m_least_pair [.int u, .int d] = .ok (frq (Rat.divInt u d)) [] := by
  obtain ⟨g1, g2⟩ := gcd_log (u := u) hd hb
  have f : ∀ z : Int, fdivG [.int z, .int ((Nat.gcd u.natAbs d.natAbs : Nat) : Int)] = some (.int (z.fdiv (Nat.gcd u.natAbs d.natAbs : Nat))) := fun z => fdivG_ok g1 g2
  rw [← lp_frq u d hd]
  simp [m_least_pair, g_least_pair, hd, f, tupG_ok]
theorem steps_at {lo : Int} {m j : Nat} {d : D} (h : (stepsD lo 1 m)[j]? = some d) : d = .int (lo + j) ∧ j < m := by
  unfold stepsD at h
  rw [List.getElem?_map] at h
  obtain ⟨k, hk, rfl⟩ := Option.map_eq_some_iff.mp h
  obtain ⟨hl, rfl⟩ := List.getElem?_eq_some_iff.mp hk
  simp at hl ⊢
  exact hl
theorem steps_len {lo : Int} {m : Nat} : (stepsD lo 1 m).length = m := by simp [stepsD]
theorem inR_nat {n : Nat} (h : n < 1000000) : inR (n : Int) = true := by
  have h1 : (-(2 ^ 62) : Int) ≤ -1 := by decide
  have h2 : (1000000 : Int) ≤ 2 ^ 62 := by decide
  unfold inR
  generalize (2 ^ 62 : Int) = p at h1 h2 ⊢
  exact decide_eq_true ⟨by omega, by omega⟩
theorem rng1_ok {n : Nat} (h : n < 1000000) : rng1G [.int (n : Int)] = some (stepsD 0 1 n) := by
  have e : rng1G [.int (n : Int)] = if inR (n : Int) = true then some (stepsD 0 1 (n : Int).toNat) else none := by
    rw [rng1G]
  rw [e, if_pos (inR_nat h), Int.toNat_natCast]
theorem choices_eq {n k : Nat} (hn : n ≤ 1000) (hk : k ≤ n) : m_choices [.int n, .int k] = .ok (.int (ch n k)) [] := by
  have r := rng1_ok (n := k) (by omega)
  have L := forL_inv (tf := tgN 3) (b := setM 2 (op2 fdivG (op2 mulI (gts 2) (op2 subG (gts 0) (gts 3))) (op2 addG (gts 3) (pur (.int 1))))) (fun j s => ∃ x, s = [some (.int n), some (.int k), some (.int (ch n j)), x])
    (stepsD 0 1 k) 0 [some (.int n), some (.int k), some (.int 1), none] ⟨none, by rw [ch_zero]⟩ (fun j d s hj hs => by
      obtain ⟨rfl, hjk⟩ := steps_at hj
      obtain ⟨x, rfl⟩ := hs
      rw [Nat.zero_add]
      have m1 : mulI [.int (ch n j), .int ((n : Int) - (0 + j))] = some (.int (ch n j * ((n : Int) - (0 + j)))) := mulI_r (by omega)
      have f1 : fdivG [.int (ch n j * ((n : Int) - (0 + j))), .int (0 + (j : Int) + 1)] = some (.int (ch n (j + 1))) := by
        rw [fdivG_ok (by omega) ?_, Int.fdiv_eq_ediv_of_nonneg _ (by omega)]
        · rw [Int.zero_add, ch_div]
        · have : (0 + (j : Int) + 1).natAbs < 2 ^ 20 := by omega
          exact Nat.lt_trans ((Nat.log2_lt (by omega)).mpr this) (by decide)
      refine ⟨_, [some (.int n), some (.int k), some (.int (ch n (j + 1))), some (.int (j : Int))], tgN_ap, .inl ?_, ⟨_, rfl⟩⟩
      simp only [Int.zero_add] at m1 f1
      simp [m1, f1])
  obtain ⟨s', e, x, rfl⟩ := L
  rw [steps_len, Nat.zero_add] at e
  simp -implicitDefEqProofs [m_choices, g_choices, r, e]
theorem rows_to_eq {x : Int} {t : Nat} (ht : t ≤ 1000) : m_rows_to [.int x, .int t] = .ok (.int (wk t x)) [] := by
  have m2 : modG [.int (x + t), .int 2] = some (.int ((x + t) % 2)) := modG_pos (by decide)
  by_cases h1 : (t : Int) < (if x < 0 then -x else x)
  · have hz : wk t x = 0 := wk_far t x (by split at h1 <;> omega)
    simp [m_rows_to, g_rows_to, h1, hz]
  · by_cases h2 : (x + t) % 2 = 1
    · have hz : wk t x = 0 := wk_par t x h2
      simp [m_rows_to, g_rows_to, h1, m2, h2, hz]
    · have hb : 0 ≤ (if x < 0 then -x else x) := by split <;> omega
      have hr := wk_rows t x h1 h2
      obtain ⟨k, hk⟩ : ∃ k : Nat, ((t : Int) - (if x < 0 then -x else x)) / 2 = k := ⟨(((t : Int) - (if x < 0 then -x else x)) / 2).toNat, by omega⟩
      have f2 : fdivG [.int ((t : Int) - (if x < 0 then -x else x)), .int 2] = some (.int (k : Int)) := by
        rw [fdivG_ok (by decide) (by decide), Int.fdiv_eq_ediv_of_nonneg _ (by decide), hk]
      rw [hk, Int.toNat_natCast] at hr
      have hc := choices_eq (n := t) (k := k) ht (by omega)
      simp [m_rows_to, g_rows_to, h1, m2, h2, f2, hc, hr]
theorem share_in_eq {x : Int} {t : Nat} (ht : t ≤ 400) : m_share_in [.int x, .int t] = .ok (frq (PP t x)) [] := by
  have s1 : shlG [.int 1, .int (t : Int)] = some (.int (2 ^ t)) := by rw [shlG_1 (by omega) (by omega)]; rfl
  have r := rows_to_eq (x := x) (t := t) (by omega)
  have l := least_pair_eq (u := wk t x) (d := 2 ^ t) (Int.pow_pos (by decide)) (pow2_lt ht)
  simp [m_share_in, g_share_in, s1, r, l]; rfl
theorem share_of_eq {x : Int} {t : Nat} (hx : -400 ≤ x ∧ x ≤ 400) (ht : t ≤ 400) : m_share_of [.int x, .int t] = .ok (frq (PP t x)) [] := by
  simp [m_share_of, g_share_of, need_number_i hx.1 hx.2, need_number_i (i := (t : Int)) (lo := 0) (hi := 400) (by omega) (by omega), share_in_eq ht]
theorem frq_0 : frq 0 = .tup [.int 0, .int 1] := rfl
theorem first_in_eq {d t : Nat} (hd : 1 ≤ d) (ht : t ≤ 400) : m_first_in [.int d, .int t] = .ok (frq (FF t d)) [] := by
  by_cases h : (t : Int) < d
  · rw [FF_far (by omega), frq_0]
    simp [m_first_in, g_first_in, h]
  · have s1 : shlG [.int 1, .int (t : Int)] = some (.int (2 ^ t)) := by rw [shlG_1 (by omega) (by omega)]; rfl
    have r := rows_to_eq (x := d) (t := t) (by omega)
    have m1 : mulI [.int (d : Int), .int (wk t d)] = some (.int (d * wk t d)) := mulI_l (by omega)
    have m2 : mulI [.int (t : Int), .int (2 ^ t)] = some (.int (t * 2 ^ t)) := mulI_l (by omega)
    have l := least_pair_eq (u := d * wk t d) (d := t * 2 ^ t) (Int.mul_pos (by omega) (Int.pow_pos (by decide))) (pow2_mul_lt ht)
    rw [FF_eq (by omega)] at l
    simp [m_first_in, g_first_in, h, s1, r, m1, m2, l]
theorem first_share_eq {d t : Nat} (hd : 1 ≤ d) (hd2 : d ≤ 400) (ht : t ≤ 400) : m_first_share [.int d, .int t] = .ok (frq (FF t d)) [] := by
  simp [m_first_share, g_first_share, need_number_i (i := (d : Int)) (lo := 1) (hi := 400) (by omega) (by omega), need_number_i (i := (t : Int)) (lo := 0) (hi := 400) (by omega) (by omega), first_in_eq hd ht]
end Pk

set_option Elab.async false
set_option linter.all false
set_option maxRecDepth 100000
set_option maxHeartbeats 4000000
/-! the laws' drawing: the pile of numbers, a draw, a choice -/
namespace Vl
open PySem PySem.Spec L2
/-- the pile: the numbers, how many were drawn, what is left of a great one -/
def pileD (cs : List Int) (at' rest : Int) : D := .lst [.lst (cs.map .int), .int at', .int rest]
structure Pile (n : Nat) (d : D) : Prop where
  ex : ∃ cs at' rest, d = pileD cs at' rest ∧ 0 ≤ at' ∧ at' ≤ n ∧ 0 ≤ rest
variable {s s' : S} {i j : Int} {a b : Bool} {α β : Type}
theorem intsPy : ∀ cs : List Int, toPys (cs.map .int) = some (cs.map .int)
  | [] => rfl
  | c :: cs => by rw [List.map_cons, toPys, intsPy cs]; rfl
theorem lay_ints (cs : List Int) : PyData.canLayAll0 (cs.map PyData.int) = true := by
  induction cs with
  | nil => rfl
  | cons x r ih => simp [PyData.canLayAll0, PyData.canLay0, ih]
theorem dep_ints (cs : List Int) : PyData.depthAll (cs.map PyData.int) = 0 := by
  induction cs with
  | nil => rfl
  | cons x r ih => simp [PyData.depthAll, PyData.depth, ih]
theorem shaped_ints (cs : List Int) : SeqAt.shaped (.list (cs.map PyData.int)) = true := by
  simp [SeqAt.shaped, PyData.canLay0, lay_ints, PyData.depth, dep_ints]
theorem eqG_nil (cs : List Int) : eqG [.lst (cs.map .int), .lst []] = some (.bl cs.isEmpty) := by
  have h2 : SeqAt.shaped (.list []) = true := rfl
  simp only [eqG, eqP, toPy, toPys, intsPy, Option.map_some, Option.bind_some, shaped_ints, h2, and_self, if_true]
  cases cs <;> rfl
theorem at_mod {cs : List Int} (h : cs ≠ []) {a : Int} : ∃ x, L2.atI (cs.map D.int) (a % (cs.length : Int)) = some (.int x) := by
  have hl : 0 < cs.length := List.length_pos_iff.mpr h
  have h1 := Int.emod_nonneg a (show (cs.length : Int) ≠ 0 by omega)
  have h2 := Int.emod_lt_of_pos a (show (0 : Int) < cs.length by omega)
  obtain ⟨k, hk⟩ : ∃ k : Nat, a % (cs.length : Int) = k := ⟨(a % (cs.length : Int)).toNat, by omega⟩
  have hk2 : k < cs.length := by omega
  refine ⟨cs[k], ?_⟩
  rw [hk]
  exact L2.atI_nat (by rw [List.getElem?_map, List.getElem?_eq_getElem hk2]; rfl)
noncomputable def stepG (M1 A B M2 C D' A2 M3 : Int) : S → SO :=
  (seqM (ifM (tru (op2 gtG (op2 ixAG (gts 0) (pur (.int 2))) (pur (.int 0))))
    (seqM (setM 2 (apA intG (consA (op2 ixAG (gts 0) (pur (.int 2))) (pur []))))
  (seqM (setI 0 (pur (.int 2)) (op2 fdivG (gts 2) (gts 1)))
  (retM (op2 modG (apA intG (consA (gts 2) (pur []))) (gts 1)))))
    nxM)
  (seqM (setM 3 (bd (op2 ixAG (gts 0) (pur (.int 1))) sca))
  (seqM (setI 0 (pur (.int 1)) (op2 addG (gts 3) (pur (.int 1))))
  (seqM (ifM (tru (op2 eqG (op2 ixAG (gts 0) (pur (.int 0))) (apA lstG (pur []))))
    (retM (pur (.int 0)))
    nxM)
  (seqM (setM 4 (bd (op2 ixAG (op2 ixAG (gts 0) (pur (.int 0))) (op2 modG (apA intG (consA (gts 3) (pur []))) (apA lenBG (consA (op2 ixAG (gts 0) (pur (.int 0))) (pur []))))) sca))
  (seqM (ifM (andB (tru (op2 ltG (gts 3) (apA lenBG (consA (op2 ixAG (gts 0) (pur (.int 0))) (pur []))))) (tru (op2 geG (apA absG (consA (gts 4) (pur []))) (op2 powG (pur (.int 10)) (pur (.int 18))))))
    (seqM (setM 2 (op2 addG (op2 mulI (pur (.int 2)) (op2 subG (apA absG (consA (gts 4) (pur []))) (op2 powG (pur (.int 10)) (pur (.int 18))))) (apA intG (consA (op2 ltG (gts 4) (pur (.int 0))) (pur [])))))
  (seqM (setI 0 (pur (.int 2)) (op2 fdivG (apA intG (consA (gts 2) (pur []))) (gts 1)))
  (retM (op2 modG (apA intG (consA (gts 2) (pur []))) (gts 1)))))
    nxM)
  (seqM (setM 5 (op2 modG (apA intG (consA (op2 powG (op2 addG (op2 addG (op2 modG (apA intG (consA (gts 4) (pur []))) (pur (.int M1))) (op2 mulI (pur (.int A)) (gts 3))) (pur (.int B))) (pur (.int 5))) (pur []))) (pur (.int M2))))
  (seqM (setM 5 (op2 modG (apA intG (consA (op2 powG (op2 addG (op2 addG (op2 mulI (gts 5) (op2 addG (op2 mulI (pur (.int 2)) (gts 3)) (pur (.int C)))) (op2 mulI (op2 mulI (pur (.int D')) (gts 3)) (gts 3))) (pur (.int A2))) (pur (.int 3))) (pur []))) (pur (.int M3))))
  (retM (op2 modG (apA intG (consA (op2 fdivG (gts 5) (pur (.int 64))) (pur []))) (gts 1)))))))))))
/-- what the numbers of a law's draw keep -/
structure StepC (M1 A B M2 C D' A2 M3 : Int) : Prop where
  m1 : 0 < M1 ∧ M1 < 2 ^ 31
  m2 : 0 < M2 ∧ M2 < 2 ^ 31
  m3 : 0 < M3 ∧ M3 < 2 ^ 31
  a : 0 ≤ A ∧ A < 2 ^ 20
  b : 0 ≤ B ∧ B < 2 ^ 20
  c : 0 ≤ C ∧ C < 2 ^ 20
  d : 0 ≤ D' ∧ D' < 2 ^ 20
  a2 : 0 ≤ A2 ∧ A2 < 2 ^ 20
theorem stepG_spec {M1 A B M2 C D' A2 M3 : Int} (hc : StepC M1 A B M2 C D' A2 M3) {n : Nat} {d : D} (hp : Pile n d) (hn : n ≤ 100000) {many : Int} (h0 : 0 < many) (h1 : many < 2 ^ 60) :
    ∃ r d', runF 6 [.fr, .st] .st (stepG M1 A B M2 C D' A2 M3) [d, .int many] = .ok (.int r) [d'] ∧ Pile (n + 1) d' ∧ 0 ≤ r ∧ r < many := by
  obtain ⟨cs, at', rest, rfl, ha0, ha1, hr0⟩ := hp.ex
  have e0 : ∀ x y z : D, L2.atI [x, y, z] 0 = some x := fun _ _ _ => rfl
  have e1 : ∀ x y z : D, L2.atI [x, y, z] 1 = some y := fun _ _ _ => rfl
  have e2 : ∀ x y z : D, L2.atI [x, y, z] 2 = some z := fun _ _ _ => rfl
  have hmn : many ≠ 0 := by omega
  have hmb : many.natAbs.log2 < 9000 := by
    have : many.natAbs < 2 ^ 60 := by omega
    exact Nat.lt_trans ((Nat.log2_lt (by omega)).mpr this) (by decide)
  have x0 : ixN 3 0 = some 0 := rfl
  have x1 : ixN 3 1 = some 1 := rfl
  have x2 : ixN 3 2 = some 2 := rfl
  have fd : ∀ z : Int, fdivG [.int z, .int many] = some (.int (z.fdiv many)) := fun z => fdivG_ok hmn hmb
  have md : ∀ z : Int, modG [.int z, .int many] = some (.int (z % many)) := fun z => modG_pos h0
  have l0 : lstG [] = some (.lst []) := rfl
  by_cases hr : 0 < rest
  · refine ⟨rest % many, pileD cs at' (rest.fdiv many), ?_, ⟨cs, at', _, rfl, ha0, by omega, Int.fdiv_nonneg hr0 (by omega)⟩, Int.emod_nonneg _ (by omega), Int.emod_lt_of_pos _ h0⟩
    simp [stepG, pileD, e2, hr, setI, setIG, fd, md, x2]
  · have hr' : decide (0 < rest) = false := decide_eq_false hr
    cases hcs : cs.isEmpty with
    | true =>
      refine ⟨0, pileD cs (at' + 1) rest, ?_, ⟨cs, at' + 1, _, rfl, by omega, by omega, hr0⟩, Int.le_refl _, h0⟩
      simp [stepG, pileD, e0, e1, e2, hr', setI, setIG, fd, md, x1, x2, l0, eqG_nil, hcs, noM]
    | false =>
      have hne : cs ≠ [] := fun z => by subst z; cases hcs
      have hl : 0 < cs.length := List.length_pos_iff.mpr hne
      obtain ⟨x, hx⟩ := at_mod hne (a := at')
      have ml : modG [.int at', .int (cs.length : Int)] = some (.int (at' % (cs.length : Int))) := modG_pos (by omega)
      have p18 : powG [.int 10, .int 18] = some (.int 1000000000000000000) := by rw [powG_ok (by decide) (by decide) (by decide)]; rfl
      have m2 : ∀ z, mulI [.int 2, .int z] = some (.int (2 * z)) := fun z => mulI_l (by decide)
      have hx0 : 0 ≤ (if x < 0 then -x else x) := by split <;> omega
      generalize hab : (if x < 0 then -x else x) = ab at hx0
      generalize hbb : (if x < 0 then (1 : Int) else 0) = bb
      have hb0 : 0 ≤ bb := by rw [← hbb]; split <;> omega
      by_cases hg : at' < (cs.length : Int) ∧ 1000000000000000000 ≤ ab
      · obtain ⟨g1, g2⟩ := hg
        have hz : 0 ≤ 2 * (ab - 1000000000000000000) + bb := by omega
        refine ⟨(2 * (ab - 1000000000000000000) + bb) % many, pileD cs (at' + 1) ((2 * (ab - 1000000000000000000) + bb).fdiv many), ?_, ⟨cs, at' + 1, _, rfl, by omega, by omega, Int.fdiv_nonneg hz (by omega)⟩, Int.emod_nonneg _ (by omega), Int.emod_lt_of_pos _ h0⟩
        simp [stepG, pileD, e0, e1, e2, hr', setI, setIG, fd, md, x1, x2, l0, eqG_nil, hcs, noM, ml, hx, p18, g1, g2, m2, hab, hbb]
      · have hat : at' ≤ 100000 := by omega
        have mM1 : modG [.int x, .int M1] = some (.int (x % M1)) := modG_pos hc.m1.1
        have mA : mulI [.int A, .int at'] = some (.int (A * at')) := mulI_l (by have := hc.a; omega)
        have b1 : 0 ≤ x % M1 ∧ x % M1 < 2 ^ 31 := ⟨Int.emod_nonneg _ (by have := hc.m1; omega), Int.lt_trans (Int.emod_lt_of_pos _ hc.m1.1) hc.m1.2⟩
        have b2 : 0 ≤ A * at' ∧ A * at' ≤ 2 ^ 20 * 100000 := ⟨Int.mul_nonneg hc.a.1 ha0, Int.mul_le_mul (Int.le_of_lt hc.a.2) hat ha0 (by decide)⟩
        have pw1 : powG [.int (x % M1 + A * at' + B), .int 5] = some (.int ((x % M1 + A * at' + B) ^ 5)) := powG_ok (by decide) (by decide) (by have := hc.b; omega)
        have mM2 : ∀ z, modG [.int z, .int M2] = some (.int (z % M2)) := fun z => modG_pos hc.m2.1
        have mM3 : ∀ z, modG [.int z, .int M3] = some (.int (z % M3)) := fun z => modG_pos hc.m3.1
        have b3 : 0 ≤ (x % M1 + A * at' + B) ^ 5 % M2 ∧ (x % M1 + A * at' + B) ^ 5 % M2 < 2 ^ 31 := ⟨Int.emod_nonneg _ (by have := hc.m2; omega), Int.lt_trans (Int.emod_lt_of_pos _ hc.m2.1) hc.m2.2⟩
        generalize hy : (x % M1 + A * at' + B) ^ 5 % M2 = y at b3
        have mY : ∀ z, mulI [.int y, .int z] = some (.int (y * z)) := fun z => mulI_l (by omega)
        have mD : mulI [.int D', .int at'] = some (.int (D' * at')) := mulI_l (by have := hc.d; omega)
        have b4 : 0 ≤ D' * at' ∧ D' * at' ≤ 2 ^ 20 * 100000 := ⟨Int.mul_nonneg hc.d.1 ha0, Int.mul_le_mul (Int.le_of_lt hc.d.2) hat ha0 (by decide)⟩
        have mD2 : mulI [.int (D' * at'), .int at'] = some (.int (D' * at' * at')) := mulI_l (by omega)
        have b5 : 0 ≤ D' * at' * at' ∧ D' * at' * at' ≤ 2 ^ 20 * 100000 * 100000 := ⟨Int.mul_nonneg b4.1 ha0, Int.mul_le_mul b4.2 hat ha0 (by decide)⟩
        have b6 : 0 ≤ y * (2 * at' + C) ∧ y * (2 * at' + C) ≤ 2 ^ 31 * (200000 + 2 ^ 20) := ⟨Int.mul_nonneg b3.1 (by have := hc.c; omega), Int.mul_le_mul (by omega) (by have := hc.c; omega) (by have := hc.c; omega) (by decide)⟩
        have pw2 : powG [.int (y * (2 * at' + C) + D' * at' * at' + A2), .int 3] = some (.int ((y * (2 * at' + C) + D' * at' * at' + A2) ^ 3)) := powG_ok (by decide) (by decide) (by have := hc.a2; omega)
        have f64 : ∀ z, fdivG [.int z, .int 64] = some (.int (z.fdiv 64)) := fun z => fdivG_ok (by decide) (by decide)
        refine ⟨(((y * (2 * at' + C) + D' * at' * at' + A2) ^ 3 % M3).fdiv 64) % many, pileD cs (at' + 1) rest, ?_, ⟨cs, at' + 1, _, rfl, by omega, by omega, hr0⟩, Int.emod_nonneg _ (by omega), Int.emod_lt_of_pos _ h0⟩
        by_cases g1 : at' < (cs.length : Int)
        · have g2 : ¬ 1000000000000000000 ≤ ab := fun z => hg ⟨g1, z⟩
          simp [stepG, pileD, e0, e1, e2, hr', setI, setIG, fd, md, x1, x2, l0, eqG_nil, hcs, noM, ml, hx, p18, g1, g2, m2, hab, hbb, mM1, mA, pw1, mM2, mM3, hy, mY, mD, mD2, pw2, f64]
        · simp [stepG, pileD, e0, e1, e2, hr', setI, setIG, fd, md, x1, x2, l0, eqG_nil, hcs, noM, ml, hx, p18, g1, m2, hab, hbb, mM1, mA, pw1, mM2, mM3, hy, mY, mD, mD2, pw2, f64]
noncomputable def pickG (F : List D → OF) : S → SO := (retM (op2 ixAG (gts 1) (callQ [some 0, none] F (consA (gts 0) (consA (apA lenBG (consA (gts 1) (pur []))) (pur []))))))
theorem atI_mem {α : Type} {xs : List α} {r : Int} (h0 : 0 ≤ r) (h1 : r < xs.length) : ∃ x, L2.atI xs r = some x ∧ x ∈ xs := by
  obtain ⟨k, rfl⟩ : ∃ k : Nat, r = k := ⟨r.toNat, by omega⟩
  have hk : k < xs.length := by omega
  exact ⟨xs[k], L2.atI_nat (List.getElem?_eq_getElem hk), List.getElem_mem hk⟩
/-- a draw of a number below many -/
def Draws (F : List D → OF) : Prop := ∀ (n : Nat) (d : D) (many : Int), Pile n d → n ≤ 100000 → 0 < many → many < 2 ^ 60 → ∃ r d', F [d, .int many] = .ok (.int r) [d'] ∧ Pile (n + 1) d' ∧ 0 ≤ r ∧ r < many
def Picks (F : List D → OF) : Prop := ∀ (n : Nat) (d : D) (ds : List D), Pile n d → n ≤ 100000 → ds ≠ [] → ds.length < 100000 → ∃ r d', F [d, .lst ds] = .ok r [d'] ∧ Pile (n + 1) d' ∧ r ∈ ds
theorem pickG_spec {F : List D → OF} (hF : Draws F) : Picks (runF 2 [.fr, .st] .st (pickG F)) := fun n d ds hp hn hne hl => by
  have hl0 : 0 < ds.length := List.length_pos_iff.mpr hne
  obtain ⟨r, d', e1, hp', h0, h1⟩ := hF n d (ds.length : Int) hp hn (by omega) (by omega)
  obtain ⟨x, hx, hm⟩ := atI_mem h0 h1
  refine ⟨x, d', ?_, hp', hm⟩
  have cw : callW [some 0, none] F [d, .int (ds.length : Int)] [some d, some (.lst ds)] = .ok (.int r) [some d', some (.lst ds)] := callW_ok (by simp [fillQ]) e1 (by simp [ioIx, setA])
  simp [pickG, cw, hx]
noncomputable def pileG : S → SO := (retM (apA lstG (consA (lcE (seqI (slM cutG (gts 0) (pur none) (prtS (pur (.int 60))))) (tgN 1) (pur true) (apA intG (consA (gts 1) (pur []))) [1]) (consA (pur (.int 0)) (consA (pur (.int 0)) (pur []))))))
end Vl

set_option Elab.async false
set_option linter.all false
set_option maxRecDepth 100000
set_option maxHeartbeats 4000000
set_option exponentiation.threshold 20000
/-! tools for the laws' own reckoning -/
namespace Vl
open PySem PySem.Spec L2 Pk
variable {s : S} {i j : Int} {a b : Bool}
/-- a call that changes what slot 1 owns -/
theorem callW1 {F : List D → OF} {P P' P1 d r : D} {x0 : Option D} {rest : S} (h : F [P, d] = .ok r [P1]) : callW [some 1, none] F [P', d] (x0 :: some P :: rest) = .ok r (x0 :: some P1 :: rest) :=
  callW_ok (by simp [fillQ]) h (by simp [ioIx, setA])
@[simp] theorem rngI3 : rng1G [.int 3] = some (stepsD 0 1 3) := by
  have := rng1_ok (n := 3) (by omega)
  exact this
theorem shaped_lay {p : PyData} (h : SeqAt.shaped p = true) : p.canLay0 = true := by
  simp only [SeqAt.shaped, Bool.and_eq_true] at h
  exact h.1
theorem eqG_refl {d : D} {p : PyData} (h : toPy d = some p) (hs : SeqAt.shaped p = true) : eqG [d, d] = some (.bl true) := by
  unfold eqG
  split
  · rename_i e; cases e; simp
  · rename_i e; cases e
    simp only [eqP, h, Option.bind_some, hs, and_self, if_true, Option.map_some]
    rw [PySem.SeqAt.eqv_refl p (shaped_lay hs)]
  · rename_i h1 h2; exact absurd rfl (h2 _ _)
theorem neG_refl {d : D} {p : PyData} (h : toPy d = some p) (hs : SeqAt.shaped p = true) : neG [d, d] = some (.bl false) := by
  unfold neG
  split
  · rename_i e; cases e; simp
  · rename_i e; cases e
    simp only [eqP, h, Option.bind_some, hs, and_self, if_true, Option.map_some]
    rw [PySem.SeqAt.eqv_refl p (shaped_lay hs)]; rfl
  · rename_i h1 h2; exact absurd rfl (h2 _ _)
@[simp] theorem neG_s {a b : Str} : neG [.str a, .str b] = some (.bl (!decide (a = b))) := rfl
@[simp] theorem eqG_s {a b : Str} : eqG [.str a, .str b] = some (.bl (decide (a = b))) := rfl
@[simp] theorem neG_b : neG [.bl a, .bl b] = some (.bl (a != b)) := by cases a <;> cases b <;> rfl
@[simp] theorem eqG_b : eqG [.bl a, .bl b] = some (.bl (a == b)) := by cases a <;> cases b <;> rfl
theorem tellsB_of {p : PyData} (T : Tells p) : tellsB p = true := by
  unfold tellsB
  have := T.ln
  rw [sizeLine_eq] at this
  simp [T.sh, T.dp, T.nd, this]
theorem frq_py (q : Rat) : toPy (frq q) = some (.tuple [.int q.num, .int q.den]) := rfl
theorem frq_shaped (q : Rat) : SeqAt.shaped (.tuple [.int q.num, .int q.den]) = true := by
  simp [SeqAt.shaped, PyData.canLay0, PyData.canLayAll0, PyData.depth, PyData.depthAll]
theorem tb_frq {q : Rat} (h : Sz q 1900) : Tb 1 4000 (.tuple [.int q.num, .int q.den]) := by
  have h1 : Tb 0 1925 (.int q.num) := Tb.int h.1
  have h2 : Tb 0 1925 (.int (q.den : Int)) := Tb.int (by rw [Int.natAbs_natCast]; exact h.2)
  have t : TbL 0 (1925 + (1925 + 0)) [.int q.num, .int (q.den : Int)] := .cons h1 (.cons h2 .nil)
  exact (Tb.tuple t).mono (by omega) (by omega)
theorem repr_ok {d : D} {p : PyData} (h : toPy d = some p) (T : Tells p) : reprG [d] = some (.str p.shown) := by
  simp only [reprG, h, Option.bind_some]
  exact if_pos (tellsB_of T)
theorem tells_two {q : Rat} (h : Sz q 1900) : Tells (.list [.tuple [.int q.num, .int q.den], .tuple [.int q.num, .int q.den]]) := by
  have t := tb_frq h
  have t2 : TbL 1 (4000 + (4000 + 0)) [.tuple [.int q.num, .int q.den], .tuple [.int q.num, .int q.den]] := .cons t (.cons t .nil)
  exact Tells.of (Tb.list t2) (by decide) (by decide)
theorem repr_two {q : Rat} (h : Sz q 1900) : reprG [.lst [frq q, frq q]] = some (.str (PyData.list [.tuple [.int q.num, .int q.den], .tuple [.int q.num, .int q.den]]).shown) := repr_ok rfl (tells_two h)
theorem sumG_ints (ns : List Int) : sumG [.lst (ns.map .int)] = some (.int ns.sum) := by
  simp only [sumG, intsG, toInts_map, Option.bind_some]
theorem pileG_spec {ns : List Int} : runF 2 (List.replicate 1 .st) .fr pileG [.lst (ns.map .int)] = .ok (pileD (ns.take 60) 0 0) [] := by
  have c : cutG (.lst (ns.map .int)) none (some 60) = some (.lst ((ns.take 60).map .int)) := by
    simp only [cutG, cutD, HT.sIx, List.drop_zero, Nat.sub_zero]
    congr 2
    rw [List.length_map, if_neg (by decide), List.map_take]
    show (ns.map D.int).take (min 60 ns.length) = _
    rw [List.take_eq_take_iff]
    simp
  have lc : lcE (seqI (slM cutG (gts 0) (pur none) (prtS (pur (.int 60))))) (tgN 1) (pur true) (apA intG (consA (gts 1) (pur []))) [1] [some (.lst (ns.map .int)), none] = .ok (.lst ((ns.take 60).map .int)) [some (.lst (ns.map .int)), none] := by
    refine lcE_ok' (ds := (ns.take 60).map .int) (by simp [c, itemsG]) ?_ (by rw [List.length_map, List.length_take]; omega)
    rw [show some ((ns.take 60).map D.int) = some (((ns.take 60).map D.int).map id) by rw [List.map_id]]
    refine lcP_map fun d hd => ?_
    obtain ⟨i, _, rfl⟩ := List.mem_map.mp hd
    simp [lc1]
  simp [pileG, lc, pileD, lstG]
theorem pile0 {cs : List Int} : Pile 0 (pileD cs 0 0) := ⟨cs, 0, 0, rfl, Int.le_refl _, Int.le_refl _, Int.le_refl _⟩
end Vl

set_option Elab.async false
set_option linter.all false
set_option maxRecDepth 100000
set_option maxHeartbeats 4000000
set_option exponentiation.threshold 20000
namespace Vl
open PySem PySem.Spec L2
def permK (l : List Nat) (n : Nat) (ds es : List D) : PM (List D) := fun s => if ds.length = n then .ok (pickN l (ds ++ es)) s else .no
@[simp] theorem permA_ap {l : List Nat} {n : Nat} {fl fk : PM (List D)} {s : S} : permA l n fl fk s = bd fl (fun ds => bd fk (permK l n ds)) s := rfl
@[simp] theorem permK_ap {l : List Nat} {n : Nat} {ds es : List D} {s : S} : permK l n ds es s = if ds.length = n then .ok (pickN l (ds ++ es)) s else .no := rfl
@[simp] theorem pickN_10 {a b : D} : pickN [1, 0] [a, b] = [b, a] := rfl
@[simp] theorem pickN_210 {a b c : D} : pickN [2, 1, 0] [a, b, c] = [c, b, a] := rfl
@[simp] theorem pickN_01 {a b : D} : pickN [0, 1] [a, b] = [a, b] := rfl
end Vl
/-! heaps: what the package's defs compute of them -/
namespace Pk
open PySem PySem.Spec L2 Vl
variable {i j : Int} {l : LI} {t : Nat}
abbrev mostC : Int := 1000000000000000000000000000000000000000000000000000000000000
/-- a pair, told as a tuple or as a list -/
def IsHp (d : D) (p : Int × Int) : Prop := d = .tup [.int p.1, .int p.2] ∨ d = .lst [.int p.1, .int p.2]
abbrev Hps : List D → LI → Prop := Paired IsHp
theorem Hps.len {ds : List D} (h : Hps ds l) : ds.length = l.length := Paired.length h
theorem hps_tup : ∀ l : LI, Hps (l.map pairI) l
  | [] => .nil
  | p :: l => .cons (.inl rfl) (hps_tup l)
theorem Hps.rev {ds : List D} (h : Hps ds l) : Hps ds.reverse l.reverse := by
  induction h with
  | nil => exact .nil
  | cons r t ih =>
    rw [List.reverse_cons, List.reverse_cons]
    have app : ∀ {a : List D} {b : LI}, Hps a b → ∀ {x y}, IsHp x y → Hps (a ++ [x]) (b ++ [y]) := by
      intro a b h
      induction h with
      | nil => intro x y r; exact .cons r .nil
      | cons r' t' ih' => intro x y r; exact .cons r' (ih' r)
    exact app ih r
theorem Hps.all {ds : List D} (h : Hps ds l) {P : D → Prop} (hp : ∀ d p, p ∈ l → IsHp d p → P d) : ∀ d ∈ ds, P d := by
  induction h with
  | nil => intro d hd; simp at hd
  | cons r t ih =>
    intro d hd
    rcases List.mem_cons.mp hd with e | e
    · subst e; exact hp _ _ List.mem_cons_self r
    · exact ih (fun d p hq => hp d p (List.mem_cons_of_mem _ hq)) d e
/-- heaps as they may stand -/
structure HpOk (l : LI) : Prop where
  nd : NdK l
  len : l.length ≤ 60
  spot : ∀ p ∈ l, -1000000 ≤ p.1 ∧ p.1 ≤ 1000000
  many : ∀ p ∈ l, 1 ≤ p.2 ∧ p.2 ≤ mostC
  col : ∀ p ∈ l, ∀ q ∈ l, p.1 % 2 = q.1 % 2
theorem HpOk.perm {l r : LI} (h : HpOk l) (p : r.Perm l) : HpOk r where
  nd := (p.map Prod.fst).nodup_iff.mpr h.nd
  len := by rw [p.length_eq]; exact h.len
  spot := fun q hq => h.spot q (p.mem_iff.mp hq)
  many := fun q hq => h.many q (p.mem_iff.mp hq)
  col := fun a ha b hb => h.col a (p.mem_iff.mp ha) b (p.mem_iff.mp hb)
@[simp] theorem isi2_l {ds : List D} : isi2G [.lst ds, .tup [.oth (.ty "list"), .oth (.ty "tuple")]] = some (.bl true) := rfl
@[simp] theorem isi2_t {ds : List D} : isi2G [.tup ds, .tup [.oth (.ty "list"), .oth (.ty "tuple")]] = some (.bl true) := rfl
theorem allG_true {α : Type} (xs : List α) : allG [.lst (xs.map fun _ => .bl true)] = some (.bl true) := by
  have e : toBls (xs.map fun _ => D.bl true) = some (xs.map fun _ => true) := by
    induction xs with
    | nil => rfl
    | cons x xs ih => simp [toBls, ih]
  simp only [allG, blsG, e, Option.bind_some]
  congr 2
  rw [List.all_map]
  simp
theorem two_ty : tupG [.oth (.ty "list"), .oth (.ty "tuple")] = some (.tup [.oth (.ty "list"), .oth (.ty "tuple")]) := rfl
theorem are_two {d : D} {p : Int × Int} (h : IsHp d p) : m_are_integers [d, .int 2] = .ok (.bl true) [] := by
  have lc : ∀ {s : S}, lcP (tgN 2) (pur true) (callM 1 m_is_integer (consA (gts 2) (pur []))) [s[0]?.join, some (.int 2), none] [D.int p.1, D.int p.2] = some ([D.int p.1, D.int p.2].map fun _ => D.bl true) := fun {s} => lcP_map fun e he => by
    simp only [List.mem_cons, List.not_mem_nil, or_false] at he
    rcases he with rfl | rfl <;> simp [lc1]
  have al : allG [.lst [D.bl true, D.bl true]] = some (.bl true) := allG_true [D.int p.1, D.int p.2]
  rcases h with rfl | rfl
  · have z := lcE_ok' (fi := seqI (gts 0)) (vs := [2]) (s := [some (.tup [.int p.1, .int p.2]), some (.int 2), none]) (s1 := [some (.tup [.int p.1, .int p.2]), some (.int 2), none]) (by simp [itemsG]) (lc (s := [some (.tup [.int p.1, .int p.2])])) (by simp)
    simp -implicitDefEqProofs [m_are_integers, g_are_integers, two_ty, z, al]
  · have z := lcE_ok' (fi := seqI (gts 0)) (vs := [2]) (s := [some (.lst [.int p.1, .int p.2]), some (.int 2), none]) (s1 := [some (.lst [.int p.1, .int p.2]), some (.int 2), none]) (by simp [itemsG]) (lc (s := [some (.lst [.int p.1, .int p.2])])) (by simp)
    simp -implicitDefEqProofs [m_are_integers, g_are_integers, two_ty, z, al]
theorem is_heap_eq {d : D} {p : Int × Int} (h : IsHp d p) (h1 : -1000000 ≤ p.1 ∧ p.1 ≤ 1000000) (h2 : 1 ≤ p.2 ∧ p.2 ≤ mostC) : m_is_heap [d] = .ok (.bl true) [] := by
  have a := are_two h
  have w1 : m_is_within [.int p.1, .int (-1000000), .int 1000000] = .ok (.bl true) [] := by rw [is_within_i]; simp [h1]
  have w2 : m_is_within [.int p.2, .int 1, .int mostC] = .ok (.bl true) [] := by rw [is_within_i]; simp [h2]
  have e0 : ∀ x y : D, L2.atI [x, y] 0 = some x := fun _ _ => rfl
  have e1 : ∀ x y : D, L2.atI [x, y] 1 = some y := fun _ _ => rfl
  rcases h with rfl | rfl <;> simp -implicitDefEqProofs [m_is_heap, g_is_heap, a, e0, e1, w1, w2]
/-- the heaps as a value: a list or a tuple -/
def IsHs (d : D) (l : LI) : Prop := ∃ ds, Hps ds l ∧ (d = .lst ds ∨ d = .tup ds)
theorem IsHs.items {d : D} (h : IsHs d l) : ∃ ds, Hps ds l ∧ itemsG d = some ds ∧ lenBG [d] = some (.int l.length) ∧ isi2G [d, .tup [.oth (.ty "list"), .oth (.ty "tuple")]] = some (.bl true) := by
  obtain ⟨ds, h, e⟩ := h
  refine ⟨ds, h, ?_⟩
  have hl := h.len
  rcases e with rfl | rfl <;> exact ⟨rfl, by rw [← hl]; rfl, rfl⟩
/-- over the heaps, by their pairs -/
theorem lcP_hps {tf : TF} {k : PM Bool} {fe : PM D} {b : S} {f : Int × Int → D} {ds : List D} (h : Hps ds l) (H : ∀ d p, p ∈ l → IsHp d p → lc1 tf k fe b d = some (some (f p))) : lcP tf k fe b ds = some (l.map f) := by
  induction h with
  | nil => rfl
  | cons r t ih =>
    rw [lcP_cons, H _ _ List.mem_cons_self r, ih fun d p hp => H d p (List.mem_cons_of_mem _ hp)]
    rfl
theorem tgT2_hp {d : D} {p : Int × Int} (h : IsHp d p) {i j : Nat} {s : S} : tgT [tgN i, tgN j] d s = some ((s.set i (some (.int p.1))).set j (some (.int p.2))) := by
  rcases h with rfl | rfl <;> simp
theorem map_spots (l : LI) : (l.map fun p => D.int p.1) = (l.map Prod.fst).map D.int := by rw [List.map_map]; rfl
theorem are_heaps_eq {d : D} (h : IsHs d l) (ok : HpOk l) : m_are_heaps [d] = .ok (.bl true) [] := by
  obtain ⟨ds, hp, e1, e2, e3⟩ := h.items
  have hl := hp.len
  have lc1 : lcE (seqI (gts 0)) (tgN 2) (pur true) (callM 1 m_is_heap (consA (gts 2) (pur []))) [2] [some d, none, none, none, none] = .ok (.lst (l.map fun _ => .bl true)) [some d, none, none, none, none] := by
    refine lcE_ok' (ds := ds) (by simp [e1]) (lcP_hps hp fun x p hpl hx => ?_) (by have := ok.len; omega)
    have z := is_heap_eq hx (ok.spot p hpl) (ok.many p hpl)
    simp -implicitDefEqProofs [Vl.lc1, z]
  have lc2 : lcE (seqI (gts 0)) (tgT [tgN 3, tgN 4]) (pur true) (gts 3) [3, 4] [some d, none, none, none, none] = .ok (.lst ((l.map Prod.fst).map D.int)) [some d, none, none, none, none] := by
    refine lcE_ok' (ds := ds) (by simp [e1]) (by rw [← map_spots]; exact lcP_hps hp fun x p hpl hx => by simp [Vl.lc1, tgT2_hp hx]) (by have := ok.len; omega)
  have al := allG_true l
  have ls := lenSetG_ok (ns := l.map Prod.fst) ok.nd (by have := ok.len; rw [List.length_map]; omega)
  have l60 : ¬ (60 : Int) < (l.length : Int) := by have := ok.len; omega
  have lb : lenBG [.lst ((l.map Prod.fst).map D.int)] = some (.int (l.length : Int)) := by simp
  have le : eqG [.int ((l.map Prod.fst).length : Int), .int (l.length : Int)] = some (.bl true) := by simp
  generalize D.lst ((l.map Prod.fst).map D.int) = L at lc2 ls lb
  simp -implicitDefEqProofs [m_are_heaps, g_are_heaps, two_ty, e2, e3, lc1, lc2, al, l60, ls, lb, le]
/-- kept: ascending -/
theorem kept_heaps_eq {d : D} (h : IsHs d l) (ok : HpOk l) : m_kept_heaps [d] = .ok (.tup ((srtP l).map pairI)) [] := by
  obtain ⟨ds, hp, e1, e2, e3⟩ := h.items
  have hl := hp.len
  have lc : lcE (seqI (gts 0)) (tgT [tgN 1, tgN 2]) (pur true) (apA tupG (consA (gts 1) (consA (gts 2) (pur [])))) [1, 2] [some d, none, none] = .ok (.lst (l.map pairI)) [some d, none, none] := by
    refine lcE_ok' (ds := ds) (by simp [e1]) (lcP_hps hp fun x p hpl hx => by simp [Vl.lc1, tgT2_hp hx, tupG_ok, pairI]) (by have := ok.len; omega)
  have st := sortedAG_p (ps := l)
  have tl : tupleG [.lst ((srtP l).map pairI)] = some (.tup ((srtP l).map pairI)) := rfl
  generalize D.tup ((srtP l).map pairI) = T at tl ⊢
  generalize D.lst ((srtP l).map pairI) = U at st tl
  simp -implicitDefEqProofs [m_kept_heaps, g_kept_heaps, lc, st, tl]
theorem need_heaps_eq {d : D} {x : Str} (h : IsHs d l) (ok : HpOk l) : m_need_heaps [d, .str x] = .ok (.tup ((srtP l).map pairI)) [] := by
  simp -implicitDefEqProofs [m_need_heaps, g_need_heaps, are_heaps_eq h ok, kept_heaps_eq h ok]
theorem isHs_prs (l : LI) : IsHs (.tup (l.map pairI)) l := ⟨_, hps_tup l, .inr rfl⟩
theorem spots_of_eq (l : LI) (hl : l.length ≤ 100000) : m_spots_of [.tup (l.map pairI)] = .ok (.lst ((l.map Prod.fst).map D.int)) [] := by
  have lc : lcE (seqI (gts 0)) (tgT [tgN 1, tgN 2]) (pur true) (gts 1) [1, 2] [some (.tup (l.map pairI)), none, none] = .ok (.lst ((l.map Prod.fst).map D.int)) [some (.tup (l.map pairI)), none, none] := by
    refine lcE_ok' (ds := l.map pairI) (by simp [itemsG]) (by rw [← map_spots]; exact lcP_hps (hps_tup l) fun x p hpl hx => by simp [Vl.lc1, tgT2_hp hx]) (by rw [List.length_map]; omega)
  simp -implicitDefEqProofs [m_spots_of, g_spots_of, lc]
theorem need_colour_eq {xs : List Int} (hl : xs.length ≤ 100000) (h : ∀ x ∈ xs, ∀ y ∈ xs, x % 2 = y % 2) : m_need_colour [.lst (xs.map D.int)] = .ok .non [] := by
  have md : ∀ z : Int, modG [.int z, .int 2] = some (.int (z % 2)) := fun z => modG_pos (by decide)
  have lc : lcE (seqI (gts 0)) (tgN 1) (pur true) (op2 eqG (op2 modG (gts 1) (pur (.int 2))) (callM 1 m_colour_in (consA (gts 0) (pur [])))) [1] [some (.lst (xs.map D.int)), none] = .ok (.lst ((xs.map D.int).map fun _ => .bl true)) [some (.lst (xs.map D.int)), none] := by
    refine lcE_ok' (ds := xs.map D.int) (by simp [itemsG]) (lcP_map fun e he => ?_) (by rw [List.length_map]; omega)
    obtain ⟨y, hy, rfl⟩ := List.mem_map.mp he
    cases xs with
    | nil => simp at hy
    | cons x xs =>
      have hc : y % 2 = x % 2 := h y hy x List.mem_cons_self
      have e0 : L2.atI (D.int x :: xs.map D.int) 0 = some (.int x) := by
        show L2.atI _ ((0 : Nat) : Int) = _
        exact L2.atI_nat rfl
      have ln : (0 : Int) < ((xs.length : Int) + 1) := by omega
      have ci : m_colour_in [.lst ((x :: xs).map D.int)] = .ok (.int (x % 2)) [] := by
        simp -implicitDefEqProofs [m_colour_in, g_colour_in, e0, md, ln]
      rw [List.map_cons] at ci
      simp -implicitDefEqProofs [Vl.lc1, md, ci, hc]
  have al := allG_true (xs.map D.int)
  generalize ((xs.map D.int).map fun _ => D.bl true) = bs at lc al
  simp -implicitDefEqProofs [m_need_colour, g_need_colour, lc, al]
/-! ### means -/
/-- 2 ** t times the mean of a spot -/
def SS (l : LI) (t : Nat) (x : Int) : Int := (l.map fun p => p.2 * wk t (x - p.1)).sum
theorem sum_perm {a b : List Int} (h : a.Perm b) : a.sum = b.sum := by
  induction h with
  | nil => rfl
  | cons x _ ih => rw [List.sum_cons, List.sum_cons, ih]
  | swap x y l => simp only [List.sum_cons]; omega
  | trans _ _ h1 h2 => exact h1.trans h2
theorem SS_perm {l r : LI} (h : l.Perm r) (t : Nat) (x : Int) : SS l t x = SS r t x := sum_perm (h.map _)
theorem log_lt {n k : Nat} (h : n < 2 ^ k) (h0 : 0 < k) : n.log2 < k := by
  by_cases z : n = 0
  · subst z; exact h0
  · exact (Nat.log2_lt z).mpr h
theorem mostC_lt : mostC.natAbs < 2 ^ 200 := by decide +kernel
theorem wk_log {t : Nat} (ht : t ≤ 400) (x : Int) : (wk t x).natAbs.log2 < 401 := by
  refine log_lt ?_ (by decide)
  have h1 := wk_nonneg t x
  have h2 := wk_le t x
  have h3 : (2 : Int) ^ t = ((2 ^ t : Nat) : Int) := by simp
  have h4 : 2 ^ t ≤ 2 ^ 400 := Nat.pow_le_pow_right (by decide) ht
  have h5 : (2 : Nat) ^ 400 < 2 ^ 401 := Nat.pow_lt_pow_right (by decide) (by decide)
  rw [h3] at h2
  generalize (2 : Nat) ^ t = A at *
  generalize (2 : Nat) ^ 400 = B at *
  generalize (2 : Nat) ^ 401 = C at *
  omega
/-- the mean of a spot -/
def mn (l : LI) (t : Nat) (x : Int) : Rat := Rat.divInt (SS l t x) (2 ^ t)
theorem mean_in_eq {x : Int} (ht : t ≤ 400) (hl : l.length ≤ 1000) (hm : ∀ p ∈ l, 0 ≤ p.2 ∧ p.2 ≤ mostC) : m_mean_in [.tup (l.map pairI), .int x, .int t] = .ok (frq (mn l t x)) [] := by
  have lc : lcE (seqI (gts 0)) (tgT [tgN 4, tgN 5]) (pur true) (op2 mulI (gts 5) (callM 2 m_rows_to (consA (op2 subG (gts 1) (gts 4)) (consA (gts 2) (pur []))))) [4, 5] [some (.tup (l.map pairI)), some (.int x), some (.int t), none, none, none] = .ok (.lst ((l.map fun p => p.2 * wk t (x - p.1)).map D.int)) [some (.tup (l.map pairI)), some (.int x), some (.int t), none, none, none] := by
    refine lcE_ok' (ds := l.map pairI) (by simp [itemsG]) ?_ (by rw [List.length_map]; omega)
    rw [List.map_map]
    refine lcP_hps (hps_tup l) fun d p hp hd => ?_
    have r := rows_to_eq (x := x - p.1) (t := t) (by omega)
    have h2 : p.2.natAbs.log2 < 200 := by
      refine log_lt ?_ (by decide)
      have := hm p hp
      have := mostC_lt
      generalize (2 : Nat) ^ 200 = C at *
      omega
    have mu : mulI [.int p.2, .int (wk t (x - p.1))] = some (.int (p.2 * wk t (x - p.1))) := mulI_w (by have := wk_log ht (x - p.1); omega)
    simp -implicitDefEqProofs [Vl.lc1, tgT2_hp hd, r, mu]
  have sm := sumG_ints (l.map fun p => p.2 * wk t (x - p.1))
  have s1 : shlG [.int 1, .int (t : Int)] = some (.int (2 ^ t)) := by rw [shlG_1 (by omega) (by omega)]; rfl
  have lp := least_pair_eq (u := SS l t x) (d := 2 ^ t) (Int.pow_pos (by decide)) (pow2_lt ht)
  have e : (l.map fun p => p.2 * wk t (x - p.1)).sum = SS l t x := rfl
  rw [e] at sm
  generalize ((l.map fun p => p.2 * wk t (x - p.1)).map D.int) = L at lc sm
  simp -implicitDefEqProofs [m_mean_in, g_mean_in, lc, sm, s1, lp, mn]
/-! what is reached -/
def insK (acc : List Int) (x : Int) : List Int := if x ∈ acc then acc else acc ++ [x]
def uniq (xs : List Int) : List Int := xs.foldl insK []
def kT (x : Int) : Key × D := (.inl x, .bl true)
theorem kput_kT {ks : List Int} {x : Int} : kput (ks.map kT) (.inl x) (.bl true) = (insK ks x).map kT := by
  have h1 : ((ks.map kT).any fun p => decide (p.1 = (Sum.inl x : Key))) = true ↔ x ∈ ks := by
    simp [kT, List.any_eq_true]
  unfold kput insK
  by_cases h : x ∈ ks
  · rw [if_pos h, if_pos (h1.mpr h), List.map_map]
    refine List.map_congr_left fun y _ => ?_
    simp only [Function.comp, kT]
    exact ite_self _
  · rw [if_neg h, if_neg (fun w => h (h1.mp w))]
    simp [kT]
theorem merge_kT : ∀ (xs ks : List Int), mergeD (ks.map kT) (xs.map kT) = (xs.foldl insK ks).map kT
  | [], _ => rfl
  | x :: xs, ks => by
    have e : mergeD (ks.map kT) ((x :: xs).map kT) = mergeD (kput (ks.map kT) (.inl x) (.bl true)) (xs.map kT) := rfl
    rw [e, kput_kT, merge_kT xs]; rfl
theorem mem_fold {y : Int} : ∀ (xs ks : List Int), y ∈ xs.foldl insK ks ↔ y ∈ ks ∨ y ∈ xs
  | [], ks => by simp
  | x :: xs, ks => by
    rw [List.foldl_cons, mem_fold xs]
    unfold insK
    split
    · rename_i h
      rw [List.mem_cons]
      constructor
      · rintro (h | h)
        · exact .inl h
        · exact .inr (.inr h)
      · rintro (h' | rfl | h')
        · exact .inl h'
        · exact .inl h
        · exact .inr h'
    · rw [List.mem_append, List.mem_singleton, List.mem_cons, or_assoc]
theorem nd_fold : ∀ (xs ks : List Int), ks.Nodup → (xs.foldl insK ks).Nodup
  | [], _, h => h
  | x :: xs, ks, h => by
    rw [List.foldl_cons]
    refine nd_fold xs _ ?_
    unfold insK
    split
    · exact h
    · rename_i hx
      rw [List.nodup_append]
      exact ⟨h, by simp, fun a ha b hb => by rw [List.mem_singleton] at hb; subst hb; exact fun e => hx (e ▸ ha)⟩
theorem uniq_nd (xs : List Int) : (uniq xs).Nodup := nd_fold xs [] List.nodup_nil
theorem mem_uniq {xs : List Int} {y : Int} : y ∈ uniq xs ↔ y ∈ xs := by
  unfold uniq; rw [mem_fold]; simp
theorem keysI_kT : ∀ ks : List Int, keysI (ks.map kT) = some ks
  | [] => rfl
  | k :: ks => by
    show (keysI (ks.map kT)).map (k :: ·) = _
    rw [keysI_kT ks]; rfl
/-- all that a chip may come to -/
def goesTo (t : Nat) (p : Int × Int) : List Int := (List.range (t + 1)).map fun (k : Nat) => p.1 + (-(t : Int) + (k : Int) * 2)
def spts (l : LI) (t : Nat) : List Int := srtL (uniq (l.flatMap (goesTo t)))
theorem srtL_perm (xs : List Int) : (srtL xs).Perm xs := List.mergeSort_perm xs _
theorem srtL_sorted (xs : List Int) : (srtL xs).Pairwise (· ≤ ·) := by
  have z := List.pairwise_mergeSort (le := fun a b : Int => decide (a ≤ b)) (fun a b c h1 h2 => by simp at *; omega) (fun a b => by simp; omega) xs
  exact z.imp fun h => by simpa using h
theorem mem_goes {p : Int × Int} {y : Int} : y ∈ goesTo t p ↔ ∃ k : Nat, k ≤ t ∧ y = p.1 - t + 2 * k := by
  unfold goesTo
  rw [List.mem_map]
  constructor
  · rintro ⟨k, hk, rfl⟩
    exact ⟨k, by have := List.mem_range.mp hk; omega, by omega⟩
  · rintro ⟨k, hk, rfl⟩
    exact ⟨k, List.mem_range.mpr (by omega), by omega⟩
theorem mem_spts {y : Int} : y ∈ spts l t ↔ ∃ p ∈ l, ∃ k : Nat, k ≤ t ∧ y = p.1 - t + 2 * k := by
  unfold spts
  rw [(srtL_perm _).mem_iff, mem_uniq, List.mem_flatMap]
  simp only [mem_goes]
theorem spts_nd : (spts l t).Nodup := (srtL_perm _).nodup_iff.mpr (uniq_nd _)
theorem spts_sorted : (spts l t).Pairwise (· ≤ ·) := srtL_sorted _
theorem rng3_ok (h : t ≤ 1000) : rng3G [.int (-(t : Int)), .int ((t : Int) + 1), .int 2] = some (stepsD (-(t : Int)) 2 (t + 1)) := by
  have sz : Builtin.Range.rangeSize (-(t : Int)) ((t : Int) + 1) 2 = (t : Int) + 1 := by
    unfold Builtin.Range.rangeSize
    rw [if_pos (by decide), if_pos (by omega)]
    omega
  have sm : Builtin.Range.small (-(t : Int)) ((t : Int) + 1) 2 = true := by
    have f : ∀ z : Int, -100000 ≤ z → z ≤ 100000 → Builtin.Range.rangeFitsLong z = true := fun z h1 h2 => by
      unfold Builtin.Range.rangeFitsLong
      simp only [Bool.and_eq_true, decide_eq_true_eq]
      omega
    unfold Builtin.Range.small
    rw [sz, f _ (by omega) (by omega), f _ (by omega) (by omega), f 2 (by decide) (by decide), if_pos (by decide), f _ (by omega) (by omega)]
    simp
  have e : rng3G [.int (-(t : Int)), .int ((t : Int) + 1), .int 2] = if (2 : Int) ≠ 0 ∧ (2 : Int).natAbs < 1073741824 ∧ Builtin.Range.small (-(t : Int)) ((t : Int) + 1) 2 = true ∧ 0 ≤ Builtin.Range.rangeSize (-(t : Int)) ((t : Int) + 1) 2 then some (stepsD (-(t : Int)) 2 (rngN (-(t : Int)) ((t : Int) + 1) 2)) else none := rfl
  rw [e, if_pos ⟨by decide, by decide, sm, by rw [sz]; omega⟩]
  unfold rngN
  rw [sz]
  congr 2
theorem dcP_map {tf : TF} {k : PM Bool} {fk fv : PM D} {b : S} {h : D → Key × D} : ∀ {ds : List D}, (∀ d ∈ ds, ∃ s1 s2 s3 s4 y, tf d b = some s1 ∧ k s1 = .ok true s2 ∧ fk s2 = .ok y s3 ∧ kof y = some (h d).1 ∧ fv s3 = .ok (h d).2 s4) → dcP tf k fk fv b ds = some (ds.map h)
  | [], _ => rfl
  | d :: ds, H => by
    obtain ⟨s1, s2, s3, s4, y, e1, e2, e3, e4, e5⟩ := H d List.mem_cons_self
    unfold dcP
    rw [e1]; dsimp only
    rw [e2]; dsimp only
    rw [e3]; dsimp only
    rw [e4, e5]
    show (dcP tf k fk fv b ds).map _ = _
    rw [dcP_map fun d' hd => H d' (List.mem_cons_of_mem _ hd)]
    rfl
theorem dcP2_hps {tf : TF} {k : PM Bool} {fi1 : PM (List D)} {tf1 : TF} {k1 : PM Bool} {fk fv : PM D} {vs1 : List Nat} {b : S} {h : Int × Int → List (Key × D)} {ds : List D} (hp : Hps ds l)
    (H : ∀ d p, p ∈ l → IsHp d p → ∃ s1 s2 s3 es, tf d b = some s1 ∧ k s1 = .ok true s2 ∧ fi1 s2 = .ok es s3 ∧ dcP tf1 k1 fk fv (wipeS s3 vs1) es = some (h p)) : dcP2 tf k fi1 tf1 k1 fk fv vs1 b ds = some (l.flatMap h) := by
  induction hp with
  | nil => rfl
  | cons r t ih =>
    obtain ⟨s1, s2, s3, es, e1, e2, e3, e4⟩ := H _ _ List.mem_cons_self r
    unfold dcP2
    rw [e1]; dsimp only
    rw [e2]; dsimp only
    rw [e3]; dsimp only
    rw [e4]; dsimp only
    rw [ih fun d p hp => H d p (List.mem_cons_of_mem _ hp)]
    rfl
theorem reached_eq (ht : t ≤ 400) (hl : l.length ≤ 1000) : m_reached [.tup (l.map pairI), .int t] = .ok (.lst ((spts l t).map D.int)) [] := by
  have r3 := rng3_ok (t := t) (by omega)
  have flat : l.flatMap (fun p => (goesTo t p).map kT) = (l.flatMap (goesTo t)).map kT := by rw [List.map_flatMap]
  have dc : dcE2 (seqI (gts 0)) (tgT [tgN 2, tgN 3]) (pur true) (rngI rng3G (consA (op1 negG (gts 1)) (consA (op2 addG (gts 1) (pur (.int 1))) (consA (pur (.int 2)) (pur []))))) (tgN 4) (pur true) (op2 addG (gts 2) (gts 4)) (pur (.bl true)) [2, 3, 4] [4] [some (.tup (l.map pairI)), some (.int t), none, none, none] = .ok (.dk ((uniq (l.flatMap (goesTo t))).map kT)) [some (.tup (l.map pairI)), some (.int t), none, none, none] := by
    have e := dcP2_hps (tf := tgT [tgN 2, tgN 3]) (k := pur true) (fi1 := rngI rng3G (consA (op1 negG (gts 1)) (consA (op2 addG (gts 1) (pur (.int 1))) (consA (pur (.int 2)) (pur []))))) (tf1 := tgN 4) (k1 := pur true) (fk := op2 addG (gts 2) (gts 4)) (fv := pur (.bl true)) (vs1 := [4]) (b := [some (.tup (l.map pairI)), some (.int t), none, none, none]) (h := fun p => (goesTo t p).map kT) (hps_tup l) (fun d p hp hd => by
      refine ⟨_, _, [some (.tup (l.map pairI)), some (.int t), some (.int p.1), some (.int p.2), none], stepsD (-(t : Int)) 2 (t + 1), tgT2_hp hd, rfl, by simp [r3], ?_⟩
      have z : (goesTo t p).map kT = (stepsD (-(t : Int)) 2 (t + 1)).map fun d => match d with | .int z => kT (p.1 + z) | _ => kT 0 := by
        unfold goesTo stepsD
        rw [List.map_map, List.map_map]
        rfl
      rw [z]
      refine dcP_map fun d hd => ?_
      unfold stepsD at hd
      obtain ⟨k, hk, rfl⟩ := List.mem_map.mp hd
      exact ⟨_, _, _, _, _, tgN_ap, rfl, by simp; exact ⟨rfl, rfl⟩, rfl, rfl⟩)
    rw [flat] at e
    have hlen : ((l.flatMap (goesTo t)).map kT).length ≤ 1000000 := by
      rw [List.length_map]
      have h1 : ∀ m : LI, (m.flatMap (goesTo t)).length = m.length * (t + 1) := by
        intro m
        induction m with
        | nil => simp
        | cons p m ih => rw [List.flatMap_cons, List.length_append, ih, List.length_cons, Nat.succ_mul]; simp [goesTo]; omega
      rw [h1]
      have := Nat.mul_le_mul hl (show t + 1 ≤ 401 by omega)
      omega
    have e' : dcP2 (tgT [tgN 2, tgN 3]) (pur true) (rngI rng3G (consA (op1 negG (gts 1)) (consA (op2 addG (gts 1) (pur (.int 1))) (consA (pur (.int 2)) (pur []))))) (tgN 4) (pur true) (op2 addG (gts 2) (gts 4)) (pur (.bl true)) [4] (wipeS [some (.tup (l.map pairI)), some (.int t), none, none, none] [2, 3, 4]) (l.map pairI) = some ((l.flatMap (goesTo t)).map kT) := e
    have i0 : seqI (gts 0) [some (.tup (l.map pairI)), some (.int t), none, none, none] = .ok (l.map pairI) [some (.tup (l.map pairI)), some (.int t), none, none, none] := by simp [itemsG]
    unfold dcE2
    rw [i0]; dsimp only
    rw [e']; dsimp only
    rw [if_pos hlen]
    have mg := merge_kT (l.flatMap (goesTo t)) []
    rw [List.map_nil] at mg
    rw [mg]; rfl
  have st : sortedAG [.dk ((uniq (l.flatMap (goesTo t))).map kT)] = some (.lst ((spts l t).map D.int)) := by
    simp only [sortedAG, keysI_kT]
    rfl
  generalize D.dk ((uniq (l.flatMap (goesTo t))).map kT) = K at dc st
  generalize D.lst ((spts l t).map D.int) = L at st ⊢
  simp -implicitDefEqProofs [m_reached, g_reached, dc, st]
/-! ### means of any heaps -/
theorem spts_perm {r : LI} (h : l.Perm r) : spts l t = spts r t := by
  refine srtL_uniq ((srtL_perm _).trans ?_) (srtL_sorted _)
  refine (List.perm_ext_iff_of_nodup (uniq_nd _) (uniq_nd _)).mpr fun y => ?_
  rw [mem_uniq, mem_uniq, List.mem_flatMap, List.mem_flatMap]
  exact ⟨fun ⟨p, hp, e⟩ => ⟨p, h.mem_iff.mp hp, e⟩, fun ⟨p, hp, e⟩ => ⟨p, h.mem_iff.mpr hp, e⟩⟩
theorem mn_perm {r : LI} (h : l.Perm r) (x : Int) : mn l t x = mn r t x := by unfold mn; rw [SS_perm h]
theorem ch_pos : ∀ (n k : Nat), k ≤ n → 0 < ch n k
  | n, 0, _ => by rw [ch_zero]; decide
  | 0, k + 1, h => by omega
  | n + 1, k + 1, h => by
    have h1 := ch_pos n k (by omega)
    have h2 := ch_nonneg n (k + 1)
    show 0 < ch n k + ch n (k + 1)
    omega
theorem sum_pos {α : Type} (f : α → Int) : ∀ (xs : List α), (∀ x ∈ xs, 0 ≤ f x) → (∃ x ∈ xs, 0 < f x) → 0 < (xs.map f).sum
  | [], _, ⟨x, h, _⟩ => by simp at h
  | y :: ys, h, ⟨x, hx, hp⟩ => by
    rw [List.map_cons, List.sum_cons]
    have h0 : ∀ (zs : List α), (∀ x ∈ zs, 0 ≤ f x) → 0 ≤ (zs.map f).sum := by
      intro zs
      induction zs with
      | nil => intro _; exact Int.le_refl _
      | cons z zs ih => intro hz; rw [List.map_cons, List.sum_cons]; have := hz z List.mem_cons_self; have := ih fun x hx => hz x (List.mem_cons_of_mem _ hx); omega
    rcases List.mem_cons.mp hx with e | e
    · subst e
      have := h0 ys fun x hx => h x (List.mem_cons_of_mem _ hx)
      omega
    · have := sum_pos f ys (fun x hx => h x (List.mem_cons_of_mem _ hx)) ⟨x, e, hp⟩
      have := h y List.mem_cons_self
      omega
theorem SS_pos {x : Int} (hm : ∀ p ∈ l, 1 ≤ p.2) (hx : x ∈ spts l t) : 0 < SS l t x := by
  refine sum_pos _ l (fun p hp => Int.mul_nonneg (by have := hm p hp; omega) (wk_nonneg _ _)) ?_
  obtain ⟨p, hp, k, hk, rfl⟩ := mem_spts.mp hx
  refine ⟨p, hp, Int.mul_pos (by have := hm p hp; omega) ?_⟩
  have e : p.1 - (t : Int) + 2 * k - p.1 = 2 * k - t := by omega
  rw [e, wk_ch]
  exact ch_pos t k hk
theorem mn_ne {x : Int} (h : 0 < SS l t x) : mn l t x ≠ 0 := by
  intro e
  have h2 : (mn l t x).num = 0 := by rw [e]; rfl
  unfold mn at h2
  rw [Rat.num_divInt] at h2
  have hp : (0 : Int) < 2 ^ t := Int.pow_pos (by decide)
  rw [Int.sign_eq_one_of_pos hp, Int.one_mul] at h2
  have dv : (Int.gcd (2 ^ t) (SS l t x) : Int) ∣ SS l t x := Int.gcd_dvd_right ..
  have := Int.ediv_mul_cancel dv
  rw [h2, Int.zero_mul] at this
  omega
theorem ne_nought {q : Rat} (h : q ≠ 0) : neG [frq q, .tup [.int 0, .int 1]] = some (.bl true) := by
  have hn : q.num ≠ 0 := fun e => h (Rat.num_eq_zero.mp e)
  have e : eqP (frq q) (.tup [.int 0, .int 1]) = some false := by
    have s1 : SeqAt.shaped (.tuple [.int q.num, .int q.den]) = true := frq_shaped q
    have s2 : SeqAt.shaped (.tuple [.int 0, .int 1]) = true := rfl
    have p2 : toPy (.tup [.int 0, .int 1]) = some (.tuple [.int 0, .int 1]) := rfl
    simp only [eqP, frq_py, p2, Option.bind_some, s1, s2, and_self, if_true]
    congr 1
    simp [PyData.eqv, PyData.eqvAll, hn]
  unfold frq at e ⊢
  simp only [neG, e, Option.map_some]
  rfl
def rowD (l : LI) (t : Nat) (x : Int) : D := .tup [.int x, frq (mn l t x)]
theorem means_eq {d : D} (h : IsHs d l) (ok : HpOk l) (ht : t ≤ 200) : m_means [d, .int t] = .ok (.tup ((spts l t).map (rowD l t))) [] := by
  have hK := srtP_perm l
  have okK := ok.perm hK
  have nh := need_heaps_eq (x := "heaps") h ok
  have nn := need_number_i (i := (t : Int)) (x := "ticks") (lo := 0) (hi := 200) (by omega) (by omega)
  have so := spots_of_eq (srtP l) (by have := okK.len; omega)
  have nc := need_colour_eq (xs := (srtP l).map Prod.fst) (by rw [List.length_map]; have := okK.len; omega) fun x hx y hy => by
    obtain ⟨p, hp, rfl⟩ := List.mem_map.mp hx
    obtain ⟨q, hq, rfl⟩ := List.mem_map.mp hy
    exact okK.col p hp q hq
  have rc := reached_eq (l := srtP l) (t := t) (by omega) (by have := okK.len; omega)
  rw [spts_perm hK] at rc
  have sl : (spts l t).length ≤ 1000000 := by
    have h1 : ∀ m : LI, (m.flatMap (goesTo t)).length = m.length * (t + 1) := by
      intro m
      induction m with
      | nil => simp
      | cons p m ih => rw [List.flatMap_cons, List.length_append, ih, List.length_cons, Nat.succ_mul]; simp [goesTo]; omega
    have h2 : ∀ (xs ks : List Int), (xs.foldl insK ks).length ≤ ks.length + xs.length := by
      intro xs
      induction xs with
      | nil => intro ks; exact Nat.le_refl _
      | cons x xs ih =>
        intro ks
        rw [List.foldl_cons]
        have := ih (insK ks x)
        have h3 : (insK ks x).length ≤ ks.length + 1 := by
          unfold insK; split
          · omega
          · simp
        rw [List.length_cons]; omega
    have h4 := h2 (l.flatMap (goesTo t)) []
    have h5 : (spts l t).length = (uniq (l.flatMap (goesTo t))).length := (srtL_perm _).length_eq
    rw [h1] at h4
    have := Nat.mul_le_mul ok.len (show t + 1 ≤ 201 by omega)
    unfold uniq at h5
    rw [List.length_nil, Nat.zero_add] at h4
    omega
  have lc1 : lcE (seqI (callM 2 m_reached (consA (gts 2) (consA (gts 1) (pur []))))) (tgN 4) (pur true) (apA tupG (consA (gts 4) (consA (callM 3 m_mean_in (consA (gts 2) (consA (gts 4) (consA (gts 1) (pur []))))) (pur [])))) [4] [some d, some (.int t), some (.tup ((srtP l).map pairI)), none, none, none] = .ok (.lst ((spts l t).map (rowD l t))) [some d, some (.int t), some (.tup ((srtP l).map pairI)), none, none, none] := by
    refine lcE_ok' (ds := (spts l t).map D.int) (by simp -implicitDefEqProofs [rc, itemsG]) ?_ (by rw [List.length_map]; exact sl)
    have e : (spts l t).map (rowD l t) = ((spts l t).map D.int).map fun d => match d with | .int z => rowD l t z | _ => .non := by rw [List.map_map]; rfl
    rw [e]
    refine lcP_map fun x hx => ?_
    obtain ⟨z, hz, rfl⟩ := List.mem_map.mp hx
    have mi := mean_in_eq (l := srtP l) (t := t) (x := z) (by omega) (by have := okK.len; omega) fun p hp => by have := okK.many p hp; omega
    rw [mn_perm hK] at mi
    simp -implicitDefEqProofs [Vl.lc1, mi, tupG_ok, rowD]
  have lc2 : lcE (seqI (gts 3)) (tgT [tgN 4, tgN 5]) (tru (op2 neG (gts 5) (pur (.tup [(.int 0), (.int 1)])))) (apA tupG (consA (gts 4) (consA (gts 5) (pur [])))) [4, 5] [some d, some (.int t), some (.tup ((srtP l).map pairI)), some (.lst ((spts l t).map (rowD l t))), none, none] = .ok (.lst ((spts l t).map (rowD l t))) [some d, some (.int t), some (.tup ((srtP l).map pairI)), some (.lst ((spts l t).map (rowD l t))), none, none] := by
    refine lcE_ok' (ds := (spts l t).map (rowD l t)) (by simp [itemsG]) ?_ (by rw [List.length_map]; exact sl)
    have e := lcP_map (tf := tgT [tgN 4, tgN 5]) (k := tru (op2 neG (gts 5) (pur (.tup [(.int 0), (.int 1)])))) (fe := apA tupG (consA (gts 4) (consA (gts 5) (pur [])))) (b := wipeS [some d, some (.int t), some (.tup ((srtP l).map pairI)), some (.lst ((spts l t).map (rowD l t))), none, none] [4, 5]) (h := fun d => d) (ds := (spts l t).map (rowD l t)) fun x hx => by
      obtain ⟨z, hz, rfl⟩ := List.mem_map.mp hx
      have ne := ne_nought (mn_ne (SS_pos (fun p hp => (ok.many p hp).1) hz))
      simp -implicitDefEqProofs [Vl.lc1, ne, tupG_ok, rowD]
    rwa [List.map_id'] at e
  have tl : tupleG [.lst ((spts l t).map (rowD l t))] = some (.tup ((spts l t).map (rowD l t))) := rfl
  generalize D.tup ((spts l t).map (rowD l t)) = T at tl ⊢
  generalize D.lst ((spts l t).map (rowD l t)) = U at lc1 lc2 tl
  generalize D.tup ((srtP l).map pairI) = K at *
  generalize ((srtP l).map Prod.fst).map D.int = C at so nc
  simp -implicitDefEqProofs [m_means, g_means, nh, nn, so, nc, lc1, lc2, tl]
theorem need_any {x : Str} : m_need_number [.int i, .str x, .non, .non] = .ok .non [] := by
  simp [m_need_number, g_need_number, m_is_within, g_is_within]
theorem mean_at_eq {d : D} {x : Int} (h : IsHs d l) (ok : HpOk l) (ht : t ≤ 200) : m_mean_at [d, .int x, .int t] = .ok (frq (mn l t x)) [] := by
  have hK := srtP_perm l
  have okK := ok.perm hK
  have nh := need_heaps_eq (x := "heaps") h ok
  have n0 := need_any (i := x) (x := "spot")
  have nn := need_number_i (i := (t : Int)) (x := "ticks") (lo := 0) (hi := 200) (by omega) (by omega)
  have so := spots_of_eq (srtP l) (by have := okK.len; omega)
  have nc := need_colour_eq (xs := (srtP l).map Prod.fst) (by rw [List.length_map]; have := okK.len; omega) fun x hx y hy => by
    obtain ⟨p, hp, rfl⟩ := List.mem_map.mp hx
    obtain ⟨q, hq, rfl⟩ := List.mem_map.mp hy
    exact okK.col p hp q hq
  have mi := mean_in_eq (l := srtP l) (t := t) (x := x) (by omega) (by have := okK.len; omega) fun p hp => by have := okK.many p hp; omega
  rw [mn_perm hK] at mi
  generalize D.tup ((srtP l).map pairI) = K at *
  generalize ((srtP l).map Prod.fst).map D.int = C at so nc
  simp -implicitDefEqProofs [m_mean_at, g_mean_at, nh, n0, nn, so, nc, mi]
end Pk

set_option Elab.async false
set_option linter.all false
set_option maxRecDepth 100000
set_option maxHeartbeats 4000000
/-! what the defs of lines compute: starts, sending on, a tick, a line behind some ticks, gaps -/
namespace Pk
open PySem PySem.Spec L2 Vl
/-! ### sums over heaps -/
def LS (h : Int → Int) (l : LI) : Int := (l.map fun p => p.2 * h p.1).sum
theorem LS_cons {h : Int → Int} {p : Int × Int} {l : LI} : LS h (p :: l) = p.2 * h p.1 + LS h l := by simp [LS]
theorem LS_perm {h : Int → Int} {l r : LI} (p : l.Perm r) : LS h l = LS h r := sum_perm (p.map _)
theorem LS_app {h : Int → Int} : ∀ {l r : LI}, LS h (l ++ r) = LS h l + LS h r := by
  intro l r; simp [LS, List.sum_append]
theorem LS_delta {z : Int} : ∀ {l : LI}, LS (fun y => if y = z then 1 else 0) l = lval l z
  | [] => rfl
  | p :: l => by
    rw [LS_cons, LS_delta, lval]
    split <;> simp
theorem LS_filter {h : Int → Int} : ∀ {l : LI}, (∀ p ∈ l, 0 ≤ p.2) → LS h (l.filter fun p => decide (0 < p.2)) = LS h l
  | [], _ => rfl
  | p :: l, hp => by
    have h0 := hp p List.mem_cons_self
    have ih := LS_filter (h := h) (l := l) fun q hq => hp q (List.mem_cons_of_mem _ hq)
    rw [List.filter_cons]
    split
    · rw [LS_cons, LS_cons, ih]
    · rename_i hn
      have : p.2 = 0 := by simp at hn; omega
      rw [LS_cons, ih, this]; simp
theorem repl_none {z w : Int} : ∀ {l : LI}, z ∉ l.map Prod.fst → l.map (fun p => if p.1 = z then (p.1, w) else p) = l
  | [], _ => rfl
  | p :: l, h => by
    rw [List.map_cons, List.mem_cons] at h
    rw [List.map_cons, repl_none fun m => h (.inr m), if_neg fun e => h (.inl e.symm)]
theorem LS_repl {h : Int → Int} {z w : Int} : ∀ {l : LI}, NdK l → z ∈ l.map Prod.fst → LS h (l.map fun p => if p.1 = z then (p.1, w) else p) = LS h l + (w - lval l z) * h z
  | [], _, m => by simp at m
  | p :: l, nd, m => by
    rw [NdK, List.map_cons, List.nodup_cons] at nd
    rw [List.map_cons, LS_cons, LS_cons, lval]
    by_cases e : p.1 = z
    · rw [if_pos e, if_pos e, repl_none (by rw [← e]; exact nd.1), lval_not (by rw [← e]; exact nd.1), e]
      dsimp only
      grind
    · rw [if_neg e, if_neg e, LS_repl nd.2 (by
        rcases List.mem_cons.mp m with w | w
        · exact absurd w.symm e
        · exact w)]
      grind
theorem LS_put {h : Int → Int} {l : LI} {z w : Int} (nd : NdK l) : LS h (lput l z w) = LS h l + (w - lval l z) * h z := by
  unfold lput
  split
  · rename_i m; exact LS_repl nd m
  · rename_i m
    rw [LS_app, lval_not m]
    simp [LS]
def put1 (r : LI) (k v : Int) : LI := lput r k (lval r k + v)
theorem put1_nd {r : LI} {k v : Int} (nd : NdK r) : NdK (put1 r k v) := lput_nd nd
theorem LS_put1 {h : Int → Int} {r : LI} {k v : Int} (nd : NdK r) : LS h (put1 r k v) = LS h r + v * h k := by
  unfold put1; rw [LS_put nd]; grind
theorem put1_pos {r : LI} {k v : Int} (nd : NdK r) (hr : ∀ p ∈ r, 0 ≤ p.2) (hv : 0 ≤ v) : ∀ p ∈ put1 r k v, 0 ≤ p.2 := by
  have h0 : 0 ≤ lval r k := by
    clear nd
    induction r with
    | nil => exact Int.le_refl _
    | cons p r ih =>
      rw [lval]
      have := hr p List.mem_cons_self
      have := ih fun q hq => hr q (List.mem_cons_of_mem _ hq)
      split <;> omega
  intro p hp
  unfold put1 lput at hp
  split at hp
  · obtain ⟨q, hq, rfl⟩ := List.mem_map.mp hp
    have := hr q hq
    split <;> (first | (show 0 ≤ lval r k + v; omega) | assumption)
  · rcases List.mem_append.mp hp with h | h
    · exact hr p h
    · rw [List.mem_singleton] at h; subst h; show 0 ≤ lval r k + v; omega
theorem put1_key {r : LI} {k v x : Int} (h : x ∈ (put1 r k v).map Prod.fst) : x = k ∨ x ∈ r.map Prod.fst := by
  unfold put1 at h
  rw [keys_put] at h
  split at h
  · exact .inr h
  · rcases List.mem_append.mp h with h | h
    · exact .inr h
    · exact .inl (List.mem_singleton.mp h)
theorem put1_len {r : LI} {k v : Int} : (put1 r k v).length ≤ r.length + 1 := lput_len
/-! ### what is sent -/
abbrev T3 := Int × Int × Int
def trip (t : T3) : D := .tup [.int t.1, .int t.2.1, .int t.2.2]
def half (m : Int) : Int := m / 2
def sndOf (ls : List Int) (p : Int × Int) : T3 := if p.1 ∈ ls then (p.1, p.2 - p.2 / 2, p.2 / 2) else (p.1, p.2 / 2, p.2 - p.2 / 2)
def snds (hs : LI) (ls : List Int) : List T3 := hs.map (sndOf ls)
def latS (r : LI) (t : T3) : LI := put1 (put1 r (t.1 - 1) t.2.1) (t.1 + 1) t.2.2
def lat (ts : List T3) : LI := ts.foldl latS []
theorem latS_nd {r : LI} {t : T3} (nd : NdK r) : NdK (latS r t) := put1_nd (put1_nd nd)
theorem foldl_inv {α β : Type} {f : β → α → β} (P : β → Prop) : ∀ (xs : List α) (b : β), P b → (∀ b x, x ∈ xs → P b → P (f b x)) → P (xs.foldl f b)
  | [], _, h, _ => h
  | x :: xs, b, h, st => foldl_inv P xs (f b x) (st b x List.mem_cons_self h) fun b y hy => st b y (List.mem_cons_of_mem _ hy)
theorem lat_nd (ts : List T3) : NdK (lat ts) := foldl_inv NdK ts [] List.nodup_nil fun _ _ _ h => latS_nd h
theorem LS_fold {h : Int → Int} : ∀ (ts : List T3) (r : LI), NdK r → LS h (ts.foldl latS r) = LS h r + (ts.map fun t => t.2.1 * h (t.1 - 1) + t.2.2 * h (t.1 + 1)).sum
  | [], r, _ => by simp
  | t :: ts, r, nd => by
    rw [List.foldl_cons, LS_fold ts _ (latS_nd nd), latS, LS_put1 (put1_nd nd), LS_put1 nd, List.map_cons, List.sum_cons]
    omega
theorem LS_lat {h : Int → Int} (ts : List T3) : LS h (lat ts) = (ts.map fun t => t.2.1 * h (t.1 - 1) + t.2.2 * h (t.1 + 1)).sum := by
  unfold lat; rw [LS_fold ts [] List.nodup_nil]; simp [LS]
theorem lat_pos {ts : List T3} (h : ∀ t ∈ ts, 0 ≤ t.2.1 ∧ 0 ≤ t.2.2) : ∀ p ∈ lat ts, 0 ≤ p.2 := by
  have z := foldl_inv (f := latS) (fun r => NdK r ∧ ∀ p ∈ r, 0 ≤ p.2) ts [] ⟨List.nodup_nil, fun p hp => nomatch hp⟩ fun r t ht hr =>
    ⟨latS_nd hr.1, put1_pos (put1_nd hr.1) (put1_pos hr.1 hr.2 (h t ht).1) (h t ht).2⟩
  exact z.2
theorem lat_key {ts : List T3} {x : Int} (h : x ∈ (lat ts).map Prod.fst) : ∃ t ∈ ts, x = t.1 - 1 ∨ x = t.1 + 1 := by
  have z := foldl_inv (f := latS) (fun r => ∀ x ∈ r.map Prod.fst, ∃ t ∈ ts, x = t.1 - 1 ∨ x = t.1 + 1) ts [] (fun x hx => nomatch hx) fun r t ht hr x hx => by
    rcases put1_key hx with e | hx
    · exact ⟨t, ht, .inr e⟩
    · rcases put1_key hx with e | hx
      · exact ⟨t, ht, .inl e⟩
      · exact hr x hx
  exact z x h
theorem lat_len (ts : List T3) : (lat ts).length ≤ 2 * ts.length := by
  have z : ∀ (ts : List T3) (r : LI), (ts.foldl latS r).length ≤ r.length + 2 * ts.length := by
    intro ts
    induction ts with
    | nil => intro r; simp
    | cons t ts ih =>
      intro r
      rw [List.foldl_cons, List.length_cons]
      have h1 := ih (latS r t)
      have h2 : (latS r t).length ≤ r.length + 2 := by
        unfold latS
        have a := @put1_len (put1 r (t.1 - 1) t.2.1) (t.1 + 1) t.2.2
        have b := @put1_len r (t.1 - 1) t.2.1
        omega
      omega
  have := z ts []
  unfold lat
  simpa using this
/-! ### hands -/
def embB (l : LI) : List (Key × D) := l.map fun p => (Sum.inl p.1, D.bl (decide (p.2 ≠ 0)))
theorem kget_embB {z : Int} : ∀ {l : LI}, NdK l → kget (embB l) (.inl z) = if z ∈ l.map Prod.fst then some (.bl (decide (lval l z ≠ 0))) else none
  | [], _ => rfl
  | p :: l, nd => by
    rw [NdK, List.map_cons, List.nodup_cons] at nd
    by_cases e : p.1 = z
    · have h1 : kget (embB (p :: l)) (.inl z) = some (.bl (decide (p.2 ≠ 0))) := by simp [kget, embB, e]
      rw [h1, List.map_cons, if_pos (by rw [← e]; exact List.mem_cons_self ..), lval, if_pos e, lval_not (by rw [← e]; exact nd.1), Int.add_zero]
    · have h1 : kget (embB (p :: l)) (.inl z) = kget (embB l) (.inl z) := by simp [kget, embB, e]
      rw [h1, kget_embB nd.2, lval, if_neg e, Int.zero_add, List.map_cons]
      have : (z ∈ p.1 :: l.map Prod.fst) ↔ z ∈ l.map Prod.fst := by rw [List.mem_cons]; exact ⟨fun h => h.elim (fun w => absurd w.symm e) id, .inr⟩
      simp only [this]
theorem getG_embB {l : LI} {z : Int} (nd : NdK l) : getG (.dk (embB l)) (.int z) (.bl false) = some (.bl (decide (lval l z ≠ 0))) := by
  simp only [getG, kof, Option.map_some, kget_embB nd]
  split
  · rfl
  · rename_i h; rw [lval_not h]; rfl
theorem kput_embB {l : LI} {z : Int} {b : Bool} : kput (embB l) (.inl z) (.bl b) = embB (lput l z (if b = true then 1 else 0)) := by
  have h1 : ((embB l).any fun p => decide (p.1 = (Sum.inl z : Key))) = true ↔ z ∈ l.map Prod.fst := by
    simp [embB, List.any_eq_true]
  unfold kput lput
  by_cases h : z ∈ l.map Prod.fst
  · rw [if_pos h, if_pos (h1.mpr h)]
    simp only [embB, List.map_map]
    refine List.map_congr_left fun p _ => ?_
    by_cases e : p.1 = z <;> cases b <;> simp [e]
  · rw [if_neg h, if_neg (fun w => h (h1.mp w))]
    cases b <;> simp [embB]
theorem setIG_embB {l : LI} {z : Int} {b : Bool} (h : l.length < 1000000) : setIG (.dk (embB l)) (.int z) (.bl b) = some (.dk (embB (lput l z (if b = true then 1 else 0)))) := by
  have e : (embB l).length = l.length := by simp [embB]
  simp only [setIG, kof, Option.bind_some]
  rw [if_pos (by rw [e]; exact h), Option.map_some, kput_embB]
/-- a hand is turned where what is sent to either side is unlike -/
def flipS (r : LI) (t : T3) : LI := if t.2.1 = t.2.2 then r else lput r t.1 (if lval r t.1 = 0 then 1 else 0)
def ones (ls : List Int) : LI := (uniq ls).map fun x => (x, 1)
def flips (ts : List T3) (ls : List Int) : LI := ts.foldl flipS (ones ls)
theorem ones_nd (ls : List Int) : NdK (ones ls) := by
  show ((ones ls).map Prod.fst).Nodup
  unfold ones
  rw [List.map_map]
  have : (Prod.fst ∘ fun x : Int => (x, (1 : Int))) = id := rfl
  rw [this, List.map_id]
  exact uniq_nd ls
theorem ones_kT (ls : List Int) : (uniq ls).map kT = embB (ones ls) := by
  unfold ones embB
  rw [List.map_map]
  rfl
theorem lval_ones {ls : List Int} {x : Int} : lval (ones ls) x = if x ∈ ls then 1 else 0 := by
  have h : ∀ xs : List Int, xs.Nodup → lval (xs.map fun x => (x, (1 : Int))) x = if x ∈ xs then 1 else 0 := by
    intro xs
    induction xs with
    | nil => intro _; rfl
    | cons y xs ih =>
      intro nd
      rw [List.nodup_cons] at nd
      rw [List.map_cons, lval, ih nd.2]
      dsimp only
      by_cases e : y = x
      · subst e; rw [if_pos rfl, if_neg nd.1]; simp
      · rw [if_neg e, Int.zero_add]
        simp [Ne.symm e]
  unfold ones
  rw [h _ (uniq_nd ls)]
  simp only [mem_uniq]
theorem flipS_nd {r : LI} {t : T3} (nd : NdK r) : NdK (flipS r t) := by
  unfold flipS; split
  · exact nd
  · exact lput_nd nd
theorem flips_nd (ts : List T3) (ls : List Int) : NdK (flips ts ls) := foldl_inv NdK ts _ (ones_nd ls) fun _ _ _ h => flipS_nd h
theorem flipS_len {r : LI} {t : T3} : (flipS r t).length ≤ r.length + 1 := by
  unfold flipS; split
  · omega
  · exact lput_len
theorem flips_len' : ∀ (ts : List T3) (r : LI), (ts.foldl flipS r).length ≤ r.length + ts.length
  | [], r => by simp
  | t :: ts, r => by
    rw [List.foldl_cons, List.length_cons]
    have h1 := flips_len' ts (flipS r t)
    have h2 := @flipS_len r t
    omega
theorem uniq_len (xs : List Int) : (uniq xs).length ≤ xs.length := by
  have h : ∀ (xs ks : List Int), (xs.foldl insK ks).length ≤ ks.length + xs.length := by
    intro xs
    induction xs with
    | nil => intro ks; simp
    | cons x xs ih =>
      intro ks
      rw [List.foldl_cons, List.length_cons]
      have h1 := ih (insK ks x)
      have h2 : (insK ks x).length ≤ ks.length + 1 := by unfold insK; split <;> simp
      omega
  have := h xs []
  unfold uniq
  simpa using this
theorem flips_len (ts : List T3) (ls : List Int) : (flips ts ls).length ≤ ls.length + ts.length := by
  have h1 := flips_len' ts (ones ls)
  have h2 : (ones ls).length = (uniq ls).length := by unfold ones; rw [List.length_map]
  have h3 := uniq_len ls
  unfold flips
  omega
/-- a hand is turned where an odd heap lies -/
theorem lval_flips' {x : Int} : ∀ (ts : List T3) (r : LI), NdK r → (ts.map (·.1)).Nodup → (lval (ts.foldl flipS r) x ≠ 0 ↔ ¬ (lval r x ≠ 0 ↔ ∃ t ∈ ts, t.1 = x ∧ t.2.1 ≠ t.2.2))
  | [], r, _, _ => by simp
  | t :: ts, r, nd, hd => by
    rw [List.map_cons, List.nodup_cons] at hd
    rw [List.foldl_cons, lval_flips' ts _ (flipS_nd nd) hd.2]
    have h1 : lval (flipS r t) x = if t.2.1 = t.2.2 then lval r x else if x = t.1 then (if lval r t.1 = 0 then 1 else 0) else lval r x := by
      unfold flipS
      split
      · rfl
      · rw [lval_put nd]
    have h2 : (∃ u ∈ t :: ts, u.1 = x ∧ u.2.1 ≠ u.2.2) ↔ (t.1 = x ∧ t.2.1 ≠ t.2.2) ∨ ∃ u ∈ ts, u.1 = x ∧ u.2.1 ≠ u.2.2 := by simp
    rw [h1]
    by_cases e : t.1 = x
    · have h3 : ¬ ∃ u ∈ ts, u.1 = x ∧ u.2.1 ≠ u.2.2 := fun ⟨u, hu, e2, _⟩ => hd.1 (List.mem_map.mpr ⟨u, hu, e2.trans e.symm⟩)
      by_cases e3 : t.2.1 = t.2.2
      · simp [e, e3, h3, h2]
      · rw [if_neg e3, if_pos e.symm]
        subst e
        by_cases e4 : lval r t.1 = 0 <;> simp [e3, e4, h3, h2]
    · have h4 : ¬ x = t.1 := fun z => e z.symm
      simp only [h2, e, h4, if_false, false_and, false_or]
      split <;> rfl
end Pk

set_option Elab.async false
set_option linter.all false
set_option maxRecDepth 100000
set_option maxHeartbeats 4000000
/-! lines: what the defs compute -/
namespace Pk
open PySem PySem.Spec L2 Vl
variable {l hs : LI} {ls : List Int} {t : Nat} {s : S}
/-! ### evaluation -/
@[simp] theorem appA_ap {fl : PM (List D)} {cds : List D} : appA fl cds s = bd fl (fun ds => pur (ds ++ cds)) s := rfl
def mkK (C : Str) (n : Nat) (F : List D → OF) (ds : List D) : PM D := fun s => if ds.length = n then (match F (.ins C [] :: ds) with | .ok .non [o] => .ok o s | .exc x _ => if noMf x.fs = true then .exc x s else .no | _ => .no) else .no
@[simp] theorem mkM_ap {C : Str} {n : Nat} {F : List D → OF} {fl : PM (List D)} : mkM C n F fl s = bd fl (mkK C n F) s := by
  unfold mkM mkK
  simp only [bd_ap]
  cases fl s <;> rfl
theorem mkK_ok {C : Str} {n : Nat} {F : List D → OF} {ds : List D} {o : D} (h : ds.length = n) (e : F (.ins C [] :: ds) = .ok .non [o]) : mkK C n F ds s = .ok o s := by
  unfold mkK; rw [if_pos h, e]
theorem setFG_ok {cs : List Str} {C f : Str} {fs : List (Str × D)} {d : D} (h : C ∈ cs) (h2 : fs.length < 1000) : setFG cs f (.ins C fs) d = some (.ins C (fput f d fs)) := if_pos ⟨h, h2⟩
theorem insG_ok {C mn : Str} {fs : List (Str × D)} (h : fs.lookup mn = none) : insG C mn [.ins C fs] = some (.ins C fs) := if_pos ⟨rfl, h⟩
theorem inG_dk {k : Int} {ks : List (Key × D)} : inG false [.int k, .dk ks] = some (.bl (kget ks (.inl k)).isSome) := rfl
/-! ### a line as data -/
abbrev lnF (hs : LI) (ls : List Int) (t : Int) : List (Str × D) := [("tick", .int t), ("heaps", .tup (hs.map pairI)), ("lefts", .tup (ls.map .int))]
abbrev lnD (hs : LI) (ls : List Int) (t : Int) : D := .ins "Line" (lnF hs ls t)
theorem in_Line : ("Line" : Str) ∈ (["Line"] : List Str) := List.mem_cons_self
theorem sne1 : ¬ (("tick" : Str) = "heaps") := by decide +kernel
theorem sne2 : ¬ (("tick" : Str) = "lefts") := by decide +kernel
theorem sne3 : ¬ (("heaps" : Str) = "lefts") := by decide +kernel
theorem sne4 : ¬ (("heaps" : Str) = "tick") := by decide +kernel
theorem sne5 : ¬ (("lefts" : Str) = "tick") := by decide +kernel
theorem sne6 : ¬ (("lefts" : Str) = "heaps") := by decide +kernel
theorem fld_tick {hs : LI} {t : Int} : fldG ["Line"] "tick" [lnD hs ls t] = some (.int t) := by rw [fldG_ok in_Line]; simp [List.lookup_cons]
theorem fld_heaps {hs : LI} {t : Int} : fldG ["Line"] "heaps" [lnD hs ls t] = some (.tup (hs.map pairI)) := by
  rw [fldG_ok in_Line]
  rw [List.lookup_cons, show (("heaps" : Str) == "tick") = false from beq_eq_false_iff_ne.mpr sne4]
  simp [List.lookup_cons]
theorem fld_lefts {hs : LI} {t : Int} : fldG ["Line"] "lefts" [lnD hs ls t] = some (.tup (ls.map .int)) := by
  rw [fldG_ok in_Line]
  rw [List.lookup_cons, show (("lefts" : Str) == "tick") = false from beq_eq_false_iff_ne.mpr sne5]
  dsimp only
  rw [List.lookup_cons, show (("lefts" : Str) == "heaps") = false from beq_eq_false_iff_ne.mpr sne6]
  simp [List.lookup_cons]
theorem put_tick0 {d : D} : setFG ["Line"] "tick" (.ins "Line" []) d = some (.ins "Line" [("tick", d)]) := by rw [setFG_ok in_Line (by simp)]; rfl
theorem put_heaps0 {a d : D} : setFG ["Line"] "heaps" (.ins "Line" [("tick", a)]) d = some (.ins "Line" [("tick", a), ("heaps", d)]) := by
  rw [setFG_ok in_Line (by simp)]
  simp [fput, sne1]
theorem put_lefts0 {a b d : D} : setFG ["Line"] "lefts" (.ins "Line" [("tick", a), ("heaps", b)]) d = some (.ins "Line" [("tick", a), ("heaps", b), ("lefts", d)]) := by
  rw [setFG_ok in_Line (by simp)]
  simp [fput, sne2, sne3]
theorem put_tick {a b c d : D} : setFG ["Line"] "tick" (.ins "Line" [("tick", a), ("heaps", b), ("lefts", c)]) d = some (.ins "Line" [("tick", d), ("heaps", b), ("lefts", c)]) := by
  rw [setFG_ok in_Line (by simp)]
  simp [fput]
theorem put_heaps {a b c d : D} : setFG ["Line"] "heaps" (.ins "Line" [("tick", a), ("heaps", b), ("lefts", c)]) d = some (.ins "Line" [("tick", a), ("heaps", d), ("lefts", c)]) := by
  rw [setFG_ok in_Line (by simp)]
  simp [fput, sne1]
theorem put_lefts {a b c d : D} : setFG ["Line"] "lefts" (.ins "Line" [("tick", a), ("heaps", b), ("lefts", c)]) d = some (.ins "Line" [("tick", a), ("heaps", b), ("lefts", d)]) := by
  rw [setFG_ok in_Line (by simp)]
  simp [fput, sne2, sne3]
theorem lk_none {hs : LI} {t : Int} {mn : Str} (h1 : ¬ mn = "tick") (h2 : ¬ mn = "heaps") (h3 : ¬ mn = "lefts") : (lnF hs ls t).lookup mn = none := by
  rw [List.lookup_cons, beq_eq_false_iff_ne.mpr h1]; dsimp only
  rw [List.lookup_cons, beq_eq_false_iff_ne.mpr h2]; dsimp only
  rw [List.lookup_cons, beq_eq_false_iff_ne.mpr h3]; rfl
theorem ins_adv {hs : LI} {t : Int} : insG "Line" "advance" [lnD hs ls t] = some (lnD hs ls t) := insG_ok (lk_none (by decide +kernel) (by decide +kernel) (by decide +kernel))
theorem ins_fwd {hs : LI} {t : Int} : insG "Line" "forward" [lnD hs ls t] = some (lnD hs ls t) := insG_ok (lk_none (by decide +kernel) (by decide +kernel) (by decide +kernel))
theorem ins_at {hs : LI} {t : Int} : insG "Line" "heap_at" [lnD hs ls t] = some (lnD hs ls t) := insG_ok (lk_none (by decide +kernel) (by decide +kernel) (by decide +kernel))
/-! ### starts -/
structure LfOk (ls : List Int) : Prop where
  nd : ls.Nodup
  len : ls.length ≤ 400
  spot : ∀ x ∈ ls, -1000000 ≤ x ∧ x ≤ 1000000
theorem LfOk.nil : LfOk [] := ⟨List.nodup_nil, by simp, fun _ h => nomatch h⟩
theorem LfOk.one {x : Int} (h : -1000000 ≤ x ∧ x ≤ 1000000) : LfOk [x] := ⟨by simp, by simp, fun y hy => by rw [List.mem_singleton] at hy; subst hy; exact h⟩
theorem LfOk.perm {r : List Int} (h : LfOk ls) (p : r.Perm ls) : LfOk r := ⟨p.nodup_iff.mpr h.nd, by rw [p.length_eq]; exact h.len, fun x hx => h.spot x (p.mem_iff.mp hx)⟩
def IsLf (d : D) (ls : List Int) : Prop := d = .lst (ls.map .int) ∨ d = .tup (ls.map .int)
theorem need_lefts_eq {d : D} {x : Str} (h : IsLf d ls) (ok : LfOk ls) : m_need_lefts [d, .str x] = .ok (.tup ((srtL ls).map .int)) [] := by
  have hn := ok.len
  have e1 : itemsG d = some (ls.map .int) := by rcases h with rfl | rfl <;> rfl
  have e2 : lenBG [d] = some (.int ls.length) := by rcases h with rfl | rfl <;> simp
  have e3 : isi2G [d, .tup [.oth (.ty "list"), .oth (.ty "tuple")]] = some (.bl true) := by rcases h with rfl | rfl <;> rfl
  have e4 : lenSetBG [d] = some (.int ls.length) := by
    rcases h with rfl | rfl
    · rw [lenSetBG_l]; exact lenSetG_ok ok.nd (by omega)
    · exact lenSetBG_t ok.nd (by omega)
  have e5 : sortedBG [d] = some (.lst ((srtL ls).map .int)) := by
    rcases h with rfl | rfl
    · rw [sortedBG_l]; exact sortedAG_i
    · exact sortedBG_t
  have lc : lcE (seqI (gts 0)) (tgN 2) (pur true) (callM 3 m_is_within (consA (gts 2) (consA (op1 negG (pur (.int 1000000))) (consA (pur (.int 1000000)) (pur []))))) [2] [some d, some (.str x), none] = .ok (.lst (ls.map fun _ => .bl true)) [some d, some (.str x), none] := by
    refine lcE_ok' (ds := ls.map .int) (by simp [e1]) ?_ (by rw [List.length_map]; omega)
    have e : (ls.map fun _ => D.bl true) = (ls.map D.int).map (fun _ => D.bl true) := by rw [List.map_map]; rfl
    rw [e]
    refine lcP_map fun y hy => ?_
    obtain ⟨z, hz, rfl⟩ := List.mem_map.mp hy
    have := ok.spot z hz
    simp [Vl.lc1, this]
  have al := allG_true ls
  have tl : tupleG [.lst ((srtL ls).map .int)] = some (.tup ((srtL ls).map .int)) := rfl
  have l4 : ¬ (400 : Int) < (ls.length : Int) := by omega
  generalize D.tup ((srtL ls).map .int) = T at tl ⊢
  generalize D.lst ((srtL ls).map .int) = U at e5 tl
  generalize D.lst (ls.map fun _ => .bl true) = W at lc al
  simp -implicitDefEqProofs [m_need_lefts, g_need_lefts, two_ty, e2, e3, e4, e5, lc, al, l4, tl]
theorem need_start_eq {d e : D} (h : IsHs d l) (ok : HpOk l) (h2 : IsLf e ls) (ok2 : LfOk ls) : m_need_start [d, e] = .ok (.tup [.tup ((srtP l).map pairI), .tup ((srtL ls).map .int)]) [] := by
  have okK := ok.perm (srtP_perm l)
  have nh := need_heaps_eq (x := "heaps") h ok
  have nl := need_lefts_eq (x := "lefts") h2 ok2
  have so := spots_of_eq (srtP l) (by have := okK.len; omega)
  have nc := need_colour_eq (xs := (srtP l).map Prod.fst) (by rw [List.length_map]; have := okK.len; omega) fun x hx y hy => by
    obtain ⟨p, hp, rfl⟩ := List.mem_map.mp hx
    obtain ⟨q, hq, rfl⟩ := List.mem_map.mp hy
    exact okK.col p hp q hq
  have tp : ∀ a b : D, tupG [a, b] = some (.tup [a, b]) := fun _ _ => rfl
  generalize D.tup ((srtP l).map pairI) = K at *
  generalize D.tup ((srtL ls).map .int) = K2 at *
  generalize ((srtP l).map Prod.fst).map D.int = C at so nc
  simp -implicitDefEqProofs [m_need_start, g_need_start, parM, setA, nh, nl, so, nc, tp]
theorem init_eq {d e : D} (h : IsHs d l) (ok : HpOk l) (h2 : IsLf e ls) (ok2 : LfOk ls) : m_Line___init__ [.ins "Line" [], d, e] = .ok .non [lnD (srtP l) (srtL ls) 0] := by
  have ns := need_start_eq h ok h2 ok2
  show _ = OF.ok .non [.ins "Line" [("tick", .int 0), ("heaps", .tup ((srtP l).map pairI)), ("lefts", .tup ((srtL ls).map .int))]]
  generalize D.tup ((srtP l).map pairI) = K at *
  generalize D.tup ((srtL ls).map .int) = K2 at *
  simp -implicitDefEqProofs [m_Line___init__, g_Line___init__, setF, ns, put_tick0, put_heaps0, put_lefts0]
theorem make_eq {d e : D} (h : IsHs d l) (ok : HpOk l) (h2 : IsLf e ls) (ok2 : LfOk ls) : mkK "Line" 2 m_Line___init__ [d, e] s = .ok (lnD (srtP l) (srtL ls) 0) s := mkK_ok rfl (init_eq h ok h2 ok2)
/-! ### what is sent on -/
noncomputable def sentB : S → SO := (seqM (setM 6 (op2 subG (gts 5) (op2 fdivG (gts 5) (pur (.int 2)))))
  (dropM (mutM "list" 3 appG (consA (ifX (tru (op2 (inG false) (gts 4) (gts 2))) (apA tupG (consA (gts 4) (consA (gts 6) (consA (op2 fdivG (gts 5) (pur (.int 2))) (pur []))))) (apA tupG (consA (gts 4) (consA (op2 fdivG (gts 5) (pur (.int 2))) (consA (gts 6) (pur [])))))) (pur [])))))
theorem kget_kT {ks : List Int} {x : Int} : (kget (ks.map kT) (.inl x)).isSome = decide (x ∈ ks) := by
  induction ks with
  | nil => rfl
  | cons y ks ih =>
    by_cases e : y = x
    · have : kget ((y :: ks).map kT) (.inl x) = some (.bl true) := by simp [kget, kT, e]
      rw [this]; simp [e]
    · have : kget ((y :: ks).map kT) (.inl x) = kget (ks.map kT) (.inl x) := by simp [kget, kT, e]
      rw [this, ih]
      have : ¬ x = y := fun z => e z.symm
      simp [this]
theorem f2 {m : Int} : fdivG [.int m, .int 2] = some (.int (m / 2)) := by
  rw [fdivG_ok (by decide) (by decide), Int.fdiv_eq_ediv_of_nonneg _ (by decide)]
theorem sent_step {a b x : Option D} {y z w : Option D} {p : Int × Int} {ks : List Int} {ts : List T3} (hk : ∀ x, x ∈ ks ↔ x ∈ ls) (hl : ts.length < 1000000) :
    ∃ s1 y' z' w', tgT [tgN 4, tgN 5] (pairI p) [a, b, some (.dk (ks.map kT)), some (.lst (ts.map trip)), y, z, w] = some s1 ∧ sentB s1 = .nx [a, b, some (.dk (ks.map kT)), some (.lst ((ts ++ [sndOf ls p]).map trip)), y', z', w'] := by
  have ap : ∀ d : D, appG (.lst (ts.map trip)) [d] = some (.non, .lst (ts.map trip ++ [d])) := fun d => by unfold appG; exact if_pos (by rw [List.length_map]; exact hl)
  have ih := inG_dk (k := p.1) (ks := ks.map kT)
  rw [kget_kT] at ih
  have t3 : ∀ a b c : D, tupG [a, b, c] = some (.tup [a, b, c]) := fun _ _ _ => rfl
  refine ⟨_, some (.int p.1), some (.int p.2), some (.int (p.2 - p.2 / 2)), rfl, ?_⟩
  by_cases hx : p.1 ∈ ls
  · have hx2 : p.1 ∈ ks := (hk _).mpr hx
    have e : sndOf ls p = (p.1, p.2 - p.2 / 2, p.2 / 2) := if_pos hx
    simp -implicitDefEqProofs [sentB, mutM, tyD, pairI, ih, hx2, t3, f2, ap, e, trip]
  · have hx2 : ¬ p.1 ∈ ks := fun z => hx ((hk _).mp z)
    have e : sndOf ls p = (p.1, p.2 / 2, p.2 - p.2 / 2) := if_neg hx
    simp -implicitDefEqProofs [sentB, mutM, tyD, pairI, ih, hx2, t3, f2, ap, e, trip]
theorem dcE_ones {fi : PM (List D)} {i : Nat} {s : S} (hi : i < s.length) (h : fi s = .ok (ls.map .int) s) (hl : ls.length ≤ 1000000) : dcE fi (tgN i) (pur true) (gts i) (pur (.bl true)) [i] s = .ok (.dk ((uniq ls).map kT)) s := by
  have e : dcP (tgN i) (pur true) (gts i) (pur (.bl true)) (wipeS s [i]) (ls.map D.int) = some ((ls.map D.int).map fun d => match d with | .int x => kT x | _ => kT 0) := by
    refine dcP_map fun d hd => ?_
    obtain ⟨x, _, rfl⟩ := List.mem_map.mp hd
    have hg : gts i ((s.set i none).set i (some (.int x))) = .ok (.int x) ((s.set i none).set i (some (.int x))) := by
      simp only [gts_ap, List.getElem?_set_self (show i < (s.set i none).length by rw [List.length_set]; exact hi)]
    exact ⟨(s.set i none).set i (some (.int x)), _, _, _, .int x, rfl, rfl, hg, rfl, rfl⟩
  rw [List.map_map] at e
  have e3 : (ls.map ((fun d : D => match d with | .int x => kT x | _ => kT 0) ∘ D.int)) = ls.map kT := rfl
  rw [e3] at e
  have e2 : mergeD [] (ls.map kT) = (uniq ls).map kT := merge_kT ls []
  unfold dcE
  rw [h]
  dsimp only
  rw [e]
  dsimp only
  rw [if_pos (by rw [List.length_map]; exact hl), e2]
theorem sent_on_eq (h1 : hs.length ≤ 900000) (h2 : ls.length ≤ 900000) : m_sent_on [.tup (hs.map pairI), .tup (ls.map .int)] = .ok (.lst ((snds hs ls).map trip)) [] := by
  have dc := dcE_ones (ls := ls) (fi := seqI (gts 1)) (i := 4) (s := [some (.tup (hs.map pairI)), some (.tup (ls.map .int)), none, none, none, none, none]) (by simp) (by simp [itemsG]) (by omega)
  obtain ⟨s', e', y, z, w, rfl⟩ := forL_inv (tf := tgT [tgN 4, tgN 5]) (b := sentB) (fun k s => ∃ y z w, s = [some (.tup (hs.map pairI)), some (.tup (ls.map .int)), some (.dk ((uniq ls).map kT)), some (.lst ((snds (hs.take k) ls).map trip)), y, z, w])
    (hs.map pairI) 0 [some (.tup (hs.map pairI)), some (.tup (ls.map .int)), some (.dk ((uniq ls).map kT)), some (.lst []), none, none, none] ⟨none, none, none, by simp [snds]⟩ (fun j d s hj hs' => by
      obtain ⟨y, z, w, rfl⟩ := hs'
      rw [List.getElem?_map] at hj
      obtain ⟨p, hp, rfl⟩ := Option.map_eq_some_iff.mp hj
      rw [Nat.zero_add]
      obtain ⟨s1, y', z', w', e1, e2⟩ := sent_step (ls := ls) (a := some (.tup (hs.map pairI))) (b := some (.tup (ls.map .int))) (x := none) (y := y) (z := z) (w := w) (p := p) (ks := uniq ls) (ts := snds (hs.take j) ls) (fun x => mem_uniq) (by unfold snds; rw [List.length_map, List.length_take]; omega)
      refine ⟨s1, _, e1, .inl e2, y', z', w', ?_⟩
      have : snds (hs.take (j + 1)) ls = snds (hs.take j) ls ++ [sndOf ls p] := by
        unfold snds
        rw [List.take_add_one, hp, List.map_append]; rfl
      rw [this])
  rw [Nat.zero_add, List.length_map, List.take_length] at e'
  unfold sentB at e'
  simp -implicitDefEqProofs [m_sent_on, g_sent_on, parM, setA, dc, lstG_ok, itemsG, e']
/-! ### a tick -/
noncomputable def innA : S → SO := (setI 1 (gts 6) (bd (op2 addG (getM (gts 1) (gts 6) (pur (.int 0))) (gts 7)) sca))
noncomputable def advB : S → SO := (seqM (forM (seqI (apA tupG (consA (apA tupG (consA (op2 subG (gts 3) (pur (.int 1))) (consA (gts 4) (pur [])))) (consA (apA tupG (consA (op2 addG (gts 3) (pur (.int 1))) (consA (gts 5) (pur [])))) (pur []))))) (tgT [tgN 6, tgN 7])
    innA)
  (ifM (tru (op2 neG (gts 4) (gts 5)))
    (setI 2 (gts 3) (ntV (getM (gts 2) (gts 3) (pur (.bl false)))))
    nxM))
theorem inn_step {a c d3 d4 d5 d8 : Option D} {r : LI} {k v : Int} (nd : NdK r) (hl : r.length < 1000000) : innA [a, some (.dk (emb r)), c, d3, d4, d5, some (.int k), some (.int v), d8] = .nx [a, some (.dk (emb (put1 r k v))), c, d3, d4, d5, some (.int k), some (.int v), d8] := by
  have g := getG_emb (z := k) nd
  have st := setIG_emb (l := r) (z := k) (v := lval r k + v) hl
  simp -implicitDefEqProofs [innA, setI, g, st, put1]
theorem adv_step {a d3 d4 d5 d6 d7 d8 : Option D} {r f : LI} {u : T3} (nd : NdK r) (hl : r.length < 900000) (nf : NdK f) (hf : f.length < 900000) :
    ∃ s1 d6' d7', tgT [tgN 3, tgN 4, tgN 5] (trip u) [a, some (.dk (emb r)), some (.dk (embB f)), d3, d4, d5, d6, d7, d8] = some s1 ∧ advB s1 = .nx [a, some (.dk (emb (latS r u))), some (.dk (embB (flipS f u))), some (.int u.1), some (.int u.2.1), some (.int u.2.2), d6', d7', d8] := by
  have t2 : ∀ a b : D, tupG [a, b] = some (.tup [a, b]) := fun _ _ => rfl
  have i1 := inn_step (a := a) (c := some (.dk (embB f))) (d3 := some (.int u.1)) (d4 := some (.int u.2.1)) (d5 := some (.int u.2.2)) (d8 := d8) (k := u.1 - 1) (v := u.2.1) nd (by omega)
  have l1 := @put1_len r (u.1 - 1) u.2.1
  have i2 := inn_step (a := a) (c := some (.dk (embB f))) (d3 := some (.int u.1)) (d4 := some (.int u.2.1)) (d5 := some (.int u.2.2)) (d8 := d8) (k := u.1 + 1) (v := u.2.2) (put1_nd (k := u.1 - 1) (v := u.2.1) nd) (by omega)
  have lp : forL (tgT [tgN 6, tgN 7]) innA [.tup [.int (u.1 - 1), .int u.2.1], .tup [.int (u.1 + 1), .int u.2.2]] [a, some (.dk (emb r)), some (.dk (embB f)), some (.int u.1), some (.int u.2.1), some (.int u.2.2), d6, d7, d8] = .nx [a, some (.dk (emb (latS r u))), some (.dk (embB f)), some (.int u.1), some (.int u.2.1), some (.int u.2.2), some (.int (u.1 + 1)), some (.int u.2.2), d8] := by
    rw [forL_cons]
    simp only [tgT_ap, tgL_cons, tgN_ap, Option.bind_some, tgL_nil, List.set_cons_succ, List.set_cons_zero]
    rw [i1]
    dsimp only
    rw [forL_cons]
    simp only [tgT_ap, tgL_cons, tgN_ap, Option.bind_some, tgL_nil, List.set_cons_succ, List.set_cons_zero]
    rw [i2]
    rfl
  have g := getG_embB (z := u.1) nf
  refine ⟨_, some (.int (u.1 + 1)), some (.int u.2.2), rfl, ?_⟩
  by_cases e : u.2.1 = u.2.2
  · have fe : flipS f u = f := if_pos e
    rw [fe]
    have hne : neG [.int u.2.1, .int u.2.2] = some (.bl false) := by rw [neG_i]; simp [e]
    simp -implicitDefEqProofs [advB, t2, lp, hne, itemsG]
  · have fe : flipS f u = lput f u.1 (if (!decide (lval f u.1 ≠ 0)) = true then 1 else 0) := by
      unfold flipS
      rw [if_neg e]
      by_cases z : lval f u.1 = 0 <;> simp [z]
    have st := setIG_embB (l := f) (z := u.1) (b := !decide (lval f u.1 ≠ 0)) (by omega)
    rw [← fe] at st
    have hne : neG [.int u.2.1, .int u.2.2] = some (.bl true) := by rw [neG_i]; simp [e]
    generalize decide (lval f u.1 ≠ 0) = B at g st
    generalize flipS f u = FF' at st ⊢
    simp -implicitDefEqProofs [advB, t2, lp, hne, itemsG, setI, g, st]
def adv (hs : LI) (ls : List Int) : LI := srtP ((lat (snds hs ls)).filter fun p => decide (0 < p.2))
def flp (hs : LI) (ls : List Int) : List Int := srtL (((flips (snds hs ls) ls).filter fun p => decide (p.2 ≠ 0)).map Prod.fst)
def fPos : D → Option D := fun d => match d with | .tup [.int x, .int y] => if 0 < y then some (pairI (x, y)) else none | _ => none
theorem items_pos : ∀ (r : LI), (r.map pairI).filterMap fPos = (r.filter fun p => decide (0 < p.2)).map pairI
  | [] => rfl
  | p :: r => by
    have ih := items_pos r
    by_cases h : 0 < p.2
    · have e : fPos (pairI p) = some (pairI p) := if_pos h
      rw [List.map_cons, List.filterMap_cons_some e, ih, List.filter_cons_of_pos (by simpa using h)]; rfl
    · have e : fPos (pairI p) = none := if_neg h
      rw [List.map_cons, List.filterMap_cons_none e, ih, List.filter_cons_of_neg (by simpa using h)]
def pairB (p : Int × Int) : D := .tup [.int p.1, .bl (decide (p.2 ≠ 0))]
theorem itmsG_embB {l : LI} : itmsG (embB l) = l.map pairB := by
  unfold itmsG embB
  rw [List.map_map]
  rfl
def fOn : D → Option D := fun d => match d with | .tup [.int x, .bl b] => if b = true then some (.int x) else none | _ => none
theorem items_on : ∀ (r : LI), (r.map pairB).filterMap fOn = ((r.filter fun p => decide (p.2 ≠ 0)).map Prod.fst).map D.int
  | [] => rfl
  | p :: r => by
    have ih := items_on r
    by_cases h : decide (p.2 ≠ 0) = true
    · have e : fOn (pairB p) = some (D.int p.1) := if_pos h
      rw [List.map_cons, List.filterMap_cons_some e, ih, List.filter_cons, if_pos h]; rfl
    · have e : fOn (pairB p) = none := if_neg h
      rw [List.map_cons, List.filterMap_cons_none e, ih, List.filter_cons, if_neg h]
theorem advance_eq {k : Int} (h1 : hs.length ≤ 200000) (h2 : ls.length ≤ 200000) : m_Line_advance [lnD hs ls k] = .ok (.int (k + 1)) [lnD (adv hs ls) (flp hs ls) (k + 1)] := by
  have so := sent_on_eq (hs := hs) (ls := ls) (by omega) (by omega)
  have fh := fld_heaps (hs := hs) (ls := ls) (t := k)
  have fl := fld_lefts (hs := hs) (ls := ls) (t := k)
  have ft := fld_tick (hs := hs) (ls := ls) (t := k)
  have hsn : (snds hs ls).length = hs.length := by unfold snds; rw [List.length_map]
  have dc := dcE_ones (ls := ls) (fi := seqI (op1 (fldG ["Line"] "lefts") (gts 0))) (i := 3) (s := [some (lnD hs ls k), none, none, none, none, none, none, none, none]) (by simp) (by simp [fl, itemsG]) (by omega)
  rw [ones_kT] at dc
  obtain ⟨s', e', d3, d4, d5, d6, d7, rfl⟩ := forL_inv (tf := tgT [tgN 3, tgN 4, tgN 5]) (b := advB) (fun j s => ∃ d3 d4 d5 d6 d7, s = [some (lnD hs ls k), some (.dk (emb (lat ((snds hs ls).take j)))), some (.dk (embB (flips ((snds hs ls).take j) ls))), d3, d4, d5, d6, d7, none])
    ((snds hs ls).map trip) 0 [some (lnD hs ls k), some (.dk (emb [])), some (.dk (embB (ones ls))), none, none, none, none, none, none] ⟨none, none, none, none, none, by simp [lat, flips]⟩ (fun j d s hj hs' => by
      obtain ⟨d3, d4, d5, d6, d7, rfl⟩ := hs'
      rw [List.getElem?_map] at hj
      obtain ⟨u, hu, rfl⟩ := Option.map_eq_some_iff.mp hj
      rw [Nat.zero_add]
      have hjl : j < (snds hs ls).length := (List.getElem?_eq_some_iff.mp hu).1
      have q1 := lat_len ((snds hs ls).take j)
      have q2 := flips_len ((snds hs ls).take j) ls
      rw [List.length_take] at q1 q2
      obtain ⟨s1, d6', d7', e1, e2⟩ := adv_step (a := some (lnD hs ls k)) (d3 := d3) (d4 := d4) (d5 := d5) (d6 := d6) (d7 := d7) (d8 := none) (u := u) (lat_nd ((snds hs ls).take j)) (by omega) (flips_nd ((snds hs ls).take j) ls) (by omega)
      refine ⟨s1, _, e1, .inl e2, some (.int u.1), some (.int u.2.1), some (.int u.2.2), d6', d7', ?_⟩
      have t1 : (snds hs ls).take (j + 1) = (snds hs ls).take j ++ [u] := by rw [List.take_add_one, hu]; rfl
      have t2 : lat ((snds hs ls).take (j + 1)) = latS (lat ((snds hs ls).take j)) u := by rw [t1]; unfold lat; rw [List.foldl_append]; rfl
      have t3 : flips ((snds hs ls).take (j + 1)) ls = flipS (flips ((snds hs ls).take j) ls) u := by rw [t1]; unfold flips; rw [List.foldl_append]; rfl
      rw [t2, t3])
  rw [Nat.zero_add, List.length_map, List.take_length] at e'
  have q1 := lat_len (snds hs ls)
  have q2 := flips_len (snds hs ls) ls
  have lc1 : ∀ (o : D) (B : D), lcE (dkI itmsG (gts 1)) (tgT [tgN 3, tgN 7]) (tru (op2 gtG (gts 7) (pur (.int 0)))) (apA tupG (consA (gts 3) (consA (gts 7) (pur [])))) [3, 7] [some o, some (.dk (emb (lat (snds hs ls)))), some B, d3, d4, d5, d6, d7, none] = .ok (.lst (((lat (snds hs ls)).filter fun p => decide (0 < p.2)).map pairI)) [some o, some (.dk (emb (lat (snds hs ls)))), some B, d3, d4, d5, d6, d7, none] := fun o B => by
    refine lcE_ok' (ds := (lat (snds hs ls)).map pairI) (by simp [itmsG_emb]) ?_ (by rw [List.length_map]; omega)
    rw [← items_pos]
    refine lcP_fm fun d hd => ?_
    obtain ⟨p, _, rfl⟩ := List.mem_map.mp hd
    by_cases h : 0 < p.2 <;> simp -implicitDefEqProofs [Vl.lc1, pairI, fPos, h, tupG_ok]
  have lc2 : ∀ (o : D) (B : D), lcE (dkI itmsG (gts 2)) (tgT [tgN 3, tgN 8]) (tru (gts 8)) (gts 3) [3, 8] [some o, some B, some (.dk (embB (flips (snds hs ls) ls))), d3, d4, d5, d6, d7, none] = .ok (.lst ((((flips (snds hs ls) ls).filter fun p => decide (p.2 ≠ 0)).map Prod.fst).map D.int)) [some o, some B, some (.dk (embB (flips (snds hs ls) ls))), d3, d4, d5, d6, d7, none] := fun o B => by
    refine lcE_ok' (ds := (flips (snds hs ls) ls).map pairB) (by simp [itmsG_embB]) ?_ (by rw [List.length_map]; omega)
    rw [← items_on]
    refine lcP_fm fun d hd => ?_
    obtain ⟨p, _, rfl⟩ := List.mem_map.mp hd
    by_cases h : p.2 = 0 <;> simp -implicitDefEqProofs [Vl.lc1, pairB, fOn, h]
  have s1 := sortedAG_p (ps := (lat (snds hs ls)).filter fun p => decide (0 < p.2))
  have s2 := sortedAG_i (ns := ((flips (snds hs ls) ls).filter fun p => decide (p.2 ≠ 0)).map Prod.fst)
  have u1 : tupleG [.lst ((adv hs ls).map pairI)] = some (.tup ((adv hs ls).map pairI)) := rfl
  have u2 : tupleG [.lst ((flp hs ls).map .int)] = some (.tup ((flp hs ls).map .int)) := rfl
  rw [show srtP ((lat (snds hs ls)).filter fun p => decide (0 < p.2)) = adv hs ls from rfl] at s1
  rw [show srtL (((flips (snds hs ls) ls).filter fun p => decide (p.2 ≠ 0)).map Prod.fst) = flp hs ls from rfl] at s2
  have p1 : setFG ["Line"] "heaps" (lnD hs ls k) (.tup ((adv hs ls).map pairI)) = some (lnD (adv hs ls) ls k) := put_heaps
  have p2 : setFG ["Line"] "lefts" (lnD (adv hs ls) ls k) (.tup ((flp hs ls).map .int)) = some (lnD (adv hs ls) (flp hs ls) k) := put_lefts
  have ft2 := fld_tick (hs := adv hs ls) (ls := flp hs ls) (t := k)
  have p3 : setFG ["Line"] "tick" (lnD (adv hs ls) (flp hs ls) k) (.int (k + 1)) = some (lnD (adv hs ls) (flp hs ls) (k + 1)) := put_tick
  have ft3 := fld_tick (hs := adv hs ls) (ls := flp hs ls) (t := k + 1)
  unfold advB innA at e'
  rw [show emb [] = [] from rfl] at e'
  generalize lnD hs ls k = L0 at *
  generalize lnD (adv hs ls) ls k = L1 at *
  generalize lnD (adv hs ls) (flp hs ls) k = L2' at *
  generalize lnD (adv hs ls) (flp hs ls) (k + 1) = L3 at *
  generalize emb (lat (snds hs ls)) = E1 at *
  generalize embB (flips (snds hs ls) ls) = E2 at *
  generalize (((lat (snds hs ls)).filter fun p => decide (0 < p.2)).map pairI) = A1 at *
  generalize ((((flips (snds hs ls) ls).filter fun p => decide (p.2 ≠ 0)).map Prod.fst).map D.int) = A2 at *
  generalize (adv hs ls).map pairI = B1 at *
  generalize (flp hs ls).map D.int = B2 at *
  generalize hs.map pairI = C1 at *
  generalize ls.map D.int = C2 at *
  generalize (snds hs ls).map trip = C3 at *
  simp -implicitDefEqProofs [m_Line_advance, g_Line_advance, parM, setA, dc, so, fh, fl, ft, itemsG, e', setF, lc1, lc2, s1, s2, u1, u2, p1, p2, p3, ft2, ft3]
end Pk

set_option Elab.async false
set_option linter.all false
set_option maxRecDepth 100000
set_option maxHeartbeats 4000000
set_option exponentiation.threshold 20000
/-! fractions: what the package's defs compute of Rat -/
namespace Pk
open PySem PySem.Spec L2 Vl
variable {p q : Rat}
theorem at0 {x y : D} : L2.atI [x, y] 0 = some x := rfl
theorem at1 {x y : D} : L2.atI [x, y] 1 = some y := rfl
theorem log_sz {n k : Nat} (h : n < 2 ^ k) : n.log2 ≤ k := by
  by_cases h0 : n = 0
  · subst h0; simp
  · exact Nat.le_of_lt ((Nat.log2_lt h0).mpr h)
theorem mul_sz {a b : Int} (ha : a.natAbs < 2 ^ 4000) (hb : b.natAbs < 2 ^ 4000) : mulI [.int a, .int b] = some (.int (a * b)) := by
  refine mulI_w ?_
  have h1 := log_sz ha
  have h2 := log_sz hb
  omega
theorem den_nat (q : Rat) {n : Nat} (h : Sz q n) : ((q.den : Int)).natAbs < 2 ^ n := by rw [Int.natAbs_natCast]; exact h.2
theorem den_posI (q : Rat) : (0 : Int) < q.den := by have := q.den_pos; omega
theorem both_eq (hp : Sz p 4000) (hq : Sz q 4000) : m_both [frq p, frq q] = .ok (frq (p + q)) [] := by
  have l := least_pair_eq (u := p.num * q.den + q.num * p.den) (d := p.den * q.den) (Int.mul_pos (den_posI p) (den_posI q)) (den_small hp hq)
  rw [add_lp] at l
  have m1 := mul_sz hp.1 (den_nat q hq)
  have m2 := mul_sz hq.1 (den_nat p hp)
  have m3 := mul_sz (den_nat p hp) (den_nat q hq)
  unfold frq at l ⊢
  simp -implicitDefEqProofs [m_both, g_both, at0, at1, m1, m2, m3, l]
theorem times_eq (hp : Sz p 4000) (hq : Sz q 4000) : m_times [frq p, frq q] = .ok (frq (p * q)) [] := by
  have l := least_pair_eq (u := p.num * q.num) (d := p.den * q.den) (Int.mul_pos (den_posI p) (den_posI q)) (den_small hp hq)
  rw [mul_lp] at l
  have m1 := mul_sz hp.1 hq.1
  have m3 := mul_sz (den_nat p hp) (den_nat q hq)
  unfold frq at l ⊢
  simp -implicitDefEqProofs [m_times, g_times, at0, at1, m1, m3, l]
theorem turned_eq : m_turned [frq q] = .ok (frq (-q)) [] := by
  have e : frq (-q) = .tup [.int (-q.num), .int q.den] := by unfold frq; rw [Rat.neg_num, Rat.neg_den]
  have t2 : ∀ a b : D, tupG [a, b] = some (.tup [a, b]) := fun _ _ => rfl
  rw [e]
  unfold frq
  simp -implicitDefEqProofs [m_turned, g_turned, at0, at1, t2]
theorem isHp_frq : IsHp (frq q) (q.num, q.den) := .inl rfl
theorem is_fraction_eq : m_is_fraction [frq q] = .ok (.bl true) [] := by
  have a := are_two (isHp_frq (q := q))
  have h0 := den_posI q
  have hg : Nat.gcd q.num.natAbs ((q.den : Int)).natAbs = 1 := by rw [Int.natAbs_natCast]; exact q.reduced
  have hgt : gtG [.int q.den, .int 0] = some (.bl true) := by rw [gtG_i, decide_eq_true h0]
  have hgc : gcdG [.int q.num, .int q.den] = some (.int 1) := by rw [gcdG_i, hg]; rfl
  unfold frq at a ⊢
  simp -implicitDefEqProofs [m_is_fraction, g_is_fraction, a, at0, at1, hgt, hgc]
theorem need_fraction_eq {x : Str} : m_need_fraction [frq q, .str x] = .ok (frq q) [] := by
  have f := is_fraction_eq (q := q)
  have t2 : ∀ a b : D, tupG [a, b] = some (.tup [a, b]) := fun _ _ => rfl
  unfold frq at f ⊢
  simp -implicitDefEqProofs [m_need_fraction, g_need_fraction, f, at0, at1, t2]
theorem less_eq (hp : Sz p 4000) (hq : Sz q 4000) : m_less [frq p, frq q] = .ok (frq (p - q)) [] := by
  have n1 := need_fraction_eq (q := p) (x := "one")
  have n2 := need_fraction_eq (q := q) (x := "other")
  have t := turned_eq (q := q)
  have b := both_eq hp hq.neg
  rw [← Rat.sub_eq_add_neg] at b
  simp -implicitDefEqProofs [m_less, g_less, n1, n2, t, b]
theorem added_eq (hp : Sz p 4000) (hq : Sz q 4000) : m_added [frq p, frq q] = .ok (frq (p + q)) [] := by
  have n1 := need_fraction_eq (q := p) (x := "one")
  have n2 := need_fraction_eq (q := q) (x := "other")
  have b := both_eq hp hq
  simp -implicitDefEqProofs [m_added, g_added, n1, n2, b]
theorem multiplied_eq (hp : Sz p 4000) (hq : Sz q 4000) : m_multiplied [frq p, frq q] = .ok (frq (p * q)) [] := by
  have n1 := need_fraction_eq (q := p) (x := "one")
  have n2 := need_fraction_eq (q := q) (x := "other")
  have b := times_eq hp hq
  simp -implicitDefEqProofs [m_multiplied, g_multiplied, n1, n2, b]
theorem eq_frq : eqP (frq p) (frq q) = some (decide (p = q)) := by
  have s1 : SeqAt.shaped (.tuple [.int p.num, .int p.den]) = true := frq_shaped p
  have s2 : SeqAt.shaped (.tuple [.int q.num, .int q.den]) = true := frq_shaped q
  simp only [eqP, frq_py, Option.bind_some, s1, s2, and_self, if_true]
  congr 1
  simp only [PyData.eqv, PyData.eqvAll, Bool.and_true]
  by_cases h : p = q
  · subst h; simp
  · have : ¬ (p.num = q.num ∧ (p.den : Int) = q.den) := fun ⟨a, b⟩ => h (Rat.ext a (by omega))
    simp only [h, decide_false]
    simpa using this
theorem neG_frq : neG [frq p, frq q] = some (.bl (!decide (p = q))) := by
  have e := eq_frq (p := p) (q := q)
  unfold frq at e ⊢
  simp only [neG, e, Option.map_some]
theorem eqG_frq : eqG [frq p, frq q] = some (.bl (decide (p = q))) := by
  have e := eq_frq (p := p) (q := q)
  unfold frq at e ⊢
  simp only [eqG, e, Option.map_some]
theorem frq_int (n : Int) : D.tup [.int n, .int 1] = frq (n : Rat) := rfl
theorem sz_int {n : Int} {k : Nat} (h : n.natAbs < 2 ^ k) (hk : 0 < k) : Sz (n : Rat) k := ⟨h, by show 1 < 2 ^ k; exact Nat.one_lt_two_pow (by omega)⟩
end Pk

set_option Elab.async false
set_option linter.all false
set_option maxRecDepth 100000
set_option maxHeartbeats 4000000
set_option exponentiation.threshold 20000
/-! lines behind some ticks; gaps -/
namespace Pk
open PySem PySem.Spec L2 Vl
variable {l hs : LI} {ls : List Int} {t : Nat} {s : S}
theorem nd_sub' : ∀ (xs ys : List Int), xs.Nodup → (∀ x ∈ xs, x ∈ ys) → xs.length ≤ ys.length
  | [], _, _, _ => Nat.zero_le _
  | x :: xs, ys, nd, h => by
    rw [List.nodup_cons] at nd
    have hx := h x List.mem_cons_self
    have h2 := nd_sub' xs (ys.erase x) nd.2 fun y hy => (List.mem_erase_of_ne (fun e : y = x => nd.1 (e ▸ hy))).mpr (h y (List.mem_cons_of_mem _ hy))
    have h3 := List.length_erase_of_mem hx
    have h4 : 0 < ys.length := List.length_pos_of_mem hx
    rw [List.length_cons]; omega
/-! ### what a tick does -/
theorem sndOf_1 {p : Int × Int} : (sndOf ls p).1 = p.1 := by unfold sndOf; split <;> rfl
theorem sndOf_sum {p : Int × Int} : (sndOf ls p).2.1 + (sndOf ls p).2.2 = p.2 := by unfold sndOf; split <;> (dsimp only; omega)
theorem sndOf_pos {p : Int × Int} (h : 0 ≤ p.2) : 0 ≤ (sndOf ls p).2.1 ∧ 0 ≤ (sndOf ls p).2.2 := by unfold sndOf; split <;> (dsimp only; omega)
theorem sndOf_ne {p : Int × Int} : (sndOf ls p).2.1 ≠ (sndOf ls p).2.2 ↔ p.2 % 2 = 1 := by unfold sndOf; split <;> (dsimp only; omega)
theorem sndOf_in {p : Int × Int} (h : p.1 ∈ ls) : sndOf ls p = (p.1, p.2 - p.2 / 2, p.2 / 2) := if_pos h
theorem sndOf_out {p : Int × Int} (h : ¬ p.1 ∈ ls) : sndOf ls p = (p.1, p.2 / 2, p.2 - p.2 / 2) := if_neg h
theorem snds_pos (hp : ∀ p ∈ hs, 0 ≤ p.2) : ∀ t ∈ snds hs ls, 0 ≤ t.2.1 ∧ 0 ≤ t.2.2 := fun t ht => by
  obtain ⟨p, h, rfl⟩ := List.mem_map.mp ht
  exact sndOf_pos (hp p h)
theorem adv_perm : (adv hs ls).Perm ((lat (snds hs ls)).filter fun p => decide (0 < p.2)) := srtP_perm _
theorem adv_nd : NdK (adv hs ls) := (adv_perm.map Prod.fst).nodup_iff.mpr (nd_filter (lat_nd _))
theorem adv_pos {p : Int × Int} (h : p ∈ adv hs ls) : 0 < p.2 := by
  have := (List.mem_filter.mp (adv_perm.mem_iff.mp h)).2
  simpa using this
theorem LS_adv {h : Int → Int} (hp : ∀ p ∈ hs, 0 ≤ p.2) : LS h (adv hs ls) = (hs.map fun p => (sndOf ls p).2.1 * h (p.1 - 1) + (sndOf ls p).2.2 * h (p.1 + 1)).sum := by
  rw [LS_perm adv_perm, LS_filter (lat_pos (snds_pos hp)), LS_lat]
  unfold snds
  rw [List.map_map]
  congr 1
  refine List.map_congr_left fun p _ => ?_
  show (sndOf ls p).2.1 * h ((sndOf ls p).1 - 1) + (sndOf ls p).2.2 * h ((sndOf ls p).1 + 1) = _
  rw [sndOf_1]
theorem adv_key {x : Int} (h : x ∈ (adv hs ls).map Prod.fst) : ∃ p ∈ hs, x = p.1 - 1 ∨ x = p.1 + 1 := by
  obtain ⟨q, hq, rfl⟩ := List.mem_map.mp h
  have h2 := (List.mem_filter.mp (adv_perm.mem_iff.mp hq)).1
  obtain ⟨t, ht, e⟩ := lat_key (List.mem_map.mpr ⟨q, h2, rfl⟩)
  obtain ⟨p, hp, rfl⟩ := List.mem_map.mp ht
  rw [sndOf_1] at e
  exact ⟨p, hp, e⟩
theorem flp_perm : (flp hs ls).Perm (((flips (snds hs ls) ls).filter fun p => decide (p.2 ≠ 0)).map Prod.fst) := srtL_perm _
theorem flp_nd : (flp hs ls).Nodup := flp_perm.nodup_iff.mpr (nd_filter (flips_nd _ _))
theorem lval_mem {x v : Int} : ∀ {r : LI}, NdK r → (x, v) ∈ r → lval r x = v
  | [], _, h => nomatch h
  | p :: r, nd, h => by
    rw [NdK, List.map_cons, List.nodup_cons] at nd
    rw [lval]
    rcases List.mem_cons.mp h with e | h
    · subst e
      rw [if_pos rfl, lval_not nd.1, Int.add_zero]
    · have hx : ¬ p.1 = x := fun e => nd.1 (e ▸ List.mem_map.mpr ⟨(x, v), h, rfl⟩)
      rw [if_neg hx, lval_mem nd.2 h, Int.zero_add]
theorem lval_ne {x : Int} {r : LI} (nd : NdK r) : lval r x ≠ 0 ↔ ∃ v, v ≠ 0 ∧ (x, v) ∈ r := by
  constructor
  · intro h
    have hx : x ∈ r.map Prod.fst := Classical.byContradiction fun z => h (lval_not z)
    obtain ⟨q, hq, e⟩ := List.mem_map.mp hx
    subst e
    exact ⟨q.2, by rw [← lval_mem nd hq]; exact h, hq⟩
  · rintro ⟨v, hv, h⟩
    rw [lval_mem nd h]; exact hv
/-- a hand is turned where an odd heap lies -/
theorem mem_flp {x : Int} (nd : NdK hs) : x ∈ flp hs ls ↔ ¬ (x ∈ ls ↔ lval hs x % 2 = 1) := by
  have h1 : x ∈ flp hs ls ↔ lval (flips (snds hs ls) ls) x ≠ 0 := by
    rw [flp_perm.mem_iff, lval_ne (flips_nd _ _)]
    constructor
    · intro h
      obtain ⟨p, hp, e⟩ := List.mem_map.mp h
      obtain ⟨h2, h3⟩ := List.mem_filter.mp hp
      subst e
      exact ⟨p.2, by simpa using h3, h2⟩
    · rintro ⟨v, hv, h⟩
      exact List.mem_map.mpr ⟨(x, v), List.mem_filter.mpr ⟨h, by simpa using hv⟩, rfl⟩
  have hn : ((snds hs ls).map (·.1)).Nodup := by
    have : (snds hs ls).map (·.1) = hs.map Prod.fst := by
      unfold snds
      rw [List.map_map]
      exact List.map_congr_left fun p _ => sndOf_1
    rw [this]; exact nd
  rw [h1]
  unfold flips
  rw [lval_flips' _ _ (ones_nd ls) hn, lval_ones]
  have h2 : (if x ∈ ls then (1 : Int) else 0) ≠ 0 ↔ x ∈ ls := by split <;> simp [*]
  have h3 : (∃ t ∈ snds hs ls, t.1 = x ∧ t.2.1 ≠ t.2.2) ↔ lval hs x % 2 = 1 := by
    constructor
    · rintro ⟨t, ht, e, ne⟩
      obtain ⟨p, hp, rfl⟩ := List.mem_map.mp ht
      rw [sndOf_1] at e
      subst e
      rw [lval_mem nd hp]
      exact sndOf_ne.mp ne
    · intro h
      obtain ⟨v, hv, hm⟩ := (lval_ne nd).mp (show lval hs x ≠ 0 by omega)
      refine ⟨_, List.mem_map.mpr ⟨_, hm, rfl⟩, sndOf_1, sndOf_ne.mpr ?_⟩
      rw [lval_mem nd hm] at h
      exact h
  rw [h2, h3]
/-! ### some ticks -/
abbrev LSt := LI × List Int
def nxt (st : LSt) : LSt := (adv st.1 st.2, flp st.1 st.2)
def run : Nat → LSt → LSt
  | 0, st => st
  | n + 1, st => nxt (run n st)
/-- what stands behind n ticks of a start -/
structure Beh (l : LI) (ls : List Int) (n : Nat) (st : LSt) : Prop where
  nd : NdK st.1
  pos : ∀ p ∈ st.1, 0 < p.2
  ndl : st.2.Nodup
  key : ∀ x ∈ st.1.map Prod.fst, ∃ p ∈ l, p.1 - n ≤ x ∧ x ≤ p.1 + n
  lef : ∀ x ∈ st.2, x ∈ ls ∨ ∃ p ∈ l, p.1 - n ≤ x ∧ x ≤ p.1 + n
theorem Beh.zero {r : LI} {ms : List Int} (nd : NdK r) (pos : ∀ p ∈ r, 0 < p.2) (ndl : ms.Nodup) (h1 : ∀ p ∈ r, p ∈ l) (h2 : ∀ x ∈ ms, x ∈ ls) : Beh l ls 0 (r, ms) where
  nd := nd
  pos := pos
  ndl := ndl
  key := fun x hx => by
    obtain ⟨p, hp, rfl⟩ := List.mem_map.mp hx
    exact ⟨p, h1 p hp, by omega, by omega⟩
  lef := fun x hx => .inl (h2 x hx)
theorem Beh.nxt {n : Nat} {st : LSt} (h : Beh l ls n st) : Beh l ls (n + 1) (nxt st) where
  nd := adv_nd
  pos := fun p hp => adv_pos hp
  ndl := flp_nd
  key := fun x hx => by
    obtain ⟨p, hp, e⟩ := adv_key hx
    obtain ⟨q, hq, h1, h2⟩ := h.key p.1 (List.mem_map.mpr ⟨p, hp, rfl⟩)
    exact ⟨q, hq, by omega, by omega⟩
  lef := fun x hx => by
    have z := (mem_flp h.nd).mp hx
    by_cases hl : x ∈ st.2
    · rcases h.lef x hl with e | ⟨p, hp, h1, h2⟩
      · exact .inl e
      · exact .inr ⟨p, hp, by omega, by omega⟩
    · have h1 : lval st.1 x % 2 = 1 := Classical.byContradiction fun w => z ⟨fun y => absurd y hl, fun y => absurd y w⟩
      have hx' : x ∈ st.1.map Prod.fst := Classical.byContradiction fun w => by rw [lval_not w] at h1; omega
      obtain ⟨q, hq, h2, h3⟩ := h.key x hx'
      exact .inr ⟨q, hq, by omega, by omega⟩
theorem Beh.run {st : LSt} (h : Beh l ls 0 st) : ∀ n, Beh l ls n (run n st)
  | 0 => h
  | n + 1 => (Beh.run h n).nxt
def nears (n : Nat) (p : Int × Int) : List Int := (List.range (2 * n + 1)).map fun (k : Nat) => p.1 - n + k
theorem mem_nears {n : Nat} {p : Int × Int} {x : Int} (h1 : p.1 - n ≤ x) (h2 : x ≤ p.1 + n) : x ∈ nears n p := by
  unfold nears
  exact List.mem_map.mpr ⟨(x - (p.1 - n)).toNat, List.mem_range.mpr (by omega), by omega⟩
theorem nears_len (n : Nat) : ∀ l : LI, (l.flatMap (nears n)).length = l.length * (2 * n + 1)
  | [] => by simp
  | p :: l => by
    rw [List.flatMap_cons, List.length_append, nears_len n l, List.length_cons, Nat.add_mul, Nat.one_mul]
    unfold nears
    rw [List.length_map, List.length_range]; omega
theorem Beh.len {n : Nat} {st : LSt} (h : Beh l ls n st) : st.1.length ≤ l.length * (2 * n + 1) ∧ st.2.length ≤ ls.length + l.length * (2 * n + 1) := by
  constructor
  · have z := nd_sub' _ (l.flatMap (nears n)) h.nd fun x hx => by
      obtain ⟨p, hp, h1, h2⟩ := h.key x hx
      exact List.mem_flatMap.mpr ⟨p, hp, mem_nears h1 h2⟩
    rwa [nears_len, List.length_map] at z
  · have z := nd_sub' _ (ls ++ l.flatMap (nears n)) h.ndl fun x hx => by
      rcases h.lef x hx with e | ⟨p, hp, h1, h2⟩
      · exact List.mem_append.mpr (.inl e)
      · exact List.mem_append.mpr (.inr (List.mem_flatMap.mpr ⟨p, hp, mem_nears h1 h2⟩))
    rwa [List.length_append, nears_len] at z
theorem Beh.small {n : Nat} {st : LSt} (h : Beh l ls n st) (hl : l.length ≤ 60) (hls : ls.length ≤ 400) (hn : n ≤ 200) : st.1.length ≤ 200000 ∧ st.2.length ≤ 200000 := by
  obtain ⟨h1, h2⟩ := h.len
  have h3 : l.length * (2 * n + 1) ≤ 60 * 401 := Nat.mul_le_mul hl (by omega)
  omega
/-! ### the defs -/
theorem callW0 {F : List D → OF} {P P' d r : D} {rest : S} (h : F [P] = .ok r [P']) : callW [some 0] F [d] (some P :: rest) = .ok r (some P' :: rest) :=
  callW_ok (es := [P]) (outs := [P']) rfl h rfl
theorem callW01 {F : List D → OF} {P P' d e r : D} {rest : S} (h : F [P, e] = .ok r [P']) : callW [some 0, none] F [d, e] (some P :: rest) = .ok r (some P' :: rest) :=
  callW_ok (es := [P, e]) (outs := [P']) rfl h rfl
theorem callW3 {F : List D → OF} {P P' d e r : D} {a b c : Option D} {rest : S} (h : F [P, e] = .ok r [P']) : callW [some 3, none] F [d, e] (a :: b :: c :: some P :: rest) = .ok r (a :: b :: c :: some P' :: rest) :=
  callW_ok (es := [P, e]) (outs := [P']) rfl h rfl
theorem heap_at_eq {k x : Int} (nd : NdK hs) : m_Line_heap_at [lnD hs ls k, .int x] = .ok (.int (lval hs x)) [] := by
  have n0 := need_any (i := x) (x := "spot")
  have f := fld_heaps (hs := hs) (ls := ls) (t := k)
  have dg : dictAG [.tup (hs.map pairI)] = some (.dk (emb hs)) := by rw [dictAG_t, pairsD_pr, Option.map_some, merge_emb nd]
  have g := getG_emb (z := x) nd
  generalize lnD hs ls k = L0 at *
  generalize hs.map pairI = A at *
  generalize emb hs = B at *
  simp -implicitDefEqProofs [m_Line_heap_at, g_Line_heap_at, n0, f, dg, g]
theorem forward_eq {k : Int} {n : Nat} {st : LSt} (h : Beh l ls 0 st) (hl : l.length ≤ 60) (hls : ls.length ≤ 400) (hn : n ≤ 200) : m_Line_forward [lnD st.1 st.2 k, .int n] = .ok (.int (k + n)) [lnD (run n st).1 (run n st).2 (k + n)] := by
  have n0 := need_number_i (i := (n : Int)) (x := "many") (lo := 0) (hi := 200) (by omega) (by omega)
  have r1 := rng1_ok (n := n) (by omega)
  obtain ⟨s', e', y, rfl⟩ := forL_inv (tf := tgN 2) (b := dropM (callQ [some 0] m_Line_advance (consA (op1 (insG "Line" "advance") (gts 0)) (pur [])))) (fun j s => ∃ y, s = [some (lnD (run j st).1 (run j st).2 (k + j)), some (.int n), y])
    (stepsD 0 1 n) 0 [some (lnD st.1 st.2 k), some (.int n), none] ⟨none, by simp [run]⟩ (fun j d s hj hs' => by
      obtain ⟨y, rfl⟩ := hs'
      obtain ⟨rfl, hjn⟩ := steps_at hj
      rw [Nat.zero_add]
      obtain ⟨b1, b2⟩ := (h.run j).small hl hls (by omega)
      have a := advance_eq (hs := (run j st).1) (ls := (run j st).2) (k := k + j) b1 b2
      have ia := ins_adv (hs := (run j st).1) (ls := (run j st).2) (t := k + j)
      refine ⟨[some (lnD (run j st).1 (run j st).2 (k + j)), some (.int n), some (.int j)], _, by rw [Int.zero_add]; rfl, .inl ?_, some (.int j), rfl⟩
      have e : (k + ((j + 1 : Nat) : Int)) = k + j + 1 := by omega
      rw [e]
      have w := callW0 (d := lnD (run j st).1 (run j st).2 (k + j)) (rest := [some (.int n), some (.int j)]) a
      show dropM _ [some (lnD (run j st).1 (run j st).2 (k + j)), some (.int n), some (.int j)] = SO.nx [some (lnD (run (j + 1) st).1 (run (j + 1) st).2 (k + j + 1)), some (.int n), some (.int j)]
      have e2 : lnD (adv (run j st).1 (run j st).2) (flp (run j st).1 (run j st).2) (k + j + 1) = lnD (run (j + 1) st).1 (run (j + 1) st).2 (k + j + 1) := rfl
      rw [e2] at w
      generalize lnD (run j st).1 (run j st).2 (k + j) = L0 at *
      generalize lnD (run (j + 1) st).1 (run (j + 1) st).2 (k + j + 1) = L1 at *
      simp -implicitDefEqProofs [ia, w])
  rw [Nat.zero_add, steps_len] at e'
  have ft := fld_tick (hs := (run n st).1) (ls := (run n st).2) (t := k + n)
  generalize lnD (run n st).1 (run n st).2 (k + n) = L1 at *
  generalize lnD st.1 st.2 k = L0 at *
  simp -implicitDefEqProofs [m_Line_forward, g_Line_forward, n0, r1, e', ft]
theorem srtP_idem : srtP (srtP l) = srtP l := (srtP_uniq (List.Perm.refl _) (srtP_sorted l)).symm
theorem srtL_idem : srtL (srtL ls) = srtL ls := (srtL_uniq (List.Perm.refl _) (srtL_sorted ls)).symm
/-- a start as it is kept -/
abbrev st0 (l : LI) (ls : List Int) : LSt := (srtP l, srtL ls)
theorem beh0 (ok : HpOk l) (ok2 : LfOk ls) : Beh l ls 0 (st0 l ls) :=
  .zero ((srtP_perm l).map Prod.fst |>.nodup_iff.mpr ok.nd) (fun p hp => by have := ok.many p ((srtP_perm l).mem_iff.mp hp); omega) ((srtL_perm ls).nodup_iff.mpr ok2.nd) (fun p hp => (srtP_perm l).mem_iff.mp hp) fun x hx => (srtL_perm ls).mem_iff.mp hx
theorem line_behind_eq {n : Nat} {d e : D} (h1 : IsHs d l) (ok : HpOk l) (h2 : IsLf e ls) (ok2 : LfOk ls) (hn : n ≤ 200) : m_line_behind [d, e, .int n] = .ok (lnD (run n (st0 l ls)).1 (run n (st0 l ls)).2 n) [] := by
  have mk := fun s => make_eq (s := s) h1 ok h2 ok2
  have f := forward_eq (k := 0) (n := n) (beh0 ok ok2) ok.len ok2.len hn
  rw [Int.zero_add] at f
  have fi := ins_fwd (hs := srtP l) (ls := srtL ls) (t := 0)
  have w := callW3 (d := lnD (srtP l) (srtL ls) 0) (a := some d) (b := some e) (c := some (.int n)) (rest := []) f
  generalize lnD (run n (st0 l ls)).1 (run n (st0 l ls)).2 n = L1 at *
  generalize lnD (srtP l) (srtL ls) 0 = L0 at *
  simp -implicitDefEqProofs [m_line_behind, g_line_behind, mk, fi, w]
/-- the gap of a spot behind n ticks -/
def gapQ (l : LI) (ls : List Int) (n : Nat) (x : Int) : Rat := (lval (run n (st0 l ls)).1 x : Rat) - mn l n x
theorem gap_in_eq {m : Int} {q : Rat} (hm : m.natAbs < 2 ^ 4000) (hq : Sz q 4000) : m_gap_in [.int m, frq q] = .ok (frq ((m : Rat) - q)) [] := by
  have t2 : tupG [.int m, .int 1] = some (frq (m : Rat)) := rfl
  have b := both_eq (sz_int hm (by decide)) hq.neg
  have t := turned_eq (q := q)
  rw [← Rat.sub_eq_add_neg] at b
  simp -implicitDefEqProofs [m_gap_in, g_gap_in, t2, b, t]
theorem IsLf.srt : IsLf (.tup ((srtL ls).map .int)) (srtL ls) := .inr rfl
theorem gap_at_eq {n : Nat} {d e : D} {x : Int} (h1 : IsHs d l) (ok : HpOk l) (h2 : IsLf e ls) (ok2 : LfOk ls) (hn : n ≤ 60) (hb : (lval (run n (st0 l ls)).1 x).natAbs < 2 ^ 4000) (hq : Sz (mn l n x) 4000) : m_gap_at [d, e, .int x, .int n] = .ok (frq (gapQ l ls n x)) [] := by
  have okK := ok.perm (srtP_perm l)
  have okL := ok2.perm (srtL_perm ls)
  have nh := need_heaps_eq (x := "heaps") h1 ok
  have nl := need_lefts_eq (x := "lefts") h2 ok2
  have n0 := need_any (i := x) (x := "spot")
  have nn := need_number_i (i := (n : Int)) (x := "ticks") (lo := 0) (hi := 60) (by omega) (by omega)
  have so := spots_of_eq (srtP l) (by have := okK.len; omega)
  have nc := need_colour_eq (xs := (srtP l).map Prod.fst) (by rw [List.length_map]; have := okK.len; omega) fun x hx y hy => by
    obtain ⟨p, hp, rfl⟩ := List.mem_map.mp hx
    obtain ⟨q, hq, rfl⟩ := List.mem_map.mp hy
    exact okK.col p hp q hq
  have lb := line_behind_eq (n := n) (isHs_prs (srtP l)) okK (IsLf.srt (ls := ls)) okL (by omega)
  have e0 : st0 (srtP l) (srtL ls) = st0 l ls := by unfold st0; rw [srtP_idem, srtL_idem]
  rw [e0] at lb
  have hp := heap_at_eq (ls := (run n (st0 l ls)).2) (k := n) (x := x) ((beh0 ok ok2).run n).nd
  have ia := ins_at (hs := (run n (st0 l ls)).1) (ls := (run n (st0 l ls)).2) (t := n)
  have mi := mean_in_eq (l := srtP l) (t := n) (x := x) (by omega) (by have := okK.len; omega) fun p hp => by have := okK.many p hp; omega
  rw [mn_perm (srtP_perm l)] at mi
  have gi := gap_in_eq hb hq
  rw [show ((lval (run n (st0 l ls)).1 x : Int) : Rat) - mn l n x = gapQ l ls n x from rfl] at gi
  generalize lnD (run n (st0 l ls)).1 (run n (st0 l ls)).2 n = L1 at *
  generalize D.tup ((srtP l).map pairI) = K at *
  generalize D.tup ((srtL ls).map .int) = K2 at *
  generalize ((srtP l).map Prod.fst).map D.int = C at so nc
  simp -implicitDefEqProofs [m_gap_at, g_gap_at, parM, setA, nh, nl, n0, nn, so, nc, lb, ia, hp, mi, gi]
end Pk

set_option Elab.async false
set_option linter.all false
set_option maxRecDepth 100000
set_option maxHeartbeats 4000000
set_option exponentiation.threshold 20000
/-! sizes of means; shares by one tick more -/
namespace Pk
open PySem PySem.Spec L2 Vl
theorem SS_nonneg {l : LI} (hm : ∀ p ∈ l, 0 ≤ p.2) (t : Nat) (x : Int) : 0 ≤ SS l t x := by
  unfold SS
  induction l with
  | nil => exact Int.le_refl _
  | cons p l ih =>
    rw [List.map_cons, List.sum_cons]
    have h1 := ih fun q hq => hm q (List.mem_cons_of_mem _ hq)
    have h2 := Int.mul_nonneg (hm p List.mem_cons_self) (wk_nonneg t (x - p.1))
    omega
/-- the least fraction of what the dict holds -/
theorem SS_le {l : LI} (hm : ∀ p ∈ l, 0 ≤ p.2 ∧ p.2 ≤ mostC) (t : Nat) (x : Int) : SS l t x ≤ l.length * (mostC * 2 ^ t) := by
  unfold SS
  induction l with
  | nil => simp
  | cons p l ih =>
    rw [List.map_cons, List.sum_cons, List.length_cons]
    have h1 := ih fun q hq => hm q (List.mem_cons_of_mem _ hq)
    have h2 := hm p List.mem_cons_self
    have h3 : p.2 * wk t (x - p.1) ≤ mostC * 2 ^ t := Int.mul_le_mul h2.2 (wk_le t _) (wk_nonneg t _) (by omega)
    have e : ((l.length + 1 : Nat) : Int) * (mostC * 2 ^ t) = l.length * (mostC * 2 ^ t) + mostC * 2 ^ t := by
      rw [show ((l.length + 1 : Nat) : Int) = (l.length : Int) + 1 by omega, Int.add_mul, Int.one_mul]
    omega
theorem sz_mn {l : LI} (hl : l.length ≤ 60) (hm : ∀ p ∈ l, 0 ≤ p.2 ∧ p.2 ≤ mostC) {t : Nat} (ht : t ≤ 400) (x : Int) : Sz (mn l t x) 1900 := by
  have h0 := SS_nonneg (l := l) (fun p hp => (hm p hp).1) t x
  have h1 := SS_le hm t x
  obtain ⟨n1, n2⟩ := num_le (SS l t x) (2 ^ t) (Int.pow_pos (by decide))
  have p1 : (2 : Int) ^ t ≤ 2 ^ 400 := by
    have := Nat.pow_le_pow_right (n := 2) (by decide) ht
    have e : ∀ k : Nat, (2 : Int) ^ k = ((2 ^ k : Nat) : Int) := fun k => by simp
    rw [e, e]; omega
  have p0 : (0 : Int) < 2 ^ t := Int.pow_pos (by decide)
  have b1 : SS l t x ≤ 60 * (mostC * 2 ^ 400) := by
    refine Int.le_trans h1 (Int.mul_le_mul (by omega) (Int.mul_le_mul_of_nonneg_left p1 (by decide)) (Int.mul_nonneg (by decide) (by omega)) (by decide))
  have b2 : (60 * (mostC * 2 ^ 400)).natAbs < 2 ^ 1900 := by decide +kernel
  have b3 : ((2 : Int) ^ 400).natAbs < 2 ^ 1900 := by decide +kernel
  refine ⟨Nat.lt_of_le_of_lt n1 ?_, Nat.lt_of_le_of_lt n2 ?_⟩
  · generalize 60 * (mostC * 2 ^ 400) = A at b1 b2
    generalize (2 : Nat) ^ 1900 = B at *
    omega
  · generalize (2 : Int) ^ 400 = A at p1 b3
    generalize (2 : Nat) ^ 1900 = B at *
    omega
theorem fp_step {d : Nat} (hd : 1 ≤ d) (t : Nat) : wk t (d - 1) - wk t (d + 1) = fp (t + 1) d := by
  have h1 := fp_wk (t + 1) d
  have h2 := wk_ratio t ((d : Int) - 1)
  simp only [wk] at h1
  rw [show (d : Int) - 1 + 2 = d + 1 by omega] at h2
  generalize wk t ((d : Int) - 1) = A at *
  generalize wk t ((d : Int) + 1) = B at *
  generalize fp (t + 1) d = F at *
  have h3 : ((t : Int) + 1) * (A - B) = ((t : Int) + 1) * F := by
    have e4 : ((t + 1 : Nat) : Int) = (t : Int) + 1 := by omega
    rw [e4] at h1
    rw [h1]
    have e5 : ((t : Int) - (d - 1)) * A = (t + 1) * A - d * A := by rw [← Int.sub_mul]; congr 1; omega
    have e6 : ((t : Int) + (d - 1) + 2) * B = (t + 1) * B + d * B := by rw [← Int.add_mul]; congr 1; omega
    rw [e5, e6] at h2
    rw [Int.mul_sub, Int.mul_add]
    omega
  exact Int.eq_of_mul_eq_mul_left (by omega) h3
/-- one tick: each spot's rows go both ways -/
noncomputable def innerB : S → SO := (seqM (setI 5 (op2 subG (gts 6) (pur (.int 1))) (bd (op2 addG (getM (gts 5) (op2 subG (gts 6) (pur (.int 1))) (pur (.int 0))) (gts 7)) sca))
  (setI 5 (op2 addG (gts 6) (pur (.int 1))) (bd (op2 addG (getM (gts 5) (op2 addG (gts 6) (pur (.int 1))) (pur (.int 0))) (gts 7)) sca)))
/-! statement by statement -/
theorem sq {f g : S → SO} {s s1 : S} {o : SO} (h : f s = .nx s1) (t : g s1 = o) : seqM f g s = o := by
  rw [seqM_ap, h]; exact t
theorem sr {f g : S → SO} {s s1 : S} {r : D} (h : f s = .ret r s1) : seqM f g s = .ret r s1 := by
  rw [seqM_ap, h]
theorem if_ne {fa fb : PM D} {a b : D} {s : S} {o : S → SO} (h1 : fa s = .ok a s) (h2 : fb s = .ok b s) (h : neG [a, b] = some (.bl false)) : ifM (tru (op2 neG fa fb)) o nxM s = .nx s := by
  rw [ifM_ap, tru_ap, bd_ap, op2_ap, bd_ap, h1]
  dsimp only
  rw [bd_ap, h2]
  dsimp only
  rw [h]
  rfl
theorem run1 {n : Nat} {g : S → SO} {d r : D} {s s' : S} (e : s = some d :: List.replicate n none) (h : g s = .ret r s') : runF (n + 1) (List.replicate 1 .st) .st g [d] = .ok r [] := by
  subst e
  have st : startS (n + 1) [d] = some d :: List.replicate n none := by simp
  rw [runF_ap, st, h]
  rfl
/-- a def whose first of three parameters is changed -/
theorem runW3 {n : Nat} {g : S → SO} {P P' d e r : D} {rest : S} (h : g (some P :: some d :: some e :: List.replicate n none) = .ret r (some P' :: rest)) : runF (n + 3) [.fr, .st, .st] .st g [P, d, e] = .ok r [P'] := by
  have st : startS (n + 3) [P, d, e] = some P :: some d :: some e :: List.replicate n none := by simp
  rw [runF_ap, st, h]
  rfl
theorem two_mul (r : Int) : mulI [.int 2, .int r] = some (.int (2 * r)) := mulI_l (by decide)
theorem frq_half : D.tup [.int 1, .int 2] = frq (1 / 2) := by
  unfold frq
  have h1 : ((1 : Rat) / 2).num = 1 := by decide +kernel
  have h2 : ((1 : Rat) / 2).den = 2 := by decide +kernel
  rw [h1, h2]; rfl
theorem frq_two : D.tup [.int 2, .int 1] = frq 2 := rfl
end Pk

set_option Elab.async false
set_option linter.all false
set_option maxRecDepth 100000
namespace Mk22
open PySem PySem.Spec PyProof.Rows L2 Vl Pk
def topS (i : Nat) : Stmt := PySem.Challenge.pw_nodice_k22_whole_one_chip_sent_towards.main.body.getD i (.Pass ⟨0, 0, 0, 0⟩)
abbrev s__law_culvert : Stmt := topS 68
theorem sc__law_culvert : FnScope ["_law_script", "_law_cell"] ["_law_script"] (defScope s__law_culvert) := ⟨rfl, rfl, rfl, by decide +kernel, rfl, by decide +kernel, by decide +kernel⟩
noncomputable def g__law_culvert : S → SO :=
  (retM (apA lstG (consA (lcE (seqI (slM cutG (gts 0) (pur none) (prtS (pur (.int 60))))) (tgN 1) (pur true) (apA intG (consA (gts 1) (pur []))) [1]) (consA (pur (.int 0)) (consA (pur (.int 0)) (pur []))))))
noncomputable def m__law_culvert : List D → OF := runF 2 (List.replicate 1 .st) .fr g__law_culvert
abbrev s__law_flow : Stmt := topS 69
theorem sc__law_flow : FnScope ["_law_culvert_here", "_law_many", "_law_rest", "_law_at", "_law_cell", "_law_mixed"] ["_law_culvert_here", "_law_many"] (defScope s__law_flow) := ⟨rfl, rfl, rfl, by decide +kernel, rfl, by decide +kernel, by decide +kernel⟩
noncomputable def g__law_flow : S → SO :=
  (seqM (ifM (tru (op2 gtG (op2 ixAG (gts 0) (pur (.int 2))) (pur (.int 0))))
    (seqM (setM 2 (apA intG (consA (op2 ixAG (gts 0) (pur (.int 2))) (pur []))))
  (seqM (setI 0 (pur (.int 2)) (op2 fdivG (gts 2) (gts 1)))
  (retM (op2 modG (apA intG (consA (gts 2) (pur []))) (gts 1)))))
    nxM)
  (seqM (setM 3 (bd (op2 ixAG (gts 0) (pur (.int 1))) sca))
  (seqM (setI 0 (pur (.int 1)) (op2 addG (gts 3) (pur (.int 1))))
  (seqM (ifM (tru (op2 eqG (op2 ixAG (gts 0) (pur (.int 0))) (apA lstG (pur []))))
    (retM (pur (.int 0)))
    nxM)
  (seqM (setM 4 (bd (op2 ixAG (op2 ixAG (gts 0) (pur (.int 0))) (op2 modG (apA intG (consA (gts 3) (pur []))) (apA lenBG (consA (op2 ixAG (gts 0) (pur (.int 0))) (pur []))))) sca))
  (seqM (ifM (andB (tru (op2 ltG (gts 3) (apA lenBG (consA (op2 ixAG (gts 0) (pur (.int 0))) (pur []))))) (tru (op2 geG (apA absG (consA (gts 4) (pur []))) (op2 powG (pur (.int 10)) (pur (.int 18))))))
    (seqM (setM 2 (op2 addG (op2 mulI (pur (.int 2)) (op2 subG (apA absG (consA (gts 4) (pur []))) (op2 powG (pur (.int 10)) (pur (.int 18))))) (apA intG (consA (op2 ltG (gts 4) (pur (.int 0))) (pur [])))))
  (seqM (setI 0 (pur (.int 2)) (op2 fdivG (apA intG (consA (gts 2) (pur []))) (gts 1)))
  (retM (op2 modG (apA intG (consA (gts 2) (pur []))) (gts 1)))))
    nxM)
  (seqM (setM 5 (op2 modG (apA intG (consA (op2 powG (op2 addG (op2 addG (op2 modG (apA intG (consA (gts 4) (pur []))) (pur (.int 2147483549))) (op2 mulI (pur (.int 37481)) (gts 3))) (pur (.int 9561))) (pur (.int 5))) (pur []))) (pur (.int 2147483587))))
  (seqM (setM 5 (op2 modG (apA intG (consA (op2 powG (op2 addG (op2 addG (op2 mulI (gts 5) (op2 addG (op2 mulI (pur (.int 2)) (gts 3)) (pur (.int 9207)))) (op2 mulI (op2 mulI (pur (.int 97041)) (gts 3)) (gts 3))) (pur (.int 37481))) (pur (.int 3))) (pur []))) (pur (.int 2147483629))))
  (retM (op2 modG (apA intG (consA (op2 fdivG (gts 5) (pur (.int 64))) (pur []))) (gts 1)))))))))))
noncomputable def m__law_flow : List D → OF := runF 6 [.fr, .st] .st g__law_flow
abbrev s__law_pipe : Stmt := topS 70
theorem sc__law_pipe : FnScope ["_law_culvert_here", "_law_some"] ["_law_culvert_here", "_law_some"] (defScope s__law_pipe) := ⟨rfl, rfl, rfl, by decide +kernel, rfl, by decide +kernel, by decide +kernel⟩
noncomputable def g__law_pipe : S → SO :=
  (retM (op2 ixAG (gts 1) (callQ [some 0, none] m__law_flow (consA (gts 0) (consA (apA lenBG (consA (gts 1) (pur []))) (pur []))))))
noncomputable def m__law_pipe : List D → OF := runF 2 [.fr, .st] .st g__law_pipe
abbrev s_is_integer : Stmt := topS 9
theorem sc_is_integer : FnScope ["value"] ["value"] (defScope s_is_integer) := ⟨rfl, rfl, rfl, by decide +kernel, rfl, by decide +kernel, by decide +kernel⟩
abbrev s_is_within : Stmt := topS 10
theorem sc_is_within : FnScope ["value", "least", "most"] ["value", "least", "most"] (defScope s_is_within) := ⟨rfl, rfl, rfl, by decide +kernel, rfl, by decide +kernel, by decide +kernel⟩
abbrev s_need_number : Stmt := topS 13
theorem sc_need_number : FnScope ["value", "part", "least", "most"] ["value", "part", "least", "most"] (defScope s_need_number) := ⟨rfl, rfl, rfl, by decide +kernel, rfl, by decide +kernel, by decide +kernel⟩
abbrev s_least_pair : Stmt := topS 31
theorem sc_least_pair : FnScope ["up", "down", "common"] ["up", "down"] (defScope s_least_pair) := ⟨rfl, rfl, rfl, by decide +kernel, rfl, by decide +kernel, by decide +kernel⟩
abbrev s_choices : Stmt := topS 40
theorem sc_choices : FnScope ["many", "some", "found", "at"] ["many", "some"] (defScope s_choices) := ⟨rfl, rfl, rfl, by decide +kernel, rfl, by decide +kernel, by decide +kernel⟩
abbrev s_rows_to : Stmt := topS 41
theorem sc_rows_to : FnScope ["far", "ticks"] ["far", "ticks"] (defScope s_rows_to) := ⟨rfl, rfl, rfl, by decide +kernel, rfl, by decide +kernel, by decide +kernel⟩
abbrev s_first_in : Stmt := topS 47
theorem sc_first_in : FnScope ["far", "ticks"] ["far", "ticks"] (defScope s_first_in) := ⟨rfl, rfl, rfl, by decide +kernel, rfl, by decide +kernel, by decide +kernel⟩
abbrev s_first_share : Stmt := topS 48
theorem sc_first_share : FnScope ["far", "ticks"] ["far", "ticks"] (defScope s_first_share) := ⟨rfl, rfl, rfl, by decide +kernel, rfl, by decide +kernel, by decide +kernel⟩
abbrev s_colour_in : Stmt := topS 23
theorem sc_colour_in : FnScope ["spots"] ["spots"] (defScope s_colour_in) := ⟨rfl, rfl, rfl, by decide +kernel, rfl, by decide +kernel, by decide +kernel⟩
abbrev s_need_colour : Stmt := topS 26
theorem sc_need_colour : FnScope ["spots", "spot"] ["spots"] (defScope s_need_colour) := ⟨rfl, rfl, rfl, by decide +kernel, rfl, by decide +kernel, by decide +kernel⟩
abbrev s_kept_heaps : Stmt := topS 22
theorem sc_kept_heaps : FnScope ["value", "spot", "many"] ["value"] (defScope s_kept_heaps) := ⟨rfl, rfl, rfl, by decide +kernel, rfl, by decide +kernel, by decide +kernel⟩
abbrev s_are_integers : Stmt := topS 11
theorem sc_are_integers : FnScope ["value", "many", "each"] ["value", "many"] (defScope s_are_integers) := ⟨rfl, rfl, rfl, by decide +kernel, rfl, by decide +kernel, by decide +kernel⟩
abbrev s_is_heap : Stmt := topS 20
theorem sc_is_heap : FnScope ["value"] ["value"] (defScope s_is_heap) := ⟨rfl, rfl, rfl, by decide +kernel, rfl, by decide +kernel, by decide +kernel⟩
abbrev s_are_heaps : Stmt := topS 21
theorem sc_are_heaps : FnScope ["value", "spots", "each", "spot", "_"] ["value"] (defScope s_are_heaps) := ⟨rfl, rfl, rfl, by decide +kernel, rfl, by decide +kernel, by decide +kernel⟩
abbrev s_need_heaps : Stmt := topS 25
theorem sc_need_heaps : FnScope ["value", "part"] ["value", "part"] (defScope s_need_heaps) := ⟨rfl, rfl, rfl, by decide +kernel, rfl, by decide +kernel, by decide +kernel⟩
abbrev s_need_lefts : Stmt := topS 27
theorem sc_need_lefts : FnScope ["value", "part", "spot"] ["value", "part"] (defScope s_need_lefts) := ⟨rfl, rfl, rfl, by decide +kernel, rfl, by decide +kernel, by decide +kernel⟩
abbrev s_spots_of : Stmt := topS 24
theorem sc_spots_of : FnScope ["heaps", "spot", "_"] ["heaps"] (defScope s_spots_of) := ⟨rfl, rfl, rfl, by decide +kernel, rfl, by decide +kernel, by decide +kernel⟩
abbrev s_need_start : Stmt := topS 28
theorem sc_need_start : FnScope ["heaps", "lefts", "found", "hands"] ["heaps", "lefts"] (defScope s_need_start) := ⟨rfl, rfl, rfl, by decide +kernel, rfl, by decide +kernel, by decide +kernel⟩
abbrev s_Line___init__ : Stmt := inClass (topS 57) 0
theorem sc_Line___init__ : FnScope ["self", "heaps", "lefts", "found", "hands"] ["self", "heaps", "lefts"] (defScope s_Line___init__) := ⟨rfl, rfl, rfl, by decide +kernel, rfl, by decide +kernel, by decide +kernel⟩
abbrev s_sent_on : Stmt := topS 61
theorem sc_sent_on : FnScope ["heaps", "lefts", "shown", "found", "spot", "many", "more"] ["heaps", "lefts"] (defScope s_sent_on) := ⟨rfl, rfl, rfl, by decide +kernel, rfl, by decide +kernel, by decide +kernel⟩
abbrev s_Line_advance : Stmt := inClass (topS 57) 5
theorem sc_Line_advance : FnScope ["self", "later", "lefts", "spot", "left", "right", "beside", "many", "is_left"] ["self"] (defScope s_Line_advance) := ⟨rfl, rfl, rfl, by decide +kernel, rfl, by decide +kernel, by decide +kernel⟩
abbrev s_share_in : Stmt := topS 42
theorem sc_share_in : FnScope ["far", "ticks"] ["far", "ticks"] (defScope s_share_in) := ⟨rfl, rfl, rfl, by decide +kernel, rfl, by decide +kernel, by decide +kernel⟩
abbrev s_share_of : Stmt := topS 44
theorem sc_share_of : FnScope ["far", "ticks"] ["far", "ticks"] (defScope s_share_of) := ⟨rfl, rfl, rfl, by decide +kernel, rfl, by decide +kernel, by decide +kernel⟩
abbrev s_times : Stmt := topS 33
theorem sc_times : FnScope ["one", "other"] ["one", "other"] (defScope s_times) := ⟨rfl, rfl, rfl, by decide +kernel, rfl, by decide +kernel, by decide +kernel⟩
abbrev s_is_fraction : Stmt := topS 12
theorem sc_is_fraction : FnScope ["value"] ["value"] (defScope s_is_fraction) := ⟨rfl, rfl, rfl, by decide +kernel, rfl, by decide +kernel, by decide +kernel⟩
abbrev s_need_fraction : Stmt := topS 14
theorem sc_need_fraction : FnScope ["value", "part"] ["value", "part"] (defScope s_need_fraction) := ⟨rfl, rfl, rfl, by decide +kernel, rfl, by decide +kernel, by decide +kernel⟩
abbrev s_multiplied : Stmt := topS 36
theorem sc_multiplied : FnScope ["one", "other"] ["one", "other"] (defScope s_multiplied) := ⟨rfl, rfl, rfl, by decide +kernel, rfl, by decide +kernel, by decide +kernel⟩
abbrev s_both : Stmt := topS 32
theorem sc_both : FnScope ["one", "other"] ["one", "other"] (defScope s_both) := ⟨rfl, rfl, rfl, by decide +kernel, rfl, by decide +kernel, by decide +kernel⟩
abbrev s_turned : Stmt := topS 34
theorem sc_turned : FnScope ["one"] ["one"] (defScope s_turned) := ⟨rfl, rfl, rfl, by decide +kernel, rfl, by decide +kernel, by decide +kernel⟩
abbrev s_less : Stmt := topS 35
theorem sc_less : FnScope ["one", "other"] ["one", "other"] (defScope s_less) := ⟨rfl, rfl, rfl, by decide +kernel, rfl, by decide +kernel, by decide +kernel⟩
abbrev s_mean_in : Stmt := topS 43
theorem sc_mean_in : FnScope ["heaps", "spot", "ticks", "total", "begin", "many"] ["heaps", "spot", "ticks"] (defScope s_mean_in) := ⟨rfl, rfl, rfl, by decide +kernel, rfl, by decide +kernel, by decide +kernel⟩
abbrev s_mean_at : Stmt := topS 45
theorem sc_mean_at : FnScope ["heaps", "spot", "ticks", "found"] ["heaps", "spot", "ticks"] (defScope s_mean_at) := ⟨rfl, rfl, rfl, by decide +kernel, rfl, by decide +kernel, by decide +kernel⟩
abbrev s__law_turned : Stmt := topS 71
theorem sc__law_turned : FnScope ["_law_fraction"] ["_law_fraction"] (defScope s__law_turned) := ⟨rfl, rfl, rfl, by decide +kernel, rfl, by decide +kernel, by decide +kernel⟩
noncomputable def g__law_turned : S → SO :=
  (retM (apA tupG (consA (op1 negG (op2 ixAG (gts 0) (pur (.int 0)))) (consA (op2 ixAG (gts 0) (pur (.int 1))) (pur [])))))
noncomputable def m__law_turned : List D → OF := runF 1 (List.replicate 1 .st) .st g__law_turned
abbrev s_gap_in : Stmt := topS 65
theorem sc_gap_in : FnScope ["many", "mean"] ["many", "mean"] (defScope s_gap_in) := ⟨rfl, rfl, rfl, by decide +kernel, rfl, by decide +kernel, by decide +kernel⟩
abbrev s_Line_heap_at : Stmt := inClass (topS 57) 4
theorem sc_Line_heap_at : FnScope ["self", "spot"] ["self", "spot"] (defScope s_Line_heap_at) := ⟨rfl, rfl, rfl, by decide +kernel, rfl, by decide +kernel, by decide +kernel⟩
abbrev s_Line_forward : Stmt := inClass (topS 57) 6
theorem sc_Line_forward : FnScope ["self", "many", "_"] ["self", "many"] (defScope s_Line_forward) := ⟨rfl, rfl, rfl, by decide +kernel, rfl, by decide +kernel, by decide +kernel⟩
abbrev s_line_behind : Stmt := topS 64
theorem sc_line_behind : FnScope ["heaps", "lefts", "ticks", "line"] ["heaps", "lefts", "ticks"] (defScope s_line_behind) := ⟨rfl, rfl, rfl, by decide +kernel, rfl, by decide +kernel, by decide +kernel⟩
abbrev s_gap_at : Stmt := topS 66
theorem sc_gap_at : FnScope ["heaps", "lefts", "spot", "ticks", "found", "hands"] ["heaps", "lefts", "spot", "ticks"] (defScope s_gap_at) := ⟨rfl, rfl, rfl, by decide +kernel, rfl, by decide +kernel, by decide +kernel⟩
abbrev s__law_one_right : Stmt := topS 72
theorem sc__law_one_right : FnScope ["_law_culvert_here", "_law_far", "_law_ticks", "_law_spot", "_law_begin", "_law_due", "_law_near", "_law_off", "_law_many", "_law_lefts", "_law_want", "_law_line", "_law_told"] ["_law_culvert_here", "_law_far", "_law_ticks"] (defScope s__law_one_right) := ⟨rfl, rfl, rfl, by decide +kernel, rfl, by decide +kernel, by decide +kernel⟩
noncomputable def g__law_one_right : S → SO :=
  (seqM (setM 3 (callQ [some 0, none] m__law_pipe (consA (gts 0) (consA (apA lstG (consA (pur (.int 0)) (consA (pur (.int 5)) (consA (op1 negG (pur (.int 8))) (consA (callQ [some 0, none] m__law_flow (consA (gts 0) (consA (pur (.int 60)) (pur [])))) (pur [])))))) (pur [])))))
  (seqM (setM 4 (op2 subG (gts 3) (gts 1)))
  (seqM (setM 5 (callM 2 m_first_share (consA (gts 1) (consA (gts 2) (pur [])))))
  (seqM (parM [6, 7] (consA (callM 2 m_share_of (consA (op2 subG (gts 1) (pur (.int 1))) (consA (op2 subG (gts 2) (pur (.int 1))) (pur [])))) (consA (callM 2 m_share_of (consA (op2 addG (gts 1) (pur (.int 1))) (consA (op2 subG (gts 2) (pur (.int 1))) (pur [])))) (pur []))))
  (seqM (ifM (tru (op2 neG (callM 2 m_multiplied (consA (apA tupG (consA (pur (.int 1)) (consA (pur (.int 2)) (pur [])))) (consA (callM 2 m_less (consA (gts 6) (consA (gts 7) (pur [])))) (pur [])))) (gts 5)))
    (retM (pur (.bl false)))
    nxM)
  (seqM (ifM (tru (op2 neG (callM 2 m_less (consA (callM 3 m_mean_at (consA (apA lstG (consA (apA tupG (consA (op2 addG (gts 4) (pur (.int 1))) (consA (pur (.int 1)) (pur [])))) (pur []))) (consA (gts 3) (consA (op2 subG (gts 2) (pur (.int 1))) (pur []))))) (consA (callM 3 m_mean_at (consA (apA lstG (consA (apA tupG (consA (op2 subG (gts 4) (pur (.int 1))) (consA (pur (.int 1)) (pur [])))) (pur []))) (consA (gts 3) (consA (op2 subG (gts 2) (pur (.int 1))) (pur []))))) (pur [])))) (callM 2 m_multiplied (consA (apA tupG (consA (pur (.int 2)) (consA (pur (.int 1)) (pur [])))) (consA (gts 5) (pur []))))))
    (retM (pur (.bl false)))
    nxM)
  (seqM (setM 8 (op2 addG (pur (.int 1)) (op2 mulI (pur (.int 2)) (callQ [some 0, none] m__law_flow (consA (gts 0) (consA (pur (.int 3)) (pur [])))))))
  (seqM (forM (seqI (apA tupG (consA (apA tupG (consA (apA lstG (pur [])) (consA (gts 5) (pur [])))) (consA (apA tupG (consA (apA lstG (consA (gts 4) (pur []))) (consA (callM 1 m__law_turned (consA (gts 5) (pur []))) (pur [])))) (pur []))))) (tgT [tgN 9, tgN 10])
    (seqM (setM 11 (mkM "Line" 2 m_Line___init__ (consA (apA lstG (consA (apA tupG (consA (gts 4) (consA (gts 8) (pur [])))) (pur []))) (consA (gts 9) (pur [])))))
  (seqM (dropM (callQ [some 11] m_Line_advance (consA (op1 (insG "Line" "advance") (gts 11)) (pur []))))
  (shM 11 (seqM (setM 12 (apA lstG (consA (callM 3 m_mean_at (consA (op1 (fldG ["Line"] "heaps") (gts 11)) (consA (gts 3) (consA (op2 subG (gts 2) (pur (.int 1))) (pur []))))) (consA (callM 3 m_mean_at (consA (apA lstG (consA (apA tupG (consA (gts 4) (consA (gts 8) (pur [])))) (pur []))) (consA (gts 3) (consA (gts 2) (pur []))))) (pur [])))))
  (seqM (ifM (tru (op2 neG (callM 2 m_less (consA (op2 ixAG (gts 12) (pur (.int 0))) (consA (op2 ixAG (gts 12) (pur (.int 1))) (pur [])))) (gts 10)))
    (retM (pur (.bl false)))
    nxM)
  (ifM (andB (tru (op2 eqG (gts 2) (pur (.int 1)))) (tru (op2 neG (callM 4 m_gap_at (consA (apA lstG (consA (apA tupG (consA (gts 4) (consA (gts 8) (pur [])))) (pur []))) (consA (gts 9) (consA (gts 3) (consA (pur (.int 1)) (pur [])))))) (gts 10))))
    (retM (pur (.bl false)))
    nxM)))))))
  (retM (pur (.bl true)))))))))))
noncomputable def m__law_one_right : List D → OF := runF 13 [.fr, .st, .st] .st g__law_one_right
abbrev s_law : Stmt := topS 73
theorem sc_law : FnScope ["_law_script", "_law_culvert_here", "_law_turn", "_law_far", "_law_ticks", "_law_own"] ["_law_script"] (defScope s_law) := ⟨rfl, rfl, rfl, by decide +kernel, rfl, by decide +kernel, by decide +kernel⟩
noncomputable def g_law : S → SO :=
  (seqM (setM 1 (callM 1 m__law_culvert (consA (gts 0) (pur []))))
  (seqM (forM (rngI rng1G (consA (pur (.int 4)) (pur []))) (tgN 2)
    (seqM (setM 3 (op2 addG (pur (.int 1)) (callQ [some 1, none] m__law_flow (consA (gts 1) (consA (callQ [some 1, none] m__law_pipe (consA (gts 1) (consA (apA lstG (consA (pur (.int 4)) (consA (pur (.int 1)) (consA (pur (.int 12)) (pur []))))) (pur [])))) (pur []))))))
  (seqM (setM 4 (callQ [some 1, none] m__law_pipe (consA (gts 1) (consA (apA lstG (consA (op2 addG (gts 3) (op2 mulI (pur (.int 2)) (callQ [some 1, none] m__law_flow (consA (gts 1) (consA (pur (.int 6)) (pur [])))))) (consA (gts 3) (consA (op2 addG (pur (.int 1)) (callQ [some 1, none] m__law_flow (consA (gts 1) (consA (pur (.int 30)) (pur []))))) (consA (pur (.int 1)) (pur [])))))) (pur [])))))
  (seqM (ifM (notB (tru (callQ [some 1, none, none] m__law_one_right (consA (gts 1) (consA (gts 3) (consA (gts 4) (pur [])))))))
    (retM (pur (.bl false)))
    nxM)
  (seqM (setM 5 (op2 addG (pur (.int 1)) (callQ [some 1, none] m__law_flow (consA (gts 1) (consA (pur (.int 20)) (pur []))))))
  (ifM (tru (op2 neG (callM 2 m_share_of (consA (op1 negG (pur (.int 1))) (consA (op2 subG (gts 5) (pur (.int 1))) (pur [])))) (callM 2 m_share_of (consA (pur (.int 1)) (consA (op2 subG (gts 5) (pur (.int 1))) (pur []))))))
    (retM (pur (.bl false)))
    nxM))))))
  (retM (pur (.bl true)))))
noncomputable def m_law : List D → OF := runF 6 (List.replicate 1 .st) .st g_law
section
variable {P : Program} {w : World} {Γ : KC} {mg : Str → Option Value} {base : Heap}
--OK _law_culvert
set_option maxHeartbeats 8000000 in
theorem ok__law_culvert {f__law_culvert : Addr} {fd__law_culvert : FuncData} (F : Fun Γ.K "_law_culvert" "_law_culvert" s__law_culvert f__law_culvert fd__law_culvert) (m_int : mg "int" = none) :
    FnG P w Γ.K mg base CX0 1 f__law_culvert fd__law_culvert ["_law_script"] (spM Γ (List.replicate 1 .st) .fr m__law_culvert) := by
  refine fn_mk (ow := []) F sc__law_culvert rfl (by decide) (by decide) (by decide) fun cdv A outer s H ys R E hG hr => ?_
  unfold g__law_culvert
  exact (mss_one (ms_ret (me_lst (ma_cons (me_lc (own := [("_law_cell", 1)]) rfl sc__law_culvert.nd (mi_seq (me_sl (me_varS (pv 0)) mop_none (mop_some me_int) stS stS)) (blkOk_by (N := ["_law_script", "_law_cell"]) (sc := defScope s__law_culvert) (by decide +kernel)) (fun _ _ _ _ _ => (mg_name (pg_name (i := 1) sc__law_culvert.nd rfl (Or.inl rfl) (Or.inr rfl)))) (fun _ _ _ _ _ => mts_nil) (fun _ _ _ _ _ => (me_callTy (T := "int") call_int1 cl_int1 (by rfl) m_int (by decide +kernel) (ma_cons (me_varS (pv 1)) ma_nil stS)))).st (ma_cons me_int (ma_cons me_int ma_nil stS) stS) stS))))
--OK _law_flow
set_option maxHeartbeats 8000000 in
theorem ok__law_flow {f__law_flow : Addr} {fd__law_flow : FuncData} (F : Fun Γ.K "_law_flow" "_law_flow" s__law_flow f__law_flow fd__law_flow) (m_int : mg "int" = none)
    (m_len : mg "len" = none)
    (m_abs : mg "abs" = none) :
    FnG P w Γ.K mg base CX0 1 f__law_flow fd__law_flow ["_law_culvert_here", "_law_many"] (spM Γ [.fr, .st] .st m__law_flow) := by
  refine fn_mk (ow := [0]) F sc__law_flow rfl (by decide) (by decide) (by decide) fun cdv A outer s H ys R E hG hr => ?_
  unfold g__law_flow
  exact (mss_cons (ms_if (mt_cmp op_gt cl_gt (me_ix (ixA (hu1 hr)) cl_ixAN (me_varO (pv 0)) me_int.now stN) me_int.now stN (nomark _))
      (mss_cons (ms_set (i := 2) sc__law_flow.nd rfl (.inl rfl) (me_callTy (T := "int") call_int1 cl_int1 (by rfl) m_int (by decide +kernel) (ma_cons (me_ix (ixA (hu1 hr)) cl_ixAN (me_varO (pv 0)) me_int.now stN) ma_nil stN)))
    (mss_cons (ms_setI (i := 0) (hu1 hr) (pv 0) me_int (me_op op_fdivA cl_fdiv (me_varS (pv 2)) (me_varS (pv 1)) stS))
    (mss_one (ms_ret (me_op op_modN cl_mod (me_callTy (T := "int") call_int1 cl_int1 (by rfl) m_int (by decide +kernel) (ma_cons (me_varS (pv 2)) ma_nil stS)) (me_varS (pv 1)) stS)))))
      mss_nil)
    (mss_cons (ms_set (i := 3) sc__law_flow.nd rfl (.inl rfl) (me_ix (ixA (hu1 hr)) cl_ixAN (me_varO (pv 0)) me_int.now stN).scal)
    (mss_cons (ms_setI (i := 0) (hu1 hr) (pv 0) me_int (me_op op_addA cl_add (me_varS (pv 3)) me_int stS))
    (mss_cons (ms_if (mt_cmp (op_eqA hr.units) cl_eq (me_ix (ixA (hu1 hr)) cl_ixAN (me_varO (pv 0)) me_int.now stN) (me_lst ma_nil).nowF stN (nomark _))
      (mss_one (ms_ret me_int))
      mss_nil)
    (mss_cons (ms_set (i := 4) sc__law_flow.nd rfl (.inl rfl) (me_ix (ixA (hu1 hr)) cl_ixAN (me_ix (ixA (hu1 hr)) cl_ixAN (me_varO (pv 0)) me_int.now stN) (me_op op_modN cl_mod (me_callTy (T := "int") call_int1 cl_int1 (by rfl) m_int (by decide +kernel) (ma_cons (me_varS (pv 3)) ma_nil stS)) (me_callB (id := "len") call_lenB cl_lenB (by rfl) m_len (by decide +kernel) (ma_cons (me_ix (ixA (hu1 hr)) cl_ixAN (me_varO (pv 0)) me_int.now stN) ma_nil stN)) stS).now stN).scal)
    (mss_cons (ms_if (MW.mt (mw_and (mt_cmp op_lt cl_lt (me_varS (pv 3)) (me_callB (id := "len") call_lenB cl_lenB (by rfl) m_len (by decide +kernel) (ma_cons (me_ix (ixA (hu1 hr)) cl_ixAN (me_varO (pv 0)) me_int.now stN) ma_nil stN)) stS (nomark _)) (mw_and1 (mt_cmp op_ge cl_ge (me_callB (id := "abs") call_abs cl_abs (by rfl) m_abs (by decide +kernel) (ma_cons (me_varS (pv 4)) ma_nil stS)) (me_op op_pow cl_pow me_int me_int stS) stS (nomark _)))))
      (mss_cons (ms_set (i := 2) sc__law_flow.nd rfl (.inl rfl) (me_op op_addA cl_add (me_op op_mulA cl_mulI me_int (me_op op_sub cl_sub (me_callB (id := "abs") call_abs cl_abs (by rfl) m_abs (by decide +kernel) (ma_cons (me_varS (pv 4)) ma_nil stS)) (me_op op_pow cl_pow me_int me_int stS) stS) stS) (me_callTy (T := "int") call_int1 cl_int1 (by rfl) m_int (by decide +kernel) (ma_cons (me_cmp op_lt cl_lt (me_varS (pv 4)) me_int stS (nomark _)) ma_nil stS)) stS))
    (mss_cons (ms_setI (i := 0) (hu1 hr) (pv 0) me_int (me_op op_fdivA cl_fdiv (me_callTy (T := "int") call_int1 cl_int1 (by rfl) m_int (by decide +kernel) (ma_cons (me_varS (pv 2)) ma_nil stS)) (me_varS (pv 1)) stS))
    (mss_one (ms_ret (me_op op_modN cl_mod (me_callTy (T := "int") call_int1 cl_int1 (by rfl) m_int (by decide +kernel) (ma_cons (me_varS (pv 2)) ma_nil stS)) (me_varS (pv 1)) stS)))))
      mss_nil)
    (mss_cons (ms_set (i := 5) sc__law_flow.nd rfl (.inl rfl) (me_op op_modN cl_mod (me_callTy (T := "int") call_int1 cl_int1 (by rfl) m_int (by decide +kernel) (ma_cons (me_op op_pow cl_pow (me_op op_addA cl_add (me_op op_addA cl_add (me_op op_modN cl_mod (me_callTy (T := "int") call_int1 cl_int1 (by rfl) m_int (by decide +kernel) (ma_cons (me_varS (pv 4)) ma_nil stS)) me_int stS) (me_op op_mulA cl_mulI me_int (me_varS (pv 3)) stS) stS) me_int stS) me_int stS) ma_nil stS)) me_int stS))
    (mss_cons (ms_set (i := 5) sc__law_flow.nd rfl (.inl rfl) (me_op op_modN cl_mod (me_callTy (T := "int") call_int1 cl_int1 (by rfl) m_int (by decide +kernel) (ma_cons (me_op op_pow cl_pow (me_op op_addA cl_add (me_op op_addA cl_add (me_op op_mulA cl_mulI (me_varS (pv 5)) (me_op op_addA cl_add (me_op op_mulA cl_mulI me_int (me_varS (pv 3)) stS) me_int stS) stS) (me_op op_mulA cl_mulI (me_op op_mulA cl_mulI me_int (me_varS (pv 3)) stS) (me_varS (pv 3)) stS) stS) me_int stS) me_int stS) ma_nil stS)) me_int stS))
    (mss_one (ms_ret (me_op op_modN cl_mod (me_callTy (T := "int") call_int1 cl_int1 (by rfl) m_int (by decide +kernel) (ma_cons (me_op op_fdivA cl_fdiv (me_varS (pv 5)) me_int stS) ma_nil stS)) (me_varS (pv 1)) stS)))))))))))
--OK _law_pipe
set_option maxHeartbeats 8000000 in
theorem ok__law_pipe {f__law_pipe : Addr} {fd__law_pipe : FuncData} (F : Fun Γ.K "_law_pipe" "_law_pipe" s__law_pipe f__law_pipe fd__law_pipe) {f__law_flow : Addr} {fd__law_flow : FuncData} (G__law_flow : FnG P w Γ.K mg base CX0 1 f__law_flow fd__law_flow ["_law_culvert_here", "_law_many"] (spM Γ [.fr, .st] .st m__law_flow)) (g__law_flow : mg "_law_flow" = some (.ref f__law_flow)) (k__law_flow : PySem.W.keepIn Γ.K (.ref f__law_flow) = true) (b__law_flow : Binds Γ.K fd__law_flow ["_law_culvert_here", "_law_many"] [])
    (m_len : mg "len" = none) :
    FnG P w Γ.K mg base CX0 2 f__law_pipe fd__law_pipe ["_law_culvert_here", "_law_some"] (spM Γ [.fr, .st] .st m__law_pipe) := by
  refine fn_mk (ow := [0]) F sc__law_pipe rfl (by decide) (by decide) (by decide) fun cdv A outer s H ys R E hG hr => ?_
  unfold g__law_pipe
  exact (mss_one (ms_ret (me_ix (ixA (hu1 hr)) cl_ixA (me_varS (pv 1)) (me_callQ (ks := [some 0, none]) G__law_flow hG (hr.mono (by decide)) (by rfl) g__law_flow k__law_flow b__law_flow pass00 (mq_consO (i := 0) (pv 0) (mq_consS (me_callB (id := "len") call_lenB cl_lenB (by rfl) m_len (by decide +kernel) (ma_cons (me_varS (pv 1)) ma_nil stS)) mq_nil))) stS)))
--OK is_integer
set_option maxHeartbeats 8000000 in
theorem ok_is_integer {f_is_integer : Addr} {fd_is_integer : FuncData} (F : Fun Γ.K "is_integer" "is_integer" s_is_integer f_is_integer fd_is_integer) (m_isinstance : mg "isinstance" = none)
    (m_int : mg "int" = none)
    (m_bool : mg "bool" = none) :
    FnG P w Γ.K mg base CX0 1 f_is_integer fd_is_integer ["value"] (spM Γ (List.replicate 1 .st) .st m_is_integer) := by
  refine fn_mk (ow := []) F sc_is_integer rfl (by decide) (by decide) (by decide) fun cdv A outer s H ys R E hG hr => ?_
  unfold g_is_integer
  exact (mss_one (ms_ret (me_and (me_callB (id := "isinstance") call_isi cl_isi (by rfl) m_isinstance (by decide +kernel) (ma_cons (me_varS (pv 0)) (ma_cons (me_glob (pe_bltn (v := .ty "int") (by rfl) m_int (by decide +kernel) rfl) (fun _ _ => dm_ty')) ma_nil stS) stS)) (me_one (me_not (me_callB (id := "isinstance") call_isi cl_isi (by rfl) m_isinstance (by decide +kernel) (ma_cons (me_varS (pv 0)) (ma_cons (me_glob (pe_bltn (v := .ty "bool") (by rfl) m_bool (by decide +kernel) rfl) (fun _ _ => dm_ty')) ma_nil stS) stS)))))))
--OK is_within
set_option maxHeartbeats 8000000 in
theorem ok_is_within {f_is_within : Addr} {fd_is_within : FuncData} (F : Fun Γ.K "is_within" "is_within" s_is_within f_is_within fd_is_within) {f_is_integer : Addr} {fd_is_integer : FuncData} (G_is_integer : FnG P w Γ.K mg base CX0 1 f_is_integer fd_is_integer ["value"] (spM Γ (List.replicate 1 .st) .st m_is_integer)) (g_is_integer : mg "is_integer" = some (.ref f_is_integer)) (k_is_integer : PySem.W.keepIn Γ.K (.ref f_is_integer) = true) (b_is_integer : Binds Γ.K fd_is_integer ["value"] []) :
    FnG P w Γ.K mg base CX0 2 f_is_within fd_is_within ["value", "least", "most"] (spM Γ (List.replicate 3 .st) .st m_is_within) := by
  refine fn_mk (ow := []) F sc_is_within rfl (by decide) (by decide) (by decide) fun cdv A outer s H ys R E hG hr => ?_
  unfold g_is_within
  exact (mss_cons (ms_if (mt_not (mt_val (me_call (n := 1) G_is_integer hG (hr.mono (by decide)) (by rfl) g_is_integer k_is_integer b_is_integer pass00 CK.st (ma_cons (me_varS (pv 0)) ma_nil stS))))
      (mss_one (ms_ret me_bl))
      mss_nil)
    (mss_one (ms_ret (me_and (me_or (me_cmp op_isN cl_isN (me_varS (pv 1)) me_non stS (nomark _)) (me_one (me_cmp op_le cl_le (me_varS (pv 1)) (me_varS (pv 0)) stS (nomark _)))) (me_one (me_or (me_cmp op_isN cl_isN (me_varS (pv 2)) me_non stS (nomark _)) (me_one (me_cmp op_le cl_le (me_varS (pv 0)) (me_varS (pv 2)) stS (nomark _)))))))))
--OK need_number
set_option maxHeartbeats 8000000 in
theorem ok_need_number {f_need_number : Addr} {fd_need_number : FuncData} (F : Fun Γ.K "need_number" "need_number" s_need_number f_need_number fd_need_number) {f_is_within : Addr} {fd_is_within : FuncData} (G_is_within : FnG P w Γ.K mg base CX0 2 f_is_within fd_is_within ["value", "least", "most"] (spM Γ (List.replicate 3 .st) .st m_is_within)) (g_is_within : mg "is_within" = some (.ref f_is_within)) (k_is_within : PySem.W.keepIn Γ.K (.ref f_is_within) = true) (b_is_within : Binds Γ.K fd_is_within ["value", "least", "most"] []) :
    FnG P w Γ.K mg base CX0 3 f_need_number fd_need_number ["value", "part", "least", "most"] (spM Γ (List.replicate 4 .st) .st m_need_number) := by
  refine fn_mk (ow := []) F sc_need_number rfl (by decide) (by decide) (by decide) fun cdv A outer s H ys R E hG hr => ?_
  unfold g_need_number
  exact (mss_one (ms_if (mt_not (mt_val (me_call (n := 3) G_is_within hG (hr.mono (by decide)) (by rfl) g_is_within k_is_within b_is_within pass00 CK.st (ma_cons (me_varS (pv 0)) (ma_cons (me_varS (pv 2)) (ma_cons (me_varS (pv 3)) ma_nil stS) stS) stS))))
      (mss_one ms_never)
      mss_nil))
--OK least_pair
set_option maxHeartbeats 8000000 in
theorem ok_least_pair {f_least_pair : Addr} {fd_least_pair : FuncData} (F : Fun Γ.K "least_pair" "least_pair" s_least_pair f_least_pair fd_least_pair) (g_gcd : mg "gcd" = some (.builtin "math.gcd")) :
    FnG P w Γ.K mg base CX0 1 f_least_pair fd_least_pair ["up", "down"] (spM Γ (List.replicate 2 .st) .st m_least_pair) := by
  refine fn_mk (ow := []) F sc_least_pair rfl (by decide) (by decide) (by decide) fun cdv A outer s H ys R E hG hr => ?_
  unfold g_least_pair
  exact (mss_cons (ms_set (i := 2) sc_least_pair.nd rfl (.inl rfl) (me_if (mt_cmp op_gt cl_gt (me_varS (pv 1)) me_int stS (nomark _)) (me_callBfun cr_gcd cl_gcd (by rfl) g_gcd (ma_cons (me_varS (pv 0)) (ma_cons (me_varS (pv 1)) ma_nil stS) stS)) (me_un un_neg cl_neg (me_callBfun cr_gcd cl_gcd (by rfl) g_gcd (ma_cons (me_varS (pv 0)) (ma_cons (me_varS (pv 1)) ma_nil stS) stS)))))
    (mss_one (ms_ret (me_tup (ma_cons (me_op op_fdivA cl_fdiv (me_varS (pv 0)) (me_varS (pv 2)) stS) (ma_cons (me_op op_fdivA cl_fdiv (me_varS (pv 1)) (me_varS (pv 2)) stS) ma_nil stS) stS)))))
--OK choices
set_option maxHeartbeats 8000000 in
theorem ok_choices {f_choices : Addr} {fd_choices : FuncData} (F : Fun Γ.K "choices" "choices" s_choices f_choices fd_choices) (m_range : mg "range" = none) :
    FnG P w Γ.K mg base CX0 1 f_choices fd_choices ["many", "some"] (spM Γ (List.replicate 2 .st) .st m_choices) := by
  refine fn_mk (ow := []) F sc_choices rfl (by decide) (by decide) (by decide) fun cdv A outer s H ys R E hG hr => ?_
  unfold g_choices
  exact (mss_cons (ms_set (i := 2) sc_choices.nd rfl (.inl rfl) me_int)
    (mss_cons (ms_for PassesOwn.never rfl (mi_rng1 (by rfl) m_range (ma_cons (me_varS (pv 1)) ma_nil stS)) (mg_name (pg_name (i := 3) sc_choices.nd rfl (.inl rfl)))
      (mss_one (ms_set (i := 2) sc_choices.nd rfl (.inl rfl) (me_op op_fdivA cl_fdiv (me_op op_mulA cl_mulI (me_varS (pv 2)) (me_op op_sub cl_sub (me_varS (pv 0)) (me_varS (pv 3)) stS) stS) (me_op op_addA cl_add (me_varS (pv 3)) me_int stS) stS))))
    (mss_one (ms_ret (me_varS (pv 2))))))
--OK rows_to
set_option maxHeartbeats 8000000 in
theorem ok_rows_to {f_rows_to : Addr} {fd_rows_to : FuncData} (F : Fun Γ.K "rows_to" "rows_to" s_rows_to f_rows_to fd_rows_to) (m_abs : mg "abs" = none)
    {f_choices : Addr} {fd_choices : FuncData} (G_choices : FnG P w Γ.K mg base CX0 1 f_choices fd_choices ["many", "some"] (spM Γ (List.replicate 2 .st) .st m_choices)) (g_choices : mg "choices" = some (.ref f_choices)) (k_choices : PySem.W.keepIn Γ.K (.ref f_choices) = true) (b_choices : Binds Γ.K fd_choices ["many", "some"] []) :
    FnG P w Γ.K mg base CX0 2 f_rows_to fd_rows_to ["far", "ticks"] (spM Γ (List.replicate 2 .st) .st m_rows_to) := by
  refine fn_mk (ow := []) F sc_rows_to rfl (by decide) (by decide) (by decide) fun cdv A outer s H ys R E hG hr => ?_
  unfold g_rows_to
  exact (mss_cons (ms_if (MW.mt (mw_or (mt_cmp op_gt cl_gt (me_callB (id := "abs") call_abs cl_abs (by rfl) m_abs (by decide +kernel) (ma_cons (me_varS (pv 0)) ma_nil stS)) (me_varS (pv 1)) stS (nomark _)) (mw_or1 (mt_cmp (op_eqA hr.units) cl_eq (me_op op_modN cl_mod (me_op op_addA cl_add (me_varS (pv 0)) (me_varS (pv 1)) stS) me_int stS) me_int stS (nomark _)))))
      (mss_one (ms_ret me_int))
      mss_nil)
    (mss_one (ms_ret (me_call (n := 2) G_choices hG (hr.mono (by decide)) (by rfl) g_choices k_choices b_choices pass00 CK.st (ma_cons (me_varS (pv 1)) (ma_cons (me_op op_fdivA cl_fdiv (me_op op_sub cl_sub (me_varS (pv 1)) (me_callB (id := "abs") call_abs cl_abs (by rfl) m_abs (by decide +kernel) (ma_cons (me_varS (pv 0)) ma_nil stS)) stS) me_int stS) ma_nil stS) stS)))))
--OK first_in
set_option maxHeartbeats 8000000 in
theorem ok_first_in {f_first_in : Addr} {fd_first_in : FuncData} (F : Fun Γ.K "first_in" "first_in" s_first_in f_first_in fd_first_in) {a_NOUGHT : Addr} (g_NOUGHT : mg "NOUGHT" = some (.ref a_NOUGHT)) (w_NOUGHT : WrT Γ a_NOUGHT [.int 0, .int 1])
    {f_least_pair : Addr} {fd_least_pair : FuncData} (G_least_pair : FnG P w Γ.K mg base CX0 1 f_least_pair fd_least_pair ["up", "down"] (spM Γ (List.replicate 2 .st) .st m_least_pair)) (g_least_pair : mg "least_pair" = some (.ref f_least_pair)) (k_least_pair : PySem.W.keepIn Γ.K (.ref f_least_pair) = true) (b_least_pair : Binds Γ.K fd_least_pair ["up", "down"] [])
    {f_rows_to : Addr} {fd_rows_to : FuncData} (G_rows_to : FnG P w Γ.K mg base CX0 2 f_rows_to fd_rows_to ["far", "ticks"] (spM Γ (List.replicate 2 .st) .st m_rows_to)) (g_rows_to : mg "rows_to" = some (.ref f_rows_to)) (k_rows_to : PySem.W.keepIn Γ.K (.ref f_rows_to) = true) (b_rows_to : Binds Γ.K fd_rows_to ["far", "ticks"] []) :
    FnG P w Γ.K mg base CX0 3 f_first_in fd_first_in ["far", "ticks"] (spM Γ (List.replicate 2 .st) .st m_first_in) := by
  refine fn_mk (ow := []) F sc_first_in rfl (by decide) (by decide) (by decide) fun cdv A outer s H ys R E hG hr => ?_
  unfold g_first_in
  exact (mss_cons (ms_if (mt_cmp op_lt cl_lt (me_varS (pv 1)) (me_varS (pv 0)) stS (nomark _))
      (mss_one (ms_ret (me_glob (pe_glob (v := .ref a_NOUGHT) (by rfl) g_NOUGHT rfl) (fun _ _ => dm_wtup w_NOUGHT (Dms.cons dm_int (Dms.cons dm_int Dms.nil))))))
      mss_nil)
    (mss_one (ms_ret (me_call (n := 2) G_least_pair hG (hr.mono (by decide)) (by rfl) g_least_pair k_least_pair b_least_pair pass00 CK.st (ma_cons (me_op op_mulA cl_mulI (me_varS (pv 0)) (me_call (n := 2) G_rows_to hG (hr.mono (by decide)) (by rfl) g_rows_to k_rows_to b_rows_to pass00 CK.st (ma_cons (me_varS (pv 0)) (ma_cons (me_varS (pv 1)) ma_nil stS) stS)) stS) (ma_cons (me_op op_mulA cl_mulI (me_varS (pv 1)) (me_op op_shlW cl_shl me_int (me_varS (pv 1)) stS) stS) ma_nil stS) stS)))))
--OK first_share
set_option maxHeartbeats 8000000 in
theorem ok_first_share {f_first_share : Addr} {fd_first_share : FuncData} (F : Fun Γ.K "first_share" "first_share" s_first_share f_first_share fd_first_share) {f_need_number : Addr} {fd_need_number : FuncData} (G_need_number : FnG P w Γ.K mg base CX0 3 f_need_number fd_need_number ["value", "part", "least", "most"] (spM Γ (List.replicate 4 .st) .st m_need_number)) (g_need_number : mg "need_number" = some (.ref f_need_number)) (k_need_number : PySem.W.keepIn Γ.K (.ref f_need_number) = true) (b_need_number : Binds Γ.K fd_need_number ["value", "part", "least", "most"] [])
    {t_MOST_FAR : Tok} (g_MOST_FAR : mg "MOST_FAR" = some (.int 400 t_MOST_FAR))
    {f_first_in : Addr} {fd_first_in : FuncData} (G_first_in : FnG P w Γ.K mg base CX0 3 f_first_in fd_first_in ["far", "ticks"] (spM Γ (List.replicate 2 .st) .st m_first_in)) (g_first_in : mg "first_in" = some (.ref f_first_in)) (k_first_in : PySem.W.keepIn Γ.K (.ref f_first_in) = true) (b_first_in : Binds Γ.K fd_first_in ["far", "ticks"] []) :
    FnG P w Γ.K mg base CX0 4 f_first_share fd_first_share ["far", "ticks"] (spM Γ (List.replicate 2 .st) .st m_first_share) := by
  refine fn_mk (ow := []) F sc_first_share rfl (by decide) (by decide) (by decide) fun cdv A outer s H ys R E hG hr => ?_
  unfold g_first_share
  exact (mss_cons (ms_expr (me_call (n := 4) G_need_number hG (hr.mono (by decide)) (by rfl) g_need_number k_need_number b_need_number pass00 CK.st (ma_cons (me_varS (pv 0)) (ma_cons me_str (ma_cons me_int (ma_cons (me_glob (pe_glob (v := .int 400) (by rfl) g_MOST_FAR ⟨_, rfl⟩) (fun _ _ => dm_int)) ma_nil stS) stS) stS) stS)))
    (mss_cons (ms_expr (me_call (n := 4) G_need_number hG (hr.mono (by decide)) (by rfl) g_need_number k_need_number b_need_number pass00 CK.st (ma_cons (me_varS (pv 1)) (ma_cons me_str (ma_cons me_int (ma_cons (me_glob (pe_glob (v := .int 400) (by rfl) g_MOST_FAR ⟨_, rfl⟩) (fun _ _ => dm_int)) ma_nil stS) stS) stS) stS)))
    (mss_one (ms_ret (me_call (n := 2) G_first_in hG (hr.mono (by decide)) (by rfl) g_first_in k_first_in b_first_in pass00 CK.st (ma_cons (me_varS (pv 0)) (ma_cons (me_varS (pv 1)) ma_nil stS) stS))))))
--OK colour_in
set_option maxHeartbeats 8000000 in
theorem ok_colour_in {f_colour_in : Addr} {fd_colour_in : FuncData} (F : Fun Γ.K "colour_in" "colour_in" s_colour_in f_colour_in fd_colour_in) (m_len : mg "len" = none) :
    FnG P w Γ.K mg base CX0 1 f_colour_in fd_colour_in ["spots"] (spM Γ (List.replicate 1 .st) .st m_colour_in) := by
  refine fn_mk (ow := []) F sc_colour_in rfl (by decide) (by decide) (by decide) fun cdv A outer s H ys R E hG hr => ?_
  unfold g_colour_in
  exact (mss_one (ms_ret (me_if (mt_cmp op_gt cl_gt (me_callB (id := "len") call_lenB cl_lenB (by rfl) m_len (by decide +kernel) (ma_cons (me_varS (pv 0)) ma_nil stS)) me_int stS (nomark _)) (me_op op_modN cl_mod (me_ix (ixA (hu1 hr)) cl_ixA (me_varS (pv 0)) me_int stS) me_int stS) me_non)))
--OK need_colour
set_option maxHeartbeats 8000000 in
theorem ok_need_colour {f_need_colour : Addr} {fd_need_colour : FuncData} (F : Fun Γ.K "need_colour" "need_colour" s_need_colour f_need_colour fd_need_colour) (m_all : mg "all" = none)
    {f_colour_in : Addr} {fd_colour_in : FuncData} (G_colour_in : FnG P w Γ.K mg base CX0 1 f_colour_in fd_colour_in ["spots"] (spM Γ (List.replicate 1 .st) .st m_colour_in)) (g_colour_in : mg "colour_in" = some (.ref f_colour_in)) (k_colour_in : PySem.W.keepIn Γ.K (.ref f_colour_in) = true) (b_colour_in : Binds Γ.K fd_colour_in ["spots"] []) :
    FnG P w Γ.K mg base CX0 2 f_need_colour fd_need_colour ["spots"] (spM Γ (List.replicate 1 .st) .st m_need_colour) := by
  refine fn_mk (ow := []) F sc_need_colour rfl (by decide) (by decide) (by decide) fun cdv A outer s H ys R E hG hr => ?_
  unfold g_need_colour
  exact (mss_one (ms_if (mt_not (mt_val (me_callB (id := "all") (cr_all rfl) cl_all (by rfl) m_all (by decide +kernel) (ma_cons (me_lc (own := [("spot", 1)]) rfl sc_need_colour.nd (mi_seq (me_varS (pv 0))) (blkOk_by (N := ["spots", "spot"]) (sc := defScope s_need_colour) (by decide +kernel)) (fun _ _ _ _ _ => (mg_name (pg_name (i := 1) sc_need_colour.nd rfl (Or.inl rfl) (Or.inr rfl)))) (fun _ _ _ _ _ => mts_nil) (fun _ _ _ _ _ => (me_cmp (op_eqA hr.units) cl_eq (me_op op_modN cl_mod (me_varS (pv 1)) me_int stS) (me_call (n := 1) G_colour_in hG (hr.mono (by decide)) (by rfl) g_colour_in k_colour_in b_colour_in pass00 CK.st (ma_cons (me_varS (pv 0)) ma_nil stS)) stS (nomark _)))).st ma_nil stS))))
      (mss_one ms_never)
      mss_nil))
--OK kept_heaps
set_option maxHeartbeats 8000000 in
theorem ok_kept_heaps {f_kept_heaps : Addr} {fd_kept_heaps : FuncData} (F : Fun Γ.K "kept_heaps" "kept_heaps" s_kept_heaps f_kept_heaps fd_kept_heaps) (m_tuple : mg "tuple" = none)
    (m_sorted : mg "sorted" = none) :
    FnG P w Γ.K mg base CX0 1 f_kept_heaps fd_kept_heaps ["value"] (spM Γ (List.replicate 1 .st) .st m_kept_heaps) := by
  refine fn_mk (ow := []) F sc_kept_heaps rfl (by decide) (by decide) (by decide) fun cdv A outer s H ys R E hG hr => ?_
  unfold g_kept_heaps
  exact (mss_one (ms_ret (me_callTy (T := "tuple") call_tupleF cl_tuple (by rfl) m_tuple (by decide +kernel) (ma_cons (me_callB (id := "sorted") (call_sortedA rfl) cl_sortedA (by rfl) m_sorted (by decide +kernel) (ma_cons (me_lc (own := [("spot", 1), ("many", 2)]) rfl sc_kept_heaps.nd (mi_seq (me_varS (pv 0))) (blkOk_by (N := ["value", "spot", "many"]) (sc := defScope s_kept_heaps) (by decide +kernel)) (fun _ _ _ _ _ => (mg_tup rfl (mgs_cons (mg_name (pg_name (i := 1) sc_kept_heaps.nd rfl (Or.inl rfl) (Or.inr rfl))) (mgs_cons (mg_name (pg_name (i := 2) sc_kept_heaps.nd rfl (Or.inl rfl) (Or.inr rfl))) mgs_nil)))) (fun _ _ _ _ _ => mts_nil) (fun _ _ _ _ _ => (me_tup (ma_cons (me_varS (pv 1)) (ma_cons (me_varS (pv 2)) ma_nil stS) stS)))).st ma_nil stS)).st ma_nil stS))))
--OK are_integers
set_option maxHeartbeats 8000000 in
theorem ok_are_integers {f_are_integers : Addr} {fd_are_integers : FuncData} (F : Fun Γ.K "are_integers" "are_integers" s_are_integers f_are_integers fd_are_integers) (m_isinstance : mg "isinstance" = none)
    (m_list : mg "list" = none)
    (m_tuple : mg "tuple" = none)
    (m_len : mg "len" = none)
    (m_all : mg "all" = none)
    {f_is_integer : Addr} {fd_is_integer : FuncData} (G_is_integer : FnG P w Γ.K mg base CX0 1 f_is_integer fd_is_integer ["value"] (spM Γ (List.replicate 1 .st) .st m_is_integer)) (g_is_integer : mg "is_integer" = some (.ref f_is_integer)) (k_is_integer : PySem.W.keepIn Γ.K (.ref f_is_integer) = true) (b_is_integer : Binds Γ.K fd_is_integer ["value"] []) :
    FnG P w Γ.K mg base CX0 2 f_are_integers fd_are_integers ["value", "many"] (spM Γ (List.replicate 2 .st) .st m_are_integers) := by
  refine fn_mk (ow := []) F sc_are_integers rfl (by decide) (by decide) (by decide) fun cdv A outer s H ys R E hG hr => ?_
  unfold g_are_integers
  exact (mss_cons (ms_if (MW.mt (mw_or (mt_not (mt_val (me_callB (id := "isinstance") call_isi2 cl_isi2 (by rfl) m_isinstance (by decide +kernel) (ma_cons (me_varS (pv 0)) (ma_cons (me_tup (ma_cons (me_glob (pe_bltn (v := .ty "list") (by rfl) m_list (by decide +kernel) rfl) (fun _ _ => dm_ty')) (ma_cons (me_glob (pe_bltn (v := .ty "tuple") (by rfl) m_tuple (by decide +kernel) rfl) (fun _ _ => dm_ty')) ma_nil stS) stS)) ma_nil stS) stS)))) (mw_or1 (mt_cmp (op_neA hr.units) cl_ne (me_callB (id := "len") call_lenB cl_lenB (by rfl) m_len (by decide +kernel) (ma_cons (me_varS (pv 0)) ma_nil stS)) (me_varS (pv 1)) stS (nomark _)))))
      (mss_one (ms_ret me_bl))
      mss_nil)
    (mss_one (ms_ret (me_callB (id := "all") (cr_all rfl) cl_all (by rfl) m_all (by decide +kernel) (ma_cons (me_lc (own := [("each", 2)]) rfl sc_are_integers.nd (mi_seq (me_varS (pv 0))) (blkOk_by (N := ["value", "many", "each"]) (sc := defScope s_are_integers) (by decide +kernel)) (fun _ _ _ _ _ => (mg_name (pg_name (i := 2) sc_are_integers.nd rfl (Or.inl rfl) (Or.inr rfl)))) (fun _ _ _ _ _ => mts_nil) (fun _ _ _ _ _ => (me_call (n := 1) G_is_integer hG (hr.mono (by decide)) (by rfl) g_is_integer k_is_integer b_is_integer pass00 CK.st (ma_cons (me_varS (pv 2)) ma_nil stS)))).st ma_nil stS)))))
--OK is_heap
set_option maxHeartbeats 8000000 in
theorem ok_is_heap {f_is_heap : Addr} {fd_is_heap : FuncData} (F : Fun Γ.K "is_heap" "is_heap" s_is_heap f_is_heap fd_is_heap) {f_are_integers : Addr} {fd_are_integers : FuncData} (G_are_integers : FnG P w Γ.K mg base CX0 2 f_are_integers fd_are_integers ["value", "many"] (spM Γ (List.replicate 2 .st) .st m_are_integers)) (g_are_integers : mg "are_integers" = some (.ref f_are_integers)) (k_are_integers : PySem.W.keepIn Γ.K (.ref f_are_integers) = true) (b_are_integers : Binds Γ.K fd_are_integers ["value", "many"] [])
    {f_is_within : Addr} {fd_is_within : FuncData} (G_is_within : FnG P w Γ.K mg base CX0 2 f_is_within fd_is_within ["value", "least", "most"] (spM Γ (List.replicate 3 .st) .st m_is_within)) (g_is_within : mg "is_within" = some (.ref f_is_within)) (k_is_within : PySem.W.keepIn Γ.K (.ref f_is_within) = true) (b_is_within : Binds Γ.K fd_is_within ["value", "least", "most"] [])
    {t_FARTHEST : Tok} (g_FARTHEST : mg "FARTHEST" = some (.int 1000000 t_FARTHEST))
    {t_MOST_CHIPS : Tok} (g_MOST_CHIPS : mg "MOST_CHIPS" = some (.int 1000000000000000000000000000000000000000000000000000000000000 t_MOST_CHIPS)) :
    FnG P w Γ.K mg base CX0 3 f_is_heap fd_is_heap ["value"] (spM Γ (List.replicate 1 .st) .st m_is_heap) := by
  refine fn_mk (ow := []) F sc_is_heap rfl (by decide) (by decide) (by decide) fun cdv A outer s H ys R E hG hr => ?_
  unfold g_is_heap
  exact (mss_one (ms_ret (me_and (me_call (n := 2) G_are_integers hG (hr.mono (by decide)) (by rfl) g_are_integers k_are_integers b_are_integers pass00 CK.st (ma_cons (me_varS (pv 0)) (ma_cons me_int ma_nil stS) stS)) (me_and (me_call (n := 3) G_is_within hG (hr.mono (by decide)) (by rfl) g_is_within k_is_within b_is_within pass00 CK.st (ma_cons (me_ix (ixA (hu1 hr)) cl_ixA (me_varS (pv 0)) me_int stS) (ma_cons (me_un un_neg cl_neg (me_glob (pe_glob (v := .int 1000000) (by rfl) g_FARTHEST ⟨_, rfl⟩) (fun _ _ => dm_int))) (ma_cons (me_glob (pe_glob (v := .int 1000000) (by rfl) g_FARTHEST ⟨_, rfl⟩) (fun _ _ => dm_int)) ma_nil stS) stS) stS)) (me_one (me_call (n := 3) G_is_within hG (hr.mono (by decide)) (by rfl) g_is_within k_is_within b_is_within pass00 CK.st (ma_cons (me_ix (ixA (hu1 hr)) cl_ixA (me_varS (pv 0)) me_int stS) (ma_cons me_int (ma_cons (me_glob (pe_glob (v := .int 1000000000000000000000000000000000000000000000000000000000000) (by rfl) g_MOST_CHIPS ⟨_, rfl⟩) (fun _ _ => dm_int)) ma_nil stS) stS) stS)))))))
--OK are_heaps
set_option maxHeartbeats 8000000 in
theorem ok_are_heaps {f_are_heaps : Addr} {fd_are_heaps : FuncData} (F : Fun Γ.K "are_heaps" "are_heaps" s_are_heaps f_are_heaps fd_are_heaps) (m_isinstance : mg "isinstance" = none)
    (m_list : mg "list" = none)
    (m_tuple : mg "tuple" = none)
    (m_len : mg "len" = none)
    {t_MOST_HEAPS : Tok} (g_MOST_HEAPS : mg "MOST_HEAPS" = some (.int 60 t_MOST_HEAPS))
    (m_all : mg "all" = none)
    {f_is_heap : Addr} {fd_is_heap : FuncData} (G_is_heap : FnG P w Γ.K mg base CX0 3 f_is_heap fd_is_heap ["value"] (spM Γ (List.replicate 1 .st) .st m_is_heap)) (g_is_heap : mg "is_heap" = some (.ref f_is_heap)) (k_is_heap : PySem.W.keepIn Γ.K (.ref f_is_heap) = true) (b_is_heap : Binds Γ.K fd_is_heap ["value"] [])
    (m_set : mg "set" = none) :
    FnG P w Γ.K mg base CX0 4 f_are_heaps fd_are_heaps ["value"] (spM Γ (List.replicate 1 .st) .st m_are_heaps) := by
  refine fn_mk (ow := []) F sc_are_heaps rfl (by decide) (by decide) (by decide) fun cdv A outer s H ys R E hG hr => ?_
  unfold g_are_heaps
  exact (mss_cons (ms_if (MW.mt (mw_or (mt_not (mt_val (me_callB (id := "isinstance") call_isi2 cl_isi2 (by rfl) m_isinstance (by decide +kernel) (ma_cons (me_varS (pv 0)) (ma_cons (me_tup (ma_cons (me_glob (pe_bltn (v := .ty "list") (by rfl) m_list (by decide +kernel) rfl) (fun _ _ => dm_ty')) (ma_cons (me_glob (pe_bltn (v := .ty "tuple") (by rfl) m_tuple (by decide +kernel) rfl) (fun _ _ => dm_ty')) ma_nil stS) stS)) ma_nil stS) stS)))) (mw_or (mt_cmp op_gt cl_gt (me_callB (id := "len") call_lenB cl_lenB (by rfl) m_len (by decide +kernel) (ma_cons (me_varS (pv 0)) ma_nil stS)) (me_glob (pe_glob (v := .int 60) (by rfl) g_MOST_HEAPS ⟨_, rfl⟩) (fun _ _ => dm_int)) stS (nomark _)) (mw_or1 (mt_not (mt_val (me_callB (id := "all") (cr_all rfl) cl_all (by rfl) m_all (by decide +kernel) (ma_cons (me_lc (own := [("each", 2)]) rfl sc_are_heaps.nd (mi_seq (me_varS (pv 0))) (blkOk_by (N := ["value", "spots", "each", "spot", "_"]) (sc := defScope s_are_heaps) (by decide +kernel)) (fun _ _ _ _ _ => (mg_name (pg_name (i := 2) sc_are_heaps.nd rfl (Or.inl rfl) (Or.inr rfl)))) (fun _ _ _ _ _ => mts_nil) (fun _ _ _ _ _ => (me_call (n := 1) G_is_heap hG (hr.mono (by decide)) (by rfl) g_is_heap k_is_heap b_is_heap pass00 CK.st (ma_cons (me_varS (pv 2)) ma_nil stS)))).st ma_nil stS))))))))
      (mss_one (ms_ret me_bl))
      mss_nil)
    (mss_cons (ms_setLc (i := 1) (own := [("spot", 3), ("_", 4)]) rfl sc_are_heaps.nd rfl rfl (sw_true rfl rfl rfl (by decide +kernel)) (mi_seq (me_varS (pv 0))) (blkOk_by (N := ["value", "spots", "each", "spot", "_"]) (sc := defScope s_are_heaps) (by decide +kernel)) (fun _ _ _ _ _ => (mg_tup rfl (mgs_cons (mg_name (pg_name (i := 3) sc_are_heaps.nd rfl (Or.inl rfl) (Or.inr rfl))) (mgs_cons (mg_name (pg_name (i := 4) sc_are_heaps.nd rfl (Or.inl rfl) (Or.inr rfl))) mgs_nil)))) (fun _ _ _ _ _ => mts_nil) (fun _ _ _ _ _ => (me_varS (pv 3))))
    (mss_one (ms_ret (me_cmp (op_eqA hr.units) cl_eq (me_lenSet (by rfl) m_len (by rfl) m_set cl_lenSet (me_varS (pv 1))) (me_callB (id := "len") call_lenB cl_lenB (by rfl) m_len (by decide +kernel) (ma_cons (me_varS (pv 1)) ma_nil stS)) stS (nomark _))))))
--OK need_heaps
set_option maxHeartbeats 8000000 in
theorem ok_need_heaps {f_need_heaps : Addr} {fd_need_heaps : FuncData} (F : Fun Γ.K "need_heaps" "need_heaps" s_need_heaps f_need_heaps fd_need_heaps) {f_are_heaps : Addr} {fd_are_heaps : FuncData} (G_are_heaps : FnG P w Γ.K mg base CX0 4 f_are_heaps fd_are_heaps ["value"] (spM Γ (List.replicate 1 .st) .st m_are_heaps)) (g_are_heaps : mg "are_heaps" = some (.ref f_are_heaps)) (k_are_heaps : PySem.W.keepIn Γ.K (.ref f_are_heaps) = true) (b_are_heaps : Binds Γ.K fd_are_heaps ["value"] [])
    {f_kept_heaps : Addr} {fd_kept_heaps : FuncData} (G_kept_heaps : FnG P w Γ.K mg base CX0 1 f_kept_heaps fd_kept_heaps ["value"] (spM Γ (List.replicate 1 .st) .st m_kept_heaps)) (g_kept_heaps : mg "kept_heaps" = some (.ref f_kept_heaps)) (k_kept_heaps : PySem.W.keepIn Γ.K (.ref f_kept_heaps) = true) (b_kept_heaps : Binds Γ.K fd_kept_heaps ["value"] []) :
    FnG P w Γ.K mg base CX0 5 f_need_heaps fd_need_heaps ["value", "part"] (spM Γ (List.replicate 2 .st) .st m_need_heaps) := by
  refine fn_mk (ow := []) F sc_need_heaps rfl (by decide) (by decide) (by decide) fun cdv A outer s H ys R E hG hr => ?_
  unfold g_need_heaps
  exact (mss_cons (ms_if (mt_not (mt_val (me_call (n := 1) G_are_heaps hG (hr.mono (by decide)) (by rfl) g_are_heaps k_are_heaps b_are_heaps pass00 CK.st (ma_cons (me_varS (pv 0)) ma_nil stS))))
      (mss_one ms_never)
      mss_nil)
    (mss_one (ms_ret (me_call (n := 1) G_kept_heaps hG (hr.mono (by decide)) (by rfl) g_kept_heaps k_kept_heaps b_kept_heaps pass00 CK.st (ma_cons (me_varS (pv 0)) ma_nil stS)))))
--OK need_lefts
set_option maxHeartbeats 8000000 in
theorem ok_need_lefts {f_need_lefts : Addr} {fd_need_lefts : FuncData} (F : FunD Γ.K "need_lefts" "need_lefts" (defArgs s_need_lefts) (defBody s_need_lefts) (defScope s_need_lefts) [(.str "lefts")] [] f_need_lefts fd_need_lefts) (m_isinstance : mg "isinstance" = none)
    (m_list : mg "list" = none)
    (m_tuple : mg "tuple" = none)
    (m_len : mg "len" = none)
    {t_MOST_LEFTS : Tok} (g_MOST_LEFTS : mg "MOST_LEFTS" = some (.int 400 t_MOST_LEFTS))
    (m_all : mg "all" = none)
    {f_is_within : Addr} {fd_is_within : FuncData} (G_is_within : FnG P w Γ.K mg base CX0 2 f_is_within fd_is_within ["value", "least", "most"] (spM Γ (List.replicate 3 .st) .st m_is_within)) (g_is_within : mg "is_within" = some (.ref f_is_within)) (k_is_within : PySem.W.keepIn Γ.K (.ref f_is_within) = true) (b_is_within : Binds Γ.K fd_is_within ["value", "least", "most"] [])
    {t_FARTHEST : Tok} (g_FARTHEST : mg "FARTHEST" = some (.int 1000000 t_FARTHEST))
    (m_set : mg "set" = none)
    (m_sorted : mg "sorted" = none) :
    FnG P w Γ.K mg base CX0 3 f_need_lefts fd_need_lefts ["value", "part"] (spM Γ (List.replicate 2 .st) .st m_need_lefts) := by
  refine fn_mkD (ow := []) F sc_need_lefts rfl (by decide) (by decide) (by decide) fun cdv A outer s H ys R E hG hr => ?_
  unfold g_need_lefts
  exact (mss_cons (ms_if (MW.mt (mw_or (mt_not (mt_val (me_callB (id := "isinstance") call_isi2 cl_isi2 (by rfl) m_isinstance (by decide +kernel) (ma_cons (me_varS (pv 0)) (ma_cons (me_tup (ma_cons (me_glob (pe_bltn (v := .ty "list") (by rfl) m_list (by decide +kernel) rfl) (fun _ _ => dm_ty')) (ma_cons (me_glob (pe_bltn (v := .ty "tuple") (by rfl) m_tuple (by decide +kernel) rfl) (fun _ _ => dm_ty')) ma_nil stS) stS)) ma_nil stS) stS)))) (mw_or1 (mt_cmp op_gt cl_gt (me_callB (id := "len") call_lenB cl_lenB (by rfl) m_len (by decide +kernel) (ma_cons (me_varS (pv 0)) ma_nil stS)) (me_glob (pe_glob (v := .int 400) (by rfl) g_MOST_LEFTS ⟨_, rfl⟩) (fun _ _ => dm_int)) stS (nomark _)))))
      (mss_one ms_never)
      mss_nil)
    (mss_cons (ms_if (MW.mt (mw_or (mt_not (mt_val (me_callB (id := "all") (cr_all rfl) cl_all (by rfl) m_all (by decide +kernel) (ma_cons (me_lc (own := [("spot", 2)]) rfl sc_need_lefts.nd (mi_seq (me_varS (pv 0))) (blkOk_by (N := ["value", "part", "spot"]) (sc := defScope s_need_lefts) (by decide +kernel)) (fun _ _ _ _ _ => (mg_name (pg_name (i := 2) sc_need_lefts.nd rfl (Or.inl rfl) (Or.inr rfl)))) (fun _ _ _ _ _ => mts_nil) (fun _ _ _ _ _ => (me_call (n := 3) G_is_within hG (hr.mono (by decide)) (by rfl) g_is_within k_is_within b_is_within pass00 CK.st (ma_cons (me_varS (pv 2)) (ma_cons (me_un un_neg cl_neg (me_glob (pe_glob (v := .int 1000000) (by rfl) g_FARTHEST ⟨_, rfl⟩) (fun _ _ => dm_int))) (ma_cons (me_glob (pe_glob (v := .int 1000000) (by rfl) g_FARTHEST ⟨_, rfl⟩) (fun _ _ => dm_int)) ma_nil stS) stS) stS)))).st ma_nil stS)))) (mw_or1 (mt_cmp op_lt cl_lt (me_lenSetB (by rfl) m_len (by rfl) m_set cl_lenSetB (me_varS (pv 0))) (me_callB (id := "len") call_lenB cl_lenB (by rfl) m_len (by decide +kernel) (ma_cons (me_varS (pv 0)) ma_nil stS)) stS (nomark _)))))
      (mss_one ms_never)
      mss_nil)
    (mss_one (ms_ret (me_callTy (T := "tuple") call_tupleF cl_tuple (by rfl) m_tuple (by decide +kernel) (ma_cons (me_callB (id := "sorted") (call_sortedB rfl) cl_sortedB (by rfl) m_sorted (by decide +kernel) (ma_cons (me_varS (pv 0)) ma_nil stS)).st ma_nil stS))))))
--OK spots_of
set_option maxHeartbeats 8000000 in
theorem ok_spots_of {f_spots_of : Addr} {fd_spots_of : FuncData} (F : Fun Γ.K "spots_of" "spots_of" s_spots_of f_spots_of fd_spots_of)  :
    FnG P w Γ.K mg base CX0 1 f_spots_of fd_spots_of ["heaps"] (spM Γ (List.replicate 1 .st) .st m_spots_of) := by
  refine fn_mk (ow := []) F sc_spots_of rfl (by decide) (by decide) (by decide) fun cdv A outer s H ys R E hG hr => ?_
  unfold g_spots_of
  exact (mss_one (ms_ret (me_lc (own := [("spot", 1), ("_", 2)]) rfl sc_spots_of.nd (mi_seq (me_varS (pv 0))) (blkOk_by (N := ["heaps", "spot", "_"]) (sc := defScope s_spots_of) (by decide +kernel)) (fun _ _ _ _ _ => (mg_tup rfl (mgs_cons (mg_name (pg_name (i := 1) sc_spots_of.nd rfl (Or.inl rfl) (Or.inr rfl))) (mgs_cons (mg_name (pg_name (i := 2) sc_spots_of.nd rfl (Or.inl rfl) (Or.inr rfl))) mgs_nil)))) (fun _ _ _ _ _ => mts_nil) (fun _ _ _ _ _ => (me_varS (pv 1)))).st))
--OK need_start
set_option maxHeartbeats 8000000 in
theorem ok_need_start {f_need_start : Addr} {fd_need_start : FuncData} (F : Fun Γ.K "need_start" "need_start" s_need_start f_need_start fd_need_start) {f_need_lefts : Addr} {fd_need_lefts : FuncData} (G_need_lefts : FnG P w Γ.K mg base CX0 3 f_need_lefts fd_need_lefts ["value", "part"] (spM Γ (List.replicate 2 .st) .st m_need_lefts)) (g_need_lefts : mg "need_lefts" = some (.ref f_need_lefts)) (k_need_lefts : PySem.W.keepIn Γ.K (.ref f_need_lefts) = true) (b_need_lefts : Binds Γ.K fd_need_lefts ["value", "part"] []) {ds_need_lefts_1 : List Value} (bd_need_lefts_1 : Vals [(.str "lefts")] ds_need_lefts_1 ∧ Binds Γ.K fd_need_lefts ["value", "part"] ds_need_lefts_1)
    {f_need_heaps : Addr} {fd_need_heaps : FuncData} (G_need_heaps : FnG P w Γ.K mg base CX0 5 f_need_heaps fd_need_heaps ["value", "part"] (spM Γ (List.replicate 2 .st) .st m_need_heaps)) (g_need_heaps : mg "need_heaps" = some (.ref f_need_heaps)) (k_need_heaps : PySem.W.keepIn Γ.K (.ref f_need_heaps) = true) (b_need_heaps : Binds Γ.K fd_need_heaps ["value", "part"] [])
    {f_need_colour : Addr} {fd_need_colour : FuncData} (G_need_colour : FnG P w Γ.K mg base CX0 2 f_need_colour fd_need_colour ["spots"] (spM Γ (List.replicate 1 .st) .st m_need_colour)) (g_need_colour : mg "need_colour" = some (.ref f_need_colour)) (k_need_colour : PySem.W.keepIn Γ.K (.ref f_need_colour) = true) (b_need_colour : Binds Γ.K fd_need_colour ["spots"] [])
    {f_spots_of : Addr} {fd_spots_of : FuncData} (G_spots_of : FnG P w Γ.K mg base CX0 1 f_spots_of fd_spots_of ["heaps"] (spM Γ (List.replicate 1 .st) .st m_spots_of)) (g_spots_of : mg "spots_of" = some (.ref f_spots_of)) (k_spots_of : PySem.W.keepIn Γ.K (.ref f_spots_of) = true) (b_spots_of : Binds Γ.K fd_spots_of ["heaps"] []) :
    FnG P w Γ.K mg base CX0 6 f_need_start fd_need_start ["heaps", "lefts"] (spM Γ (List.replicate 2 .st) .st m_need_start) := by
  refine fn_mk (ow := []) F sc_need_start rfl (by decide) (by decide) (by decide) fun cdv A outer s H ys R E hG hr => ?_
  unfold g_need_start
  exact (mss_cons (ms_par2 (i := 2) (j := 3) (by rfl) sc_need_start.nd rfl rfl (by decide) rfl rfl (mb_consS (me_call (n := 2) G_need_heaps hG (hr.mono (by decide)) (by rfl) g_need_heaps k_need_heaps b_need_heaps pass00 CK.st (ma_cons (me_varS (pv 0)) (ma_cons me_str ma_nil stS) stS)) (mb_consS (me_callD (n := 2) G_need_lefts hG (hr.mono (by decide)) (by rfl) g_need_lefts k_need_lefts bd_need_lefts_1 pass00 (fun _ _ => (Dms.cons dm_str Dms.nil)) CK.st (ma_cons (me_varS (pv 1)) ma_nil stS)) mb_nil)) (by rfl))
    (mss_cons (ms_expr (me_call (n := 1) G_need_colour hG (hr.mono (by decide)) (by rfl) g_need_colour k_need_colour b_need_colour pass00 CK.st (ma_cons (me_call (n := 1) G_spots_of hG (hr.mono (by decide)) (by rfl) g_spots_of k_spots_of b_spots_of pass00 CK.st (ma_cons (me_varS (pv 2)) ma_nil stS)) ma_nil stS)))
    (mss_one (ms_ret (me_tup (ma_cons (me_varS (pv 2)) (ma_cons (me_varS (pv 3)) ma_nil stS) stS))))))
--OK Line___init__
set_option maxHeartbeats 8000000 in
theorem ok_Line___init__ {f_Line___init__ : Addr} {fd_Line___init__ : FuncData} (F : Fun Γ.K "__init__" "Line.__init__" s_Line___init__ f_Line___init__ fd_Line___init__) {f_need_start : Addr} {fd_need_start : FuncData} (G_need_start : FnG P w Γ.K mg base CX0 6 f_need_start fd_need_start ["heaps", "lefts"] (spM Γ (List.replicate 2 .st) .st m_need_start)) (g_need_start : mg "need_start" = some (.ref f_need_start)) (k_need_start : PySem.W.keepIn Γ.K (.ref f_need_start) = true) (b_need_start : Binds Γ.K fd_need_start ["heaps", "lefts"] [])
    (fo_tick : FldOk Γ ["Line"] "tick")
    (fo_heaps : FldOk Γ ["Line"] "heaps")
    (fo_lefts : FldOk Γ ["Line"] "lefts") :
    FnG P w Γ.K mg base CX0 7 f_Line___init__ fd_Line___init__ ["self", "heaps", "lefts"] (spM Γ [.fr, .st, .st] .st m_Line___init__) := by
  refine fn_mk (ow := [0]) F sc_Line___init__ rfl (by decide) (by decide) (by decide) fun cdv A outer s H ys R E hG hr => ?_
  unfold g_Line___init__
  exact (mss_cons (ms_asg (me_call (n := 2) G_need_start hG (hr.mono (by decide)) (by rfl) g_need_start k_need_start b_need_start pass00 CK.st (ma_cons (me_varS (pv 1)) (ma_cons (me_varS (pv 2)) ma_nil stS) stS)) (mg_tup rfl (mgs_cons (mg_name (pg_name (i := 3) sc_Line___init__.nd rfl (.inl rfl))) (mgs_cons (mg_name (pg_name (i := 4) sc_Line___init__.nd rfl (.inl rfl))) mgs_nil))))
    (mss_cons (ms_setF (i := 0) fo_tick (pv 0) me_int)
    (mss_cons (ms_setF (i := 0) fo_heaps (pv 0) (me_varS (pv 3)))
    (mss_one (ms_setF (i := 0) fo_lefts (pv 0) (me_varS (pv 4)))))))
--OK sent_on
set_option maxHeartbeats 8000000 in
theorem ok_sent_on {f_sent_on : Addr} {fd_sent_on : FuncData} (F : Fun Γ.K "sent_on" "sent_on" s_sent_on f_sent_on fd_sent_on)  :
    FnG P w Γ.K mg base CX0 1 f_sent_on fd_sent_on ["heaps", "lefts"] (spM Γ (List.replicate 2 .st) .st m_sent_on) := by
  refine fn_mk (ow := [3]) F sc_sent_on rfl (by decide) (by decide) (by decide) fun cdv A outer s H ys R E hG hr => ?_
  unfold g_sent_on
  exact (mss_cons (ms_par2 (i := 2) (j := 3) (by rfl) sc_sent_on.nd rfl rfl (by decide) rfl rfl (mb_consS (me_dc (own := [("spot", 4)]) rfl sc_sent_on.nd (mi_seq (me_varS (pv 1))) (blkOk_by (N := ["heaps", "lefts", "shown", "found", "spot", "many", "more"]) (sc := defScope s_sent_on) (by decide +kernel)) (fun _ _ _ _ _ => (mg_name (pg_name (i := 4) sc_sent_on.nd rfl (Or.inl rfl) (Or.inr rfl)))) (fun _ _ _ _ _ => mts_nil) (fun _ _ _ _ _ => (me_varS (pv 4))) (fun _ _ _ _ _ => me_bl)).st (mb_consF (me_lst ma_nil) mb_nil)) (by rfl))
    (mss_cons (ms_for PassesOwn.never rfl (mi_seq (me_varS (pv 0))) (mg_tup rfl (mgs_cons (mg_name (pg_name (i := 4) sc_sent_on.nd rfl (.inl rfl))) (mgs_cons (mg_name (pg_name (i := 5) sc_sent_on.nd rfl (.inl rfl))) mgs_nil)))
      (mss_cons (ms_set (i := 6) sc_sent_on.nd rfl (.inl rfl) (me_op op_sub cl_sub (me_varS (pv 5)) (me_op op_fdivA cl_fdiv (me_varS (pv 5)) me_int stS) stS))
    (mss_one (ms_expr (me_mut PySem.F.plainAttrs_list PySem.F.slot_list_append PySem.F.type_list_append mt_append (pv 3) (ma_cons (me_if (mt_cmp (op_inA (hu65 hr)) cl_in (me_varS (pv 4)) (me_varS (pv 2)) stS (by rfl)) (me_tup (ma_cons (me_varS (pv 4)) (ma_cons (me_varS (pv 6)) (ma_cons (me_op op_fdivA cl_fdiv (me_varS (pv 5)) me_int stS) ma_nil stS) stS) stS)) (me_tup (ma_cons (me_varS (pv 4)) (ma_cons (me_op op_fdivA cl_fdiv (me_varS (pv 5)) me_int stS) (ma_cons (me_varS (pv 6)) ma_nil stS) stS) stS))) ma_nil stS) rm_append)))))
    (mss_one (ms_ret (me_mov (pv 3)).st))))
--OK Line_advance
set_option maxHeartbeats 8000000 in
theorem ok_Line_advance {f_Line_advance : Addr} {fd_Line_advance : FuncData} (F : Fun Γ.K "advance" "Line.advance" s_Line_advance f_Line_advance fd_Line_advance) (fo_lefts : FldOk Γ ["Line"] "lefts")
    {f_sent_on : Addr} {fd_sent_on : FuncData} (G_sent_on : FnG P w Γ.K mg base CX0 1 f_sent_on fd_sent_on ["heaps", "lefts"] (spM Γ (List.replicate 2 .st) .st m_sent_on)) (g_sent_on : mg "sent_on" = some (.ref f_sent_on)) (k_sent_on : PySem.W.keepIn Γ.K (.ref f_sent_on) = true) (b_sent_on : Binds Γ.K fd_sent_on ["heaps", "lefts"] [])
    (fo_heaps : FldOk Γ ["Line"] "heaps")
    (m_tuple : mg "tuple" = none)
    (m_sorted : mg "sorted" = none)
    (fo_tick : FldOk Γ ["Line"] "tick") :
    FnG P w Γ.K mg base CX0 2 f_Line_advance fd_Line_advance ["self"] (spM Γ [.fr] .st m_Line_advance) := by
  refine fn_mk (ow := [0, 1, 2]) F sc_Line_advance rfl (by decide) (by decide) (by decide) fun cdv A outer s H ys R E hG hr => ?_
  unfold g_Line_advance
  exact (mss_cons (ms_par2 (i := 1) (j := 2) (by rfl) sc_Line_advance.nd rfl rfl (by decide) rfl rfl (mb_consF me_dnew (mb_consF (me_dc (own := [("spot", 3)]) rfl sc_Line_advance.nd (mi_seq (me_fldO fo_lefts (pv 0))) (blkOk_by (N := ["self", "later", "lefts", "spot", "left", "right", "beside", "many", "is_left"]) (sc := defScope s_Line_advance) (by decide +kernel)) (fun _ _ _ _ _ => (mg_name (pg_name (i := 3) sc_Line_advance.nd rfl (Or.inl rfl) (Or.inr rfl)))) (fun _ _ _ _ _ => mts_nil) (fun _ _ _ _ _ => (me_varS (pv 3))) (fun _ _ _ _ _ => me_bl)) mb_nil)) (by rfl))
    (mss_cons (ms_for PassesOwn.never rfl (mi_seq (me_call (n := 2) G_sent_on hG (hr.mono (by decide)) (by rfl) g_sent_on k_sent_on b_sent_on pass00 CK.st (ma_cons (me_fldO fo_heaps (pv 0)) (ma_cons (me_fldO fo_lefts (pv 0)) ma_nil stS) stS))) (mg_tup rfl (mgs_cons (mg_name (pg_name (i := 3) sc_Line_advance.nd rfl (.inl rfl))) (mgs_cons (mg_name (pg_name (i := 4) sc_Line_advance.nd rfl (.inl rfl))) (mgs_cons (mg_name (pg_name (i := 5) sc_Line_advance.nd rfl (.inl rfl))) mgs_nil))))
      (mss_cons (ms_for PassesOwn.never rfl (mi_seq (me_tup (ma_cons (me_tup (ma_cons (me_op op_sub cl_sub (me_varS (pv 3)) me_int stS) (ma_cons (me_varS (pv 4)) ma_nil stS) stS)) (ma_cons (me_tup (ma_cons (me_op op_addA cl_add (me_varS (pv 3)) me_int stS) (ma_cons (me_varS (pv 5)) ma_nil stS) stS)) ma_nil stS) stS))) (mg_tup rfl (mgs_cons (mg_name (pg_name (i := 6) sc_Line_advance.nd rfl (.inl rfl))) (mgs_cons (mg_name (pg_name (i := 7) sc_Line_advance.nd rfl (.inl rfl))) mgs_nil)))
      (mss_one (ms_setI (i := 1) (hu1 hr) (pv 1) (me_varS (pv 6)) (me_op op_addA cl_addN (me_get2 (hu1 hr) (me_varO (pv 1)) (me_varS (pv 6)) me_int.now stN stN) (me_varS (pv 7)).now stN).scal)))
    (mss_one (ms_if (mt_cmp (op_neA hr.units) cl_ne (me_varS (pv 4)) (me_varS (pv 5)) stS (nomark _))
      (mss_one (ms_setI (i := 2) (hu1 hr) (pv 2) (me_varS (pv 3)) (me_not (me_get2 (hu1 hr) (me_varO (pv 2)) (me_varS (pv 3)) me_bl.now stN stN))))
      mss_nil))))
    (mss_shr 1 (mss_shr 2 (mss_cons (ms_setF (i := 0) fo_heaps (pv 0) (me_callTy (T := "tuple") call_tupleF cl_tuple (by rfl) m_tuple (by decide +kernel) (ma_cons (me_callB (id := "sorted") (call_sortedA rfl) cl_sortedA (by rfl) m_sorted (by decide +kernel) (ma_cons (me_lcD (own := [("spot", 3), ("many", 7)]) rfl sc_Line_advance.nd (mid_items (me_varS (pv 1))) (blkOk_by (N := ["self", "later", "lefts", "spot", "left", "right", "beside", "many", "is_left"]) (sc := defScope s_Line_advance) (by decide +kernel)) (fun _ _ _ _ _ => (mg_tup rfl (mgs_cons (mg_name (pg_name (i := 3) sc_Line_advance.nd rfl (Or.inl rfl) (Or.inr rfl))) (mgs_cons (mg_name (pg_name (i := 7) sc_Line_advance.nd rfl (Or.inl rfl) (Or.inr rfl))) mgs_nil)))) (fun _ _ _ _ _ => (mts_one (mt_cmp op_gt cl_gt (me_varS (pv 7)) me_int stS (nomark _)))) (fun _ _ _ _ _ => (me_tup (ma_cons (me_varS (pv 3)) (ma_cons (me_varS (pv 7)) ma_nil stS) stS)))).st ma_nil stS)).st ma_nil stS)))
    (mss_cons (ms_setF (i := 0) fo_lefts (pv 0) (me_callTy (T := "tuple") call_tupleF cl_tuple (by rfl) m_tuple (by decide +kernel) (ma_cons (me_callB (id := "sorted") (call_sortedA rfl) cl_sortedA (by rfl) m_sorted (by decide +kernel) (ma_cons (me_lcD (own := [("spot", 3), ("is_left", 8)]) rfl sc_Line_advance.nd (mid_items (me_varS (pv 2))) (blkOk_by (N := ["self", "later", "lefts", "spot", "left", "right", "beside", "many", "is_left"]) (sc := defScope s_Line_advance) (by decide +kernel)) (fun _ _ _ _ _ => (mg_tup rfl (mgs_cons (mg_name (pg_name (i := 3) sc_Line_advance.nd rfl (Or.inl rfl) (Or.inr rfl))) (mgs_cons (mg_name (pg_name (i := 8) sc_Line_advance.nd rfl (Or.inl rfl) (Or.inr rfl))) mgs_nil)))) (fun _ _ _ _ _ => (mts_one (mt_val (me_varS (pv 8))))) (fun _ _ _ _ _ => (me_varS (pv 3)))).st ma_nil stS)).st ma_nil stS)))
    (mss_cons (ms_setF (i := 0) fo_tick (pv 0) (me_op op_addA cl_add (me_fldO fo_tick (pv 0)) me_int stS))
    (mss_one (ms_ret (me_fldO fo_tick (pv 0)))))))))))
--OK share_in
set_option maxHeartbeats 8000000 in
theorem ok_share_in {f_share_in : Addr} {fd_share_in : FuncData} (F : Fun Γ.K "share_in" "share_in" s_share_in f_share_in fd_share_in) {f_least_pair : Addr} {fd_least_pair : FuncData} (G_least_pair : FnG P w Γ.K mg base CX0 1 f_least_pair fd_least_pair ["up", "down"] (spM Γ (List.replicate 2 .st) .st m_least_pair)) (g_least_pair : mg "least_pair" = some (.ref f_least_pair)) (k_least_pair : PySem.W.keepIn Γ.K (.ref f_least_pair) = true) (b_least_pair : Binds Γ.K fd_least_pair ["up", "down"] [])
    {f_rows_to : Addr} {fd_rows_to : FuncData} (G_rows_to : FnG P w Γ.K mg base CX0 2 f_rows_to fd_rows_to ["far", "ticks"] (spM Γ (List.replicate 2 .st) .st m_rows_to)) (g_rows_to : mg "rows_to" = some (.ref f_rows_to)) (k_rows_to : PySem.W.keepIn Γ.K (.ref f_rows_to) = true) (b_rows_to : Binds Γ.K fd_rows_to ["far", "ticks"] []) :
    FnG P w Γ.K mg base CX0 3 f_share_in fd_share_in ["far", "ticks"] (spM Γ (List.replicate 2 .st) .st m_share_in) := by
  refine fn_mk (ow := []) F sc_share_in rfl (by decide) (by decide) (by decide) fun cdv A outer s H ys R E hG hr => ?_
  unfold g_share_in
  exact (mss_one (ms_ret (me_call (n := 2) G_least_pair hG (hr.mono (by decide)) (by rfl) g_least_pair k_least_pair b_least_pair pass00 CK.st (ma_cons (me_call (n := 2) G_rows_to hG (hr.mono (by decide)) (by rfl) g_rows_to k_rows_to b_rows_to pass00 CK.st (ma_cons (me_varS (pv 0)) (ma_cons (me_varS (pv 1)) ma_nil stS) stS)) (ma_cons (me_op op_shlW cl_shl me_int (me_varS (pv 1)) stS) ma_nil stS) stS))))
--OK share_of
set_option maxHeartbeats 8000000 in
theorem ok_share_of {f_share_of : Addr} {fd_share_of : FuncData} (F : Fun Γ.K "share_of" "share_of" s_share_of f_share_of fd_share_of) {f_need_number : Addr} {fd_need_number : FuncData} (G_need_number : FnG P w Γ.K mg base CX0 3 f_need_number fd_need_number ["value", "part", "least", "most"] (spM Γ (List.replicate 4 .st) .st m_need_number)) (g_need_number : mg "need_number" = some (.ref f_need_number)) (k_need_number : PySem.W.keepIn Γ.K (.ref f_need_number) = true) (b_need_number : Binds Γ.K fd_need_number ["value", "part", "least", "most"] [])
    {t_MOST_FAR : Tok} (g_MOST_FAR : mg "MOST_FAR" = some (.int 400 t_MOST_FAR))
    {f_share_in : Addr} {fd_share_in : FuncData} (G_share_in : FnG P w Γ.K mg base CX0 3 f_share_in fd_share_in ["far", "ticks"] (spM Γ (List.replicate 2 .st) .st m_share_in)) (g_share_in : mg "share_in" = some (.ref f_share_in)) (k_share_in : PySem.W.keepIn Γ.K (.ref f_share_in) = true) (b_share_in : Binds Γ.K fd_share_in ["far", "ticks"] []) :
    FnG P w Γ.K mg base CX0 4 f_share_of fd_share_of ["far", "ticks"] (spM Γ (List.replicate 2 .st) .st m_share_of) := by
  refine fn_mk (ow := []) F sc_share_of rfl (by decide) (by decide) (by decide) fun cdv A outer s H ys R E hG hr => ?_
  unfold g_share_of
  exact (mss_cons (ms_expr (me_call (n := 4) G_need_number hG (hr.mono (by decide)) (by rfl) g_need_number k_need_number b_need_number pass00 CK.st (ma_cons (me_varS (pv 0)) (ma_cons me_str (ma_cons (me_un un_neg cl_neg (me_glob (pe_glob (v := .int 400) (by rfl) g_MOST_FAR ⟨_, rfl⟩) (fun _ _ => dm_int))) (ma_cons (me_glob (pe_glob (v := .int 400) (by rfl) g_MOST_FAR ⟨_, rfl⟩) (fun _ _ => dm_int)) ma_nil stS) stS) stS) stS)))
    (mss_cons (ms_expr (me_call (n := 4) G_need_number hG (hr.mono (by decide)) (by rfl) g_need_number k_need_number b_need_number pass00 CK.st (ma_cons (me_varS (pv 1)) (ma_cons me_str (ma_cons me_int (ma_cons (me_glob (pe_glob (v := .int 400) (by rfl) g_MOST_FAR ⟨_, rfl⟩) (fun _ _ => dm_int)) ma_nil stS) stS) stS) stS)))
    (mss_one (ms_ret (me_call (n := 2) G_share_in hG (hr.mono (by decide)) (by rfl) g_share_in k_share_in b_share_in pass00 CK.st (ma_cons (me_varS (pv 0)) (ma_cons (me_varS (pv 1)) ma_nil stS) stS))))))
--OK times
set_option maxHeartbeats 8000000 in
theorem ok_times {f_times : Addr} {fd_times : FuncData} (F : Fun Γ.K "times" "times" s_times f_times fd_times) {f_least_pair : Addr} {fd_least_pair : FuncData} (G_least_pair : FnG P w Γ.K mg base CX0 1 f_least_pair fd_least_pair ["up", "down"] (spM Γ (List.replicate 2 .st) .st m_least_pair)) (g_least_pair : mg "least_pair" = some (.ref f_least_pair)) (k_least_pair : PySem.W.keepIn Γ.K (.ref f_least_pair) = true) (b_least_pair : Binds Γ.K fd_least_pair ["up", "down"] []) :
    FnG P w Γ.K mg base CX0 2 f_times fd_times ["one", "other"] (spM Γ (List.replicate 2 .st) .st m_times) := by
  refine fn_mk (ow := []) F sc_times rfl (by decide) (by decide) (by decide) fun cdv A outer s H ys R E hG hr => ?_
  unfold g_times
  exact (mss_one (ms_ret (me_call (n := 2) G_least_pair hG (hr.mono (by decide)) (by rfl) g_least_pair k_least_pair b_least_pair pass00 CK.st (ma_cons (me_op op_mulA cl_mulI (me_ix (ixA (hu1 hr)) cl_ixA (me_varS (pv 0)) me_int stS) (me_ix (ixA (hu1 hr)) cl_ixA (me_varS (pv 1)) me_int stS) stS) (ma_cons (me_op op_mulA cl_mulI (me_ix (ixA (hu1 hr)) cl_ixA (me_varS (pv 0)) me_int stS) (me_ix (ixA (hu1 hr)) cl_ixA (me_varS (pv 1)) me_int stS) stS) ma_nil stS) stS))))
--OK is_fraction
set_option maxHeartbeats 8000000 in
theorem ok_is_fraction {f_is_fraction : Addr} {fd_is_fraction : FuncData} (F : Fun Γ.K "is_fraction" "is_fraction" s_is_fraction f_is_fraction fd_is_fraction) {f_are_integers : Addr} {fd_are_integers : FuncData} (G_are_integers : FnG P w Γ.K mg base CX0 2 f_are_integers fd_are_integers ["value", "many"] (spM Γ (List.replicate 2 .st) .st m_are_integers)) (g_are_integers : mg "are_integers" = some (.ref f_are_integers)) (k_are_integers : PySem.W.keepIn Γ.K (.ref f_are_integers) = true) (b_are_integers : Binds Γ.K fd_are_integers ["value", "many"] [])
    (g_gcd : mg "gcd" = some (.builtin "math.gcd")) :
    FnG P w Γ.K mg base CX0 3 f_is_fraction fd_is_fraction ["value"] (spM Γ (List.replicate 1 .st) .st m_is_fraction) := by
  refine fn_mk (ow := []) F sc_is_fraction rfl (by decide) (by decide) (by decide) fun cdv A outer s H ys R E hG hr => ?_
  unfold g_is_fraction
  exact (mss_one (ms_ret (me_and (me_call (n := 2) G_are_integers hG (hr.mono (by decide)) (by rfl) g_are_integers k_are_integers b_are_integers pass00 CK.st (ma_cons (me_varS (pv 0)) (ma_cons me_int ma_nil stS) stS)) (me_and (me_cmp op_gt cl_gt (me_ix (ixA (hu1 hr)) cl_ixA (me_varS (pv 0)) me_int stS) me_int stS (nomark _)) (me_one (me_cmp (op_eqA hr.units) cl_eq (me_callBfun cr_gcd cl_gcd (by rfl) g_gcd (ma_cons (me_ix (ixA (hu1 hr)) cl_ixA (me_varS (pv 0)) me_int stS) (ma_cons (me_ix (ixA (hu1 hr)) cl_ixA (me_varS (pv 0)) me_int stS) ma_nil stS) stS)) me_int stS (nomark _)))))))
--OK need_fraction
set_option maxHeartbeats 8000000 in
theorem ok_need_fraction {f_need_fraction : Addr} {fd_need_fraction : FuncData} (F : Fun Γ.K "need_fraction" "need_fraction" s_need_fraction f_need_fraction fd_need_fraction) {f_is_fraction : Addr} {fd_is_fraction : FuncData} (G_is_fraction : FnG P w Γ.K mg base CX0 3 f_is_fraction fd_is_fraction ["value"] (spM Γ (List.replicate 1 .st) .st m_is_fraction)) (g_is_fraction : mg "is_fraction" = some (.ref f_is_fraction)) (k_is_fraction : PySem.W.keepIn Γ.K (.ref f_is_fraction) = true) (b_is_fraction : Binds Γ.K fd_is_fraction ["value"] []) :
    FnG P w Γ.K mg base CX0 4 f_need_fraction fd_need_fraction ["value", "part"] (spM Γ (List.replicate 2 .st) .st m_need_fraction) := by
  refine fn_mk (ow := []) F sc_need_fraction rfl (by decide) (by decide) (by decide) fun cdv A outer s H ys R E hG hr => ?_
  unfold g_need_fraction
  exact (mss_cons (ms_if (mt_not (mt_val (me_call (n := 1) G_is_fraction hG (hr.mono (by decide)) (by rfl) g_is_fraction k_is_fraction b_is_fraction pass00 CK.st (ma_cons (me_varS (pv 0)) ma_nil stS))))
      (mss_one ms_never)
      mss_nil)
    (mss_one (ms_ret (me_tup (ma_cons (me_ix (ixA (hu1 hr)) cl_ixA (me_varS (pv 0)) me_int stS) (ma_cons (me_ix (ixA (hu1 hr)) cl_ixA (me_varS (pv 0)) me_int stS) ma_nil stS) stS)))))
--OK multiplied
set_option maxHeartbeats 8000000 in
theorem ok_multiplied {f_multiplied : Addr} {fd_multiplied : FuncData} (F : Fun Γ.K "multiplied" "multiplied" s_multiplied f_multiplied fd_multiplied) {f_times : Addr} {fd_times : FuncData} (G_times : FnG P w Γ.K mg base CX0 2 f_times fd_times ["one", "other"] (spM Γ (List.replicate 2 .st) .st m_times)) (g_times : mg "times" = some (.ref f_times)) (k_times : PySem.W.keepIn Γ.K (.ref f_times) = true) (b_times : Binds Γ.K fd_times ["one", "other"] [])
    {f_need_fraction : Addr} {fd_need_fraction : FuncData} (G_need_fraction : FnG P w Γ.K mg base CX0 4 f_need_fraction fd_need_fraction ["value", "part"] (spM Γ (List.replicate 2 .st) .st m_need_fraction)) (g_need_fraction : mg "need_fraction" = some (.ref f_need_fraction)) (k_need_fraction : PySem.W.keepIn Γ.K (.ref f_need_fraction) = true) (b_need_fraction : Binds Γ.K fd_need_fraction ["value", "part"] []) :
    FnG P w Γ.K mg base CX0 5 f_multiplied fd_multiplied ["one", "other"] (spM Γ (List.replicate 2 .st) .st m_multiplied) := by
  refine fn_mk (ow := []) F sc_multiplied rfl (by decide) (by decide) (by decide) fun cdv A outer s H ys R E hG hr => ?_
  unfold g_multiplied
  exact (mss_one (ms_ret (me_call (n := 2) G_times hG (hr.mono (by decide)) (by rfl) g_times k_times b_times pass00 CK.st (ma_cons (me_call (n := 2) G_need_fraction hG (hr.mono (by decide)) (by rfl) g_need_fraction k_need_fraction b_need_fraction pass00 CK.st (ma_cons (me_varS (pv 0)) (ma_cons me_str ma_nil stS) stS)) (ma_cons (me_call (n := 2) G_need_fraction hG (hr.mono (by decide)) (by rfl) g_need_fraction k_need_fraction b_need_fraction pass00 CK.st (ma_cons (me_varS (pv 1)) (ma_cons me_str ma_nil stS) stS)) ma_nil stS) stS))))
--OK both
set_option maxHeartbeats 8000000 in
theorem ok_both {f_both : Addr} {fd_both : FuncData} (F : Fun Γ.K "both" "both" s_both f_both fd_both) {f_least_pair : Addr} {fd_least_pair : FuncData} (G_least_pair : FnG P w Γ.K mg base CX0 1 f_least_pair fd_least_pair ["up", "down"] (spM Γ (List.replicate 2 .st) .st m_least_pair)) (g_least_pair : mg "least_pair" = some (.ref f_least_pair)) (k_least_pair : PySem.W.keepIn Γ.K (.ref f_least_pair) = true) (b_least_pair : Binds Γ.K fd_least_pair ["up", "down"] []) :
    FnG P w Γ.K mg base CX0 2 f_both fd_both ["one", "other"] (spM Γ (List.replicate 2 .st) .st m_both) := by
  refine fn_mk (ow := []) F sc_both rfl (by decide) (by decide) (by decide) fun cdv A outer s H ys R E hG hr => ?_
  unfold g_both
  exact (mss_one (ms_ret (me_call (n := 2) G_least_pair hG (hr.mono (by decide)) (by rfl) g_least_pair k_least_pair b_least_pair pass00 CK.st (ma_cons (me_op op_addA cl_add (me_op op_mulA cl_mulI (me_ix (ixA (hu1 hr)) cl_ixA (me_varS (pv 0)) me_int stS) (me_ix (ixA (hu1 hr)) cl_ixA (me_varS (pv 1)) me_int stS) stS) (me_op op_mulA cl_mulI (me_ix (ixA (hu1 hr)) cl_ixA (me_varS (pv 1)) me_int stS) (me_ix (ixA (hu1 hr)) cl_ixA (me_varS (pv 0)) me_int stS) stS) stS) (ma_cons (me_op op_mulA cl_mulI (me_ix (ixA (hu1 hr)) cl_ixA (me_varS (pv 0)) me_int stS) (me_ix (ixA (hu1 hr)) cl_ixA (me_varS (pv 1)) me_int stS) stS) ma_nil stS) stS))))
--OK turned
set_option maxHeartbeats 8000000 in
theorem ok_turned {f_turned : Addr} {fd_turned : FuncData} (F : Fun Γ.K "turned" "turned" s_turned f_turned fd_turned)  :
    FnG P w Γ.K mg base CX0 1 f_turned fd_turned ["one"] (spM Γ (List.replicate 1 .st) .st m_turned) := by
  refine fn_mk (ow := []) F sc_turned rfl (by decide) (by decide) (by decide) fun cdv A outer s H ys R E hG hr => ?_
  unfold g_turned
  exact (mss_one (ms_ret (me_tup (ma_cons (me_un un_neg cl_neg (me_ix (ixA (hu1 hr)) cl_ixA (me_varS (pv 0)) me_int stS)) (ma_cons (me_ix (ixA (hu1 hr)) cl_ixA (me_varS (pv 0)) me_int stS) ma_nil stS) stS))))
--OK less
set_option maxHeartbeats 8000000 in
theorem ok_less {f_less : Addr} {fd_less : FuncData} (F : Fun Γ.K "less" "less" s_less f_less fd_less) {f_both : Addr} {fd_both : FuncData} (G_both : FnG P w Γ.K mg base CX0 2 f_both fd_both ["one", "other"] (spM Γ (List.replicate 2 .st) .st m_both)) (g_both : mg "both" = some (.ref f_both)) (k_both : PySem.W.keepIn Γ.K (.ref f_both) = true) (b_both : Binds Γ.K fd_both ["one", "other"] [])
    {f_need_fraction : Addr} {fd_need_fraction : FuncData} (G_need_fraction : FnG P w Γ.K mg base CX0 4 f_need_fraction fd_need_fraction ["value", "part"] (spM Γ (List.replicate 2 .st) .st m_need_fraction)) (g_need_fraction : mg "need_fraction" = some (.ref f_need_fraction)) (k_need_fraction : PySem.W.keepIn Γ.K (.ref f_need_fraction) = true) (b_need_fraction : Binds Γ.K fd_need_fraction ["value", "part"] [])
    {f_turned : Addr} {fd_turned : FuncData} (G_turned : FnG P w Γ.K mg base CX0 1 f_turned fd_turned ["one"] (spM Γ (List.replicate 1 .st) .st m_turned)) (g_turned : mg "turned" = some (.ref f_turned)) (k_turned : PySem.W.keepIn Γ.K (.ref f_turned) = true) (b_turned : Binds Γ.K fd_turned ["one"] []) :
    FnG P w Γ.K mg base CX0 5 f_less fd_less ["one", "other"] (spM Γ (List.replicate 2 .st) .st m_less) := by
  refine fn_mk (ow := []) F sc_less rfl (by decide) (by decide) (by decide) fun cdv A outer s H ys R E hG hr => ?_
  unfold g_less
  exact (mss_one (ms_ret (me_call (n := 2) G_both hG (hr.mono (by decide)) (by rfl) g_both k_both b_both pass00 CK.st (ma_cons (me_call (n := 2) G_need_fraction hG (hr.mono (by decide)) (by rfl) g_need_fraction k_need_fraction b_need_fraction pass00 CK.st (ma_cons (me_varS (pv 0)) (ma_cons me_str ma_nil stS) stS)) (ma_cons (me_call (n := 1) G_turned hG (hr.mono (by decide)) (by rfl) g_turned k_turned b_turned pass00 CK.st (ma_cons (me_call (n := 2) G_need_fraction hG (hr.mono (by decide)) (by rfl) g_need_fraction k_need_fraction b_need_fraction pass00 CK.st (ma_cons (me_varS (pv 1)) (ma_cons me_str ma_nil stS) stS)) ma_nil stS)) ma_nil stS) stS))))
--OK mean_in
set_option maxHeartbeats 8000000 in
theorem ok_mean_in {f_mean_in : Addr} {fd_mean_in : FuncData} (F : Fun Γ.K "mean_in" "mean_in" s_mean_in f_mean_in fd_mean_in) (m_sum : mg "sum" = none)
    {f_rows_to : Addr} {fd_rows_to : FuncData} (G_rows_to : FnG P w Γ.K mg base CX0 2 f_rows_to fd_rows_to ["far", "ticks"] (spM Γ (List.replicate 2 .st) .st m_rows_to)) (g_rows_to : mg "rows_to" = some (.ref f_rows_to)) (k_rows_to : PySem.W.keepIn Γ.K (.ref f_rows_to) = true) (b_rows_to : Binds Γ.K fd_rows_to ["far", "ticks"] [])
    {f_least_pair : Addr} {fd_least_pair : FuncData} (G_least_pair : FnG P w Γ.K mg base CX0 1 f_least_pair fd_least_pair ["up", "down"] (spM Γ (List.replicate 2 .st) .st m_least_pair)) (g_least_pair : mg "least_pair" = some (.ref f_least_pair)) (k_least_pair : PySem.W.keepIn Γ.K (.ref f_least_pair) = true) (b_least_pair : Binds Γ.K fd_least_pair ["up", "down"] []) :
    FnG P w Γ.K mg base CX0 3 f_mean_in fd_mean_in ["heaps", "spot", "ticks"] (spM Γ (List.replicate 3 .st) .st m_mean_in) := by
  refine fn_mk (ow := []) F sc_mean_in rfl (by decide) (by decide) (by decide) fun cdv A outer s H ys R E hG hr => ?_
  unfold g_mean_in
  exact (mss_cons (ms_set (i := 3) sc_mean_in.nd rfl (.inl rfl) (me_callB (id := "sum") (cr_sum rfl) cl_sum (by rfl) m_sum (by decide +kernel) (ma_cons (me_lc (own := [("begin", 4), ("many", 5)]) rfl sc_mean_in.nd (mi_seq (me_varS (pv 0))) (blkOk_by (N := ["heaps", "spot", "ticks", "total", "begin", "many"]) (sc := defScope s_mean_in) (by decide +kernel)) (fun _ _ _ _ _ => (mg_tup rfl (mgs_cons (mg_name (pg_name (i := 4) sc_mean_in.nd rfl (Or.inl rfl) (Or.inr rfl))) (mgs_cons (mg_name (pg_name (i := 5) sc_mean_in.nd rfl (Or.inl rfl) (Or.inr rfl))) mgs_nil)))) (fun _ _ _ _ _ => mts_nil) (fun _ _ _ _ _ => (me_op op_mulA cl_mulI (me_varS (pv 5)) (me_call (n := 2) G_rows_to hG (hr.mono (by decide)) (by rfl) g_rows_to k_rows_to b_rows_to pass00 CK.st (ma_cons (me_op op_sub cl_sub (me_varS (pv 1)) (me_varS (pv 4)) stS) (ma_cons (me_varS (pv 2)) ma_nil stS) stS)) stS))).st ma_nil stS)))
    (mss_one (ms_ret (me_call (n := 2) G_least_pair hG (hr.mono (by decide)) (by rfl) g_least_pair k_least_pair b_least_pair pass00 CK.st (ma_cons (me_varS (pv 3)) (ma_cons (me_op op_shlW cl_shl me_int (me_varS (pv 2)) stS) ma_nil stS) stS)))))
--OK mean_at
set_option maxHeartbeats 8000000 in
theorem ok_mean_at {f_mean_at : Addr} {fd_mean_at : FuncData} (F : Fun Γ.K "mean_at" "mean_at" s_mean_at f_mean_at fd_mean_at) {f_need_heaps : Addr} {fd_need_heaps : FuncData} (G_need_heaps : FnG P w Γ.K mg base CX0 5 f_need_heaps fd_need_heaps ["value", "part"] (spM Γ (List.replicate 2 .st) .st m_need_heaps)) (g_need_heaps : mg "need_heaps" = some (.ref f_need_heaps)) (k_need_heaps : PySem.W.keepIn Γ.K (.ref f_need_heaps) = true) (b_need_heaps : Binds Γ.K fd_need_heaps ["value", "part"] [])
    {f_need_number : Addr} {fd_need_number : FuncData} (G_need_number : FnG P w Γ.K mg base CX0 3 f_need_number fd_need_number ["value", "part", "least", "most"] (spM Γ (List.replicate 4 .st) .st m_need_number)) (g_need_number : mg "need_number" = some (.ref f_need_number)) (k_need_number : PySem.W.keepIn Γ.K (.ref f_need_number) = true) (b_need_number : Binds Γ.K fd_need_number ["value", "part", "least", "most"] [])
    {t_MOST_TICKS_means : Tok} (g_MOST_TICKS_means : mg "MOST_TICKS_means" = some (.int 200 t_MOST_TICKS_means))
    {f_need_colour : Addr} {fd_need_colour : FuncData} (G_need_colour : FnG P w Γ.K mg base CX0 2 f_need_colour fd_need_colour ["spots"] (spM Γ (List.replicate 1 .st) .st m_need_colour)) (g_need_colour : mg "need_colour" = some (.ref f_need_colour)) (k_need_colour : PySem.W.keepIn Γ.K (.ref f_need_colour) = true) (b_need_colour : Binds Γ.K fd_need_colour ["spots"] [])
    {f_spots_of : Addr} {fd_spots_of : FuncData} (G_spots_of : FnG P w Γ.K mg base CX0 1 f_spots_of fd_spots_of ["heaps"] (spM Γ (List.replicate 1 .st) .st m_spots_of)) (g_spots_of : mg "spots_of" = some (.ref f_spots_of)) (k_spots_of : PySem.W.keepIn Γ.K (.ref f_spots_of) = true) (b_spots_of : Binds Γ.K fd_spots_of ["heaps"] [])
    {f_mean_in : Addr} {fd_mean_in : FuncData} (G_mean_in : FnG P w Γ.K mg base CX0 3 f_mean_in fd_mean_in ["heaps", "spot", "ticks"] (spM Γ (List.replicate 3 .st) .st m_mean_in)) (g_mean_in : mg "mean_in" = some (.ref f_mean_in)) (k_mean_in : PySem.W.keepIn Γ.K (.ref f_mean_in) = true) (b_mean_in : Binds Γ.K fd_mean_in ["heaps", "spot", "ticks"] []) :
    FnG P w Γ.K mg base CX0 6 f_mean_at fd_mean_at ["heaps", "spot", "ticks"] (spM Γ (List.replicate 3 .st) .st m_mean_at) := by
  refine fn_mk (ow := []) F sc_mean_at rfl (by decide) (by decide) (by decide) fun cdv A outer s H ys R E hG hr => ?_
  unfold g_mean_at
  exact (mss_cons (ms_set (i := 3) sc_mean_at.nd rfl (.inl rfl) (me_call (n := 2) G_need_heaps hG (hr.mono (by decide)) (by rfl) g_need_heaps k_need_heaps b_need_heaps pass00 CK.st (ma_cons (me_varS (pv 0)) (ma_cons me_str ma_nil stS) stS)))
    (mss_cons (ms_expr (me_call (n := 4) G_need_number hG (hr.mono (by decide)) (by rfl) g_need_number k_need_number b_need_number pass00 CK.st (ma_cons (me_varS (pv 1)) (ma_cons me_str (ma_cons me_non (ma_cons me_non ma_nil stS) stS) stS) stS)))
    (mss_cons (ms_expr (me_call (n := 4) G_need_number hG (hr.mono (by decide)) (by rfl) g_need_number k_need_number b_need_number pass00 CK.st (ma_cons (me_varS (pv 2)) (ma_cons me_str (ma_cons me_int (ma_cons (me_glob (pe_glob (v := .int 200) (by rfl) g_MOST_TICKS_means ⟨_, rfl⟩) (fun _ _ => dm_int)) ma_nil stS) stS) stS) stS)))
    (mss_cons (ms_expr (me_call (n := 1) G_need_colour hG (hr.mono (by decide)) (by rfl) g_need_colour k_need_colour b_need_colour pass00 CK.st (ma_cons (me_call (n := 1) G_spots_of hG (hr.mono (by decide)) (by rfl) g_spots_of k_spots_of b_spots_of pass00 CK.st (ma_cons (me_varS (pv 3)) ma_nil stS)) ma_nil stS)))
    (mss_one (ms_ret (me_call (n := 3) G_mean_in hG (hr.mono (by decide)) (by rfl) g_mean_in k_mean_in b_mean_in pass00 CK.st (ma_cons (me_varS (pv 3)) (ma_cons (me_varS (pv 1)) (ma_cons (me_varS (pv 2)) ma_nil stS) stS) stS))))))))
--OK _law_turned
set_option maxHeartbeats 8000000 in
theorem ok__law_turned {f__law_turned : Addr} {fd__law_turned : FuncData} (F : Fun Γ.K "_law_turned" "_law_turned" s__law_turned f__law_turned fd__law_turned)  :
    FnG P w Γ.K mg base CX0 1 f__law_turned fd__law_turned ["_law_fraction"] (spM Γ (List.replicate 1 .st) .st m__law_turned) := by
  refine fn_mk (ow := []) F sc__law_turned rfl (by decide) (by decide) (by decide) fun cdv A outer s H ys R E hG hr => ?_
  unfold g__law_turned
  exact (mss_one (ms_ret (me_tup (ma_cons (me_un un_neg cl_neg (me_ix (ixA (hu1 hr)) cl_ixA (me_varS (pv 0)) me_int stS)) (ma_cons (me_ix (ixA (hu1 hr)) cl_ixA (me_varS (pv 0)) me_int stS) ma_nil stS) stS))))
--OK gap_in
set_option maxHeartbeats 8000000 in
theorem ok_gap_in {f_gap_in : Addr} {fd_gap_in : FuncData} (F : Fun Γ.K "gap_in" "gap_in" s_gap_in f_gap_in fd_gap_in) {f_both : Addr} {fd_both : FuncData} (G_both : FnG P w Γ.K mg base CX0 2 f_both fd_both ["one", "other"] (spM Γ (List.replicate 2 .st) .st m_both)) (g_both : mg "both" = some (.ref f_both)) (k_both : PySem.W.keepIn Γ.K (.ref f_both) = true) (b_both : Binds Γ.K fd_both ["one", "other"] [])
    {f_turned : Addr} {fd_turned : FuncData} (G_turned : FnG P w Γ.K mg base CX0 1 f_turned fd_turned ["one"] (spM Γ (List.replicate 1 .st) .st m_turned)) (g_turned : mg "turned" = some (.ref f_turned)) (k_turned : PySem.W.keepIn Γ.K (.ref f_turned) = true) (b_turned : Binds Γ.K fd_turned ["one"] []) :
    FnG P w Γ.K mg base CX0 3 f_gap_in fd_gap_in ["many", "mean"] (spM Γ (List.replicate 2 .st) .st m_gap_in) := by
  refine fn_mk (ow := []) F sc_gap_in rfl (by decide) (by decide) (by decide) fun cdv A outer s H ys R E hG hr => ?_
  unfold g_gap_in
  exact (mss_one (ms_ret (me_call (n := 2) G_both hG (hr.mono (by decide)) (by rfl) g_both k_both b_both pass00 CK.st (ma_cons (me_tup (ma_cons (me_varS (pv 0)) (ma_cons me_int ma_nil stS) stS)) (ma_cons (me_call (n := 1) G_turned hG (hr.mono (by decide)) (by rfl) g_turned k_turned b_turned pass00 CK.st (ma_cons (me_varS (pv 1)) ma_nil stS)) ma_nil stS) stS))))
--OK Line_heap_at
set_option maxHeartbeats 8000000 in
theorem ok_Line_heap_at {f_Line_heap_at : Addr} {fd_Line_heap_at : FuncData} (F : Fun Γ.K "heap_at" "Line.heap_at" s_Line_heap_at f_Line_heap_at fd_Line_heap_at) {f_need_number : Addr} {fd_need_number : FuncData} (G_need_number : FnG P w Γ.K mg base CX0 3 f_need_number fd_need_number ["value", "part", "least", "most"] (spM Γ (List.replicate 4 .st) .st m_need_number)) (g_need_number : mg "need_number" = some (.ref f_need_number)) (k_need_number : PySem.W.keepIn Γ.K (.ref f_need_number) = true) (b_need_number : Binds Γ.K fd_need_number ["value", "part", "least", "most"] [])
    (m_dict : mg "dict" = none)
    (fo_heaps : FldOk Γ ["Line"] "heaps") :
    FnG P w Γ.K mg base CX0 4 f_Line_heap_at fd_Line_heap_at ["self", "spot"] (spM Γ (List.replicate 2 .st) .st m_Line_heap_at) := by
  refine fn_mk (ow := []) F sc_Line_heap_at rfl (by decide) (by decide) (by decide) fun cdv A outer s H ys R E hG hr => ?_
  unfold g_Line_heap_at
  exact (mss_cons (ms_expr (me_call (n := 4) G_need_number hG (hr.mono (by decide)) (by rfl) g_need_number k_need_number b_need_number pass00 CK.st (ma_cons (me_varS (pv 1)) (ma_cons me_str (ma_cons me_non (ma_cons me_non ma_nil stS) stS) stS) stS)))
    (mss_one (ms_ret (me_get2 (hu1 hr) (me_callTy (T := "dict") (call_dictB rfl) cl_dictA (by rfl) m_dict (by decide +kernel) (ma_cons (me_fld (cl_fld fo_heaps) (me_varS (pv 0))) ma_nil stS)).st (me_varS (pv 1)) me_int stS stS))))
--OK Line_forward
set_option maxHeartbeats 8000000 in
theorem ok_Line_forward {f_Line_forward : Addr} {fd_Line_forward : FuncData} (F : Fun Γ.K "forward" "Line.forward" s_Line_forward f_Line_forward fd_Line_forward) {f_need_number : Addr} {fd_need_number : FuncData} (G_need_number : FnG P w Γ.K mg base CX0 3 f_need_number fd_need_number ["value", "part", "least", "most"] (spM Γ (List.replicate 4 .st) .st m_need_number)) (g_need_number : mg "need_number" = some (.ref f_need_number)) (k_need_number : PySem.W.keepIn Γ.K (.ref f_need_number) = true) (b_need_number : Binds Γ.K fd_need_number ["value", "part", "least", "most"] [])
    {t_MOST_TICKS_lines : Tok} (g_MOST_TICKS_lines : mg "MOST_TICKS_lines" = some (.int 200 t_MOST_TICKS_lines))
    (m_range : mg "range" = none)
    {C_Line : Addr} (c_Line : Cls Γ.K C_Line) (cl_Line : Γ.cl "Line" = some C_Line)
    {f_Line_advance : Addr} {fd_Line_advance : FuncData} (G_Line_advance : FnG P w Γ.K mg base CX0 2 f_Line_advance fd_Line_advance ["self"] (spM Γ [.fr] .st m_Line_advance)) (b_Line_advance : Binds Γ.K fd_Line_advance ["self"] []) (mt_Line_advance : Meth Γ.K C_Line "advance" f_Line_advance)
    (fo_tick : FldOk Γ ["Line"] "tick") :
    FnG P w Γ.K mg base CX0 4 f_Line_forward fd_Line_forward ["self", "many"] (spM Γ [.fr, .st] .st m_Line_forward) := by
  refine fn_mk (ow := [0]) F sc_Line_forward rfl (by decide) (by decide) (by decide) fun cdv A outer s H ys R E hG hr => ?_
  unfold g_Line_forward
  exact (mss_cons (ms_expr (me_call (n := 4) G_need_number hG (hr.mono (by decide)) (by rfl) g_need_number k_need_number b_need_number pass00 CK.st (ma_cons (me_varS (pv 1)) (ma_cons me_str (ma_cons me_int (ma_cons (me_glob (pe_glob (v := .int 200) (by rfl) g_MOST_TICKS_lines ⟨_, rfl⟩) (fun _ _ => dm_int)) ma_nil stS) stS) stS) stS)))
    (mss_cons (ms_for PassesOwn.never rfl (mi_rng1 (by rfl) m_range (ma_cons (me_varS (pv 1)) ma_nil stS)) (mg_name (pg_name (i := 2) sc_Line_forward.nd rfl (.inl rfl)))
      (mss_one (ms_expr (me_methQ0 c_Line mt_Line_advance G_Line_advance hG (hr.mono (by decide)) b_Line_advance pass00 cl_Line (pv 0)))))
    (mss_one (ms_ret (me_fldO fo_tick (pv 0))))))
--OK line_behind
set_option maxHeartbeats 8000000 in
theorem ok_line_behind {f_line_behind : Addr} {fd_line_behind : FuncData} (F : Fun Γ.K "line_behind" "line_behind" s_line_behind f_line_behind fd_line_behind) {C_Line : Addr} (c_Line : Cls Γ.K C_Line) (cl_Line : Γ.cl "Line" = some C_Line)
    {f_Line___init__ : Addr} {fd_Line___init__ : FuncData} (G_Line___init__ : FnG P w Γ.K mg base CX0 7 f_Line___init__ fd_Line___init__ ["self", "heaps", "lefts"] (spM Γ [.fr, .st, .st] .st m_Line___init__)) (b_Line___init__ : Binds Γ.K fd_Line___init__ ["self", "heaps", "lefts"] [])
    (mk_Line : Mk Γ.K C_Line f_Line___init__) (g_Line : mg "Line" = some (.ref C_Line))
    {f_Line_forward : Addr} {fd_Line_forward : FuncData} (G_Line_forward : FnG P w Γ.K mg base CX0 4 f_Line_forward fd_Line_forward ["self", "many"] (spM Γ [.fr, .st] .st m_Line_forward)) (b_Line_forward : Binds Γ.K fd_Line_forward ["self", "many"] []) (mt_Line_forward : Meth Γ.K C_Line "forward" f_Line_forward) :
    FnG P w Γ.K mg base CX0 9 f_line_behind fd_line_behind ["heaps", "lefts", "ticks"] (spM Γ (List.replicate 3 .st) .st m_line_behind) := by
  refine fn_mk (ow := [3]) F sc_line_behind rfl (by decide) (by decide) (by decide) fun cdv A outer s H ys R E hG hr => ?_
  unfold g_line_behind
  exact (mss_cons (ms_setO (i := 3) sc_line_behind.nd rfl (.inl rfl) (me_make (n := 2) mk_Line G_Line___init__ hG (hr.mono (by decide)) (by rfl) g_Line b_Line___init__ pass00 cl_Line (ma_cons (me_varS (pv 0)) (ma_cons (me_varS (pv 1)) ma_nil stS) stS)))
    (mss_cons (ms_expr (me_methQ (ks := [none]) c_Line mt_Line_forward G_Line_forward hG (hr.mono (by decide)) b_Line_forward pass00 cl_Line (pv 3) (mq_consS (me_varS (pv 2)) mq_nil)))
    (mss_one (ms_ret (me_mov (pv 3)).st))))
--OK gap_at
set_option maxHeartbeats 8000000 in
theorem ok_gap_at {f_gap_at : Addr} {fd_gap_at : FuncData} (F : Fun Γ.K "gap_at" "gap_at" s_gap_at f_gap_at fd_gap_at) {f_need_lefts : Addr} {fd_need_lefts : FuncData} (G_need_lefts : FnG P w Γ.K mg base CX0 3 f_need_lefts fd_need_lefts ["value", "part"] (spM Γ (List.replicate 2 .st) .st m_need_lefts)) (g_need_lefts : mg "need_lefts" = some (.ref f_need_lefts)) (k_need_lefts : PySem.W.keepIn Γ.K (.ref f_need_lefts) = true) (b_need_lefts : Binds Γ.K fd_need_lefts ["value", "part"] []) {ds_need_lefts_1 : List Value} (bd_need_lefts_1 : Vals [(.str "lefts")] ds_need_lefts_1 ∧ Binds Γ.K fd_need_lefts ["value", "part"] ds_need_lefts_1)
    {f_need_heaps : Addr} {fd_need_heaps : FuncData} (G_need_heaps : FnG P w Γ.K mg base CX0 5 f_need_heaps fd_need_heaps ["value", "part"] (spM Γ (List.replicate 2 .st) .st m_need_heaps)) (g_need_heaps : mg "need_heaps" = some (.ref f_need_heaps)) (k_need_heaps : PySem.W.keepIn Γ.K (.ref f_need_heaps) = true) (b_need_heaps : Binds Γ.K fd_need_heaps ["value", "part"] [])
    {f_need_number : Addr} {fd_need_number : FuncData} (G_need_number : FnG P w Γ.K mg base CX0 3 f_need_number fd_need_number ["value", "part", "least", "most"] (spM Γ (List.replicate 4 .st) .st m_need_number)) (g_need_number : mg "need_number" = some (.ref f_need_number)) (k_need_number : PySem.W.keepIn Γ.K (.ref f_need_number) = true) (b_need_number : Binds Γ.K fd_need_number ["value", "part", "least", "most"] [])
    {t_MOST_GAP_TICKS : Tok} (g_MOST_GAP_TICKS : mg "MOST_GAP_TICKS" = some (.int 60 t_MOST_GAP_TICKS))
    {f_need_colour : Addr} {fd_need_colour : FuncData} (G_need_colour : FnG P w Γ.K mg base CX0 2 f_need_colour fd_need_colour ["spots"] (spM Γ (List.replicate 1 .st) .st m_need_colour)) (g_need_colour : mg "need_colour" = some (.ref f_need_colour)) (k_need_colour : PySem.W.keepIn Γ.K (.ref f_need_colour) = true) (b_need_colour : Binds Γ.K fd_need_colour ["spots"] [])
    {f_spots_of : Addr} {fd_spots_of : FuncData} (G_spots_of : FnG P w Γ.K mg base CX0 1 f_spots_of fd_spots_of ["heaps"] (spM Γ (List.replicate 1 .st) .st m_spots_of)) (g_spots_of : mg "spots_of" = some (.ref f_spots_of)) (k_spots_of : PySem.W.keepIn Γ.K (.ref f_spots_of) = true) (b_spots_of : Binds Γ.K fd_spots_of ["heaps"] [])
    {f_gap_in : Addr} {fd_gap_in : FuncData} (G_gap_in : FnG P w Γ.K mg base CX0 3 f_gap_in fd_gap_in ["many", "mean"] (spM Γ (List.replicate 2 .st) .st m_gap_in)) (g_gap_in : mg "gap_in" = some (.ref f_gap_in)) (k_gap_in : PySem.W.keepIn Γ.K (.ref f_gap_in) = true) (b_gap_in : Binds Γ.K fd_gap_in ["many", "mean"] [])
    {C_Line : Addr} (c_Line : Cls Γ.K C_Line) (cl_Line : Γ.cl "Line" = some C_Line)
    {f_Line_heap_at : Addr} {fd_Line_heap_at : FuncData} (G_Line_heap_at : FnG P w Γ.K mg base CX0 4 f_Line_heap_at fd_Line_heap_at ["self", "spot"] (spM Γ (List.replicate 2 .st) .st m_Line_heap_at)) (b_Line_heap_at : Binds Γ.K fd_Line_heap_at ["self", "spot"] []) (mt_Line_heap_at : Meth Γ.K C_Line "heap_at" f_Line_heap_at)
    {f_line_behind : Addr} {fd_line_behind : FuncData} (G_line_behind : FnG P w Γ.K mg base CX0 9 f_line_behind fd_line_behind ["heaps", "lefts", "ticks"] (spM Γ (List.replicate 3 .st) .st m_line_behind)) (g_line_behind : mg "line_behind" = some (.ref f_line_behind)) (k_line_behind : PySem.W.keepIn Γ.K (.ref f_line_behind) = true) (b_line_behind : Binds Γ.K fd_line_behind ["heaps", "lefts", "ticks"] [])
    {f_mean_in : Addr} {fd_mean_in : FuncData} (G_mean_in : FnG P w Γ.K mg base CX0 3 f_mean_in fd_mean_in ["heaps", "spot", "ticks"] (spM Γ (List.replicate 3 .st) .st m_mean_in)) (g_mean_in : mg "mean_in" = some (.ref f_mean_in)) (k_mean_in : PySem.W.keepIn Γ.K (.ref f_mean_in) = true) (b_mean_in : Binds Γ.K fd_mean_in ["heaps", "spot", "ticks"] []) :
    FnG P w Γ.K mg base CX0 10 f_gap_at fd_gap_at ["heaps", "lefts", "spot", "ticks"] (spM Γ (List.replicate 4 .st) .st m_gap_at) := by
  refine fn_mk (ow := []) F sc_gap_at rfl (by decide) (by decide) (by decide) fun cdv A outer s H ys R E hG hr => ?_
  unfold g_gap_at
  exact (mss_cons (ms_par2 (i := 4) (j := 5) (by rfl) sc_gap_at.nd rfl rfl (by decide) rfl rfl (mb_consS (me_call (n := 2) G_need_heaps hG (hr.mono (by decide)) (by rfl) g_need_heaps k_need_heaps b_need_heaps pass00 CK.st (ma_cons (me_varS (pv 0)) (ma_cons me_str ma_nil stS) stS)) (mb_consS (me_callD (n := 2) G_need_lefts hG (hr.mono (by decide)) (by rfl) g_need_lefts k_need_lefts bd_need_lefts_1 pass00 (fun _ _ => (Dms.cons dm_str Dms.nil)) CK.st (ma_cons (me_varS (pv 1)) ma_nil stS)) mb_nil)) (by rfl))
    (mss_cons (ms_expr (me_call (n := 4) G_need_number hG (hr.mono (by decide)) (by rfl) g_need_number k_need_number b_need_number pass00 CK.st (ma_cons (me_varS (pv 2)) (ma_cons me_str (ma_cons me_non (ma_cons me_non ma_nil stS) stS) stS) stS)))
    (mss_cons (ms_expr (me_call (n := 4) G_need_number hG (hr.mono (by decide)) (by rfl) g_need_number k_need_number b_need_number pass00 CK.st (ma_cons (me_varS (pv 3)) (ma_cons me_str (ma_cons me_int (ma_cons (me_glob (pe_glob (v := .int 60) (by rfl) g_MOST_GAP_TICKS ⟨_, rfl⟩) (fun _ _ => dm_int)) ma_nil stS) stS) stS) stS)))
    (mss_cons (ms_expr (me_call (n := 1) G_need_colour hG (hr.mono (by decide)) (by rfl) g_need_colour k_need_colour b_need_colour pass00 CK.st (ma_cons (me_call (n := 1) G_spots_of hG (hr.mono (by decide)) (by rfl) g_spots_of k_spots_of b_spots_of pass00 CK.st (ma_cons (me_varS (pv 4)) ma_nil stS)) ma_nil stS)))
    (mss_one (ms_ret (me_call (n := 2) G_gap_in hG (hr.mono (by decide)) (by rfl) g_gap_in k_gap_in b_gap_in pass00 CK.st (ma_cons (me_meth (n := 2) c_Line mt_Line_heap_at G_Line_heap_at hG (hr.mono (by decide)) b_Line_heap_at pass00 (cl_ins cl_Line) CK.st (me_call (n := 3) G_line_behind hG (hr.mono (by decide)) (by rfl) g_line_behind k_line_behind b_line_behind pass00 CK.st (ma_cons (me_varS (pv 4)) (ma_cons (me_varS (pv 5)) (ma_cons (me_varS (pv 3)) ma_nil stS) stS) stS)) (ma_cons (me_varS (pv 2)) ma_nil stS) stS) (ma_cons (me_call (n := 3) G_mean_in hG (hr.mono (by decide)) (by rfl) g_mean_in k_mean_in b_mean_in pass00 CK.st (ma_cons (me_varS (pv 4)) (ma_cons (me_varS (pv 2)) (ma_cons (me_varS (pv 3)) ma_nil stS) stS) stS)) ma_nil stS) stS))))))))
--OK _law_one_right
set_option maxHeartbeats 8000000 in
theorem ok__law_one_right {f__law_one_right : Addr} {fd__law_one_right : FuncData} (F : Fun Γ.K "_law_one_right" "_law_one_right" s__law_one_right f__law_one_right fd__law_one_right) {f__law_pipe : Addr} {fd__law_pipe : FuncData} (G__law_pipe : FnG P w Γ.K mg base CX0 2 f__law_pipe fd__law_pipe ["_law_culvert_here", "_law_some"] (spM Γ [.fr, .st] .st m__law_pipe)) (g__law_pipe : mg "_law_pipe" = some (.ref f__law_pipe)) (k__law_pipe : PySem.W.keepIn Γ.K (.ref f__law_pipe) = true) (b__law_pipe : Binds Γ.K fd__law_pipe ["_law_culvert_here", "_law_some"] [])
    {f__law_flow : Addr} {fd__law_flow : FuncData} (G__law_flow : FnG P w Γ.K mg base CX0 1 f__law_flow fd__law_flow ["_law_culvert_here", "_law_many"] (spM Γ [.fr, .st] .st m__law_flow)) (g__law_flow : mg "_law_flow" = some (.ref f__law_flow)) (k__law_flow : PySem.W.keepIn Γ.K (.ref f__law_flow) = true) (b__law_flow : Binds Γ.K fd__law_flow ["_law_culvert_here", "_law_many"] [])
    {f_first_share : Addr} {fd_first_share : FuncData} (G_first_share : FnG P w Γ.K mg base CX0 4 f_first_share fd_first_share ["far", "ticks"] (spM Γ (List.replicate 2 .st) .st m_first_share)) (g_first_share : mg "first_share" = some (.ref f_first_share)) (k_first_share : PySem.W.keepIn Γ.K (.ref f_first_share) = true) (b_first_share : Binds Γ.K fd_first_share ["far", "ticks"] [])
    {f_share_of : Addr} {fd_share_of : FuncData} (G_share_of : FnG P w Γ.K mg base CX0 4 f_share_of fd_share_of ["far", "ticks"] (spM Γ (List.replicate 2 .st) .st m_share_of)) (g_share_of : mg "share_of" = some (.ref f_share_of)) (k_share_of : PySem.W.keepIn Γ.K (.ref f_share_of) = true) (b_share_of : Binds Γ.K fd_share_of ["far", "ticks"] [])
    {f_multiplied : Addr} {fd_multiplied : FuncData} (G_multiplied : FnG P w Γ.K mg base CX0 5 f_multiplied fd_multiplied ["one", "other"] (spM Γ (List.replicate 2 .st) .st m_multiplied)) (g_multiplied : mg "multiplied" = some (.ref f_multiplied)) (k_multiplied : PySem.W.keepIn Γ.K (.ref f_multiplied) = true) (b_multiplied : Binds Γ.K fd_multiplied ["one", "other"] [])
    {f_less : Addr} {fd_less : FuncData} (G_less : FnG P w Γ.K mg base CX0 5 f_less fd_less ["one", "other"] (spM Γ (List.replicate 2 .st) .st m_less)) (g_less : mg "less" = some (.ref f_less)) (k_less : PySem.W.keepIn Γ.K (.ref f_less) = true) (b_less : Binds Γ.K fd_less ["one", "other"] [])
    {f_mean_at : Addr} {fd_mean_at : FuncData} (G_mean_at : FnG P w Γ.K mg base CX0 6 f_mean_at fd_mean_at ["heaps", "spot", "ticks"] (spM Γ (List.replicate 3 .st) .st m_mean_at)) (g_mean_at : mg "mean_at" = some (.ref f_mean_at)) (k_mean_at : PySem.W.keepIn Γ.K (.ref f_mean_at) = true) (b_mean_at : Binds Γ.K fd_mean_at ["heaps", "spot", "ticks"] [])
    {f__law_turned : Addr} {fd__law_turned : FuncData} (G__law_turned : FnG P w Γ.K mg base CX0 1 f__law_turned fd__law_turned ["_law_fraction"] (spM Γ (List.replicate 1 .st) .st m__law_turned)) (g__law_turned : mg "_law_turned" = some (.ref f__law_turned)) (k__law_turned : PySem.W.keepIn Γ.K (.ref f__law_turned) = true) (b__law_turned : Binds Γ.K fd__law_turned ["_law_fraction"] [])
    {C_Line : Addr} (c_Line : Cls Γ.K C_Line) (cl_Line : Γ.cl "Line" = some C_Line)
    {f_Line___init__ : Addr} {fd_Line___init__ : FuncData} (G_Line___init__ : FnG P w Γ.K mg base CX0 7 f_Line___init__ fd_Line___init__ ["self", "heaps", "lefts"] (spM Γ [.fr, .st, .st] .st m_Line___init__)) (b_Line___init__ : Binds Γ.K fd_Line___init__ ["self", "heaps", "lefts"] [])
    (mk_Line : Mk Γ.K C_Line f_Line___init__) (g_Line : mg "Line" = some (.ref C_Line))
    {f_Line_advance : Addr} {fd_Line_advance : FuncData} (G_Line_advance : FnG P w Γ.K mg base CX0 2 f_Line_advance fd_Line_advance ["self"] (spM Γ [.fr] .st m_Line_advance)) (b_Line_advance : Binds Γ.K fd_Line_advance ["self"] []) (mt_Line_advance : Meth Γ.K C_Line "advance" f_Line_advance)
    (fo_heaps : FldOk Γ ["Line"] "heaps")
    {f_gap_at : Addr} {fd_gap_at : FuncData} (G_gap_at : FnG P w Γ.K mg base CX0 10 f_gap_at fd_gap_at ["heaps", "lefts", "spot", "ticks"] (spM Γ (List.replicate 4 .st) .st m_gap_at)) (g_gap_at : mg "gap_at" = some (.ref f_gap_at)) (k_gap_at : PySem.W.keepIn Γ.K (.ref f_gap_at) = true) (b_gap_at : Binds Γ.K fd_gap_at ["heaps", "lefts", "spot", "ticks"] []) :
    FnG P w Γ.K mg base CX0 11 f__law_one_right fd__law_one_right ["_law_culvert_here", "_law_far", "_law_ticks"] (spM Γ [.fr, .st, .st] .st m__law_one_right) := by
  refine fn_mk (ow := [0, 11]) F sc__law_one_right rfl (by decide) (by decide) (by decide) fun cdv A outer s H ys R E hG hr => ?_
  unfold g__law_one_right
  exact (mss_cons (ms_set (i := 3) sc__law_one_right.nd rfl (.inl rfl) (me_callQ (ks := [some 0, none]) G__law_pipe hG (hr.mono (by decide)) (by rfl) g__law_pipe k__law_pipe b__law_pipe pass00 (mq_consO (i := 0) (pv 0) (mq_consS (me_lst (ma_cons me_int (ma_cons me_int (ma_cons (me_un un_neg cl_neg me_int) (ma_cons (me_callQ (ks := [some 0, none]) G__law_flow hG (hr.mono (by decide)) (by rfl) g__law_flow k__law_flow b__law_flow pass00 (mq_consO (i := 0) (pv 0) (mq_consS me_int mq_nil))) ma_nil stS) stS) stS) stS)).st mq_nil))))
    (mss_cons (ms_set (i := 4) sc__law_one_right.nd rfl (.inl rfl) (me_op op_sub cl_sub (me_varS (pv 3)) (me_varS (pv 1)) stS))
    (mss_cons (ms_set (i := 5) sc__law_one_right.nd rfl (.inl rfl) (me_call (n := 2) G_first_share hG (hr.mono (by decide)) (by rfl) g_first_share k_first_share b_first_share pass00 CK.st (ma_cons (me_varS (pv 1)) (ma_cons (me_varS (pv 2)) ma_nil stS) stS)))
    (mss_cons (ms_par2 (i := 6) (j := 7) (by rfl) sc__law_one_right.nd rfl rfl (by decide) rfl rfl (mb_consS (me_call (n := 2) G_share_of hG (hr.mono (by decide)) (by rfl) g_share_of k_share_of b_share_of pass00 CK.st (ma_cons (me_op op_sub cl_sub (me_varS (pv 1)) me_int stS) (ma_cons (me_op op_sub cl_sub (me_varS (pv 2)) me_int stS) ma_nil stS) stS)) (mb_consS (me_call (n := 2) G_share_of hG (hr.mono (by decide)) (by rfl) g_share_of k_share_of b_share_of pass00 CK.st (ma_cons (me_op op_addA cl_add (me_varS (pv 1)) me_int stS) (ma_cons (me_op op_sub cl_sub (me_varS (pv 2)) me_int stS) ma_nil stS) stS)) mb_nil)) (by rfl))
    (mss_cons (ms_if (mt_cmp (op_neA hr.units) cl_ne (me_call (n := 2) G_multiplied hG (hr.mono (by decide)) (by rfl) g_multiplied k_multiplied b_multiplied pass00 CK.st (ma_cons (me_tup (ma_cons me_int (ma_cons me_int ma_nil stS) stS)) (ma_cons (me_call (n := 2) G_less hG (hr.mono (by decide)) (by rfl) g_less k_less b_less pass00 CK.st (ma_cons (me_varS (pv 6)) (ma_cons (me_varS (pv 7)) ma_nil stS) stS)) ma_nil stS) stS)) (me_varS (pv 5)) stS (nomark _))
      (mss_one (ms_ret me_bl))
      mss_nil)
    (mss_cons (ms_if (mt_cmp (op_neA hr.units) cl_ne (me_call (n := 2) G_less hG (hr.mono (by decide)) (by rfl) g_less k_less b_less pass00 CK.st (ma_cons (me_call (n := 3) G_mean_at hG (hr.mono (by decide)) (by rfl) g_mean_at k_mean_at b_mean_at pass00 CK.st (ma_cons (me_lst (ma_cons (me_tup (ma_cons (me_op op_addA cl_add (me_varS (pv 4)) me_int stS) (ma_cons me_int ma_nil stS) stS)) ma_nil stS)).st (ma_cons (me_varS (pv 3)) (ma_cons (me_op op_sub cl_sub (me_varS (pv 2)) me_int stS) ma_nil stS) stS) stS)) (ma_cons (me_call (n := 3) G_mean_at hG (hr.mono (by decide)) (by rfl) g_mean_at k_mean_at b_mean_at pass00 CK.st (ma_cons (me_lst (ma_cons (me_tup (ma_cons (me_op op_sub cl_sub (me_varS (pv 4)) me_int stS) (ma_cons me_int ma_nil stS) stS)) ma_nil stS)).st (ma_cons (me_varS (pv 3)) (ma_cons (me_op op_sub cl_sub (me_varS (pv 2)) me_int stS) ma_nil stS) stS) stS)) ma_nil stS) stS)) (me_call (n := 2) G_multiplied hG (hr.mono (by decide)) (by rfl) g_multiplied k_multiplied b_multiplied pass00 CK.st (ma_cons (me_tup (ma_cons me_int (ma_cons me_int ma_nil stS) stS)) (ma_cons (me_varS (pv 5)) ma_nil stS) stS)) stS (nomark _))
      (mss_one (ms_ret me_bl))
      mss_nil)
    (mss_cons (ms_set (i := 8) sc__law_one_right.nd rfl (.inl rfl) (me_op op_addA cl_add me_int (me_op op_mulA cl_mulI me_int (me_callQ (ks := [some 0, none]) G__law_flow hG (hr.mono (by decide)) (by rfl) g__law_flow k__law_flow b__law_flow pass00 (mq_consO (i := 0) (pv 0) (mq_consS me_int mq_nil))) stS) stS))
    (mss_cons (ms_for PassesOwn.never rfl (mi_seq (me_tup (ma_cons (me_tup (ma_cons (me_lst ma_nil).st (ma_cons (me_varS (pv 5)) ma_nil stS) stS)) (ma_cons (me_tup (ma_cons (me_lst (ma_cons (me_varS (pv 4)) ma_nil stS)).st (ma_cons (me_call (n := 1) G__law_turned hG (hr.mono (by decide)) (by rfl) g__law_turned k__law_turned b__law_turned pass00 CK.st (ma_cons (me_varS (pv 5)) ma_nil stS)) ma_nil stS) stS)) ma_nil stS) stS))) (mg_tup rfl (mgs_cons (mg_name (pg_name (i := 9) sc__law_one_right.nd rfl (.inl rfl))) (mgs_cons (mg_name (pg_name (i := 10) sc__law_one_right.nd rfl (.inl rfl))) mgs_nil)))
      (mss_cons (ms_setO (i := 11) sc__law_one_right.nd rfl (.inl rfl) (me_make (n := 2) mk_Line G_Line___init__ hG (hr.mono (by decide)) (by rfl) g_Line b_Line___init__ pass00 cl_Line (ma_cons (me_lst (ma_cons (me_tup (ma_cons (me_varS (pv 4)) (ma_cons (me_varS (pv 8)) ma_nil stS) stS)) ma_nil stS)).st (ma_cons (me_varS (pv 9)) ma_nil stS) stS)))
    (mss_cons (ms_expr (me_methQ0 c_Line mt_Line_advance G_Line_advance hG (hr.mono (by decide)) b_Line_advance pass00 cl_Line (pv 11)))
    (mss_shr 11 (mss_cons (ms_set (i := 12) sc__law_one_right.nd rfl (.inl rfl) (me_lst (ma_cons (me_call (n := 3) G_mean_at hG (hr.mono (by decide)) (by rfl) g_mean_at k_mean_at b_mean_at pass00 CK.st (ma_cons (me_fld (cl_fld fo_heaps) (me_varS (pv 11))) (ma_cons (me_varS (pv 3)) (ma_cons (me_op op_sub cl_sub (me_varS (pv 2)) me_int stS) ma_nil stS) stS) stS)) (ma_cons (me_call (n := 3) G_mean_at hG (hr.mono (by decide)) (by rfl) g_mean_at k_mean_at b_mean_at pass00 CK.st (ma_cons (me_lst (ma_cons (me_tup (ma_cons (me_varS (pv 4)) (ma_cons (me_varS (pv 8)) ma_nil stS) stS)) ma_nil stS)).st (ma_cons (me_varS (pv 3)) (ma_cons (me_varS (pv 2)) ma_nil stS) stS) stS)) ma_nil stS) stS)).st)
    (mss_cons (ms_if (mt_cmp (op_neA hr.units) cl_ne (me_call (n := 2) G_less hG (hr.mono (by decide)) (by rfl) g_less k_less b_less pass00 CK.st (ma_cons (me_ix (ixA (hu1 hr)) cl_ixA (me_varS (pv 12)) me_int stS) (ma_cons (me_ix (ixA (hu1 hr)) cl_ixA (me_varS (pv 12)) me_int stS) ma_nil stS) stS)) (me_varS (pv 10)) stS (nomark _))
      (mss_one (ms_ret me_bl))
      mss_nil)
    (mss_one (ms_if (MW.mt (mw_and (mt_cmp (op_eqA hr.units) cl_eq (me_varS (pv 2)) me_int stS (nomark _)) (mw_and1 (mt_cmp (op_neA hr.units) cl_ne (me_call (n := 4) G_gap_at hG (hr.mono (by decide)) (by rfl) g_gap_at k_gap_at b_gap_at pass00 CK.st (ma_cons (me_lst (ma_cons (me_tup (ma_cons (me_varS (pv 4)) (ma_cons (me_varS (pv 8)) ma_nil stS) stS)) ma_nil stS)).st (ma_cons (me_varS (pv 9)) (ma_cons (me_varS (pv 3)) (ma_cons me_int ma_nil stS) stS) stS) stS)) (me_varS (pv 10)) stS (nomark _)))))
      (mss_one (ms_ret me_bl))
      mss_nil))))))))
    (mss_one (ms_ret me_bl))))))))))
--OK law
set_option maxHeartbeats 8000000 in
theorem ok_law {f_law : Addr} {fd_law : FuncData} (F : Fun Γ.K "law" "law" s_law f_law fd_law) {f__law_culvert : Addr} {fd__law_culvert : FuncData} (G__law_culvert : FnG P w Γ.K mg base CX0 1 f__law_culvert fd__law_culvert ["_law_script"] (spM Γ (List.replicate 1 .st) .fr m__law_culvert)) (g__law_culvert : mg "_law_culvert" = some (.ref f__law_culvert)) (k__law_culvert : PySem.W.keepIn Γ.K (.ref f__law_culvert) = true) (b__law_culvert : Binds Γ.K fd__law_culvert ["_law_script"] [])
    (m_range : mg "range" = none)
    {f__law_flow : Addr} {fd__law_flow : FuncData} (G__law_flow : FnG P w Γ.K mg base CX0 1 f__law_flow fd__law_flow ["_law_culvert_here", "_law_many"] (spM Γ [.fr, .st] .st m__law_flow)) (g__law_flow : mg "_law_flow" = some (.ref f__law_flow)) (k__law_flow : PySem.W.keepIn Γ.K (.ref f__law_flow) = true) (b__law_flow : Binds Γ.K fd__law_flow ["_law_culvert_here", "_law_many"] [])
    {f__law_pipe : Addr} {fd__law_pipe : FuncData} (G__law_pipe : FnG P w Γ.K mg base CX0 2 f__law_pipe fd__law_pipe ["_law_culvert_here", "_law_some"] (spM Γ [.fr, .st] .st m__law_pipe)) (g__law_pipe : mg "_law_pipe" = some (.ref f__law_pipe)) (k__law_pipe : PySem.W.keepIn Γ.K (.ref f__law_pipe) = true) (b__law_pipe : Binds Γ.K fd__law_pipe ["_law_culvert_here", "_law_some"] [])
    {f__law_one_right : Addr} {fd__law_one_right : FuncData} (G__law_one_right : FnG P w Γ.K mg base CX0 11 f__law_one_right fd__law_one_right ["_law_culvert_here", "_law_far", "_law_ticks"] (spM Γ [.fr, .st, .st] .st m__law_one_right)) (g__law_one_right : mg "_law_one_right" = some (.ref f__law_one_right)) (k__law_one_right : PySem.W.keepIn Γ.K (.ref f__law_one_right) = true) (b__law_one_right : Binds Γ.K fd__law_one_right ["_law_culvert_here", "_law_far", "_law_ticks"] [])
    {f_share_of : Addr} {fd_share_of : FuncData} (G_share_of : FnG P w Γ.K mg base CX0 4 f_share_of fd_share_of ["far", "ticks"] (spM Γ (List.replicate 2 .st) .st m_share_of)) (g_share_of : mg "share_of" = some (.ref f_share_of)) (k_share_of : PySem.W.keepIn Γ.K (.ref f_share_of) = true) (b_share_of : Binds Γ.K fd_share_of ["far", "ticks"] []) :
    FnG P w Γ.K mg base CX0 12 f_law fd_law ["_law_script"] (spM Γ (List.replicate 1 .st) .st m_law) := by
  refine fn_mk (ow := [1]) F sc_law rfl (by decide) (by decide) (by decide) fun cdv A outer s H ys R E hG hr => ?_
  unfold g_law
  exact (mss_cons (ms_setO (i := 1) sc_law.nd rfl (.inl rfl) (me_call (n := 1) G__law_culvert hG (hr.mono (by decide)) (by rfl) g__law_culvert k__law_culvert b__law_culvert pass00 CK.fr (ma_cons (me_varS (pv 0)) ma_nil stS)))
    (mss_cons (ms_for PassesOwn.never rfl (mi_rng1 (by rfl) m_range (ma_cons me_int ma_nil stS)) (mg_name (pg_name (i := 2) sc_law.nd rfl (.inl rfl)))
      (mss_cons (ms_set (i := 3) sc_law.nd rfl (.inl rfl) (me_op op_addA cl_add me_int (me_callQ (ks := [some 1, none]) G__law_flow hG (hr.mono (by decide)) (by rfl) g__law_flow k__law_flow b__law_flow pass00 (mq_consO (i := 1) (pv 1) (mq_consS (me_callQ (ks := [some 1, none]) G__law_pipe hG (hr.mono (by decide)) (by rfl) g__law_pipe k__law_pipe b__law_pipe pass00 (mq_consO (i := 1) (pv 1) (mq_consS (me_lst (ma_cons me_int (ma_cons me_int (ma_cons me_int ma_nil stS) stS) stS)).st mq_nil))) mq_nil))) stS))
    (mss_cons (ms_set (i := 4) sc_law.nd rfl (.inl rfl) (me_callQ (ks := [some 1, none]) G__law_pipe hG (hr.mono (by decide)) (by rfl) g__law_pipe k__law_pipe b__law_pipe pass00 (mq_consO (i := 1) (pv 1) (mq_consS (me_lst (ma_cons (me_op op_addA cl_add (me_varS (pv 3)) (me_op op_mulA cl_mulI me_int (me_callQ (ks := [some 1, none]) G__law_flow hG (hr.mono (by decide)) (by rfl) g__law_flow k__law_flow b__law_flow pass00 (mq_consO (i := 1) (pv 1) (mq_consS me_int mq_nil))) stS) stS) (ma_cons (me_varS (pv 3)) (ma_cons (me_op op_addA cl_add me_int (me_callQ (ks := [some 1, none]) G__law_flow hG (hr.mono (by decide)) (by rfl) g__law_flow k__law_flow b__law_flow pass00 (mq_consO (i := 1) (pv 1) (mq_consS me_int mq_nil))) stS) (ma_cons me_int ma_nil stS) stS) stS) stS)).st mq_nil))))
    (mss_cons (ms_if (mt_not (mt_val (me_callQ (ks := [some 1, none, none]) G__law_one_right hG (hr.mono (by decide)) (by rfl) g__law_one_right k__law_one_right b__law_one_right pass00 (mq_consO (i := 1) (pv 1) (mq_consS (me_varS (pv 3)) (mq_consS (me_varS (pv 4)) mq_nil))))))
      (mss_one (ms_ret me_bl))
      mss_nil)
    (mss_cons (ms_set (i := 5) sc_law.nd rfl (.inl rfl) (me_op op_addA cl_add me_int (me_callQ (ks := [some 1, none]) G__law_flow hG (hr.mono (by decide)) (by rfl) g__law_flow k__law_flow b__law_flow pass00 (mq_consO (i := 1) (pv 1) (mq_consS me_int mq_nil))) stS))
    (mss_one (ms_if (mt_cmp (op_neA hr.units) cl_ne (me_call (n := 2) G_share_of hG (hr.mono (by decide)) (by rfl) g_share_of k_share_of b_share_of pass00 CK.st (ma_cons (me_un un_neg cl_neg me_int) (ma_cons (me_op op_sub cl_sub (me_varS (pv 5)) me_int stS) ma_nil stS) stS)) (me_call (n := 2) G_share_of hG (hr.mono (by decide)) (by rfl) g_share_of k_share_of b_share_of pass00 CK.st (ma_cons me_int (ma_cons (me_op op_sub cl_sub (me_varS (pv 5)) me_int stS) ma_nil stS) stS)) stS (nomark _))
      (mss_one (ms_ret me_bl))
      mss_nil)))))))
    (mss_one (ms_ret me_bl))))
end
set_option maxHeartbeats 8000000 in
theorem all_mk {l : PySem.W.OpenLaw} {w : World} {K : PySem.W.Frag} {h : Heap} {mg : Str → Option Value} {fa : Addr} (X : K.In h) (G : h.Ns mainGlobals mg) (hfa : mg "law" = some (.ref fa))
    {C_Line : Addr} (y_Line : PySem.W.nsIn K mainGlobals "Line" = some (some (.ref C_Line))) (pg_Line : PySem.W.plainGet K C_Line Str.empty = true) (hd_Line : PySem.W.hasDictIn K C_Line = true) (po_Line : PySem.W.plainOver K C_Line = true) (sa_Line : PySem.W.findIn K (.ref C_Line) "__setattr__" = some (some (.builtin "object.__setattr__")))
    (mk_Line : PySem.W.makesIn K C_Line = true) (kc_Line : PySem.W.keepIn K (.ref C_Line) = true)
    (na_Line_tick : PySem.W.findIn K (.ref C_Line) "tick" = some none)
    (na_Line_heaps : PySem.W.findIn K (.ref C_Line) "heaps" = some none)
    (na_Line_lefts : PySem.W.findIn K (.ref C_Line) "lefts" = some none)
    {f0 : Addr} {od0 an0 : Option Addr} {sl0 : Array (Option Value)} {oc0 kV0 dc0 pm0 cd0 ct0 : Value}
    (a0 : PySem.W.nsIn K mainGlobals "_law_culvert" = some (some (.ref f0))) (l0 : K.lookup f0 = some ⟨oc0, od0, .func (PySem.W.fnOf "_law_culvert" "_law_culvert" (defArgs s__law_culvert) (defBody s__law_culvert) (defScope s__law_culvert) .none kV0 dc0 pm0 an0 cd0 ct0), sl0⟩) (c0 : PySem.W.codeIn K cd0 "_law_culvert" = true) (k0 : PySem.W.keepIn K (.ref f0) = true)
    {f1 : Addr} {od1 an1 : Option Addr} {sl1 : Array (Option Value)} {oc1 kV1 dc1 pm1 cd1 ct1 : Value}
    (a1 : PySem.W.nsIn K mainGlobals "_law_flow" = some (some (.ref f1))) (l1 : K.lookup f1 = some ⟨oc1, od1, .func (PySem.W.fnOf "_law_flow" "_law_flow" (defArgs s__law_flow) (defBody s__law_flow) (defScope s__law_flow) .none kV1 dc1 pm1 an1 cd1 ct1), sl1⟩) (c1 : PySem.W.codeIn K cd1 "_law_flow" = true) (k1 : PySem.W.keepIn K (.ref f1) = true)
    {f2 : Addr} {od2 an2 : Option Addr} {sl2 : Array (Option Value)} {oc2 kV2 dc2 pm2 cd2 ct2 : Value}
    (a2 : PySem.W.nsIn K mainGlobals "_law_pipe" = some (some (.ref f2))) (l2 : K.lookup f2 = some ⟨oc2, od2, .func (PySem.W.fnOf "_law_pipe" "_law_pipe" (defArgs s__law_pipe) (defBody s__law_pipe) (defScope s__law_pipe) .none kV2 dc2 pm2 an2 cd2 ct2), sl2⟩) (c2 : PySem.W.codeIn K cd2 "_law_pipe" = true) (k2 : PySem.W.keepIn K (.ref f2) = true)
    {f3 : Addr} {od3 an3 : Option Addr} {sl3 : Array (Option Value)} {oc3 kV3 dc3 pm3 cd3 ct3 : Value}
    (a3 : PySem.W.nsIn K mainGlobals "is_integer" = some (some (.ref f3))) (l3 : K.lookup f3 = some ⟨oc3, od3, .func (PySem.W.fnOf "is_integer" "is_integer" (defArgs s_is_integer) (defBody s_is_integer) (defScope s_is_integer) .none kV3 dc3 pm3 an3 cd3 ct3), sl3⟩) (c3 : PySem.W.codeIn K cd3 "is_integer" = true) (k3 : PySem.W.keepIn K (.ref f3) = true)
    {f4 : Addr} {od4 an4 : Option Addr} {sl4 : Array (Option Value)} {oc4 kV4 dc4 pm4 cd4 ct4 : Value}
    (a4 : PySem.W.nsIn K mainGlobals "is_within" = some (some (.ref f4))) (l4 : K.lookup f4 = some ⟨oc4, od4, .func (PySem.W.fnOf "is_within" "is_within" (defArgs s_is_within) (defBody s_is_within) (defScope s_is_within) .none kV4 dc4 pm4 an4 cd4 ct4), sl4⟩) (c4 : PySem.W.codeIn K cd4 "is_within" = true) (k4 : PySem.W.keepIn K (.ref f4) = true)
    {f5 : Addr} {od5 an5 : Option Addr} {sl5 : Array (Option Value)} {oc5 kV5 dc5 pm5 cd5 ct5 : Value}
    (a5 : PySem.W.nsIn K mainGlobals "need_number" = some (some (.ref f5))) (l5 : K.lookup f5 = some ⟨oc5, od5, .func (PySem.W.fnOf "need_number" "need_number" (defArgs s_need_number) (defBody s_need_number) (defScope s_need_number) .none kV5 dc5 pm5 an5 cd5 ct5), sl5⟩) (c5 : PySem.W.codeIn K cd5 "need_number" = true) (k5 : PySem.W.keepIn K (.ref f5) = true)
    {f6 : Addr} {od6 an6 : Option Addr} {sl6 : Array (Option Value)} {oc6 kV6 dc6 pm6 cd6 ct6 : Value}
    (a6 : PySem.W.nsIn K mainGlobals "least_pair" = some (some (.ref f6))) (l6 : K.lookup f6 = some ⟨oc6, od6, .func (PySem.W.fnOf "least_pair" "least_pair" (defArgs s_least_pair) (defBody s_least_pair) (defScope s_least_pair) .none kV6 dc6 pm6 an6 cd6 ct6), sl6⟩) (c6 : PySem.W.codeIn K cd6 "least_pair" = true) (k6 : PySem.W.keepIn K (.ref f6) = true)
    {f7 : Addr} {od7 an7 : Option Addr} {sl7 : Array (Option Value)} {oc7 kV7 dc7 pm7 cd7 ct7 : Value}
    (a7 : PySem.W.nsIn K mainGlobals "choices" = some (some (.ref f7))) (l7 : K.lookup f7 = some ⟨oc7, od7, .func (PySem.W.fnOf "choices" "choices" (defArgs s_choices) (defBody s_choices) (defScope s_choices) .none kV7 dc7 pm7 an7 cd7 ct7), sl7⟩) (c7 : PySem.W.codeIn K cd7 "choices" = true) (k7 : PySem.W.keepIn K (.ref f7) = true)
    {f8 : Addr} {od8 an8 : Option Addr} {sl8 : Array (Option Value)} {oc8 kV8 dc8 pm8 cd8 ct8 : Value}
    (a8 : PySem.W.nsIn K mainGlobals "rows_to" = some (some (.ref f8))) (l8 : K.lookup f8 = some ⟨oc8, od8, .func (PySem.W.fnOf "rows_to" "rows_to" (defArgs s_rows_to) (defBody s_rows_to) (defScope s_rows_to) .none kV8 dc8 pm8 an8 cd8 ct8), sl8⟩) (c8 : PySem.W.codeIn K cd8 "rows_to" = true) (k8 : PySem.W.keepIn K (.ref f8) = true)
    {f9 : Addr} {od9 an9 : Option Addr} {sl9 : Array (Option Value)} {oc9 kV9 dc9 pm9 cd9 ct9 : Value}
    (a9 : PySem.W.nsIn K mainGlobals "first_in" = some (some (.ref f9))) (l9 : K.lookup f9 = some ⟨oc9, od9, .func (PySem.W.fnOf "first_in" "first_in" (defArgs s_first_in) (defBody s_first_in) (defScope s_first_in) .none kV9 dc9 pm9 an9 cd9 ct9), sl9⟩) (c9 : PySem.W.codeIn K cd9 "first_in" = true) (k9 : PySem.W.keepIn K (.ref f9) = true)
    {f10 : Addr} {od10 an10 : Option Addr} {sl10 : Array (Option Value)} {oc10 kV10 dc10 pm10 cd10 ct10 : Value}
    (a10 : PySem.W.nsIn K mainGlobals "first_share" = some (some (.ref f10))) (l10 : K.lookup f10 = some ⟨oc10, od10, .func (PySem.W.fnOf "first_share" "first_share" (defArgs s_first_share) (defBody s_first_share) (defScope s_first_share) .none kV10 dc10 pm10 an10 cd10 ct10), sl10⟩) (c10 : PySem.W.codeIn K cd10 "first_share" = true) (k10 : PySem.W.keepIn K (.ref f10) = true)
    {f11 : Addr} {od11 an11 : Option Addr} {sl11 : Array (Option Value)} {oc11 kV11 dc11 pm11 cd11 ct11 : Value}
    (a11 : PySem.W.nsIn K mainGlobals "colour_in" = some (some (.ref f11))) (l11 : K.lookup f11 = some ⟨oc11, od11, .func (PySem.W.fnOf "colour_in" "colour_in" (defArgs s_colour_in) (defBody s_colour_in) (defScope s_colour_in) .none kV11 dc11 pm11 an11 cd11 ct11), sl11⟩) (c11 : PySem.W.codeIn K cd11 "colour_in" = true) (k11 : PySem.W.keepIn K (.ref f11) = true)
    {f12 : Addr} {od12 an12 : Option Addr} {sl12 : Array (Option Value)} {oc12 kV12 dc12 pm12 cd12 ct12 : Value}
    (a12 : PySem.W.nsIn K mainGlobals "need_colour" = some (some (.ref f12))) (l12 : K.lookup f12 = some ⟨oc12, od12, .func (PySem.W.fnOf "need_colour" "need_colour" (defArgs s_need_colour) (defBody s_need_colour) (defScope s_need_colour) .none kV12 dc12 pm12 an12 cd12 ct12), sl12⟩) (c12 : PySem.W.codeIn K cd12 "need_colour" = true) (k12 : PySem.W.keepIn K (.ref f12) = true)
    {f13 : Addr} {od13 an13 : Option Addr} {sl13 : Array (Option Value)} {oc13 kV13 dc13 pm13 cd13 ct13 : Value}
    (a13 : PySem.W.nsIn K mainGlobals "kept_heaps" = some (some (.ref f13))) (l13 : K.lookup f13 = some ⟨oc13, od13, .func (PySem.W.fnOf "kept_heaps" "kept_heaps" (defArgs s_kept_heaps) (defBody s_kept_heaps) (defScope s_kept_heaps) .none kV13 dc13 pm13 an13 cd13 ct13), sl13⟩) (c13 : PySem.W.codeIn K cd13 "kept_heaps" = true) (k13 : PySem.W.keepIn K (.ref f13) = true)
    {f14 : Addr} {od14 an14 : Option Addr} {sl14 : Array (Option Value)} {oc14 kV14 dc14 pm14 cd14 ct14 : Value}
    (a14 : PySem.W.nsIn K mainGlobals "are_integers" = some (some (.ref f14))) (l14 : K.lookup f14 = some ⟨oc14, od14, .func (PySem.W.fnOf "are_integers" "are_integers" (defArgs s_are_integers) (defBody s_are_integers) (defScope s_are_integers) .none kV14 dc14 pm14 an14 cd14 ct14), sl14⟩) (c14 : PySem.W.codeIn K cd14 "are_integers" = true) (k14 : PySem.W.keepIn K (.ref f14) = true)
    {f15 : Addr} {od15 an15 : Option Addr} {sl15 : Array (Option Value)} {oc15 kV15 dc15 pm15 cd15 ct15 : Value}
    (a15 : PySem.W.nsIn K mainGlobals "is_heap" = some (some (.ref f15))) (l15 : K.lookup f15 = some ⟨oc15, od15, .func (PySem.W.fnOf "is_heap" "is_heap" (defArgs s_is_heap) (defBody s_is_heap) (defScope s_is_heap) .none kV15 dc15 pm15 an15 cd15 ct15), sl15⟩) (c15 : PySem.W.codeIn K cd15 "is_heap" = true) (k15 : PySem.W.keepIn K (.ref f15) = true)
    {f16 : Addr} {od16 an16 : Option Addr} {sl16 : Array (Option Value)} {oc16 kV16 dc16 pm16 cd16 ct16 : Value}
    (a16 : PySem.W.nsIn K mainGlobals "are_heaps" = some (some (.ref f16))) (l16 : K.lookup f16 = some ⟨oc16, od16, .func (PySem.W.fnOf "are_heaps" "are_heaps" (defArgs s_are_heaps) (defBody s_are_heaps) (defScope s_are_heaps) .none kV16 dc16 pm16 an16 cd16 ct16), sl16⟩) (c16 : PySem.W.codeIn K cd16 "are_heaps" = true) (k16 : PySem.W.keepIn K (.ref f16) = true)
    {f17 : Addr} {od17 an17 : Option Addr} {sl17 : Array (Option Value)} {oc17 kV17 dc17 pm17 cd17 ct17 : Value}
    (a17 : PySem.W.nsIn K mainGlobals "need_heaps" = some (some (.ref f17))) (l17 : K.lookup f17 = some ⟨oc17, od17, .func (PySem.W.fnOf "need_heaps" "need_heaps" (defArgs s_need_heaps) (defBody s_need_heaps) (defScope s_need_heaps) .none kV17 dc17 pm17 an17 cd17 ct17), sl17⟩) (c17 : PySem.W.codeIn K cd17 "need_heaps" = true) (k17 : PySem.W.keepIn K (.ref f17) = true)
    {f18 : Addr} {od18 an18 : Option Addr} {sl18 : Array (Option Value)} {oc18 kV18 dc18 pm18 cd18 ct18 : Value}
    {T18 : Addr} {Tod18 : Option Addr} {Tc18 : Value} {Tn18 : Nat} {Tsl18 : Array (Option Value)} {dt18_0 : Tok}
    (a18 : PySem.W.nsIn K mainGlobals "need_lefts" = some (some (.ref f18))) (l18 : K.lookup f18 = some ⟨oc18, od18, .func (PySem.W.fnOf "need_lefts" "need_lefts" (defArgs s_need_lefts) (defBody s_need_lefts) (defScope s_need_lefts) (.ref T18) kV18 dc18 pm18 an18 cd18 ct18), sl18⟩) (c18 : PySem.W.codeIn K cd18 "need_lefts" = true) (k18 : PySem.W.keepIn K (.ref f18) = true)
    (lT18 : K.lookup T18 = some ⟨Tc18, Tod18, .seq #[.str "lefts" dt18_0] Tn18, Tsl18⟩)
    {f19 : Addr} {od19 an19 : Option Addr} {sl19 : Array (Option Value)} {oc19 kV19 dc19 pm19 cd19 ct19 : Value}
    (a19 : PySem.W.nsIn K mainGlobals "spots_of" = some (some (.ref f19))) (l19 : K.lookup f19 = some ⟨oc19, od19, .func (PySem.W.fnOf "spots_of" "spots_of" (defArgs s_spots_of) (defBody s_spots_of) (defScope s_spots_of) .none kV19 dc19 pm19 an19 cd19 ct19), sl19⟩) (c19 : PySem.W.codeIn K cd19 "spots_of" = true) (k19 : PySem.W.keepIn K (.ref f19) = true)
    {f20 : Addr} {od20 an20 : Option Addr} {sl20 : Array (Option Value)} {oc20 kV20 dc20 pm20 cd20 ct20 : Value}
    (a20 : PySem.W.nsIn K mainGlobals "need_start" = some (some (.ref f20))) (l20 : K.lookup f20 = some ⟨oc20, od20, .func (PySem.W.fnOf "need_start" "need_start" (defArgs s_need_start) (defBody s_need_start) (defScope s_need_start) .none kV20 dc20 pm20 an20 cd20 ct20), sl20⟩) (c20 : PySem.W.codeIn K cd20 "need_start" = true) (k20 : PySem.W.keepIn K (.ref f20) = true)
    {f21 : Addr} {od21 an21 : Option Addr} {sl21 : Array (Option Value)} {oc21 kV21 dc21 pm21 cd21 ct21 : Value}
    (a21 : PySem.W.findIn K (.ref C_Line) "__init__" = some (some (.ref f21))) (l21 : K.lookup f21 = some ⟨oc21, od21, .func (PySem.W.fnOf "__init__" "Line.__init__" (defArgs s_Line___init__) (defBody s_Line___init__) (defScope s_Line___init__) .none kV21 dc21 pm21 an21 cd21 ct21), sl21⟩) (c21 : PySem.W.codeIn K cd21 "Line.__init__" = true) (k21 : PySem.W.keepIn K (.ref f21) = true)
    (i21 : PySem.W.isFn K (.ref f21) = true)
    {f22 : Addr} {od22 an22 : Option Addr} {sl22 : Array (Option Value)} {oc22 kV22 dc22 pm22 cd22 ct22 : Value}
    (a22 : PySem.W.nsIn K mainGlobals "sent_on" = some (some (.ref f22))) (l22 : K.lookup f22 = some ⟨oc22, od22, .func (PySem.W.fnOf "sent_on" "sent_on" (defArgs s_sent_on) (defBody s_sent_on) (defScope s_sent_on) .none kV22 dc22 pm22 an22 cd22 ct22), sl22⟩) (c22 : PySem.W.codeIn K cd22 "sent_on" = true) (k22 : PySem.W.keepIn K (.ref f22) = true)
    {f23 : Addr} {od23 an23 : Option Addr} {sl23 : Array (Option Value)} {oc23 kV23 dc23 pm23 cd23 ct23 : Value}
    (a23 : PySem.W.findIn K (.ref C_Line) "advance" = some (some (.ref f23))) (l23 : K.lookup f23 = some ⟨oc23, od23, .func (PySem.W.fnOf "advance" "Line.advance" (defArgs s_Line_advance) (defBody s_Line_advance) (defScope s_Line_advance) .none kV23 dc23 pm23 an23 cd23 ct23), sl23⟩) (c23 : PySem.W.codeIn K cd23 "Line.advance" = true) (k23 : PySem.W.keepIn K (.ref f23) = true)
    (i23 : PySem.W.isFn K (.ref f23) = true)
    {f24 : Addr} {od24 an24 : Option Addr} {sl24 : Array (Option Value)} {oc24 kV24 dc24 pm24 cd24 ct24 : Value}
    (a24 : PySem.W.nsIn K mainGlobals "share_in" = some (some (.ref f24))) (l24 : K.lookup f24 = some ⟨oc24, od24, .func (PySem.W.fnOf "share_in" "share_in" (defArgs s_share_in) (defBody s_share_in) (defScope s_share_in) .none kV24 dc24 pm24 an24 cd24 ct24), sl24⟩) (c24 : PySem.W.codeIn K cd24 "share_in" = true) (k24 : PySem.W.keepIn K (.ref f24) = true)
    {f25 : Addr} {od25 an25 : Option Addr} {sl25 : Array (Option Value)} {oc25 kV25 dc25 pm25 cd25 ct25 : Value}
    (a25 : PySem.W.nsIn K mainGlobals "share_of" = some (some (.ref f25))) (l25 : K.lookup f25 = some ⟨oc25, od25, .func (PySem.W.fnOf "share_of" "share_of" (defArgs s_share_of) (defBody s_share_of) (defScope s_share_of) .none kV25 dc25 pm25 an25 cd25 ct25), sl25⟩) (c25 : PySem.W.codeIn K cd25 "share_of" = true) (k25 : PySem.W.keepIn K (.ref f25) = true)
    {f26 : Addr} {od26 an26 : Option Addr} {sl26 : Array (Option Value)} {oc26 kV26 dc26 pm26 cd26 ct26 : Value}
    (a26 : PySem.W.nsIn K mainGlobals "times" = some (some (.ref f26))) (l26 : K.lookup f26 = some ⟨oc26, od26, .func (PySem.W.fnOf "times" "times" (defArgs s_times) (defBody s_times) (defScope s_times) .none kV26 dc26 pm26 an26 cd26 ct26), sl26⟩) (c26 : PySem.W.codeIn K cd26 "times" = true) (k26 : PySem.W.keepIn K (.ref f26) = true)
    {f27 : Addr} {od27 an27 : Option Addr} {sl27 : Array (Option Value)} {oc27 kV27 dc27 pm27 cd27 ct27 : Value}
    (a27 : PySem.W.nsIn K mainGlobals "is_fraction" = some (some (.ref f27))) (l27 : K.lookup f27 = some ⟨oc27, od27, .func (PySem.W.fnOf "is_fraction" "is_fraction" (defArgs s_is_fraction) (defBody s_is_fraction) (defScope s_is_fraction) .none kV27 dc27 pm27 an27 cd27 ct27), sl27⟩) (c27 : PySem.W.codeIn K cd27 "is_fraction" = true) (k27 : PySem.W.keepIn K (.ref f27) = true)
    {f28 : Addr} {od28 an28 : Option Addr} {sl28 : Array (Option Value)} {oc28 kV28 dc28 pm28 cd28 ct28 : Value}
    (a28 : PySem.W.nsIn K mainGlobals "need_fraction" = some (some (.ref f28))) (l28 : K.lookup f28 = some ⟨oc28, od28, .func (PySem.W.fnOf "need_fraction" "need_fraction" (defArgs s_need_fraction) (defBody s_need_fraction) (defScope s_need_fraction) .none kV28 dc28 pm28 an28 cd28 ct28), sl28⟩) (c28 : PySem.W.codeIn K cd28 "need_fraction" = true) (k28 : PySem.W.keepIn K (.ref f28) = true)
    {f29 : Addr} {od29 an29 : Option Addr} {sl29 : Array (Option Value)} {oc29 kV29 dc29 pm29 cd29 ct29 : Value}
    (a29 : PySem.W.nsIn K mainGlobals "multiplied" = some (some (.ref f29))) (l29 : K.lookup f29 = some ⟨oc29, od29, .func (PySem.W.fnOf "multiplied" "multiplied" (defArgs s_multiplied) (defBody s_multiplied) (defScope s_multiplied) .none kV29 dc29 pm29 an29 cd29 ct29), sl29⟩) (c29 : PySem.W.codeIn K cd29 "multiplied" = true) (k29 : PySem.W.keepIn K (.ref f29) = true)
    {f30 : Addr} {od30 an30 : Option Addr} {sl30 : Array (Option Value)} {oc30 kV30 dc30 pm30 cd30 ct30 : Value}
    (a30 : PySem.W.nsIn K mainGlobals "both" = some (some (.ref f30))) (l30 : K.lookup f30 = some ⟨oc30, od30, .func (PySem.W.fnOf "both" "both" (defArgs s_both) (defBody s_both) (defScope s_both) .none kV30 dc30 pm30 an30 cd30 ct30), sl30⟩) (c30 : PySem.W.codeIn K cd30 "both" = true) (k30 : PySem.W.keepIn K (.ref f30) = true)
    {f31 : Addr} {od31 an31 : Option Addr} {sl31 : Array (Option Value)} {oc31 kV31 dc31 pm31 cd31 ct31 : Value}
    (a31 : PySem.W.nsIn K mainGlobals "turned" = some (some (.ref f31))) (l31 : K.lookup f31 = some ⟨oc31, od31, .func (PySem.W.fnOf "turned" "turned" (defArgs s_turned) (defBody s_turned) (defScope s_turned) .none kV31 dc31 pm31 an31 cd31 ct31), sl31⟩) (c31 : PySem.W.codeIn K cd31 "turned" = true) (k31 : PySem.W.keepIn K (.ref f31) = true)
    {f32 : Addr} {od32 an32 : Option Addr} {sl32 : Array (Option Value)} {oc32 kV32 dc32 pm32 cd32 ct32 : Value}
    (a32 : PySem.W.nsIn K mainGlobals "less" = some (some (.ref f32))) (l32 : K.lookup f32 = some ⟨oc32, od32, .func (PySem.W.fnOf "less" "less" (defArgs s_less) (defBody s_less) (defScope s_less) .none kV32 dc32 pm32 an32 cd32 ct32), sl32⟩) (c32 : PySem.W.codeIn K cd32 "less" = true) (k32 : PySem.W.keepIn K (.ref f32) = true)
    {f33 : Addr} {od33 an33 : Option Addr} {sl33 : Array (Option Value)} {oc33 kV33 dc33 pm33 cd33 ct33 : Value}
    (a33 : PySem.W.nsIn K mainGlobals "mean_in" = some (some (.ref f33))) (l33 : K.lookup f33 = some ⟨oc33, od33, .func (PySem.W.fnOf "mean_in" "mean_in" (defArgs s_mean_in) (defBody s_mean_in) (defScope s_mean_in) .none kV33 dc33 pm33 an33 cd33 ct33), sl33⟩) (c33 : PySem.W.codeIn K cd33 "mean_in" = true) (k33 : PySem.W.keepIn K (.ref f33) = true)
    {f34 : Addr} {od34 an34 : Option Addr} {sl34 : Array (Option Value)} {oc34 kV34 dc34 pm34 cd34 ct34 : Value}
    (a34 : PySem.W.nsIn K mainGlobals "mean_at" = some (some (.ref f34))) (l34 : K.lookup f34 = some ⟨oc34, od34, .func (PySem.W.fnOf "mean_at" "mean_at" (defArgs s_mean_at) (defBody s_mean_at) (defScope s_mean_at) .none kV34 dc34 pm34 an34 cd34 ct34), sl34⟩) (c34 : PySem.W.codeIn K cd34 "mean_at" = true) (k34 : PySem.W.keepIn K (.ref f34) = true)
    {f35 : Addr} {od35 an35 : Option Addr} {sl35 : Array (Option Value)} {oc35 kV35 dc35 pm35 cd35 ct35 : Value}
    (a35 : PySem.W.nsIn K mainGlobals "_law_turned" = some (some (.ref f35))) (l35 : K.lookup f35 = some ⟨oc35, od35, .func (PySem.W.fnOf "_law_turned" "_law_turned" (defArgs s__law_turned) (defBody s__law_turned) (defScope s__law_turned) .none kV35 dc35 pm35 an35 cd35 ct35), sl35⟩) (c35 : PySem.W.codeIn K cd35 "_law_turned" = true) (k35 : PySem.W.keepIn K (.ref f35) = true)
    {f36 : Addr} {od36 an36 : Option Addr} {sl36 : Array (Option Value)} {oc36 kV36 dc36 pm36 cd36 ct36 : Value}
    (a36 : PySem.W.nsIn K mainGlobals "gap_in" = some (some (.ref f36))) (l36 : K.lookup f36 = some ⟨oc36, od36, .func (PySem.W.fnOf "gap_in" "gap_in" (defArgs s_gap_in) (defBody s_gap_in) (defScope s_gap_in) .none kV36 dc36 pm36 an36 cd36 ct36), sl36⟩) (c36 : PySem.W.codeIn K cd36 "gap_in" = true) (k36 : PySem.W.keepIn K (.ref f36) = true)
    {f37 : Addr} {od37 an37 : Option Addr} {sl37 : Array (Option Value)} {oc37 kV37 dc37 pm37 cd37 ct37 : Value}
    (a37 : PySem.W.findIn K (.ref C_Line) "heap_at" = some (some (.ref f37))) (l37 : K.lookup f37 = some ⟨oc37, od37, .func (PySem.W.fnOf "heap_at" "Line.heap_at" (defArgs s_Line_heap_at) (defBody s_Line_heap_at) (defScope s_Line_heap_at) .none kV37 dc37 pm37 an37 cd37 ct37), sl37⟩) (c37 : PySem.W.codeIn K cd37 "Line.heap_at" = true) (k37 : PySem.W.keepIn K (.ref f37) = true)
    (i37 : PySem.W.isFn K (.ref f37) = true)
    {f38 : Addr} {od38 an38 : Option Addr} {sl38 : Array (Option Value)} {oc38 kV38 dc38 pm38 cd38 ct38 : Value}
    (a38 : PySem.W.findIn K (.ref C_Line) "forward" = some (some (.ref f38))) (l38 : K.lookup f38 = some ⟨oc38, od38, .func (PySem.W.fnOf "forward" "Line.forward" (defArgs s_Line_forward) (defBody s_Line_forward) (defScope s_Line_forward) .none kV38 dc38 pm38 an38 cd38 ct38), sl38⟩) (c38 : PySem.W.codeIn K cd38 "Line.forward" = true) (k38 : PySem.W.keepIn K (.ref f38) = true)
    (i38 : PySem.W.isFn K (.ref f38) = true)
    {f39 : Addr} {od39 an39 : Option Addr} {sl39 : Array (Option Value)} {oc39 kV39 dc39 pm39 cd39 ct39 : Value}
    (a39 : PySem.W.nsIn K mainGlobals "line_behind" = some (some (.ref f39))) (l39 : K.lookup f39 = some ⟨oc39, od39, .func (PySem.W.fnOf "line_behind" "line_behind" (defArgs s_line_behind) (defBody s_line_behind) (defScope s_line_behind) .none kV39 dc39 pm39 an39 cd39 ct39), sl39⟩) (c39 : PySem.W.codeIn K cd39 "line_behind" = true) (k39 : PySem.W.keepIn K (.ref f39) = true)
    {f40 : Addr} {od40 an40 : Option Addr} {sl40 : Array (Option Value)} {oc40 kV40 dc40 pm40 cd40 ct40 : Value}
    (a40 : PySem.W.nsIn K mainGlobals "gap_at" = some (some (.ref f40))) (l40 : K.lookup f40 = some ⟨oc40, od40, .func (PySem.W.fnOf "gap_at" "gap_at" (defArgs s_gap_at) (defBody s_gap_at) (defScope s_gap_at) .none kV40 dc40 pm40 an40 cd40 ct40), sl40⟩) (c40 : PySem.W.codeIn K cd40 "gap_at" = true) (k40 : PySem.W.keepIn K (.ref f40) = true)
    {f41 : Addr} {od41 an41 : Option Addr} {sl41 : Array (Option Value)} {oc41 kV41 dc41 pm41 cd41 ct41 : Value}
    (a41 : PySem.W.nsIn K mainGlobals "_law_one_right" = some (some (.ref f41))) (l41 : K.lookup f41 = some ⟨oc41, od41, .func (PySem.W.fnOf "_law_one_right" "_law_one_right" (defArgs s__law_one_right) (defBody s__law_one_right) (defScope s__law_one_right) .none kV41 dc41 pm41 an41 cd41 ct41), sl41⟩) (c41 : PySem.W.codeIn K cd41 "_law_one_right" = true) (k41 : PySem.W.keepIn K (.ref f41) = true)
    {f42 : Addr} {od42 an42 : Option Addr} {sl42 : Array (Option Value)} {oc42 kV42 dc42 pm42 cd42 ct42 : Value}
    (a42 : PySem.W.nsIn K mainGlobals "law" = some (some (.ref f42))) (l42 : K.lookup f42 = some ⟨oc42, od42, .func (PySem.W.fnOf "law" "law" (defArgs s_law) (defBody s_law) (defScope s_law) .none kV42 dc42 pm42 an42 cd42 ct42), sl42⟩) (c42 : PySem.W.codeIn K cd42 "law" = true) (k42 : PySem.W.keepIn K (.ref f42) = true)
    (z_int : PySem.W.nsIn K mainGlobals "int" = some none)
    (z_len : PySem.W.nsIn K mainGlobals "len" = some none)
    (z_abs : PySem.W.nsIn K mainGlobals "abs" = some none)
    (z_isinstance : PySem.W.nsIn K mainGlobals "isinstance" = some none)
    (z_bool : PySem.W.nsIn K mainGlobals "bool" = some none)
    (z_range : PySem.W.nsIn K mainGlobals "range" = some none)
    (z_all : PySem.W.nsIn K mainGlobals "all" = some none)
    (z_tuple : PySem.W.nsIn K mainGlobals "tuple" = some none)
    (z_sorted : PySem.W.nsIn K mainGlobals "sorted" = some none)
    (z_list : PySem.W.nsIn K mainGlobals "list" = some none)
    (z_set : PySem.W.nsIn K mainGlobals "set" = some none)
    (z_sum : PySem.W.nsIn K mainGlobals "sum" = some none)
    (z_dict : PySem.W.nsIn K mainGlobals "dict" = some none)
    (y_gcd : PySem.W.nsIn K mainGlobals "gcd" = some (some (.builtin "math.gcd")))
    {a_NOUGHT : Addr} {sl_NOUGHT : Array (Option Value)} {n_NOUGHT : Nat} {t0_NOUGHT t1_NOUGHT : Tok} (y_NOUGHT : PySem.W.nsIn K mainGlobals "NOUGHT" = some (some (.ref a_NOUGHT))) (u_NOUGHT : K.lookup a_NOUGHT = some ⟨.type "tuple", none, .seq #[.int 0 t0_NOUGHT, .int 1 t1_NOUGHT] n_NOUGHT, sl_NOUGHT⟩)
    {t_MOST_FAR : Tok} (y_MOST_FAR : PySem.W.nsIn K mainGlobals "MOST_FAR" = some (some (.int 400 t_MOST_FAR)))
    {t_FARTHEST : Tok} (y_FARTHEST : PySem.W.nsIn K mainGlobals "FARTHEST" = some (some (.int 1000000 t_FARTHEST)))
    {t_MOST_CHIPS : Tok} (y_MOST_CHIPS : PySem.W.nsIn K mainGlobals "MOST_CHIPS" = some (some (.int 1000000000000000000000000000000000000000000000000000000000000 t_MOST_CHIPS)))
    {t_MOST_HEAPS : Tok} (y_MOST_HEAPS : PySem.W.nsIn K mainGlobals "MOST_HEAPS" = some (some (.int 60 t_MOST_HEAPS)))
    {t_MOST_LEFTS : Tok} (y_MOST_LEFTS : PySem.W.nsIn K mainGlobals "MOST_LEFTS" = some (some (.int 400 t_MOST_LEFTS)))
    {t_MOST_TICKS_means : Tok} (y_MOST_TICKS_means : PySem.W.nsIn K mainGlobals "MOST_TICKS_means" = some (some (.int 200 t_MOST_TICKS_means)))
    {t_MOST_TICKS_lines : Tok} (y_MOST_TICKS_lines : PySem.W.nsIn K mainGlobals "MOST_TICKS_lines" = some (some (.int 200 t_MOST_TICKS_lines)))
    {t_MOST_GAP_TICKS : Tok} (y_MOST_GAP_TICKS : PySem.W.nsIn K mainGlobals "MOST_GAP_TICKS" = some (some (.int 60 t_MOST_GAP_TICKS)))
    : ∃ fd : FuncData, (∀ (s : Shared) (v : Value), BindsTo s fd ⟨[v], []⟩ [("_law_script", v)]) ∧ ∀ base : Heap, K.In base → base.Ns mainGlobals mg → FnG l.prog w K mg base CX0 12 fa fd ["_law_script"] (spM (ctG K) [.st] .st m_law) := by
  have e := hfa.symm.trans (PySem.W.mg_of X G a42)
  cases e
  have m_int := PySem.W.mg_none_of X G z_int
  have m_len := PySem.W.mg_none_of X G z_len
  have m_abs := PySem.W.mg_none_of X G z_abs
  have m_isinstance := PySem.W.mg_none_of X G z_isinstance
  have m_bool := PySem.W.mg_none_of X G z_bool
  have m_range := PySem.W.mg_none_of X G z_range
  have m_all := PySem.W.mg_none_of X G z_all
  have m_tuple := PySem.W.mg_none_of X G z_tuple
  have m_sorted := PySem.W.mg_none_of X G z_sorted
  have m_list := PySem.W.mg_none_of X G z_list
  have m_set := PySem.W.mg_none_of X G z_set
  have m_sum := PySem.W.mg_none_of X G z_sum
  have m_dict := PySem.W.mg_none_of X G z_dict
  have g_gcd := PySem.W.mg_of X G y_gcd
  have g_NOUGHT := PySem.W.mg_of X G y_NOUGHT
  have w_NOUGHT : WrT (ctG K) a_NOUGHT [.int 0, .int 1] := ⟨_, _, _, u_NOUGHT, rfl, rfl, (by show 2 ≤ sizeLine; decide), (.cons ⟨_, rfl⟩ (.cons ⟨_, rfl⟩ .nil)), rfl⟩
  have g_MOST_FAR := PySem.W.mg_of X G y_MOST_FAR
  have g_FARTHEST := PySem.W.mg_of X G y_FARTHEST
  have g_MOST_CHIPS := PySem.W.mg_of X G y_MOST_CHIPS
  have g_MOST_HEAPS := PySem.W.mg_of X G y_MOST_HEAPS
  have g_MOST_LEFTS := PySem.W.mg_of X G y_MOST_LEFTS
  have g_MOST_TICKS_means := PySem.W.mg_of X G y_MOST_TICKS_means
  have g_MOST_TICKS_lines := PySem.W.mg_of X G y_MOST_TICKS_lines
  have g_MOST_GAP_TICKS := PySem.W.mg_of X G y_MOST_GAP_TICKS
  have c_Line : Cls K C_Line := ⟨pg_Line, hd_Line, po_Line, sa_Line⟩
  have cl_Line : (ctG K).cl "Line" = some C_Line := clG_of y_Line
  have g_Line := PySem.W.mg_of X G y_Line
  have fo_tick : FldOk (ctG K) ["Line"] "tick" := (FldOk.cons cl_Line c_Line na_Line_tick FldOk.nil)
  have fo_heaps : FldOk (ctG K) ["Line"] "heaps" := (FldOk.cons cl_Line c_Line na_Line_heaps FldOk.nil)
  have fo_lefts : FldOk (ctG K) ["Line"] "lefts" := (FldOk.cons cl_Line c_Line na_Line_lefts FldOk.nil)
  have F__law_culvert := fun_mk (st := s__law_culvert) l0 c0 k0
  have b__law_culvert := F__law_culvert.binds (ps := ["_law_script"]) fun _ _ _ _ _ _ us hl => match us, hl with | [_], _ => rfl
  have g__law_culvert := PySem.W.mg_of X G a0
  have F__law_flow := fun_mk (st := s__law_flow) l1 c1 k1
  have b__law_flow := F__law_flow.binds (ps := ["_law_culvert_here", "_law_many"]) fun _ _ _ _ _ _ us hl => match us, hl with | [_, _], _ => rfl
  have g__law_flow := PySem.W.mg_of X G a1
  have F__law_pipe := fun_mk (st := s__law_pipe) l2 c2 k2
  have b__law_pipe := F__law_pipe.binds (ps := ["_law_culvert_here", "_law_some"]) fun _ _ _ _ _ _ us hl => match us, hl with | [_, _], _ => rfl
  have g__law_pipe := PySem.W.mg_of X G a2
  have F_is_integer := fun_mk (st := s_is_integer) l3 c3 k3
  have b_is_integer := F_is_integer.binds (ps := ["value"]) fun _ _ _ _ _ _ us hl => match us, hl with | [_], _ => rfl
  have g_is_integer := PySem.W.mg_of X G a3
  have F_is_within := fun_mk (st := s_is_within) l4 c4 k4
  have b_is_within := F_is_within.binds (ps := ["value", "least", "most"]) fun _ _ _ _ _ _ us hl => match us, hl with | [_, _, _], _ => rfl
  have g_is_within := PySem.W.mg_of X G a4
  have F_need_number := fun_mk (st := s_need_number) l5 c5 k5
  have b_need_number := F_need_number.binds (ps := ["value", "part", "least", "most"]) fun _ _ _ _ _ _ us hl => match us, hl with | [_, _, _, _], _ => rfl
  have g_need_number := PySem.W.mg_of X G a5
  have F_least_pair := fun_mk (st := s_least_pair) l6 c6 k6
  have b_least_pair := F_least_pair.binds (ps := ["up", "down"]) fun _ _ _ _ _ _ us hl => match us, hl with | [_, _], _ => rfl
  have g_least_pair := PySem.W.mg_of X G a6
  have F_choices := fun_mk (st := s_choices) l7 c7 k7
  have b_choices := F_choices.binds (ps := ["many", "some"]) fun _ _ _ _ _ _ us hl => match us, hl with | [_, _], _ => rfl
  have g_choices := PySem.W.mg_of X G a7
  have F_rows_to := fun_mk (st := s_rows_to) l8 c8 k8
  have b_rows_to := F_rows_to.binds (ps := ["far", "ticks"]) fun _ _ _ _ _ _ us hl => match us, hl with | [_, _], _ => rfl
  have g_rows_to := PySem.W.mg_of X G a8
  have F_first_in := fun_mk (st := s_first_in) l9 c9 k9
  have b_first_in := F_first_in.binds (ps := ["far", "ticks"]) fun _ _ _ _ _ _ us hl => match us, hl with | [_, _], _ => rfl
  have g_first_in := PySem.W.mg_of X G a9
  have F_first_share := fun_mk (st := s_first_share) l10 c10 k10
  have b_first_share := F_first_share.binds (ps := ["far", "ticks"]) fun _ _ _ _ _ _ us hl => match us, hl with | [_, _], _ => rfl
  have g_first_share := PySem.W.mg_of X G a10
  have F_colour_in := fun_mk (st := s_colour_in) l11 c11 k11
  have b_colour_in := F_colour_in.binds (ps := ["spots"]) fun _ _ _ _ _ _ us hl => match us, hl with | [_], _ => rfl
  have g_colour_in := PySem.W.mg_of X G a11
  have F_need_colour := fun_mk (st := s_need_colour) l12 c12 k12
  have b_need_colour := F_need_colour.binds (ps := ["spots"]) fun _ _ _ _ _ _ us hl => match us, hl with | [_], _ => rfl
  have g_need_colour := PySem.W.mg_of X G a12
  have F_kept_heaps := fun_mk (st := s_kept_heaps) l13 c13 k13
  have b_kept_heaps := F_kept_heaps.binds (ps := ["value"]) fun _ _ _ _ _ _ us hl => match us, hl with | [_], _ => rfl
  have g_kept_heaps := PySem.W.mg_of X G a13
  have F_are_integers := fun_mk (st := s_are_integers) l14 c14 k14
  have b_are_integers := F_are_integers.binds (ps := ["value", "many"]) fun _ _ _ _ _ _ us hl => match us, hl with | [_, _], _ => rfl
  have g_are_integers := PySem.W.mg_of X G a14
  have F_is_heap := fun_mk (st := s_is_heap) l15 c15 k15
  have b_is_heap := F_is_heap.binds (ps := ["value"]) fun _ _ _ _ _ _ us hl => match us, hl with | [_], _ => rfl
  have g_is_heap := PySem.W.mg_of X G a15
  have F_are_heaps := fun_mk (st := s_are_heaps) l16 c16 k16
  have b_are_heaps := F_are_heaps.binds (ps := ["value"]) fun _ _ _ _ _ _ us hl => match us, hl with | [_], _ => rfl
  have g_are_heaps := PySem.W.mg_of X G a16
  have F_need_heaps := fun_mk (st := s_need_heaps) l17 c17 k17
  have b_need_heaps := F_need_heaps.binds (ps := ["value", "part"]) fun _ _ _ _ _ _ us hl => match us, hl with | [_, _], _ => rfl
  have g_need_heaps := PySem.W.mg_of X G a17
  have F_need_lefts : FunD K "need_lefts" "need_lefts" (defArgs s_need_lefts) (defBody s_need_lefts) (defScope s_need_lefts) [(.str "lefts")] [] f18 _ := ⟨⟨_, _, _, _, _, _, _, _, _, _, rfl, l18, c18, .inr ⟨by simp, T18, _, [_], Tn18, rfl, lT18, rfl, (.cons ⟨_, rfl⟩ .nil)⟩, .inl rfl⟩, k18⟩
  obtain ⟨ds_need_lefts_1, bd_need_lefts_1⟩ := F_need_lefts.binds1 (ps := ["value", "part"]) 1 0 (by simp) (by rfl) fun _ _ _ _ _ _ _ us its h1 h2 => match us, h1, its, h2 with | [_], _, [_], _ => ⟨_, rfl, rfl⟩
  obtain ⟨ds_need_lefts_2, bd_need_lefts_2⟩ := F_need_lefts.binds1 (ps := ["value", "part"]) 2 1 (by simp) (by rfl) fun _ _ _ _ _ _ _ us its h1 h2 => match us, h1, its, h2 with | [_, _], _, [_], _ => ⟨_, rfl, rfl⟩
  have b_need_lefts := bind_full bd_need_lefts_2.1 bd_need_lefts_2.2
  have g_need_lefts := PySem.W.mg_of X G a18
  have F_spots_of := fun_mk (st := s_spots_of) l19 c19 k19
  have b_spots_of := F_spots_of.binds (ps := ["heaps"]) fun _ _ _ _ _ _ us hl => match us, hl with | [_], _ => rfl
  have g_spots_of := PySem.W.mg_of X G a19
  have F_need_start := fun_mk (st := s_need_start) l20 c20 k20
  have b_need_start := F_need_start.binds (ps := ["heaps", "lefts"]) fun _ _ _ _ _ _ us hl => match us, hl with | [_, _], _ => rfl
  have g_need_start := PySem.W.mg_of X G a20
  have F_Line___init__ := fun_mk (st := s_Line___init__) l21 c21 k21
  have b_Line___init__ := F_Line___init__.binds (ps := ["self", "heaps", "lefts"]) fun _ _ _ _ _ _ us hl => match us, hl with | [_, _, _], _ => rfl
  have mk_Line : Mk K C_Line f21 := ⟨mk_Line, a21, i21, kc_Line⟩
  have F_sent_on := fun_mk (st := s_sent_on) l22 c22 k22
  have b_sent_on := F_sent_on.binds (ps := ["heaps", "lefts"]) fun _ _ _ _ _ _ us hl => match us, hl with | [_, _], _ => rfl
  have g_sent_on := PySem.W.mg_of X G a22
  have F_Line_advance := fun_mk (st := s_Line_advance) l23 c23 k23
  have b_Line_advance := F_Line_advance.binds (ps := ["self"]) fun _ _ _ _ _ _ us hl => match us, hl with | [_], _ => rfl
  have mt_Line_advance : Meth K C_Line "advance" f23 := ⟨a23, i23, k23⟩
  have F_share_in := fun_mk (st := s_share_in) l24 c24 k24
  have b_share_in := F_share_in.binds (ps := ["far", "ticks"]) fun _ _ _ _ _ _ us hl => match us, hl with | [_, _], _ => rfl
  have g_share_in := PySem.W.mg_of X G a24
  have F_share_of := fun_mk (st := s_share_of) l25 c25 k25
  have b_share_of := F_share_of.binds (ps := ["far", "ticks"]) fun _ _ _ _ _ _ us hl => match us, hl with | [_, _], _ => rfl
  have g_share_of := PySem.W.mg_of X G a25
  have F_times := fun_mk (st := s_times) l26 c26 k26
  have b_times := F_times.binds (ps := ["one", "other"]) fun _ _ _ _ _ _ us hl => match us, hl with | [_, _], _ => rfl
  have g_times := PySem.W.mg_of X G a26
  have F_is_fraction := fun_mk (st := s_is_fraction) l27 c27 k27
  have b_is_fraction := F_is_fraction.binds (ps := ["value"]) fun _ _ _ _ _ _ us hl => match us, hl with | [_], _ => rfl
  have g_is_fraction := PySem.W.mg_of X G a27
  have F_need_fraction := fun_mk (st := s_need_fraction) l28 c28 k28
  have b_need_fraction := F_need_fraction.binds (ps := ["value", "part"]) fun _ _ _ _ _ _ us hl => match us, hl with | [_, _], _ => rfl
  have g_need_fraction := PySem.W.mg_of X G a28
  have F_multiplied := fun_mk (st := s_multiplied) l29 c29 k29
  have b_multiplied := F_multiplied.binds (ps := ["one", "other"]) fun _ _ _ _ _ _ us hl => match us, hl with | [_, _], _ => rfl
  have g_multiplied := PySem.W.mg_of X G a29
  have F_both := fun_mk (st := s_both) l30 c30 k30
  have b_both := F_both.binds (ps := ["one", "other"]) fun _ _ _ _ _ _ us hl => match us, hl with | [_, _], _ => rfl
  have g_both := PySem.W.mg_of X G a30
  have F_turned := fun_mk (st := s_turned) l31 c31 k31
  have b_turned := F_turned.binds (ps := ["one"]) fun _ _ _ _ _ _ us hl => match us, hl with | [_], _ => rfl
  have g_turned := PySem.W.mg_of X G a31
  have F_less := fun_mk (st := s_less) l32 c32 k32
  have b_less := F_less.binds (ps := ["one", "other"]) fun _ _ _ _ _ _ us hl => match us, hl with | [_, _], _ => rfl
  have g_less := PySem.W.mg_of X G a32
  have F_mean_in := fun_mk (st := s_mean_in) l33 c33 k33
  have b_mean_in := F_mean_in.binds (ps := ["heaps", "spot", "ticks"]) fun _ _ _ _ _ _ us hl => match us, hl with | [_, _, _], _ => rfl
  have g_mean_in := PySem.W.mg_of X G a33
  have F_mean_at := fun_mk (st := s_mean_at) l34 c34 k34
  have b_mean_at := F_mean_at.binds (ps := ["heaps", "spot", "ticks"]) fun _ _ _ _ _ _ us hl => match us, hl with | [_, _, _], _ => rfl
  have g_mean_at := PySem.W.mg_of X G a34
  have F__law_turned := fun_mk (st := s__law_turned) l35 c35 k35
  have b__law_turned := F__law_turned.binds (ps := ["_law_fraction"]) fun _ _ _ _ _ _ us hl => match us, hl with | [_], _ => rfl
  have g__law_turned := PySem.W.mg_of X G a35
  have F_gap_in := fun_mk (st := s_gap_in) l36 c36 k36
  have b_gap_in := F_gap_in.binds (ps := ["many", "mean"]) fun _ _ _ _ _ _ us hl => match us, hl with | [_, _], _ => rfl
  have g_gap_in := PySem.W.mg_of X G a36
  have F_Line_heap_at := fun_mk (st := s_Line_heap_at) l37 c37 k37
  have b_Line_heap_at := F_Line_heap_at.binds (ps := ["self", "spot"]) fun _ _ _ _ _ _ us hl => match us, hl with | [_, _], _ => rfl
  have mt_Line_heap_at : Meth K C_Line "heap_at" f37 := ⟨a37, i37, k37⟩
  have F_Line_forward := fun_mk (st := s_Line_forward) l38 c38 k38
  have b_Line_forward := F_Line_forward.binds (ps := ["self", "many"]) fun _ _ _ _ _ _ us hl => match us, hl with | [_, _], _ => rfl
  have mt_Line_forward : Meth K C_Line "forward" f38 := ⟨a38, i38, k38⟩
  have F_line_behind := fun_mk (st := s_line_behind) l39 c39 k39
  have b_line_behind := F_line_behind.binds (ps := ["heaps", "lefts", "ticks"]) fun _ _ _ _ _ _ us hl => match us, hl with | [_, _, _], _ => rfl
  have g_line_behind := PySem.W.mg_of X G a39
  have F_gap_at := fun_mk (st := s_gap_at) l40 c40 k40
  have b_gap_at := F_gap_at.binds (ps := ["heaps", "lefts", "spot", "ticks"]) fun _ _ _ _ _ _ us hl => match us, hl with | [_, _, _, _], _ => rfl
  have g_gap_at := PySem.W.mg_of X G a40
  have F__law_one_right := fun_mk (st := s__law_one_right) l41 c41 k41
  have b__law_one_right := F__law_one_right.binds (ps := ["_law_culvert_here", "_law_far", "_law_ticks"]) fun _ _ _ _ _ _ us hl => match us, hl with | [_, _, _], _ => rfl
  have g__law_one_right := PySem.W.mg_of X G a41
  have F_law := fun_mk (st := s_law) l42 c42 k42
  have b_law := F_law.binds (ps := ["_law_script"]) fun _ _ _ _ _ _ us hl => match us, hl with | [_], _ => rfl
  have g_law := PySem.W.mg_of X G a42
  refine ⟨PySem.W.fnOf "law" "law" (defArgs s_law) (defBody s_law) (defScope s_law) .none kV42 dc42 pm42 an42 cd42 ct42, fun s v => .of_eq rfl, fun base _ _ => ?_⟩
  have G__law_culvert := ok__law_culvert (P := l.prog) (w := w) (Γ := ctG K) (mg := mg) (base := base) F__law_culvert m_int
  have G__law_flow := ok__law_flow (P := l.prog) (w := w) (Γ := ctG K) (mg := mg) (base := base) F__law_flow m_int m_len m_abs
  have G__law_pipe := ok__law_pipe (P := l.prog) (w := w) (Γ := ctG K) (mg := mg) (base := base) F__law_pipe G__law_flow g__law_flow F__law_flow.kp b__law_flow m_len
  have G_is_integer := ok_is_integer (P := l.prog) (w := w) (Γ := ctG K) (mg := mg) (base := base) F_is_integer m_isinstance m_int m_bool
  have G_is_within := ok_is_within (P := l.prog) (w := w) (Γ := ctG K) (mg := mg) (base := base) F_is_within G_is_integer g_is_integer F_is_integer.kp b_is_integer
  have G_need_number := ok_need_number (P := l.prog) (w := w) (Γ := ctG K) (mg := mg) (base := base) F_need_number G_is_within g_is_within F_is_within.kp b_is_within
  have G_least_pair := ok_least_pair (P := l.prog) (w := w) (Γ := ctG K) (mg := mg) (base := base) F_least_pair g_gcd
  have G_choices := ok_choices (P := l.prog) (w := w) (Γ := ctG K) (mg := mg) (base := base) F_choices m_range
  have G_rows_to := ok_rows_to (P := l.prog) (w := w) (Γ := ctG K) (mg := mg) (base := base) F_rows_to m_abs G_choices g_choices F_choices.kp b_choices
  have G_first_in := ok_first_in (P := l.prog) (w := w) (Γ := ctG K) (mg := mg) (base := base) F_first_in g_NOUGHT w_NOUGHT G_least_pair g_least_pair F_least_pair.kp b_least_pair G_rows_to g_rows_to F_rows_to.kp b_rows_to
  have G_first_share := ok_first_share (P := l.prog) (w := w) (Γ := ctG K) (mg := mg) (base := base) F_first_share G_need_number g_need_number F_need_number.kp b_need_number g_MOST_FAR G_first_in g_first_in F_first_in.kp b_first_in
  have G_colour_in := ok_colour_in (P := l.prog) (w := w) (Γ := ctG K) (mg := mg) (base := base) F_colour_in m_len
  have G_need_colour := ok_need_colour (P := l.prog) (w := w) (Γ := ctG K) (mg := mg) (base := base) F_need_colour m_all G_colour_in g_colour_in F_colour_in.kp b_colour_in
  have G_kept_heaps := ok_kept_heaps (P := l.prog) (w := w) (Γ := ctG K) (mg := mg) (base := base) F_kept_heaps m_tuple m_sorted
  have G_are_integers := ok_are_integers (P := l.prog) (w := w) (Γ := ctG K) (mg := mg) (base := base) F_are_integers m_isinstance m_list m_tuple m_len m_all G_is_integer g_is_integer F_is_integer.kp b_is_integer
  have G_is_heap := ok_is_heap (P := l.prog) (w := w) (Γ := ctG K) (mg := mg) (base := base) F_is_heap G_are_integers g_are_integers F_are_integers.kp b_are_integers G_is_within g_is_within F_is_within.kp b_is_within g_FARTHEST g_MOST_CHIPS
  have G_are_heaps := ok_are_heaps (P := l.prog) (w := w) (Γ := ctG K) (mg := mg) (base := base) F_are_heaps m_isinstance m_list m_tuple m_len g_MOST_HEAPS m_all G_is_heap g_is_heap F_is_heap.kp b_is_heap m_set
  have G_need_heaps := ok_need_heaps (P := l.prog) (w := w) (Γ := ctG K) (mg := mg) (base := base) F_need_heaps G_are_heaps g_are_heaps F_are_heaps.kp b_are_heaps G_kept_heaps g_kept_heaps F_kept_heaps.kp b_kept_heaps
  have G_need_lefts := ok_need_lefts (P := l.prog) (w := w) (Γ := ctG K) (mg := mg) (base := base) F_need_lefts m_isinstance m_list m_tuple m_len g_MOST_LEFTS m_all G_is_within g_is_within F_is_within.kp b_is_within g_FARTHEST m_set m_sorted
  have G_spots_of := ok_spots_of (P := l.prog) (w := w) (Γ := ctG K) (mg := mg) (base := base) F_spots_of 
  have G_need_start := ok_need_start (P := l.prog) (w := w) (Γ := ctG K) (mg := mg) (base := base) F_need_start G_need_lefts g_need_lefts F_need_lefts.kp b_need_lefts bd_need_lefts_1 G_need_heaps g_need_heaps F_need_heaps.kp b_need_heaps G_need_colour g_need_colour F_need_colour.kp b_need_colour G_spots_of g_spots_of F_spots_of.kp b_spots_of
  have G_Line___init__ := ok_Line___init__ (P := l.prog) (w := w) (Γ := ctG K) (mg := mg) (base := base) F_Line___init__ G_need_start g_need_start F_need_start.kp b_need_start fo_tick fo_heaps fo_lefts
  have G_sent_on := ok_sent_on (P := l.prog) (w := w) (Γ := ctG K) (mg := mg) (base := base) F_sent_on 
  have G_Line_advance := ok_Line_advance (P := l.prog) (w := w) (Γ := ctG K) (mg := mg) (base := base) F_Line_advance fo_lefts G_sent_on g_sent_on F_sent_on.kp b_sent_on fo_heaps m_tuple m_sorted fo_tick
  have G_share_in := ok_share_in (P := l.prog) (w := w) (Γ := ctG K) (mg := mg) (base := base) F_share_in G_least_pair g_least_pair F_least_pair.kp b_least_pair G_rows_to g_rows_to F_rows_to.kp b_rows_to
  have G_share_of := ok_share_of (P := l.prog) (w := w) (Γ := ctG K) (mg := mg) (base := base) F_share_of G_need_number g_need_number F_need_number.kp b_need_number g_MOST_FAR G_share_in g_share_in F_share_in.kp b_share_in
  have G_times := ok_times (P := l.prog) (w := w) (Γ := ctG K) (mg := mg) (base := base) F_times G_least_pair g_least_pair F_least_pair.kp b_least_pair
  have G_is_fraction := ok_is_fraction (P := l.prog) (w := w) (Γ := ctG K) (mg := mg) (base := base) F_is_fraction G_are_integers g_are_integers F_are_integers.kp b_are_integers g_gcd
  have G_need_fraction := ok_need_fraction (P := l.prog) (w := w) (Γ := ctG K) (mg := mg) (base := base) F_need_fraction G_is_fraction g_is_fraction F_is_fraction.kp b_is_fraction
  have G_multiplied := ok_multiplied (P := l.prog) (w := w) (Γ := ctG K) (mg := mg) (base := base) F_multiplied G_times g_times F_times.kp b_times G_need_fraction g_need_fraction F_need_fraction.kp b_need_fraction
  have G_both := ok_both (P := l.prog) (w := w) (Γ := ctG K) (mg := mg) (base := base) F_both G_least_pair g_least_pair F_least_pair.kp b_least_pair
  have G_turned := ok_turned (P := l.prog) (w := w) (Γ := ctG K) (mg := mg) (base := base) F_turned 
  have G_less := ok_less (P := l.prog) (w := w) (Γ := ctG K) (mg := mg) (base := base) F_less G_both g_both F_both.kp b_both G_need_fraction g_need_fraction F_need_fraction.kp b_need_fraction G_turned g_turned F_turned.kp b_turned
  have G_mean_in := ok_mean_in (P := l.prog) (w := w) (Γ := ctG K) (mg := mg) (base := base) F_mean_in m_sum G_rows_to g_rows_to F_rows_to.kp b_rows_to G_least_pair g_least_pair F_least_pair.kp b_least_pair
  have G_mean_at := ok_mean_at (P := l.prog) (w := w) (Γ := ctG K) (mg := mg) (base := base) F_mean_at G_need_heaps g_need_heaps F_need_heaps.kp b_need_heaps G_need_number g_need_number F_need_number.kp b_need_number g_MOST_TICKS_means G_need_colour g_need_colour F_need_colour.kp b_need_colour G_spots_of g_spots_of F_spots_of.kp b_spots_of G_mean_in g_mean_in F_mean_in.kp b_mean_in
  have G__law_turned := ok__law_turned (P := l.prog) (w := w) (Γ := ctG K) (mg := mg) (base := base) F__law_turned 
  have G_gap_in := ok_gap_in (P := l.prog) (w := w) (Γ := ctG K) (mg := mg) (base := base) F_gap_in G_both g_both F_both.kp b_both G_turned g_turned F_turned.kp b_turned
  have G_Line_heap_at := ok_Line_heap_at (P := l.prog) (w := w) (Γ := ctG K) (mg := mg) (base := base) F_Line_heap_at G_need_number g_need_number F_need_number.kp b_need_number m_dict fo_heaps
  have G_Line_forward := ok_Line_forward (P := l.prog) (w := w) (Γ := ctG K) (mg := mg) (base := base) F_Line_forward G_need_number g_need_number F_need_number.kp b_need_number g_MOST_TICKS_lines m_range c_Line cl_Line G_Line_advance b_Line_advance mt_Line_advance fo_tick
  have G_line_behind := ok_line_behind (P := l.prog) (w := w) (Γ := ctG K) (mg := mg) (base := base) F_line_behind c_Line cl_Line G_Line___init__ b_Line___init__ mk_Line g_Line G_Line_forward b_Line_forward mt_Line_forward
  have G_gap_at := ok_gap_at (P := l.prog) (w := w) (Γ := ctG K) (mg := mg) (base := base) F_gap_at G_need_lefts g_need_lefts F_need_lefts.kp b_need_lefts bd_need_lefts_1 G_need_heaps g_need_heaps F_need_heaps.kp b_need_heaps G_need_number g_need_number F_need_number.kp b_need_number g_MOST_GAP_TICKS G_need_colour g_need_colour F_need_colour.kp b_need_colour G_spots_of g_spots_of F_spots_of.kp b_spots_of G_gap_in g_gap_in F_gap_in.kp b_gap_in c_Line cl_Line G_Line_heap_at b_Line_heap_at mt_Line_heap_at G_line_behind g_line_behind F_line_behind.kp b_line_behind G_mean_in g_mean_in F_mean_in.kp b_mean_in
  have G__law_one_right := ok__law_one_right (P := l.prog) (w := w) (Γ := ctG K) (mg := mg) (base := base) F__law_one_right G__law_pipe g__law_pipe F__law_pipe.kp b__law_pipe G__law_flow g__law_flow F__law_flow.kp b__law_flow G_first_share g_first_share F_first_share.kp b_first_share G_share_of g_share_of F_share_of.kp b_share_of G_multiplied g_multiplied F_multiplied.kp b_multiplied G_less g_less F_less.kp b_less G_mean_at g_mean_at F_mean_at.kp b_mean_at G__law_turned g__law_turned F__law_turned.kp b__law_turned c_Line cl_Line G_Line___init__ b_Line___init__ mk_Line g_Line G_Line_advance b_Line_advance mt_Line_advance fo_heaps G_gap_at g_gap_at F_gap_at.kp b_gap_at
  have G_law := ok_law (P := l.prog) (w := w) (Γ := ctG K) (mg := mg) (base := base) F_law G__law_culvert g__law_culvert F__law_culvert.kp b__law_culvert m_range G__law_flow g__law_flow F__law_flow.kp b__law_flow G__law_pipe g__law_pipe F__law_pipe.kp b__law_pipe G__law_one_right g__law_one_right F__law_one_right.kp b__law_one_right G_share_of g_share_of F_share_of.kp b_share_of
  exact G_law
end Mk22

set_option Elab.async false
set_option linter.all false
set_option maxRecDepth 100000
set_option maxHeartbeats 4000000
set_option exponentiation.threshold 20000
namespace Mk22
open PySem PySem.Spec L2 Vl Pk
/-! the draws -/
theorem draws : Draws m__law_flow := fun n d many hp hn h0 h1 => stepG_spec (M1 := 2147483549) (A := 37481) (B := 9561) (M2 := 2147483587) (C := 9207) (D' := 97041) (A2 := 37481) (M3 := 2147483629) ⟨by decide, by decide, by decide, by decide, by decide, by decide, by decide, by decide⟩ hp hn h0 h1
theorem picks : Picks m__law_pipe := pickG_spec draws
theorem culvert_eq (ns : List Int) : m__law_culvert [.lst (ns.map .int)] = .ok (pileD (ns.take 60) 0 0) [] := pileG_spec
theorem turned2 {q : Rat} : m__law_turned [frq q] = .ok (frq (-q)) [] := by
  have e : frq (-q) = .tup [.int (-q.num), .int q.den] := by unfold frq; rw [Rat.neg_num, Rat.neg_den]
  have t2 : ∀ a b : D, tupG [a, b] = some (.tup [a, b]) := fun _ _ => rfl
  rw [e]
  unfold frq
  simp -implicitDefEqProofs [m__law_turned, g__law_turned, at0, at1, t2]
/-! shares -/
def c2 (t : Nat) : Rat := (((2 : Int) ^ t : Int) : Rat)
theorem c2_ne (t : Nat) : c2 t ≠ 0 := by
  unfold c2
  have := pow2_ne t
  intro h
  exact this (by exact_mod_cast h)
theorem c2_step (t : Nat) : c2 (t + 1) = 2 * c2 t := by
  unfold c2
  rw [Int.pow_succ, Int.mul_comm, Rat.intCast_mul]
  rfl
theorem PPq (t : Nat) (x : Int) : PP t x = (wk t x : Rat) / c2 t := by unfold PP c2; rw [Rat.divInt_eq_div]
theorem FFq (t d : Nat) : FF t d = (fp t d : Rat) / c2 t := by unfold FF c2; rw [Rat.divInt_eq_div]
theorem mnq (l : LI) (t : Nat) (x : Int) : mn l t x = (SS l t x : Rat) / c2 t := by unfold mn c2; rw [Rat.divInt_eq_div]
theorem due_eq {f : Nat} (hf : 1 ≤ f) (T : Nat) : FF (T + 1) f = 1 / 2 * (PP T ((f : Int) - 1) - PP T ((f : Int) + 1)) := by
  rw [FFq, PPq, PPq, ← fp_step hf T, Rat.intCast_sub, c2_step]
  have := c2_ne T
  grind
theorem SS_one (b m : Int) (t : Nat) (x : Int) : SS [(b, m)] t x = m * wk t (x - b) := by simp [SS]
theorem near_eq {f : Nat} (hf : 1 ≤ f) (T : Nat) (b : Int) : mn [(b + 1, 1)] T (b + f) - mn [(b - 1, 1)] T (b + f) = 2 * FF (T + 1) f := by
  rw [due_eq hf, mnq, mnq, PPq, PPq, SS_one, SS_one, show b + (f : Int) - (b + 1) = f - 1 by omega, show b + (f : Int) - (b - 1) = f + 1 by omega, Int.one_mul, Int.one_mul]
  have := c2_ne T
  grind
theorem SS_LS (l : LI) (t : Nat) (x : Int) : SS l t x = LS (fun y => wk t (x - y)) l := rfl
/-- the means of what one tick leaves, less the mean at first -/
theorem told_right {f : Nat} (hf : 1 ≤ f) (T : Nat) (b m : Int) (hm : m % 2 = 1) (h0 : 0 ≤ m) : mn (adv [(b, m)] []) T (b + f) - mn [(b, m)] (T + 1) (b + f) = FF (T + 1) f := by
  have h1 : SS (adv [(b, m)] []) T (b + f) = (m / 2) * wk T ((f : Int) + 1) + (m - m / 2) * wk T ((f : Int) - 1) := by
    rw [SS_LS, LS_adv (by simpa using h0)]
    simp only [List.map_cons, List.map_nil, List.sum_cons, List.sum_nil, Int.add_zero]
    rw [sndOf_out (by simp)]
    dsimp only
    rw [show b + (f : Int) - (b - 1) = f + 1 by omega, show b + (f : Int) - (b + 1) = f - 1 by omega]
  have h2 : SS [(b, m)] (T + 1) (b + f) = m * (wk T ((f : Int) - 1) + wk T ((f : Int) + 1)) := by
    rw [SS_one, show b + (f : Int) - b = f by omega]; rfl
  have h3 : m = 2 * (m / 2) + 1 := by omega
  rw [due_eq hf, mnq, mnq, PPq, PPq, h1, h2, c2_step]
  have hc := c2_ne T
  generalize wk T ((f : Int) - 1) = A
  generalize wk T ((f : Int) + 1) = B
  generalize m / 2 = k at *
  subst h3
  rw [show 2 * k + 1 - k = k + 1 by omega]
  simp only [Rat.intCast_add, Rat.intCast_mul]
  generalize c2 T = C at *
  generalize (A : Rat) = A at *
  generalize (B : Rat) = B at *
  generalize (k : Rat) = k at *
  have e2 : ((2 : Int) : Rat) = 2 := rfl
  have e1 : ((1 : Int) : Rat) = 1 := rfl
  rw [e2, e1]
  grind
theorem told_left {f : Nat} (hf : 1 ≤ f) (T : Nat) (b m : Int) (hm : m % 2 = 1) (h0 : 0 ≤ m) : mn (adv [(b, m)] [b]) T (b + f) - mn [(b, m)] (T + 1) (b + f) = -FF (T + 1) f := by
  have h1 : SS (adv [(b, m)] [b]) T (b + f) = (m - m / 2) * wk T ((f : Int) + 1) + (m / 2) * wk T ((f : Int) - 1) := by
    rw [SS_LS, LS_adv (by simpa using h0)]
    simp only [List.map_cons, List.map_nil, List.sum_cons, List.sum_nil, Int.add_zero]
    rw [sndOf_in (by simp)]
    dsimp only
    rw [show b + (f : Int) - (b - 1) = f + 1 by omega, show b + (f : Int) - (b + 1) = f - 1 by omega]
  have h2 : SS [(b, m)] (T + 1) (b + f) = m * (wk T ((f : Int) - 1) + wk T ((f : Int) + 1)) := by
    rw [SS_one, show b + (f : Int) - b = f by omega]; rfl
  have h3 : m = 2 * (m / 2) + 1 := by omega
  rw [due_eq hf, mnq, mnq, PPq, PPq, h1, h2, c2_step]
  have hc := c2_ne T
  generalize wk T ((f : Int) - 1) = A
  generalize wk T ((f : Int) + 1) = B
  generalize m / 2 = k at *
  subst h3
  rw [show 2 * k + 1 - k = k + 1 by omega]
  simp only [Rat.intCast_add, Rat.intCast_mul]
  generalize c2 T = C at *
  generalize (A : Rat) = A at *
  generalize (B : Rat) = B at *
  generalize (k : Rat) = k at *
  have e2 : ((2 : Int) : Rat) = 2 := rfl
  have e1 : ((1 : Int) : Rat) = 1 := rfl
  rw [e2, e1]
  grind
/-- behind one tick a heap is what its mean of no more ticks tells -/
theorem mn_zero (l : LI) (x : Int) : mn l 0 x = (lval l x : Rat) := by
  rw [mnq]
  have e : SS l 0 x = lval l x := by
    rw [SS_LS, ← LS_delta]
    unfold LS
    congr 1
    refine List.map_congr_left fun p _ => ?_
    simp only [wk]
    have : x - p.1 = 0 ↔ p.1 = x := by omega
    simp only [this]
  rw [e]
  have : c2 0 = 1 := rfl
  rw [this]
  grind
theorem srtP_one (p : Int × Int) : srtP [p] = [p] := by simp [srtP]
theorem srtL_nil : srtL [] = [] := by simp [srtL]
theorem srtL_one (x : Int) : srtL [x] = [x] := by simp [srtL]
theorem gap_one (b m : Int) (ls : List Int) (hs : srtL ls = ls) (x : Int) : gapQ [(b, m)] ls 1 x = mn (adv [(b, m)] ls) 0 x - mn [(b, m)] 1 x := by
  unfold gapQ
  rw [mn_zero]
  show ((lval (nxt (st0 [(b, m)] ls)).1 x : Int) : Rat) - _ = _
  unfold nxt st0
  rw [srtP_one, hs]
/-! a heap as it may stand -/
theorem ok_one {b m : Int} (hb : -1000000 ≤ b ∧ b ≤ 1000000) (hm : 1 ≤ m ∧ m ≤ 5) : HpOk [(b, m)] where
  nd := by simp [NdK]
  len := by simp
  spot := fun p hp => by rw [List.mem_singleton] at hp; subst hp; exact hb
  many := fun p hp => by
    rw [List.mem_singleton] at hp; subst hp
    have : (5 : Int) ≤ mostC := by decide
    dsimp only; omega
  col := fun p hp q hq => by rw [List.mem_singleton] at hp hq; subst hp; subst hq; rfl
theorem ok_adv {b m : Int} {ls : List Int} (hb : -999999 ≤ b ∧ b ≤ 999999) (hm : 1 ≤ m ∧ m ≤ 5) : HpOk (adv [(b, m)] ls) where
  nd := adv_nd
  len := by
    have z := nd_sub' _ [b - 1, b + 1] (adv_nd (hs := [(b, m)]) (ls := ls)) fun x hx => by
      obtain ⟨p, hp, e⟩ := adv_key hx
      rw [List.mem_singleton] at hp; subst hp
      simpa using e
    rw [List.length_map] at z
    simp only [List.length_cons, List.length_nil] at z
    omega
  spot := fun p hp => by
    obtain ⟨q, hq, e⟩ := adv_key (List.mem_map.mpr ⟨p, hp, rfl⟩)
    rw [List.mem_singleton] at hq; subst hq
    dsimp only at e
    omega
  many := fun p hp => by
    have h1 := adv_pos hp
    refine ⟨by omega, ?_⟩
    have h2 : lval (adv [(b, m)] ls) p.1 = p.2 := lval_mem adv_nd hp
    rw [← LS_delta, LS_adv (by simpa using (show 0 ≤ m by omega))] at h2
    simp only [List.map_cons, List.map_nil, List.sum_cons, List.sum_nil, Int.add_zero] at h2
    have h3 := sndOf_sum (ls := ls) (p := (b, m))
    have h4 := sndOf_pos (ls := ls) (p := (b, m)) (by dsimp only; omega)
    dsimp only at h3
    have h5 : p.2 ≤ m := by
      rw [← h2]
      split <;> split <;> omega
    have : (5 : Int) ≤ mostC := by decide
    omega
  col := fun p hp q hq => by
    obtain ⟨r, hr, e⟩ := adv_key (List.mem_map.mpr ⟨p, hp, rfl⟩)
    obtain ⟨r', hr', e'⟩ := adv_key (List.mem_map.mpr ⟨q, hq, rfl⟩)
    rw [List.mem_singleton] at hr hr'; subst hr; subst hr'
    dsimp only at e e'
    omega
theorem is_one (b m : Int) : IsHs (.lst [.tup [.int b, .int m]]) [(b, m)] := ⟨_, .cons (.inl rfl) .nil, .inl rfl⟩
theorem sz4 {q : Rat} {n : Nat} (h : Sz q n) (l : n ≤ 4000) : Sz q 4000 := h.mono l
/-! one heap, one tick -/
noncomputable def lapB : S → SO := (seqM (setM 11 (mkM "Line" 2 m_Line___init__ (consA (apA lstG (consA (apA tupG (consA (gts 4) (consA (gts 8) (pur [])))) (pur []))) (consA (gts 9) (pur [])))))
  (seqM (dropM (callQ [some 11] m_Line_advance (consA (op1 (insG "Line" "advance") (gts 11)) (pur []))))
  (shM 11 (seqM (setM 12 (apA lstG (consA (callM 3 m_mean_at (consA (op1 (fldG ["Line"] "heaps") (gts 11)) (consA (gts 3) (consA (op2 subG (gts 2) (pur (.int 1))) (pur []))))) (consA (callM 3 m_mean_at (consA (apA lstG (consA (apA tupG (consA (gts 4) (consA (gts 8) (pur [])))) (pur []))) (consA (gts 3) (consA (gts 2) (pur []))))) (pur [])))))
  (seqM (ifM (tru (op2 neG (callM 2 m_less (consA (op2 ixAG (gts 12) (pur (.int 0))) (consA (op2 ixAG (gts 12) (pur (.int 1))) (pur [])))) (gts 10)))
    (retM (pur (.bl false)))
    nxM)
  (ifM (andB (tru (op2 eqG (gts 2) (pur (.int 1)))) (tru (op2 neG (callM 4 m_gap_at (consA (apA lstG (consA (apA tupG (consA (gts 4) (consA (gts 8) (pur [])))) (pur []))) (consA (gts 9) (consA (gts 3) (consA (pur (.int 1)) (pur [])))))) (gts 10))))
    (retM (pur (.bl false)))
    nxM))))))
theorem callW11 {F : List D → OF} {P P' d r : D} {a0 a1 a2 a3 a4 a5 a6 a7 a8 a9 a10 : Option D} {rest : S} (h : F [P] = .ok r [P']) : callW [some 11] F [d] (a0 :: a1 :: a2 :: a3 :: a4 :: a5 :: a6 :: a7 :: a8 :: a9 :: a10 :: some P :: rest) = .ok r (a0 :: a1 :: a2 :: a3 :: a4 :: a5 :: a6 :: a7 :: a8 :: a9 :: a10 :: some P' :: rest) :=
  callW_ok (es := [P]) (outs := [P']) rfl h rfl
theorem lap_eq {P due near off L : D} {x9 x10 x11 x12 : Option D} {f T : Nat} {b m x : Int} {ls : List Int} {q : Rat} (hL : IsLf L ls) (okL : LfOk ls) (hs : srtL ls = ls) (hb : -1000 ≤ b ∧ b ≤ 1000) (hm : 1 ≤ m ∧ m ≤ 5) (hT : T ≤ 40)
    (hq : mn (adv [(b, m)] ls) T x - mn [(b, m)] (T + 1) x = q) :
    ∃ s1 x12', tgT [tgN 9, tgN 10] (.tup [L, frq q]) [some P, some (.int f), some (.int ((T + 1 : Nat) : Int)), some (.int x), some (.int b), some due, some near, some off, some (.int m), x9, x10, x11, x12] = some s1 ∧
      lapB s1 = .nx [some P, some (.int f), some (.int ((T + 1 : Nat) : Int)), some (.int x), some (.int b), some due, some near, some off, some (.int m), some L, some (frq q), none, x12'] := by
  have ok := ok_one (b := b) (m := m) (by omega) hm
  have okA := ok_adv (b := b) (m := m) (ls := ls) (by omega) hm
  have mk := fun s => make_eq (s := s) (is_one b m) ok hL okL
  rw [srtP_one, hs] at mk
  have hll : ls.length ≤ 200000 := by have := okL.len; omega
  have a := advance_eq (hs := [(b, m)]) (ls := ls) (k := 0) (by simp) hll
  have ia := ins_adv (hs := [(b, m)]) (ls := ls) (t := 0)
  have w := callW11 (d := lnD [(b, m)] ls 0) (a0 := some P) (a1 := some (.int f)) (a2 := some (.int ((T + 1 : Nat) : Int))) (a3 := some (.int x)) (a4 := some (.int b)) (a5 := some due) (a6 := some near) (a7 := some off) (a8 := some (.int m)) (a9 := some L) (a10 := some (frq q)) (rest := [x12]) a
  have fh := fld_heaps (hs := adv [(b, m)] ls) (ls := flp [(b, m)] ls) (t := 0 + 1)
  have m1 := mean_at_eq (t := T) (x := x) (isHs_prs (adv [(b, m)] ls)) okA (by omega)
  have m2 := mean_at_eq (t := T + 1) (x := x) (is_one b m) ok (by omega)
  have z1 := sz_mn okA.len (fun p hp => by have := okA.many p hp; omega) (t := T) (by omega) x
  have z2 := sz_mn ok.len (fun p hp => by have := ok.many p hp; omega) (t := T + 1) (by omega) x
  have le := less_eq (sz4 z1 (by decide)) (sz4 z2 (by decide))
  rw [hq] at le
  have ne : neG [frq q, frq q] = some (.bl false) := by rw [neG_frq]; simp
  have hT1 : ((T + 1 : Nat) : Int) - 1 = T := by omega
  have t2 : ∀ a b : D, tupG [a, b] = some (.tup [a, b]) := fun _ _ => rfl
  have l1 : ∀ a : D, lstG [a] = some (.lst [a]) := fun _ => rfl
  have l2 : ∀ a b : D, lstG [a, b] = some (.lst [a, b]) := fun _ _ => rfl
  refine ⟨_, some (.lst [frq (mn (adv [(b, m)] ls) T x), frq (mn [(b, m)] (T + 1) x)]), rfl, ?_⟩
  have hg : T = 0 → m_gap_at [.lst [.tup [.int b, .int m]], L, .int x, .int 1] = .ok (frq q) [] := fun h0 => by
    subst h0
    have e1 : gapQ [(b, m)] ls 1 x = q := by rw [gap_one b m ls hs, ← hq]
    have hv : lval (run 1 (st0 [(b, m)] ls)).1 x = lval (adv [(b, m)] ls) x := by
      show lval (nxt (st0 [(b, m)] ls)).1 x = _
      unfold nxt st0
      rw [srtP_one, hs]
    have hb4 : (lval (run 1 (st0 [(b, m)] ls)).1 x).natAbs < 2 ^ 4000 := by
      rw [hv]
      by_cases hx : lval (adv [(b, m)] ls) x = 0
      · rw [hx]; decide
      · obtain ⟨v, _, hmem⟩ := (lval_ne okA.nd).mp hx
        rw [lval_mem okA.nd hmem]
        have h1 := okA.many _ hmem
        dsimp only at h1
        have h2 := mostC_lt
        have h3 : (2 : Nat) ^ 200 ≤ 2 ^ 4000 := Nat.pow_le_pow_right (by decide) (by decide)
        generalize (2 : Nat) ^ 4000 = B at *
        generalize (2 : Nat) ^ 200 = C at *
        omega
    have g := gap_at_eq (n := 1) (x := x) (is_one b m) ok hL okL (by decide) hb4 (sz4 z2 (by decide))
    rw [e1] at g
    exact g
  generalize lnD (adv [(b, m)] ls) (flp [(b, m)] ls) (0 + 1) = L1 at *
  generalize lnD [(b, m)] ls 0 = L0 at *
  generalize (adv [(b, m)] ls).map pairI = H1 at *
  generalize frq (mn (adv [(b, m)] ls) T x) = F1 at *
  generalize frq (mn [(b, m)] (T + 1) x) = F2 at *
  generalize frq q = Q at *
  by_cases h0 : T = 0
  · have hg := hg h0
    have e1 : eqG [.int ((T + 1 : Nat) : Int), .int 1] = some (.bl true) := by rw [eqG_i]; simp [h0]
    generalize hTT : ((T + 1 : Nat) : Int) = TT at *
    simp -implicitDefEqProofs [lapB, mk, ia, w, fh, m1, m2, le, ne, hT1, t2, l1, l2, at0, at1, hg, e1]
  · have e1 : eqG [.int ((T + 1 : Nat) : Int), .int 1] = some (.bl false) := by
      rw [eqG_i, decide_eq_false (by omega)]
    generalize hTT : ((T + 1 : Nat) : Int) = TT at *
    simp -implicitDefEqProofs [lapB, mk, ia, w, fh, m1, m2, le, ne, hT1, t2, l1, l2, at0, at1, e1]
noncomputable def r0 : S → SO := (setM 3 (callQ [some 0, none] m__law_pipe (consA (gts 0) (consA (apA lstG (consA (pur (.int 0)) (consA (pur (.int 5)) (consA (op1 negG (pur (.int 8))) (consA (callQ [some 0, none] m__law_flow (consA (gts 0) (consA (pur (.int 60)) (pur [])))) (pur [])))))) (pur [])))))
noncomputable def r1 : S → SO := (setM 4 (op2 subG (gts 3) (gts 1)))
noncomputable def r2 : S → SO := (setM 5 (callM 2 m_first_share (consA (gts 1) (consA (gts 2) (pur [])))))
noncomputable def r3 : S → SO := (parM [6, 7] (consA (callM 2 m_share_of (consA (op2 subG (gts 1) (pur (.int 1))) (consA (op2 subG (gts 2) (pur (.int 1))) (pur [])))) (consA (callM 2 m_share_of (consA (op2 addG (gts 1) (pur (.int 1))) (consA (op2 subG (gts 2) (pur (.int 1))) (pur [])))) (pur []))))
noncomputable def r4 : S → SO := (ifM (tru (op2 neG (callM 2 m_multiplied (consA (apA tupG (consA (pur (.int 1)) (consA (pur (.int 2)) (pur [])))) (consA (callM 2 m_less (consA (gts 6) (consA (gts 7) (pur [])))) (pur [])))) (gts 5)))
    (retM (pur (.bl false)))
    nxM)
noncomputable def r5 : S → SO := (ifM (tru (op2 neG (callM 2 m_less (consA (callM 3 m_mean_at (consA (apA lstG (consA (apA tupG (consA (op2 addG (gts 4) (pur (.int 1))) (consA (pur (.int 1)) (pur [])))) (pur []))) (consA (gts 3) (consA (op2 subG (gts 2) (pur (.int 1))) (pur []))))) (consA (callM 3 m_mean_at (consA (apA lstG (consA (apA tupG (consA (op2 subG (gts 4) (pur (.int 1))) (consA (pur (.int 1)) (pur [])))) (pur []))) (consA (gts 3) (consA (op2 subG (gts 2) (pur (.int 1))) (pur []))))) (pur [])))) (callM 2 m_multiplied (consA (apA tupG (consA (pur (.int 2)) (consA (pur (.int 1)) (pur [])))) (consA (gts 5) (pur []))))))
    (retM (pur (.bl false)))
    nxM)
noncomputable def r6 : S → SO := (setM 8 (op2 addG (pur (.int 1)) (op2 mulI (pur (.int 2)) (callQ [some 0, none] m__law_flow (consA (gts 0) (consA (pur (.int 3)) (pur [])))))))
noncomputable def r7 : S → SO := (forM (seqI (apA tupG (consA (apA tupG (consA (apA lstG (pur [])) (consA (gts 5) (pur [])))) (consA (apA tupG (consA (apA lstG (consA (gts 4) (pur []))) (consA (callM 1 m__law_turned (consA (gts 5) (pur []))) (pur [])))) (pur []))))) (tgT [tgN 9, tgN 10])
    lapB)
noncomputable def r8 : S → SO := (retM (pur (.bl true)))
theorem chainR : g__law_one_right = (seqM r0 (seqM r1 (seqM r2 (seqM r3 (seqM r4 (seqM r5 (seqM r6 (seqM r7 r8)))))))) := rfl
theorem one_right_eq {n f T : Nat} {P : D} (hp : Pile n P) (hn : n ≤ 90000) (hf : 1 ≤ f ∧ f ≤ 12) (hT : T ≤ 40) : ∃ P', m__law_one_right [P, .int f, .int ((T + 1 : Nat) : Int)] = .ok (.bl true) [P'] ∧ Pile (n + 3) P' := by
  obtain ⟨z1, P1, e1, hp1, h10, h11⟩ := draws n P 60 hp (by omega) (by decide) (by decide)
  obtain ⟨y, P2, e2, hp2, m2⟩ := picks (n + 1) P1 [.int 0, .int 5, .int (-8), .int z1] hp1 (by omega) (by simp) (by simp)
  obtain ⟨x, rfl, hx⟩ : ∃ x : Int, y = .int x ∧ -8 ≤ x ∧ x ≤ 60 := by
    simp only [List.mem_cons, List.not_mem_nil, or_false] at m2
    rcases m2 with rfl | rfl | rfl | rfl
    · exact ⟨0, rfl, by omega⟩
    · exact ⟨5, rfl, by omega⟩
    · exact ⟨-8, rfl, by omega⟩
    · exact ⟨z1, rfl, by omega⟩
  obtain ⟨r, P3, e3, hp3, h30, h31⟩ := draws (n + 2) P2 3 hp2 (by omega) (by decide) (by decide)
  obtain ⟨b, hb⟩ : ∃ b : Int, b = x - f := ⟨_, rfl⟩
  obtain ⟨m, hm⟩ : ∃ m : Int, m = 1 + 2 * r := ⟨_, rfl⟩
  have hx2 : x = b + f := by omega
  have hT1 : ((T + 1 : Nat) : Int) - 1 = T := by omega
  have l4 : ∀ a b c d : D, lstG [a, b, c, d] = some (.lst [a, b, c, d]) := fun _ _ _ _ => rfl
  have l1 : ∀ a : D, lstG [a] = some (.lst [a]) := fun _ => rfl
  have l0 : lstG [] = some (.lst []) := rfl
  have t2 : ∀ a b : D, tupG [a, b] = some (.tup [a, b]) := fun _ _ => rfl
  have fs := first_share_eq (d := f) (t := T + 1) hf.1 (by omega) (by omega)
  have sa := share_of_eq (x := (f : Int) - 1) (t := T) (by omega) (by omega)
  have sb := share_of_eq (x := (f : Int) + 1) (t := T) (by omega) (by omega)
  have zP : ∀ z, Sz (PP T z) 50 := fun z => (sz_PP T z).mono (by omega)
  have zF : Sz (FF (T + 1) f) 50 := (sz_FF (T + 1) f).mono (by omega)
  have le := less_eq (sz4 (zP ((f : Int) - 1)) (by decide)) (sz4 (zP ((f : Int) + 1)) (by decide))
  have mu := multiplied_eq (p := 1 / 2) (q := PP T ((f : Int) - 1) - PP T ((f : Int) + 1)) ⟨by decide +kernel, by decide +kernel⟩ (sz4 ((zP _).sub (zP _)) (by decide))
  rw [← due_eq hf.1 T, ← frq_half] at mu
  have ok1 := ok_one (b := b + 1) (m := 1) (by omega) (by decide)
  have ok2 := ok_one (b := b - 1) (m := 1) (by omega) (by decide)
  have ma := mean_at_eq (t := T) (x := x) (is_one (b + 1) 1) ok1 (by omega)
  have mb := mean_at_eq (t := T) (x := x) (is_one (b - 1) 1) ok2 (by omega)
  have za := sz_mn ok1.len (fun p hp => by have := ok1.many p hp; omega) (t := T) (by omega) x
  have zb := sz_mn ok2.len (fun p hp => by have := ok2.many p hp; omega) (t := T) (by omega) x
  have le2 := less_eq (sz4 za (by decide)) (sz4 zb (by decide))
  have nq := near_eq hf.1 T b
  rw [← hx2] at nq
  rw [nq] at le2
  have mu2 := multiplied_eq (p := 2) (q := FF (T + 1) f) ⟨by decide +kernel, by decide +kernel⟩ (sz4 zF (by decide))
  rw [← frq_two] at mu2
  have tq := turned2 (q := FF (T + 1) f)
  have ne1 : neG [frq (FF (T + 1) f), frq (FF (T + 1) f)] = some (.bl false) := by rw [neG_frq]; simp
  have ne2 : neG [frq (2 * FF (T + 1) f), frq (2 * FF (T + 1) f)] = some (.bl false) := by rw [neG_frq]; simp
  have hm5 : 1 ≤ m ∧ m ≤ 5 := by omega
  have qr := told_right hf.1 T b m (by omega) (by omega)
  have ql := told_left hf.1 T b m (by omega) (by omega)
  rw [← hx2] at qr ql
  have lapA := fun x9 x10 x11 x12 => lap_eq (P := P3) (due := frq (FF (T + 1) f)) (near := frq (PP T ((f : Int) - 1))) (off := frq (PP T ((f : Int) + 1))) (x9 := x9) (x10 := x10) (x11 := x11) (x12 := x12) (f := f) (L := .lst []) (.inl rfl) LfOk.nil srtL_nil (by omega) hm5 hT qr
  have lapC := fun x9 x10 x11 x12 => lap_eq (P := P3) (due := frq (FF (T + 1) f)) (near := frq (PP T ((f : Int) - 1))) (off := frq (PP T ((f : Int) + 1))) (x9 := x9) (x10 := x10) (x11 := x11) (x12 := x12) (f := f) (L := .lst [.int b]) (.inl rfl) (LfOk.one (x := b) (by omega)) (srtL_one b) (by omega) hm5 hT ql
  clear qr ql nq zP zF za zb
  generalize frq (-FF (T + 1) f) = F2 at *
  generalize frq (2 * FF (T + 1) f) = F3 at *
  generalize frq (FF (T + 1) f) = F1 at *
  generalize frq (PP T ((f : Int) - 1) - PP T ((f : Int) + 1)) = G3 at *
  generalize frq (PP T ((f : Int) - 1)) = G1 at *
  generalize frq (PP T ((f : Int) + 1)) = G2 at *
  generalize frq (mn [(b + 1, 1)] T x) = M1 at *
  generalize frq (mn [(b - 1, 1)] T x) = M2 at *
  generalize hTT : ((T + 1 : Nat) : Int) = TT at *
  have q0 : r0 [some P, some (.int f), some (.int TT), none, none, none, none, none, none, none, none, none, none] = .nx [some P2, some (.int f), some (.int TT), some (.int x), none, none, none, none, none, none, none, none, none] := by
    have w1 := callW_ok (ks := [some 0, none]) (F := m__law_flow) (ds := [P, .int 60]) (es := [P, .int 60]) (outs := [P1]) (s := [some P, some (.int f), some (.int TT), none, none, none, none, none, none, none, none, none, none]) rfl e1 rfl
    have w2 := callW_ok (ks := [some 0, none]) (F := m__law_pipe) (ds := [P, .lst [.int 0, .int 5, .int (-8), .int z1]]) (es := [P1, .lst [.int 0, .int 5, .int (-8), .int z1]]) (outs := [P2]) (s := [some P1, some (.int f), some (.int TT), none, none, none, none, none, none, none, none, none, none]) rfl e2 rfl
    simp -implicitDefEqProofs [r0, w1, w2, l4]
  have q1 : r1 [some P2, some (.int f), some (.int TT), some (.int x), none, none, none, none, none, none, none, none, none] = .nx [some P2, some (.int f), some (.int TT), some (.int x), some (.int b), none, none, none, none, none, none, none, none] := by
    simp -implicitDefEqProofs [r1, ← hb]
  have q2 : r2 [some P2, some (.int f), some (.int TT), some (.int x), some (.int b), none, none, none, none, none, none, none, none] = .nx [some P2, some (.int f), some (.int TT), some (.int x), some (.int b), some F1, none, none, none, none, none, none, none] := by
    simp -implicitDefEqProofs [r2, fs]
  have q3 : r3 [some P2, some (.int f), some (.int TT), some (.int x), some (.int b), some F1, none, none, none, none, none, none, none] = .nx [some P2, some (.int f), some (.int TT), some (.int x), some (.int b), some F1, some G1, some G2, none, none, none, none, none] := by
    simp -implicitDefEqProofs [r3, parM, setA, hT1, sa, sb]
  have q4 : r4 [some P2, some (.int f), some (.int TT), some (.int x), some (.int b), some F1, some G1, some G2, none, none, none, none, none] = .nx [some P2, some (.int f), some (.int TT), some (.int x), some (.int b), some F1, some G1, some G2, none, none, none, none, none] := by
    simp -implicitDefEqProofs [r4, t2, le, mu, ne1]
  have q5 : r5 [some P2, some (.int f), some (.int TT), some (.int x), some (.int b), some F1, some G1, some G2, none, none, none, none, none] = .nx [some P2, some (.int f), some (.int TT), some (.int x), some (.int b), some F1, some G1, some G2, none, none, none, none, none] := by
    simp -implicitDefEqProofs [r5, t2, l1, hT1, ma, mb, le2, mu2, ne2]
  have q6 : r6 [some P2, some (.int f), some (.int TT), some (.int x), some (.int b), some F1, some G1, some G2, none, none, none, none, none] = .nx [some P3, some (.int f), some (.int TT), some (.int x), some (.int b), some F1, some G1, some G2, some (.int m), none, none, none, none] := by
    have w1 := callW_ok (ks := [some 0, none]) (F := m__law_flow) (ds := [P2, .int 3]) (es := [P2, .int 3]) (outs := [P3]) (s := [some P2, some (.int f), some (.int TT), some (.int x), some (.int b), some F1, some G1, some G2, none, none, none, none, none]) rfl e3 rfl
    simp -implicitDefEqProofs [r6, w1, two_mul, ← hm]
  obtain ⟨s1, y1, a1, a2⟩ := lapA none none none none
  obtain ⟨s2, y2, c1, c2⟩ := lapC (some (.lst [])) (some F1) none y1
  have lp : forL (tgT [tgN 9, tgN 10]) lapB [.tup [.lst [], F1], .tup [.lst [.int b], F2]] [some P3, some (.int f), some (.int TT), some (.int x), some (.int b), some F1, some G1, some G2, some (.int m), none, none, none, none] = .nx [some P3, some (.int f), some (.int TT), some (.int x), some (.int b), some F1, some G1, some G2, some (.int m), some (.lst [.int b]), some F2, none, y2] := by
    rw [forL_cons, a1]; dsimp only
    rw [a2]; dsimp only
    rw [forL_cons, c1]; dsimp only
    rw [c2]; rfl
  have q7 : r7 [some P3, some (.int f), some (.int TT), some (.int x), some (.int b), some F1, some G1, some G2, some (.int m), none, none, none, none] = .nx [some P3, some (.int f), some (.int TT), some (.int x), some (.int b), some F1, some G1, some G2, some (.int m), some (.lst [.int b]), some F2, none, y2] := by
    simp -implicitDefEqProofs [r7, t2, l0, l1, tq, itemsG, lp]
  have q8 : r8 [some P3, some (.int f), some (.int TT), some (.int x), some (.int b), some F1, some G1, some G2, some (.int m), some (.lst [.int b]), some F2, none, y2] = .ret (.bl true) [some P3, some (.int f), some (.int TT), some (.int x), some (.int b), some F1, some G1, some G2, some (.int m), some (.lst [.int b]), some F2, none, y2] := by
    simp [r8]
  refine ⟨P3, runW3 (n := 10) (by rw [chainR]; exact sq q0 (sq q1 (sq q2 (sq q3 (sq q4 (sq q5 (sq q6 (sq q7 q8)))))))), hp3⟩
noncomputable def loopB : S → SO := (seqM (setM 3 (op2 addG (pur (.int 1)) (callQ [some 1, none] m__law_flow (consA (gts 1) (consA (callQ [some 1, none] m__law_pipe (consA (gts 1) (consA (apA lstG (consA (pur (.int 4)) (consA (pur (.int 1)) (consA (pur (.int 12)) (pur []))))) (pur [])))) (pur []))))))
  (seqM (setM 4 (callQ [some 1, none] m__law_pipe (consA (gts 1) (consA (apA lstG (consA (op2 addG (gts 3) (op2 mulI (pur (.int 2)) (callQ [some 1, none] m__law_flow (consA (gts 1) (consA (pur (.int 6)) (pur [])))))) (consA (gts 3) (consA (op2 addG (pur (.int 1)) (callQ [some 1, none] m__law_flow (consA (gts 1) (consA (pur (.int 30)) (pur []))))) (consA (pur (.int 1)) (pur [])))))) (pur [])))))
  (seqM (ifM (notB (tru (callQ [some 1, none, none] m__law_one_right (consA (gts 1) (consA (gts 3) (consA (gts 4) (pur [])))))))
    (retM (pur (.bl false)))
    nxM)
  (seqM (setM 5 (op2 addG (pur (.int 1)) (callQ [some 1, none] m__law_flow (consA (gts 1) (consA (pur (.int 20)) (pur []))))))
  (ifM (tru (op2 neG (callM 2 m_share_of (consA (op1 negG (pur (.int 1))) (consA (op2 subG (gts 5) (pur (.int 1))) (pur [])))) (callM 2 m_share_of (consA (pur (.int 1)) (consA (op2 subG (gts 5) (pur (.int 1))) (pur []))))))
    (retM (pur (.bl false)))
    nxM)))))
noncomputable def s0 : S → SO := (setM 1 (callM 1 m__law_culvert (consA (gts 0) (pur []))))
noncomputable def s1 : S → SO := (forM (rngI rng1G (consA (pur (.int 4)) (pur []))) (tgN 2)
    loopB)
noncomputable def s2 : S → SO := (retM (pur (.bl true)))
theorem chain : g_law = (seqM s0 (seqM s1 s2)) := rfl
theorem PP_sym (t : Nat) : PP t (-1) = PP t 1 := by unfold PP; rw [wk_neg]
theorem loop_eq {n : Nat} {x0 x2 x3 x4 x5 : Option D} {P : D} (hp : Pile n P) (hn : n ≤ 80000) : ∃ P' y3 y4 y5, loopB [x0, some P, x2, x3, x4, x5] = .nx [x0, some P', x2, y3, y4, y5] ∧ Pile (n + 9) P' := by
  obtain ⟨y, P1, e1, hp1, m1⟩ := picks n P [.int 4, .int 1, .int 12] hp (by omega) (by simp) (by simp)
  obtain ⟨a, rfl, ha⟩ : ∃ a : Int, y = .int a ∧ 1 ≤ a ∧ a ≤ 12 := by
    simp only [List.mem_cons, List.not_mem_nil, or_false] at m1
    rcases m1 with rfl | rfl | rfl <;> exact ⟨_, rfl, by decide⟩
  obtain ⟨r1, P2, e2, hp2, h20, h21⟩ := draws (n + 1) P1 a hp1 (by omega) (by omega) (by omega)
  obtain ⟨f, hf⟩ : ∃ f : Nat, 1 + r1 = f := ⟨(1 + r1).toNat, by omega⟩
  obtain ⟨r2, P3, e3, hp3, h30, h31⟩ := draws (n + 2) P2 6 hp2 (by omega) (by decide) (by decide)
  obtain ⟨r3, P4, e4, hp4, h40, h41⟩ := draws (n + 3) P3 30 hp3 (by omega) (by decide) (by decide)
  obtain ⟨y, P5, e5, hp5, m5⟩ := picks (n + 4) P4 [.int (f + 2 * r2), .int f, .int (1 + r3), .int 1] hp4 (by omega) (by simp) (by simp)
  obtain ⟨T, rfl, hT⟩ : ∃ T : Nat, y = .int ((T + 1 : Nat) : Int) ∧ T ≤ 40 := by
    have z : ∀ k : Int, 1 ≤ k → k ≤ 41 → ∃ T : Nat, D.int k = .int ((T + 1 : Nat) : Int) ∧ T ≤ 40 := fun k h1 h2 => ⟨(k - 1).toNat, by congr 1; omega, by omega⟩
    simp only [List.mem_cons, List.not_mem_nil, or_false] at m5
    rcases m5 with rfl | rfl | rfl | rfl
    · exact z _ (by omega) (by omega)
    · exact z _ (by omega) (by omega)
    · exact z _ (by omega) (by omega)
    · exact z _ (by omega) (by omega)
  obtain ⟨P6, e6, hp6⟩ := one_right_eq (f := f) (T := T) hp5 (by omega) (by omega) hT
  obtain ⟨r7, P7, e7, hp7, h70, h71⟩ := draws (n + 8) P6 20 hp6 (by omega) (by decide) (by decide)
  obtain ⟨u, rfl⟩ : ∃ u : Nat, r7 = u := ⟨r7.toNat, by omega⟩
  have hu : (1 + (u : Int)) - 1 = u := by omega
  have sa := share_of_eq (x := -1) (t := u) (by omega) (by omega)
  have sb := share_of_eq (x := 1) (t := u) (by omega) (by omega)
  rw [PP_sym] at sa
  have ne1 : neG [frq (PP u 1), frq (PP u 1)] = some (.bl false) := by rw [neG_frq]; simp
  have l3 : ∀ a b c : D, lstG [a, b, c] = some (.lst [a, b, c]) := fun _ _ _ => rfl
  have l4 : ∀ a b c d : D, lstG [a, b, c, d] = some (.lst [a, b, c, d]) := fun _ _ _ _ => rfl
  generalize hTT : ((T + 1 : Nat) : Int) = TT at *
  generalize frq (PP u 1) = F1 at *
  have w6 : ∀ (d : D) (x2 x3 x4 x5 : Option D), callW [some 1, none, none] m__law_one_right [d, .int f, .int TT] [x0, some P5, x2, x3, x4, x5] = .ok (.bl true) [x0, some P6, x2, x3, x4, x5] := fun d x2 x3 x4 x5 =>
    callW_ok (es := [P5, .int f, .int TT]) (outs := [P6]) rfl e6 rfl
  refine ⟨P7, some (.int f), some (.int TT), some (.int (1 + u)), ?_, hp7⟩
  simp -implicitDefEqProofs [loopB, l3, l4, callW1 e1, callW1 e2, hf, two_mul, callW1 e3, callW1 e4, callW1 e5, w6, callW1 e7, hu, sa, sb, ne1]
theorem law_true (ns : List Int) (_ : ns.length ≤ 63) : m_law [.lst (ns.map .int)] = .ok (.bl true) [] := by
  obtain ⟨s', e0, P, x2, x3, x4, x5, rfl, _⟩ := forL_inv (tf := tgN 2) (b := loopB) (fun k s => ∃ P x2 x3 x4 x5, s = [some (.lst (ns.map .int)), some P, x2, x3, x4, x5] ∧ Pile (9 * k) P)
    (stepsD 0 1 4) 0 [some (.lst (ns.map .int)), some (pileD (ns.take 60) 0 0), none, none, none, none] ⟨_, none, none, none, none, rfl, pile0⟩ (fun j d s hj hs => by
      obtain ⟨P, x2, x3, x4, x5, rfl, hp⟩ := hs
      have hj4 : j < 4 := by
        obtain ⟨_, h⟩ := steps_at hj
        exact h
      obtain ⟨P', y3, y4, y5, e, hp'⟩ := loop_eq (x0 := some (.lst (ns.map .int))) (x2 := some d) (x3 := x3) (x4 := x4) (x5 := x5) hp (by omega)
      exact ⟨_, _, rfl, .inl e, P', some d, y3, y4, y5, rfl, by rw [show 9 * (0 + j + 1) = 9 * (0 + j) + 9 by omega]; exact hp'⟩)
  have r4 : rng1G [.int 4] = some (stepsD 0 1 4) := rng1_ok (n := 4) (by decide)
  have q0 : s0 [some (.lst (ns.map .int)), none, none, none, none, none] = .nx [some (.lst (ns.map .int)), some (pileD (ns.take 60) 0 0), none, none, none, none] := by simp [s0, culvert_eq]
  have q1 : s1 [some (.lst (ns.map .int)), some (pileD (ns.take 60) 0 0), none, none, none, none] = .nx [some (.lst (ns.map .int)), some P, x2, x3, x4, x5] := by simp -implicitDefEqProofs [s1, r4, e0]
  have q2 : s2 [some (.lst (ns.map .int)), some P, x2, x3, x4, x5] = .ret (.bl true) [some (.lst (ns.map .int)), some P, x2, x3, x4, x5] := by simp [s2]
  exact run1 (n := 5) rfl (by rw [chain]; exact sq q0 (sq q1 q2))
end Mk22

set_option Elab.async false
set_option linter.all false
set_option maxRecDepth 100000
open PySem PySem.W PyProof.Rows
set_option maxRecDepth 100000 in
set_option maxHeartbeats 0 in
theorem PySem.Challenge.cw_nodice_k22_whole_one_chip_sent_towards_holds : PySem.Challenge.rw_nodice_k22_whole_one_chip_sent_towards.Holds := by
  w_on; o_law; k_head; (case hw => w_witness2)
  k_fill
  refine Vl.walk_ofG (l := PySem.Challenge.rw_nodice_k22_whole_one_chip_sent_towards) (n := 63) (k := 12) (x := "_law_script") (sp := fun w => Vl.spM (Vl.ctG _) [.st] .st Mk22.m_law) rfl (by decide) rfl ⟨rfl, by decide, by decide⟩ (fun w h Y => PySem.W.kIn_of Y) ?F (fun w _ a ns hl _ hS => Vl.law_sp (Γ := Vl.ctG _) hS (Mk22.law_true ns hl))
  case F =>
    intro w mg fa h KX G hmg
    refine' Mk22.all_mk KX G hmg ?y_Line ?pg_Line ?hd_Line ?po_Line ?sa_Line ?mk_Line ?kc_Line ?na_Line_tick ?na_Line_heaps ?na_Line_lefts ?a0 ?l0 ?c0 ?k0 ?a1 ?l1 ?c1 ?k1 ?a2 ?l2 ?c2 ?k2 ?a3 ?l3 ?c3 ?k3 ?a4 ?l4 ?c4 ?k4 ?a5 ?l5 ?c5 ?k5 ?a6 ?l6 ?c6 ?k6 ?a7 ?l7 ?c7 ?k7 ?a8 ?l8 ?c8 ?k8 ?a9 ?l9 ?c9 ?k9 ?a10 ?l10 ?c10 ?k10 ?a11 ?l11 ?c11 ?k11 ?a12 ?l12 ?c12 ?k12 ?a13 ?l13 ?c13 ?k13 ?a14 ?l14 ?c14 ?k14 ?a15 ?l15 ?c15 ?k15 ?a16 ?l16 ?c16 ?k16 ?a17 ?l17 ?c17 ?k17 ?a18 ?l18 ?c18 ?k18 ?lT18 ?a19 ?l19 ?c19 ?k19 ?a20 ?l20 ?c20 ?k20 ?a21 ?l21 ?c21 ?k21 ?i21 ?a22 ?l22 ?c22 ?k22 ?a23 ?l23 ?c23 ?k23 ?i23 ?a24 ?l24 ?c24 ?k24 ?a25 ?l25 ?c25 ?k25 ?a26 ?l26 ?c26 ?k26 ?a27 ?l27 ?c27 ?k27 ?a28 ?l28 ?c28 ?k28 ?a29 ?l29 ?c29 ?k29 ?a30 ?l30 ?c30 ?k30 ?a31 ?l31 ?c31 ?k31 ?a32 ?l32 ?c32 ?k32 ?a33 ?l33 ?c33 ?k33 ?a34 ?l34 ?c34 ?k34 ?a35 ?l35 ?c35 ?k35 ?a36 ?l36 ?c36 ?k36 ?a37 ?l37 ?c37 ?k37 ?i37 ?a38 ?l38 ?c38 ?k38 ?i38 ?a39 ?l39 ?c39 ?k39 ?a40 ?l40 ?c40 ?k40 ?a41 ?l41 ?c41 ?k41 ?a42 ?l42 ?c42 ?k42 ?z_int ?z_len ?z_abs ?z_isinstance ?z_bool ?z_range ?z_all ?z_tuple ?z_sorted ?z_list ?z_set ?z_sum ?z_dict ?y_gcd ?y_NOUGHT ?u_NOUGHT ?y_MOST_FAR ?y_FARTHEST ?y_MOST_CHIPS ?y_MOST_HEAPS ?y_MOST_LEFTS ?y_MOST_TICKS_means ?y_MOST_TICKS_lines ?y_MOST_GAP_TICKS
    (case y_Line => k_is); (case pg_Line => k_is); (case hd_Line => k_is); (case po_Line => k_is); (case sa_Line => k_is); (case mk_Line => k_is); (case kc_Line => k_is); (case na_Line_tick => k_is); (case na_Line_heaps => k_is); (case na_Line_lefts => k_is); (case a0 => k_is); (case l0 => k_is); (case c0 => k_is); (case k0 => k_is); (case a1 => k_is); (case l1 => k_is); (case c1 => k_is); (case k1 => k_is); (case a2 => k_is); (case l2 => k_is); (case c2 => k_is); (case k2 => k_is); (case a3 => k_is); (case l3 => k_is); (case c3 => k_is); (case k3 => k_is); (case a4 => k_is); (case l4 => k_is); (case c4 => k_is); (case k4 => k_is); (case a5 => k_is); (case l5 => k_is); (case c5 => k_is); (case k5 => k_is); (case a6 => k_is); (case l6 => k_is); (case c6 => k_is); (case k6 => k_is); (case a7 => k_is); (case l7 => k_is); (case c7 => k_is); (case k7 => k_is); (case a8 => k_is); (case l8 => k_is); (case c8 => k_is); (case k8 => k_is); (case a9 => k_is); (case l9 => k_is); (case c9 => k_is); (case k9 => k_is); (case a10 => k_is); (case l10 => k_is); (case c10 => k_is); (case k10 => k_is); (case a11 => k_is); (case l11 => k_is); (case c11 => k_is); (case k11 => k_is); (case a12 => k_is); (case l12 => k_is); (case c12 => k_is); (case k12 => k_is); (case a13 => k_is); (case l13 => k_is); (case c13 => k_is); (case k13 => k_is); (case a14 => k_is); (case l14 => k_is); (case c14 => k_is); (case k14 => k_is); (case a15 => k_is); (case l15 => k_is); (case c15 => k_is); (case k15 => k_is); (case a16 => k_is); (case l16 => k_is); (case c16 => k_is); (case k16 => k_is); (case a17 => k_is); (case l17 => k_is); (case c17 => k_is); (case k17 => k_is); (case a18 => k_is); (case l18 => k_is); (case c18 => k_is); (case k18 => k_is); (case lT18 => k_is); (case a19 => k_is); (case l19 => k_is); (case c19 => k_is); (case k19 => k_is); (case a20 => k_is); (case l20 => k_is); (case c20 => k_is); (case k20 => k_is); (case a21 => k_is); (case l21 => k_is); (case c21 => k_is); (case k21 => k_is); (case i21 => k_is); (case a22 => k_is); (case l22 => k_is); (case c22 => k_is); (case k22 => k_is); (case a23 => k_is); (case l23 => k_is); (case c23 => k_is); (case k23 => k_is); (case i23 => k_is); (case a24 => k_is); (case l24 => k_is); (case c24 => k_is); (case k24 => k_is); (case a25 => k_is); (case l25 => k_is); (case c25 => k_is); (case k25 => k_is); (case a26 => k_is); (case l26 => k_is); (case c26 => k_is); (case k26 => k_is); (case a27 => k_is); (case l27 => k_is); (case c27 => k_is); (case k27 => k_is); (case a28 => k_is); (case l28 => k_is); (case c28 => k_is); (case k28 => k_is); (case a29 => k_is); (case l29 => k_is); (case c29 => k_is); (case k29 => k_is); (case a30 => k_is); (case l30 => k_is); (case c30 => k_is); (case k30 => k_is); (case a31 => k_is); (case l31 => k_is); (case c31 => k_is); (case k31 => k_is); (case a32 => k_is); (case l32 => k_is); (case c32 => k_is); (case k32 => k_is); (case a33 => k_is); (case l33 => k_is); (case c33 => k_is); (case k33 => k_is); (case a34 => k_is); (case l34 => k_is); (case c34 => k_is); (case k34 => k_is); (case a35 => k_is); (case l35 => k_is); (case c35 => k_is); (case k35 => k_is); (case a36 => k_is); (case l36 => k_is); (case c36 => k_is); (case k36 => k_is); (case a37 => k_is); (case l37 => k_is); (case c37 => k_is); (case k37 => k_is); (case i37 => k_is); (case a38 => k_is); (case l38 => k_is); (case c38 => k_is); (case k38 => k_is); (case i38 => k_is); (case a39 => k_is); (case l39 => k_is); (case c39 => k_is); (case k39 => k_is); (case a40 => k_is); (case l40 => k_is); (case c40 => k_is); (case k40 => k_is); (case a41 => k_is); (case l41 => k_is); (case c41 => k_is); (case k41 => k_is); (case a42 => k_is); (case l42 => k_is); (case c42 => k_is); (case k42 => k_is); (case z_int => k_is); (case z_len => k_is); (case z_abs => k_is); (case z_isinstance => k_is); (case z_bool => k_is); (case z_range => k_is); (case z_all => k_is); (case z_tuple => k_is); (case z_sorted => k_is); (case z_list => k_is); (case z_set => k_is); (case z_sum => k_is); (case z_dict => k_is); (case y_gcd => k_is); (case y_NOUGHT => k_is); (case u_NOUGHT => k_is); (case y_MOST_FAR => k_is); (case y_FARTHEST => k_is); (case y_MOST_CHIPS => k_is); (case y_MOST_HEAPS => k_is); (case y_MOST_LEFTS => k_is); (case y_MOST_TICKS_means => k_is); (case y_MOST_TICKS_lines => k_is); (case y_MOST_GAP_TICKS => k_is)

