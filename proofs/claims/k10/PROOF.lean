import PyProof.Rows.All
import Wide.All
import OpenK.AllK
import Wide.FinOn
import PyProof.EqAt
import PyProof.EqKinds
import PyProof.TupleCall
import HandS.ForMost
import HandS.ForExc
import HandS.Wide
import HandS.WideBits
import HandS.IsInst
import HandS.Flow
import HandS.TupAny
import HandS.Style
import HandS.Rev
import HandS.More
import HandS.SetFor
import HandS.SortInts
import HandS.TupMul
import KE.DataMinMax
import HandS.Deep
import HandS.Zip
import HandS.Small
import KE.SortData
import KE.SortKeyHeap
import PyProof.ReprRoads
import PyProof.ReprLen
import HandS.Conv
import HandS.Replace
import HandS.ExcInit
import HandS.ExcField
import HandS.TryMany
import KE.KExcIs
import PySem.Challenge.RW_crestkeys_k10_tops_within

section
set_option Elab.async false
set_option linter.all false
set_option maxRecDepth 100000
set_option maxHeartbeats 4000000
namespace CK
open PySem PySem.Spec PyProof.Rows L2


inductive D where
  | non | bl (b : Bool) | int (i : Int) | str (x : Str) | tup (xs : List D) | ref (i : Nat)
inductive O where
  | lst (xs : List D) | fro (xs : List D) | dK (kvs : List (Key × D)) | dT (kvs : List (List Key × D)) | xd (fs : List (Str × D)) | ins (C : Str) (fs : List (Str × D)) | hid | opq
abbrev Store := List O
abbrev Env' := List (Option D)
structure Exn where
  cls : Str
  dict : Option Nat
inductive R (α : Type) where
  | ok (a : α) (S : Store) | exc (x : Exn) (S : Store) | bad
abbrev M (α : Type) := Store → R α
inductive Fl where
  | nx (r : Env') | rt (d : D) | bk (r : Env') | ct (r : Env') | xc (x : Exn) (r : Env')
def mP {α : Type} (a : α) : M α := fun S => .ok a S
def mBad {α : Type} : M α := fun _ => .bad
def mB {α β : Type} (m : M α) (f : α → M β) : M β := fun S => match m S with
  | .ok a S' => f a S'
  | .exc x S' => .exc x S'
  | .bad => .bad
def O.mut : O → Bool
  | .fro _ => false
  | .opq => false
  | _ => true


mutual
inductive Rp (K : PySem.W.Frag) (μ : List Addr) (H : Hp) : D → V → Prop
  | non : Rp K μ H .non .non
  | bl (b : Bool) : Rp K μ H (.bl b) (.bl b)
  | int (i : Int) : Rp K μ H (.int i) (.int i)
  | str (x : Str) : Rp K μ H (.str x) (.str x)
  | tup {a : Addr} {xs : List V} {ds : List D} : SqT K H a xs → RpL K μ H ds xs → Rp K μ H (.tup ds) (.ref a)
  | ref {i : Nat} {a : Addr} : μ[i]? = some a → Rp K μ H (.ref i) (.ref a)
inductive RpL (K : PySem.W.Frag) (μ : List Addr) (H : Hp) : List D → List V → Prop
  | nil : RpL K μ H [] []
  | cons {d : D} {v : V} {ds : List D} {vs : List V} : Rp K μ H d v → RpL K μ H ds vs → RpL K μ H (d :: ds) (v :: vs)
end
def RpKV {κ : Type} (K : PySem.W.Frag) (μ : List Addr) (H : Hp) (ds : List (κ × D)) (vs : List (κ × V)) : Prop :=
  ds.map (·.1) = vs.map (·.1) ∧ RpL K μ H (ds.map (·.2)) (vs.map (·.2))

def FrL (K : PySem.W.Frag) (H : Hp) (a : Addr) (xs : List V) : Prop := (∃ u, H a = some (.frz u (.lst xs))) ∨
    ∃ (o : Obj) (its : Array Value) (n : Nat), K.lookup a = some o ∧ o.cls = .type "list" ∧ o.dict = none ∧ o.data = .seq its n ∧ its.size ≤ sizeLine ∧ Vals xs its.toList
theorem FrL.sq {K : PySem.W.Frag} {H : Hp} {a : Addr} {xs : List V} (h : FrL K H a xs) : SqL K H a xs := by
  rcases h with ⟨u, h⟩ | h
  · exact .inl (.inr ⟨u, h⟩)
  · exact .inr h
theorem FrL.upd {K : PySem.W.Frag} {H : Hp} {a p : Addr} {xs : List V} {o : HO} (h : FrL K H a xs) (hp : ∀ u v, H p ≠ some (.frz u v)) : FrL K (upd H p o) a xs := by
  rcases h with ⟨u, h⟩ | h
  · refine .inl ⟨u, ?_⟩
    rw [upd_ne (fun e => ?_)]
    · exact h
    · subst e; exact hp _ _ h
  · exact .inr h
structure Ex (K : PySem.W.Frag) (μ : List Addr) (H : Hp) (μ' : List Addr) (H' : Hp) : Prop where
  mu : ∀ (i : Nat) (a : Addr), μ[i]? = some a → μ'[i]? = some a
  tu : ∀ a xs, SqT K H a xs → SqT K H' a xs

structure Gx where
  K : PySem.W.Frag
  mg : Str → Option Value
  J : List Addr → Hp → Prop
  jm : ∀ {μ : List Addr} {H : Hp} {μ' : List Addr} {H' : Hp}, Ex K μ H μ' H' → J μ H → J μ' H'
abbrev gx (K : PySem.W.Frag) (mg : Str → Option Value) : Gx := { K := K, mg := mg, J := fun _ _ => True, jm := fun _ _ => trivial }
def RpO (c : Gx) (μ : List Addr) (H : Hp) : O → Addr → Prop
  | .lst ds, a => ∃ xs, H a = some (.lst xs) ∧ RpL c.K μ H ds xs
  | .fro ds, a => ∃ xs, FrL c.K H a xs ∧ RpL c.K μ H ds xs
  | .dK ds, a => ∃ xs, H a = some (.dK xs) ∧ RpKV c.K μ H ds xs
  | .dT ds, a => ∃ xs, H a = some (.dT xs) ∧ RpKV c.K μ H ds xs
  | .xd ds, a => ∃ xs, H a = some (.xd xs) ∧ RpKV c.K μ H ds xs
  | .ins C ds, a => ∃ A dx xs, c.mg C = some (.ref A) ∧ H a = some (.ins A dx xs) ∧ RpKV c.K μ H ds xs
  | .hid, a => ∃ o, H a = some o ∧ ∀ xs, o ≠ .tup xs
  | .opq, _ => True
structure SOk (c : Gx) (μ : List Addr) (H : Hp) (S : Store) : Prop where
  len : μ.length = S.length
  obj : ∀ (i : Nat) (o : O) (a : Addr), S[i]? = some o → μ[i]? = some a → RpO c μ H o a
  inj : ∀ (i j : Nat) (o u : O) (a : Addr), S[i]? = some o → S[j]? = some u → μ[i]? = some a → μ[j]? = some a → o.mut = true → u.mut = true → i = j
  j : c.J μ H
structure EnvR (K : PySem.W.Frag) (μ : List Addr) (H : Hp) (r : Env') (σ : L2.St) : Prop where
  len : r.length = σ.length
  at_ : ∀ (i : Nat) (d : D), r[i]? = some (some d) → ∃ v, σ[i]? = some (some v) ∧ Rp K μ H d v
structure RpX (c : Gx) (μ : List Addr) (H : Hp) (x : Exn) (cls : Value) (d : Option Addr) : Prop where
  cl : c.mg x.cls = some cls
  di : match x.dict, d with
    | none, none => True
    | some i, some a => μ[i]? = some a
    | _, _ => False

theorem Ex.refl {K : PySem.W.Frag} {μ : List Addr} {H : Hp} : Ex K μ H μ H := ⟨fun _ _ h => h, fun _ _ h => h⟩
theorem Ex.trans {K : PySem.W.Frag} {μ μ1 μ2 : List Addr} {H H1 H2 : Hp} (a : Ex K μ H μ1 H1) (b : Ex K μ1 H1 μ2 H2) : Ex K μ H μ2 H2 :=
  ⟨fun i x h => b.mu i x (a.mu i x h), fun i x h => b.tu i x (a.tu i x h)⟩
mutual
theorem Rp.mono {K : PySem.W.Frag} {μ μ' : List Addr} {H H' : Hp} (e : Ex K μ H μ' H') : ∀ {d : D} {v : V}, Rp K μ H d v → Rp K μ' H' d v
  | _, _, .non => .non
  | _, _, .bl b => .bl b
  | _, _, .int i => .int i
  | _, _, .str x => .str x
  | _, _, .tup s r => .tup (e.tu _ _ s) (RpL.mono e r)
  | _, _, .ref h => .ref (e.mu _ _ h)
theorem RpL.mono {K : PySem.W.Frag} {μ μ' : List Addr} {H H' : Hp} (e : Ex K μ H μ' H') : ∀ {ds : List D} {vs : List V}, RpL K μ H ds vs → RpL K μ' H' ds vs
  | _, _, .nil => .nil
  | _, _, .cons r t => .cons (Rp.mono e r) (RpL.mono e t)
end
theorem EnvR.mono {K : PySem.W.Frag} {μ μ' : List Addr} {H H' : Hp} {r : Env'} {σ : L2.St} (e : Ex K μ H μ' H') (h : EnvR K μ H r σ) : EnvR K μ' H' r σ :=
  ⟨h.len, fun i d q => let ⟨v, a, b⟩ := h.at_ i d q; ⟨v, a, b.mono e⟩⟩
theorem EnvR.set {K : PySem.W.Frag} {μ : List Addr} {H : Hp} {r : Env'} {σ : L2.St} {d : D} {v : V} (h : EnvR K μ H r σ) (i : Nat) (q : Rp K μ H d v) : EnvR K μ H (r.set i (some d)) (σ.set i (some v)) := by
  refine ⟨by simp [h.len], fun j e he => ?_⟩
  by_cases hj : i = j
  · subst hj
    have hl : i < r.length := by
      have := (List.getElem?_eq_some_iff.mp he).1
      simpa using this
    rw [List.getElem?_set_self hl] at he
    cases he
    exact ⟨v, by rw [List.getElem?_set_self (by rw [← h.len]; exact hl)], q⟩
  · rw [List.getElem?_set_ne hj] at he
    rw [List.getElem?_set_ne hj]
    exact h.at_ j e he
theorem RpL.length {K : PySem.W.Frag} {μ : List Addr} {H : Hp} : ∀ {ds : List D} {vs : List V}, RpL K μ H ds vs → ds.length = vs.length
  | _, _, .nil => rfl
  | _, _, .cons _ t => by simp [RpL.length t]
theorem RpL.get {K : PySem.W.Frag} {μ : List Addr} {H : Hp} : ∀ {ds : List D} {vs : List V} {i : Nat} {d : D}, RpL K μ H ds vs → ds[i]? = some d → ∃ v, vs[i]? = some v ∧ Rp K μ H d v
  | _, _, _, _, .nil, e => by simp at e
  | _, _, 0, _, .cons r _, e => by simp at e; subst e; exact ⟨_, rfl, r⟩
  | _, _, i + 1, d, .cons _ t, e => by
    obtain ⟨u, h1, h2⟩ := RpL.get (i := i) (d := d) t (by simpa using e)
    exact ⟨u, by simpa using h1, h2⟩
theorem RpL.get' {K : PySem.W.Frag} {μ : List Addr} {H : Hp} : ∀ {ds : List D} {vs : List V} {i : Nat} {v : V}, RpL K μ H ds vs → vs[i]? = some v → ∃ d, ds[i]? = some d ∧ Rp K μ H d v
  | _, _, _, _, .nil, e => by simp at e
  | _, _, 0, _, .cons r _, e => by simp at e; subst e; exact ⟨_, rfl, r⟩
  | _, _, i + 1, d, .cons _ t, e => by
    obtain ⟨u, h1, h2⟩ := RpL.get' (i := i) (v := d) t (by simpa using e)
    exact ⟨u, by simpa using h1, h2⟩
theorem RpL.append {K : PySem.W.Frag} {μ : List Addr} {H : Hp} : ∀ {ds es : List D} {vs us : List V}, RpL K μ H ds vs → RpL K μ H es us → RpL K μ H (ds ++ es) (vs ++ us)
  | _, _, _, _, .nil, s => s
  | _, _, _, _, .cons r t, s => .cons r (RpL.append t s)
theorem RpL.take {K : PySem.W.Frag} {μ : List Addr} {H : Hp} : ∀ {ds : List D} {vs : List V} (n : Nat), RpL K μ H ds vs → RpL K μ H (ds.take n) (vs.take n)
  | _, _, 0, _ => .nil
  | _, _, _ + 1, .nil => .nil
  | _, _, n + 1, .cons r t => .cons r (RpL.take n t)
theorem RpL.drop {K : PySem.W.Frag} {μ : List Addr} {H : Hp} : ∀ {ds : List D} {vs : List V} (n : Nat), RpL K μ H ds vs → RpL K μ H (ds.drop n) (vs.drop n)
  | _, _, 0, r => r
  | _, _, _ + 1, .nil => .nil
  | _, _, n + 1, .cons _ t => RpL.drop n t
theorem RpL.reverse {K : PySem.W.Frag} {μ : List Addr} {H : Hp} : ∀ {ds : List D} {vs : List V}, RpL K μ H ds vs → RpL K μ H ds.reverse vs.reverse
  | _, _, .nil => .nil
  | _, _, .cons r t => by
    rw [List.reverse_cons, List.reverse_cons]
    exact (RpL.reverse t).append (.cons r .nil)
theorem RpL.set {K : PySem.W.Frag} {μ : List Addr} {H : Hp} {d : D} {v : V} (r : Rp K μ H d v) : ∀ {ds : List D} {vs : List V} (i : Nat), RpL K μ H ds vs → RpL K μ H (ds.set i d) (vs.set i v)
  | _, _, _, .nil => .nil
  | _, _, 0, .cons _ t => .cons r t
  | _, _, i + 1, .cons q t => .cons q (RpL.set r i t)
theorem RpL.eraseIdx {K : PySem.W.Frag} {μ : List Addr} {H : Hp} : ∀ {ds : List D} {vs : List V} (i : Nat), RpL K μ H ds vs → RpL K μ H (ds.eraseIdx i) (vs.eraseIdx i)
  | _, _, _, .nil => .nil
  | _, _, 0, .cons _ t => t
  | _, _, i + 1, .cons q t => .cons q (RpL.eraseIdx i t)
theorem RpL.dropLast {K : PySem.W.Frag} {μ : List Addr} {H : Hp} {ds : List D} {vs : List V} (h : RpL K μ H ds vs) : RpL K μ H ds.dropLast vs.dropLast := by
  rw [List.dropLast_eq_take, List.dropLast_eq_take, h.length]
  exact h.take _
theorem RpL.ints {K : PySem.W.Frag} {μ : List Addr} {H : Hp} : ∀ (ns : List Int), RpL K μ H (ns.map D.int) (ns.map V.int)
  | [] => .nil
  | n :: r => .cons (.int n) (RpL.ints r)

theorem sqT_upd {K : PySem.W.Frag} {H : Hp} {p : Addr} {o : HO} (h : ∀ xs, H p ≠ some (.tup xs)) (h2 : ∀ u xs, H p ≠ some (.frz u (.tup xs))) {a : Addr} {xs : List V} (q : SqT K H a xs) : SqT K (upd H p o) a xs := by
  rcases q with (q | ⟨u, q⟩) | q
  · refine .inl (.inl ?_)
    rw [upd_ne (fun e => ?_)]
    · exact q
    · subst e; exact h _ q
  · refine .inl (.inr ⟨u, ?_⟩)
    rw [upd_ne (fun e => ?_)]
    · exact q
    · subst e; exact h2 _ _ q
  · exact .inr q
theorem sqL_upd {K : PySem.W.Frag} {H : Hp} {p : Addr} {o : HO} (h : ∀ xs, H p ≠ some (.lst xs)) (h2 : ∀ u xs, H p ≠ some (.frz u (.lst xs))) {a : Addr} {xs : List V} (q : SqL K H a xs) : SqL K (upd H p o) a xs := by
  rcases q with (q | ⟨u, q⟩) | q
  · refine .inl (.inl ?_)
    rw [upd_ne (fun e => ?_)]
    · exact q
    · subst e; exact h _ q
  · refine .inl (.inr ⟨u, ?_⟩)
    rw [upd_ne (fun e => ?_)]
    · exact q
    · subst e; exact h2 _ _ q
  · exact .inr q


theorem RpO.new {c : Gx} {μ μ' : List Addr} {H : Hp} {p : Addr} {ho : HO} (hp : H p = none) (e : Ex c.K μ H μ' (upd H p ho)) {o : O} {a : Addr} (r : RpO c μ H o a) : RpO c μ' (upd H p ho) o a := by
  cases o with
  | lst ds => obtain ⟨xs, h, q⟩ := r; exact ⟨xs, by rw [upd_ne (ne_of_none h hp)]; exact h, q.mono e⟩
  | fro ds => obtain ⟨xs, h, q⟩ := r; exact ⟨xs, h.upd (fun _ _ z => by rw [hp] at z; cases z), q.mono e⟩
  | dK ds => obtain ⟨xs, h, q⟩ := r; exact ⟨xs, by rw [upd_ne (ne_of_none h hp)]; exact h, q.1, q.2.mono e⟩
  | dT ds => obtain ⟨xs, h, q⟩ := r; exact ⟨xs, by rw [upd_ne (ne_of_none h hp)]; exact h, q.1, q.2.mono e⟩
  | xd ds => obtain ⟨xs, h, q⟩ := r; exact ⟨xs, by rw [upd_ne (ne_of_none h hp)]; exact h, q.1, q.2.mono e⟩
  | ins C ds => obtain ⟨A, dx, xs, g, h, q⟩ := r; exact ⟨A, dx, xs, g, by rw [upd_ne (ne_of_none h hp)]; exact h, q.1, q.2.mono e⟩
  | hid => obtain ⟨o, h, q⟩ := r; exact ⟨o, by rw [upd_ne (ne_of_none h hp)]; exact h, q⟩
  | opq => trivial
end CK
end

section
set_option Elab.async false
set_option linter.all false
set_option maxRecDepth 100000
set_option maxHeartbeats 4000000
namespace CK
open PySem PySem.Spec PyProof.Rows L2


def Post {α : Type} (c : Gx) (W : WX) (σ : L2.St) (μ : List Addr) (H : Hp) (Z : α → List Addr → Hp → Prop) : R α → Prop
  | .ok a S' => ∀ μ' H', Ex c.K μ H μ' H' → SOk c μ' H' S' → Z a μ' H'
  | .exc x S' => ∀ μ' H' cls dd, Ex c.K μ H μ' H' → SOk c μ' H' S' → RpX c μ' H' x cls dd → W cls dd σ H'
  | .bad => False
def ZE (c : Gx) (Q : VK) : D → List Addr → Hp → Prop := fun d μ' H' => ∀ v, Rp c.K μ' H' d v → Q v H'
def ZT (Q : Bool → Hp → Prop) : Bool → List Addr → Hp → Prop := fun b _ H' => Q b H'
def ZA (c : Gx) (Q : List V → Hp → Prop) : List D → List Addr → Hp → Prop := fun ds μ' H' => ∀ vs, RpL c.K μ' H' ds vs → Q vs H'
def FlP (c : Gx) (W : WX) (Dn : Ends) (μ' : List Addr) (H' : Hp) : Fl → Prop
  | .nx r => ∀ σ', EnvR c.K μ' H' r σ' → Dn.nx σ' H'
  | .rt d => ∀ v, Rp c.K μ' H' d v → Dn.rt v H'
  | .bk r => ∀ σ', EnvR c.K μ' H' r σ' → Dn.bk σ' H'
  | .ct r => ∀ σ', EnvR c.K μ' H' r σ' → Dn.ct σ' H'
  | .xc x r => ∀ σ' cls dd, EnvR c.K μ' H' r σ' → RpX c μ' H' x cls dd → W cls dd σ' H'
def PostS (c : Gx) (W : WX) (μ : List Addr) (H : Hp) (Dn : Ends) : R Fl → Prop
  | .ok f S' => ∀ μ' H', Ex c.K μ H μ' H' → SOk c μ' H' S' → FlP c W Dn μ' H' f
  | .exc _ _ => False
  | .bad => False
def SemE (c : Gx) (W : WX) (t : TE) (m : Env' → M D) : Prop := ∀ σ H μ r S Q, SOk c μ H S → EnvR c.K μ H r σ → Post c W σ μ H (ZE c Q) (m r S) → t σ H Q
def SemT (c : Gx) (W : WX) (t : TT) (m : Env' → M Bool) : Prop := ∀ σ H μ r S Q, SOk c μ H S → EnvR c.K μ H r σ → Post c W σ μ H (ZT Q) (m r S) → t σ H Q
def SemA (c : Gx) (W : WX) (t : TA) (m : Env' → M (List D)) : Prop := ∀ σ H μ r S Q, SOk c μ H S → EnvR c.K μ H r σ → Post c W σ μ H (ZA c Q) (m r S) → t σ H Q
def SemS (c : Gx) (W : WX) (t : TS) (m : Env' → M Fl) : Prop := ∀ σ H μ r S Dn, SOk c μ H S → EnvR c.K μ H r σ → PostS c W μ H Dn (m r S) → t Dn σ H

def Sem2 (c : Gx) (W : WX) (t : R2) (f : D → D → M D) : Prop := ∀ σ H μ S x y d e Q, SOk c μ H S → Rp c.K μ H d x → Rp c.K μ H e y → Post c W σ μ H (ZE c Q) (f d e S) → t x y H Q
def Sem1 (c : Gx) (W : WX) (t : V → Hp → VK → Prop) (f : D → M D) : Prop := ∀ σ H μ S x d Q, SOk c μ H S → Rp c.K μ H d x → Post c W σ μ H (ZE c Q) (f d S) → t x H Q
def SemC (c : Gx) (W : WX) (t : List V → Hp → VK → Prop) (f : List D → M D) : Prop := ∀ σ H μ S xs ds Q, SOk c μ H S → RpL c.K μ H ds xs → Post c W σ μ H (ZE c Q) (f ds S) → t xs H Q
def SemM (c : Gx) (W : WX) (t : V → List V → Hp → VK → Prop) (f : D → List D → M D) : Prop := ∀ σ H μ S x d xs ds Q, SOk c μ H S → Rp c.K μ H d x → RpL c.K μ H ds xs → Post c W σ μ H (ZE c Q) (f d ds S) → t x xs H Q

section
variable {c : Gx} {W : WX} {σ : L2.St} {μ μ' : List Addr} {H H' : Hp} {α β : Type}
theorem Post.mono {Z : α → List Addr → Hp → Prop} (e : Ex c.K μ H μ' H') : ∀ {x : R α}, Post c W σ μ H Z x → Post c W σ μ' H' Z x
  | .ok _ _, h => fun _ _ e' s => h _ _ (e.trans e') s
  | .exc _ _, h => fun _ _ _ _ e' s x => h _ _ _ _ (e.trans e') s x
  | .bad, h => h
theorem PostS.mono {Dn : Ends} (e : Ex c.K μ H μ' H') : ∀ {x : R Fl}, PostS c W μ H Dn x → PostS c W μ' H' Dn x
  | .ok _ _, h => fun _ _ e' s => h _ _ (e.trans e') s
  | .exc _ _, h => h
  | .bad, h => h
theorem Post.bind {m : M α} {k : α → M β} {S : Store} {Z : β → List Addr → Hp → Prop} (h : Post c W σ μ H Z (mB m k S)) :
    Post c W σ μ H (fun a μ1 H1 => ∃ S1, SOk c μ1 H1 S1 ∧ Ex c.K μ H μ1 H1 ∧ Post c W σ μ1 H1 Z (k a S1)) (m S) := by
  unfold mB at h
  cases e : m S with
  | ok a S1 =>
    rw [e] at h
    exact fun μ1 H1 ex ok => ⟨S1, ok, ex, Post.mono ex h⟩
  | exc x S1 => rw [e] at h; exact h
  | bad => rw [e] at h; exact h
theorem Post.imp {Z Z' : α → List Addr → Hp → Prop} : ∀ {x : R α}, Post c W σ μ H Z x → (∀ a μ' H', Z a μ' H' → Z' a μ' H') → Post c W σ μ H Z' x
  | .ok _ _, h, f => fun _ _ e' s => f _ _ _ (h _ _ e' s)
  | .exc _ _, h, _ => h
  | .bad, h, _ => h
end
section
variable {c : Gx} {W : WX} {σ : L2.St} {μ : List Addr} {H : Hp} {r : Env'} {S : Store} {β : Type} {Z : β → List Addr → Hp → Prop}
theorem SemE.go {t : TE} {m : Env' → M D} {k : D → M β} {Q : VK} (h : SemE c W t m) (s : SOk c μ H S) (e : EnvR c.K μ H r σ) (p : Post c W σ μ H Z (mB (m r) k S))
    (q : ∀ d S1 μ1 H1 v, Ex c.K μ H μ1 H1 → SOk c μ1 H1 S1 → EnvR c.K μ1 H1 r σ → Rp c.K μ1 H1 d v → Post c W σ μ1 H1 Z (k d S1) → Q v H1) : t σ H Q :=
  h σ H μ r S Q s e ((Post.bind p).imp fun d _ _ ⟨S1, ok, ex, p1⟩ v rv => q d S1 _ _ v ex ok (e.mono ex) rv p1)
theorem SemT.go {t : TT} {m : Env' → M Bool} {k : Bool → M β} {Q : Bool → Hp → Prop} (h : SemT c W t m) (s : SOk c μ H S) (e : EnvR c.K μ H r σ) (p : Post c W σ μ H Z (mB (m r) k S))
    (q : ∀ d S1 μ1 H1, Ex c.K μ H μ1 H1 → SOk c μ1 H1 S1 → EnvR c.K μ1 H1 r σ → Post c W σ μ1 H1 Z (k d S1) → Q d H1) : t σ H Q :=
  h σ H μ r S Q s e ((Post.bind p).imp fun d _ _ ⟨S1, ok, ex, p1⟩ => q d S1 _ _ ex ok (e.mono ex) p1)
theorem SemA.go {t : TA} {m : Env' → M (List D)} {k : List D → M β} {Q : List V → Hp → Prop} (h : SemA c W t m) (s : SOk c μ H S) (e : EnvR c.K μ H r σ) (p : Post c W σ μ H Z (mB (m r) k S))
    (q : ∀ d S1 μ1 H1 v, Ex c.K μ H μ1 H1 → SOk c μ1 H1 S1 → EnvR c.K μ1 H1 r σ → RpL c.K μ1 H1 d v → Post c W σ μ1 H1 Z (k d S1) → Q v H1) : t σ H Q :=
  h σ H μ r S Q s e ((Post.bind p).imp fun d _ _ ⟨S1, ok, ex, p1⟩ v rv => q d S1 _ _ v ex ok (e.mono ex) rv p1)

theorem Post.fin {d : D} {v : V} {Q : VK} (s : SOk c μ H S) (p : Post c W σ μ H (ZE c Q) (.ok d S)) (r : Rp c.K μ H d v) : Q v H := p μ H .refl s v r
theorem Post.finT {b : Bool} {Q : Bool → Hp → Prop} (s : SOk c μ H S) (p : Post c W σ μ H (ZT Q) (.ok b S)) : Q b H := p μ H .refl s
theorem Post.finA {d : List D} {v : List V} {Q : List V → Hp → Prop} (s : SOk c μ H S) (p : Post c W σ μ H (ZA c Q) (.ok d S)) (r : RpL c.K μ H d v) : Q v H := p μ H .refl s v r
end


def mVar (i : Nat) : Env' → M D := fun r S => match r[i]? with
  | some (some d) => .ok d S
  | _ => .bad
def mC (d : D) : Env' → M D := fun _ S => .ok d S
def m2 (f : D → D → M D) (a b : Env' → M D) : Env' → M D := fun r => mB (a r) fun x => mB (b r) fun y => f x y
def m1 (f : D → M D) (a : Env' → M D) : Env' → M D := fun r => mB (a r) f
def mNil : Env' → M (List D) := fun _ S => .ok [] S
def mCons (a : Env' → M D) (b : Env' → M (List D)) : Env' → M (List D) := fun r => mB (a r) fun x => mB (b r) fun xs => mP (x :: xs)
def mArgs (f : List D → M D) (a : Env' → M (List D)) : Env' → M D := fun r => mB (a r) f
def mMeth (f : D → List D → M D) (o : Env' → M D) (a : Env' → M (List D)) : Env' → M D := fun r => mB (o r) fun x => mB (a r) fun xs => f x xs
section
variable {c : Gx} {W : WX}
theorem sem_var (i : Nat) : SemE c W (tVar i) (mVar i) := by
  intro σ H μ r S Q s e p
  unfold mVar at p
  split at p
  · rename_i d hd
    obtain ⟨v, h1, h2⟩ := e.at_ i d hd
    exact ⟨v, h1, p.fin s h2⟩
  · exact p.elim
theorem sem_c {d : D} {v : V} (h : ∀ μ H, Rp c.K μ H d v) : SemE c W (tC v) (mC d) := fun _ _ _ _ _ _ s _ p => p.fin s (h _ _)
theorem sem_int {i : Int} : SemE c W (tC (.int i)) (mC (.int i)) := sem_c fun _ _ => .int i
theorem sem_bl {b : Bool} : SemE c W (tC (.bl b)) (mC (.bl b)) := sem_c fun _ _ => .bl b
theorem sem_str {x : Str} : SemE c W (tC (.str x)) (mC (.str x)) := sem_c fun _ _ => .str x
theorem sem_non : SemE c W (tC .non) (mC .non) := sem_c fun _ _ => .non
theorem sem_op {t : R2} {f : D → D → M D} {ta tb : TE} {ma mb : Env' → M D} (h : Sem2 c W t f) (ha : SemE c W ta ma) (hb : SemE c W tb mb) : SemE c W (tOp t ta tb) (m2 f ma mb) :=
  fun σ H μ r S Q s e p => ha.go s e p fun d S1 μ1 H1 v ex s1 e1 rv p1 => hb.go s1 e1 p1 fun d2 S2 μ2 H2 v2 ex2 s2 e2 rv2 p2 => h σ H2 μ2 S2 v v2 d d2 Q s2 (rv.mono ex2) rv2 p2
theorem sem_un {t : V → Hp → VK → Prop} {f : D → M D} {ta : TE} {ma : Env' → M D} (h : Sem1 c W t f) (ha : SemE c W ta ma) : SemE c W (tUn t ta) (m1 f ma) :=
  fun σ H μ r S Q s e p => ha.go s e p fun d S1 μ1 H1 v ex s1 e1 rv p1 => h σ H1 μ1 S1 v d Q s1 rv p1
theorem sem_nil : SemA c W tNil mNil := fun _ _ _ _ _ _ s _ p => p.finA s .nil
theorem sem_cons {ta : TE} {tb : TA} {ma : Env' → M D} {mb : Env' → M (List D)} (ha : SemE c W ta ma) (hb : SemA c W tb mb) : SemA c W (tCons ta tb) (mCons ma mb) :=
  fun σ H μ r S Q s e p => ha.go s e p fun d S1 μ1 H1 v ex s1 e1 rv p1 => hb.go s1 e1 p1 fun d2 S2 μ2 H2 v2 ex2 s2 e2 rv2 p2 => p2.finA s2 (.cons (rv.mono ex2) rv2)
theorem sem_cb {t : List V → Hp → VK → Prop} {f : List D → M D} {ta : TA} {ma : Env' → M (List D)} (h : SemC c W t f) (ha : SemA c W ta ma) : SemE c W (tCB t ta) (mArgs f ma) :=
  fun σ H μ r S Q s e p => ha.go s e p fun d S1 μ1 H1 v ex s1 e1 rv p1 => h σ H1 μ1 S1 v d Q s1 rv p1
end


def D.asInt (d : D) : Option Int := match d with | .int i => some i | _ => none
def D.asBl (d : D) : Option Bool := match d with | .bl i => some i | _ => none
def D.asTup (d : D) : Option (List D) := match d with | .tup i => some i | _ => none
def D.asRef (d : D) : Option Nat := match d with | .ref i => some i | _ => none
def D.asStr (d : D) : Option Str := match d with | .str i => some i | _ => none
section
variable {K : PySem.W.Frag} {μ : List Addr} {H : Hp} {d : D} {v : V}
theorem Rp.asInt {i : Int} (r : Rp K μ H d v) (h : d.asInt = some i) : d = .int i ∧ v = .int i := by
  cases r <;> simp only [D.asInt, reduceCtorEq, Option.some.injEq] at h <;> subst h <;> exact ⟨rfl, rfl⟩
theorem Rp.asBl {i : Bool} (r : Rp K μ H d v) (h : d.asBl = some i) : d = .bl i ∧ v = .bl i := by
  cases r <;> simp only [D.asBl, reduceCtorEq, Option.some.injEq] at h <;> subst h <;> exact ⟨rfl, rfl⟩
theorem Rp.asStr {i : Str} (r : Rp K μ H d v) (h : d.asStr = some i) : d = .str i ∧ v = .str i := by
  cases r <;> simp only [D.asStr, reduceCtorEq, Option.some.injEq] at h <;> subst h <;> exact ⟨rfl, rfl⟩
theorem Rp.asTup {ds : List D} (r : Rp K μ H d v) (h : d.asTup = some ds) : d = .tup ds ∧ ∃ a xs, v = .ref a ∧ SqT K H a xs ∧ RpL K μ H ds xs := by
  cases r <;> simp only [D.asTup, reduceCtorEq, Option.some.injEq] at h
  rename_i s q
  subst h
  exact ⟨rfl, _, _, rfl, s, q⟩
theorem Rp.asRef {i : Nat} (r : Rp K μ H d v) (h : d.asRef = some i) : d = .ref i ∧ ∃ a, v = .ref a ∧ μ[i]? = some a := by
  cases r <;> simp only [D.asRef, reduceCtorEq, Option.some.injEq] at h
  subst h
  exact ⟨rfl, _, rfl, by assumption⟩
end


def iOp (C : Int → Int → Prop) [∀ i j, Decidable (C i j)] (g : Int → Int → D) (d e : D) : M D := fun S => match d.asInt, e.asInt with
  | some i, some j => if C i j then .ok (g i j) S else .bad
  | _, _ => .bad
def iOp0 (g : Int → Int → D) (d e : D) : M D := fun S => match d.asInt, e.asInt with
  | some i, some j => .ok (g i j) S
  | _, _ => .bad
section
variable {c : Gx} {W : WX}
theorem sem_rI {C : Int → Int → Prop} [∀ i j, Decidable (C i j)] {g : Int → Int → V} {g' : Int → Int → D} (h : ∀ i j μ H, Rp c.K μ H (g' i j) (g i j)) : Sem2 c W (rI C g) (iOp C g') := by
  intro σ H μ S x y d e Q s rx ry p
  simp only [iOp] at p
  split at p
  · rename_i i j hi hj
    obtain ⟨rfl, rfl⟩ := rx.asInt hi
    obtain ⟨rfl, rfl⟩ := ry.asInt hj
    split at p
    · rename_i hc; exact ⟨i, j, rfl, rfl, hc, p.fin s (h i j _ _)⟩
    · exact p.elim
  · exact p.elim
theorem sem_rI0 {g : Int → Int → V} {g' : Int → Int → D} (h : ∀ i j μ H, Rp c.K μ H (g' i j) (g i j)) : Sem2 c W (rI0 g) (iOp0 g') := by
  intro σ H μ S x y d e Q s rx ry p
  simp only [iOp0] at p
  split at p
  · rename_i i j hi hj
    obtain ⟨rfl, rfl⟩ := rx.asInt hi
    obtain ⟨rfl, rfl⟩ := ry.asInt hj
    exact ⟨i, j, rfl, rfl, p.fin s (h i j _ _)⟩
  · exact p.elim
end


section
variable {c : Gx} {W : WX} {σ : L2.St} {μ : List Addr} {H : Hp} {S : Store}
theorem get_snoc {α : Type} {l : List α} {x y : α} {i : Nat} (h : (l ++ [x])[i]? = some y) : l[i]? = some y ∨ (i = l.length ∧ y = x) := by
  by_cases hi : i < l.length
  · rw [List.getElem?_append_left hi] at h; exact .inl h
  · have h2 := (List.getElem?_eq_some_iff.mp h).1
    simp at h2
    have : i = l.length := by omega
    subst this
    simp at h
    exact .inr ⟨rfl, h.symm⟩
theorem Ex.new {p : Addr} {ho : HO} (hp : H p = none) : Ex c.K μ H (μ ++ [p]) (upd H p ho) :=
  ⟨fun i a h => by rw [List.getElem?_append_left (List.getElem?_eq_some_iff.mp h).1]; exact h,
   fun a xs q => sqT_upd (fun _ z => by rw [hp] at z; cases z) (fun _ _ z => by rw [hp] at z; cases z) q⟩
theorem Ex.tup {p : Addr} {ho : HO} (hp : H p = none) : Ex c.K μ H μ (upd H p ho) :=
  ⟨fun i a h => h, fun a xs q => sqT_upd (fun _ z => by rw [hp] at z; cases z) (fun _ _ z => by rw [hp] at z; cases z) q⟩

theorem SOk.tup {p : Addr} {ho : HO} (s : SOk c μ H S) (hp : H p = none) : SOk c μ (upd H p ho) S :=
  ⟨s.len, fun i o a h1 h2 => (s.obj i o a h1 h2).new hp (Ex.tup hp), s.inj, c.jm (Ex.tup hp) s.j⟩
theorem RpO.there {o : O} {a : Addr} (r : RpO c μ H o a) (m : o.mut = true) : ∃ ho, H a = some ho ∧ (∀ xs, ho ≠ .tup xs) := by
  cases o with
  | lst ds => obtain ⟨xs, h, _⟩ := r; exact ⟨_, h, fun _ z => by cases z⟩
  | fro ds => cases m
  | dK ds => obtain ⟨xs, h, _⟩ := r; exact ⟨_, h, fun _ z => by cases z⟩
  | dT ds => obtain ⟨xs, h, _⟩ := r; exact ⟨_, h, fun _ z => by cases z⟩
  | xd ds => obtain ⟨xs, h, _⟩ := r; exact ⟨_, h, fun _ z => by cases z⟩
  | ins C ds => obtain ⟨A, dx, xs, _, h, _⟩ := r; exact ⟨_, h, fun _ z => by cases z⟩
  | hid => exact r
  | opq => cases m
theorem SOk.new {p : Addr} {ho : HO} {o : O} (s : SOk c μ H S) (hp : H p = none) (r : RpO c (μ ++ [p]) (upd H p ho) o p) : SOk c (μ ++ [p]) (upd H p ho) (S ++ [o]) := by
  have key : ∀ (i : Nat) (u : O) (a : Addr), (S ++ [o])[i]? = some u → (μ ++ [p])[i]? = some a → (S[i]? = some u ∧ μ[i]? = some a) ∨ (i = S.length ∧ u = o ∧ a = p) := fun i u a h1 h2 => by
    rcases get_snoc h1 with h1 | ⟨e1, e1'⟩
    · rcases get_snoc h2 with h2 | ⟨e2, _⟩
      · exact .inl ⟨h1, h2⟩
      · exact absurd (List.getElem?_eq_some_iff.mp h1).1 (by rw [e2, s.len]; exact Nat.lt_irrefl _)
    · rcases get_snoc h2 with h2 | ⟨e2, e2'⟩
      · exact absurd (List.getElem?_eq_some_iff.mp h2).1 (by rw [e1, s.len]; exact Nat.lt_irrefl _)
      · exact .inr ⟨e1, e1', e2'⟩
  refine ⟨by simp [s.len], fun i u a h1 h2 => ?_, fun i j u w a h1 h2 h3 h4 m1 m2 => ?_, c.jm (Ex.new hp) s.j⟩
  · rcases key i u a h1 h2 with ⟨h1, h2⟩ | ⟨_, e1, e2⟩
    · exact (s.obj i u a h1 h2).new hp (Ex.new hp)
    · rw [e1, e2]; exact r
  · rcases key i u a h1 h3 with ⟨h1, h3⟩ | ⟨e0, e1, e2⟩
    · rcases key j w a h2 h4 with ⟨h2, h4⟩ | ⟨f0, f1, f2⟩
      · exact s.inj i j u w a h1 h2 h3 h4 m1 m2
      · obtain ⟨_, h, _⟩ := (s.obj i u a h1 h3).there m1
        rw [f2, hp] at h; cases h
    · rcases key j w a h2 h4 with ⟨h2, h4⟩ | ⟨f0, f1, f2⟩
      · obtain ⟨_, h, _⟩ := (s.obj j w a h2 h4).there m2
        rw [e2, hp] at h; cases h
      · rw [e0, f0]
theorem Ex.put {a : Addr} {ho ho' : HO} (hp : H a = some ho) (h1 : ∀ xs, ho ≠ .tup xs) (h2 : ∀ u v, ho ≠ .frz u v) : Ex c.K μ H μ (upd H a ho') :=
  ⟨fun _ _ h => h, fun b xs q => sqT_upd (fun _ z => by rw [hp] at z; cases z; exact h1 _ rfl) (fun _ _ z => by rw [hp] at z; cases z; exact h2 _ _ rfl) q⟩
theorem RpO.put {a b : Addr} {ho ho' : HO} (hp : H a = some ho) (h1 : ∀ xs, ho ≠ .tup xs) (h2 : ∀ u v, ho ≠ .frz u v) {o : O} (r : RpO c μ H o b) (ne : o.mut = true → b ≠ a) : RpO c μ (upd H a ho') o b := by
  have e : Ex c.K μ H μ (upd H a ho') := Ex.put hp h1 h2
  cases o with
  | lst ds => obtain ⟨xs, h, q⟩ := r; exact ⟨xs, by rw [upd_ne (ne rfl)]; exact h, q.mono e⟩
  | fro ds => obtain ⟨xs, h, q⟩ := r; exact ⟨xs, h.upd (fun _ _ z => by rw [hp] at z; cases z; exact h2 _ _ rfl), q.mono e⟩
  | dK ds => obtain ⟨xs, h, q⟩ := r; exact ⟨xs, by rw [upd_ne (ne rfl)]; exact h, q.1, q.2.mono e⟩
  | dT ds => obtain ⟨xs, h, q⟩ := r; exact ⟨xs, by rw [upd_ne (ne rfl)]; exact h, q.1, q.2.mono e⟩
  | xd ds => obtain ⟨xs, h, q⟩ := r; exact ⟨xs, by rw [upd_ne (ne rfl)]; exact h, q.1, q.2.mono e⟩
  | ins C ds => obtain ⟨A, dx, xs, g, h, q⟩ := r; exact ⟨A, dx, xs, g, by rw [upd_ne (ne rfl)]; exact h, q.1, q.2.mono e⟩
  | hid => obtain ⟨o, h, q⟩ := r; exact ⟨o, by rw [upd_ne (ne rfl)]; exact h, q⟩
  | opq => trivial
theorem SOk.put {i : Nat} {o o' : O} {a : Addr} {ho ho' : HO} (s : SOk c μ H S) (hi : S[i]? = some o) (ha : μ[i]? = some a) (hm : o.mut = true) (hp : H a = some ho) (h1 : ∀ xs, ho ≠ .tup xs) (h2 : ∀ u v, ho ≠ .frz u v)
    (r : RpO c μ (upd H a ho') o' a) : SOk c μ (upd H a ho') (S.set i o') := by
  have hl : i < S.length := (List.getElem?_eq_some_iff.mp hi).1
  have old : ∀ (j : Nat) (u : O), (S.set i o')[j]? = some u → (j = i ∧ u = o') ∨ (j ≠ i ∧ S[j]? = some u) := fun j u h => by
    by_cases hj : i = j
    · subst hj; rw [List.getElem?_set_self hl] at h; cases h; exact .inl ⟨rfl, rfl⟩
    · rw [List.getElem?_set_ne hj] at h; exact .inr ⟨fun e => hj e.symm, h⟩
  have far : ∀ (j : Nat) (u : O) (b : Addr), j ≠ i → S[j]? = some u → μ[j]? = some b → u.mut = true → b ≠ a := fun j u b hj h3 h4 m e => by
    subst e; exact hj (s.inj j i u o _ h3 hi h4 ha m hm)
  refine ⟨by simp [s.len], fun j u b h3 h4 => ?_, fun j k u w b h3 h4 h5 h6 m1 m2 => ?_, c.jm (Ex.put hp h1 h2) s.j⟩
  · rcases old j u h3 with ⟨e1, e2⟩ | ⟨hj, h3⟩
    · rw [e1, ha] at h4; cases h4; rw [e2]; exact r
    · exact (s.obj j u b h3 h4).put hp h1 h2 (far j u b hj h3 h4)
  · rcases old j u h3 with ⟨e1, e2⟩ | ⟨hj, h3⟩
    · rcases old k w h4 with ⟨f1, f2⟩ | ⟨hk, h4⟩
      · rw [e1, f1]
      · rw [e1, ha] at h5; cases h5; exact absurd rfl (far k w _ hk h4 h6 m2)
    · rcases old k w h4 with ⟨f1, f2⟩ | ⟨hk, h4⟩
      · rw [f1, ha] at h6; cases h6; exact absurd rfl (far j u _ hj h3 h5 m1)
      · exact s.inj j k u w b h3 h4 h5 h6 m1 m2

theorem Post.finNew {p : Addr} {ho : HO} {o : O} {Q : VK} (s : SOk c μ H S) (q : Post c W σ μ H (ZE c Q) (.ok (.ref S.length) (S ++ [o]))) (hp : H p = none) (r : RpO c (μ ++ [p]) (upd H p ho) o p) : Q (.ref p) (upd H p ho) :=
  q _ _ (Ex.new hp) (s.new hp r) _ (.ref (by rw [← s.len]; simp))
theorem Post.finTup {p : Addr} {ds : List D} {xs : List V} {Q : VK} (s : SOk c μ H S) (q : Post c W σ μ H (ZE c Q) (.ok (.tup ds) S)) (hp : H p = none) (r : RpL c.K μ H ds xs) : Q (.ref p) (upd H p (.tup xs)) :=
  q _ _ (Ex.tup hp) (s.tup hp) _ (.tup (.inl (.inl upd_same)) (r.mono (Ex.tup hp)))
theorem Post.finPut {i : Nat} {o o' : O} {a : Addr} {ho ho' : HO} {d : D} {v : V} {Q : VK} (s : SOk c μ H S) (q : Post c W σ μ H (ZE c Q) (.ok d (S.set i o'))) (hi : S[i]? = some o) (ha : μ[i]? = some a) (hm : o.mut = true) (hp : H a = some ho)
    (h1 : ∀ xs, ho ≠ .tup xs) (h2 : ∀ u v, ho ≠ .frz u v) (r : RpO c μ (upd H a ho') o' a) (rd : Rp c.K μ H d v) : Q v (upd H a ho') :=
  q _ _ (Ex.put hp h1 h2) (s.put hi ha hm hp h1 h2 r) _ (rd.mono (Ex.put hp h1 h2))
theorem SOk.at {i : Nat} {o : O} (s : SOk c μ H S) (h : S[i]? = some o) : ∃ a, μ[i]? = some a ∧ RpO c μ H o a := by
  have hl : i < μ.length := by rw [s.len]; exact (List.getElem?_eq_some_iff.mp h).1
  exact ⟨μ[i], List.getElem?_eq_getElem hl, s.obj i o _ h (List.getElem?_eq_getElem hl)⟩

def lsO : Option O → Option (List D)
  | some (.lst xs) => some xs
  | some (.fro xs) => some xs
  | _ => none
def lsAt (S : Store) (i : Nat) : Option (List D) := lsO S[i]?
theorem SOk.ls {i : Nat} {a : Addr} {ds : List D} (s : SOk c μ H S) (h : lsAt S i = some ds) (ha : μ[i]? = some a) : ∃ xs, SqL c.K H a xs ∧ RpL c.K μ H ds xs := by
  unfold lsAt at h
  cases e : S[i]? with
  | none => rw [e] at h; cases h
  | some o =>
    rw [e] at h
    cases o with
    | lst zs => cases h; obtain ⟨xs, h1, h2⟩ := s.obj _ _ _ e ha; exact ⟨xs, .inl (.inl h1), h2⟩
    | fro zs => cases h; obtain ⟨xs, h1, h2⟩ := s.obj _ _ _ e ha; exact ⟨xs, h1.sq, h2⟩
    | _ => cases h
end
end CK
end

section
set_option Elab.async false
set_option linter.all false
set_option maxRecDepth 100000
set_option maxHeartbeats 4000000
namespace CK
open PySem PySem.Spec PyProof.Rows L2


def mTst (m : Env' → M D) : Env' → M Bool := fun r => mB (m r) fun d => match d.asBl with
  | some b => mP b
  | none => mBad
def mAnd (a b : Env' → M Bool) : Env' → M Bool := fun r => mB (a r) fun x => if x = true then b r else mP false
def mOr (a b : Env' → M Bool) : Env' → M Bool := fun r => mB (a r) fun x => if x = true then mP true else b r
def mNot (a : Env' → M Bool) : Env' → M Bool := fun r => mB (a r) fun x => mP (!x)
def mAndV (a b : Env' → M D) : Env' → M D := fun r => mB (mTst a r) fun x => if x = true then b r else mP (.bl false)
def mOrV (a b : Env' → M D) : Env' → M D := fun r => mB (mTst a r) fun x => if x = true then mP (.bl true) else b r
def mNotV (a : Env' → M D) : Env' → M D := fun r => mB (mTst a r) fun x => mP (.bl (!x))
def mIfE (t : Env' → M Bool) (a b : Env' → M D) : Env' → M D := fun r => mB (t r) fun x => if x = true then a r else b r
section
variable {c : Gx} {W : WX}
theorem SemE.tst {β : Type} {Z : β → List Addr → Hp → Prop} {σ : L2.St} {μ : List Addr} {H : Hp} {r : Env'} {S : Store} {t : TE} {m : Env' → M D} {k : Bool → M β} {Q : VK} (h : SemE c W t m) (s : SOk c μ H S) (e : EnvR c.K μ H r σ) (p : Post c W σ μ H Z (mB (mTst m r) k S))
    (q : ∀ b S1 μ1 H1, Ex c.K μ H μ1 H1 → SOk c μ1 H1 S1 → EnvR c.K μ1 H1 r σ → Post c W σ μ1 H1 Z (k b S1) → Q (.bl b) H1) : t σ H Q := by
  refine h.go (Z := Z) (k := fun d => mB (match d.asBl with | some b => mP b | none => mBad) k) s e ?_ fun d S1 μ1 H1 v ex s1 e1 rv p1 => ?_
  · have : mB (mTst m r) k S = mB (m r) (fun d => mB (match d.asBl with | some b => mP b | none => mBad) k) S := by
      unfold mTst mB
      cases m r S <;> rfl
    rw [← this]; exact p
  · cases hd : d.asBl with
    | none => rw [hd] at p1; exact p1.elim
    | some b =>
      rw [hd] at p1
      obtain ⟨rfl, rfl⟩ := rv.asBl hd
      exact q b S1 μ1 H1 ex s1 e1 p1
theorem sem_tst {t : TE} {m : Env' → M D} (h : SemE c W t m) : SemT c W (fun σ H Q => t σ H fun x H1 => ∃ k, x = .bl k ∧ Q k H1) (mTst m) := by
  intro σ H μ r S Q s e p
  refine h.tst (k := mP) s e ?_ fun b S1 μ1 H1 ex s1 e1 p1 => ⟨b, rfl, p1.finT s1⟩
  have : mB (mTst m r) mP S = mTst m r S := by
    unfold mB
    cases mTst m r S <;> rfl
  rw [this]; exact p
theorem sem_tB {t : TE} {m : Env' → M D} (h : SemE c W t m) : SemT c W (tB t) (mTst m) := sem_tst h
theorem sem_tTest {t : TE} {m : Env' → M D} (h : SemE c W t m) : SemT c W (tTest t) (mTst m) := sem_tst h
theorem sem_and {t u : TT} {a b : Env' → M Bool} (ha : SemT c W t a) (hb : SemT c W u b) : SemT c W (tAnd t u) (mAnd a b) :=
  fun σ H μ r S Q s e p => ha.go s e p fun d S1 μ1 H1 ex s1 e1 p1 => by
    cases d with
    | true => exact hb σ H1 μ1 r S1 Q s1 e1 p1
    | false => exact p1.finT s1
theorem sem_or {t u : TT} {a b : Env' → M Bool} (ha : SemT c W t a) (hb : SemT c W u b) : SemT c W (tOr t u) (mOr a b) :=
  fun σ H μ r S Q s e p => ha.go s e p fun d S1 μ1 H1 ex s1 e1 p1 => by
    cases d with
    | true => exact p1.finT s1
    | false => exact hb σ H1 μ1 r S1 Q s1 e1 p1
theorem sem_not {t : TT} {a : Env' → M Bool} (ha : SemT c W t a) : SemT c W (tNot t) (mNot a) :=
  fun σ H μ r S Q s e p => ha.go s e p fun d S1 μ1 H1 ex s1 e1 p1 => p1.finT s1
theorem sem_andV {t u : TE} {a b : Env' → M D} (ha : SemE c W t a) (hb : SemE c W u b) : SemE c W (tAndV t u) (mAndV a b) :=
  fun σ H μ r S Q s e p => ha.tst s e p fun d S1 μ1 H1 ex s1 e1 p1 => ⟨d, rfl, by
    cases d with
    | true => exact hb σ H1 μ1 r S1 Q s1 e1 p1
    | false => exact p1.fin s1 (.bl false)⟩
theorem sem_orV {t u : TE} {a b : Env' → M D} (ha : SemE c W t a) (hb : SemE c W u b) : SemE c W (tOrV t u) (mOrV a b) :=
  fun σ H μ r S Q s e p => ha.tst s e p fun d S1 μ1 H1 ex s1 e1 p1 => ⟨d, rfl, by
    cases d with
    | true => exact p1.fin s1 (.bl true)
    | false => exact hb σ H1 μ1 r S1 Q s1 e1 p1⟩
theorem sem_notV {t : TE} {a : Env' → M D} (ha : SemE c W t a) : SemE c W (tNotV t) (mNotV a) :=
  fun σ H μ r S Q s e p => ha.tst s e p fun d S1 μ1 H1 ex s1 e1 p1 => ⟨d, rfl, p1.fin s1 (.bl _)⟩
theorem sem_ifE {t : TT} {ta tb : TE} {mt : Env' → M Bool} {a b : Env' → M D} (ht : SemT c W t mt) (ha : SemE c W ta a) (hb : SemE c W tb b) : SemE c W (tIf t ta tb) (mIfE mt a b) :=
  fun σ H μ r S Q s e p => ht.go s e p fun d S1 μ1 H1 ex s1 e1 p1 => by
    cases d with
    | true => exact ha σ H1 μ1 r S1 Q s1 e1 p1
    | false => exact hb σ H1 μ1 r S1 Q s1 e1 p1
end


def stE {α : Type} (m : Env' → M α) (k : α → Env' → M Fl) : Env' → M Fl := fun r S => match m r S with
  | .ok a S' => k a r S'
  | .exc x S' => .ok (.xc x r) S'
  | .bad => .bad
def mNx : Env' → M Fl := fun r S => .ok (.nx r) S
def mSeq (a b : Env' → M Fl) : Env' → M Fl := fun r S => match a r S with
  | .ok f S' => (match f with | .nx r' => b r' S' | .rt d => .ok (.rt d) S' | .bk r' => .ok (.bk r') S' | .ct r' => .ok (.ct r') S' | .xc x r' => .ok (.xc x r') S')
  | .exc _ _ => .bad
  | .bad => .bad
def mBrk : Env' → M Fl := fun r S => .ok (.bk r) S
def mCnt : Env' → M Fl := fun r S => .ok (.ct r) S
def mDrop (m : Env' → M D) : Env' → M Fl := stE m fun _ r S => .ok (.nx r) S
def mRet (m : Env' → M D) : Env' → M Fl := stE m fun d _ S => .ok (.rt d) S
def mRetN : Env' → M Fl := fun _ S => .ok (.rt .non) S
def mIf (t : Env' → M Bool) (a b : Env' → M Fl) : Env' → M Fl := stE t fun x => if x = true then a else b
abbrev TgM := D → Env' → M Env'
def mAsg (m : Env' → M D) (g : TgM) : Env' → M Fl := stE m fun d => stE (g d) fun r' _ S => .ok (.nx r') S
def gNm (i : Nat) : TgM := fun d r S => .ok (r.set i (some d)) S
def mNever : Env' → M Fl := fun _ _ => .bad
section
variable {c : Gx} {W : WX} {σ : L2.St} {μ : List Addr} {H : Hp} {r : Env'} {S : Store} {Dn : Ends}
theorem PostS.bind {α : Type} {m : Env' → M α} {k : α → Env' → M Fl} (e : EnvR c.K μ H r σ) (h : PostS c W μ H Dn (stE m k r S)) :
    Post c W σ μ H (fun a μ1 H1 => ∃ S1, SOk c μ1 H1 S1 ∧ Ex c.K μ H μ1 H1 ∧ PostS c W μ1 H1 Dn (k a r S1)) (m r S) := by
  unfold stE at h
  cases q : m r S with
  | ok a S1 =>
    rw [q] at h
    exact fun μ1 H1 ex ok => ⟨S1, ok, ex, PostS.mono ex h⟩
  | exc x S1 =>
    rw [q] at h
    exact fun μ1 H1 cls dd ex ok rx => h μ1 H1 ex ok σ cls dd (e.mono ex) rx
  | bad => rw [q] at h; exact h
theorem SemE.goS {t : TE} {m : Env' → M D} {k : D → Env' → M Fl} {Q : VK} (h : SemE c W t m) (s : SOk c μ H S) (e : EnvR c.K μ H r σ) (p : PostS c W μ H Dn (stE m k r S))
    (q : ∀ d S1 μ1 H1 v, Ex c.K μ H μ1 H1 → SOk c μ1 H1 S1 → EnvR c.K μ1 H1 r σ → Rp c.K μ1 H1 d v → PostS c W μ1 H1 Dn (k d r S1) → Q v H1) : t σ H Q :=
  h σ H μ r S Q s e ((PostS.bind e p).imp fun d _ _ ⟨S1, ok, ex, p1⟩ v rv => q d S1 _ _ v ex ok (e.mono ex) rv p1)
theorem SemT.goS {t : TT} {m : Env' → M Bool} {k : Bool → Env' → M Fl} {Q : Bool → Hp → Prop} (h : SemT c W t m) (s : SOk c μ H S) (e : EnvR c.K μ H r σ) (p : PostS c W μ H Dn (stE m k r S))
    (q : ∀ d S1 μ1 H1, Ex c.K μ H μ1 H1 → SOk c μ1 H1 S1 → EnvR c.K μ1 H1 r σ → PostS c W μ1 H1 Dn (k d r S1) → Q d H1) : t σ H Q :=
  h σ H μ r S Q s e ((PostS.bind e p).imp fun d _ _ ⟨S1, ok, ex, p1⟩ => q d S1 _ _ ex ok (e.mono ex) p1)
def SemG (c : Gx) (W : WX) (g : TG) (f : TgM) : Prop := ∀ σ H μ r S d v Q, SOk c μ H S → EnvR c.K μ H r σ → Rp c.K μ H d v → Post c W σ μ H (fun r' μ' H' => ∀ σ', EnvR c.K μ' H' r' σ' → Q σ' H') (f d r S) → g v σ H Q
theorem PostS.nx (s : SOk c μ H S) (e : EnvR c.K μ H r σ) (p : PostS c W μ H Dn (.ok (.nx r) S)) : Dn.nx σ H := p μ H .refl s σ e
theorem PostS.rt {d : D} {v : V} (s : SOk c μ H S) (e : Rp c.K μ H d v) (p : PostS c W μ H Dn (.ok (.rt d) S)) : Dn.rt v H := p μ H .refl s v e
theorem PostS.bk (s : SOk c μ H S) (e : EnvR c.K μ H r σ) (p : PostS c W μ H Dn (.ok (.bk r) S)) : Dn.bk σ H := p μ H .refl s σ e
theorem PostS.ct (s : SOk c μ H S) (e : EnvR c.K μ H r σ) (p : PostS c W μ H Dn (.ok (.ct r) S)) : Dn.ct σ H := p μ H .refl s σ e
end
section
variable {c : Gx} {W : WX}
theorem sem_next : SemS c W tNext mNx := fun _ _ _ _ _ _ s e p => p.nx s e
theorem sem_brk : SemS c W tBreak mBrk := fun _ _ _ _ _ _ s e p => p.bk s e
theorem sem_cnt : SemS c W tCont mCnt := fun _ _ _ _ _ _ s e p => p.ct s e
theorem sem_drop {t : TE} {m : Env' → M D} (h : SemE c W t m) : SemS c W (tDrop t) (mDrop m) :=
  fun _ _ _ _ _ _ s e p => h.goS s e p fun d S1 μ1 H1 v ex s1 e1 rv p1 => p1.nx s1 e1
theorem sem_ret {t : TE} {m : Env' → M D} (h : SemE c W t m) : SemS c W (tRet t) (mRet m) :=
  fun _ _ _ _ _ _ s e p => h.goS s e p fun d S1 μ1 H1 v ex s1 e1 rv p1 => p1.rt s1 rv
theorem sem_retN : SemS c W tRetN mRetN := fun _ _ _ _ _ _ s e p => p.rt s .non
theorem sem_if {t : TT} {ta tb : TS} {mt : Env' → M Bool} {a b : Env' → M Fl} (ht : SemT c W t mt) (ha : SemS c W ta a) (hb : SemS c W tb b) : SemS c W (tIfS t ta tb) (mIf mt a b) :=
  fun σ H μ r S Dn s e p => ht.goS s e p fun d S1 μ1 H1 ex s1 e1 p1 => by
    cases d with
    | true => exact ha σ H1 μ1 r S1 Dn s1 e1 p1
    | false => exact hb σ H1 μ1 r S1 Dn s1 e1 p1
theorem sem_never {t : TS} : SemS c W t mNever := fun _ _ _ _ _ _ s e p => p.elim
theorem sem_seq {t u : TS} {a b : Env' → M Fl} (ha : SemS c W t a) (hb : SemS c W u b) : SemS c W (tSeq t u) (mSeq a b) := by
  intro σ H μ r S Dn s e p
  refine ha σ H μ r S _ s e ?_
  unfold mSeq at p
  cases q : a r S with
  | ok f S1 =>
    rw [q] at p
    intro μ1 H1 ex s1
    cases f with
    | nx r' => exact fun σ' e' => hb σ' H1 μ1 r' S1 Dn s1 e' (PostS.mono ex p)
    | rt d => exact p μ1 H1 ex s1
    | bk r' => exact p μ1 H1 ex s1
    | ct r' => exact p μ1 H1 ex s1
    | xc x r' => exact p μ1 H1 ex s1
  | exc x S1 => rw [q] at p; exact p.elim
  | bad => rw [q] at p; exact p.elim
theorem sem_asg {t : TE} {m : Env' → M D} {g : TG} {f : TgM} (h : SemE c W t m) (hg : SemG c W g f) : SemS c W (tAsg t g) (mAsg m f) :=
  fun σ H μ r S Dn s e p => h.goS s e p fun d S1 μ1 H1 v ex s1 e1 rv p1 =>
    hg σ H1 μ1 r S1 d v _ s1 e1 rv ((PostS.bind e1 p1).imp fun r' μ2 H2 ⟨S2, ok, ex2, p2⟩ σ' e' => p2.nx ok e')
theorem sem_name (i : Nat) : SemG c W (gName i) (gNm i) := fun σ H μ r S d v Q s e rv p => p μ H .refl s _ (e.set i rv)
end


abbrev TgsM := List D → Env' → M Env'
def gsNil : TgsM := fun ds r S => match ds with | [] => .ok r S | _ => .bad
def gsCons (g : TgM) (gs : TgsM) : TgsM := fun ds r S => match ds with
  | d :: rest => (match g d r S with | .ok r' S' => gs rest r' S' | .exc _ _ => .bad | .bad => .bad)
  | [] => .bad

def gUnp (n : Nat) (gs : TgsM) : TgM := fun d r S => match d with
  | .tup ds => if ds.length = n then gs ds r S else .bad
  | .ref i => (match lsAt S i with | some ds => if ds.length = n then gs ds r S else .bad | none => .bad)
  | _ => .bad
def gSubM (o i : Env' → M D) (f : D → D → D → M Unit) : TgM := fun v r => mB (o r) fun x => mB (i r) fun y => mB (f x y v) fun _ => mP r
section
variable {c : Gx} {W : WX}
def SemGs (c : Gx) (W : WX) (g : TGs) (f : TgsM) : Prop := ∀ σ H μ r S ds vs Q, SOk c μ H S → EnvR c.K μ H r σ → RpL c.K μ H ds vs → Post c W σ μ H (fun r' μ' H' => ∀ σ', EnvR c.K μ' H' r' σ' → Q σ' H') (f ds r S) → g vs σ H Q
theorem sem_gsNil : SemGs c W gNil gsNil := by
  intro σ H μ r S ds vs Q s e rv p
  cases rv with
  | nil => exact ⟨rfl, p μ H .refl s _ e⟩
  | cons _ _ => exact p.elim
theorem sem_gsCons {g : TG} {gs : TGs} {f : TgM} {fs : TgsM} (h : ∀ W, SemG c W g f) (hs : ∀ W, SemGs c W gs fs) : SemGs c W (gCons g gs) (gsCons f fs) := by
  intro σ H μ r S ds vs Q s e rv p
  cases rv with
  | nil => exact p.elim
  | cons r1 rs =>
    rename_i d v ds vs
    refine ⟨v, vs, rfl, ?_⟩
    have p' : Post c W σ μ H (fun r' μ' H' => ∀ σ', EnvR c.K μ' H' r' σ' → Q σ' H') (match f d r S with | .ok r' S' => fs ds r' S' | .exc _ _ => .bad | .bad => .bad) := p
    refine h (fun _ _ _ _ => False) σ H μ r S d v _ s e r1 ?_
    cases q : f d r S with
    | ok r' S' =>
      rw [q] at p'
      intro μ1 H1 ex s1 σ1 e1
      refine hs (fun cls dd _ H => W cls dd σ H) σ1 H1 μ1 r' S' ds vs Q s1 e1 (rs.mono ex) ?_
      have p2 : Post c W σ μ1 H1 (fun r' μ' H' => ∀ σ', EnvR c.K μ' H' r' σ' → Q σ' H') (fs ds r' S') := Post.mono ex p'
      cases q2 : fs ds r' S' with
      | ok a b => rw [q2] at p2; exact p2
      | exc a b => rw [q2] at p2; exact p2
      | bad => rw [q2] at p2; exact p2
    | exc x S' => rw [q] at p'; exact p'.elim
    | bad => rw [q] at p'; exact p'.elim
theorem sem_gTup {n : Nat} {g : TGs} {f : TgsM} (h : SemGs c W g f) : SemG c W (gTup c.K n g) (fun d r S => match d with | .tup ds => if ds.length = n then f ds r S else .bad | _ => .bad) := by
  intro σ H μ r S d v Q s e rv p
  cases rv with
  | tup sq rl =>
    rename_i a xs ds
    have p' : Post c W σ μ H (fun r' μ' H' => ∀ σ', EnvR c.K μ' H' r' σ' → Q σ' H') (if ds.length = n then f ds r S else .bad) := p
    split at p'
    · rename_i hl
      exact ⟨a, xs, rfl, sq, by rw [← rl.length]; exact hl, h σ H μ r S ds xs Q s e rl p'⟩
    · exact p'.elim
  | _ => exact p.elim

def SemSet (c : Gx) (W : WX) (t : TSet) (f : D → D → D → M Unit) : Prop := ∀ σ H μ S x y z d e u Q, SOk c μ H S → Rp c.K μ H d x → Rp c.K μ H e y → Rp c.K μ H u z → Post c W σ μ H (fun _ _ H' => Q H') (f d e u S) → t x y z H Q
theorem sem_gSub {to ti : TE} {t : TSet} {mo mi : Env' → M D} {f : D → D → D → M Unit} (ho : SemE c W to mo) (hi : SemE c W ti mi) (h : SemSet c W t f) : SemG c W (gSub to ti t) (gSubM mo mi f) :=
  fun σ H μ r S d v Q s e rv p => ho.go s e p fun o S1 μ1 H1 ov ex1 s1 e1 ro p1 => hi.go s1 e1 p1 fun i S2 μ2 H2 iv ex2 s2 e2 ri p2 =>
    h σ H2 μ2 S2 ov iv v o i d _ s2 (ro.mono ex2) ri (rv.mono (ex1.trans ex2)) ((Post.bind p2).imp fun _ μ3 H3 ⟨S3, ok, ex3, p3⟩ => p3 μ3 H3 .refl ok σ (e2.mono ex3))
end


def FU : Nat := 16777300
def afterB (k : Env' → M Fl) : R Fl → R Fl
  | .ok f S => (match f with | .nx r => k r S | .ct r => k r S | .bk r => .ok (.nx r) S | .rt d => .ok (.rt d) S | .xc x r => .ok (.xc x r) S)
  | .exc _ _ => .bad
  | .bad => .bad
def mWh (t : Env' → M Bool) (b : Env' → M Fl) : Nat → Env' → M Fl
  | 0 => fun _ _ => .bad
  | n + 1 => stE t fun x => if x = true then (fun r S => afterB (mWh t b n) (b r S)) else mNx
def mWhile (t : Env' → M Bool) (b : Env' → M Fl) : Env' → M Fl := mWh t b FU
abbrev Src := Nat → Store → Option (Option D)
def mFo (src : Src) (g : TgM) (b : Env' → M Fl) : Nat → Nat → Env' → M Fl
  | 0, _ => fun _ _ => .bad
  | n + 1, i => fun r S => match src i S with
    | none => .bad
    | some none => .ok (.nx r) S
    | some (some d) => stE (g d) (fun r1 _ S1 => afterB (mFo src g b n (i + 1)) (b r1 S1)) r S
def mFor (ms : Env' → M Src) (g : TgM) (b : Env' → M Fl) : Env' → M Fl := stE ms fun src => mFo src g b FU 0
structure ItOk (c : Gx) (J : It) (src : Src) (μ0 : List Addr) (H0 : Hp) : Prop where
  stop : ∀ i μ H S, Ex c.K μ0 H0 μ H → SOk c μ H S → src i S = some none → J.stop i H
  go : ∀ i μ H S d, Ex c.K μ0 H0 μ H → SOk c μ H S → src i S = some (some d) → J.go i H ∧ ∀ x H', J.yld i H x H' → SOk c μ H' S ∧ Ex c.K μ H μ H' ∧ Rp c.K μ H' d x
def SemI (c : Gx) (W : WX) (wi : TI) (m : Env' → M Src) : Prop := ∀ σ H μ r S R, SOk c μ H S → EnvR c.K μ H r σ → Post c W σ μ H (fun src μ' H' => ∀ J, ItOk c J src μ' H' → R J H') (m r S) → wi σ H R
section
variable {c : Gx} {W : WX}
theorem PostS.after {μ : List Addr} {H : Hp} {Dn : Ends} {k : Env' → M Fl} {N : L2.St → Hp → Prop} {x : R Fl} (p : PostS c W μ H Dn (afterB k x))
    (hN : ∀ μ' H' r' S' σ', Ex c.K μ H μ' H' → SOk c μ' H' S' → EnvR c.K μ' H' r' σ' → PostS c W μ' H' Dn (k r' S') → N σ' H') : PostS c W μ H { Dn with nx := N, ct := N, bk := Dn.nx } x := by
  cases x with
  | ok f S =>
    intro μ1 H1 ex s1
    cases f with
    | nx r => exact fun σ' e' => hN μ1 H1 r S σ' ex s1 e' (PostS.mono ex p)
    | ct r => exact fun σ' e' => hN μ1 H1 r S σ' ex s1 e' (PostS.mono ex p)
    | bk r => exact p μ1 H1 ex s1
    | rt d => exact p μ1 H1 ex s1
    | xc x r => exact p μ1 H1 ex s1
  | exc x S => exact p.elim
  | bad => exact p.elim
theorem sem_while {t : TT} {tb : TS} {mt : Env' → M Bool} {mb : Env' → M Fl} (ht : SemT c W t mt) (hb : SemS c W tb mb) : SemS c W (tWhile t tb) (mWhile mt mb) := by
  intro σ H μ r S Dn s e p
  refine ⟨fun n σ H => ∃ μ r S, SOk c μ H S ∧ EnvR c.K μ H r σ ∧ PostS c W μ H Dn (mWh mt mb n r S), ⟨FU, μ, r, S, s, e, p⟩, fun n σ H hW => ?_⟩
  obtain ⟨μ, r, S, s, e, p⟩ := hW
  cases n with
  | zero => exact p.elim
  | succ n =>
    refine ht.goS s e p fun b S1 μ1 H1 ex s1 e1 p1 => ?_
    cases b with
    | false => exact p1.nx s1 e1
    | true =>
      refine ⟨fun σ' H' => ∃ μ r S, SOk c μ H' S ∧ EnvR c.K μ H' r σ' ∧ PostS c W μ H' Dn (mWh mt mb n r S), fun σ' H' h => ⟨n, Nat.lt_succ_self n, h⟩, ?_⟩
      exact hb σ H1 μ1 r S1 _ s1 e1 (PostS.after p1 fun μ' H' r' S' σ' ex s e p => ⟨μ', r', S', s, e, p⟩)
theorem sem_for {wi : TI} {g : TG} {tb : TS} {ms : Env' → M Src} {f : TgM} {mb : Env' → M Fl} (hi : SemI c W wi ms) (hg : SemG c W g f) (hb : SemS c W tb mb) : SemS c W (tFor wi g tb) (mFor ms f mb) := by
  intro σ H μ r S Dn s e p
  refine hi σ H μ r S _ s e ((PostS.bind e p).imp fun src μ1 H1 ⟨S1, s1, ex1, p1⟩ J J1 => ?_)
  refine ⟨fun i n σ H => ∃ μ r S, SOk c μ H S ∧ EnvR c.K μ H r σ ∧ Ex c.K μ1 H1 μ H ∧ PostS c W μ H Dn (mFo src f mb n i r S), ⟨FU, μ1, r, S1, s1, e.mono ex1, .refl, p1⟩, fun i n σ H hW => ?_⟩
  obtain ⟨μ, r, S, s, e, ex, p⟩ := hW
  cases n with
  | zero => exact p.elim
  | succ n =>
    have p' : PostS c W μ H Dn (match src i S with
      | none => .bad
      | some none => .ok (.nx r) S
      | some (some d) => stE (f d) (fun r1 _ S1 => afterB (mFo src f mb n (i + 1)) (mb r1 S1)) r S) := p
    cases q : src i S with
    | none => rw [q] at p'; exact p'.elim
    | some o =>
      rw [q] at p'
      cases o with
      | none => exact .inl ⟨J1.stop i μ H S ex s q, p'.nx s e⟩
      | some d =>
        obtain ⟨go, yl⟩ := J1.go i μ H S d ex s q
        refine .inr ⟨go, fun σ' H' => ∃ μ r S, SOk c μ H' S ∧ EnvR c.K μ H' r σ' ∧ Ex c.K μ1 H1 μ H' ∧ PostS c W μ H' Dn (mFo src f mb n (i + 1) r S), fun σ' H' h => ⟨n, Nat.lt_succ_self n, h⟩, fun x H' hy => ?_⟩
        obtain ⟨s', ex', rx⟩ := yl x H' hy
        refine hg σ H' μ r S d x _ s' (e.mono ex') rx ((PostS.bind (e.mono ex') (PostS.mono ex' p')).imp fun r1 μ2 H2 ⟨S2, s2, ex2, p2⟩ σ2 e2 => ?_)
        exact hb σ2 H2 μ2 r1 S2 _ s2 e2 (PostS.after p2 fun μ' H' r' S' σ' ex3 s e p => ⟨μ', r', S', s, e, ex.trans (ex'.trans (ex2.trans ex3)), p⟩)
end


def srcL (k : Nat) : Src := fun i S => match lsAt S k with | some xs => some xs[i]? | none => none
def srcT (xs : List D) : Src := fun i _ => some xs[i]?
def srcR (lo : Int) (n : Nat) : Src := fun i _ => if i < n then some (some (.int (lo + i))) else some none

def mSrc (m : Env' → M D) : Env' → M Src := fun r => mB (m r) fun d S => match d with
  | .tup xs => .ok (srcT xs) S
  | .ref k => (match lsAt S k with | some _ => .ok (srcL k) S | none => .bad)
  | _ => .bad
def okR (i : Int) : Prop := -(2 ^ 62) ≤ i ∧ i < 2 ^ 62
instance (i : Int) : Decidable (okR i) := inferInstanceAs (Decidable (_ ∧ _))
def mRng1 (a : Env' → M (List D)) : Env' → M Src := fun r => mB (a r) fun ds S => match ds with
  | [.int j] => if okR j then .ok (srcR 0 j.toNat) S else .bad
  | _ => .bad
def mRng2 (a : Env' → M (List D)) : Env' → M Src := fun r => mB (a r) fun ds S => match ds with
  | [.int i, .int j] => if okR i ∧ okR j then .ok (srcR i (j - i).toNat) S else .bad
  | _ => .bad
section
variable {c : Gx} {W : WX}
theorem itOk_list {k : Nat} {a : Addr} {μ0 : List Addr} {H0 : Hp} (ha : μ0[k]? = some a) : ItOk c (Itl c.K a) (srcL k) μ0 H0 := by
  refine ⟨fun i μ H S ex s q => ?_, fun i μ H S d ex s q => ?_⟩
  · unfold srcL at q
    cases h : lsAt S k with
    | none => rw [h] at q; cases q
    | some xs =>
      rw [h] at q
      obtain ⟨vs, h1, h2⟩ := s.ls h (ex.mu _ _ ha)
      refine ⟨vs, h1, ?_⟩
      rw [← h2.length]
      exact List.getElem?_eq_none_iff.mp (Option.some.inj q)
  · unfold srcL at q
    cases h : lsAt S k with
    | none => rw [h] at q; cases q
    | some xs =>
      rw [h] at q
      obtain ⟨vs, h1, h2⟩ := s.ls h (ex.mu _ _ ha)
      obtain ⟨v, h3, h4⟩ := h2.get (Option.some.inj q)
      refine ⟨⟨vs, v, h1, h3⟩, fun x H' hy => ?_⟩
      obtain ⟨rfl, hx⟩ := hy
      have := hx vs h1
      rw [h3] at this
      cases this
      exact ⟨s, .refl, h4⟩
theorem itOk_tup {ds : List D} {vs : List V} {a : Addr} {μ0 : List Addr} {H0 : Hp} (ha : SqT c.K H0 a vs) (r : RpL c.K μ0 H0 ds vs) : ItOk c (Itt c.K a) (srcT ds) μ0 H0 := by
  refine ⟨fun i μ H S ex s q => ⟨vs, ex.tu _ _ ha, ?_⟩, fun i μ H S d ex s q => ?_⟩
  · rw [← r.length]
    exact List.getElem?_eq_none_iff.mp (Option.some.inj q)
  · obtain ⟨v, h3, h4⟩ := r.get (Option.some.inj q)
    refine ⟨⟨vs, v, ex.tu _ _ ha, h3⟩, fun x H' hy => ?_⟩
    obtain ⟨rfl, hx⟩ := hy
    have := hx vs (ex.tu _ _ ha)
    rw [h3] at this
    cases this
    exact ⟨s, .refl, h4.mono ex⟩
theorem itOk_rng {lo : Int} {n : Nat} {μ0 : List Addr} {H0 : Hp} : ItOk c (Itr lo n) (srcR lo n) μ0 H0 := by
  refine ⟨fun i μ H S ex s q => ?_, fun i μ H S d ex s q => ?_⟩
  · unfold srcR at q
    split at q
    · cases q
    · rename_i h; exact Nat.le_of_not_lt h
  · unfold srcR at q
    split at q
    · rename_i h
      cases q
      refine ⟨h, fun x H' hy => ?_⟩
      obtain ⟨rfl, rfl⟩ := hy
      exact ⟨s, .refl, .int _⟩
    · cases q
theorem sem_iSeq {tl : TE} {m : Env' → M D} (h : SemE c W tl m) : SemI c W (fun σ H R => tl σ H fun x H1 => ∃ a, x = .ref a ∧ ((∃ xs, SqL c.K H1 a xs) ∧ R (Itl c.K a) H1 ∨ (∃ xs, SqT c.K H1 a xs) ∧ R (Itt c.K a) H1)) (mSrc m) := by
  intro σ H μ r S R s e p
  refine h.go s e p fun d S1 μ1 H1 v ex s1 e1 rv p1 => ?_
  cases rv with
  | tup sq rl => exact ⟨_, rfl, .inr ⟨⟨_, sq⟩, p1 μ1 H1 .refl s1 _ (itOk_tup sq rl)⟩⟩
  | ref ha =>
    rename_i i a
    have p2 : Post c W σ μ1 H1 (fun src μ' H' => ∀ J, ItOk c J src μ' H' → R J H') (match lsAt S1 i with | some _ => .ok (srcL i) S1 | none => .bad) := p1
    cases q : lsAt S1 i with
    | none => rw [q] at p2; exact p2.elim
    | some xs =>
      rw [q] at p2
      obtain ⟨vs, h1, _⟩ := s1.ls q ha
      exact ⟨a, rfl, .inl ⟨⟨vs, h1⟩, p2 μ1 H1 .refl s1 _ (itOk_list ha)⟩⟩
  | _ => exact p1.elim
theorem rpl1 {μ : List Addr} {H : Hp} {d : D} {vs : List V} (r : RpL c.K μ H [d] vs) : ∃ v, vs = [v] ∧ Rp c.K μ H d v := by
  cases r with
  | cons r t => cases t; exact ⟨_, rfl, r⟩
theorem rpl2 {μ : List Addr} {H : Hp} {d e : D} {vs : List V} (r : RpL c.K μ H [d, e] vs) : ∃ v u, vs = [v, u] ∧ Rp c.K μ H d v ∧ Rp c.K μ H e u := by
  cases r with
  | cons r t => obtain ⟨u, rfl, q⟩ := rpl1 t; exact ⟨_, _, rfl, r, q⟩
theorem rpInt {μ : List Addr} {H : Hp} {i : Int} {v : V} (r : Rp c.K μ H (.int i) v) : v = .int i := by cases r; rfl
theorem sem_rng1 {t : TA} {m : Env' → M (List D)} (h : SemA c W t m) : SemI c W (iRng1 t) (mRng1 m) := by
  intro σ H μ r S R s e p
  refine h.go s e p fun ds S1 μ1 H1 vs ex s1 e1 rv p1 => ?_
  split at p1
  · rename_i j
    obtain ⟨v, rfl, q⟩ := rpl1 rv
    cases rpInt q
    split at p1
    · rename_i hj; exact ⟨j, rfl, hj.1, hj.2, p1 μ1 H1 .refl s1 _ itOk_rng⟩
    · exact p1.elim
  · exact p1.elim
theorem sem_rng2 {t : TA} {m : Env' → M (List D)} (h : SemA c W t m) : SemI c W (iRng2 t) (mRng2 m) := by
  intro σ H μ r S R s e p
  refine h.go s e p fun ds S1 μ1 H1 vs ex s1 e1 rv p1 => ?_
  split at p1
  · rename_i i j
    obtain ⟨v, u, rfl, q, q2⟩ := rpl2 rv
    cases rpInt q
    cases rpInt q2
    split at p1
    · rename_i hj; exact ⟨i, j, rfl, ⟨hj.1.1, hj.1.2, hj.2.1, hj.2.2⟩, p1 μ1 H1 .refl s1 _ itOk_rng⟩
    · exact p1.elim
  · exact p1.elim
end


def wipeE (r : Env') : List Nat → Env'
  | [] => r
  | v :: vs => (wipeE r vs).set v none
def lcGo (src : Src) (g : TgM) (mt : Env' → M Bool) (me : Env' → M D) (p : Nat) (r : Env') : Nat → Nat → Store → R Unit
  | 0, _, _ => .bad
  | n + 1, i, S => match src i S with
    | none => .bad
    | some none => .ok () S
    | some (some d) => match g d r S with
      | .ok r1 S1 => (match mt r1 S1 with
        | .ok b S2 => if b = true then (match me r1 S2 with
            | .ok y S3 => (match S3[p]? with
              | some (.lst acc) => if acc.length < sizeLine then lcGo src g mt me p r n (i + 1) (S3.set p (.lst (acc ++ [y]))) else .bad
              | _ => .bad)
            | _ => .bad) else lcGo src g mt me p r n (i + 1) S2
        | _ => .bad)
      | _ => .bad
def mLc (ms : Env' → M Src) (g : TgM) (mt : Env' → M Bool) (me : Env' → M D) (vs : List Nat) : Env' → M D := fun r => mB (ms r) fun src S =>
  match lcGo src g mt me S.length (wipeE r vs) FU 0 (S ++ [.lst []]) with
  | .ok _ S' => .ok (.ref S.length) S'
  | _ => .bad
abbrev Wf : WX := fun _ _ _ _ => False
def mYes : Env' → M Bool := fun _ S => .ok true S
def SemGv (c : Gx) (g : TG) (f : TgM) (vs : List Nat) : Prop := ∀ σ H μ r S d v Q, SOk c μ H S → EnvR c.K μ H r (wipe σ vs) → Rp c.K μ H d v →
  Post c Wf σ μ H (fun r' μ' H' => ∀ σ', EnvR c.K μ' H' r' σ' → wipe σ' vs = wipe σ vs → Q σ' H') (f d r S) → g v (wipe σ vs) H Q
section
variable {c : Gx} {W : WX}
theorem sem_yes : SemT c W tYes mYes := fun _ _ _ _ _ _ s _ p => p.finT s
theorem EnvR.wipe {μ : List Addr} {H : Hp} {r : Env'} {σ : L2.St} (e : EnvR c.K μ H r σ) : ∀ vs : List Nat, EnvR c.K μ H (wipeE r vs) (wipe σ vs)
  | [] => e
  | v :: vs => by
    have ih := EnvR.wipe e vs
    refine ⟨?_, fun i d h => ?_⟩
    · show ((wipeE r vs).set v none).length = ((L2.wipe σ vs).set v none).length
      rw [List.length_set, List.length_set, ih.len]
    · have h' : ((wipeE r vs).set v none)[i]? = some (some d) := h
      show ∃ x, ((L2.wipe σ vs).set v none)[i]? = some (some x) ∧ _
      by_cases hv : v = i
      · subst hv
        by_cases hl : v < (wipeE r vs).length
        · rw [List.getElem?_set_self hl] at h'; cases h'
        · rw [List.getElem?_eq_none (by rw [List.length_set]; omega)] at h'; cases h'
      · rw [List.getElem?_set_ne hv] at h' ⊢
        exact ih.at_ i d h'
theorem sem_lc {wi : TI} {g : TG} {tt : TT} {te : TE} {vs : List Nat} {ms : Env' → M Src} {f : TgM} {mt : Env' → M Bool} {me : Env' → M D} (hi : SemI c W wi ms) (hg : SemGv c g f vs) (ht : SemT c Wf tt mt) (he : SemE c Wf te me) :
    SemE c W (tLc wi g tt te vs) (mLc ms f mt me vs) := by
  intro σ H μ r S Q s e p
  refine hi σ H μ r S _ s e ((Post.bind p).imp fun src μ1 H1 ⟨S1, s1, ex1, p1⟩ J J1 => ?_)
  intro Dd hD
  have p2 : Post c W σ μ1 H1 (ZE c Q) (match lcGo src f mt me S1.length (wipeE r vs) FU 0 (S1 ++ [.lst []]) with
    | .ok _ S' => .ok (.ref S1.length) S'
    | _ => .bad) := p1
  have exN : Ex c.K μ1 H1 (μ1 ++ [Dd]) (upd H1 Dd (.lst [])) := Ex.new hD
  have sN : SOk c (μ1 ++ [Dd]) (upd H1 Dd (.lst [])) (S1 ++ [.lst []]) := s1.new hD ⟨[], upd_same, .nil⟩
  have hDi : (μ1 ++ [Dd])[S1.length]? = some Dd := by rw [← s1.len]; simp
  refine ⟨fun i n H => ∃ μ S, SOk c μ H S ∧ Ex c.K (μ1 ++ [Dd]) (upd H1 Dd (.lst [])) μ H ∧ Post c W σ μ H (ZE c Q) (match lcGo src f mt me S1.length (wipeE r vs) n i S with
    | .ok _ S' => .ok (.ref S1.length) S'
    | _ => .bad), ⟨FU, _, _, sN, .refl, Post.mono exN p2⟩, fun i n H hW => ?_⟩
  obtain ⟨μ, S, s, ex, p⟩ := hW
  have eW : EnvR c.K μ H (wipeE r vs) (wipe σ vs) := ((e.mono ex1).mono (exN.trans ex)).wipe vs
  cases n with
  | zero => exact p.elim
  | succ n =>
    cases q : src i S with
    | none => simp only [lcGo, q] at p; exact p.elim
    | some o =>
      cases o with
      | none =>
        simp only [lcGo, q] at p
        exact .inl ⟨J1.stop i μ H S (exN.trans ex) s q, p.fin s (.ref (ex.mu _ _ hDi))⟩
      | some d =>
        simp only [lcGo, q] at p
        obtain ⟨go, yl⟩ := J1.go i μ H S d (exN.trans ex) s q
        refine .inr ⟨go, fun H' => ∃ μ S, SOk c μ H' S ∧ Ex c.K (μ1 ++ [Dd]) (upd H1 Dd (.lst [])) μ H' ∧ Post c W σ μ H' (ZE c Q) (match lcGo src f mt me S1.length (wipeE r vs) n (i + 1) S with
          | .ok _ S' => .ok (.ref S1.length) S'
          | _ => .bad), fun H' h => ⟨n, Nat.lt_succ_self n, h⟩, fun x H' hy => ?_⟩
        obtain ⟨s', ex', rx⟩ := yl x H' hy
        refine hg σ H' μ (wipeE r vs) S d x _ s' (eW.mono ex') rx ?_
        cases q1 : f d (wipeE r vs) S with
        | exc x S2 => rw [q1] at p; exact p.elim
        | bad => rw [q1] at p; exact p.elim
        | ok r1 S2 =>
          rw [q1] at p
          simp only [] at p
          intro μ2 H2 ex2 s2 σ2 e2 hw
          refine ⟨hw, ht σ2 H2 μ2 r1 S2 _ s2 e2 ?_⟩
          cases q2 : mt r1 S2 with
          | exc x S2 => rw [q2] at p; exact p.elim
          | bad => rw [q2] at p; exact p.elim
          | ok b S3 =>
            rw [q2] at p
            simp only [] at p
            intro μ3 H3 ex3 s3
            cases b with
            | false =>
              simp only [Bool.false_eq_true, if_false] at p
              unfold ZT
              simp only []
              rw [if_neg Bool.false_ne_true]
              exact ⟨μ3, S3, s3, ex.trans (ex'.trans (ex2.trans ex3)), Post.mono (ex'.trans (ex2.trans ex3)) p⟩
            | true =>
              simp only [if_true] at p
              unfold ZT
              simp only []
              rw [if_pos trivial]
              refine he σ2 H3 μ3 r1 S3 _ s3 (e2.mono ex3) ?_
              cases q3 : me r1 S3 with
              | exc x S2 => rw [q3] at p; exact p.elim
              | bad => rw [q3] at p; exact p.elim
              | ok y S4 =>
                rw [q3] at p
                simp only [] at p
                intro μ4 H4 ex4 s4 v rv
                have exA := ex.trans (ex'.trans (ex2.trans (ex3.trans ex4)))
                have hDm : μ4[S1.length]? = some Dd := exA.mu _ _ hDi
                cases q4 : S4[S1.length]? with
                | none => rw [q4] at p; exact p.elim
                | some o =>
                  rw [q4] at p
                  cases o with
                  | lst acc =>
                    simp only [] at p
                    by_cases hl : acc.length < sizeLine
                    · rw [if_pos hl] at p
                      obtain ⟨xs, h1, h2⟩ := s4.obj _ _ _ q4 hDm
                      refine ⟨xs, h1, by rw [← h2.length]; exact hl, ?_⟩
                      have h5 : ∀ xs', HO.lst xs ≠ .tup xs' := fun _ z => by cases z
                      have h6 : ∀ u w, HO.lst xs ≠ .frz u w := fun _ _ z => by cases z
                      have exP : Ex c.K μ4 H4 μ4 (upd H4 Dd (.lst (xs ++ [v]))) := Ex.put h1 h5 h6
                      refine ⟨μ4, _, s4.put (o' := .lst (acc ++ [y])) q4 hDm rfl h1 h5 h6 ⟨_, upd_same, (h2.mono exP).append (.cons (rv.mono exP) .nil)⟩, exA.trans exP, Post.mono ((ex'.trans (ex2.trans (ex3.trans ex4))).trans exP) p⟩
                    · rw [if_neg hl] at p; exact p.elim
                  | _ => exact p.elim
theorem wipe_set {σ : L2.St} {i : Nat} {o : Option V} : ∀ {vs : List Nat}, i ∈ vs → wipe (σ.set i o) vs = wipe σ vs
  | v :: vs, h => by
    show (wipe (σ.set i o) vs).set v none = (wipe σ vs).set v none
    by_cases hv : i ∈ vs
    · rw [wipe_set hv]
    · have e : i = v := by
        rcases List.mem_cons.mp h with h | h
        · exact h
        · exact absurd h hv
      subst e
      apply List.ext_getElem?
      intro j
      by_cases hj : i = j
      · subst hj
        by_cases hl : i < σ.length
        · rw [List.getElem?_set_self (by rw [wipe_length, List.length_set]; exact hl), List.getElem?_set_self (by rw [wipe_length]; exact hl)]
        · rw [List.getElem?_eq_none (by rw [List.length_set, wipe_length, List.length_set]; omega), List.getElem?_eq_none (by rw [List.length_set, wipe_length]; omega)]
      · rw [List.getElem?_set_ne hj, List.getElem?_set_ne hj]
        by_cases hjv : j ∈ vs
        · have z : ∀ (τ : L2.St) (ws : List Nat), j ∈ ws → (wipe τ ws)[j]? = if j < τ.length then some none else none := by
            intro τ ws
            induction ws with
            | nil => intro h; cases h
            | cons w ws ih =>
              intro h
              show ((wipe τ ws).set w none)[j]? = _
              by_cases hw : w = j
              · subst hw
                split
                · rename_i hl; rw [List.getElem?_set_self (by rw [wipe_length]; exact hl)]
                · rename_i hl; rw [List.getElem?_eq_none (by rw [List.length_set, wipe_length]; omega)]
              · rw [List.getElem?_set_ne hw]
                exact ih ((List.mem_cons.mp h).resolve_left fun q => hw q.symm)
          rw [z _ _ hjv, z _ _ hjv, List.length_set]
        · rw [wipe_out hjv, wipe_out hjv, List.getElem?_set_ne hj]
theorem sem_gvName {vs : List Nat} (i : Nat) (h : i ∈ vs) : SemGv c (gName i) (gNm i) vs := fun σ H μ r S d v Q s e rv p => p μ H .refl s _ (e.set i rv) (by
  rw [wipe_set h]
  have z : ∀ (ws : List Nat) (τ : L2.St), wipe (wipe τ ws) ws = wipe τ ws := by
    intro ws τ
    have y : ∀ (us ws : List Nat) (τ : L2.St), (∀ i ∈ us, i ∈ ws) → wipe (wipe τ us) ws = wipe τ ws := by
      intro us
      induction us with
      | nil => intro ws τ _; rfl
      | cons u us ih =>
        intro ws τ h
        show wipe ((wipe τ us).set u none) ws = _
        rw [wipe_set (h u (List.mem_cons_self)), ih ws τ fun i hi => h i (List.mem_cons_of_mem _ hi)]
    exact y ws ws τ fun _ h => h
  exact z vs σ)
end
end CK
end

section
set_option Elab.async false
set_option linter.all false
set_option maxRecDepth 100000
set_option maxHeartbeats 4000000
namespace CK
open PySem PySem.Spec PyProof.Rows L2


def PostF (c : Gx) (μ : List Addr) (H : Hp) (Q : VK) (E : XK) : R D → Prop
  | .ok d S' => ∀ μ' H' v, Ex c.K μ H μ' H' → SOk c μ' H' S' → Rp c.K μ' H' d v → Q v H'
  | .exc x S' => ∀ μ' H' cls dd, Ex c.K μ H μ' H' → SOk c μ' H' S' → RpX c μ' H' x cls dd → E cls dd H'
  | .bad => False

def spM (c : Gx) (n : Nat) (f : List D → M D) : Sp := fun vs H Q E => vs.length = n ∧ ∃ μ S ds, SOk c μ H S ∧ RpL c.K μ H ds vs ∧ PostF c μ H Q E (f ds S)
def mCall (n : Nat) (f : List D → M D) (a : Env' → M (List D)) : Env' → M D := fun r => mB (a r) fun ds => if ds.length = n then f ds else mBad
def mFn (n : Nat) (b : Env' → M Fl) : List D → M D := fun ds S => match b (ds.map some ++ List.replicate (n - ds.length) none) S with
  | .ok f S' => (match f with | .rt d => .ok d S' | .nx _ => .ok .non S' | .xc x _ => .exc x S' | _ => .bad)
  | _ => .bad
section
variable {c : Gx} {W : WX}
theorem sem_call {n : Nat} {f : List D → M D} {t : TA} {m : Env' → M (List D)} (h : SemA c W t m) : SemE c W (tCallS (spM c n f) (WE W) t) (mCall n f m) := by
  intro σ H μ r S Q s e p
  refine h.go s e p fun ds S1 μ1 H1 vs ex s1 e1 rv p1 => ?_
  by_cases hl : ds.length = n
  · rw [if_pos hl] at p1
    refine ⟨by rw [← rv.length]; exact hl, μ1, S1, ds, s1, rv, ?_⟩
    cases q : f ds S1 with
    | ok d S2 => rw [q] at p1; exact fun μ' H' v ex s r => p1 μ' H' ex s v r
    | exc x S2 => rw [q] at p1; exact p1
    | bad => rw [q] at p1; exact p1
  · rw [if_neg hl] at p1; exact p1.elim
theorem envR_start {μ : List Addr} {H : Hp} {N : List Str} : ∀ {ds : List D} {vs : List V}, RpL c.K μ H ds vs → EnvR c.K μ H (ds.map some ++ List.replicate (N.length - ds.length) none) (L2.start N vs) := by
  intro ds vs r
  refine ⟨?_, fun i d h => ?_⟩
  · simp [L2.start, r.length]
  · by_cases hi : i < ds.length
    · rw [List.getElem?_append_left (by simpa using hi), List.getElem?_map] at h
      cases q : ds[i]? with
      | none => rw [q] at h; cases h
      | some e =>
        rw [q] at h
        cases h
        obtain ⟨v, h1, h2⟩ := r.get q
        refine ⟨v, ?_, h2⟩
        unfold L2.start
        rw [List.getElem?_append_left (by rw [List.length_map, ← r.length]; exact hi), List.getElem?_map, h1]
        rfl
    · rw [List.getElem?_append_right (by simpa using hi), List.getElem?_replicate] at h
      split at h <;> cases h
theorem sem_fn {N : List Str} {t : TS} {m : Env' → M Fl} {vs : List V} {H : Hp} {Q : VK} {E : XK} {n : Nat} (h : SemS c (fun cls d _ H => E cls d H) t m) (hs : spM c n (mFn N.length m) vs H Q E) :
    t { nx := fun _ H' => Q .non H', rt := Q } (L2.start N vs) H := by
  obtain ⟨hl, μ, S, ds, s, rv, p⟩ := hs
  refine h _ H μ _ S _ s (envR_start rv) ?_
  unfold mFn at p
  cases q : m (ds.map some ++ List.replicate (N.length - ds.length) none) S with
  | ok f S' =>
    rw [q] at p
    intro μ' H' ex s'
    cases f with
    | nx r => exact fun σ' _ => p μ' H' _ ex s' .non
    | rt d => exact fun v rv => p μ' H' v ex s' rv
    | bk r => exact p.elim
    | ct r => exact p.elim
    | xc x r => exact fun σ' cls dd _ rx => p μ' H' cls dd ex s' rx
  | exc x S' => rw [q] at p; exact p.elim
  | bad => rw [q] at p; exact p.elim
end

structure RoomG (k : Nat) (A : Around) : Prop where
  r : Room k A
  g : A.guards = some []
theorem RoomG.mono {j k : Nat} {A : Around} (h : RoomG k A) (hjk : j ≤ k) : RoomG j A := ⟨h.r.mono hjk, h.g⟩

def FnG (P : Program) (w : World) (c : Gx) (base : Heap) (k : Nat) (f : Addr) (fd : FuncData) (ps : List Str) (g : List D → M D) : Prop :=
  ∀ (A : Around) (fs : List Env) (z : Shared) (H : Hp) (as : Args) (us : List Value) (vs : List V) (Q : VK) (E : XK), RoomG k A → Env0 P w c.K c.mg base A fs z H → BindsTo z fd as (ps.zip us) → Vals vs us →
    spM c ps.length g vs H Q E → codeAny (model P w) A (.call (.ref f) as) (CR (L2.CX P w) fs P w H z Q E) z
section
variable {c : Gx} {P : Program} {w : World} {base : Heap}
theorem FnG.mono {j k : Nat} {f : Addr} {fd : FuncData} {ps : List Str} {g : List D → M D} (F : FnG P w c base j f fd ps g) (h : j ≤ k) : FnG P w c base k f fd ps g :=
  fun A fs z H as us vs Q E hr => F A fs z H as us vs Q E (hr.mono h)

theorem fn_mk {x qual : Str} {st : Stmt} {f : Addr} {fd : FuncData} {N ps : List Str} {k : Nat} {m : Env' → M Fl} (F : Fun c.K x qual st f fd) (S : FnScope N ps (defScope st))
    (hb : ∀ (cdv : Value) (A : Around) (outer : List Env) (s : Shared) (H : Hp) (E : XK), Takes (cxOf (L2.CX P w) P w c.K c.mg base N qual (defScope st) f cdv A outer s H E) (fun cls d _ H => E cls d H) →
      PassesOwn (model P w) (A.deeper (envOfC qual (defScope st) s.heap.objs.size f cdv)) (envOfC qual (defScope st) s.heap.objs.size f cdv) (cxOf (L2.CX P w) P w c.K c.mg base N qual (defScope st) f cdv A outer s H E).xe →
      RoomG k (A.deeper (envOfC qual (defScope st) s.heap.objs.size f cdv)) →
      ∃ t, PSs (cxOf (L2.CX P w) P w c.K c.mg base N qual (defScope st) f cdv A outer s H E) (defBody st) t ∧ SemS c (fun cls d _ H => E cls d H) t m) :
    FnG P w c base (k + 1) f fd ps (mFn N.length m) := by
  intro A fs z H as us vs Q E hr e0 bs rv hp
  obtain ⟨oc, od, kV, doc, pm, an, cdv, ct, osl, rfl, lk, hcd⟩ := F.ex
  have there : ∀ b o, base.get? b = some o → z.heap.get? b = some o := fun b o q => (e0.bs b o q).1
  have inK := e0.mod.kin.keeps there
  have kinds : ∀ q ∈ ps.zip us, (defScope st).names.lookup q.1 = some .local ∨ ((defScope st).names.lookup q.1 = some .cell ∧ ((cellsFrom (z.heap.objs.size + 1) (defScope st).names []).lookup q.1).isSome = true) := by
    intro q hq
    obtain ⟨y, u⟩ := q
    exact (S.par y (List.of_mem_zip hq).1).imp id fun h => ⟨h, PySem.W.cellsFrom_some _ _ _ (.inl h)⟩
  apply codeAny_call_function hr.r.depth (inK _ _ lk) rfl S.co S.gen rfl (PySem.W.codeRec_of inK hcd)
  apply bs
  apply wpAny_newFunctionEnv_cells S.kind kinds
  intro env he z1 inC
  cases he
  refine ⟨(e0.mod.nolimit.keeps there).keeps inC.toInCall.keep, codeAny_func ?_⟩
  obtain ⟨t, d1, d2⟩ := hb cdv A fs z H E (takes_of rfl rfl rfl rfl) (passes_of rfl) ⟨hr.r.deeper _, hr.g⟩
  have J0 : L2.Inv (cxOf (L2.CX P w) P w c.K c.mg base N qual (defScope st) f cdv A fs z H E) [] (L2.start N vs) H z1 := inv_start S hr.r.hd e0 hp.1 rv inC
  refine wpAny_mono (d1.run [] z1 _ H _ J0 (sem_fn d2 hp)) (fun fl z2 h2 => ?_) fun _ _ h2 => h2
  cases fl with
  | ret u => obtain ⟨v, σ2, H2, J, r2, q2⟩ := h2; exact ⟨v, H2, J.os, J.bare, J.base, J.hok, r2, q2⟩
  | next => obtain ⟨σ2, H2, J, q2⟩ := h2; exact ⟨.non, H2, J.os, J.bare, J.base, J.hok, rfl, q2⟩
  | brk => exact h2.choose_spec.choose_spec.2.elim
  | cont => exact h2.choose_spec.choose_spec.2.elim

theorem fn_bad {f : Addr} {fd : FuncData} {ps : List Str} {k : Nat} {g : List D → M D} (h : ∀ ds S, g ds S = .bad) : FnG P w c base k f fd ps g := by
  intro A fs z H as us vs Q E _ _ _ _ hp
  obtain ⟨_, μ, S, ds, _, _, p⟩ := hp
  rw [h] at p
  exact p.elim
end


def mNew (o : O) : M D := fun S => .ok (.ref S.length) (S ++ [o])
def tupM (ds : List D) : M D := fun S => if ds.length ≤ sizeLine then .ok (.tup ds) S else .bad
def lstM (ds : List D) : M D := fun S => if ds.length ≤ sizeLine then .ok (.ref S.length) (S ++ [.lst ds]) else .bad
section
variable {c : Gx} {W : WX}
theorem sem_tup {t : TA} {m : Env' → M (List D)} (h : SemA c W t m) : SemE c W (tTup t) (mArgs tupM m) := by
  intro σ H μ r S Q s e p
  refine h.go s e p fun ds S1 μ1 H1 vs ex s1 e1 rv p1 => ?_
  unfold tupM at p1
  split at p1
  · rename_i hl; exact ⟨by rw [← rv.length]; exact hl, fun q hq => p1.finTup s1 hq rv⟩
  · exact p1.elim
theorem sem_lst {t : TA} {m : Env' → M (List D)} (h : SemA c W t m) : SemE c W (tLst t) (mArgs lstM m) := by
  intro σ H μ r S Q s e p
  refine h.go s e p fun ds S1 μ1 H1 vs ex s1 e1 rv p1 => ?_
  unfold lstM at p1
  split at p1
  · rename_i hl; exact ⟨by rw [← rv.length]; exact hl, fun q hq => p1.finNew s1 hq ⟨vs, upd_same, rv.mono (Ex.new hq)⟩⟩
  · exact p1.elim
end


def CPowX (i j : Int) : Prop := 0 ≤ j ∧ (Builtin.Int.intBits i : Int) * j ≤ 2 ^ 27
instance (i j : Int) : Decidable (CPowX i j) := inferInstanceAs (Decidable (_ ∧ _))
instance (i j : Int) : Decidable (CMulX i j) := inferInstanceAs (Decidable (_ ≤ _))
instance (i j : Int) : Decidable (CDivW i j) := inferInstanceAs (Decidable (_ ∧ _))
instance (i j : Int) : Decidable (CShl i j) := inferInstanceAs (Decidable (_ ∧ _))
theorem op_powX {X : Cx} : OpR X (binaryOp .Pow) (rI CPowX fun i j => .int (i ^ j.toNat)) := opI fun _ _ _ _ _ _ _ hc q => pow_int hc.1 hc.2 q
section
variable {c : Gx} {W : WX}
abbrev subM : D → D → M D := iOp0 fun i j => .int (i - j)
abbrev modM : D → D → M D := iOp (fun _ j => 0 < j) fun i j => .int (i % j)
abbrev fdivM : D → D → M D := iOp CDivW fun i j => .int (i / j)
abbrev powM : D → D → M D := iOp CPowX fun i j => .int (i ^ j.toNat)
abbrev ltM : D → D → M D := iOp0 fun i j => .bl (decide (i < j))
abbrev leM : D → D → M D := iOp0 fun i j => .bl (decide (i ≤ j))
abbrev gtM : D → D → M D := iOp0 fun i j => .bl (decide (j < i))
abbrev geM : D → D → M D := iOp0 fun i j => .bl (decide (j ≤ i))
abbrev bandM : D → D → M D := iOp0 fun i j => .int (Builtin.bitAnd i j)
abbrev borM : D → D → M D := iOp0 fun i j => .int (Builtin.bitOr i j)
abbrev shrM : D → D → M D := iOp (fun _ j => 0 ≤ j) fun i j => .int (i / 2 ^ j.toNat)
abbrev shlM : D → D → M D := iOp CShl fun i j => .int (i * 2 ^ j.toNat)
theorem s_sub : Sem2 c W (rI0 fun i j => .int (i - j)) subM := sem_rI0 fun _ _ _ _ => .int _
theorem s_mod : Sem2 c W (rI (fun _ j => 0 < j) fun i j => .int (i % j)) modM := sem_rI fun _ _ _ _ => .int _
theorem s_fdiv : Sem2 c W (rI CDivW fun i j => .int (i / j)) fdivM := sem_rI fun _ _ _ _ => .int _
theorem s_pow : Sem2 c W (rI CPowX fun i j => .int (i ^ j.toNat)) powM := sem_rI fun _ _ _ _ => .int _
theorem s_lt : Sem2 c W (rI0 fun i j => .bl (decide (i < j))) ltM := sem_rI0 fun _ _ _ _ => .bl _
theorem s_le : Sem2 c W (rI0 fun i j => .bl (decide (i ≤ j))) leM := sem_rI0 fun _ _ _ _ => .bl _
theorem s_gt : Sem2 c W (rI0 fun i j => .bl (decide (j < i))) gtM := sem_rI0 fun _ _ _ _ => .bl _
theorem s_ge : Sem2 c W (rI0 fun i j => .bl (decide (j ≤ i))) geM := sem_rI0 fun _ _ _ _ => .bl _
theorem s_band : Sem2 c W (rI0 fun i j => .int (Builtin.bitAnd i j)) bandM := sem_rI0 fun _ _ _ _ => .int _
theorem s_bor : Sem2 c W (rI0 fun i j => .int (Builtin.bitOr i j)) borM := sem_rI0 fun _ _ _ _ => .int _
theorem s_shr : Sem2 c W (rI (fun _ j => 0 ≤ j) fun i j => .int (i / 2 ^ j.toNat)) shrM := sem_rI fun _ _ _ _ => .int _
theorem s_shl : Sem2 c W (rI CShl fun i j => .int (i * 2 ^ j.toNat)) shlM := sem_rI fun _ _ _ _ => .int _
def negM (d : D) : M D := fun S => match d.asInt with | some i => .ok (.int (-i)) S | none => .bad
theorem s_neg : Sem1 c W (rU fun i => .int (-i)) negM := by
  intro σ H μ S x d Q s r p
  unfold negM at p
  cases h : d.asInt with
  | none => rw [h] at p; exact p.elim
  | some i =>
    rw [h] at p
    obtain ⟨rfl, rfl⟩ := r.asInt h
    exact ⟨i, rfl, p.fin s (.int _)⟩
end


def rAddA (K : PySem.W.Frag) : R2 := fun x y H Q => (rI0 (fun i j => .int (i + j))) x y H Q ∨ rCat x y H Q ∨ rCatA K x y H Q ∨ (∃ i j, x = .str i ∧ y = .str j ∧ i.length + j.length ≤ sizeLine ∧ Q (.str (i ++ j)) H)
theorem op_addA {X : Cx} : OpR X (binaryOp .Add) (rAddA X.K) := OpR.or op_add (OpR.or op_cat (OpR.or op_catA op_add_str))
def rMulA (K : PySem.W.Frag) : R2 := fun x y H Q => (rI CMulX (fun i j => .int (i * j))) x y H Q ∨ rRep x y H Q ∨ rRepT K x y H Q
theorem op_mulA {X : Cx} : OpR X (binaryOp .Mult) (rMulA X.K) := OpR.or op_mulX (OpR.or op_rep op_repT)
def lstO : Option O → Option (List D)
  | some (.lst xs) => some xs
  | _ => none
def addM (d e : D) : M D := fun S => match d with
  | .int i => (match e.asInt with | some j => .ok (.int (i + j)) S | none => .bad)
  | .tup xs => (match e.asTup with | some ys => if xs.length + ys.length ≤ sizeLine then .ok (.tup (xs ++ ys)) S else .bad | none => .bad)
  | .str x => (match e.asStr with | some y => if x.length + y.length ≤ sizeLine then .ok (.str (x ++ y)) S else .bad | none => .bad)
  | .ref i => (match e.asRef with
    | some j => (match lstO S[i]?, lstO S[j]? with
      | some xs, some ys => if xs.length + ys.length ≤ sizeLine then .ok (.ref S.length) (S ++ [.lst (xs ++ ys)]) else .bad
      | _, _ => .bad)
    | none => .bad)
  | _ => .bad
def mulM (d e : D) : M D := fun S => match e.asInt with
  | some j => (match d with
    | .int i => if CMulX i j then .ok (.int (i * j)) S else .bad
    | .ref i => (match lstO S[i]? with
      | some xs => if -(2 ^ 63) ≤ j ∧ j < 2 ^ 63 ∧ xs.length * j.toNat ≤ sizeLine then .ok (.ref S.length) (S ++ [.lst (List.replicate j.toNat xs).flatten]) else .bad
      | none => .bad)
    | .tup xs => if xs ≠ [] ∧ 2 ≤ j ∧ j ≤ 1000 ∧ xs.length ≤ 1000 then .ok (.tup (List.replicate j.toNat xs).flatten) S else .bad
    | _ => .bad)
  | none => .bad
section
variable {c : Gx} {W : WX} {μ : List Addr} {H : Hp} {S : Store}
theorem SOk.lst {i : Nat} {a : Addr} {ds : List D} (s : SOk c μ H S) (h : lstO S[i]? = some ds) (ha : μ[i]? = some a) : S[i]? = some (.lst ds) ∧ ∃ xs, H a = some (.lst xs) ∧ RpL c.K μ H ds xs := by
  cases e : S[i]? with
  | none => rw [e] at h; cases h
  | some o =>
    rw [e] at h
    cases o with
    | lst zs => cases h; exact ⟨rfl, s.obj _ _ _ e ha⟩
    | _ => cases h
theorem RpL.flat {K : PySem.W.Frag} {ds : List D} {vs : List V} (r : RpL K μ H ds vs) : ∀ n : Nat, RpL K μ H (List.replicate n ds).flatten (List.replicate n vs).flatten
  | 0 => .nil
  | n + 1 => by
    rw [List.replicate_succ, List.replicate_succ, List.flatten_cons, List.flatten_cons]
    exact r.append (RpL.flat r n)
theorem s_add : Sem2 c W (rAddA c.K) addM := by
  intro σ H μ S x y d e Q s rx ry p
  unfold addM at p
  cases rx with
  | int i =>
    simp only [] at p
    cases h : e.asInt with
    | none => rw [h] at p; exact p.elim
    | some j => rw [h] at p; obtain ⟨rfl, rfl⟩ := ry.asInt h; exact .inl ⟨i, j, rfl, rfl, p.fin s (.int _)⟩
  | str i =>
    simp only [] at p
    cases h : e.asStr with
    | none => rw [h] at p; exact p.elim
    | some j =>
      rw [h] at p; obtain ⟨rfl, rfl⟩ := ry.asStr h
      simp only [] at p
      split at p
      · rename_i hl; exact .inr (.inr (.inr ⟨i, j, rfl, rfl, hl, p.fin s (.str _)⟩))
      · exact p.elim
  | tup sq rl =>
    rename_i a xs ds
    simp only [] at p
    cases h : e.asTup with
    | none => rw [h] at p; exact p.elim
    | some es =>
      rw [h] at p
      obtain ⟨rfl, b, ys, rfl, sq2, rl2⟩ := ry.asTup h
      simp only [] at p
      split at p
      · rename_i hl
        refine .inr (.inr (.inl ⟨a, b, xs, ys, rfl, rfl, sq, sq2, by rw [← rl.length, ← rl2.length]; exact hl, fun e => ?_, fun _ e => ?_, fun _ _ q hq => p.finTup s hq (rl.append rl2)⟩))
        · subst e
          cases rl
          exact p.fin s (.tup sq2 rl2)
        · subst e
          cases rl2
          rw [List.append_nil] at p
          exact p.fin s (.tup sq rl)
      · exact p.elim
  | ref ha =>
    rename_i i a
    simp only [] at p
    cases h : e.asRef with
    | none => rw [h] at p; exact p.elim
    | some j =>
      rw [h] at p
      obtain ⟨rfl, b, rfl, hb⟩ := ry.asRef h
      simp only [] at p
      cases h1 : lstO S[i]? with
      | none => rw [h1] at p; exact p.elim
      | some xs =>
        cases h2 : lstO S[j]? with
        | none => rw [h1, h2] at p; exact p.elim
        | some ys =>
          rw [h1, h2] at p
          simp only [] at p
          split at p
          · rename_i hl
            obtain ⟨_, us, g1, g2⟩ := s.lst h1 ha
            obtain ⟨_, ws, k1, k2⟩ := s.lst h2 hb
            exact .inr (.inl ⟨a, b, us, ws, rfl, rfl, g1, k1, by rw [← g2.length, ← k2.length]; exact hl, fun q hq => p.finNew s hq ⟨_, upd_same, (g2.append k2).mono (Ex.new hq)⟩⟩)
          · exact p.elim
  | _ => exact p.elim
theorem s_mul : Sem2 c W (rMulA c.K) mulM := by
  intro σ H μ S x y d e Q s rx ry p
  unfold mulM at p
  cases h : e.asInt with
  | none => rw [h] at p; exact p.elim
  | some j =>
    rw [h] at p; obtain ⟨rfl, rfl⟩ := ry.asInt h
    cases rx with
    | int i =>
      simp only [] at p
      split at p
      · rename_i hc; exact .inl ⟨i, j, rfl, rfl, hc, p.fin s (.int _)⟩
      · exact p.elim
    | ref ha =>
      rename_i i a
      simp only [] at p
      cases h1 : lstO S[i]? with
      | none => rw [h1] at p; exact p.elim
      | some xs =>
        rw [h1] at p
        simp only [] at p
        split at p
        · rename_i hc
          obtain ⟨_, us, g1, g2⟩ := s.lst h1 ha
          exact .inr (.inl ⟨a, j, us, rfl, rfl, g1, hc.1, hc.2.1, by rw [← g2.length]; exact hc.2.2, fun q hq => p.finNew s hq ⟨_, upd_same, (g2.flat _).mono (Ex.new hq)⟩⟩)
        · exact p.elim
    | tup sq rl =>
      rename_i a xs ds
      simp only [] at p
      split at p
      · rename_i hc
        exact .inr (.inr ⟨a, j, xs, rfl, rfl, sq, fun e => hc.1 (List.eq_nil_of_length_eq_zero (by rw [rl.length, e]; rfl)), hc.2.1, hc.2.2.1, by rw [← rl.length]; exact hc.2.2.2, fun q hq => p.finTup s hq (rl.flat _)⟩)
      · exact p.elim
    | _ => exact p.elim
end


def optAll {α β : Type} (f : α → Option β) : List α → Option (List β)
  | [] => some []
  | x :: xs => match f x, optAll f xs with
    | some y, some ys => some (y :: ys)
    | _, _ => none
def pyOf (S : Store) : Nat → D → Option PyData
  | 0, _ => none
  | n + 1, d => match d with
    | .non => some .none
    | .bl b => some (.bool b)
    | .int i => some (.int i)
    | .str x => if PyData.canLay0 (.str x) = true then some (.str x) else none
    | .tup xs => (optAll (pyOf S n) xs).map .tuple
    | .ref i => match lsAt S i with
      | some xs => (optAll (pyOf S n) xs).map .list
      | none => none
def pyD (S : Store) (d : D) : Option PyData := pyOf S 199 d
def eqM (d e : D) : M D := fun S => match pyD S d, pyD S e with
  | some x, some y => .ok (.bl (PyData.eqv x y)) S
  | _, _ => .bad
def neM (d e : D) : M D := fun S => match pyD S d, pyD S e with
  | some x, some y => .ok (.bl (!PyData.eqv x y)) S
  | _, _ => .bad
def rEqX (K : PySem.W.Frag) : R2 := fun x y H Q => ∃ d e, Dp K H x d ∧ Dp K H y e ∧ d.canLay0 = true ∧ e.canLay0 = true ∧ min d.depth e.depth ≤ 199 ∧ Q (.bl (PyData.eqv d e)) H
def rNeX (K : PySem.W.Frag) : R2 := fun x y H Q => ∃ d e, Dp K H x d ∧ Dp K H y e ∧ d.canLay0 = true ∧ e.canLay0 = true ∧ min d.depth e.depth ≤ 199 ∧ Q (.bl (!PyData.eqv d e)) H
theorem op_eqX {X : Cx} {k : Nat} (hr : Room k X.A) : OpR X (compareOp .Eq) (rEqX X.K) := by
  intro pins s σ H x y v u Q I rx ry h
  obtain ⟨d, e, hd, he, sd, se, hm, q⟩ := h
  obtain ⟨as, r1⟩ := Dp.reads I d x v hd rx
  obtain ⟨bs, r2⟩ := Dp.reads I e y u he ry
  exact SeqAt.compareEq_reads r1 r2 sd se (by have := hr.un; omega) ⟨.bl _, H, I, rfl, q⟩
theorem op_neX {X : Cx} {k : Nat} (hr : Room k X.A) : OpR X (compareOp .NotEq) (rNeX X.K) := by
  intro pins s σ H x y v u Q I rx ry h
  obtain ⟨d, e, hd, he, sd, se, hm, q⟩ := h
  obtain ⟨as, r1⟩ := Dp.reads I d x v hd rx
  obtain ⟨bs, r2⟩ := Dp.reads I e y u he ry
  exact SeqAt.compareNe_reads r1 r2 sd se (by have := hr.un; omega) ⟨.bl _, H, I, rfl, q⟩
section
variable {c : Gx} {W : WX} {μ : List Addr} {H : Hp} {S : Store}
theorem py_all (s : SOk c μ H S) (f : D → Option PyData) (n : Nat) (hf : ∀ d v pd, f d = some pd → Rp c.K μ H d v → Dp c.K H v pd ∧ pd.canLay0 = true ∧ pd.depth ≤ n) :
    ∀ (ds : List D) (vs : List V) (ps : List PyData), optAll f ds = some ps → RpL c.K μ H ds vs → DpAll c.K H vs ps ∧ PyData.canLayAll0 ps = true ∧ PyData.depthAll ps ≤ n
  | [], _, _, h, .nil => by cases h; exact ⟨.nil, rfl, Nat.zero_le _⟩
  | d :: ds, _, ps, h, .cons r t => by
    unfold optAll at h
    split at h
    · rename_i y ys h1 h2
      cases h
      obtain ⟨a1, a2, a3⟩ := hf d _ y h1 r
      obtain ⟨b1, b2, b3⟩ := py_all s f n hf ds _ ys h2 t
      refine ⟨.cons a1 b1, ?_, ?_⟩
      · simp only [PyData.canLayAll0, a2, b2, Bool.and_self]
      · simp only [PyData.depthAll]; omega
    · cases h
theorem py_ok (s : SOk c μ H S) : ∀ (n : Nat) (d : D) (v : V) (pd : PyData), pyOf S n d = some pd → Rp c.K μ H d v → Dp c.K H v pd ∧ pd.canLay0 = true ∧ pd.depth ≤ n
  | 0, _, _, _, h, _ => by cases h
  | n + 1, d, v, pd, h, r => by
    unfold pyOf at h
    cases r with
    | non => cases h; exact ⟨.non, by simp only [PyData.canLay0], by simp only [PyData.depth]; omega⟩
    | bl b => cases h; exact ⟨.bl b, by simp only [PyData.canLay0], by simp only [PyData.depth]; omega⟩
    | int i => cases h; exact ⟨.int i, by simp only [PyData.canLay0], by simp only [PyData.depth]; omega⟩
    | str x =>
      simp only [] at h
      split at h
      · rename_i hc; cases h; exact ⟨.str x, hc, by simp only [PyData.depth]; omega⟩
      · cases h
    | tup sq rl =>
      rename_i a xs ds
      simp only [] at h
      cases q : optAll (pyOf S n) ds with
      | none => rw [q] at h; cases h
      | some ps =>
        rw [q] at h
        cases h
        obtain ⟨b1, b2, b3⟩ := py_all s (pyOf S n) n (fun d v pd => py_ok s n d v pd) ds xs ps q rl
        exact ⟨.tup sq b1, by simp only [PyData.canLay0]; exact b2, by simp only [PyData.depth]; omega⟩
    | ref ha =>
      rename_i i a
      simp only [] at h
      cases q0 : lsAt S i with
      | none => rw [q0] at h; cases h
      | some ds =>
        rw [q0] at h
        simp only [] at h
        obtain ⟨xs, sq, rl⟩ := s.ls q0 ha
        cases q : optAll (pyOf S n) ds with
        | none => rw [q] at h; cases h
        | some ps =>
          rw [q] at h
          cases h
          obtain ⟨b1, b2, b3⟩ := py_all s (pyOf S n) n (fun d v pd => py_ok s n d v pd) ds xs ps q rl
          exact ⟨.lst sq b1, by simp only [PyData.canLay0]; exact b2, by simp only [PyData.depth]; omega⟩
theorem s_eq : Sem2 c W (rEqX c.K) eqM := by
  intro σ H μ S x y d e Q s rx ry p
  unfold eqM at p
  cases h1 : pyD S d with
  | none => rw [h1] at p; exact p.elim
  | some pd =>
    cases h2 : pyD S e with
    | none => rw [h1, h2] at p; exact p.elim
    | some pe =>
      rw [h1, h2] at p
      obtain ⟨a1, a2, a3⟩ := py_ok s 199 d x pd h1 rx
      obtain ⟨b1, b2, b3⟩ := py_ok s 199 e y pe h2 ry
      exact ⟨pd, pe, a1, b1, a2, b2, by omega, p.fin s (.bl _)⟩
theorem s_ne : Sem2 c W (rNeX c.K) neM := by
  intro σ H μ S x y d e Q s rx ry p
  unfold neM at p
  cases h1 : pyD S d with
  | none => rw [h1] at p; exact p.elim
  | some pd =>
    cases h2 : pyD S e with
    | none => rw [h1, h2] at p; exact p.elim
    | some pe =>
      rw [h1, h2] at p
      obtain ⟨a1, a2, a3⟩ := py_ok s 199 d x pd h1 rx
      obtain ⟨b1, b2, b3⟩ := py_ok s 199 e y pe h2 ry
      exact ⟨pd, pe, a1, b1, a2, b2, by omega, p.fin s (.bl _)⟩
end


def isM (d e : D) : M D := fun S => match e with
  | .non => .ok (.bl (match d with | .non => true | _ => false)) S
  | .bl b => (match d.asBl with | some a => .ok (.bl (decide (a = b))) S | none => .bad)
  | _ => .bad
def notM (d e : D) : M D := fun S => match e with
  | .non => .ok (.bl (match d with | .non => false | _ => true)) S
  | .bl b => (match d.asBl with | some a => .ok (.bl (!decide (a = b))) S | none => .bad)
  | _ => .bad
def rIsA : R2 := fun x y H Q => (y = .non ∧ Q (.bl (decide (x = .non))) H) ∨ rIsB x y H Q
def rNotA : R2 := fun x y H Q => (y = .non ∧ Q (.bl (!decide (x = .non))) H) ∨ rNotB x y H Q
theorem op_isA {X : Cx} : OpR X (compareOp .Is) rIsA := OpR.or op_isN op_isBl
theorem op_notA {X : Cx} : OpR X (compareOp .IsNot) rNotA := OpR.or op_notN op_notBl
section
variable {c : Gx} {W : WX} {μ : List Addr} {H : Hp} {S : Store}
theorem s_is : Sem2 c W rIsA isM := by
  intro σ H μ S x y d e Q s rx ry p
  unfold isM at p
  cases ry with
  | non =>
    refine .inl ⟨rfl, ?_⟩
    cases rx <;> exact p.fin s (.bl _)
  | bl b =>
    simp only [] at p
    cases h : d.asBl with
    | none => rw [h] at p; exact p.elim
    | some a => rw [h] at p; obtain ⟨rfl, rfl⟩ := rx.asBl h; exact .inr ⟨a, b, rfl, rfl, p.fin s (.bl _)⟩
  | _ => exact p.elim
theorem s_not : Sem2 c W rNotA notM := by
  intro σ H μ S x y d e Q s rx ry p
  unfold notM at p
  cases ry with
  | non =>
    refine .inl ⟨rfl, ?_⟩
    cases rx <;> exact p.fin s (.bl _)
  | bl b =>
    simp only [] at p
    cases h : d.asBl with
    | none => rw [h] at p; exact p.elim
    | some a => rw [h] at p; obtain ⟨rfl, rfl⟩ := rx.asBl h; exact .inr ⟨a, b, rfl, rfl, p.fin s (.bl _)⟩
  | _ => exact p.elim
end
end CK
end

section
set_option Elab.async false
set_option linter.all false
set_option maxRecDepth 100000
set_option maxHeartbeats 4000000
namespace CK
open PySem PySem.Spec PyProof.Rows L2


def ixM (d e : D) : M D := fun S => match e.asInt with
  | some i => (match d with
    | .tup xs => (match atI xs i with | some x => .ok x S | none => .bad)
    | .ref k => (match lsAt S k with
      | some xs => (match atI xs i with | some x => .ok x S | none => .bad)
      | none => .bad)
    | .str z => if z.length ≤ sizeLine then (match atI z.cps.toList i with | some x => .ok (.str ⟨#[x]⟩) S | none => .bad) else .bad
    | _ => .bad)
  | none => .bad
section
variable {c : Gx} {W : WX} {μ : List Addr} {H : Hp} {S : Store}
theorem RpL.atI {ds : List D} {vs : List V} {i : Int} {d : D} (r : RpL c.K μ H ds vs) (h : L2.atI ds i = some d) : ∃ v, L2.atI vs i = some v ∧ Rp c.K μ H d v := by
  unfold L2.atI at h ⊢
  rw [r.length] at h
  cases q : ixN vs.length i with
  | none => rw [q] at h; cases h
  | some j =>
    rw [q] at h
    exact r.get h
theorem s_ix : Sem2 c W (rIx c.K) ixM := by
  intro σ H μ S x y d e Q s rx ry p
  unfold ixM at p
  cases h : e.asInt with
  | none => rw [h] at p; exact p.elim
  | some i =>
    rw [h] at p; obtain ⟨rfl, rfl⟩ := ry.asInt h
    cases rx with
    | tup sq rl =>
      rename_i a xs ds
      simp only [] at p
      cases q : L2.atI ds i with
      | none => rw [q] at p; exact p.elim
      | some z =>
        rw [q] at p
        obtain ⟨v, h1, h2⟩ := rl.atI q
        exact .inr (.inl ⟨a, xs, i, v, rfl, rfl, sq, h1, p.fin s h2⟩)
    | ref ha =>
      rename_i k a
      simp only [] at p
      cases q0 : lsAt S k with
      | none => rw [q0] at p; exact p.elim
      | some ds =>
        rw [q0] at p
        simp only [] at p
        obtain ⟨xs, sq, rl⟩ := s.ls q0 ha
        cases q : L2.atI ds i with
        | none => rw [q] at p; exact p.elim
        | some z =>
          rw [q] at p
          obtain ⟨v, h1, h2⟩ := rl.atI q
          exact .inl ⟨a, xs, i, v, rfl, rfl, sq, h1, p.fin s h2⟩
    | str z =>
      simp only [] at p
      split at p
      · rename_i hz
        cases q : L2.atI z.cps.toList i with
        | none => rw [q] at p; exact p.elim
        | some w =>
          rw [q] at p
          exact .inr (.inr ⟨z, i, w, rfl, rfl, hz, q, p.fin s (.str _)⟩)
      · exact p.elim
    | _ => exact p.elim
end


def cutD {α : Type} (xs : List α) (lo hi : Option Int) : List α := (xs.drop (HT.sIx xs.length 0 lo)).take (HT.sIx xs.length xs.length hi - HT.sIx xs.length 0 lo)
def mPart (m : Env' → M D) : Env' → M (Option Int) := fun r => mB (m r) fun d S => match d.asInt with | some i => .ok (some i) S | none => .bad
def mNoPart : Env' → M (Option Int) := fun _ S => .ok none S
def slM (d : D) (lo hi : Option Int) : M D := fun S => match d with
  | .tup xs => .ok (.tup (cutD xs lo hi)) S
  | .ref k => (match lsAt S k with
    | some xs => .ok (.ref S.length) (S ++ [.lst (cutD xs lo hi)])
    | none => .bad)
  | _ => .bad
def mSlice (o : Env' → M D) (l h : Env' → M (Option Int)) : Env' → M D := fun r => mB (o r) fun d => mB (l r) fun lo => mB (h r) fun hi => slM d lo hi
def rSlice (K : PySem.W.Frag) : V → Option Int → Option Int → Hp → VK → Prop := fun x lo hi H Q => rSlL K x lo hi H Q ∨ rSlA K x lo hi H Q
theorem sl_any {X : Cx} : SlR X (rSlice X.K) := SlR.or sl_list sl_tupA
section
variable {c : Gx} {W : WX}
def SemP (c : Gx) (W : WX) (t : TO) (m : Env' → M (Option Int)) : Prop := ∀ σ H μ r S Q, SOk c μ H S → EnvR c.K μ H r σ → Post c W σ μ H (fun o _ H' => Q o H') (m r S) → t σ H Q
theorem sem_part {t : TE} {m : Env' → M D} (h : SemE c W t m) : SemP c W (tPart t) (mPart m) := by
  intro σ H μ r S Q s e p
  refine h.go s e p fun d S1 μ1 H1 v ex s1 e1 rv p1 => ?_
  cases q : d.asInt with
  | none => rw [q] at p1; exact p1.elim
  | some i => rw [q] at p1; obtain ⟨rfl, rfl⟩ := rv.asInt q; exact ⟨i, rfl, p1 μ1 H1 .refl s1⟩
theorem sem_noPart : SemP c W tNoPart mNoPart := fun σ H μ r S Q s e p => p μ H .refl s
theorem SemP.go {β : Type} {Z : β → List Addr → Hp → Prop} {σ : L2.St} {μ : List Addr} {H : Hp} {r : Env'} {S : Store} {t : TO} {m : Env' → M (Option Int)} {k : Option Int → M β} {Q : Option Int → Hp → Prop} (h : SemP c W t m) (s : SOk c μ H S) (e : EnvR c.K μ H r σ) (p : Post c W σ μ H Z (mB (m r) k S))
    (q : ∀ d S1 μ1 H1, Ex c.K μ H μ1 H1 → SOk c μ1 H1 S1 → EnvR c.K μ1 H1 r σ → Post c W σ μ1 H1 Z (k d S1) → Q d H1) : t σ H Q :=
  h σ H μ r S Q s e ((Post.bind p).imp fun d _ _ ⟨S1, ok, ex, p1⟩ => q d S1 _ _ ex ok (e.mono ex) p1)
theorem RpL.cut {K : PySem.W.Frag} {μ : List Addr} {H : Hp} {ds : List D} {vs : List V} (r : RpL K μ H ds vs) (lo hi : Option Int) : RpL K μ H (cutD ds lo hi) (cutV vs lo hi) := by
  unfold cutD cutV
  rw [r.length]
  exact (r.drop _).take _
theorem sem_slice {to : TE} {tl th : TO} {mo : Env' → M D} {ml mh : Env' → M (Option Int)} (ho : SemE c W to mo) (hl : SemP c W tl ml) (hh : SemP c W th mh) : SemE c W (tSl (rSlice c.K) to tl th) (mSlice mo ml mh) :=
  fun σ H μ r S Q s e p => ho.go s e p fun d S1 μ1 H1 v ex1 s1 e1 rv p1 => hl.go s1 e1 p1 fun lo S2 μ2 H2 ex2 s2 e2 p2 => hh.go s2 e2 p2 fun hi S3 μ3 H3 ex3 s3 e3 p3 => by
    have rv3 := rv.mono (ex2.trans ex3)
    unfold slM at p3
    cases rv3 with
    | tup sq rl =>
      rename_i a xs ds
      simp only [] at p3
      refine .inr ⟨a, xs, rfl, sq, fun hw => ?_, fun _ q hq => p3.finTup s3 hq (rl.cut lo hi)⟩
      have : cutD ds lo hi = ds := by
        unfold cutD
        rw [rl.length, hw.1, hw.2, List.drop_zero, Nat.sub_zero, List.take_of_length_le (by rw [rl.length]; exact Nat.le_refl _)]
      rw [this] at p3
      exact p3.fin s3 (.tup sq rl)
    | ref ha =>
      rename_i k a
      simp only [] at p3
      cases q0 : lsAt S3 k with
      | none => rw [q0] at p3; exact p3.elim
      | some ds =>
        rw [q0] at p3
        obtain ⟨xs, sq, rl⟩ := s3.ls q0 ha
        exact .inl ⟨a, xs, rfl, sq, fun q hq => p3.finNew s3 hq ⟨_, upd_same, (rl.cut lo hi).mono (Ex.new hq)⟩⟩
    | _ => exact p3.elim

def mRevL (o : Env' → M D) : Env' → M D := fun r => mB (o r) fun d S => match d with
  | .ref k => (match lsAt S k with | some xs => .ok (.ref S.length) (S ++ [.lst xs.reverse]) | none => .bad)
  | _ => .bad
theorem sem_revL {to : TE} {mo : Env' → M D} (ho : SemE c W to mo) : SemE c W (tRevL c.K to) (mRevL mo) :=
  fun σ H μ r S Q s e p => ho.go s e p fun d S1 μ1 H1 v ex1 s1 e1 rv p1 => by
    cases rv with
    | ref ha =>
      rename_i k a
      simp only [] at p1
      cases q0 : lsAt S1 k with
      | none => rw [q0] at p1; exact p1.elim
      | some ds =>
        rw [q0] at p1
        obtain ⟨xs, sq, rl⟩ := s1.ls q0 ha
        exact ⟨a, xs, rfl, sq, fun q hq => p1.finNew s1 hq ⟨_, upd_same, rl.reverse.mono (Ex.new hq)⟩⟩
    | _ => exact p1.elim
end


def setM (d e v : D) : M Unit := fun S => match d.asRef, e.asInt with
  | some k, some i => (match lstO S[k]? with
    | some xs => (match ixN xs.length i with | some j => .ok () (S.set k (.lst (xs.set j v))) | none => .bad)
    | none => .bad)
  | _, _ => .bad
theorem s_set {c : Gx} {W : WX} : SemSet c W rSetL setM := by
  intro σ H μ S x y z d e u Q s rx ry rz p
  unfold setM at p
  cases h1 : d.asRef with
  | none => rw [h1] at p; exact p.elim
  | some k =>
    cases h2 : e.asInt with
    | none => rw [h1, h2] at p; exact p.elim
    | some i =>
      rw [h1, h2] at p
      obtain ⟨rfl, a, rfl, ha⟩ := rx.asRef h1
      obtain ⟨rfl, rfl⟩ := ry.asInt h2
      simp only [] at p
      cases h3 : lstO S[k]? with
      | none => rw [h3] at p; exact p.elim
      | some ds =>
        rw [h3] at p
        simp only [] at p
        obtain ⟨hS, xs, g1, g2⟩ := s.lst h3 ha
        cases h4 : ixN ds.length i with
        | none => rw [h4] at p; exact p.elim
        | some j =>
          rw [h4] at p
          rw [g2.length] at h4
          have n1 : ∀ xs', HO.lst xs ≠ .tup xs' := fun _ z => by cases z
          have n2 : ∀ u w, HO.lst xs ≠ .frz u w := fun _ _ z => by cases z
          have ex : Ex c.K μ H μ (upd H a (.lst (xs.set j z))) := Ex.put g1 n1 n2
          exact ⟨a, xs, i, j, rfl, rfl, g1, h4, p μ _ ex (s.put hS ha rfl g1 n1 n2 ⟨_, upd_same, (g2.set rz j).mono ex⟩)⟩


def mM0 (f : D → List D → M D) (o : Env' → M D) : Env' → M D := fun r => mB (o r) fun x => f x []

def lsUpd (d : D) (k : List D → Option (D × List D)) : M D := fun S => match d.asRef with
  | some i => (match lstO S[i]? with
    | some xs => (match k xs with | some (y, ys) => .ok y (S.set i (.lst ys)) | none => .bad)
    | none => .bad)
  | none => .bad
def appendM (d : D) (as : List D) : M D := match as with
  | [y] => lsUpd d fun xs => if xs.length < sizeLine then some (.non, xs ++ [y]) else none
  | _ => mBad
def popM (d : D) (as : List D) : M D := match as with
  | [] => lsUpd d fun xs => match xs[xs.length - 1]? with | some y => some (y, xs.dropLast) | none => none
  | [.int i] => lsUpd d fun xs => if -(2 ^ 63) ≤ i ∧ i < 2 ^ 63 then (match seqIndex? i xs.length with | some k => (match xs[k]? with | some y => some (y, xs.eraseIdx k) | none => none) | none => none) else none
  | _ => mBad
def clearM (d : D) (as : List D) : M D := match as with
  | [] => lsUpd d fun _ => some (.non, [])
  | _ => mBad
def insertM (d : D) (as : List D) : M D := match as with
  | [.int i, y] => lsUpd d fun xs => if xs.length < sizeLine ∧ 0 ≤ i ∧ i < 2 ^ 63 then some (.non, xs.take i.toNat ++ [y] ++ xs.drop i.toNat) else none
  | _ => mBad
def extendM (d : D) (as : List D) : M D := fun S => match as with
  | [.ref j] => (match lstO S[j]? with
    | some zs => lsUpd d (fun xs => if xs.length + zs.length ≤ sizeLine then some (.non, xs ++ zs) else none) S
    | none => .bad)
  | _ => .bad

def isLs (d : D) (S : Store) : Bool := match d.asRef with | some i => (lsAt S i).isSome | none => false
def mML (f : D → List D → M D) (o : Env' → M D) (a : Env' → M (List D)) : Env' → M D := fun r => mB (o r) fun x S => if isLs x S = true then mB (a r) (fun xs => f x xs) S else .bad
def mML0 (f : D → List D → M D) (o : Env' → M D) : Env' → M D := fun r => mB (o r) fun x S => if isLs x S = true then f x [] S else .bad
theorem isLs_ty {c : Gx} {μ : List Addr} {H : Hp} {S : Store} {d : D} {v : V} (s : SOk c μ H S) (r : Rp c.K μ H d v) (h : isLs d S = true) : tyV c.K "list" v H := by
  unfold isLs at h
  cases q : d.asRef with
  | none => rw [q] at h; cases h
  | some i =>
    rw [q] at h
    obtain ⟨rfl, a, rfl, ha⟩ := r.asRef q
    cases q2 : lsAt S i with
    | none => simp only [q2, Option.isSome_none] at h; cases h
    | some ds =>
      obtain ⟨xs, sq, _⟩ := s.ls q2 ha
      exact .inl ⟨rfl, xs, sq⟩
section
variable {c : Gx} {W : WX}
theorem s_lsUpd {σ : L2.St} {H : Hp} {μ : List Addr} {S : Store} {x : V} {d : D} {k : List D → Option (D × List D)} {Q : VK} (s : SOk c μ H S) (rx : Rp c.K μ H d x) (p : Post c W σ μ H (ZE c Q) (lsUpd d k S)) :
    ∃ i a ds xs y ys, d = .ref i ∧ x = .ref a ∧ H a = some (.lst xs) ∧ RpL c.K μ H ds xs ∧ k ds = some (y, ys) ∧ ∀ v vs, Rp c.K μ H y v → RpL c.K μ H ys vs → Q v (upd H a (.lst vs)) := by
  unfold lsUpd at p
  cases h1 : d.asRef with
  | none => rw [h1] at p; exact p.elim
  | some i =>
    rw [h1] at p
    obtain ⟨rfl, a, rfl, ha⟩ := rx.asRef h1
    simp only [] at p
    cases h3 : lstO S[i]? with
    | none => rw [h3] at p; exact p.elim
    | some ds =>
      rw [h3] at p
      simp only [] at p
      obtain ⟨hS, xs, g1, g2⟩ := s.lst h3 ha
      cases h4 : k ds with
      | none => rw [h4] at p; exact p.elim
      | some yy =>
        obtain ⟨y, ys⟩ := yy
        rw [h4] at p
        refine ⟨i, a, ds, xs, y, ys, rfl, rfl, g1, g2, h4, fun v vs rv rvs => ?_⟩
        have n1 : ∀ xs', HO.lst xs ≠ .tup xs' := fun _ z => by cases z
        have n2 : ∀ u w, HO.lst xs ≠ .frz u w := fun _ _ z => by cases z
        have ex : Ex c.K μ H μ (upd H a (.lst vs)) := Ex.put g1 n1 n2
        exact p.finPut s hS ha rfl g1 n1 n2 ⟨_, upd_same, rvs.mono ex⟩ rv
theorem tyV_lst {H : Hp} {a : Addr} {xs : List V} (h : H a = some (.lst xs)) : tyV c.K "list" (.ref a) H := .inl ⟨rfl, xs, .inl (.inl h)⟩

theorem sem_bm {t : V → List V → Hp → VK → Prop} {f : D → List D → M D} {to : TE} {ta : TA} {mo : Env' → M D} {ma : Env' → M (List D)} (h : SemM c W t f)
    (ho : SemE c W to mo) (ha : SemA c W ta ma) : SemE c W (tBM c.K "list" t to ta) (mML f mo ma) := by
  intro σ H μ r S Q s e p
  refine ho.go s e p fun d S1 μ1 H1 v ex s1 e1 rv p1 => ?_
  split at p1
  · rename_i hl
    refine ⟨isLs_ty s1 rv hl, ha.go s1 e1 p1 fun ds S2 μ2 H2 vs ex2 s2 e2 rvs p2 => h σ H2 μ2 S2 v d vs ds Q s2 (rv.mono ex2) rvs p2⟩
  · exact p1.elim
theorem sem_bm0 {t : V → List V → Hp → VK → Prop} {f : D → List D → M D} {to : TE} {mo : Env' → M D} (h : SemM c W t f) (ho : SemE c W to mo) : SemE c W (tBM0 c.K "list" t to) (mML0 f mo) := by
  intro σ H μ r S Q s e p
  refine ho.go s e p fun d S1 μ1 H1 v ex s1 e1 rv p1 => ?_
  split at p1
  · rename_i hl
    exact ⟨isLs_ty s1 rv hl, h σ H1 μ1 S1 v d [] [] Q s1 rv .nil p1⟩
  · exact p1.elim
theorem s_append : SemM c W rAppend appendM := by
  intro σ H μ S x d xs ds Q s rx rxs p
  unfold appendM at p
  split at p
  · rename_i y
    obtain ⟨v, rfl, rv⟩ := rpl1 rxs
    obtain ⟨i, a, es, us, z, zs, rfl, rfl, g1, g2, hk, q⟩ := s_lsUpd s rx p
    split at hk
    · rename_i hl
      cases hk
      exact ⟨a, us, v, rfl, rfl, g1, by rw [← g2.length]; exact hl, q _ _ .non (g2.append (.cons rv .nil))⟩
    · cases hk
  · exact p.elim
def rPopA : V → List V → Hp → VK → Prop := fun x xs H Q => rPop x xs H Q ∨ rPopAt x xs H Q
theorem s_pop : SemM c W rPopA popM := by
  intro σ H μ S x d xs ds Q s rx rxs p
  unfold popM at p
  split at p
  · cases rxs
    obtain ⟨i, a, es, us, z, zs, rfl, rfl, g1, g2, hk, q⟩ := s_lsUpd s rx p
    cases h : es[es.length - 1]? with
    | none => rw [h] at hk; cases hk
    | some y =>
      rw [h] at hk
      cases hk
      obtain ⟨v, h1, h2⟩ := g2.get h
      exact .inl ⟨a, us, v, rfl, rfl, g1, by rw [← g2.length]; exact h1, q _ _ h2 g2.dropLast⟩
  · rename_i i0
    obtain ⟨v, rfl, rv⟩ := rpl1 rxs
    cases rpInt rv
    obtain ⟨i, a, es, us, z, zs, rfl, rfl, g1, g2, hk, q⟩ := s_lsUpd s rx p
    split at hk
    · rename_i hb
      cases h : seqIndex? i0 es.length with
      | none => rw [h] at hk; cases hk
      | some j =>
        rw [h] at hk
        simp only [] at hk
        cases h2 : es[j]? with
        | none => rw [h2] at hk; cases hk
        | some y =>
          rw [h2] at hk
          cases hk
          obtain ⟨v, h3, h4⟩ := g2.get h2
          exact .inr ⟨a, us, i0, j, v, rfl, rfl, g1, hb.1, hb.2, by rw [← g2.length]; exact h, h3, q _ _ h4 (g2.eraseIdx j)⟩
    · cases hk
  · exact p.elim
theorem s_clear : SemM c W rClear clearM := by
  intro σ H μ S x d xs ds Q s rx rxs p
  unfold clearM at p
  split at p
  · cases rxs
    obtain ⟨i, a, es, us, z, zs, rfl, rfl, g1, g2, hk, q⟩ := s_lsUpd s rx p
    cases hk
    exact ⟨a, us, rfl, rfl, g1, q _ _ .non .nil⟩
  · exact p.elim
theorem s_insert : SemM c W (fun x vs H Q => ∃ (l : Addr) (xs : List V) (i : Int) (y : V), x = .ref l ∧ vs = [.int i, y] ∧ H l = some (.lst xs) ∧ xs.length < sizeLine ∧ 0 ≤ i ∧ i < 2 ^ 63 ∧
    Q .non (upd H l (.lst (xs.take i.toNat ++ [y] ++ xs.drop i.toNat)))) insertM := by
  intro σ H μ S x d xs ds Q s rx rxs p
  unfold insertM at p
  split at p
  · rename_i i0 y0
    obtain ⟨v, u, rfl, rv, ru⟩ := rpl2 rxs
    cases rpInt rv
    obtain ⟨i, a, es, us, z, zs, rfl, rfl, g1, g2, hk, q⟩ := s_lsUpd s rx p
    split at hk
    · rename_i hb
      cases hk
      exact ⟨a, us, i0, u, rfl, rfl, g1, by rw [← g2.length]; exact hb.1, hb.2.1, hb.2.2, q _ _ .non (((g2.take _).append (.cons ru .nil)).append (g2.drop _))⟩
    · cases hk
  · exact p.elim
theorem s_extend : SemM c W rExtend extendM := by
  intro σ H μ S x d xs ds Q s rx rxs p
  unfold extendM at p
  split at p
  · rename_i j
    obtain ⟨v, rfl, rv⟩ := rpl1 rxs
    cases rv with
    | ref hb =>
      rename_i b
      cases h : lstO S[j]? with
      | none => rw [h] at p; exact p.elim
      | some zs0 =>
        rw [h] at p
        obtain ⟨_, ws, k1, k2⟩ := s.lst h hb
        obtain ⟨i, a, es, us, z, zs, rfl, rfl, g1, g2, hk, q⟩ := s_lsUpd s rx p
        split at hk
        · rename_i hl
          cases hk
          exact ⟨a, b, us, ws, rfl, rfl, g1, k1, by rw [← g2.length, ← k2.length]; exact hl, q _ _ .non (g2.append k2)⟩
        · cases hk
  · exact p.elim
end


def lenM (as : List D) : M D := fun S => match as with
  | [d] => (match d with
    | .tup xs => .ok (.int xs.length) S
    | .ref k => (match S[k]? with
      | some (.lst xs) => .ok (.int xs.length) S
      | some (.fro xs) => .ok (.int xs.length) S
      | some (.dK xs) => .ok (.int xs.length) S
      | _ => .bad)
    | .str z => if z.length ≤ sizeLine then .ok (.int z.length) S else .bad
    | _ => .bad)
  | _ => .bad
def rLenA (K : PySem.W.Frag) : List V → Hp → VK → Prop := fun xs H Q => (∃ p ys, xs = [.ref p] ∧ (SqL K H p ys ∨ SqT K H p ys) ∧ Q (.int ys.length) H) ∨ (∃ z, xs = [.str z] ∧ z.length ≤ sizeLine ∧ Q (.int z.length) H) ∨ (∃ a kvs, xs = [V.ref a] ∧ H a = some (.dK kvs) ∧ Q (.int kvs.length) H)
theorem call_lenA {X : Cx} : CallR X (.builtin "len") (rLenA X.K) := CallR.or call_len_seq (CallR.or call_len_str call_lenD)
def absM (as : List D) : M D := fun S => match as with | [.int i] => .ok (.int (if i < 0 then -i else i)) S | _ => .bad
def intM (as : List D) : M D := fun S => match as with | [.int i] => .ok (.int i) S | [.bl b] => .ok (.int (if b then 1 else 0)) S | _ => .bad
def strM (as : List D) : M D := fun S => match as with | [.int i] => if i.natAbs.log2 < 1920 then .ok (.str (toString i)) S else .bad | _ => .bad
def listM (as : List D) : M D := fun S => match as with
  | [.tup xs] => .ok (.ref S.length) (S ++ [.lst xs])
  | [.ref k] => (match lsAt S k with | some xs => .ok (.ref S.length) (S ++ [.lst xs]) | none => .bad)
  | _ => .bad
def tupleM (as : List D) : M D := fun S => match as with
  | [.tup xs] => .ok (.tup xs) S
  | [.ref k] => (match lsAt S k with | some xs => .ok (.tup xs) S | none => .bad)
  | _ => .bad
def asInts : List D → Option (List Int) := optAll D.asInt
def asBls : List D → Option (List Bool) := optAll D.asBl
def ofList {α : Type} (f : List D → Option α) (k : α → M D) (as : List D) : M D := fun S => match as with
  | [.ref i] => (match lsAt S i with
    | some xs => (match f xs with | some a => k a S | none => .bad)
    | none => .bad)
  | _ => .bad
def sumM : List D → M D := ofList asInts fun ns => mP (.int ns.sum)
def maxI : List Int → Int → Int := fun l d => l.foldl (fun a b => if b > a then b else a) d
def minI : List Int → Int → Int := fun l d => l.foldl (fun a b => if b < a then b else a) d
def maxM (as : List D) : M D := fun S => match as with
  | [.int i, .int j] => .ok (.int (if j > i then j else i)) S
  | [.tup xs] => (match asInts xs with | some (n :: r) => .ok (.int (maxI r n)) S | _ => .bad)
  | as => ofList asInts (fun ns => match ns with | n :: r => mP (.int (maxI r n)) | [] => mBad) as S
def minM (as : List D) : M D := fun S => match as with
  | [.int i, .int j] => .ok (.int (if j < i then j else i)) S
  | [.tup xs] => (match asInts xs with | some (n :: r) => .ok (.int (minI r n)) S | _ => .bad)
  | as => ofList asInts (fun ns => match ns with | n :: r => mP (.int (minI r n)) | [] => mBad) as S
def allM : List D → M D := ofList asBls fun bs => mP (.bl (bs.all id))
def anyM : List D → M D := ofList asBls fun bs => mP (.bl (bs.any id))
theorem asInts_eq : ∀ {ds : List D} {ns : List Int}, asInts ds = some ns → ds = ns.map D.int
  | [], ns, h => by cases h; rfl
  | d :: ds, ns, h => by
    unfold asInts optAll at h
    split at h
    · rename_i y ys h1 h2
      cases h
      have : d = .int y := by cases d <;> simp only [D.asInt, reduceCtorEq, Option.some.injEq] at h1; rw [h1]
      rw [this, asInts_eq (ns := ys) h2]; rfl
    · cases h
theorem asBls_eq : ∀ {ds : List D} {ns : List Bool}, asBls ds = some ns → ds = ns.map D.bl
  | [], ns, h => by cases h; rfl
  | d :: ds, ns, h => by
    unfold asBls optAll at h
    split at h
    · rename_i y ys h1 h2
      cases h
      have : d = .bl y := by cases d <;> simp only [D.asBl, reduceCtorEq, Option.some.injEq] at h1; rw [h1]
      rw [this, asBls_eq (ns := ys) h2]; rfl
    · cases h
theorem asInts_map (ns : List Int) : asInts (ns.map D.int) = some ns := by
  induction ns with
  | nil => rfl
  | cons n r ih =>
    unfold asInts at ih ⊢
    simp only [List.map_cons, optAll, D.asInt, ih]
theorem asBls_map (ns : List Bool) : asBls (ns.map D.bl) = some ns := by
  induction ns with
  | nil => rfl
  | cons n r ih =>
    unfold asBls at ih ⊢
    simp only [List.map_cons, optAll, D.asBl, ih]
section
variable {c : Gx} {W : WX} {μ : List Addr} {H : Hp}
theorem RpL.ofInts : ∀ {ns : List Int} {vs : List V}, RpL c.K μ H (ns.map D.int) vs → vs = ns.map V.int
  | [], _, .nil => rfl
  | n :: r, _, .cons a b => by cases a; rw [RpL.ofInts b]; rfl
theorem RpL.ofBls : ∀ {ns : List Bool} {vs : List V}, RpL c.K μ H (ns.map D.bl) vs → vs = ns.map V.bl
  | [], _, .nil => rfl
  | n :: r, _, .cons a b => by cases a; rw [RpL.ofBls b]; rfl
theorem maxI_spec : ∀ (l : List Int) (d : Int), maxI l d ∈ d :: l ∧ ∀ y ∈ d :: l, y ≤ maxI l d
  | [], d => ⟨List.mem_cons_self, fun y h => by simp at h; subst h; exact Int.le_refl _⟩
  | x :: r, d => by
    have ih := maxI_spec r (if x > d then x else d)
    show maxI r (if x > d then x else d) ∈ _ ∧ ∀ y ∈ _, y ≤ maxI r (if x > d then x else d)
    have h0 := ih.2 _ List.mem_cons_self
    have h1 : d ≤ (if x > d then x else d) ∧ x ≤ (if x > d then x else d) := by split <;> omega
    refine ⟨?_, fun y h => ?_⟩
    · rcases List.mem_cons.mp ih.1 with h | h
      · rw [h]; split <;> simp
      · simp [h]
    · rcases List.mem_cons.mp h with h | h
      · rw [h]; exact Int.le_trans h1.1 h0
      · rcases List.mem_cons.mp h with h | h
        · rw [h]; exact Int.le_trans h1.2 h0
        · exact ih.2 y (List.mem_cons_of_mem _ h)
theorem minI_spec : ∀ (l : List Int) (d : Int), minI l d ∈ d :: l ∧ ∀ y ∈ d :: l, minI l d ≤ y
  | [], d => ⟨List.mem_cons_self, fun y h => by simp at h; subst h; exact Int.le_refl _⟩
  | x :: r, d => by
    have ih := minI_spec r (if x < d then x else d)
    show minI r (if x < d then x else d) ∈ _ ∧ ∀ y ∈ _, minI r (if x < d then x else d) ≤ y
    have h0 := ih.2 _ List.mem_cons_self
    have h1 : (if x < d then x else d) ≤ d ∧ (if x < d then x else d) ≤ x := by split <;> omega
    refine ⟨?_, fun y h => ?_⟩
    · rcases List.mem_cons.mp ih.1 with h | h
      · rw [h]; split <;> simp
      · simp [h]
    · rcases List.mem_cons.mp h with h | h
      · rw [h]; exact Int.le_trans h0 h1.1
      · rcases List.mem_cons.mp h with h | h
        · rw [h]; exact Int.le_trans h0 h1.2
        · exact ih.2 y (List.mem_cons_of_mem _ h)
theorem s_len : SemC c W (rLenA c.K) lenM := by
  intro σ H μ S xs ds Q s r p
  unfold lenM at p
  split at p
  · rename_i d
    obtain ⟨v, rfl, rv⟩ := rpl1 r
    cases rv with
    | tup sq rl => rename_i a us es; exact .inl ⟨a, us, rfl, .inr sq, by rw [← rl.length]; exact p.fin s (.int _)⟩
    | str z =>
      simp only [] at p
      split at p
      · rename_i hz; exact .inr (.inl ⟨z, rfl, hz, p.fin s (.int _)⟩)
      · exact p.elim
    | ref ha =>
      rename_i k a
      simp only [] at p
      cases q : S[k]? with
      | none => rw [q] at p; exact p.elim
      | some o =>
        rw [q] at p
        cases o with
        | lst es => obtain ⟨us, g1, g2⟩ := s.obj _ _ _ q ha; exact .inl ⟨a, us, rfl, .inl (.inl (.inl g1)), by rw [← g2.length]; exact p.fin s (.int _)⟩
        | fro es => obtain ⟨us, g1, g2⟩ := s.obj _ _ _ q ha; exact .inl ⟨a, us, rfl, .inl g1.sq, by rw [← g2.length]; exact p.fin s (.int _)⟩
        | dK es =>
          obtain ⟨us, g1, g2⟩ := s.obj _ _ _ q ha
          have hl : es.length = us.length := by have := congrArg List.length g2.1; simpa using this
          exact .inr (.inr ⟨a, us, rfl, g1, by rw [← hl]; exact p.fin s (.int _)⟩)
        | _ => exact p.elim
    | _ => exact p.elim
  · exact p.elim
theorem s_abs : SemC c W (fun xs H Q => ∃ i, xs = [.int i] ∧ Q (.int (if i < 0 then -i else i)) H) absM := by
  intro σ H μ S xs ds Q s r p
  unfold absM at p
  split at p
  · obtain ⟨v, rfl, rv⟩ := rpl1 r; cases rpInt rv; exact ⟨_, rfl, p.fin s (.int _)⟩
  · exact p.elim
theorem s_int : SemC c W (fun xs H Q => (∃ i, xs = [.int i] ∧ Q (.int i) H) ∨ ∃ k, xs = [.bl k] ∧ Q (.int (if k then 1 else 0)) H) intM := by
  intro σ H μ S xs ds Q s r p
  unfold intM at p
  split at p
  · obtain ⟨v, rfl, rv⟩ := rpl1 r; cases rpInt rv; exact .inl ⟨_, rfl, p.fin s (.int _)⟩
  · obtain ⟨v, rfl, rv⟩ := rpl1 r; cases rv; exact .inr ⟨_, rfl, p.fin s (.int _)⟩
  · exact p.elim
theorem s_str : SemC c W (fun xs H Q => ∃ i, xs = [.int i] ∧ i.natAbs.log2 < 1920 ∧ Q (.str (toString i)) H) strM := by
  intro σ H μ S xs ds Q s r p
  unfold strM at p
  split at p
  · obtain ⟨v, rfl, rv⟩ := rpl1 r
    cases rpInt rv
    split at p
    · rename_i h; exact ⟨_, rfl, h, p.fin s (.str _)⟩
    · exact p.elim
  · exact p.elim
theorem s_list : SemC c W (fun xs H Q => ∃ p ys, xs = [.ref p] ∧ (SqL c.K H p ys ∨ SqT c.K H p ys) ∧ ∀ l, H l = none → Q (.ref l) (upd H l (.lst ys))) listM := by
  intro σ H μ S xs ds Q s r p
  unfold listM at p
  split at p
  · obtain ⟨v, rfl, rv⟩ := rpl1 r
    cases rv with
    | tup sq rl => exact ⟨_, _, rfl, .inr sq, fun l hl => p.finNew s hl ⟨_, upd_same, rl.mono (Ex.new hl)⟩⟩
  · rename_i k
    obtain ⟨v, rfl, rv⟩ := rpl1 r
    cases rv with
    | ref ha =>
      cases q0 : lsAt S k with
      | none => rw [q0] at p; exact p.elim
      | some es =>
        rw [q0] at p
        obtain ⟨us, sq, rl⟩ := s.ls q0 ha
        exact ⟨_, _, rfl, .inl sq, fun l hl => p.finNew s hl ⟨_, upd_same, rl.mono (Ex.new hl)⟩⟩
  · exact p.elim
theorem s_tuple : SemC c W (fun xs H Q => ∃ p ys, xs = [.ref p] ∧ ((SqL c.K H p ys ∧ ∀ l, H l = none → Q (.ref l) (upd H l (.tup ys))) ∨ (SqT c.K H p ys ∧ Q (.ref p) H))) tupleM := by
  intro σ H μ S xs ds Q s r p
  unfold tupleM at p
  split at p
  · obtain ⟨v, rfl, rv⟩ := rpl1 r
    cases rv with
    | tup sq rl => exact ⟨_, _, rfl, .inr ⟨sq, p.fin s (.tup sq rl)⟩⟩
  · rename_i k
    obtain ⟨v, rfl, rv⟩ := rpl1 r
    cases rv with
    | ref ha =>
      cases q0 : lsAt S k with
      | none => rw [q0] at p; exact p.elim
      | some es =>
        rw [q0] at p
        obtain ⟨us, sq, rl⟩ := s.ls q0 ha
        exact ⟨_, _, rfl, .inl ⟨sq, fun l hl => p.finTup s hl rl⟩⟩
  · exact p.elim
theorem s_ofList {α : Type} {f : List D → Option α} {k : α → M D} {σ : L2.St} {S : Store} {xs : List V} {ds : List D} {Q : VK} (s : SOk c μ H S) (r : RpL c.K μ H ds xs) (p : Post c W σ μ H (ZE c Q) (ofList f k ds S)) :
    ∃ a es us x, xs = [.ref a] ∧ SqL c.K H a us ∧ RpL c.K μ H es us ∧ f es = some x ∧ Post c W σ μ H (ZE c Q) (k x S) := by
  unfold ofList at p
  split at p
  · rename_i i
    obtain ⟨v, rfl, rv⟩ := rpl1 r
    cases rv with
    | ref ha =>
      cases q0 : lsAt S i with
      | none => rw [q0] at p; exact p.elim
      | some es =>
        rw [q0] at p
        obtain ⟨us, sq, rl⟩ := s.ls q0 ha
        simp only [] at p
        cases q1 : f es with
        | none => rw [q1] at p; exact p.elim
        | some x => rw [q1] at p; exact ⟨_, es, us, x, rfl, sq, rl, q1, p⟩
  · exact p.elim
theorem s_sum : SemC c W (rSum c.K) sumM := by
  intro σ H μ S xs ds Q s r p
  obtain ⟨a, es, us, ns, rfl, sq, rl, h, p⟩ := s_ofList s r p
  rw [asInts_eq h] at rl
  rw [rl.ofInts] at sq
  exact ⟨a, ns, rfl, sq, p.fin s (.int _)⟩
theorem s_all : SemC c W (rAll c.K) allM := by
  intro σ H μ S xs ds Q s r p
  obtain ⟨a, es, us, ns, rfl, sq, rl, h, p⟩ := s_ofList s r p
  rw [asBls_eq h] at rl
  rw [rl.ofBls] at sq
  exact ⟨a, ns, rfl, sq, p.fin s (.bl _)⟩
theorem s_any : SemC c W (rAny c.K) anyM := by
  intro σ H μ S xs ds Q s r p
  obtain ⟨a, es, us, ns, rfl, sq, rl, h, p⟩ := s_ofList s r p
  rw [asBls_eq h] at rl
  rw [rl.ofBls] at sq
  exact ⟨a, ns, rfl, sq, p.fin s (.bl _)⟩
end
def rMaxT (K : PySem.W.Frag) : List V → Hp → VK → Prop := fun xs H Q => ∃ a n ns, xs = [.ref a] ∧ SqT K H a ((n :: ns).map V.int) ∧ Q (.int (maxI ns n)) H
def rMinT (K : PySem.W.Frag) : List V → Hp → VK → Prop := fun xs H Q => ∃ a n ns, xs = [.ref a] ∧ SqT K H a ((n :: ns).map V.int) ∧ Q (.int (minI ns n)) H
theorem maxI_fold : ∀ (ns : List Int) (n : Int), ns.foldl max n = maxI ns n
  | [], _ => rfl
  | k :: r, n => by
    show r.foldl max (max n k) = maxI r (if k > n then k else n)
    rw [maxI_fold r]
    congr 1
    split <;> omega
theorem minI_fold : ∀ (ns : List Int) (n : Int), ns.foldl min n = minI ns n
  | [], _ => rfl
  | k :: r, n => by
    show r.foldl min (min n k) = minI r (if k < n then k else n)
    rw [minI_fold r]
    congr 1
    split <;> omega
theorem dpInts {K : PySem.W.Frag} {H : Hp} : ∀ ns : List Int, DpAll K H (ns.map V.int) (ns.map PyData.int)
  | [] => .nil
  | n :: r => .cons (.int n) (dpInts r)
theorem depthInts : ∀ ns : List Int, PyData.depthAll (ns.map PyData.int) = 0
  | [] => by simp only [List.map_nil, PyData.depthAll]
  | n :: r => by simp only [List.map_cons, PyData.depthAll, PyData.depth, depthInts r]; rfl
theorem alikeInts (ns : List Int) : PySem.W.AlikeAll (ns.map PyData.int) := by
  refine ⟨fun x hx y hy => ?_, fun x hx => ?_⟩
  · obtain ⟨i, _, rfl⟩ := List.mem_map.mp hx
    obtain ⟨j, _, rfl⟩ := List.mem_map.mp hy
    simp only [PySem.W.alike]
  · obtain ⟨i, _, rfl⟩ := List.mem_map.mp hx
    exact fun z => by cases z
theorem cr_maxT {X : Cx} {k : Nat} (hr : Room k X.A) : CallR X (.builtin "max") (rMaxT X.K) := by
  intro pins s σ H vs us Q I r h
  obtain ⟨a, n, ns, rfl, hs, q⟩ := h
  obtain ⟨its, rv, hl, _⟩ := I.tuple hs
  rw [Vals.ref1 r]
  obtain ⟨as, hra⟩ := Dp.readsAll I _ _ its (dpInts (n :: ns)) rv
  rw [List.map_cons] at hra
  have ha := alikeInts (n :: ns)
  have hd := depthInts (n :: ns)
  rw [List.map_cons] at ha hd
  refine PySem.W.max_tuple_data hr.hd hl hra ha (by rw [hd]; have := hr.un; omega) fun i v h' tk bs _ hv hk => ?_
  rw [PySem.W.maxD_ints, maxI_fold] at hv
  cases hv
  exact ⟨.int _, H, I.kept hk, ⟨_, rfl⟩, q⟩
theorem cr_minT {X : Cx} {k : Nat} (hr : Room k X.A) : CallR X (.builtin "min") (rMinT X.K) := by
  intro pins s σ H vs us Q I r h
  obtain ⟨a, n, ns, rfl, hs, q⟩ := h
  obtain ⟨its, rv, hl, _⟩ := I.tuple hs
  rw [Vals.ref1 r]
  obtain ⟨as, hra⟩ := Dp.readsAll I _ _ its (dpInts (n :: ns)) rv
  rw [List.map_cons] at hra
  have ha := alikeInts (n :: ns)
  have hd := depthInts (n :: ns)
  rw [List.map_cons] at ha hd
  refine PySem.W.min_tuple_data hr.hd hl hra ha (by rw [hd]; have := hr.un; omega) fun i v h' tk bs _ hv hk => ?_
  rw [PySem.W.minD_ints, minI_fold] at hv
  cases hv
  exact ⟨.int _, H, I.kept hk, ⟨_, rfl⟩, q⟩
def rMaxA (K : PySem.W.Frag) : List V → Hp → VK → Prop := fun xs H Q => (∃ i j, xs = [.int i, .int j] ∧ Q (.int (if j > i then j else i)) H) ∨ rMaxT K xs H Q ∨ rMax K xs H Q
def rMinA (K : PySem.W.Frag) : List V → Hp → VK → Prop := fun xs H Q => (∃ i j, xs = [.int i, .int j] ∧ Q (.int (if j < i then j else i)) H) ∨ rMinT K xs H Q ∨ rMin K xs H Q
theorem call_maxA {X : Cx} {k : Nat} (hr : Room k X.A) (hc : X.calm = true) : CallR X (.builtin "max") (rMaxA X.K) := CallR.or (call_max2 hc) (CallR.or (cr_maxT hr) (cr_max hc))
theorem call_minA {X : Cx} {k : Nat} (hr : Room k X.A) (hc : X.calm = true) : CallR X (.builtin "min") (rMinA X.K) := CallR.or (call_min2 hc) (CallR.or (cr_minT hr) (cr_min hc))
section
variable {c : Gx} {W : WX} {μ : List Addr} {H : Hp}
theorem s_max : SemC c W (rMaxA c.K) maxM := by
  intro σ H μ S xs ds Q s r p
  unfold maxM at p
  split at p
  · obtain ⟨v, u, rfl, rv, ru⟩ := rpl2 r; cases rpInt rv; cases rpInt ru; exact .inl ⟨_, _, rfl, p.fin s (.int _)⟩
  · rename_i ds
    obtain ⟨v, rfl, rv⟩ := rpl1 r
    split at p
    · rename_i n ns h
      cases rv with
      | tup sq rl =>
        rw [asInts_eq h] at rl
        rw [rl.ofInts] at sq
        exact .inr (.inl ⟨_, n, ns, rfl, sq, p.fin s (.int _)⟩)
    · exact p.elim
  · obtain ⟨a, es, us, ns, rfl, sq, rl, h, p⟩ := s_ofList s r p
    rw [asInts_eq h] at rl
    rw [rl.ofInts] at sq
    cases ns with
    | nil => exact p.elim
    | cons n l =>
      refine .inr (.inr ⟨a, n :: l, rfl, sq, Nat.zero_lt_succ _, fun m h1 h2 => ?_⟩)
      have h3 := maxI_spec l n
      have : m = maxI l n := by
        have a1 := h2 _ h3.1
        have a2 := h3.2 _ h1
        omega
      rw [this]
      exact p.fin s (.int _)
theorem s_min : SemC c W (rMinA c.K) minM := by
  intro σ H μ S xs ds Q s r p
  unfold minM at p
  split at p
  · obtain ⟨v, u, rfl, rv, ru⟩ := rpl2 r; cases rpInt rv; cases rpInt ru; exact .inl ⟨_, _, rfl, p.fin s (.int _)⟩
  · rename_i ds
    obtain ⟨v, rfl, rv⟩ := rpl1 r
    split at p
    · rename_i n ns h
      cases rv with
      | tup sq rl =>
        rw [asInts_eq h] at rl
        rw [rl.ofInts] at sq
        exact .inr (.inl ⟨_, n, ns, rfl, sq, p.fin s (.int _)⟩)
    · exact p.elim
  · obtain ⟨a, es, us, ns, rfl, sq, rl, h, p⟩ := s_ofList s r p
    rw [asInts_eq h] at rl
    rw [rl.ofInts] at sq
    cases ns with
    | nil => exact p.elim
    | cons n l =>
      refine .inr (.inr ⟨a, n :: l, rfl, sq, Nat.zero_lt_succ _, fun m h1 h2 => ?_⟩)
      have h3 := minI_spec l n
      have : m = minI l n := by
        have a1 := h2 _ h3.1
        have a2 := h3.2 _ h1
        omega
      rw [this]
      exact p.fin s (.int _)
end
end CK
end

section
set_option Elab.async false
set_option linter.all false
set_option maxRecDepth 100000
set_option maxHeartbeats 4000000
namespace CK
open PySem PySem.Spec PyProof.Rows L2


def iSeq (K : PySem.W.Frag) (tl : TE) : TI := fun σ H R => tl σ H fun x H1 => ∃ a, x = .ref a ∧ ((∃ xs, SqL K H1 a xs) ∧ R (Itl K a) H1 ∨ (∃ xs, SqT K H1 a xs) ∧ R (Itt K a) H1)
theorem pi_seq {X : Cx} {tg l : Expr} {tl : TE} (hl : PE X l tl) : PI X tg l (iSeq X.K tl) := by
  refine ⟨fun pins s σ H R I h => ?_⟩
  refine thn (hl.run pins s σ H _ I h) fun v s1 ⟨x, H1, I1, r1, q1⟩ => ?_
  obtain ⟨a, e, ⟨⟨xs, hq⟩, q⟩ | ⟨⟨xs, hq⟩, q⟩⟩ := q1
  · subst e
    cases r1
    obtain ⟨its, rv, p, hz⟩ := I1.list hq
    refine wpAny_pyIter_list p.isList ?_
    refine ⟨s1.heap.objs.size, [s1.heap.objs.size], _, _, H1, rfl, I1.kept (t' := s1.toks) fun b o e => Heap.get?_push_of_some _ e, turn_list a _, ⟨_, Heap.get?_push_size _ rfl, rfl, rfl⟩, fun b hb => ?_, q⟩
    have e : b = s1.heap.objs.size := by simpa using hb
    subst e
    exact I1.fpOk (Nat.le_refl _) (I1.hok.fresh (Nat.le_refl _))
  · subst e
    cases r1
    obtain ⟨its, rv, p, hz⟩ := I1.tuple hq
    refine wpAny_pyIter_tuple (show s1.heap.IsTuple a its.toArray from p) ?_
    refine ⟨s1.heap.objs.size, [s1.heap.objs.size], _, _, H1, rfl, I1.kept (t' := s1.toks) fun b o e => Heap.get?_push_of_some _ e, turn_tuple a _, ⟨_, Heap.get?_push_size _ rfl, rfl, rfl⟩, fun b hb => ?_, q⟩
    have e : b = s1.heap.objs.size := by simpa using hb
    subst e
    exact I1.fpOk (Nat.le_refl _) (I1.hok.fresh (Nat.le_refl _))
theorem sem_seqI {c : Gx} {W : WX} {tl : TE} {m : Env' → M D} (h : SemE c W tl m) : SemI c W (iSeq c.K tl) (mSrc m) := sem_iSeq h


def srcV (k n : Nat) : Src := fun i S => match lsAt S k with | some xs => if i < n then (match xs[n - 1 - i]? with | some x => some (some x) | none => none) else some none | none => none
def srcVT (xs : List D) : Src := fun i _ => if i < xs.length then some xs[xs.length - 1 - i]? else some none
def mRevS (m : Env' → M D) : Env' → M Src := fun r => mB (m r) fun d S => match d with
  | .tup xs => .ok (srcVT xs) S
  | .ref k => (match lsAt S k with | some xs => .ok (srcV k xs.length) S | none => .bad)
  | _ => .bad
def srcE (k : Nat) : Src := fun i S => match lsAt S k with
  | some xs => (match xs[i]? with | some x => some (some (.tup [.int (i : Nat), x])) | none => some none)
  | none => none
def srcET (xs : List D) : Src := fun i _ => match xs[i]? with | some x => some (some (.tup [.int (i : Nat), x])) | none => some none
def mEnum (a : Env' → M (List D)) : Env' → M Src := fun r => mB (a r) fun ds S => match ds with
  | [.ref k] => (match lsAt S k with | some _ => .ok (srcE k) S | none => .bad)
  | _ => .bad
def srcZ (k l : Nat) : Src := fun i S => match lsAt S k, lsAt S l with
  | some xs, some ys => (match xs[i]?, ys[i]? with | some x, some y => some (some (.tup [x, y])) | _, _ => some none)
  | _, _ => none
def srcZT (xs ys : List D) : Src := fun i _ => match xs[i]?, ys[i]? with | some x, some y => some (some (.tup [x, y])) | _, _ => some none
def mZip (a : Env' → M (List D)) : Env' → M Src := fun r => mB (a r) fun ds S => match ds with
  | [.ref k, .ref l] => (match lsAt S k, lsAt S l with | some _, some _ => .ok (srcZ k l) S | _, _ => .bad)
  | [.tup xs, .tup ys] => .ok (srcZT xs ys) S
  | _ => .bad
def srcC (lo c : Int) (n : Nat) : Src := fun i _ => if i < n then some (some (.int (lo + (i : Nat) * c))) else some none

def mRng3 (a : Env' → M (List D)) : Env' → M Src := fun r => mB (a r) fun ds S => match ds with
  | [.int i, .int j, .int (-1)] => if okR i ∧ okR j then .ok (srcC i (-1) (i - j).toNat) S else .bad
  | _ => .bad
section
variable {c : Gx} {W : WX}
theorem itOk_rev {k n : Nat} {a : Addr} {μ0 : List Addr} {H0 : Hp} (ha : μ0[k]? = some a) : ItOk c (Itv c.K a n) (srcV k n) μ0 H0 := by
  refine ⟨fun i μ H S ex s q => ?_, fun i μ H S d ex s q => ?_⟩
  · unfold srcV at q
    cases h : lsAt S k with
    | none => rw [h] at q; cases q
    | some xs =>
      rw [h] at q
      simp only [] at q
      split at q
      · split at q <;> cases q
      · rename_i hn; exact Nat.le_of_not_lt hn
  · unfold srcV at q
    cases h : lsAt S k with
    | none => rw [h] at q; cases q
    | some xs =>
      rw [h] at q
      simp only [] at q
      split at q
      · rename_i hn
        cases hx : xs[n - 1 - i]? with
        | none => rw [hx] at q; cases q
        | some y =>
          rw [hx] at q
          cases q
          obtain ⟨vs, h1, h2⟩ := s.ls h (ex.mu _ _ ha)
          obtain ⟨v, h3, h4⟩ := h2.get hx
          refine ⟨⟨hn, vs, v, h1, h3⟩, fun x H' hy => ?_⟩
          obtain ⟨rfl, hx⟩ := hy
          have := hx vs h1
          rw [h3] at this
          cases this
          exact ⟨s, .refl, h4⟩
      · cases q
theorem itOk_revT {ds : List D} {vs : List V} {a : Addr} {μ0 : List Addr} {H0 : Hp} (ha : SqT c.K H0 a vs) (r : RpL c.K μ0 H0 ds vs) : ItOk c (RT.ItvT c.K a vs.length) (srcVT ds) μ0 H0 := by
  refine ⟨fun i μ H S ex s q => ?_, fun i μ H S d ex s q => ?_⟩
  · unfold srcVT at q
    split at q
    · rename_i hn
      have : ds.length - 1 - i < ds.length := by omega
      rw [List.getElem?_eq_getElem this] at q
      cases q
    · rename_i hn
      show vs.length ≤ i
      rw [← r.length]; exact Nat.le_of_not_lt hn
  · unfold srcVT at q
    split at q
    · rename_i hn
      obtain ⟨v, h3, h4⟩ := r.get (Option.some.inj q)
      refine ⟨⟨by rw [← r.length]; exact hn, vs, v, ex.tu _ _ ha, by rw [← r.length]; exact h3⟩, fun x H' hy => ?_⟩
      obtain ⟨rfl, hx⟩ := hy
      have := hx vs (ex.tu _ _ ha)
      rw [← r.length, h3] at this
      cases this
      exact ⟨s, .refl, h4.mono ex⟩
    · cases q
theorem sem_revS {t : TE} {m : Env' → M D} (h : SemE c W t m) : SemI c W (RT.iRevA c.K t) (mRevS m) := by
  intro σ H μ r S R s e p
  refine h.go s e p fun d S1 μ1 H1 v ex s1 e1 rv p1 => ?_
  cases rv with
  | tup sq rl => exact ⟨_, _, rfl, .inr ⟨sq, p1 μ1 H1 .refl s1 _ (itOk_revT sq rl)⟩⟩
  | ref ha =>
    rename_i i a
    have p2 : Post c W σ μ1 H1 (fun src μ' H' => ∀ J, ItOk c J src μ' H' → R J H') (match lsAt S1 i with | some xs => .ok (srcV i xs.length) S1 | none => .bad) := p1
    cases q : lsAt S1 i with
    | none => rw [q] at p2; exact p2.elim
    | some xs =>
      rw [q] at p2
      obtain ⟨vs, h1, h2⟩ := s1.ls q ha
      refine ⟨a, vs, rfl, .inl ⟨h1, ?_⟩⟩
      rw [← h2.length]
      exact p2 μ1 H1 .refl s1 _ (itOk_rev ha)
  | _ => exact p1.elim
theorem itOk_enum {k : Nat} {a : Addr} {μ0 : List Addr} {H0 : Hp} (ha : μ0[k]? = some a) : ItOk c (Ite c.K a) (srcE k) μ0 H0 := by
  refine ⟨fun i μ H S ex s q => ?_, fun i μ H S d ex s q => ?_⟩
  · unfold srcE at q
    cases h : lsAt S k with
    | none => rw [h] at q; cases q
    | some xs =>
      rw [h] at q
      obtain ⟨vs, h1, h2⟩ := s.ls h (ex.mu _ _ ha)
      refine ⟨vs, h1, ?_⟩
      rw [← h2.length]
      cases hx : xs[i]? with
      | none => exact List.getElem?_eq_none_iff.mp hx
      | some y => simp only [hx] at q; cases q
  · unfold srcE at q
    cases h : lsAt S k with
    | none => rw [h] at q; cases q
    | some xs =>
      rw [h] at q
      obtain ⟨vs, h1, h2⟩ := s.ls h (ex.mu _ _ ha)
      cases hx : xs[i]? with
      | none => simp only [hx] at q; cases q
      | some y =>
        simp only [hx] at q
        cases q
        obtain ⟨v, h3, h4⟩ := h2.get hx
        refine ⟨⟨vs, v, h1, h3⟩, fun x H' hy => ?_⟩
        obtain ⟨T, x', rfl, hT, rfl, hx'⟩ := hy
        have := hx' vs h1
        rw [h3] at this
        cases this
        exact ⟨s.tup hT, Ex.tup hT, .tup (.inl (.inl upd_same)) (.cons (.int _) (.cons (h4.mono (Ex.tup hT)) .nil))⟩
theorem sem_enum {t : TA} {m : Env' → M (List D)} (h : SemA c W t m) : SemI c W (iEnum c.K t) (mEnum m) := by
  intro σ H μ r S R s e p
  refine h.go s e p fun ds S1 μ1 H1 vs ex s1 e1 rv p1 => ?_
  split at p1
  · rename_i k
    obtain ⟨v, rfl, q⟩ := rpl1 rv
    cases q with
    | ref ha =>
      cases q : lsAt S1 k with
      | none => rw [q] at p1; exact p1.elim
      | some xs =>
        rw [q] at p1
        obtain ⟨vs, h1, h2⟩ := s1.ls q ha
        exact ⟨_, vs, rfl, h1, p1 μ1 H1 .refl s1 _ (itOk_enum ha)⟩
  · exact p1.elim
theorem itOk_zip {k l : Nat} {a b : Addr} {μ0 : List Addr} {H0 : Hp} (ha : μ0[k]? = some a) (hb : μ0[l]? = some b) : ItOk c (Itz c.K a b) (srcZ k l) μ0 H0 := by
  refine ⟨fun i μ H S ex s q => ?_, fun i μ H S d ex s q => ?_⟩
  · unfold srcZ at q
    cases h : lsAt S k with
    | none => simp only [h] at q; cases q
    | some xs =>
      cases h' : lsAt S l with
      | none => simp only [h, h'] at q; cases q
      | some ys =>
        simp only [h, h'] at q
        obtain ⟨vs, h1, h2⟩ := s.ls h (ex.mu _ _ ha)
        obtain ⟨us, k1, k2⟩ := s.ls h' (ex.mu _ _ hb)
        refine ⟨vs, us, h1, k1, ?_⟩
        rw [← h2.length, ← k2.length]
        cases hx : xs[i]? with
        | none => exact .inl (List.getElem?_eq_none_iff.mp hx)
        | some y =>
          cases hy : ys[i]? with
          | none => exact .inr (List.getElem?_eq_none_iff.mp hy)
          | some z => simp only [hx, hy] at q; cases q
  · unfold srcZ at q
    cases h : lsAt S k with
    | none => simp only [h] at q; cases q
    | some xs =>
      cases h' : lsAt S l with
      | none => simp only [h, h'] at q; cases q
      | some ys =>
        simp only [h, h'] at q
        obtain ⟨vs, h1, h2⟩ := s.ls h (ex.mu _ _ ha)
        obtain ⟨us, k1, k2⟩ := s.ls h' (ex.mu _ _ hb)
        cases hx : xs[i]? with
        | none => simp only [hx] at q; cases q
        | some y =>
          cases hy : ys[i]? with
          | none => simp only [hx, hy] at q; cases q
          | some z =>
            simp only [hx, hy] at q
            cases q
            obtain ⟨v, h3, h4⟩ := h2.get hx
            obtain ⟨u, k3, k4⟩ := k2.get hy
            refine ⟨⟨vs, us, v, u, h1, k1, h3, k3⟩, fun x H' hy => ?_⟩
            obtain ⟨T, x', y', rfl, hT, rfl, hx', hy'⟩ := hy
            have e1 := hx' vs h1
            rw [h3] at e1
            cases e1
            have e2 := hy' us k1
            rw [k3] at e2
            cases e2
            exact ⟨s.tup hT, Ex.tup hT, .tup (.inl (.inl upd_same)) (.cons (h4.mono (Ex.tup hT)) (.cons (k4.mono (Ex.tup hT)) .nil))⟩
theorem itOk_zipT {xs ys : List D} {vs us : List V} {a b : Addr} {μ0 : List Addr} {H0 : Hp} (ha : SqT c.K H0 a vs) (r : RpL c.K μ0 H0 xs vs) (hb : SqT c.K H0 b us) (r2 : RpL c.K μ0 H0 ys us) : ItOk c (RZ.ItzT c.K a b) (srcZT xs ys) μ0 H0 := by
  refine ⟨fun i μ H S ex s q => ⟨vs, us, ex.tu _ _ ha, ex.tu _ _ hb, ?_⟩, fun i μ H S d ex s q => ?_⟩
  · unfold srcZT at q
    rw [← r.length, ← r2.length]
    cases hx : xs[i]? with
    | none => exact .inl (List.getElem?_eq_none_iff.mp hx)
    | some y =>
      cases hy : ys[i]? with
      | none => exact .inr (List.getElem?_eq_none_iff.mp hy)
      | some z => simp only [hx, hy] at q; cases q
  · unfold srcZT at q
    cases hx : xs[i]? with
    | none => simp only [hx] at q; cases q
    | some y =>
      cases hy : ys[i]? with
      | none => simp only [hx, hy] at q; cases q
      | some z =>
        simp only [hx, hy] at q
        cases q
        obtain ⟨v, h3, h4⟩ := r.get hx
        obtain ⟨u, k3, k4⟩ := r2.get hy
        refine ⟨⟨vs, us, v, u, ex.tu _ _ ha, ex.tu _ _ hb, h3, k3⟩, fun x H' hy => ?_⟩
        obtain ⟨T, x', y', rfl, hT, rfl, hx', hy'⟩ := hy
        have e1 := hx' vs (ex.tu _ _ ha)
        rw [h3] at e1
        cases e1
        have e2 := hy' us (ex.tu _ _ hb)
        rw [k3] at e2
        cases e2
        exact ⟨s.tup hT, Ex.tup hT, .tup (.inl (.inl upd_same)) (.cons (h4.mono (ex.trans (Ex.tup hT))) (.cons (k4.mono (ex.trans (Ex.tup hT))) .nil))⟩
theorem sem_zip {t : TA} {m : Env' → M (List D)} (h : SemA c W t m) : SemI c W (RZ.iZipA c.K t) (mZip m) := by
  intro σ H μ r S R s e p
  refine h.go s e p fun ds S1 μ1 H1 vs ex s1 e1 rv p1 => ?_
  split at p1
  · rename_i k l
    obtain ⟨v, u, rfl, q1, q2⟩ := rpl2 rv
    cases q1 with
    | ref ha =>
      cases q2 with
      | ref hb =>
        cases q : lsAt S1 k with
        | none => simp only [q] at p1; exact p1.elim
        | some xs =>
          cases q' : lsAt S1 l with
          | none => simp only [q, q'] at p1; exact p1.elim
          | some ys =>
            simp only [q, q'] at p1
            obtain ⟨vs, h1, h2⟩ := s1.ls q ha
            obtain ⟨us, k1, k2⟩ := s1.ls q' hb
            exact ⟨_, _, vs, us, rfl, .inl ⟨h1, k1, p1 μ1 H1 .refl s1 _ (itOk_zip ha hb)⟩⟩
  · rename_i xs ys
    obtain ⟨v, u, rfl, q1, q2⟩ := rpl2 rv
    cases q1 with
    | tup sq rl =>
      cases q2 with
      | tup sq2 rl2 => exact ⟨_, _, _, _, rfl, .inr ⟨sq, sq2, p1 μ1 H1 .refl s1 _ (itOk_zipT sq rl sq2 rl2)⟩⟩
  · exact p1.elim
theorem itOk_rngC {lo d : Int} {n : Nat} {μ0 : List Addr} {H0 : Hp} : ItOk c (Itc lo d n) (srcC lo d n) μ0 H0 := by
  refine ⟨fun i μ H S ex s q => ?_, fun i μ H S d ex s q => ?_⟩
  · unfold srcC at q
    split at q
    · cases q
    · rename_i h; exact Nat.le_of_not_lt h
  · unfold srcC at q
    split at q
    · rename_i h
      cases q
      refine ⟨h, fun x H' hy => ?_⟩
      obtain ⟨rfl, rfl⟩ := hy
      exact ⟨s, .refl, .int _⟩
    · cases q
theorem rpl3 {μ : List Addr} {H : Hp} {d e f : D} {vs : List V} (r : RpL c.K μ H [d, e, f] vs) : ∃ v u w, vs = [v, u, w] ∧ Rp c.K μ H d v ∧ Rp c.K μ H e u ∧ Rp c.K μ H f w := by
  cases r with
  | cons r t => obtain ⟨u, w, rfl, q⟩ := rpl2 t; exact ⟨_, _, _, rfl, r, q⟩
theorem sem_rng3 {t : TA} {m : Env' → M (List D)} (h : SemA c W t m) : SemI c W (iRng3 t) (mRng3 m) := by
  intro σ H μ r S R s e p
  refine h.go s e p fun ds S1 μ1 H1 vs ex s1 e1 rv p1 => ?_
  split at p1
  · rename_i i j
    obtain ⟨v, u, w, rfl, q, q2, q3⟩ := rpl3 rv
    cases rpInt q
    cases rpInt q2
    cases rpInt q3
    split at p1
    · rename_i hj; exact ⟨i, j, -1, _, rfl, RgC.neg hj.1.1 hj.1.2 hj.2.1 hj.2.2, p1 μ1 H1 .refl s1 _ itOk_rngC⟩
    · exact p1.elim
  · exact p1.elim
end


def tyN (d : D) (S : Store) : Option String := match d with
  | .non => some "NoneType"
  | .bl _ => some "bool"
  | .int _ => some "int"
  | .str _ => some "str"
  | .tup _ => some "tuple"
  | .ref i => match S[i]? with
    | some (.lst _) => some "list"
    | some (.fro _) => some "list"
    | some (.dK _) => some "dict"
    | some (.dT _) => some "dict"
    | _ => none
def isiR (t T : String) : Option Bool := kitB t T
def mIsi (T : String) (m : Env' → M D) : Env' → M D := fun r => mB (m r) fun d S => match tyN d S with
  | some t => (match isiR t T with | some b => .ok (.bl b) S | none => .bad)
  | none => .bad
section
variable {c : Gx} {W : WX}
theorem tyX_ok {μ : List Addr} {H : Hp} {S : Store} {d : D} {v : V} {t : String} (s : SOk c μ H S) (r : Rp c.K μ H d v) (h : tyN d S = some t) : TyX c.K H v (.type t) := by
  unfold tyN at h
  cases r with
  | non => cases h; exact .base .non
  | bl b => cases h; exact .base (.bl b)
  | int b => cases h; exact .base (.int b)
  | str b => cases h; exact .base (.str b)
  | tup sq rl =>
    cases h
    rcases sq with (sq | ⟨u, sq⟩) | ⟨o, its, n, h1, h2, h3⟩
    · exact .base (.tup sq)
    · exact .fTuple sq
    · exact .kTuple h1 h2
  | ref ha =>
    rename_i i a
    simp only [] at h
    cases q : S[i]? with
    | none => rw [q] at h; cases h
    | some o =>
      rw [q] at h
      cases o with
      | lst es => cases h; obtain ⟨us, g1, g2⟩ := s.obj _ _ _ q ha; exact .base (.lst g1)
      | fro es =>
        cases h
        obtain ⟨us, g1, g2⟩ := s.obj _ _ _ q ha
        rcases g1 with ⟨u, g1⟩ | ⟨o, its, n, h1, h2, h3⟩
        · exact .base (.frz g1)
        · exact .kList h1 h2
      | dK es => cases h; obtain ⟨us, g1, g2⟩ := s.obj _ _ _ q ha; exact .base (.dK g1)
      | dT es => cases h; obtain ⟨us, g1, g2⟩ := s.obj _ _ _ q ha; exact .base (.dT g1)
      | _ => cases h
theorem sem_isi {T : String} {t : TE} {m : Env' → M D} (h : SemE c W t m) : SemE c W (tCB (rIsi c.K) (tCons t (tCons (tC (.ty T)) tNil))) (mIsi T m) := by
  intro σ H μ r S Q s e p
  refine h.go s e p fun d S1 μ1 H1 v ex s1 e1 rv p1 => ?_
  cases q : tyN d S1 with
  | none => rw [q] at p1; exact p1.elim
  | some ty =>
    rw [q] at p1
    simp only [] at p1
    cases q2 : isiR ty T with
    | none => rw [q2] at p1; exact p1.elim
    | some b =>
      rw [q2] at p1
      exact ⟨v, .ty T, .type ty, .type T, b, rfl, .ty T, tyX_ok s1 rv q, kit_ty q2, p1.fin s1 (.bl b)⟩
end


def inM (d e : D) : M D := fun S => match pyD S d, pyD S e with
  | some x, some (.list ys) => .ok (.bl (ys.any fun z => PyData.eqv z x)) S
  | some x, some (.tuple ys) => .ok (.bl (ys.any fun z => PyData.eqv z x)) S
  | _, _ => .bad


def SemGsv (c : Gx) (g : TGs) (f : TgsM) (vs : List Nat) : Prop := ∀ σ H μ r S τ ds us Q, SOk c μ H S → EnvR c.K μ H r τ → wipe τ vs = wipe σ vs → RpL c.K μ H ds us →
  Post c Wf σ μ H (fun r' μ' H' => ∀ σ', EnvR c.K μ' H' r' σ' → wipe σ' vs = wipe σ vs → Q σ' H') (f ds r S) → g us τ H Q
section
variable {c : Gx} {W : WX}
theorem wipe_wipe (vs : List Nat) (σ : L2.St) : wipe (wipe σ vs) vs = wipe σ vs := by
  have y : ∀ (us ws : List Nat) (τ : L2.St), (∀ i ∈ us, i ∈ ws) → wipe (wipe τ us) ws = wipe τ ws := by
    intro us
    induction us with
    | nil => intro ws τ _; rfl
    | cons u us ih =>
      intro ws τ h
      show wipe ((wipe τ us).set u none) ws = _
      rw [wipe_set (h u (List.mem_cons_self)), ih ws τ fun i hi => h i (List.mem_cons_of_mem _ hi)]
  exact y vs vs σ fun _ h => h
theorem sem_gsvNil {vs : List Nat} : SemGsv c gNil gsNil vs := by
  intro σ H μ r S τ ds us Q s e hw rv p
  cases rv with
  | nil => exact ⟨rfl, p μ H .refl s _ e hw⟩
  | cons _ _ => exact p.elim
theorem sem_gsvName {vs : List Nat} (i : Nat) (h : i ∈ vs) {g : TGs} {f : TgsM} (hs : SemGsv c g f vs) : SemGsv c (gCons (gName i) g) (gsCons (gNm i) f) vs := by
  intro σ H μ r S τ ds us Q s e hw rv p
  cases rv with
  | nil => exact p.elim
  | cons r1 rs =>
    rename_i d v ds vs'
    exact ⟨v, vs', rfl, hs σ H μ _ S _ ds vs' Q s (e.set i r1) (by rw [wipe_set h]; exact hw) rs p⟩
theorem sem_gvTup {n : Nat} {vs : List Nat} {g : TGs} {f : TgsM} (h : SemGsv c g f vs) : SemGv c (gTup c.K n g) (fun d r S => match d with | .tup ds => if ds.length = n then f ds r S else .bad | _ => .bad) vs := by
  intro σ H μ r S d v Q s e rv p
  cases rv with
  | tup sq rl =>
    rename_i a xs ds
    have p' : Post c Wf σ μ H (fun r' μ' H' => ∀ σ', EnvR c.K μ' H' r' σ' → wipe σ' vs = wipe σ vs → Q σ' H') (if ds.length = n then f ds r S else .bad) := p
    split at p'
    · rename_i hl
      exact ⟨a, xs, rfl, sq, by rw [← rl.length]; exact hl, h σ H μ r S _ ds xs Q s e (wipe_wipe vs σ) rl p'⟩
    · exact p'.elim
  | _ => exact p.elim
end
def gTp (n : Nat) (f : TgsM) : TgM := fun d r S => match d with | .tup ds => if ds.length = n then f ds r S else .bad | _ => .bad
end CK
end

section
set_option Elab.async false
set_option linter.all false
set_option maxRecDepth 100000
set_option maxHeartbeats 4000000
namespace CK
open PySem PySem.Spec PyProof.Rows L2


def FnHas (P : Program) (w : World) (c : Gx) (base : Heap) (k : Nat) (x : Str) (ps : List Str) (f : List D → M D) : Prop :=
  ∃ a fd, c.mg x = some (.ref a) ∧ PySem.W.keepIn c.K (.ref a) = true ∧ Binds c.K fd ps [] ∧ FnG P w c base k a fd ps f
theorem FnHas.mono {P : Program} {w : World} {c : Gx} {base : Heap} {j k : Nat} {x : Str} {ps : List Str} {f : List D → M D} (h : FnHas P w c base j x ps f) (hjk : j ≤ k) : FnHas P w c base k x ps f :=
  let ⟨a, fd, h1, h2, h3, h4⟩ := h; ⟨a, fd, h1, h2, h3, h4.mono hjk⟩

theorem run_fnG {X : Cx} {W : WX} {c : Gx} {j k : Nat} {f : Addr} {fd : FuncData} {ps : List Str} {g : List D → M D} {pins : List (Addr × Obj)} {σ : L2.St} {H : Hp} {z : Shared} {Q : VK} {us : List Value} {vs : List V} (F : FnG X.prog X.w c X.base k f fd ps g) (hr : RoomG j X.A) (hjk : k ≤ j) (hK : c.K = X.K) (hm : c.mg = X.mg)
    (hb : Binds c.K fd ps []) (tk : Takes X W) (I : L2.Inv X pins σ H z) (r : Vals vs us) (h : spM c ps.length g vs H Q (WE W σ)) : wpAny (model X.prog X.w) X.A (call (.ref f) us) (EP X pins σ Q) X.xe z := by
  have hlen : (us ++ []).length = ps.length := by rw [List.append_nil, ← r.length]; exact h.1
  have bt := hb z us (by rw [hK]; exact I.kIn) hlen
  rw [List.append_nil] at bt
  have e0 : Env0 X.prog X.w c.K c.mg X.base X.A X.stack z H := by rw [hK, hm]; exact I.env0
  apply wpAny_call
  apply codeAny_mono (F X.A X.stack z H ⟨us, []⟩ us vs Q (WE W σ) (hr.mono hjk) e0 bt r h)
  intro res z2 hz
  match res, hz with
  | .error e, hz => exact passAt tk σ pins H z e z2 I hz
  | .ok (.ret u), hz => exact I.after hz
  | .ok .next, hz => exact False.elim hz
  | .ok .brk, hz => exact False.elim hz
  | .ok .cont, hz => exact False.elim hz
theorem pe_callM {X : Cx} {W : WX} {c : Gx} {j k : Nat} {x : Str} {ps : List Str} {f : List D → M D} {p pos : Pos} {e : Expr} {es : List Expr} {t : TA} (F : FnHas X.prog X.w c X.base k x ps f) (hr : RoomG j X.A) (tk : Takes X W) (ha : PA X (e :: es) t)
    (hjk : k ≤ j := by decide) (hg : Gl X x := by rfl) (hK : c.K = X.K := by rfl) (hm : c.mg = X.mg := by rfl)
    (hdb : (x == ("__debug__" : Str)) = false := by decide) (he : starEach (e :: es) X.env = (false, eval e X.env) :: starEach es X.env := by rfl) (hpl : (backTo pos (starEach es X.env)).any (·.1) = false := by rfl) :
    PE X (.Call (.Name x p) (e :: es) [] pos) (tCallS (spM c ps.length f) (WE W) t) := by
  obtain ⟨a, fd, h1, h2, h3, h4⟩ := F
  constructor
  intro pins z σ H Q I h
  apply wpAny_Call_Name_kw (ld_glob I hg (by rw [← hm]; exact h1) ?_ hdb)
  apply PySem.W.callWith_K (h₀ := X.base) I.ok.mod.kin (by rw [← hK]; exact h2) (thn (ha.run pos pins z σ H _ I h) fun us z1 ⟨vs, H1, I1, r, q⟩ => ⟨I1.kIn, run_fnG h4 hr hjk hK hm h3 tk I1 r q⟩) he hpl
theorem pe_callM0 {X : Cx} {W : WX} {c : Gx} {j k : Nat} {x : Str} {f : List D → M D} {p pos : Pos} (F : FnHas X.prog X.w c X.base k x [] f) (hr : RoomG j X.A) (tk : Takes X W)
    (hjk : k ≤ j := by decide) (hg : Gl X x := by rfl) (hK : c.K = X.K := by rfl) (hm : c.mg = X.mg := by rfl)
    (hdb : (x == ("__debug__" : Str)) = false := by decide) :
    PE X (.Call (.Name x p) [] [] pos) (tCallS (spM c 0 f) (WE W) tNil) := by
  obtain ⟨a, fd, h1, h2, h3, h4⟩ := F
  constructor
  intro pins z σ H Q I h
  apply wpAny_Call_Name_kw (ld_glob I hg (by rw [← hm]; exact h1) ?_ hdb)
  exact PySem.W.callWith_K0 I.kIn (by rw [← hK]; exact h2) (run_fnG (us := []) h4 hr hjk hK hm h3 tk I .nil h)
theorem fn_has {P : Program} {w : World} {c : Gx} {base : Heap} {x qual : Str} {st : Stmt} {f : Addr} {fd : FuncData} {N ps : List Str} {k : Nat} {m : Env' → M Fl} (F : Fun c.K x qual st f fd) (b : Binds c.K fd ps []) (g : c.mg x = some (.ref f)) (S : FnScope N ps (defScope st))
    (hb : ∀ (cdv : Value) (A : Around) (outer : List Env) (s : Shared) (H : Hp) (E : XK), Takes (cxOf (L2.CX P w) P w c.K c.mg base N qual (defScope st) f cdv A outer s H E) (fun cls d _ H => E cls d H) →
      PassesOwn (model P w) (A.deeper (envOfC qual (defScope st) s.heap.objs.size f cdv)) (envOfC qual (defScope st) s.heap.objs.size f cdv) (cxOf (L2.CX P w) P w c.K c.mg base N qual (defScope st) f cdv A outer s H E).xe →
      RoomG k (A.deeper (envOfC qual (defScope st) s.heap.objs.size f cdv)) →
      ∃ t, PSs (cxOf (L2.CX P w) P w c.K c.mg base N qual (defScope st) f cdv A outer s H E) (defBody st) t ∧ SemS c (fun cls d _ H => E cls d H) t m) :
    FnHas P w c base (k + 1) x ps (mFn N.length m) := ⟨f, fd, g, F.kp, b, fn_mk F S hb⟩

def DefAt (c : Gx) (x : Str) (st : Stmt) (ps : List Str) : Prop := ∃ f fd, Fun c.K x x st f fd ∧ Binds c.K fd ps [] ∧ c.mg x = some (.ref f)
theorem DefAt.has {P : Program} {w : World} {c : Gx} {base : Heap} {x : Str} {st : Stmt} {N ps : List Str} {k : Nat} {m : Env' → M Fl} (h : DefAt c x st ps) (S : FnScope N ps (defScope st))
    (hb : ∀ (f : Addr) (cdv : Value) (A : Around) (outer : List Env) (s : Shared) (H : Hp) (E : XK), Takes (cxOf (L2.CX P w) P w c.K c.mg base N x (defScope st) f cdv A outer s H E) (fun cls d _ H => E cls d H) →
      PassesOwn (model P w) (A.deeper (envOfC x (defScope st) s.heap.objs.size f cdv)) (envOfC x (defScope st) s.heap.objs.size f cdv) (cxOf (L2.CX P w) P w c.K c.mg base N x (defScope st) f cdv A outer s H E).xe →
      RoomG k (A.deeper (envOfC x (defScope st) s.heap.objs.size f cdv)) →
      ∃ t, PSs (cxOf (L2.CX P w) P w c.K c.mg base N x (defScope st) f cdv A outer s H E) (defBody st) t ∧ SemS c (fun cls d _ H => E cls d H) t m) :
    FnHas P w c base (k + 1) x ps (mFn N.length m) := by
  obtain ⟨f, fd, F, b, g⟩ := h
  exact fn_has F b g S (hb f)
theorem DefAt.bad {P : Program} {w : World} {c : Gx} {base : Heap} {x : Str} {st : Stmt} {ps : List Str} {k : Nat} {g : List D → M D} (h : DefAt c x st ps) (hg : ∀ ds S, g ds S = .bad) : FnHas P w c base k x ps g := by
  obtain ⟨f, fd, F, b, e⟩ := h
  exact ⟨f, fd, e, F.kp, b, fn_bad hg⟩


def mChain (f g : D → D → M D) (a b d : Env' → M D) : Env' → M D := fun r => mB (a r) fun x => mB (b r) fun y => mB (f x y) fun z => match z.asBl with
  | some k => if k = true then mB (d r) fun w => g y w else mP (.bl false)
  | none => mBad
def mPar (i j : Nat) (a : Env' → M (List D)) : Env' → M Fl := stE a fun ds r S => match ds with
  | [v, w] => .ok (.nx ((r.set i (some v)).set j (some w))) S
  | _ => .bad
def mPar3 (i j l : Nat) (a : Env' → M (List D)) : Env' → M Fl := stE a fun ds r S => match ds with
  | [u, v, w] => .ok (.nx (((r.set i (some u)).set j (some v)).set l (some w))) S
  | _ => .bad
section
variable {c : Gx} {W : WX}
theorem SemA.goS {σ : L2.St} {μ : List Addr} {H : Hp} {r : Env'} {S : Store} {Dn : Ends} {t : TA} {m : Env' → M (List D)} {k : List D → Env' → M Fl} {Q : List V → Hp → Prop} (h : SemA c W t m) (s : SOk c μ H S) (e : EnvR c.K μ H r σ) (p : PostS c W μ H Dn (stE m k r S))
    (q : ∀ d S1 μ1 H1 v, Ex c.K μ H μ1 H1 → SOk c μ1 H1 S1 → EnvR c.K μ1 H1 r σ → RpL c.K μ1 H1 d v → PostS c W μ1 H1 Dn (k d r S1) → Q v H1) : t σ H Q :=
  h σ H μ r S Q s e ((PostS.bind e p).imp fun d _ _ ⟨S1, ok, ex, p1⟩ v rv => q d S1 _ _ v ex ok (e.mono ex) rv p1)
theorem sem_par {i j : Nat} {t : TA} {m : Env' → M (List D)} (h : SemA c W t m) : SemS c W (tPar i j t) (mPar i j m) := by
  intro σ H μ r S Dn s e p
  refine h.goS s e p fun ds S1 μ1 H1 vs ex s1 e1 rv p1 => ?_
  split at p1
  · obtain ⟨v, u, rfl, r1, r2⟩ := rpl2 rv
    exact ⟨v, u, rfl, p1.nx s1 ((e1.set i r1).set j r2)⟩
  · exact p1.elim
theorem sem_par3 {i j l : Nat} {t : TA} {m : Env' → M (List D)} (h : SemA c W t m) : SemS c W (tPar3 i j l t) (mPar3 i j l m) := by
  intro σ H μ r S Dn s e p
  refine h.goS s e p fun ds S1 μ1 H1 vs ex s1 e1 rv p1 => ?_
  split at p1
  · obtain ⟨v, u, w, rfl, r1, r2, r3⟩ := rpl3 rv
    exact ⟨v, u, w, rfl, p1.nx s1 (((e1.set i r1).set j r2).set l r3)⟩
  · exact p1.elim
theorem sem_chain {t u : R2} {f g : D → D → M D} {ta tb tc : TE} {ma mb mc : Env' → M D} (h : Sem2 c W t f) (h' : Sem2 c W u g) (ha : SemE c W ta ma) (hb : SemE c W tb mb) (hc : SemE c W tc mc) : SemE c W (tChain t u ta tb tc) (mChain f g ma mb mc) :=
  fun σ H μ r S Q s e p => ha.go s e p fun d S1 μ1 H1 v ex1 s1 e1 rv p1 => hb.go s1 e1 p1 fun d2 S2 μ2 H2 v2 ex2 s2 e2 rv2 p2 =>
    h σ H2 μ2 S2 v v2 d d2 _ s2 (rv.mono ex2) rv2 ((Post.bind p2).imp fun z μ3 H3 ⟨S3, s3, ex3, p3⟩ => fun vz rz => by
      cases q : z.asBl with
      | none => rw [q] at p3; exact p3.elim
      | some k =>
        rw [q] at p3
        obtain ⟨rfl, rfl⟩ := rz.asBl q
        refine ⟨k, rfl, ?_⟩
        cases k with
        | false => exact p3.fin s3 (.bl false)
        | true => exact hc.go s3 (e2.mono ex3) p3 fun w S4 μ4 H4 vw ex4 s4 e4 rw4 p4 => h' σ H4 μ4 S4 v2 vw d2 w Q s4 (rv2.mono (ex3.trans ex4)) rw4 p4)
end



theorem law_run {P : Program} {w : World} {c : Gx} {mb : Str → Option Value} {k : Nat} {fa a : Addr} {fd : FuncData} {x : Str} {f : List D → M D} {z : Shared} {vs : List Value} {H : Hp}
    (inK : c.K.In z.heap) (gl : z.heap.Ns mainGlobals c.mg) (bl : z.heap.Ns builtinsNs mb) (bb : ∀ x : Str, x ≠ "__name__" → mb x = bootBuiltins x) (lim : z.heap.NoLimit) (gens : z.gens = #[])
    (there : z.heap.get? a = some { cls := .type "list", data := .seq vs.toArray }) (hr : RoomG k callerA) (F : ∀ base, FnG P w c base k fa fd [x] f) (bind : ∀ (z : Shared) (u : Value), BindsTo z fd ⟨[u], []⟩ [(x, u)])
    (on : Only H) (hok : HOk P w H z.heap) (at_ : ∀ b, H b ≠ none → b = a) (nk : H a ≠ none → c.K.lookup a = none) (sp : spM c 1 f [.ref a] H (fun v _ => v = .bl true) fun _ _ _ => False) :
    codeAny (model P w) callerA (.call (.ref fa) ⟨[.ref a], []⟩) (fun r z2 => r = .ok (.ret (.bool true)) ∧ OldK z.heap z2.heap ∧ z2.os = z.os ∧ AllBare z2.gens) z := by
  have free : ∀ b o es ep, z.heap.get? b = some o → o.data = .dict es ep → H b = none := by
    intro b o es ep h1 h2
    refine Classical.byContradiction fun hn => ?_
    rw [at_ b hn, there] at h1
    cases h1
    cases h2
  have ns : ∀ b m, z.heap.Ns b m → (hidT z.heap H).Ns b m := by
    rintro b m ⟨o, es, ep, h1, h2, h3⟩
    exact ⟨o, es, ep, hidT_get h1 (free b o es ep h1 h2), h2, h3⟩
  have kin : c.K.In (hidT z.heap H) := by
    intro b o h1
    refine hidT_get (inK b o h1) ?_
    refine Classical.byContradiction fun hn => ?_
    have := at_ b hn
    subst this
    rw [nk hn] at h1
    cases h1
  have mo : Mod c.K c.mg (hidT z.heap H) := ⟨kin, ns _ _ gl, ⟨mb, ns _ _ bl, bb⟩, lim.imp fun mc h => ⟨ns _ _ h.1, h.2⟩⟩
  have e0 : Env0 P w c.K c.mg (hidT z.heap H) callerA [] z H :=
    { frames := rfl, mod := mo, bs := fun _ _ h => of_hidT h, bsz := by rw [hidT_size]; exact Nat.le_refl _, funs := trivial, frf := (fun b h => (by cases h)), hok := hok, bare := .of_eq gens }
  apply codeAny_mono (F (hidT z.heap H) callerA [] z H ⟨[.ref a], []⟩ [.ref a] [.ref a] _ _ hr e0 (bind z (.ref a)) (.cons rfl .nil) sp)
  intro res z2 h2
  match res, h2 with
  | .error e, h2 =>
    obtain ⟨_, _, _, _, _, _, _, _, _, _, _, _, q⟩ := h2
    exact q.elim
  | .ok .next, h2 => exact False.elim h2
  | .ok .brk, h2 => exact False.elim h2
  | .ok .cont, h2 => exact False.elim h2
  | .ok (.ret u), h2 =>
    obtain ⟨v, H2, hos, bare, un, hok2, rv, rfl⟩ := h2
    cases (show u = Value.bool true from rv)
    refine ⟨rfl, OldK.of_keep ?_, hos, bare⟩
    intro b o h1
    rcases on b with hn | ⟨ob, xs, hs⟩
    · exact un.keep b o h1 hn (fun h => (by cases h)) (fun h => (by cases h))
    · have t1 := (hok b _ hs).1
      have t2 := (hok2 b _ (un.frzs b ob _ hs)).1
      rw [h1] at t1
      cases t1
      exact t2

theorem law_walk {l : PySem.W.OpenLaw} {n k : Nat} {q : Program} {loose : List Str} {XP : (Str → Option Value) → Heap → Prop} {YP : World → Heap → Prop} {d : DefRec} {K : Params → PySem.W.Frag} {x : Str} {f : List D → M D}
    (hn : l.most = some n) (hn2 : n ≤ sizeLine) (hdf : d.params.defaults = []) (hr : RoomG k callerA) (hY : ∀ (w : World) (h : Heap), YP w h → (K w.params).In h)
    (F : ∀ (w : World) (mg : Str → Option Value) (fa : Addr) (h : Heap), (K w.params).In h → h.Ns mainGlobals mg → mg d.name = some (.ref fa) →
      ∃ fd : FuncData, (∀ (z : Shared) (u : Value), BindsTo z fd ⟨[u], []⟩ [(x, u)]) ∧ ∀ base : Heap, FnG l.prog w (gx (K w.params) mg) base k fa fd [x] f)
    (lt : ∀ ns : List Int, ns.length ≤ n → ∃ S', f [.ref 0] [.fro (ns.map D.int)] = .ok (.bl true) S') : PySem.W.WalkO q loose XP YP l.row.toRowW d [] (fun f vs => PySem.call f vs) := by
  apply Att.attach_call hn hdf
  intro w s₀ z mg mb fa o pm cd doc a vs ns G Y _ _ _ hmg hobj hints hlen hg
  have inK := hY w _ Y
  obtain ⟨fd, hb, hF⟩ := F w mg fa _ inK G.T.g hmg
  have rv := vals_ints hints
  have len := hints.length
  have start : ∀ H : Hp, FrL (K w.params) H a (ns.map V.int) → spM (gx (K w.params) mg) 1 f [.ref a] H (fun v _ => v = .bl true) fun _ _ _ => False := by
    intro H fr
    obtain ⟨S', hS⟩ := lt ns hlen
    refine ⟨rfl, [a], [.fro (ns.map D.int)], [.ref 0], ⟨rfl, ?_, ?_, trivial⟩, .cons (.ref rfl) .nil, ?_⟩
    · intro i o b e1 e2
      match i with
      | 0 => cases e1; cases e2; exact ⟨_, fr, RpL.ints ns⟩
      | i + 1 => cases e1
    · intro i j o u b e1 _ _ _ m1 _
      match i with
      | 0 => cases e1; cases m1
      | i + 1 => cases e1
    · rw [hS]
      intro μ' H' v _ _ r
      cases r
      rfl
  cases hk : (K w.params).lookup a with
  | some ob =>
    have e := inK a ob hk
    rw [hobj] at e
    cases e
    apply law_run (c := (gx (K w.params) mg)) (H := fun _ => none) inK G.T.g G.T.b G.T.builtins G.T.nolimit hg hobj hr hF hb (fun _ => .inl rfl) (fun _ _ e => by cases e) (fun _ h => absurd rfl h) (fun h => absurd rfl h)
    exact start _ (.inr ⟨_, vs.toArray, _, hk, rfl, rfl, rfl, by rw [List.size_toArray, len]; omega, by simpa using rv⟩)
  | none =>
    refine law_run (c := (gx (K w.params) mg)) (H := fun b => if b = a then some (.frz { cls := .type "list", data := .seq vs.toArray } (.lst (ns.map V.int))) else none) inK G.T.g G.T.b G.T.builtins G.T.nolimit hg hobj hr hF hb ?_ ?_ ?_ ?_ ?_
    · intro b
      by_cases h : b = a
      · right; exact ⟨_, _, if_pos h⟩
      · left; exact if_neg h
    · intro b u h
      dsimp only at h
      by_cases hb : b = a
      · subst hb
        rw [if_pos rfl] at h
        cases h
        exact ⟨hobj, by rw [List.length_map]; omega, vs, _, rv, hobj⟩
      · rw [if_neg hb] at h
        cases h
    · intro b h
      refine Classical.byContradiction fun hb => ?_
      exact h (if_neg hb)
    · intro _
      exact hk
    · exact start _ (.inl ⟨_, if_pos rfl⟩)
end CK
end

section
set_option Elab.async false
set_option linter.all false
set_option maxRecDepth 100000
set_option maxHeartbeats 4000000
namespace CK
open PySem PySem.Spec PyProof.Rows L2


@[irreducible] def wp {α : Type} (x : R α) (Q : α → Store → Prop) (E : Exn → Store → Prop) : Prop := match x with
  | .ok a S => Q a S
  | .exc e S => E e S
  | .bad => False
abbrev E0' : Exn → Store → Prop := fun _ _ => False
section
variable {α β : Type} {Q Q' : α → Store → Prop} {E E' : Exn → Store → Prop} {S : Store} {r : Env'}
theorem wp_ok {a : α} : wp (.ok a S) Q E = Q a S := by unfold wp; rfl
theorem wp_exc {a : Exn} : wp (.exc a S) Q E = E a S := by unfold wp; rfl
theorem wp_bad : wp (.bad : R α) Q E = False := by unfold wp; rfl
theorem wp_imp {x : R α} (h : wp x Q E) (f : ∀ a S, Q a S → Q' a S) (g : ∀ a S, E a S → E' a S) : wp x Q' E' := by
  cases x with
  | ok a S => rw [wp_ok] at h ⊢; exact f a S h
  | exc e S => rw [wp_exc] at h ⊢; exact g e S h
  | bad => rw [wp_bad] at h; exact h.elim
theorem wp_mono {x : R α} (h : wp x Q E) (f : ∀ a S, Q a S → Q' a S) : wp x Q' E := wp_imp h f fun _ _ h => h

theorem wp_nox {x : R α} (h : wp x Q E0') (f : ∀ a S, Q a S → Q' a S) : wp x Q' E := wp_imp h f fun _ _ h => h.elim
theorem wp_ex {x : R α} (h : wp x Q E0') : ∃ a S, x = .ok a S ∧ Q a S := by
  cases x with
  | ok a S => rw [wp_ok] at h; exact ⟨a, S, rfl, h⟩
  | exc e S => rw [wp_exc] at h; exact h.elim
  | bad => rw [wp_bad] at h; exact h.elim
theorem wp_mB {m : M α} {f : α → M β} {Q : β → Store → Prop} : wp (mB m f S) Q E = wp (m S) (fun a S' => wp (f a S') Q E) E := by
  unfold mB; cases m S <;> with_unfolding_all rfl
theorem wp_ite {c : Prop} [Decidable c] {x y : R α} : wp (if c then x else y) Q E = if c then wp x Q E else wp y Q E := by split <;> with_unfolding_all rfl
theorem wp_iteM {c : Prop} [Decidable c] {x y : M α} : wp ((if c then x else y) S) Q E = if c then wp (x S) Q E else wp (y S) Q E := by split <;> with_unfolding_all rfl
theorem wp_mP {a : α} : wp (mP a S) Q E = Q a S := by with_unfolding_all rfl
theorem wp_mBad : wp (mBad S) Q E = False := by with_unfolding_all rfl
end
section
variable {E : Exn → Store → Prop} {S : Store} {r : Env'} {Q : D → Store → Prop} {QL : List D → Store → Prop} {QB : Bool → Store → Prop} {QF : Fl → Store → Prop} {f : D → D → M D} {a b d : Env' → M D} {as : Env' → M (List D)}
theorem wp_var0 {x : D} : wp (mVar 0 (some x :: r) S) Q E = Q x S := by with_unfolding_all rfl
theorem wp_varS {i : Nat} {x : Option D} : wp (mVar (i + 1) (x :: r) S) Q E = wp (mVar i r S) Q E := by with_unfolding_all rfl
theorem mVar_eq {i : Nat} {x : D} (h : r[i]? = some (some x)) : mVar i r S = .ok x S := by unfold mVar; rw [h]
theorem wp_mC {x : D} : wp (mC x r S) Q E = Q x S := by with_unfolding_all rfl
theorem wp_m2 : wp (m2 f a b r S) Q E = wp (a r S) (fun x S1 => wp (b r S1) (fun y S2 => wp (f x y S2) Q E) E) E := by
  unfold m2; rw [wp_mB]; congr 1; funext x S1; rw [wp_mB]
theorem wp_m1 {f : D → M D} : wp (m1 f a r S) Q E = wp (a r S) (fun x S1 => wp (f x S1) Q E) E := by unfold m1; rw [wp_mB]
theorem wp_nil : wp (mNil r S) QL E = QL [] S := by with_unfolding_all rfl
theorem wp_cons : wp (mCons a as r S) QL E = wp (a r S) (fun x S1 => wp (as r S1) (fun xs S2 => QL (x :: xs) S2) E) E := by
  unfold mCons; rw [wp_mB]; congr 1; funext x S1; rw [wp_mB]; with_unfolding_all rfl
theorem wp_args {g : List D → M D} : wp (mArgs g as r S) Q E = wp (as r S) (fun xs S1 => wp (g xs S1) Q E) E := by unfold mArgs; rw [wp_mB]
theorem wp_call {n : Nat} {g : List D → M D} : wp (mCall n g as r S) Q E = wp (as r S) (fun ds S1 => if ds.length = n then wp (g ds S1) Q E else False) E := by
  unfold mCall; rw [wp_mB]; congr 1; funext x S1; split <;> with_unfolding_all rfl
theorem wp_tst : wp (mTst a r S) QB E = wp (a r S) (fun x S1 => ∃ k, x.asBl = some k ∧ QB k S1) E := by
  unfold mTst; rw [wp_mB]; congr 1; funext x S1
  cases x.asBl <;> simp [wp_mP, wp_mBad]
theorem asBl_bl {k : Bool} {P : Bool → Prop} : (∃ j, (D.bl k).asBl = some j ∧ P j) = P k := by
  simp [D.asBl]
variable {t u : Env' → M Bool}
theorem wp_and : wp (mAnd t u r S) QB E = wp (t r S) (fun x S1 => if x = true then wp (u r S1) QB E else QB false S1) E := by
  unfold mAnd; rw [wp_mB]; congr 1; funext x S1; split <;> with_unfolding_all rfl
theorem wp_or : wp (mOr t u r S) QB E = wp (t r S) (fun x S1 => if x = true then QB true S1 else wp (u r S1) QB E) E := by
  unfold mOr; rw [wp_mB]; congr 1; funext x S1; split <;> with_unfolding_all rfl
theorem wp_not : wp (mNot t r S) QB E = wp (t r S) (fun x S1 => QB (!x) S1) E := by unfold mNot; rw [wp_mB]; with_unfolding_all rfl
theorem wp_andV : wp (mAndV a b r S) Q E = wp (mTst a r S) (fun x S1 => if x = true then wp (b r S1) Q E else Q (.bl false) S1) E := by
  unfold mAndV; rw [wp_mB]; congr 1; funext x S1; split <;> with_unfolding_all rfl
theorem wp_orV : wp (mOrV a b r S) Q E = wp (mTst a r S) (fun x S1 => if x = true then Q (.bl true) S1 else wp (b r S1) Q E) E := by
  unfold mOrV; rw [wp_mB]; congr 1; funext x S1; split <;> with_unfolding_all rfl
theorem wp_notV : wp (mNotV a r S) Q E = wp (mTst a r S) (fun x S1 => Q (.bl (!x)) S1) E := by unfold mNotV; rw [wp_mB]; with_unfolding_all rfl
theorem wp_ifE : wp (mIfE t a b r S) Q E = wp (t r S) (fun x S1 => if x = true then wp (a r S1) Q E else wp (b r S1) Q E) E := by
  unfold mIfE; rw [wp_mB]; congr 1; funext x S1; split <;> with_unfolding_all rfl
theorem wp_chain {g : D → D → M D} : wp (mChain f g a b d r S) Q E = wp (a r S) (fun x S1 => wp (b r S1) (fun y S2 => wp (f x y S2) (fun z S3 => ∃ k, z.asBl = some k ∧ if k = true then wp (d r S3) (fun w S4 => wp (g y w S4) Q E) E else Q (.bl false) S3) E) E) E := by
  unfold mChain; rw [wp_mB]; congr 1; funext x S1; rw [wp_mB]; congr 1; funext y S2; rw [wp_mB]; congr 1; funext z S3
  cases z.asBl with
  | none => simp [wp_mBad]
  | some k => cases k <;> simp [wp_mB, wp_mP]

theorem wp_stE {α : Type} {m : Env' → M α} {k : α → Env' → M Fl} : wp (stE m k r S) QF E = wp (m r S) (fun x S1 => wp (k x r S1) QF E) (fun x S1 => QF (.xc x r) S1) := by
  unfold stE; cases m r S <;> with_unfolding_all rfl
theorem wp_nx : wp (mNx r S) QF E = QF (.nx r) S := by with_unfolding_all rfl
theorem wp_brk : wp (mBrk r S) QF E = QF (.bk r) S := by with_unfolding_all rfl
theorem wp_cnt : wp (mCnt r S) QF E = QF (.ct r) S := by with_unfolding_all rfl

def aft (b : Env' → M Fl) (QF : Fl → Store → Prop) (E : Exn → Store → Prop) : Fl → Store → Prop := fun f S => match f with
  | .nx r => wp (b r S) QF E
  | .rt d => QF (.rt d) S
  | .bk r => QF (.bk r) S
  | .ct r => QF (.ct r) S
  | .xc x r => QF (.xc x r) S
theorem wp_seq {x y : Env' → M Fl} : wp (mSeq x y r S) QF E = wp (x r S) (aft y QF E) E0' := by
  unfold mSeq
  cases x r S with
  | ok f S1 => cases f <;> with_unfolding_all rfl
  | exc e S1 => with_unfolding_all rfl
  | bad => with_unfolding_all rfl
theorem aft_nx {b : Env' → M Fl} : aft b QF E (.nx r) S = wp (b r S) QF E := by with_unfolding_all rfl
theorem aft_rt {b : Env' → M Fl} {x : D} : aft b QF E (.rt x) S = QF (.rt x) S := by with_unfolding_all rfl
theorem aft_bk {b : Env' → M Fl} : aft b QF E (.bk r) S = QF (.bk r) S := by with_unfolding_all rfl
theorem aft_ct {b : Env' → M Fl} : aft b QF E (.ct r) S = QF (.ct r) S := by with_unfolding_all rfl
theorem aft_xc {b : Env' → M Fl} {x : Exn} : aft b QF E (.xc x r) S = QF (.xc x r) S := by with_unfolding_all rfl
theorem wp_drop : wp (mDrop a r S) QF E = wp (a r S) (fun _ S1 => QF (.nx r) S1) (fun x S1 => QF (.xc x r) S1) := by unfold mDrop stE; cases a r S <;> with_unfolding_all rfl
theorem wp_ret : wp (mRet a r S) QF E = wp (a r S) (fun d S1 => QF (.rt d) S1) (fun x S1 => QF (.xc x r) S1) := by unfold mRet stE; cases a r S <;> with_unfolding_all rfl
theorem wp_retN : wp (mRetN r S) QF E = QF (.rt .non) S := by with_unfolding_all rfl
theorem wp_if {x y : Env' → M Fl} : wp (mIf t x y r S) QF E = wp (t r S) (fun c S1 => if c = true then wp (x r S1) QF E else wp (y r S1) QF E) (fun x S1 => QF (.xc x r) S1) := by
  unfold mIf; rw [wp_stE]; congr 1; funext c S1; split <;> with_unfolding_all rfl
theorem wp_asg {g : TgM} : wp (mAsg a g r S) QF E = wp (a r S) (fun d S1 => wp (g d r S1) (fun r' S2 => QF (.nx r') S2) (fun x S2 => QF (.xc x r) S2)) (fun x S1 => QF (.xc x r) S1) := by
  have h2 : ∀ d S1, wp (stE (g d) (fun r' _ S => (.ok (.nx r') S : R Fl)) r S1) QF E = wp (g d r S1) (fun r' S2 => QF (.nx r') S2) (fun x S2 => QF (.xc x r) S2) := by
    intro d S1; unfold stE; cases g d r S1 <;> with_unfolding_all rfl
  unfold mAsg
  exact wp_stE.trans (by congr 1; funext d S1; exact h2 d S1)
variable {QE : Env' → Store → Prop}
theorem wp_gNm {i : Nat} {x : D} : wp (gNm i x r S) QE E = QE (r.set i (some x)) S := by with_unfolding_all rfl
theorem wp_gTp {n : Nat} {gs : TgsM} {xs : List D} : wp (gTp n gs (.tup xs) r S) QE E = if xs.length = n then wp (gs xs r S) QE E else False := by
  show wp (if xs.length = n then gs xs r S else .bad) QE E = _
  rw [wp_ite]; with_unfolding_all rfl
theorem wp_gsNil : wp (gsNil [] r S) QE E = QE r S := by with_unfolding_all rfl
theorem wp_gsCons {i : Nat} {gs : TgsM} {x : D} {xs : List D} : wp (gsCons (gNm i) gs (x :: xs) r S) QE E = wp (gs xs (r.set i (some x)) S) QE E := by with_unfolding_all rfl
theorem wp_gSub {g : D → D → D → M Unit} {x : D} : wp (gSubM a b g x r S) QE E = wp (a r S) (fun o S1 => wp (b r S1) (fun i S2 => wp (g o i x S2) (fun _ S3 => QE r S3) E) E) E := by
  unfold gSubM; rw [wp_mB]; congr 1; funext o S1; rw [wp_mB]; congr 1; funext i S2; rw [wp_mB]; with_unfolding_all rfl
theorem wp_par {i j : Nat} : wp (mPar i j as r S) QF E = wp (as r S) (fun ds S1 => match ds with | [v, w] => QF (.nx ((r.set i (some v)).set j (some w))) S1 | _ => False) (fun x S1 => QF (.xc x r) S1) := by
  unfold mPar stE
  cases as r S with
  | ok ds S1 =>
    match ds with
    | [] => with_unfolding_all rfl
    | [_] => with_unfolding_all rfl
    | [_, _] => with_unfolding_all rfl
    | _ :: _ :: _ :: _ => with_unfolding_all rfl
  | exc e S1 => with_unfolding_all rfl
  | bad => with_unfolding_all rfl
theorem wp_par3 {i j l : Nat} : wp (mPar3 i j l as r S) QF E = wp (as r S) (fun ds S1 => match ds with | [u, v, w] => QF (.nx (((r.set i (some u)).set j (some v)).set l (some w))) S1 | _ => False) (fun x S1 => QF (.xc x r) S1) := by
  unfold mPar3 stE
  cases as r S with
  | ok ds S1 =>
    match ds with
    | [] => with_unfolding_all rfl
    | [_] => with_unfolding_all rfl
    | [_, _] => with_unfolding_all rfl
    | [_, _, _] => with_unfolding_all rfl
    | _ :: _ :: _ :: _ :: _ => with_unfolding_all rfl
  | exc e S1 => with_unfolding_all rfl
  | bad => with_unfolding_all rfl

def fin (Q : D → Store → Prop) (E : Exn → Store → Prop) : Fl → Store → Prop := fun f S => match f with
  | .rt d => Q d S
  | .nx _ => Q .non S
  | .xc x _ => E x S
  | _ => False
theorem wp_fn {n : Nat} {b : Env' → M Fl} {ds : List D} : wp (mFn n b ds S) Q E = wp (b (ds.map some ++ List.replicate (n - ds.length) none) S) (fin Q E) E0' := by
  unfold mFn
  cases b (ds.map some ++ List.replicate (n - ds.length) none) S with
  | ok f S1 => cases f <;> with_unfolding_all rfl
  | exc e S1 => with_unfolding_all rfl
  | bad => with_unfolding_all rfl
theorem fin_rt {x : D} : fin Q E (.rt x) S = Q x S := by with_unfolding_all rfl
theorem fin_nx : fin Q E (.nx r) S = Q .non S := by with_unfolding_all rfl
theorem fin_xc {x : Exn} : fin Q E (.xc x r) S = E x S := by with_unfolding_all rfl
theorem fin_bk : fin Q E (.bk r) S = False := by with_unfolding_all rfl
theorem fin_ct : fin Q E (.ct r) S = False := by with_unfolding_all rfl

variable {i j : Int} {xs ys : List D}
theorem wp_i0 {g : Int → Int → D} : wp (iOp0 g (.int i) (.int j) S) Q E = Q (g i j) S := by with_unfolding_all rfl
theorem wp_iC {C : Int → Int → Prop} [∀ i j, Decidable (C i j)] {g : Int → Int → D} : wp (iOp C g (.int i) (.int j) S) Q E = (C i j ∧ Q (g i j) S) := by
  show wp (if C i j then .ok (g i j) S else .bad) Q E = _
  by_cases h : C i j <;> simp [h, wp_ok, wp_bad]
theorem wp_addI : wp (addM (.int i) (.int j) S) Q E = Q (.int (i + j)) S := by with_unfolding_all rfl
theorem wp_addT : wp (addM (.tup xs) (.tup ys) S) Q E = (xs.length + ys.length ≤ sizeLine ∧ Q (.tup (xs ++ ys)) S) := by
  show wp (if xs.length + ys.length ≤ sizeLine then .ok (.tup (xs ++ ys)) S else .bad) Q E = _
  by_cases h : xs.length + ys.length ≤ sizeLine <;> simp [h, wp_ok, wp_bad]
theorem wp_mulI : wp (mulM (.int i) (.int j) S) Q E = (CMulX i j ∧ Q (.int (i * j)) S) := by
  show wp (if CMulX i j then .ok (.int (i * j)) S else .bad) Q E = _
  by_cases h : CMulX i j <;> simp [h, wp_ok, wp_bad]
theorem wp_neg : wp (negM (.int i) S) Q E = Q (.int (-i)) S := by with_unfolding_all rfl
theorem wp_tup : wp (tupM xs S) Q E = (xs.length ≤ sizeLine ∧ Q (.tup xs) S) := by
  show wp (if xs.length ≤ sizeLine then .ok (.tup xs) S else .bad) Q E = _
  by_cases h : xs.length ≤ sizeLine <;> simp [h, wp_ok, wp_bad]
theorem wp_lst : wp (lstM xs S) Q E = (xs.length ≤ sizeLine ∧ Q (.ref S.length) (S ++ [.lst xs])) := by
  show wp (if xs.length ≤ sizeLine then .ok (.ref S.length) (S ++ [.lst xs]) else .bad) Q E = _
  by_cases h : xs.length ≤ sizeLine <;> simp [h, wp_ok, wp_bad]
theorem wp_ixT : wp (ixM (.tup xs) (.int i) S) Q E = ∃ x, atI xs i = some x ∧ Q x S := by
  show wp (match atI xs i with | some x => .ok x S | none => .bad) Q E = _
  cases h : atI xs i <;> simp [wp_ok, wp_bad]
theorem wp_ixL {k : Nat} : wp (ixM (.ref k) (.int i) S) Q E = ∃ zs x, lsAt S k = some zs ∧ atI zs i = some x ∧ Q x S := by
  show wp (match lsAt S k with | some zs => (match atI zs i with | some x => .ok x S | none => .bad) | none => .bad) Q E = _
  cases h : lsAt S k with
  | none => simp [wp_bad]
  | some zs => cases h2 : atI zs i <;> simp [wp_ok, wp_bad, h2]
theorem wp_eq {x y : D} : wp (eqM x y S) Q E = ∃ u v, pyD S x = some u ∧ pyD S y = some v ∧ Q (.bl (PyData.eqv u v)) S := by
  unfold eqM
  cases h : pyD S x with
  | none => simp [wp_bad]
  | some u => cases h2 : pyD S y <;> simp [wp_ok, wp_bad]
theorem wp_ne {x y : D} : wp (neM x y S) Q E = ∃ u v, pyD S x = some u ∧ pyD S y = some v ∧ Q (.bl (!PyData.eqv u v)) S := by
  unfold neM
  cases h : pyD S x with
  | none => simp [wp_bad]
  | some u => cases h2 : pyD S y <;> simp [wp_ok, wp_bad]
theorem py_int : pyD S (.int i) = some (.int i) := by with_unfolding_all rfl
theorem py_bl {k : Bool} : pyD S (.bl k) = some (.bool k) := by with_unfolding_all rfl
theorem py_non : pyD S .non = some .none := by with_unfolding_all rfl
theorem eq_int : PyData.eqv (.int i) (.int j) = (i == j) := by simp only [PyData.eqv]
theorem eq_bl {k l : Bool} : PyData.eqv (.bool k) (.bool l) = (k == l) := by simp only [PyData.eqv]
theorem wp_eqI : wp (eqM (.int i) (.int j) S) Q E = Q (.bl (i == j)) S := by rw [wp_eq]; simp [py_int, eq_int]
theorem wp_neI : wp (neM (.int i) (.int j) S) Q E = Q (.bl (!(i == j))) S := by rw [wp_ne]; simp [py_int, eq_int]
theorem wp_eqB {k l : Bool} : wp (eqM (.bl k) (.bl l) S) Q E = Q (.bl (k == l)) S := by rw [wp_eq]; simp [py_bl, eq_bl]
theorem wp_neB {k l : Bool} : wp (neM (.bl k) (.bl l) S) Q E = Q (.bl (!(k == l))) S := by rw [wp_ne]; simp [py_bl, eq_bl]
theorem wp_setL {k : Nat} {v : D} {QU : Unit → Store → Prop} : wp (setM (.ref k) (.int i) v S) QU E = ∃ zs j, lstO S[k]? = some zs ∧ ixN zs.length i = some j ∧ QU () (S.set k (.lst (zs.set j v))) := by
  show wp (match lstO S[k]? with | some xs => (match ixN xs.length i with | some j => .ok () (S.set k (.lst (xs.set j v))) | none => .bad) | none => .bad) QU E = _
  cases h : lstO S[k]? with
  | none => simp [wp_bad]
  | some zs => cases h2 : ixN zs.length i <;> simp [wp_ok, wp_bad, h2]
theorem at0 {α : Type} {x : α} {r : List α} : atI (x :: r) 0 = some x := atI_nat (j := 0) rfl
theorem at1 {α : Type} {x y : α} {r : List α} : atI (x :: y :: r) 1 = some y := atI_nat (j := 1) rfl
theorem at2 {α : Type} {x y z : α} {r : List α} : atI (x :: y :: z :: r) 2 = some z := atI_nat (j := 2) rfl
theorem wp_abs : wp (absM [.int i] S) Q E = Q (.int (if i < 0 then -i else i)) S := by with_unfolding_all rfl
theorem wp_intI : wp (intM [.int i] S) Q E = Q (.int i) S := by with_unfolding_all rfl
theorem wp_intB {k : Bool} : wp (intM [.bl k] S) Q E = Q (.int (if k then 1 else 0)) S := by with_unfolding_all rfl
theorem wp_max2 : wp (maxM [.int i, .int j] S) Q E = Q (.int (if j > i then j else i)) S := by with_unfolding_all rfl
theorem wp_min2 : wp (minM [.int i, .int j] S) Q E = Q (.int (if j < i then j else i)) S := by with_unfolding_all rfl
theorem wp_lenT : wp (lenM [.tup xs] S) Q E = Q (.int xs.length) S := by with_unfolding_all rfl
theorem wp_lenL {k : Nat} (h : lsAt S k = some xs) : wp (lenM [.ref k] S) Q E = Q (.int xs.length) S := by
  unfold lsAt at h
  unfold lenM
  cases q : S[k]? with
  | none => rw [q] at h; cases h
  | some o =>
    rw [q] at h
    cases o with
    | lst zs => cases h; simp only [q]; with_unfolding_all rfl
    | fro zs => cases h; simp only [q]; with_unfolding_all rfl
    | _ => cases h
theorem lsO_lst : lsO (some (.lst xs)) = some xs := by with_unfolding_all rfl
theorem lsO_fro : lsO (some (.fro xs)) = some xs := by with_unfolding_all rfl
theorem lstO_lst : lstO (some (.lst xs)) = some xs := by with_unfolding_all rfl
def lenO : Option O → Option Nat
  | some (.lst xs) => some xs.length
  | some (.fro xs) => some xs.length
  | some (.dK xs) => some xs.length
  | _ => none
theorem lenO_lst : lenO (some (.lst xs)) = some xs.length := by with_unfolding_all rfl
theorem lenO_fro : lenO (some (.fro xs)) = some xs.length := by with_unfolding_all rfl
theorem lenO_dK {kvs : List (Key × D)} : lenO (some (.dK kvs)) = some kvs.length := by with_unfolding_all rfl
theorem wp_lenR {k : Nat} : wp (lenM [.ref k] S) Q E = ∃ n, lenO S[k]? = some n ∧ Q (.int (n : Nat)) S := by
  unfold lenM
  cases q : S[k]? with
  | none => simp [q, wp_bad, lenO]
  | some o => cases o <;> simp [q, wp_ok, wp_bad, lenO]
theorem wp_isi {T : String} : wp (mIsi T a r S) Q E = wp (a r S) (fun d S1 => ∃ t k, tyN d S1 = some t ∧ isiR t T = some k ∧ Q (.bl k) S1) E := by
  unfold mIsi; rw [wp_mB]; congr 1; funext d S1
  cases h : tyN d S1 with
  | none => simp [wp_bad]
  | some t =>
    cases h2 : isiR t T with
    | none => simp [wp_bad, h2]
    | some k => cases k <;> simp [wp_ok, h2]
end
theorem isi_ii : isiR "int" "int" = some true := by decide +kernel
theorem isi_ib : isiR "int" "bool" = some false := by decide +kernel
theorem isi_bi : isiR "bool" "int" = some true := by decide +kernel
theorem isi_bb : isiR "bool" "bool" = some true := by decide +kernel
end CK
end

section
set_option Elab.async false
set_option linter.all false
set_option maxRecDepth 100000
set_option maxHeartbeats 4000000
namespace CK
open PySem PySem.Spec PyProof.Rows L2



def lp (QF : Fl → Store → Prop) (I : Env' → Store → Prop) : Fl → Store → Prop := fun f S => match f with
  | .nx r => I r S
  | .ct r => I r S
  | .bk r => QF (.nx r) S
  | .rt d => QF (.rt d) S
  | .xc e r => QF (.xc e r) S
section
variable {QF : Fl → Store → Prop} {E : Exn → Store → Prop} {S : Store} {r : Env'} {I : Env' → Store → Prop} {g : TgM} {b : Env' → M Fl} {t : Env' → M Bool} {src : Src}
theorem lp_nx : lp QF I (.nx r) S = I r S := rfl
theorem lp_ct : lp QF I (.ct r) S = I r S := rfl
theorem lp_bk : lp QF I (.bk r) S = QF (.nx r) S := rfl
theorem lp_rt {d : D} : lp QF I (.rt d) S = QF (.rt d) S := rfl
theorem lp_xc {e : Exn} : lp QF I (.xc e r) S = QF (.xc e r) S := rfl
theorem wp_after {k : Env' → M Fl} {x : R Fl} : wp (afterB k x) QF E = wp x (lp QF fun r S => wp (k r S) QF E) E0' := by
  cases x with
  | ok f S => cases f <;> with_unfolding_all rfl
  | exc e S => with_unfolding_all rfl
  | bad => with_unfolding_all rfl
theorem wp_lp {x : R Fl} {I J : Env' → Store → Prop} (h : wp x (lp QF I) E0') (f : ∀ r S, I r S → J r S) : wp x (lp QF J) E0' := wp_mono h fun fl S h => by
  cases fl with
  | nx r => exact f _ _ h
  | ct r => exact f _ _ h
  | bk r => exact h
  | rt d => exact h
  | xc e r => exact h
theorem wp_for {ms : Env' → M Src} : wp (mFor ms g b r S) QF E = wp (ms r S) (fun src S1 => wp (mFo src g b FU 0 r S1) QF E) (fun x S1 => QF (.xc x r) S1) := by
  unfold mFor; rw [wp_stE]
theorem wp_fo {len : Nat} {it : Nat → D} (Inv : Nat → Env' → Store → Prop) (h1 : ∀ i r S, i < len → Inv i r S → src i S = some (some (it i))) (h2 : ∀ r S, Inv len r S → src len S = some none)
    (step : ∀ i r S, i < len → Inv i r S → wp (g (it i) r S) (fun r1 S1 => wp (b r1 S1) (lp QF (Inv (i + 1))) E0') (fun e S1 => QF (.xc e r) S1))
    (done : ∀ r S, Inv len r S → QF (.nx r) S) : ∀ (n i : Nat) (r : Env') (S : Store), len < n + i → i ≤ len → Inv i r S → wp (mFo src g b n i r S) QF E
  | 0, i, _, _, h, h', _ => by omega
  | n + 1, i, r, S, h, h', hI => by
    unfold mFo
    by_cases hi : i < len
    · rw [h1 i r S hi hI]
      simp only []
      rw [wp_stE]
      refine wp_imp (step i r S hi hI) (fun r1 S1 q => ?_) fun _ _ q => q
      rw [wp_after]
      exact wp_lp q fun r2 S2 q2 => wp_fo Inv h1 h2 step done n (i + 1) r2 S2 (by omega) hi q2
    · have : i = len := by omega
      subst this
      rw [h2 r S hI]
      simp only [wp_ok]
      exact done r S hI
theorem FU_big : FU = 16777300 := rfl
theorem wp_foR {lo : Int} {n : Nat} (hn : n < FU) (Inv : Nat → Env' → Store → Prop) (h0 : Inv 0 r S)
    (step : ∀ i r S, i < n → Inv i r S → wp (g (.int (lo + i)) r S) (fun r1 S1 => wp (b r1 S1) (lp QF (Inv (i + 1))) E0') (fun e S1 => QF (.xc e r) S1))
    (done : ∀ r S, Inv n r S → QF (.nx r) S) : wp (mFo (srcR lo n) g b FU 0 r S) QF E :=
  wp_fo (it := fun i => .int (lo + i)) Inv (fun i r S hi _ => by unfold srcR; rw [if_pos hi]) (fun r S _ => by unfold srcR; rw [if_neg (Nat.lt_irrefl _)]) step done FU 0 r S (by omega) (Nat.zero_le _) h0
theorem wp_foC {lo c : Int} {n : Nat} (hn : n < FU) (Inv : Nat → Env' → Store → Prop) (h0 : Inv 0 r S)
    (step : ∀ i r S, i < n → Inv i r S → wp (g (.int (lo + (i : Nat) * c)) r S) (fun r1 S1 => wp (b r1 S1) (lp QF (Inv (i + 1))) E0') (fun e S1 => QF (.xc e r) S1))
    (done : ∀ r S, Inv n r S → QF (.nx r) S) : wp (mFo (srcC lo c n) g b FU 0 r S) QF E :=
  wp_fo (it := fun i => .int (lo + (i : Nat) * c)) Inv (fun i r S hi _ => by unfold srcC; rw [if_pos hi]) (fun r S _ => by unfold srcC; rw [if_neg (Nat.lt_irrefl _)]) step done FU 0 r S (by omega) (Nat.zero_le _) h0
theorem getD_of {α : Type} {xs : List α} {i : Nat} {d : α} (h : i < xs.length) : xs[i]? = some (xs.getD i d) := by
  rw [List.getElem?_eq_getElem h]; simp [List.getD, List.getElem?_eq_getElem h]
theorem wp_foL {k : Nat} {xs : List D} (hn : xs.length < FU) (Inv : Nat → Env' → Store → Prop) (h0 : Inv 0 r S) (hk : ∀ i r S, Inv i r S → lsAt S k = some xs)
    (step : ∀ i x r S, xs[i]? = some x → Inv i r S → wp (g x r S) (fun r1 S1 => wp (b r1 S1) (lp QF (Inv (i + 1))) E0') (fun e S1 => QF (.xc e r) S1))
    (done : ∀ r S, Inv xs.length r S → QF (.nx r) S) : wp (mFo (srcL k) g b FU 0 r S) QF E :=
  wp_fo (len := xs.length) (it := fun i => xs.getD i .non) Inv (fun i r S hi hI => by unfold srcL; rw [hk i r S hI]; simp only []; rw [getD_of (d := D.non) hi]) (fun r S hI => by unfold srcL; rw [hk _ r S hI]; simp)
    (fun i r S hi hI => step i _ r S (getD_of hi) hI) done FU 0 r S (by omega) (Nat.zero_le _) h0
theorem wp_foT {xs : List D} (hn : xs.length < FU) (Inv : Nat → Env' → Store → Prop) (h0 : Inv 0 r S)
    (step : ∀ i x r S, xs[i]? = some x → Inv i r S → wp (g x r S) (fun r1 S1 => wp (b r1 S1) (lp QF (Inv (i + 1))) E0') (fun e S1 => QF (.xc e r) S1))
    (done : ∀ r S, Inv xs.length r S → QF (.nx r) S) : wp (mFo (srcT xs) g b FU 0 r S) QF E :=
  wp_fo (len := xs.length) (it := fun i => xs.getD i .non) Inv (fun i r S hi hI => by unfold srcT; rw [getD_of hi]) (fun r S hI => by unfold srcT; simp)
    (fun i r S hi hI => step i _ r S (getD_of hi) hI) done FU 0 r S (by omega) (Nat.zero_le _) h0
theorem wp_foVT {xs : List D} (hn : xs.length < FU) (Inv : Nat → Env' → Store → Prop) (h0 : Inv 0 r S)
    (step : ∀ i x r S, i < xs.length → xs[xs.length - 1 - i]? = some x → Inv i r S → wp (g x r S) (fun r1 S1 => wp (b r1 S1) (lp QF (Inv (i + 1))) E0') (fun e S1 => QF (.xc e r) S1))
    (done : ∀ r S, Inv xs.length r S → QF (.nx r) S) : wp (mFo (srcVT xs) g b FU 0 r S) QF E :=
  wp_fo (len := xs.length) (it := fun i => xs.getD (xs.length - 1 - i) .non) Inv (fun i r S hi hI => by unfold srcVT; rw [if_pos hi, getD_of (by omega)]) (fun r S hI => by unfold srcVT; rw [if_neg (Nat.lt_irrefl _)])
    (fun i r S hi hI => step i _ r S hi (getD_of (by omega)) hI) done FU 0 r S (by omega) (Nat.zero_le _) h0
theorem wp_foV {k n : Nat} {xs : List D} (hx : n = xs.length) (hn : xs.length < FU) (Inv : Nat → Env' → Store → Prop) (h0 : Inv 0 r S) (hk : ∀ i r S, Inv i r S → lsAt S k = some xs)
    (step : ∀ i x r S, i < xs.length → xs[xs.length - 1 - i]? = some x → Inv i r S → wp (g x r S) (fun r1 S1 => wp (b r1 S1) (lp QF (Inv (i + 1))) E0') (fun e S1 => QF (.xc e r) S1))
    (done : ∀ r S, Inv xs.length r S → QF (.nx r) S) : wp (mFo (srcV k n) g b FU 0 r S) QF E := by
  subst hx
  exact wp_fo (len := xs.length) (it := fun i => xs.getD (xs.length - 1 - i) .non) Inv (fun i r S hi hI => by unfold srcV; rw [hk i r S hI]; simp only []; rw [if_pos hi, getD_of (d := D.non) (by omega)]) (fun r S hI => by unfold srcV; rw [hk _ r S hI]; simp)
    (fun i r S hi hI => step i _ r S hi (getD_of (by omega)) hI) done FU 0 r S (by omega) (Nat.zero_le _) h0
theorem wp_foE {k : Nat} {xs : List D} (hn : xs.length < FU) (Inv : Nat → Env' → Store → Prop) (h0 : Inv 0 r S) (hk : ∀ i r S, Inv i r S → lsAt S k = some xs)
    (step : ∀ (i : Nat) (x : D) r S, xs[i]? = some x → Inv i r S → wp (g (.tup [.int (i : Nat), x]) r S) (fun r1 S1 => wp (b r1 S1) (lp QF (Inv (i + 1))) E0') (fun e S1 => QF (.xc e r) S1))
    (done : ∀ r S, Inv xs.length r S → QF (.nx r) S) : wp (mFo (srcE k) g b FU 0 r S) QF E :=
  wp_fo (len := xs.length) (it := fun i => .tup [.int (i : Nat), xs.getD i .non]) Inv (fun i r S hi hI => by unfold srcE; rw [hk i r S hI]; simp only []; rw [getD_of (d := D.non) hi]) (fun r S hI => by unfold srcE; rw [hk _ r S hI]; simp)
    (fun i r S hi hI => step i _ r S (getD_of hi) hI) done FU 0 r S (by omega) (Nat.zero_le _) h0
theorem wp_wh (Inv : Nat → Env' → Store → Prop)
    (step : ∀ m r S, Inv m r S → wp (t r S) (fun c S1 => if c = true then wp (b r S1) (lp QF fun r2 S2 => ∃ m', m' < m ∧ Inv m' r2 S2) E0' else QF (.nx r) S1) (fun e S1 => QF (.xc e r) S1)) :
    ∀ (n m : Nat) (r : Env') (S : Store), m < n → Inv m r S → wp (mWh t b n r S) QF E
  | 0, m, _, _, h, _ => by omega
  | n + 1, m, r, S, h, hI => by
    unfold mWh
    rw [wp_stE]
    refine wp_imp (step m r S hI) (fun c S1 q => ?_) fun _ _ q => q
    cases c with
    | true =>
      simp only [if_true] at q ⊢
      rw [wp_after]
      exact wp_lp q fun r2 S2 ⟨m', h1, h2⟩ => wp_wh Inv step n m' r2 S2 (by omega) h2
    | false =>
      simp only [Bool.false_eq_true, if_false, wp_nx] at q ⊢
      exact q
theorem wp_while (Inv : Nat → Env' → Store → Prop) {m : Nat} (hm : m < FU) (h0 : Inv m r S)
    (step : ∀ m r S, Inv m r S → wp (t r S) (fun c S1 => if c = true then wp (b r S1) (lp QF fun r2 S2 => ∃ m', m' < m ∧ Inv m' r2 S2) E0' else QF (.nx r) S1) (fun e S1 => QF (.xc e r) S1)) :
    wp (mWhile t b r S) QF E := wp_wh Inv step FU m r S hm h0
end


section
variable {E : Exn → Store → Prop} {S : Store} {r : Env'} {Q : D → Store → Prop} {as : Env' → M (List D)} {a : Env' → M D} {k : Nat} {y : D}
theorem wp_ML {f : D → List D → M D} : wp (mML f a as r S) Q E = wp (a r S) (fun x S1 => isLs x S1 = true ∧ wp (as r S1) (fun xs S2 => wp (f x xs S2) Q E) E) E := by
  unfold mML; rw [wp_mB]; congr 1; funext x S1
  by_cases h : isLs x S1 = true
  · rw [if_pos h, wp_mB]; simp [h]
  · rw [if_neg h]; simp [h, wp_bad]
theorem wp_ML0 {f : D → List D → M D} : wp (mML0 f a r S) Q E = wp (a r S) (fun x S1 => isLs x S1 = true ∧ wp (f x [] S1) Q E) E := by
  unfold mML0; rw [wp_mB]; congr 1; funext x S1
  by_cases h : isLs x S1 = true
  · rw [if_pos h]; simp [h]
  · rw [if_neg h]; simp [h, wp_bad]
theorem isLs_ref : isLs (.ref k) S = (lsO S[k]?).isSome := rfl
theorem wp_lsUpd {f : List D → Option (D × List D)} : wp (lsUpd (.ref k) f S) Q E = ∃ xs y ys, lstO S[k]? = some xs ∧ f xs = some (y, ys) ∧ Q y (S.set k (.lst ys)) := by
  show wp (match lstO S[k]? with | some xs => (match f xs with | some (y, ys) => .ok y (S.set k (.lst ys)) | none => .bad) | none => .bad) Q E = _
  cases h : lstO S[k]? with
  | none => simp [wp_bad]
  | some xs =>
    cases h2 : f xs with
    | none => simp [wp_bad, h2]
    | some z =>
      obtain ⟨y, ys⟩ := z
      simp only [h2, wp_ok]
      exact propext ⟨fun q => ⟨xs, y, ys, rfl, h2, q⟩, fun ⟨_, _, _, e1, e2, q⟩ => by cases e1; rw [h2] at e2; cases e2; exact q⟩
theorem wp_append : wp (appendM (.ref k) [y] S) Q E = ∃ xs, lstO S[k]? = some xs ∧ xs.length < sizeLine ∧ Q .non (S.set k (.lst (xs ++ [y]))) := by
  show wp (lsUpd (.ref k) _ S) Q E = _
  rw [wp_lsUpd]
  apply propext
  constructor
  · rintro ⟨xs, z, zs, h1, h2, h3⟩
    split at h2
    · rename_i hl; cases h2; exact ⟨xs, h1, hl, h3⟩
    · cases h2
  · rintro ⟨xs, h1, h2, h3⟩
    exact ⟨xs, .non, xs ++ [y], h1, by rw [if_pos h2], h3⟩
theorem wp_pop : wp (popM (.ref k) [] S) Q E = ∃ xs y, lstO S[k]? = some xs ∧ xs[xs.length - 1]? = some y ∧ Q y (S.set k (.lst xs.dropLast)) := by
  show wp (lsUpd (.ref k) _ S) Q E = _
  rw [wp_lsUpd]
  apply propext
  constructor
  · rintro ⟨xs, z, zs, h1, h2, h3⟩
    split at h2
    · rename_i y hy; cases h2; exact ⟨xs, _, h1, hy, h3⟩
    · cases h2
  · rintro ⟨xs, y, h1, h2, h3⟩
    exact ⟨xs, y, xs.dropLast, h1, by rw [h2], h3⟩
theorem wp_tupleR : wp (tupleM [.ref k] S) Q E = ∃ xs, lsO S[k]? = some xs ∧ Q (.tup xs) S := by
  show wp (match lsAt S k with | some xs => .ok (.tup xs) S | none => .bad) Q E = _
  unfold lsAt
  cases h : lsO S[k]? <;> simp [wp_ok, wp_bad]
theorem wp_tupleT {xs : List D} : wp (tupleM [.tup xs] S) Q E = Q (.tup xs) S := by with_unfolding_all rfl
theorem wp_listR : wp (listM [.ref k] S) Q E = ∃ xs, lsO S[k]? = some xs ∧ Q (.ref S.length) (S ++ [.lst xs]) := by
  show wp (match lsAt S k with | some xs => .ok (.ref S.length) (S ++ [.lst xs]) | none => .bad) Q E = _
  unfold lsAt
  cases h : lsO S[k]? <;> simp [wp_ok, wp_bad]
theorem wp_listT {xs : List D} : wp (listM [.tup xs] S) Q E = Q (.ref S.length) (S ++ [.lst xs]) := by with_unfolding_all rfl
theorem wp_ofList {α : Type} {f : List D → Option α} {g : α → M D} : wp (ofList f g [.ref k] S) Q E = ∃ xs a, lsO S[k]? = some xs ∧ f xs = some a ∧ wp (g a S) Q E := by
  show wp (match lsAt S k with | some xs => (match f xs with | some a => g a S | none => .bad) | none => .bad) Q E = _
  unfold lsAt
  cases h : lsO S[k]? with
  | none => simp [wp_bad]
  | some xs => cases h2 : f xs <;> simp [wp_bad, h2]
theorem wp_all : wp (allM [.ref k] S) Q E = ∃ xs bs, lsO S[k]? = some xs ∧ asBls xs = some bs ∧ Q (.bl (bs.all id)) S := by
  unfold allM; rw [wp_ofList]; with_unfolding_all rfl
theorem wp_any : wp (anyM [.ref k] S) Q E = ∃ xs bs, lsO S[k]? = some xs ∧ asBls xs = some bs ∧ Q (.bl (bs.any id)) S := by
  unfold anyM; rw [wp_ofList]; with_unfolding_all rfl
theorem wp_sum : wp (sumM [.ref k] S) Q E = ∃ xs ns, lsO S[k]? = some xs ∧ asInts xs = some ns ∧ Q (.int ns.sum) S := by
  unfold sumM; rw [wp_ofList]; with_unfolding_all rfl
theorem wp_notB {b c : Bool} : wp (notM (.bl b) (.bl c) S) Q E = Q (.bl (!decide (b = c))) S := by with_unfolding_all rfl
theorem wp_isB {b c : Bool} : wp (isM (.bl b) (.bl c) S) Q E = Q (.bl (decide (b = c))) S := by with_unfolding_all rfl
theorem wp_isN : wp (isM y .non S) Q E = Q (.bl (match y with | .non => true | _ => false)) S := by with_unfolding_all rfl
theorem wp_notN : wp (notM y .non S) Q E = Q (.bl (match y with | .non => false | _ => true)) S := by with_unfolding_all rfl
end


section
variable {E : Exn → Store → Prop} {S : Store} {r : Env'} {Q : Src → Store → Prop} {as : Env' → M (List D)} {a : Env' → M D}
theorem wp_rng1 : wp (mRng1 as r S) Q E = wp (as r S) (fun ds S1 => ∃ j, ds = [.int j] ∧ okR j ∧ Q (srcR 0 j.toNat) S1) E := by
  unfold mRng1; rw [wp_mB]; congr 1; funext ds S1
  split
  · rename_i j; by_cases h : okR j <;> simp [h, wp_ok, wp_bad]
  · rename_i h; simp [wp_bad]; intro j e; exact absurd e (h j)
theorem wp_rng2 : wp (mRng2 as r S) Q E = wp (as r S) (fun ds S1 => ∃ i j, ds = [.int i, .int j] ∧ okR i ∧ okR j ∧ Q (srcR i (j - i).toNat) S1) E := by
  unfold mRng2; rw [wp_mB]; congr 1; funext ds S1
  split
  · rename_i i j
    by_cases h : okR i ∧ okR j
    · rw [if_pos h, wp_ok]
      exact propext ⟨fun q => ⟨i, j, rfl, h.1, h.2, q⟩, fun ⟨i', j', e, _, _, q⟩ => by cases e; exact q⟩
    · rw [if_neg h, wp_bad]
      exact propext ⟨fun q => q.elim, fun ⟨i', j', e, h1, h2, _⟩ => by cases e; exact h ⟨h1, h2⟩⟩
  · rename_i h; simp [wp_bad]; intro i j e; exact absurd e (h i j)
theorem wp_rng3 : wp (mRng3 as r S) Q E = wp (as r S) (fun ds S1 => ∃ i j, ds = [.int i, .int j, .int (-1)] ∧ okR i ∧ okR j ∧ Q (srcC i (-1) (i - j).toNat) S1) E := by
  unfold mRng3; rw [wp_mB]; congr 1; funext ds S1
  split
  · rename_i i j
    by_cases h : okR i ∧ okR j
    · rw [if_pos h, wp_ok]
      exact propext ⟨fun q => ⟨i, j, rfl, h.1, h.2, q⟩, fun ⟨i', j', e, _, _, q⟩ => by cases e; exact q⟩
    · rw [if_neg h, wp_bad]
      exact propext ⟨fun q => q.elim, fun ⟨i', j', e, h1, h2, _⟩ => by cases e; exact h ⟨h1, h2⟩⟩
  · rename_i h; simp [wp_bad]; intro i j e; exact absurd e (h i j)
theorem wp_src : wp (mSrc a r S) Q E = wp (a r S) (fun d S1 => (∃ xs, d = .tup xs ∧ Q (srcT xs) S1) ∨ ∃ k xs, d = .ref k ∧ lsAt S1 k = some xs ∧ Q (srcL k) S1) E := by
  unfold mSrc; rw [wp_mB]; congr 1; funext d S1
  cases d with
  | tup xs => simp [wp_ok]
  | ref k => cases h : lsAt S1 k <;> simp [wp_ok, wp_bad, h]
  | _ => simp [wp_bad]
theorem wp_revS : wp (mRevS a r S) Q E = wp (a r S) (fun d S1 => (∃ xs, d = .tup xs ∧ Q (srcVT xs) S1) ∨ ∃ k xs, d = .ref k ∧ lsAt S1 k = some xs ∧ Q (srcV k xs.length) S1) E := by
  unfold mRevS; rw [wp_mB]; congr 1; funext d S1
  cases d with
  | tup xs => simp [wp_ok]
  | ref k => cases h : lsAt S1 k <;> simp [wp_ok, wp_bad, h]
  | _ => simp [wp_bad]
theorem wp_enum : wp (mEnum as r S) Q E = wp (as r S) (fun ds S1 => ∃ k xs, ds = [.ref k] ∧ lsAt S1 k = some xs ∧ Q (srcE k) S1) E := by
  unfold mEnum; rw [wp_mB]; congr 1; funext ds S1
  split
  · rename_i k; cases h : lsAt S1 k <;> simp [wp_ok, wp_bad, h]
  · rename_i h; simp [wp_bad]; intro i e; exact absurd e (h i)
theorem wp_srcT {xs : List D} {a : Env' → M D} (h : a r S = .ok (.tup xs) S) : wp (mSrc a r S) Q E = Q (srcT xs) S := by
  rw [wp_src, h]; simp [wp_ok]
end


section
variable {E : Exn → Store → Prop} {S : Store} {r : Env'} {Q : D → Store → Prop} {QU : Unit → Store → Prop} {ms : Env' → M Src} {g : TgM} {mt : Env' → M Bool} {me : Env' → M D} {vs : List Nat} {src : Src} {p : Nat}
theorem wp_lc : wp (mLc ms g mt me vs r S) Q E = wp (ms r S) (fun src S1 => wp (lcGo src g mt me S1.length (wipeE r vs) FU 0 (S1 ++ [.lst []])) (fun _ S2 => Q (.ref S1.length) S2) E0') E := by
  unfold mLc; rw [wp_mB]; congr 1; funext src S1
  split
  · rename_i h; rw [h]; with_unfolding_all rfl
  · rename_i h
    cases q : lcGo src g mt me S1.length (wipeE r vs) FU 0 (S1 ++ [.lst []]) with
    | ok a S2 => exact absurd q (h a S2)
    | exc e S2 => with_unfolding_all rfl
    | bad => with_unfolding_all rfl
theorem wp_yes {QB : Bool → Store → Prop} : wp (mYes r S) QB E = QB true S := by with_unfolding_all rfl

def lcT (g : TgM) (mt : Env' → M Bool) (me : Env' → M D) (r : Env') (x : D) (S : Store) (Y : D → Store → Prop) (Nn : Store → Prop) : Prop :=
  wp (g x r S) (fun r1 S1 => wp (mt r1 S1) (fun c S2 => if c = true then wp (me r1 S2) Y E0' else Nn S2) E0') E0'
theorem wp_lcGo {len : Nat} {it : Nat → D} (Inv : Nat → List D → Store → Prop) (h1 : ∀ i acc S, i < len → Inv i acc S → src i S = some (some (it i))) (h2 : ∀ acc S, Inv len acc S → src len S = some none)
    (step : ∀ i acc S, i < len → S[p]? = some (.lst acc) → Inv i acc S → lcT g mt me r (it i) S (fun y S3 => S3[p]? = some (.lst acc) ∧ acc.length < sizeLine ∧ Inv (i + 1) (acc ++ [y]) (S3.set p (.lst (acc ++ [y])))) (fun S2 => S2[p]? = some (.lst acc) ∧ Inv (i + 1) acc S2))
    (done : ∀ acc S, S[p]? = some (.lst acc) → Inv len acc S → QU () S) :
    ∀ (n i : Nat) (acc : List D) (S : Store), len < n + i → i ≤ len → S[p]? = some (.lst acc) → Inv i acc S → wp (lcGo src g mt me p r n i S) QU E0'
  | 0, i, _, _, h, h', _, _ => by omega
  | n + 1, i, acc, S, h, h', hp, hI => by
    unfold lcGo
    by_cases hi : i < len
    · rw [h1 i acc S hi hI]
      simp only []
      have st := step i acc S hi hp hI
      unfold lcT at st
      cases q1 : g (it i) r S with
      | exc e S1 => rw [q1, wp_exc] at st; exact st.elim
      | bad => rw [q1, wp_bad] at st; exact st.elim
      | ok r1 S1 =>
        rw [q1, wp_ok] at st
        simp only []
        cases q2 : mt r1 S1 with
        | exc e S1 => rw [q2, wp_exc] at st; exact st.elim
        | bad => rw [q2, wp_bad] at st; exact st.elim
        | ok c S2 =>
          rw [q2, wp_ok] at st
          simp only []
          cases c with
          | false =>
            simp only [Bool.false_eq_true, if_false] at st ⊢
            exact wp_lcGo Inv h1 h2 step done n (i + 1) acc S2 (by omega) hi st.1 st.2
          | true =>
            simp only [if_true] at st ⊢
            cases q3 : me r1 S2 with
            | exc e S1 => rw [q3, wp_exc] at st; exact st.elim
            | bad => rw [q3, wp_bad] at st; exact st.elim
            | ok y S3 =>
              rw [q3, wp_ok] at st
              simp only [st.1]
              rw [if_pos st.2.1]
              exact wp_lcGo Inv h1 h2 step done n (i + 1) (acc ++ [y]) _ (by omega) hi (List.getElem?_set_self (List.getElem?_eq_some_iff.mp st.1).1) st.2.2
    · have : i = len := by omega
      subst this
      rw [h2 acc S hI]
      simp only [wp_ok]
      exact done acc S hp hI

theorem lcGo_pure {len : Nat} {it : Nat → D} {f : Nat → Option D} (hp : p = S.length) (hl : len ≤ 1000000) (h1 : ∀ i acc, i < len → src i (S ++ [.lst acc]) = some (some (it i))) (h2 : ∀ acc, src len (S ++ [.lst acc]) = some none)
    (step : ∀ i acc, i < len → lcT g mt me r (it i) (S ++ [.lst acc]) (fun y S3 => S3 = S ++ [.lst acc] ∧ f i = some y) (fun S2 => S2 = S ++ [.lst acc] ∧ f i = none))
    (hq : QU () (S ++ [.lst ((List.range len).filterMap f)])) : wp (lcGo src g mt me p r FU 0 (S ++ [.lst []])) QU E0' := by
  subst hp
  have hset : ∀ acc acc' : List D, (S ++ [O.lst acc]).set S.length (.lst acc') = S ++ [.lst acc'] := fun acc acc' => by simp
  have hget : ∀ acc : List D, (S ++ [O.lst acc])[S.length]? = some (.lst acc) := fun acc => by simp
  refine wp_lcGo (len := len) (it := it) (fun i acc T => T = S ++ [.lst acc] ∧ acc = (List.range i).filterMap f) (fun i acc T hi h => by rw [h.1]; exact h1 i acc hi) (fun acc T h => by rw [h.1]; exact h2 acc)
    (fun i acc T hi hT h => ?_) (fun acc T _ h => by rw [h.1, h.2]; exact hq) FU 0 [] _ (by unfold FU; omega) (Nat.zero_le _) (hget []) ⟨rfl, rfl⟩
  obtain ⟨rfl, rfl⟩ := h
  have st := step i ((List.range i).filterMap f) hi
  unfold lcT at st ⊢
  refine wp_mono st fun r1 S1 st => wp_mono st fun c S2 st => ?_
  have hr : (List.range (i + 1)).filterMap f = (List.range i).filterMap f ++ (match f i with | some y => [y] | none => []) := by
    rw [List.range_succ, List.filterMap_append]
    cases q : f i <;> simp [q]
  cases c with
  | false =>
    simp only [Bool.false_eq_true, if_false] at st ⊢
    obtain ⟨e1, e2⟩ := st
    rw [e1]
    exact ⟨hget _, rfl, by rw [hr, e2]; simp⟩
  | true =>
    simp only [if_true] at st ⊢
    refine wp_mono st fun y S3 ⟨e1, e2⟩ => ?_
    rw [e1]
    refine ⟨hget _, ?_, hset _ _, by rw [hr, e2]⟩
    have hb : ((List.range i).filterMap f).length ≤ i := by
      have := List.length_filterMap_le f (List.range i)
      simpa using this
    have : i < 1000000 := by omega
    exact Nat.lt_of_le_of_lt hb (Nat.lt_of_lt_of_le this (by rw [sizeLine_eq]; omega))
theorem range_filterMap {α β : Type} (f : α → Option β) (d : α) : ∀ (xs : List α), (List.range xs.length).filterMap (fun i => f (xs.getD i d)) = xs.filterMap f := by
  intro xs
  have : (List.range xs.length).map (fun i => xs.getD i d) = xs := by
    apply List.ext_getElem?
    intro i
    by_cases h : i < xs.length
    · simp [h, List.getElem?_map, List.getElem?_range h, List.getD, List.getElem?_eq_getElem h]
    · simp [h]
  conv => rhs; rw [← this]
  rw [List.filterMap_map]; with_unfolding_all rfl

theorem lcGo_list {xs : List D} {k : Nat} {f : D → Option D} (hp : p = S.length) (hl : xs.length ≤ 1000000) (hk : lsAt S k = some xs)
    (step : ∀ (i : Nat) (x : D) (acc : List D), xs[i]? = some x → lcT g mt me r x (S ++ [.lst acc]) (fun y S3 => S3 = S ++ [.lst acc] ∧ f x = some y) (fun S2 => S2 = S ++ [.lst acc] ∧ f x = none))
    (hq : QU () (S ++ [.lst (xs.filterMap f)])) : wp (lcGo (srcL k) g mt me p r FU 0 (S ++ [.lst []])) QU E0' := by
  have hk2 : ∀ acc, lsAt (S ++ [O.lst acc]) k = some xs := fun acc => by
    unfold lsAt at hk ⊢
    have hlt : k < S.length := by
      by_cases h : k < S.length
      · exact h
      · rw [List.getElem?_eq_none (by omega)] at hk; cases hk
    rw [List.getElem?_append_left hlt]; exact hk
  refine lcGo_pure (len := xs.length) (it := fun i => xs.getD i .non) (f := fun i => f (xs.getD i .non)) hp hl (fun i acc hi => by unfold srcL; rw [hk2]; simp only []; rw [getD_of (d := D.non) hi]) (fun acc => by unfold srcL; rw [hk2]; simp) (fun i acc hi => step i _ acc (getD_of hi)) ?_
  rw [range_filterMap]; exact hq
theorem lcGo_tup {xs : List D} {f : D → Option D} (hp : p = S.length) (hl : xs.length ≤ 1000000)
    (step : ∀ (i : Nat) (x : D) (acc : List D), xs[i]? = some x → lcT g mt me r x (S ++ [.lst acc]) (fun y S3 => S3 = S ++ [.lst acc] ∧ f x = some y) (fun S2 => S2 = S ++ [.lst acc] ∧ f x = none))
    (hq : QU () (S ++ [.lst (xs.filterMap f)])) : wp (lcGo (srcT xs) g mt me p r FU 0 (S ++ [.lst []])) QU E0' := by
  refine lcGo_pure (len := xs.length) (it := fun i => xs.getD i .non) (f := fun i => f (xs.getD i .non)) hp hl (fun i acc hi => by unfold srcT; rw [getD_of hi]) (fun acc => by unfold srcT; simp) (fun i acc hi => step i _ acc (getD_of hi)) ?_
  rw [range_filterMap]; exact hq
theorem lcGo_rng {lo : Int} {n : Nat} {f : Nat → Option D} (hp : p = S.length) (hl : n ≤ 1000000)
    (step : ∀ i acc, i < n → lcT g mt me r (.int (lo + i)) (S ++ [.lst acc]) (fun y S3 => S3 = S ++ [.lst acc] ∧ f i = some y) (fun S2 => S2 = S ++ [.lst acc] ∧ f i = none))
    (hq : QU () (S ++ [.lst ((List.range n).filterMap f)])) : wp (lcGo (srcR lo n) g mt me p r FU 0 (S ++ [.lst []])) QU E0' :=
  lcGo_pure (len := n) (it := fun i => .int (lo + i)) hp hl (fun i acc hi => by unfold srcR; rw [if_pos hi]) (fun acc => by unfold srcR; rw [if_neg (Nat.lt_irrefl _)]) step hq
end
theorem sz0 : (0 ≤ sizeLine) = True := eq_true (by rw [sizeLine_eq]; omega)
theorem sz1 : (1 ≤ sizeLine) = True := eq_true (by rw [sizeLine_eq]; omega)
theorem sz2 : (2 ≤ sizeLine) = True := eq_true (by rw [sizeLine_eq]; omega)
theorem sz3 : (3 ≤ sizeLine) = True := eq_true (by rw [sizeLine_eq]; omega)
theorem sz4 : (4 ≤ sizeLine) = True := eq_true (by rw [sizeLine_eq]; omega)
theorem sz5 : (5 ≤ sizeLine) = True := eq_true (by rw [sizeLine_eq]; omega)
theorem sz6 : (6 ≤ sizeLine) = True := eq_true (by rw [sizeLine_eq]; omega)
theorem sz7 : (7 ≤ sizeLine) = True := eq_true (by rw [sizeLine_eq]; omega)
theorem sz8 : (8 ≤ sizeLine) = True := eq_true (by rw [sizeLine_eq]; omega)
end CK
end

section
set_option Elab.async false
set_option linter.all false
set_option maxRecDepth 100000
set_option maxHeartbeats 4000000
namespace CK
open PySem PySem.Spec PyProof.Rows L2
theorem isi_nb : isiR "NoneType" "bool" = some false := by decide +kernel
theorem isi_ni : isiR "NoneType" "int" = some false := by decide +kernel
theorem isi_ns : isiR "NoneType" "str" = some false := by decide +kernel
theorem isi_nt : isiR "NoneType" "tuple" = some false := by decide +kernel
theorem isi_nl : isiR "NoneType" "list" = some false := by decide +kernel
theorem isi_nd : isiR "NoneType" "dict" = some false := by decide +kernel
theorem isi_bs : isiR "bool" "str" = some false := by decide +kernel
theorem isi_bt : isiR "bool" "tuple" = some false := by decide +kernel
theorem isi_bl : isiR "bool" "list" = some false := by decide +kernel
theorem isi_bd : isiR "bool" "dict" = some false := by decide +kernel
theorem isi_is : isiR "int" "str" = some false := by decide +kernel
theorem isi_it : isiR "int" "tuple" = some false := by decide +kernel
theorem isi_il : isiR "int" "list" = some false := by decide +kernel
theorem isi_id : isiR "int" "dict" = some false := by decide +kernel
theorem isi_sb : isiR "str" "bool" = some false := by decide +kernel
theorem isi_si : isiR "str" "int" = some false := by decide +kernel
theorem isi_ss : isiR "str" "str" = some true := by decide +kernel
theorem isi_st : isiR "str" "tuple" = some false := by decide +kernel
theorem isi_sl : isiR "str" "list" = some false := by decide +kernel
theorem isi_sd : isiR "str" "dict" = some false := by decide +kernel
theorem isi_tb : isiR "tuple" "bool" = some false := by decide +kernel
theorem isi_ti : isiR "tuple" "int" = some false := by decide +kernel
theorem isi_ts : isiR "tuple" "str" = some false := by decide +kernel
theorem isi_tt : isiR "tuple" "tuple" = some true := by decide +kernel
theorem isi_tl : isiR "tuple" "list" = some false := by decide +kernel
theorem isi_td : isiR "tuple" "dict" = some false := by decide +kernel
theorem isi_lb : isiR "list" "bool" = some false := by decide +kernel
theorem isi_li : isiR "list" "int" = some false := by decide +kernel
theorem isi_ls : isiR "list" "str" = some false := by decide +kernel
theorem isi_lt : isiR "list" "tuple" = some false := by decide +kernel
theorem isi_ll : isiR "list" "list" = some true := by decide +kernel
theorem isi_ld : isiR "list" "dict" = some false := by decide +kernel
theorem isi_db : isiR "dict" "bool" = some false := by decide +kernel
theorem isi_di : isiR "dict" "int" = some false := by decide +kernel
theorem isi_ds : isiR "dict" "str" = some false := by decide +kernel
theorem isi_dt : isiR "dict" "tuple" = some false := by decide +kernel
theorem isi_dl : isiR "dict" "list" = some false := by decide +kernel
theorem isi_dd : isiR "dict" "dict" = some true := by decide +kernel
section
variable {E : Exn → Store → Prop} {S : Store} {Q : D → Store → Prop} {xs : List D} {j : Int}
theorem wp_mulT : wp (mulM (.tup xs) (.int j) S) Q E = (xs ≠ [] ∧ 2 ≤ j ∧ j ≤ 1000 ∧ xs.length ≤ 1000 ∧ Q (.tup (List.replicate j.toNat xs).flatten) S) := by
  show wp (if xs ≠ [] ∧ 2 ≤ j ∧ j ≤ 1000 ∧ xs.length ≤ 1000 then .ok (.tup (List.replicate j.toNat xs).flatten) S else .bad) Q E = _
  by_cases h : xs ≠ [] ∧ 2 ≤ j ∧ j ≤ 1000 ∧ xs.length ≤ 1000
  · rw [if_pos h, wp_ok]; exact propext ⟨fun q => ⟨h.1, h.2.1, h.2.2.1, h.2.2.2, q⟩, fun q => q.2.2.2.2⟩
  · rw [if_neg h, wp_bad]; exact propext ⟨fun q => q.elim, fun q => h ⟨q.1, q.2.1, q.2.2.1, q.2.2.2.1⟩⟩
theorem wp_slice {o : Env' → M D} {l h : Env' → M (Option Int)} {r : Env'} : wp (mSlice o l h r S) Q E = wp (o r S) (fun d S1 => wp (l r S1) (fun lo S2 => wp (h r S2) (fun hi S3 => wp (slM d lo hi S3) Q E) E) E) E := by
  unfold mSlice; rw [wp_mB]; congr 1; funext x S1; rw [wp_mB]; congr 1; funext x S1; rw [wp_mB]
theorem wp_noPart {r : Env'} {QO : Option Int → Store → Prop} : wp (mNoPart r S) QO E = QO none S := by with_unfolding_all rfl
end
section
variable {α : Type} {xs : List α}
theorem cut_to {n : Int} (h : 0 ≤ n) : cutD xs none (some n) = xs.take n.toNat := by
  obtain ⟨k, rfl⟩ : ∃ k : Nat, n = (k : Int) := ⟨n.toNat, by omega⟩
  unfold cutD
  rw [HT.sIx_nat, HT.sIx_none, List.drop_zero, Nat.sub_zero, Int.toNat_natCast]
  by_cases h : k ≤ xs.length
  · rw [Nat.min_eq_left h]
  · rw [Nat.min_eq_right (by omega), List.take_of_length_le (Nat.le_refl _), List.take_of_length_le (by omega)]
theorem cut_from {n : Int} (h : 0 ≤ n) : cutD xs (some n) none = xs.drop n.toNat := by
  obtain ⟨k, rfl⟩ : ∃ k : Nat, n = (k : Int) := ⟨n.toNat, by omega⟩
  unfold cutD
  rw [HT.sIx_nat, HT.sIx_none, Int.toNat_natCast]
  by_cases h : k ≤ xs.length
  · rw [Nat.min_eq_left h, List.take_of_length_le (by rw [List.length_drop]; exact Nat.le_refl _)]
  · rw [Nat.min_eq_right (by omega), List.drop_of_length_le (Nat.le_refl _), List.drop_of_length_le (by omega)]; simp
theorem cut_mid {m n : Int} (h0 : 0 ≤ m) (h : 0 ≤ n) : cutD xs (some m) (some n) = (xs.take n.toNat).drop m.toNat := by
  obtain ⟨k, rfl⟩ : ∃ k : Nat, n = (k : Int) := ⟨n.toNat, by omega⟩
  obtain ⟨j, rfl⟩ : ∃ j : Nat, m = (j : Int) := ⟨m.toNat, by omega⟩
  unfold cutD
  rw [HT.sIx_nat, HT.sIx_nat, Int.toNat_natCast, Int.toNat_natCast]
  apply List.ext_getElem?
  intro i
  rw [List.getElem?_take, List.getElem?_drop, List.getElem?_drop, List.getElem?_take]
  by_cases hj : j ≤ xs.length
  · rw [Nat.min_eq_left hj]
    by_cases hk : k ≤ xs.length
    · rw [Nat.min_eq_left hk]
      by_cases q : i < k - j
      · rw [if_pos q, if_pos (by omega)]
      · rw [if_neg q, if_neg (by omega)]
    · rw [Nat.min_eq_right (by omega)]
      by_cases q : j + i < xs.length
      · rw [if_pos (by omega), if_pos (by omega)]
      · rw [List.getElem?_eq_none (by omega)]; simp
  · rw [Nat.min_eq_right (show xs.length ≤ j by omega), List.getElem?_eq_none (show xs.length ≤ xs.length + i by omega), List.getElem?_eq_none (show xs.length ≤ j + i by omega)]; simp
theorem cut_last {n : Int} (h : n < 0) : cutD xs (some n) none = xs.drop (n + xs.length).toNat := by
  unfold cutD
  rw [HT.sIx_none]
  have : HT.sIx xs.length 0 (some n) = (n + xs.length).toNat := by
    show (if n < 0 then (n + (xs.length : Int)).toNat else min n.toNat xs.length) = _
    rw [if_pos h]
  rw [this, List.take_of_length_le (by rw [List.length_drop]; exact Nat.le_refl _)]
end
section
variable {E : Exn → Store → Prop} {S : Store} {Q : D → Store → Prop} {xs : List D} {lo hi : Option Int}
theorem wp_slT : wp (slM (.tup xs) lo hi S) Q E = Q (.tup (cutD xs lo hi)) S := by with_unfolding_all rfl
theorem wp_slL {k : Nat} : wp (slM (.ref k) lo hi S) Q E = ∃ xs, lsAt S k = some xs ∧ Q (.ref S.length) (S ++ [.lst (cutD xs lo hi)]) := by
  show wp (match lsAt S k with | some xs => .ok (.ref S.length) (S ++ [.lst (cutD xs lo hi)]) | none => .bad) Q E = _
  cases h : lsAt S k <;> simp [wp_ok, wp_bad]
theorem wp_part {m : Env' → M D} {r : Env'} {QO : Option Int → Store → Prop} : wp (mPart m r S) QO E = wp (m r S) (fun d S1 => ∃ i, d.asInt = some i ∧ QO (some i) S1) E := by
  unfold mPart; rw [wp_mB]; congr 1; funext d S1
  cases h : d.asInt <;> simp [wp_ok, wp_bad]
theorem asInt_int {i : Int} {P : Int → Prop} : (∃ j, (D.int i).asInt = some j ∧ P j) = P i := by simp [D.asInt]
end
section
variable {E : Exn → Store → Prop} {S : Store} {Q : D → Store → Prop} {k j : Nat}
theorem wp_extend : wp (extendM (.ref k) [.ref j] S) Q E = ∃ zs, lstO S[j]? = some zs ∧ ∃ xs, lstO S[k]? = some xs ∧ xs.length + zs.length ≤ sizeLine ∧ Q .non (S.set k (.lst (xs ++ zs))) := by
  show wp (match lstO S[j]? with | some zs => lsUpd (.ref k) (fun xs => if xs.length + zs.length ≤ sizeLine then some (.non, xs ++ zs) else none) S | none => .bad) Q E = _
  cases h : lstO S[j]? with
  | none => simp [wp_bad]
  | some zs =>
    simp only [Option.some.injEq, exists_eq_left', wp_lsUpd]
    apply propext
    constructor
    · rintro ⟨xs, z, zs', h1, h2, h3⟩
      split at h2
      · rename_i hl; cases h2; exact ⟨xs, h1, hl, h3⟩
      · cases h2
    · rintro ⟨xs, h1, h2, h3⟩
      exact ⟨xs, .non, xs ++ zs, h1, by rw [if_pos h2], h3⟩
theorem wp_revL {o : Env' → M D} {r : Env'} : wp (mRevL o r S) Q E = wp (o r S) (fun d S1 => ∃ k, d = .ref k ∧ ∃ xs, lsAt S1 k = some xs ∧ Q (.ref S1.length) (S1 ++ [.lst xs.reverse])) E := by
  unfold mRevL; rw [wp_mB]; congr 1; funext d S1
  cases d with
  | ref k => cases h : lsAt S1 k <;> simp [wp_ok, wp_bad, h]
  | _ => simp [wp_bad]
end
theorem cpt2 : CPowX 10 2 = True := eq_true (by decide +kernel)
theorem cpt3 : CPowX 10 3 = True := eq_true (by decide +kernel)
theorem cpt4 : CPowX 10 4 = True := eq_true (by decide +kernel)
theorem cpt5 : CPowX 10 5 = True := eq_true (by decide +kernel)
theorem cpt6 : CPowX 10 6 = True := eq_true (by decide +kernel)
theorem cpt7 : CPowX 10 7 = True := eq_true (by decide +kernel)
theorem cpt8 : CPowX 10 8 = True := eq_true (by decide +kernel)
theorem cpt9 : CPowX 10 9 = True := eq_true (by decide +kernel)
theorem cpt10 : CPowX 10 10 = True := eq_true (by decide +kernel)
theorem cpt11 : CPowX 10 11 = True := eq_true (by decide +kernel)
theorem cpt12 : CPowX 10 12 = True := eq_true (by decide +kernel)
theorem cpt13 : CPowX 10 13 = True := eq_true (by decide +kernel)
theorem cpt14 : CPowX 10 14 = True := eq_true (by decide +kernel)
theorem cpt15 : CPowX 10 15 = True := eq_true (by decide +kernel)
theorem cpt16 : CPowX 10 16 = True := eq_true (by decide +kernel)
theorem cpt17 : CPowX 10 17 = True := eq_true (by decide +kernel)
theorem cpt18 : CPowX 10 18 = True := eq_true (by decide +kernel)
theorem cpt19 : CPowX 10 19 = True := eq_true (by decide +kernel)
theorem cpt20 : CPowX 10 20 = True := eq_true (by decide +kernel)
theorem cpt24 : CPowX 10 24 = True := eq_true (by decide +kernel)
theorem cpt30 : CPowX 10 30 = True := eq_true (by decide +kernel)
theorem cpt36 : CPowX 10 36 = True := eq_true (by decide +kernel)
theorem cpt40 : CPowX 10 40 = True := eq_true (by decide +kernel)
theorem cpt48 : CPowX 10 48 = True := eq_true (by decide +kernel)
theorem cpt50 : CPowX 10 50 = True := eq_true (by decide +kernel)
theorem cpt58 : CPowX 10 58 = True := eq_true (by decide +kernel)
theorem cpt59 : CPowX 10 59 = True := eq_true (by decide +kernel)
theorem cpt60 : CPowX 10 60 = True := eq_true (by decide +kernel)
end CK
end

section
set_option Elab.async false
set_option linter.all false
set_option maxRecDepth 100000
set_option maxHeartbeats 4000000
namespace CK
open PySem PySem.Spec PyProof.Rows L2


section
variable {κ α : Type} [DecidableEq κ]
def valG (kvs : List (κ × α)) (k : κ) : Option α := (kvs.find? fun kv => decide (kv.1 = k)).map (·.2)
def putG (kvs : List (κ × α)) (k : κ) (v : α) : List (κ × α) :=
  if (kvs.any fun kv => decide (kv.1 = k)) = true then kvs.map (fun kv => if kv.1 = k then (kv.1, v) else kv) else kvs ++ [(k, v)]
def dropG (kvs : List (κ × α)) (k : κ) : List (κ × α) := kvs.filter fun kv => decide (kv.1 ≠ k)
theorem valG_nil {k : κ} : valG ([] : List (κ × α)) k = none := rfl
theorem valG_cons {p : κ × α} {r : List (κ × α)} {k : κ} : valG (p :: r) k = if p.1 = k then some p.2 else valG r k := by
  by_cases e : p.1 = k <;> simp [valG, List.find?_cons, e]
theorem valG_any (k : κ) : ∀ kvs : List (κ × α), (kvs.any fun kv => decide (kv.1 = k)) = (valG kvs k).isSome
  | [] => rfl
  | p :: r => by
    rw [List.any_cons, valG_cons, valG_any k r]
    by_cases e : p.1 = k <;> simp [e]
theorem putG_cons {p : κ × α} {r : List (κ × α)} {k : κ} {v : α} : valG r k = none → putG (p :: r) k v = if p.1 = k then (p.1, v) :: r else p :: putG r k v := by
  intro hn
  have hr : (r.any fun kv => decide (kv.1 = k)) = false := by rw [valG_any, hn]; rfl
  unfold putG
  rw [List.any_cons, hr]
  by_cases e : p.1 = k
  · simp only [e, decide_true, Bool.true_or, if_true, List.map_cons]
    congr 1
    conv => rhs; rw [← List.map_id r]
    apply List.map_congr_left
    intro x hx
    have : ¬ x.1 = k := fun q => by
      have := List.any_eq_false.mp hr x hx
      simp [q] at this
    rw [if_neg this]; rfl
  · simp only [e, decide_false, Bool.false_or, Bool.false_eq_true, if_false, List.cons_append]
theorem putG_new {kvs : List (κ × α)} {k : κ} (v : α) (h : valG kvs k = none) : putG kvs k v = kvs ++ [(k, v)] := by
  unfold putG
  rw [valG_any, h]; rfl
theorem valG_map (k j : κ) (y : α) : ∀ kvs : List (κ × α), valG (kvs.map fun kv => if kv.1 = k then (kv.1, y) else kv) j = (valG kvs j).map fun x => if j = k then y else x
  | [] => rfl
  | p :: r => by
    rw [List.map_cons, valG_cons, valG_cons, valG_map k j y r]
    by_cases h : p.1 = k
    · rw [if_pos h]
      by_cases e : p.1 = j
      · simp [e, ← h]
      · simp [e]
    · rw [if_neg h]
      by_cases e : p.1 = j
      · rw [if_pos e, if_pos e, Option.map_some, if_neg (fun z => h (e.trans z))]
      · rw [if_neg e, if_neg e]
theorem valG_snoc (k j : κ) (y : α) : ∀ kvs : List (κ × α), valG kvs k = none → valG (kvs ++ [(k, y)]) j = if j = k then some y else valG kvs j
  | [], _ => by
    rw [List.nil_append, valG_cons]
    by_cases e : k = j <;> simp [e, eq_comm]
  | p :: r, hn => by
    rw [valG_cons] at hn
    split at hn
    · cases hn
    · rename_i hk
      rw [List.cons_append, valG_cons, valG_cons, valG_snoc k j y r hn]
      by_cases e : p.1 = j
      · rw [if_pos e, if_pos e, if_neg (fun z => hk (e.trans z))]
      · rw [if_neg e, if_neg e]
theorem valG_put (kvs : List (κ × α)) (k j : κ) (y : α) : valG (putG kvs k y) j = if j = k then some y else valG kvs j := by
  unfold putG
  by_cases a : (kvs.any fun kv => decide (kv.1 = k)) = true
  · rw [if_pos a, valG_map]
    rw [valG_any] at a
    by_cases e : j = k
    · obtain ⟨x, hx⟩ := Option.isSome_iff_exists.mp a
      rw [if_pos e, e, hx, Option.map_some, if_pos rfl]
    · rw [if_neg e]
      cases valG kvs j with
      | none => rfl
      | some x => rw [Option.map_some, if_neg e]
  · rw [if_neg a]
    refine valG_snoc k j y kvs ?_
    rw [valG_any] at a
    cases h : valG kvs k with
    | none => rfl
    | some x => rw [h] at a; exact absurd rfl a
theorem valG_drop (k j : κ) : ∀ kvs : List (κ × α), valG (dropG kvs k) j = if j = k then none else valG kvs j
  | [] => by simp [dropG, valG]
  | p :: r => by
    have ih := valG_drop k j r
    unfold dropG at ih ⊢
    rw [List.filter_cons]
    by_cases h : p.1 = k
    · rw [if_neg (by simp [h]), ih, valG_cons]
      by_cases e : j = k
      · rw [if_pos e, if_pos e]
      · rw [if_neg e, if_neg e, if_neg (fun z => e (z.symm.trans h))]
    · rw [if_pos (by simp [h]), valG_cons, valG_cons, ih]
      by_cases e : p.1 = j
      · rw [if_pos e, if_pos e, if_neg (fun z => h (e.trans z))]
      · rw [if_neg e, if_neg e]
theorem putG_len (kvs : List (κ × α)) (k : κ) (v : α) : (putG kvs k v).length ≤ kvs.length + 1 := by
  unfold putG; split <;> simp
theorem putG_keys (kvs : List (κ × α)) (k : κ) (v : α) : (putG kvs k v).map (·.1) = if (valG kvs k).isSome then kvs.map (·.1) else kvs.map (·.1) ++ [k] := by
  unfold putG
  rw [valG_any]
  split
  · rw [List.map_map]
    apply List.map_congr_left
    intro x _
    show (if x.1 = k then (x.1, v) else x).1 = x.1
    split <;> rfl
  · simp
end


def keyD (d : D) : Option Key := match d with | .int i => some (.inl i) | .str x => some (.inr x) | _ => none
theorem keyD_int {i : Int} : keyD (.int i) = some (.inl i) := rfl
theorem keyD_str {i : Str} : keyD (.str i) = some (.inr i) := rfl
section
variable {K : PySem.W.Frag} {μ : List Addr} {H : Hp} {d : D} {v : V}
theorem Rp.key {k : Key} (r : Rp K μ H d v) (h : keyD d = some k) : v = kV k := by
  cases r <;> simp only [keyD, reduceCtorEq, Option.some.injEq] at h <;> subst h <;> rfl
theorem Rp.ofKey (k : Key) : Rp K μ H (match k with | .inl i => .int i | .inr x => .str x) (kV k) := by
  cases k with
  | inl i => exact .int i
  | inr x => exact .str x
variable {κ : Type} [DecidableEq κ]
theorem RpKV.uncons {p : κ × D} {ds : List (κ × D)} {vs : List (κ × V)} (h : RpKV K μ H (p :: ds) vs) : ∃ q us, vs = q :: us ∧ p.1 = q.1 ∧ Rp K μ H p.2 q.2 ∧ RpKV K μ H ds us := by
  obtain ⟨h1, h2⟩ := h
  cases vs with
  | nil => simp at h1
  | cons q us =>
    simp only [List.map_cons, List.cons.injEq] at h1
    rw [List.map_cons, List.map_cons] at h2
    cases h2 with
    | cons a b => exact ⟨q, us, rfl, h1.1, a, h1.2, b⟩
theorem RpKV.cons {k : κ} {d : D} {v : V} {ds : List (κ × D)} {vs : List (κ × V)} (r : Rp K μ H d v) (h : RpKV K μ H ds vs) : RpKV K μ H ((k, d) :: ds) ((k, v) :: vs) :=
  ⟨by simp [h.1], .cons r h.2⟩
theorem RpKV.nil : RpKV (κ := κ) K μ H [] [] := ⟨rfl, .nil⟩
theorem RpKV.len {ds : List (κ × D)} {vs : List (κ × V)} (h : RpKV K μ H ds vs) : ds.length = vs.length := by
  have := congrArg List.length h.1
  simpa using this
theorem RpKV.val : ∀ {ds : List (κ × D)} {vs : List (κ × V)}, RpKV K μ H ds vs → ∀ k, (valG ds k = none ∧ valV vs k = none) ∨ ∃ d v, valG ds k = some d ∧ valV vs k = some v ∧ Rp K μ H d v
  | [], vs, h, k => by
    cases vs with
    | nil => exact .inl ⟨rfl, rfl⟩
    | cons q us => have := h.1; simp at this
  | p :: ds, vs, h, k => by
    obtain ⟨q, us, rfl, e, r, t⟩ := h.uncons
    rw [valG_cons]
    by_cases z : p.1 = k
    · rw [if_pos z, valV_pos (e.symm.trans z)]
      exact .inr ⟨_, _, rfl, rfl, r⟩
    · rw [if_neg z, valV_neg (fun y => z (e.trans y))]
      exact RpKV.val t k
theorem RpKV.app : ∀ {ds : List (κ × D)} {vs : List (κ × V)} {ds' : List (κ × D)} {vs' : List (κ × V)}, RpKV K μ H ds vs → RpKV K μ H ds' vs' → RpKV K μ H (ds ++ ds') (vs ++ vs') :=
  fun h h' => ⟨by rw [List.map_append, List.map_append, h.1, h'.1], by rw [List.map_append, List.map_append]; exact h.2.append h'.2⟩
theorem RpKV.map {d : D} {v : V} (r : Rp K μ H d v) (k : κ) : ∀ {ds : List (κ × D)} {vs : List (κ × V)}, RpKV K μ H ds vs → RpKV K μ H (ds.map fun kv => if kv.1 = k then (kv.1, d) else kv) (vs.map fun kv => if kv.1 = k then (kv.1, v) else kv)
  | [], vs, h => by
    cases vs with
    | nil => exact .nil
    | cons q us => have := h.1; simp at this
  | p :: ds, vs, h => by
    obtain ⟨q, us, rfl, e, r2, t⟩ := h.uncons
    have ih := RpKV.map r k t
    rw [List.map_cons, List.map_cons]
    obtain ⟨p1, p2⟩ := p
    obtain ⟨q1, q2⟩ := q
    obtain rfl : p1 = q1 := e
    show RpKV K μ H ((if p1 = k then (p1, d) else (p1, p2)) :: _) ((if p1 = k then (p1, v) else (p1, q2)) :: _)
    by_cases z : p1 = k
    · rw [if_pos z, if_pos z]; exact ih.cons r
    · rw [if_neg z, if_neg z]; exact ih.cons r2
theorem RpKV.put {d : D} {v : V} (r : Rp K μ H d v) (k : κ) {ds : List (κ × D)} {vs : List (κ × V)} (h : RpKV K μ H ds vs) : RpKV K μ H (putG ds k d) (putK vs k v) := by
  unfold putG putK
  rw [valG_any, valV_any]
  rcases h.val k with ⟨e1, e2⟩ | ⟨x, y, e1, e2, _⟩
  · rw [e1, e2]; exact h.app (RpKV.nil.cons r)
  · rw [e1, e2]; exact h.map r k
theorem RpKV.drop (k : κ) : ∀ {ds : List (κ × D)} {vs : List (κ × V)}, RpKV K μ H ds vs → RpKV K μ H (dropG ds k) (dropK vs k)
  | [], vs, h => by
    cases vs with
    | nil => exact .nil
    | cons q us => have := h.1; simp at this
  | p :: ds, vs, h => by
    obtain ⟨q, us, rfl, e, r2, t⟩ := h.uncons
    have ih := RpKV.drop k t
    obtain ⟨p1, p2⟩ := p
    obtain ⟨q1, q2⟩ := q
    obtain rfl : p1 = q1 := e
    unfold dropG dropK at ih ⊢
    rw [List.filter_cons, List.filter_cons]
    by_cases z : p1 = k
    · rw [if_neg (by simp [z]), if_neg (by simp [z])]; exact ih
    · rw [if_pos (by simp [z]), if_pos (by simp [z])]; exact ih.cons r2
theorem RpKV.mono {μ' : List Addr} {H' : Hp} (e : Ex K μ H μ' H') {ds : List (κ × D)} {vs : List (κ × V)} (h : RpKV K μ H ds vs) : RpKV K μ' H' ds vs := ⟨h.1, h.2.mono e⟩
end


def dkO : Option O → Option (List (Key × D))
  | some (.dK kvs) => some kvs
  | _ => none
theorem dkO_dK {kvs : List (Key × D)} : dkO (some (.dK kvs)) = some kvs := rfl
def dnewM : Env' → M D := fun _ S => .ok (.ref S.length) (S ++ [.dK []])
def dAsk (d e : D) (k : Option D → M D) : M D := fun S => match d.asRef, keyD e with
  | some i, some y => (match dkO S[i]? with
    | some kvs => k (valG kvs y) S
    | none => .bad)
  | _, _ => .bad
def dgetM (d e : D) : M D := dAsk d e fun o => match o with | some v => mP v | none => mBad
def dinM (e d : D) : M D := dAsk d e fun o => mP (.bl o.isSome)
def dninM (e d : D) : M D := dAsk d e fun o => mP (.bl (!o.isSome))
def dgM (d : D) (as : List D) : M D := match as with
  | [e] => dAsk d e fun o => mP (o.getD .non)
  | [e, z] => dAsk d e fun o => mP (o.getD z)
  | _ => mBad
def dputM (d e v : D) : M Unit := fun S => match d.asRef, keyD e with
  | some i, some y => (match dkO S[i]? with
    | some kvs => if kvs.length < sizeLine then .ok () (S.set i (.dK (putG kvs y v))) else .bad
    | none => .bad)
  | _, _ => .bad
def dpopM (d : D) (as : List D) : M D := fun S => match as with
  | [e] => (match d.asRef, keyD e with
    | some i, some y => (match dkO S[i]? with
      | some kvs => (match valG kvs y with | some v => .ok v (S.set i (.dK (dropG kvs y))) | none => .bad)
      | none => .bad)
    | _, _ => .bad)
  | _ => .bad
def dclearM (d : D) (as : List D) : M D := fun S => match as, d.asRef with
  | [], some i => (match dkO S[i]? with
    | some _ => .ok .non (S.set i (.dK []))
    | none => .bad)
  | _, _ => .bad
def isDk (d : D) (S : Store) : Bool := match d.asRef with | some i => (dkO S[i]?).isSome | none => false
def mMD (f : D → List D → M D) (o : Env' → M D) (a : Env' → M (List D)) : Env' → M D := fun r => mB (o r) fun x S => if isDk x S = true then mB (a r) (fun xs => f x xs) S else .bad
def mMD0 (f : D → List D → M D) (o : Env' → M D) : Env' → M D := fun r => mB (o r) fun x S => if isDk x S = true then f x [] S else .bad
section
variable {c : Gx} {W : WX} {μ : List Addr} {H : Hp} {S : Store}
theorem SOk.dk {i : Nat} {a : Addr} {kvs : List (Key × D)} (s : SOk c μ H S) (h : dkO S[i]? = some kvs) (ha : μ[i]? = some a) : S[i]? = some (.dK kvs) ∧ ∃ vs, H a = some (.dK vs) ∧ RpKV c.K μ H kvs vs := by
  have hS : S[i]? = some (.dK kvs) := by
    cases q : S[i]? with
    | none => rw [q] at h; cases h
    | some o => rw [q] at h; cases o <;> simp only [dkO, reduceCtorEq, Option.some.injEq] at h; subst h; rfl
  exact ⟨hS, s.obj i _ a hS ha⟩
theorem isDk_ty {d : D} {v : V} (s : SOk c μ H S) (r : Rp c.K μ H d v) (h : isDk d S = true) : tyV c.K "dict" v H := by
  unfold isDk at h
  cases q : d.asRef with
  | none => rw [q] at h; cases h
  | some i =>
    rw [q] at h
    obtain ⟨rfl, a, rfl, ha⟩ := r.asRef q
    cases q2 : dkO S[i]? with
    | none => simp only [q2, Option.isSome_none] at h; cases h
    | some ds =>
      obtain ⟨_, vs, g, _⟩ := s.dk q2 ha
      exact .inr (.inr (.inl ⟨rfl, .inl ⟨vs, g⟩⟩))
theorem s_dAsk {σ : L2.St} {x y : V} {d e : D} {k : Option D → M D} {Q : VK} (s : SOk c μ H S) (rx : Rp c.K μ H d x) (ry : Rp c.K μ H e y) (p : Post c W σ μ H (ZE c Q) (dAsk d e k S)) :
    ∃ a o o', x = .ref a ∧ IsD H a ∧ DGet H a y o' ∧ ((o = none ∧ o' = none) ∨ ∃ d v, o = some d ∧ o' = some v ∧ Rp c.K μ H d v) ∧ Post c W σ μ H (ZE c Q) (k o S) := by
  unfold dAsk at p
  cases h1 : d.asRef with
  | none => rw [h1] at p; exact p.elim
  | some i =>
    cases h2 : keyD e with
    | none => rw [h1, h2] at p; exact p.elim
    | some j =>
      rw [h1, h2] at p
      obtain ⟨rfl, a, rfl, ha⟩ := rx.asRef h1
      have ey := ry.key h2
      subst ey
      simp only [] at p
      cases h3 : dkO S[i]? with
      | none => rw [h3] at p; exact p.elim
      | some kvs =>
        rw [h3] at p
        obtain ⟨hS, vs, g1, g2⟩ := s.dk h3 ha
        exact ⟨a, valG kvs j, valV vs j, rfl, .inl ⟨vs, .inl g1⟩, DGet.k g1, g2.val j, p⟩
theorem sem_dnew : SemE c W tDNewK dnewM := by
  intro σ H μ r S Q s e p q hq
  have ex : Ex c.K μ H (μ ++ [q]) (upd H q (.dK [])) := Ex.new hq
  refine p (μ ++ [q]) _ ex (s.new hq ⟨[], upd_same, RpKV.nil⟩) _ (.ref ?_)
  rw [← s.len]; simp
def rIxDk : R2 := fun x y H Q => ∃ a v, x = .ref a ∧ DGet H a y (some v) ∧ Q v H
theorem ix_dict {X : Cx} (hu : X.A.units + 1 < cLine) : IxR X rIxDk := by
  intro value slice pins s σ H x y v u Q I rx ry h hs
  obtain ⟨a, w, rfl, g, q⟩ := h
  obtain rfl : v = Value.ref a := rx
  exact tail_any (dict_typeIs I g) PySem.F.slot_dict_getitem.lookup (d_getItem hu I g ry fun w' s3 I3 rw' => ⟨w, H, I3, rw', q⟩) hs
theorem s_dget : Sem2 c W rIxDk dgetM := by
  intro σ H μ S x y d e Q s rx ry p
  obtain ⟨a, o, o', rfl, _, g, h, p⟩ := s_dAsk s rx ry p
  rcases h with ⟨rfl, rfl⟩ | ⟨d, v, rfl, rfl, r⟩
  · exact p.elim
  · exact ⟨a, v, rfl, g, p.fin s r⟩
def rInDk : R2 := fun y x H Q => ∃ a o, x = .ref a ∧ DGet H a y o ∧ Q (.bl o.isSome) H
def rNinDk : R2 := fun y x H Q => ∃ a o, x = .ref a ∧ DGet H a y o ∧ Q (.bl (!o.isSome)) H
theorem op_din {X : Cx} (hu : X.A.units + 1 < cLine) : OpR X (compareOp .In) rInDk := by
  intro pins s σ H x y v u Q I rx ry h
  obtain ⟨a, o, rfl, g, q⟩ := h
  obtain rfl : u = Value.ref a := ry
  exact d_in hu I g rx fun s3 I3 => ⟨.bl o.isSome, H, I3, rfl, q⟩
theorem op_dnin {X : Cx} (hu : X.A.units + 1 < cLine) : OpR X (compareOp .NotIn) rNinDk := by
  intro pins s σ H x y v u Q I rx ry h
  obtain ⟨a, o, rfl, g, q⟩ := h
  obtain rfl : u = Value.ref a := ry
  exact d_notIn hu I g rx fun s3 I3 => ⟨.bl (!o.isSome), H, I3, rfl, q⟩
theorem s_din : Sem2 c W rInDk dinM := by
  intro σ H μ S x y d e Q s rx ry p
  obtain ⟨a, o, o', rfl, _, g, h, p⟩ := s_dAsk s ry rx p
  refine ⟨a, o', rfl, g, ?_⟩
  rcases h with ⟨rfl, rfl⟩ | ⟨d, v, rfl, rfl, r⟩ <;> exact p.fin s (.bl _)
theorem s_dnin : Sem2 c W rNinDk dninM := by
  intro σ H μ S x y d e Q s rx ry p
  obtain ⟨a, o, o', rfl, _, g, h, p⟩ := s_dAsk s ry rx p
  refine ⟨a, o', rfl, g, ?_⟩
  rcases h with ⟨rfl, rfl⟩ | ⟨d, v, rfl, rfl, r⟩ <;> exact p.fin s (.bl _)
def rGetDk : V → List V → Hp → VK → Prop := fun x xs H Q => ∃ a o, x = .ref a ∧ ((∃ y, xs = [y] ∧ DGet H a y o ∧ Q (o.getD .non) H) ∨ ∃ y z, xs = [y, z] ∧ DGet H a y o ∧ Q (o.getD z) H)
theorem mt_dget {X : Cx} (hu : X.A.units + 1 < cLine) : MtR X "dict.get" rGetDk := by
  intro pins s σ H x xs v us Q I rx rs h
  obtain ⟨a, o, rfl, h⟩ := h
  obtain rfl : v = Value.ref a := rx
  rcases h with ⟨y, rfl, g, q⟩ | ⟨y, z, rfl, g, q⟩
  · cases rs with
    | cons r1 r2 =>
      cases r2
      exact d_get1 hu I g r1 fun w' s3 I3 rw' => ⟨_, H, I3, rw', q⟩
  · cases rs with
    | cons r1 r2 =>
      cases r2 with
      | cons r2 r3 =>
        cases r3
        exact d_get2 hu I g r1 r2 fun w' s3 I3 rw' => ⟨_, H, I3, rw', q⟩
theorem s_dg : SemM c W rGetDk dgM := by
  intro σ H μ S x d xs ds Q s rx rxs p
  unfold dgM at p
  split at p
  · obtain ⟨v, rfl, rv⟩ := rpl1 rxs
    obtain ⟨a, o, o', rfl, _, g, h, p⟩ := s_dAsk s rx rv p
    refine ⟨a, o', rfl, .inl ⟨v, rfl, g, ?_⟩⟩
    rcases h with ⟨rfl, rfl⟩ | ⟨d, v, rfl, rfl, r⟩
    · exact p.fin s .non
    · exact p.fin s r
  · obtain ⟨v, u, rfl, rv, ru⟩ := rpl2 rxs
    obtain ⟨a, o, o', rfl, _, g, h, p⟩ := s_dAsk s rx rv p
    refine ⟨a, o', rfl, .inr ⟨v, u, rfl, g, ?_⟩⟩
    rcases h with ⟨rfl, rfl⟩ | ⟨d, v, rfl, rfl, r⟩
    · exact p.fin s ru
    · exact p.fin s r
  · exact p.elim
theorem sem_bmD {t : V → List V → Hp → VK → Prop} {f : D → List D → M D} {to : TE} {ta : TA} {mo : Env' → M D} {ma : Env' → M (List D)} (h : SemM c W t f)
    (ho : SemE c W to mo) (ha : SemA c W ta ma) : SemE c W (tBM c.K "dict" t to ta) (mMD f mo ma) := by
  intro σ H μ r S Q s e p
  refine ho.go s e p fun d S1 μ1 H1 v ex s1 e1 rv p1 => ?_
  split at p1
  · rename_i hl
    refine ⟨isDk_ty s1 rv hl, ha.go s1 e1 p1 fun ds S2 μ2 H2 vs ex2 s2 e2 rvs p2 => h σ H2 μ2 S2 v d vs ds Q s2 (rv.mono ex2) rvs p2⟩
  · exact p1.elim
theorem sem_bmD0 {t : V → List V → Hp → VK → Prop} {f : D → List D → M D} {to : TE} {mo : Env' → M D} (h : SemM c W t f) (ho : SemE c W to mo) : SemE c W (tBM0 c.K "dict" t to) (mMD0 f mo) := by
  intro σ H μ r S Q s e p
  refine ho.go s e p fun d S1 μ1 H1 v ex s1 e1 rv p1 => ?_
  split at p1
  · rename_i hl
    exact ⟨isDk_ty s1 rv hl, h σ H1 μ1 S1 v d [] [] Q s1 rv .nil p1⟩
  · exact p1.elim
theorem s_dput : SemSet c W rSetD dputM := by
  intro σ H μ S x y z d e u Q s rx ry rz p
  unfold dputM at p
  cases h1 : d.asRef with
  | none => rw [h1] at p; exact p.elim
  | some i =>
    cases h2 : keyD e with
    | none => rw [h1, h2] at p; exact p.elim
    | some j =>
      rw [h1, h2] at p
      obtain ⟨rfl, a, rfl, ha⟩ := rx.asRef h1
      have ey := ry.key h2
      subst ey
      simp only [] at p
      cases h3 : dkO S[i]? with
      | none => rw [h3] at p; exact p.elim
      | some kvs =>
        rw [h3] at p
        simp only [] at p
        obtain ⟨hS, vs, g1, g2⟩ := s.dk h3 ha
        split at p
        · rename_i hl
          have n1 : ∀ xs', HO.dK vs ≠ .tup xs' := fun _ z => by cases z
          have n2 : ∀ u w, HO.dK vs ≠ .frz u w := fun _ _ z => by cases z
          have ex : Ex c.K μ H μ (upd H a (.dK (putK vs j z))) := Ex.put g1 n1 n2
          exact ⟨a, _, rfl, DPut.k g1 (by rw [← g2.len]; exact hl), p μ _ ex (s.put hS ha rfl g1 n1 n2 ⟨_, upd_same, (g2.put rz j).mono ex⟩)⟩
        · exact p.elim
def rPopDk : V → List V → Hp → VK → Prop := fun x xs H Q => ∃ a kvs k v, x = .ref a ∧ xs = [kV k] ∧ H a = some (.dK kvs) ∧ valV kvs k = some v ∧ Q v (upd H a (.dK (dropK kvs k)))
theorem mt_dpop {X : Cx} : MtR X "dict.pop" rPopDk := by
  intro pins s σ H x xs v us Q I rx rs h
  obtain ⟨a, kvs, k, w, rfl, rfl, g, l, q⟩ := h
  obtain rfl : v = Value.ref a := rx
  cases rs with
  | cons r1 r2 =>
    cases r2
    exact d_pop I g r1 l (.inl rfl) fun w' s3 I3 rw' => ⟨w, _, I3, rw', q⟩
theorem s_dpop : SemM c W rPopDk dpopM := by
  intro σ H μ S x d xs ds Q s rx rxs p
  unfold dpopM at p
  split at p
  · rename_i e
    obtain ⟨v, rfl, rv⟩ := rpl1 rxs
    cases h1 : d.asRef with
    | none => rw [h1] at p; exact p.elim
    | some i =>
      cases h2 : keyD e with
      | none => rw [h1, h2] at p; exact p.elim
      | some j =>
        rw [h1, h2] at p
        obtain ⟨rfl, a, rfl, ha⟩ := rx.asRef h1
        have ey := rv.key h2
        subst ey
        simp only [] at p
        cases h3 : dkO S[i]? with
        | none => rw [h3] at p; exact p.elim
        | some kvs =>
          rw [h3] at p
          simp only [] at p
          obtain ⟨hS, vs, g1, g2⟩ := s.dk h3 ha
          rcases g2.val j with ⟨e1, e2⟩ | ⟨d', v', e1, e2, r⟩
          · rw [e1] at p; exact p.elim
          · rw [e1] at p
            have n1 : ∀ xs', HO.dK vs ≠ .tup xs' := fun _ z => by cases z
            have n2 : ∀ u w, HO.dK vs ≠ .frz u w := fun _ _ z => by cases z
            have ex : Ex c.K μ H μ (upd H a (.dK (dropK vs j))) := Ex.put g1 n1 n2
            exact ⟨a, vs, j, v', rfl, rfl, g1, e2, p.finPut s hS ha rfl g1 n1 n2 ⟨_, upd_same, (g2.drop j).mono ex⟩ r⟩
  · exact p.elim
end
end CK
end

section
set_option Elab.async false
set_option linter.all false
set_option maxRecDepth 100000
set_option maxHeartbeats 4000000
namespace CK
open PySem PySem.Spec PyProof.Rows L2


def rInX (K : PySem.W.Frag) (neg : Bool) : R2 := fun x y H Q => ∃ d ds, Dp K H x d ∧ (Dp K H y (.list ds) ∨ Dp K H y (.tuple ds)) ∧ d.canLay0 = true ∧ PyData.canLayAll0 ds = true ∧ d.depth ≤ 198 ∧ Q (.bl (if neg then !(ds.any fun z => PyData.eqv z d) else ds.any fun z => PyData.eqv z d)) H
theorem op_inX {X : Cx} {k : Nat} (hr : Room k X.A) : OpR X (compareOp .In) (rInX X.K false) := by
  intro pins s σ H x y v u Q I rx ry h
  obtain ⟨d, ds, hd, he, sd, se, hm, q⟩ := h
  obtain ⟨as, r1⟩ := Dp.reads I d x v hd rx
  have hu : X.A.units + 1 + min (PyData.depthAll ds) d.depth < cLine := by have := hr.un; omega
  rcases he with he | he
  · obtain ⟨bs, r2⟩ := Dp.reads I _ y u he ry
    exact SeqAt.in_list_reads r2 r1 se sd hu ⟨.bl _, H, I, rfl, q⟩
  · obtain ⟨bs, r2⟩ := Dp.reads I _ y u he ry
    exact SeqAt.in_tuple_reads r2 r1 se sd hu ⟨.bl _, H, I, rfl, q⟩
theorem op_ninX {X : Cx} {k : Nat} (hr : Room k X.A) : OpR X (compareOp .NotIn) (rInX X.K true) := by
  intro pins s σ H x y v u Q I rx ry h
  obtain ⟨d, ds, hd, he, sd, se, hm, q⟩ := h
  obtain ⟨as, r1⟩ := Dp.reads I d x v hd rx
  have hu : X.A.units + 1 + min (PyData.depthAll ds) d.depth < cLine := by have := hr.un; omega
  rcases he with he | he
  · obtain ⟨bs, r2⟩ := Dp.reads I _ y u he ry
    exact SeqAt.notIn_list_reads r2 r1 se sd hu ⟨.bl _, H, I, rfl, q⟩
  · obtain ⟨bs, r2⟩ := Dp.reads I _ y u he ry
    exact SeqAt.notIn_tuple_reads r2 r1 se sd hu ⟨.bl _, H, I, rfl, q⟩
def seqP : PyData → Option (List PyData)
  | .list ys => some ys
  | .tuple ys => some ys
  | _ => none
def inXM (neg : Bool) (d e : D) : M D := fun S => match pyOf S 198 d, (pyD S e).bind seqP with
  | some x, some ys => .ok (.bl (if neg then !(ys.any fun z => PyData.eqv z x) else ys.any fun z => PyData.eqv z x)) S
  | _, _ => .bad
section
variable {c : Gx} {W : WX} {μ : List Addr} {H : Hp} {S : Store}
theorem s_inX {neg : Bool} : Sem2 c W (rInX c.K neg) (inXM neg) := by
  intro σ H μ S x y d e Q s rx ry p
  unfold inXM at p
  cases h1 : pyOf S 198 d with
  | none => rw [h1] at p; exact p.elim
  | some pd =>
    cases h2 : pyD S e with
    | none => rw [h1, h2] at p; exact p.elim
    | some pe =>
      rw [h1, h2] at p
      obtain ⟨a1, a2, a3⟩ := py_ok s 198 d x pd h1 rx
      obtain ⟨b1, b2, b3⟩ := py_ok s 199 e y pe h2 ry
      cases pe with
      | list ys => exact ⟨pd, ys, a1, .inl b1, a2, (by simpa only [PyData.canLay0] using b2), a3, p.fin s (.bl _)⟩
      | tuple ys => exact ⟨pd, ys, a1, .inr b1, a2, (by simpa only [PyData.canLay0] using b2), a3, p.fin s (.bl _)⟩
      | _ => exact p.elim
theorem wp_inX {neg : Bool} {Q : D → Store → Prop} {E : Exn → Store → Prop} {x y : D} : wp (inXM neg x y S) Q E = ∃ u ys, pyOf S 198 x = some u ∧ (pyD S y).bind seqP = some ys ∧ Q (.bl (if neg then !(ys.any fun z => PyData.eqv z u) else ys.any fun z => PyData.eqv z u)) S := by
  unfold inXM
  cases h : pyOf S 198 x with
  | none => simp [wp_bad]
  | some u => cases h2 : (pyD S y).bind seqP <;> simp [wp_ok, wp_bad]
end


def rSortD (K : PySem.W.Frag) : List V → Hp → VK → Prop := fun vs H Q => ∃ (a : Addr) (bs : List (V × PyData)), vs = [V.ref a] ∧ SqL K H a (bs.map (·.1)) ∧ (∀ b ∈ bs, Dp K H b.1 b.2) ∧ PySem.W.AllAlike (bs.map (·.2)) ∧ PySem.W.Sortable (bs.map (·.2)) ∧ (∀ b ∈ bs, b.2.depth ≤ 190) ∧
  ∀ p, H p = none → Q (.ref p) (upd H p (.lst ((bs.mergeSort (PySem.W.dataLe false (·.2))).map (·.1))))
theorem each_vals {H : Hp} : ∀ {bs : List (V × PyData)} {us : List Value}, Vals (bs.map (·.1)) us → PySem.W.EachIs (fun u (b : V × PyData) => RelV b.1 u) us bs
  | [], _, r => by cases r; exact .nil
  | b :: bs, _, r => by
    rw [List.map_cons] at r
    cases r with
    | cons h t => exact .cons h (each_vals (H := H) t)
theorem vals_each : ∀ {bs : List (V × PyData)} {us : List Value}, PySem.W.EachIs (fun u (b : V × PyData) => RelV b.1 u) us bs → Vals (bs.map (·.1)) us
  | _, _, .nil => .nil
  | _, _, .cons h t => .cons h (vals_each t)
theorem each_reads {X : Cx} {pins : List (Addr × Obj)} {σ : L2.St} {H : Hp} {s : Shared} (I : L2.Inv X pins σ H s) : ∀ {bs : List (V × PyData)} {us : List Value}, Vals (bs.map (·.1)) us → (∀ b ∈ bs, Dp X.K H b.1 b.2) → PySem.W.EachIs (fun u (b : V × PyData) => ∃ as, Reads s.heap u b.2 as) us bs
  | [], _, r, _ => by cases r; exact .nil
  | b :: bs, _, r, hd => by
    rw [List.map_cons] at r
    cases r with
    | cons h t => exact .cons (Dp.reads I _ _ _ (hd b List.mem_cons_self) h) (each_reads I t fun b hb => hd b (List.mem_cons_of_mem _ hb))
theorem cr_sortD {X : Cx} {k : Nat} (hr : Room k X.A) : CallR X (.builtin "sorted") (rSortD X.K) := by
  intro pins s σ H vs us Q I r h
  obtain ⟨a, bs, rfl, hs, hd, hal, hso, hdp, q⟩ := h
  obtain ⟨its, rv, hl, hz⟩ := I.list hs
  rw [Vals.ref1 r]
  have hL : bs.length ≤ sizeLine := by rw [List.length_map] at hz; exact hz
  refine PySem.W.sorted_data (R := fun u (b : V × PyData) => RelV b.1 u) (enc := fun b => b.2) hl.isList (each_vals (H := H) rv) (each_reads I rv hd) hal hso hL (fun b hb => ?_) fun out ho he => ?_
  · have := hdp b hb
    have := hr.un
    omega
  · obtain ⟨c, hc⟩ := sortedAll_at s.heap its out.toArray
    refine ⟨.ref (s.heap.objs.size + 1), upd H (s.heap.objs.size + 1) (.lst ((bs.mergeSort (PySem.W.dataLe false (·.2))).map (·.1))), I.laid (t' := s.toks) (fun _ _ => sortedAll_old) (Nat.le_succ _) ⟨?_, out, c, vals_each he, hc⟩, rfl, q _ (I.hok.fresh (Nat.le_succ _))⟩
    rw [List.length_map, List.length_mergeSort]
    exact hL
def sortableB (ds : List PyData) : Bool := (ds.all fun d => match d with | .tuple (_ :: _) => true | _ => false) || ds.all fun d => match d with | .none => false | .tuple _ => false | _ => true
def sortOkB (ds : List PyData) : Bool := (ds.all fun x => ds.all fun y => PySem.W.alike x y) && sortableB ds && ds.all fun d => decide (d.depth ≤ 190)
theorem sortOkB_is {ds : List PyData} (h : sortOkB ds = true) : PySem.W.AllAlike ds ∧ PySem.W.Sortable ds ∧ ∀ d ∈ ds, d.depth ≤ 190 := by
  unfold sortOkB at h
  rw [Bool.and_eq_true, Bool.and_eq_true] at h
  obtain ⟨⟨h1, h2⟩, h3⟩ := h
  refine ⟨fun d hd e he => ?_, ?_, fun d hd => ?_⟩
  · exact List.all_eq_true.mp (List.all_eq_true.mp h1 d hd) e he
  · unfold sortableB at h2
    rw [Bool.or_eq_true] at h2
    rcases h2 with h2 | h2
    · refine .inl fun d hd => ?_
      have := List.all_eq_true.mp h2 d hd
      split at this
      · exact ⟨_, _, rfl⟩
      · cases this
    · refine .inr fun d hd => ?_
      have := List.all_eq_true.mp h2 d hd
      refine ⟨fun e => ?_, fun xs e => ?_⟩ <;> subst e <;> simp at this
  · simpa using List.all_eq_true.mp h3 d hd
def sortL (xs : List D) (ps : List PyData) : List D := ((xs.zip ps).mergeSort (PySem.W.dataLe false (·.2))).map (·.1)
def sortedM (as : List D) : M D := fun S => match as with
  | [.ref k] => (match lsAt S k with
    | some xs => (match optAll (pyD S) xs with
      | some ps => if sortOkB ps = true then .ok (.ref S.length) (S ++ [.lst (sortL xs ps)]) else .bad
      | none => .bad)
    | none => .bad)
  | _ => .bad
theorem optAll_len {α β : Type} {f : α → Option β} : ∀ {xs : List α} {ys : List β}, optAll f xs = some ys → xs.length = ys.length
  | [], _, h => by cases h; rfl
  | x :: xs, _, h => by
    unfold optAll at h
    split at h
    · rename_i h1 h2; cases h; simp [optAll_len h2]
    · cases h
theorem map_zip1 {α β : Type} : ∀ {xs : List α} {ys : List β}, xs.length = ys.length → (xs.zip ys).map (·.1) = xs
  | [], [], _ => rfl
  | _ :: xs, _ :: ys, h => by simp [map_zip1 (xs := xs) (ys := ys) (by simpa using h)]
theorem map_zip2 {α β : Type} : ∀ {xs : List α} {ys : List β}, xs.length = ys.length → (xs.zip ys).map (·.2) = ys
  | [], [], _ => rfl
  | _ :: xs, _ :: ys, h => by simp [map_zip2 (xs := xs) (ys := ys) (by simpa using h)]
section
variable {c : Gx} {W : WX} {μ : List Addr} {H : Hp} {S : Store}
theorem rpl_trip {K : PySem.W.Frag} : ∀ {ds : List D} {vs : List V} {ps : List PyData}, RpL K μ H ds vs → ds.length = ps.length → ∃ ts : List (D × V × PyData), ts.map (fun t => (t.1, t.2.2)) = ds.zip ps ∧ ts.map (fun t => (t.2.1, t.2.2)) = vs.zip ps ∧ ∀ t ∈ ts, Rp K μ H t.1 t.2.1
  | _, _, [], .nil, _ => ⟨[], rfl, rfl, fun _ h => by cases h⟩
  | _, _, p :: ps, .cons (d := d) (v := v) r t, h => by
    obtain ⟨ts, h1, h2, h3⟩ := rpl_trip (ps := ps) t (by simpa using h)
    refine ⟨(d, v, p) :: ts, by simp [h1], by simp [h2], fun x hx => ?_⟩
    rcases List.mem_cons.mp hx with rfl | hx
    · exact r
    · exact h3 x hx
theorem rpl_of_all {K : PySem.W.Frag} : ∀ {ts : List (D × V × PyData)}, (∀ t ∈ ts, Rp K μ H t.1 t.2.1) → RpL K μ H (ts.map (·.1)) (ts.map (·.2.1))
  | [], _ => .nil
  | t :: ts, h => .cons (h t List.mem_cons_self) (rpl_of_all fun x hx => h x (List.mem_cons_of_mem _ hx))
theorem s_sorted : SemC c W (rSortD c.K) sortedM := by
  intro σ H μ S xs ds Q s r p
  unfold sortedM at p
  split at p
  · rename_i k
    obtain ⟨v, rfl, rv⟩ := rpl1 r
    cases rv with
    | ref ha =>
      rename_i a
      cases h1 : lsAt S k with
      | none => rw [h1] at p; exact p.elim
      | some es =>
        rw [h1] at p
        simp only [] at p
        cases h2 : optAll (pyD S) es with
        | none => rw [h2] at p; exact p.elim
        | some ps =>
          rw [h2] at p
          simp only [] at p
          split at p
          · rename_i hok
            obtain ⟨k1, k2, k3⟩ := sortOkB_is hok
            obtain ⟨us, sq, rl⟩ := s.ls h1 ha
            have hlen := optAll_len h2
            have hlen2 : us.length = ps.length := by rw [← rl.length]; exact hlen
            obtain ⟨ts, t1, t2, t3⟩ := rpl_trip rl hlen
            have dpa : ∀ (es : List D) (us : List V) (ps : List PyData), optAll (pyD S) es = some ps → RpL c.K μ H es us → ∀ b ∈ us.zip ps, Dp c.K H b.1 b.2 := by
              intro es
              induction es with
              | nil => intro us ps h r b hb; cases h; cases r; simp at hb
              | cons e es ih =>
                intro us ps h r b hb
                unfold optAll at h
                cases r with
                | cons r1 r2 =>
                  split at h
                  · rename_i y ys e1 e2
                    cases h
                    rw [List.zip_cons_cons] at hb
                    rcases List.mem_cons.mp hb with rfl | hb
                    · exact (py_ok s 199 _ _ _ e1 r1).1
                    · exact ih _ _ e2 r2 b hb
                  · cases h
            refine ⟨a, us.zip ps, rfl, by rw [map_zip1 hlen2]; exact sq, dpa es us ps h2 rl, by rw [map_zip2 hlen2]; exact k1, by rw [map_zip2 hlen2]; exact k2, fun b hb => k3 b.2 (by
              have : b.2 ∈ (us.zip ps).map (·.2) := List.mem_map.mpr ⟨b, hb, rfl⟩
              rwa [map_zip2 hlen2] at this), fun q hq => p.finNew s hq ⟨_, upd_same, ?_⟩⟩
            refine RpL.mono (Ex.new hq) ?_
            have m1 : sortL es ps = (ts.mergeSort (PySem.W.dataLe false (·.2.2))).map (·.1) := by
              unfold sortL
              rw [← t1, ← List.map_mergeSort (f := fun t : D × V × PyData => (t.1, t.2.2)) (s := PySem.W.dataLe false (·.2)) (r := PySem.W.dataLe false (fun t : D × V × PyData => t.2.2)) (fun a _ b _ => rfl), List.map_map]
              rfl
            have m2 : ((us.zip ps).mergeSort (PySem.W.dataLe false (·.2))).map (·.1) = (ts.mergeSort (PySem.W.dataLe false (·.2.2))).map (·.2.1) := by
              rw [← t2, ← List.map_mergeSort (f := fun t : D × V × PyData => (t.2.1, t.2.2)) (s := PySem.W.dataLe false (·.2)) (r := PySem.W.dataLe false (fun t : D × V × PyData => t.2.2)) (fun a _ b _ => rfl), List.map_map]
              rfl
            rw [m1, m2]
            exact rpl_of_all fun t ht => t3 t (List.mem_mergeSort.mp ht)
          · exact p.elim
  · exact p.elim

theorem wp_sorted {α : Type} {k : Nat} {as : List α} {f : α → D} {g : α → PyData} {le : α → α → Bool} {Q : D → Store → Prop} {E : Exn → Store → Prop} (hk : lsAt S k = some (as.map f)) (hg : ∀ x ∈ as, pyD S (f x) = some (g x)) (hok : sortOkB (as.map g) = true)
    (hle : ∀ x ∈ as, ∀ y ∈ as, (!PySem.W.dataLt (g y) (g x)) = le x y) (q : Q (.ref S.length) (S ++ [.lst ((as.mergeSort le).map f)])) : wp (sortedM [.ref k] S) Q E := by
  have h1 : optAll (pyD S) (as.map f) = some (as.map g) := by
    clear hk hok hle q
    induction as with
    | nil => rfl
    | cons a as ih =>
      rw [List.map_cons, optAll, hg a List.mem_cons_self, ih fun x hx => hg x (List.mem_cons_of_mem _ hx)]
      rfl
  unfold sortedM
  simp only [hk, h1, hok, if_true, wp_ok]
  have e : sortL (as.map f) (as.map g) = (as.mergeSort le).map f := by
    unfold sortL
    have z : (as.map f).zip (as.map g) = as.map fun x => (f x, g x) := by
      clear hk h1 hg hok hle q
      induction as with
      | nil => rfl
      | cons a as ih => simp [ih]
    rw [z, ← List.map_mergeSort (f := fun x => (f x, g x)) (s := PySem.W.dataLe false (fun t : D × PyData => t.2)) (r := le) (fun a ha b hb => (hle a ha b hb).symm), List.map_map]
    rfl
  rw [e]
  exact q
end
theorem dataLt_ints (x y : Int) : (!PySem.W.dataLt (.int y) (.int x)) = decide (x ≤ y) := by
  rw [PySem.W.dataLt_int]
  by_cases h : y < x
  · rw [decide_eq_true h, decide_eq_false (by omega)]; rfl
  · rw [decide_eq_false h, decide_eq_true (by omega)]; rfl
theorem sortOk_ints (ns : List Int) : sortOkB (ns.map PyData.int) = true := by
  unfold sortOkB sortableB
  simp [PySem.W.alike, PyData.depth]
theorem wp_sortedI {S : Store} {k : Nat} {ns : List Int} {Q : D → Store → Prop} {E : Exn → Store → Prop} (hk : lsAt S k = some (ns.map D.int)) (q : Q (.ref S.length) (S ++ [.lst ((ns.mergeSort fun a b => decide (a ≤ b)).map D.int)])) : wp (sortedM [.ref k] S) Q E :=
  wp_sorted (g := PyData.int) hk (fun x _ => by with_unfolding_all rfl) (sortOk_ints ns) (fun x _ y _ => dataLt_ints x y) q


def rStrD (K : PySem.W.Frag) : List V → Hp → VK → Prop := fun xs H Q => ∃ a d, xs = [.ref a] ∧ Dp K H (.ref a) d ∧ d.canLay0 = true ∧ d.showable = true ∧ d.depth ≤ 190 ∧ d.shown.length ≤ sizeLine ∧ Q (.str d.shown) H
def rStrX (K : PySem.W.Frag) : List V → Hp → VK → Prop := fun xs H Q => (∃ i, xs = [.int i] ∧ i.natAbs.log2 < 1920 ∧ Q (.str (toString i)) H) ∨ rStrD K xs H Q
theorem cr_strD {X : Cx} {k : Nat} (hr : RoomG k X.A) : CallR X (.type "str") (rStrD X.K) := by
  intro pins s σ H xs us Q I r h
  obtain ⟨a, d, rfl, hd, hc, hs, hdp, hl, q⟩ := h
  rw [Vals.ref1 r]
  obtain ⟨as, rd⟩ := Dp.reads I d (.ref a) (.ref a) hd rfl
  exact str_of_reads rd hs (PyData.noDict_hsm (PyData.hasDict_of_canLay d hc)) hr.g (by have := hr.r.un; omega) (fun _ _ h => h) (fun h' u tk hk => ⟨.str d.shown, H, I.kept hk, ⟨_, rfl⟩, q⟩) hl
theorem cr_strX {X : Cx} {k : Nat} (hr : RoomG k X.A) : CallR X (.type "str") (rStrX X.K) := CallR.or call_str_int (cr_strD hr)
def strXM (as : List D) : M D := fun S => match as with
  | [.int i] => if i.natAbs.log2 < 1920 then .ok (.str (toString i)) S else .bad
  | [d] => (match d with
    | .tup _ => (match pyD S d with | some p => if p.showable = true ∧ p.depth ≤ 190 ∧ p.shown.length ≤ sizeLine then .ok (.str p.shown) S else .bad | none => .bad)
    | .ref _ => (match pyD S d with | some p => if p.showable = true ∧ p.depth ≤ 190 ∧ p.shown.length ≤ sizeLine then .ok (.str p.shown) S else .bad | none => .bad)
    | _ => .bad)
  | _ => .bad
section
variable {c : Gx} {W : WX} {S : Store}
theorem s_strX : SemC c W (rStrX c.K) strXM := by
  intro σ H μ S xs ds Q s r p
  unfold strXM at p
  split at p
  · obtain ⟨v, rfl, rv⟩ := rpl1 r
    cases rpInt rv
    split at p
    · rename_i h; exact .inl ⟨_, rfl, h, p.fin s (.str _)⟩
    · exact p.elim
  · rename_i d _
    obtain ⟨v, rfl, rv⟩ := rpl1 r
    have key : ∀ a, v = V.ref a → Post c W σ μ H (ZE c Q) (match pyD S d with | some p => if p.showable = true ∧ p.depth ≤ 190 ∧ p.shown.length ≤ sizeLine then .ok (.str p.shown) S else .bad | none => .bad) → rStrX c.K [v] H Q := by
      intro a e p
      subst e
      cases h : pyD S d with
      | none => rw [h] at p; exact p.elim
      | some pd =>
        rw [h] at p
        simp only [] at p
        obtain ⟨a1, a2, a3⟩ := py_ok s 199 d _ pd h rv
        split at p
        · rename_i hc; exact .inr ⟨a, pd, rfl, a1, a2, hc.1, hc.2.1, hc.2.2, p.fin s (.str _)⟩
        · exact p.elim
    cases rv with
    | tup sq rl => exact key _ rfl p
    | ref ha => exact key _ rfl p
    | _ => exact p.elim
  · exact p.elim
theorem wp_strI {i : Int} {Q : D → Store → Prop} {E : Exn → Store → Prop} : wp (strXM [.int i] S) Q E = (i.natAbs.log2 < 1920 ∧ Q (.str (toString i)) S) := by
  show wp (if i.natAbs.log2 < 1920 then .ok (.str (toString i)) S else .bad) Q E = _
  by_cases h : i.natAbs.log2 < 1920 <;> simp [h, wp_ok, wp_bad]
theorem wp_strT {xs : List D} {p : PyData} {Q : D → Store → Prop} {E : Exn → Store → Prop} (hp : pyD S (.tup xs) = some p) (h1 : p.showable = true) (h2 : p.depth ≤ 190) (h3 : p.shown.length ≤ sizeLine) (q : Q (.str p.shown) S) : wp (strXM [.tup xs] S) Q E := by
  show wp (match pyD S (.tup xs) with | some p => if p.showable = true ∧ p.depth ≤ 190 ∧ p.shown.length ≤ sizeLine then .ok (.str p.shown) S else .bad | none => .bad) Q E
  rw [hp]
  simp only [h1, h2, h3, and_self, if_true, wp_ok]
  exact q
theorem wp_strR {k : Nat} {p : PyData} {Q : D → Store → Prop} {E : Exn → Store → Prop} (hp : pyD S (.ref k) = some p) (h1 : p.showable = true) (h2 : p.depth ≤ 190) (h3 : p.shown.length ≤ sizeLine) (q : Q (.str p.shown) S) : wp (strXM [.ref k] S) Q E := by
  show wp (match pyD S (.ref k) with | some p => if p.showable = true ∧ p.depth ≤ 190 ∧ p.shown.length ≤ sizeLine then .ok (.str p.shown) S else .bad | none => .bad) Q E
  rw [hp]
  simp only [h1, h2, h3, and_self, if_true, wp_ok]
  exact q
end


def rgD (a b : Int) : List D := (List.range (b - a).toNat).map fun i => D.int (a + (i : Nat))
theorem rpl_rg {K : PySem.W.Frag} {μ : List Addr} {H : Hp} (a b : Int) : RpL K μ H (rgD a b) (rgV a b) := by
  unfold rgD rgV
  generalize List.range (b - a).toNat = l
  induction l with
  | nil => exact .nil
  | cons i l ih => exact .cons (.int _) ih
instance (a b : Int) : Decidable (RgOk a b) := inferInstanceAs (Decidable (_ ∧ _ ∧ _ ∧ _ ∧ _))
def mLRg1 (t : Bool) (a : Env' → M D) : Env' → M D := fun r => mB (a r) fun x S => match x.asInt with
  | some n => if RgOk 0 n then (if t then .ok (.tup (rgD 0 n)) S else .ok (.ref S.length) (S ++ [.lst (rgD 0 n)])) else .bad
  | none => .bad
def mLRg2 (t : Bool) (a b : Env' → M D) : Env' → M D := fun r => mB (a r) fun x => mB (b r) fun y S => match x.asInt, y.asInt with
  | some m, some n => if RgOk m n then (if t then .ok (.tup (rgD m n)) S else .ok (.ref S.length) (S ++ [.lst (rgD m n)])) else .bad
  | _, _ => .bad
section
variable {c : Gx} {W : WX} {S : Store}
theorem sem_lrg1 {ta : TE} {ma : Env' → M D} (ha : SemE c W ta ma) : SemE c W (tLstRg (tRg1 ta)) (mLRg1 false ma) := by
  intro σ H μ r S Q s e p
  refine ha.go s e p fun d S1 μ1 H1 v ex s1 e1 rv p1 => ?_
  cases h : d.asInt with
  | none => rw [h] at p1; exact p1.elim
  | some n =>
    rw [h] at p1
    obtain ⟨rfl, rfl⟩ := rv.asInt h
    simp only [] at p1
    split at p1
    · rename_i hc
      exact ⟨n, rfl, hc, fun q hq => p1.finNew s1 hq ⟨_, upd_same, rpl_rg 0 n⟩⟩
    · exact p1.elim
theorem sem_trg1 {ta : TE} {ma : Env' → M D} (ha : SemE c W ta ma) : SemE c W (tTupRg (tRg1 ta)) (mLRg1 true ma) := by
  intro σ H μ r S Q s e p
  refine ha.go s e p fun d S1 μ1 H1 v ex s1 e1 rv p1 => ?_
  cases h : d.asInt with
  | none => rw [h] at p1; exact p1.elim
  | some n =>
    rw [h] at p1
    obtain ⟨rfl, rfl⟩ := rv.asInt h
    simp only [] at p1
    split at p1
    · rename_i hc
      exact ⟨n, rfl, hc, fun q hq => p1.finTup s1 hq (rpl_rg 0 n)⟩
    · exact p1.elim
theorem sem_lrg2 {ta tb : TE} {ma mb : Env' → M D} (ha : SemE c W ta ma) (hb : SemE c W tb mb) : SemE c W (tLstRg (tRg2 ta tb)) (mLRg2 false ma mb) := by
  intro σ H μ r S Q s e p
  refine ha.go s e p fun d S1 μ1 H1 v ex s1 e1 rv p1 => hb.go s1 e1 p1 fun d2 S2 μ2 H2 v2 ex2 s2 e2 rv2 p2 => ?_
  have rv := rv.mono ex2
  cases h : d.asInt with
  | none => rw [h] at p2; exact p2.elim
  | some m =>
    cases h2 : d2.asInt with
    | none => rw [h, h2] at p2; exact p2.elim
    | some n =>
      rw [h, h2] at p2
      obtain ⟨rfl, rfl⟩ := rv.asInt h
      obtain ⟨rfl, rfl⟩ := rv2.asInt h2
      simp only [] at p2
      split at p2
      · rename_i hc
        exact ⟨m, n, rfl, rfl, hc, fun q hq => p2.finNew s2 hq ⟨_, upd_same, rpl_rg m n⟩⟩
      · exact p2.elim
theorem sem_trg2 {ta tb : TE} {ma mb : Env' → M D} (ha : SemE c W ta ma) (hb : SemE c W tb mb) : SemE c W (tTupRg (tRg2 ta tb)) (mLRg2 true ma mb) := by
  intro σ H μ r S Q s e p
  refine ha.go s e p fun d S1 μ1 H1 v ex s1 e1 rv p1 => hb.go s1 e1 p1 fun d2 S2 μ2 H2 v2 ex2 s2 e2 rv2 p2 => ?_
  have rv := rv.mono ex2
  cases h : d.asInt with
  | none => rw [h] at p2; exact p2.elim
  | some m =>
    cases h2 : d2.asInt with
    | none => rw [h, h2] at p2; exact p2.elim
    | some n =>
      rw [h, h2] at p2
      obtain ⟨rfl, rfl⟩ := rv.asInt h
      obtain ⟨rfl, rfl⟩ := rv2.asInt h2
      simp only [] at p2
      split at p2
      · rename_i hc
        exact ⟨m, n, rfl, rfl, hc, fun q hq => p2.finTup s2 hq (rpl_rg m n)⟩
      · exact p2.elim
variable {Q : D → Store → Prop} {E : Exn → Store → Prop} {r : Env'} {a b : Env' → M D}
theorem wp_lrg1 : wp (mLRg1 false a r S) Q E = wp (a r S) (fun x S1 => ∃ n, x.asInt = some n ∧ RgOk 0 n ∧ Q (.ref S1.length) (S1 ++ [.lst (rgD 0 n)])) E := by
  unfold mLRg1; rw [wp_mB]; congr 1; funext x S1
  cases h : x.asInt with
  | none => simp [wp_bad]
  | some n => by_cases hc : RgOk 0 n <;> simp [hc, wp_ok, wp_bad]
theorem wp_trg1 : wp (mLRg1 true a r S) Q E = wp (a r S) (fun x S1 => ∃ n, x.asInt = some n ∧ RgOk 0 n ∧ Q (.tup (rgD 0 n)) S1) E := by
  unfold mLRg1; rw [wp_mB]; congr 1; funext x S1
  cases h : x.asInt with
  | none => simp [wp_bad]
  | some n => by_cases hc : RgOk 0 n <;> simp [hc, wp_ok, wp_bad]

variable {k : Nat} {y v : D} {kvs : List (Key × D)}
theorem wp_dnew : wp (dnewM r S) Q E = Q (.ref S.length) (S ++ [.dK []]) := by with_unfolding_all rfl
theorem wp_dAsk {f : Option D → M D} : wp (dAsk (.ref k) y f S) Q E = ∃ j, keyD y = some j ∧ ∃ kvs, dkO S[k]? = some kvs ∧ wp (f (valG kvs j) S) Q E := by
  show wp (match (some k : Option Nat), keyD y with | some i, some y => (match dkO S[i]? with | some kvs => f (valG kvs y) S | none => .bad) | _, _ => .bad) Q E = _
  cases h : keyD y with
  | none => simp [wp_bad]
  | some j => cases h2 : dkO S[k]? <;> simp [h2, wp_bad]
theorem wp_dget : wp (dgetM (.ref k) y S) Q E = ∃ j, keyD y = some j ∧ ∃ kvs, dkO S[k]? = some kvs ∧ ∃ v, valG kvs j = some v ∧ Q v S := by
  unfold dgetM
  rw [wp_dAsk]
  congr 1; funext j; congr 1; congr 1; funext kvs; congr 1
  cases h : valG kvs j <;> simp [wp_mBad, wp_mP]
theorem wp_din : wp (dinM y (.ref k) S) Q E = ∃ j, keyD y = some j ∧ ∃ kvs, dkO S[k]? = some kvs ∧ Q (.bl (valG kvs j).isSome) S := by
  unfold dinM
  simp only [wp_dAsk, wp_mP]
theorem wp_dnin : wp (dninM y (.ref k) S) Q E = ∃ j, keyD y = some j ∧ ∃ kvs, dkO S[k]? = some kvs ∧ Q (.bl (!(valG kvs j).isSome)) S := by
  unfold dninM
  simp only [wp_dAsk, wp_mP]
theorem wp_dg1 : wp (dgM (.ref k) [y] S) Q E = ∃ j, keyD y = some j ∧ ∃ kvs, dkO S[k]? = some kvs ∧ Q ((valG kvs j).getD .non) S := by
  unfold dgM
  simp only [wp_dAsk, wp_mP]
theorem wp_dput {QU : Unit → Store → Prop} : wp (dputM (.ref k) y v S) QU E = ∃ j, keyD y = some j ∧ ∃ kvs, dkO S[k]? = some kvs ∧ kvs.length < sizeLine ∧ QU () (S.set k (.dK (putG kvs j v))) := by
  show wp (match (some k : Option Nat), keyD y with | some i, some y => (match dkO S[i]? with | some kvs => if kvs.length < sizeLine then .ok () (S.set i (.dK (putG kvs y v))) else .bad | none => .bad) | _, _ => .bad) QU E = _
  cases h : keyD y with
  | none => simp [wp_bad]
  | some j =>
    cases h2 : dkO S[k]? with
    | none => simp [h2, wp_bad]
    | some kvs => by_cases hl : kvs.length < sizeLine <;> simp [h2, hl, wp_ok, wp_bad]
theorem wp_dpop : wp (dpopM (.ref k) [y] S) Q E = ∃ j, keyD y = some j ∧ ∃ kvs, dkO S[k]? = some kvs ∧ ∃ v, valG kvs j = some v ∧ Q v (S.set k (.dK (dropG kvs j))) := by
  show wp (match (some k : Option Nat), keyD y with | some i, some y => (match dkO S[i]? with | some kvs => (match valG kvs y with | some v => .ok v (S.set i (.dK (dropG kvs y))) | none => .bad) | none => .bad) | _, _ => .bad) Q E = _
  cases h : keyD y with
  | none => simp [wp_bad]
  | some j =>
    cases h2 : dkO S[k]? with
    | none => simp [h2, wp_bad]
    | some kvs => cases h3 : valG kvs j <;> simp [h2, h3, wp_ok, wp_bad]
theorem wp_MD {f : D → List D → M D} {as : Env' → M (List D)} : wp (mMD f a as r S) Q E = wp (a r S) (fun x S1 => isDk x S1 = true ∧ wp (as r S1) (fun xs S2 => wp (f x xs S2) Q E) E) E := by
  unfold mMD; rw [wp_mB]; congr 1; funext x S1
  by_cases h : isDk x S1 = true
  · rw [if_pos h, wp_mB]; simp [h]
  · rw [if_neg h]; simp [h, wp_bad]
theorem isDk_ref : isDk (.ref k) S = (dkO S[k]?).isSome := rfl
end


def rEqS : R2 := fun x y H Q => ∃ a b, x = .str a ∧ y = .str b ∧ Q (.bl (decide (a = b))) H
def rNeS : R2 := fun x y H Q => ∃ a b, x = .str a ∧ y = .str b ∧ Q (.bl (!decide (a = b))) H
theorem op_eqS {X : Cx} : OpR X (compareOp .Eq) rEqS := by
  intro pins s σ H x y v u Q I rx ry h
  obtain ⟨a, b, rfl, rfl, q⟩ := h
  refine op_eq pins s σ H _ _ v u Q I rx ry ⟨rfl, ?_⟩
  have e : decide ((V.str a) = V.str b) = decide (a = b) := decide_eq_decide.mpr ⟨fun h => by cases h; rfl, fun h => by rw [h]⟩
  rw [e]
  exact q
theorem op_neS {X : Cx} : OpR X (compareOp .NotEq) rNeS := by
  intro pins s σ H x y v u Q I rx ry h
  obtain ⟨a, b, rfl, rfl, q⟩ := h
  refine op_ne pins s σ H _ _ v u Q I rx ry ⟨rfl, ?_⟩
  have e : decide ((V.str a) = V.str b) = decide (a = b) := decide_eq_decide.mpr ⟨fun h => by cases h; rfl, fun h => by rw [h]⟩
  rw [e]
  exact q
def eqSM (neg : Bool) (d e : D) : M D := fun S => match d.asStr, e.asStr with
  | some a, some b => .ok (.bl (if neg then !decide (a = b) else decide (a = b))) S
  | _, _ => .bad
section
variable {c : Gx} {W : WX} {S : Store}
theorem s_eqS : Sem2 c W rEqS (eqSM false) := by
  intro σ H μ S x y d e Q s rx ry p
  unfold eqSM at p
  cases h1 : d.asStr with
  | none => rw [h1] at p; exact p.elim
  | some a =>
    cases h2 : e.asStr with
    | none => rw [h1, h2] at p; exact p.elim
    | some b =>
      rw [h1, h2] at p
      obtain ⟨rfl, rfl⟩ := rx.asStr h1
      obtain ⟨rfl, rfl⟩ := ry.asStr h2
      exact ⟨a, b, rfl, rfl, p.fin s (.bl _)⟩
theorem s_neS : Sem2 c W rNeS (eqSM true) := by
  intro σ H μ S x y d e Q s rx ry p
  unfold eqSM at p
  cases h1 : d.asStr with
  | none => rw [h1] at p; exact p.elim
  | some a =>
    cases h2 : e.asStr with
    | none => rw [h1, h2] at p; exact p.elim
    | some b =>
      rw [h1, h2] at p
      obtain ⟨rfl, rfl⟩ := rx.asStr h1
      obtain ⟨rfl, rfl⟩ := ry.asStr h2
      exact ⟨a, b, rfl, rfl, p.fin s (.bl _)⟩
theorem wp_eqS {a b : Str} {Q : D → Store → Prop} {E : Exn → Store → Prop} : wp (eqSM false (.str a) (.str b) S) Q E = Q (.bl (decide (a = b))) S := by with_unfolding_all rfl
theorem wp_neS {a b : Str} {Q : D → Store → Prop} {E : Exn → Store → Prop} : wp (eqSM true (.str a) (.str b) S) Q E = Q (.bl (!decide (a = b))) S := by with_unfolding_all rfl
end
end CK
end

section
set_option Elab.async false
set_option linter.all false
set_option maxRecDepth 100000
set_option maxHeartbeats 4000000
namespace CK
open PySem PySem.Spec PyProof.Rows L2


def isStrB (d : D) : Bool := match d with | .str _ => true | _ => false
def mMS (f : D → List D → M D) (o : Env' → M D) (a : Env' → M (List D)) : Env' → M D := fun r => mB (o r) fun x S => if isStrB x = true then mB (a r) (fun xs => f x xs) S else .bad
def sindexM (d : D) (as : List D) : M D := fun S => match d.asStr, as with
  | some a, [.str b] => (match Builtin.Str.occurrences a b 0 a.length 1 with | i :: _ => .ok (.int (i : Nat)) S | [] => .bad)
  | _, _ => .bad
section
variable {c : Gx} {W : WX} {S : Store}
theorem sem_bmS {t : V → List V → Hp → VK → Prop} {f : D → List D → M D} {to : TE} {ta : TA} {mo : Env' → M D} {ma : Env' → M (List D)} (h : SemM c W t f)
    (ho : SemE c W to mo) (ha : SemA c W ta ma) : SemE c W (tBM c.K "str" t to ta) (mMS f mo ma) := by
  intro σ H μ r S Q s e p
  refine ho.go s e p fun d S1 μ1 H1 v ex s1 e1 rv p1 => ?_
  split at p1
  · rename_i hl
    have ty : tyV c.K "str" v H1 := by
      cases rv with
      | str x => rfl
      | _ => cases hl
    exact ⟨ty, ha.go s1 e1 p1 fun ds S2 μ2 H2 vs ex2 s2 e2 rvs p2 => h σ H2 μ2 S2 v d vs ds Q s2 (rv.mono ex2) rvs p2⟩
  · exact p1.elim
theorem s_sindex : SemM c W (fun x xs H Q => ∃ a b i rest, x = .str a ∧ xs = [.str b] ∧ Builtin.Str.occurrences a b 0 a.length 1 = i :: rest ∧ Q (.int (i : Nat)) H) sindexM := by
  intro σ H μ S x d xs ds Q s rx rxs p
  unfold sindexM at p
  cases h1 : d.asStr with
  | none => rw [h1] at p; exact p.elim
  | some a =>
    rw [h1] at p
    obtain ⟨rfl, rfl⟩ := rx.asStr h1
    split at p
    · rename_i b e
      cases e
      rename_i b
      obtain ⟨v, rfl, rv⟩ := rpl1 rxs
      cases rv
      split at p
      · rename_i i rest h2
        exact ⟨_, _, i, rest, rfl, rfl, h2, p.fin s (.int _)⟩
      · exact p.elim
    · exact p.elim
variable {Q : D → Store → Prop} {E : Exn → Store → Prop} {r : Env'} {a : Env' → M D} {as : Env' → M (List D)}
theorem wp_MS {f : D → List D → M D} : wp (mMS f a as r S) Q E = wp (a r S) (fun x S1 => isStrB x = true ∧ wp (as r S1) (fun xs S2 => wp (f x xs S2) Q E) E) E := by
  unfold mMS; rw [wp_mB]; congr 1; funext x S1
  by_cases h : isStrB x = true
  · rw [if_pos h, wp_mB]; simp [h]
  · rw [if_neg h]; simp [h, wp_bad]
theorem isStrB_str {x : Str} : isStrB (.str x) = true := rfl
theorem wp_sindex {x y : Str} : wp (sindexM (.str x) [.str y] S) Q E = ∃ i rest, Builtin.Str.occurrences x y 0 x.length 1 = i :: rest ∧ Q (.int (i : Nat)) S := by
  show wp (match Builtin.Str.occurrences x y 0 x.length 1 with | i :: _ => .ok (.int (i : Nat)) S | [] => .bad) Q E = _
  cases h : Builtin.Str.occurrences x y 0 x.length 1 <;> simp [wp_ok, wp_bad]
end


def indexM (d : D) (as : List D) : M D := fun S => match as with
  | [y] => (match d.asRef, pyD S d, pyD S y with
    | some _, some (.list ds), some p => if SeqAt.shaped (.list ds) = true ∧ SeqAt.shaped p = true then (match ds.findIdx? (fun z => PyData.eqv z p) with | some j => .ok (.int (j : Nat)) S | none => .bad) else .bad
    | _, _, _ => .bad)
  | _ => .bad
theorem mt_indexX' {X : Cx} {k : Nat} (hr : Room k X.A) : MtR X "list.index" (rIndexD X.K) := mt_indexD (by have := hr.un; omega)
section
variable {c : Gx} {W : WX} {S : Store}
theorem s_index : SemM c W (rIndexD c.K) indexM := by
  intro σ H μ S x d xs ds Q s rx rxs p
  unfold indexM at p
  split at p
  · rename_i y
    obtain ⟨v, rfl, rv⟩ := rpl1 rxs
    split at p
    · rename_i k ds' pp h1 h2 h3
      obtain ⟨rfl, a, rfl, ha⟩ := rx.asRef h1
      obtain ⟨a1, a2, a3⟩ := py_ok s 199 _ _ _ h2 rx
      obtain ⟨b1, b2, b3⟩ := py_ok s 199 _ _ _ h3 rv
      split at p
      · rename_i hsh
        split at p
        · rename_i j hj
          have hj' := List.findIdx?_eq_some_iff_getElem.mp hj
          obtain ⟨hlt, he, hno⟩ := hj'
          refine ⟨a, v, pp, ds', j, ds'[j], rfl, rfl, a1, b1, hsh.1, hsh.2, List.getElem?_eq_getElem hlt, he, fun m z' hm hz => ?_, p.fin s (.int _)⟩
          have hml : m < ds'.length := by omega
          rw [List.getElem?_eq_getElem hml] at hz
          cases hz
          simpa using hno m hm
        · exact p.elim
      · exact p.elim
    · exact p.elim
  · exact p.elim
theorem ints_shaped (ns : List Int) : SeqAt.shaped (.list (ns.map PyData.int)) = true := by
  unfold SeqAt.shaped
  have h1 : PyData.canLayAll0 (ns.map PyData.int) = true := by
    induction ns with
    | nil => simp [PyData.canLayAll0]
    | cons n ns ih => simp [PyData.canLayAll0, PyData.canLay0, ih]
  have h2 := depthInts ns
  simp [PyData.canLay0, PyData.depth, h1, h2]
theorem wp_indexI {k : Nat} {x : Int} {j : Nat} {ns : List Int} {Q : D → Store → Prop} {E : Exn → Store → Prop} (hp : pyD S (.ref k) = some (.list (ns.map PyData.int))) (hj : ns.findIdx? (fun z => z == x) = some j) (q : Q (.int (j : Nat)) S) : wp (indexM (.ref k) [.int x] S) Q E := by
  unfold indexM
  have h2 : pyD S (.int x) = some (.int x) := by with_unfolding_all rfl
  have h3 : (D.ref k).asRef = some k := rfl
  simp only [h3, hp, h2]
  have h4 : SeqAt.shaped (.int x) = true := by simp [SeqAt.shaped, PyData.canLay0, PyData.depth]
  rw [if_pos ⟨ints_shaped ns, h4⟩]
  have h5 : (ns.map PyData.int).findIdx? (fun z => PyData.eqv z (.int x)) = some j := by
    rw [List.findIdx?_map]
    have : ((fun z => PyData.eqv z (.int x)) ∘ PyData.int) = (fun z : Int => z == x) := by funext z; simp [eq_int]
    rw [this]; exact hj
  rw [h5]
  simp only [wp_ok]
  exact q
end


theorem map_erase {α β : Type} (f : α → β) : ∀ (l : List α) (j : Nat), (l.eraseIdx j).map f = (l.map f).eraseIdx j
  | [], _ => rfl
  | _ :: _, 0 => rfl
  | x :: l, j + 1 => by simp [List.eraseIdx_cons_succ, map_erase f l j]
def removeM (d : D) (as : List D) : M D := match as with
  | [.int x] => lsUpd d fun xs => match asInts xs with
    | some ns => (match ns.findIdx? (fun z => z == x) with | some j => some (.non, xs.eraseIdx j) | none => none)
    | none => none
  | _ => mBad
def countM (d : D) (as : List D) : M D := fun S => match d.asRef, as with
  | some k, [.int x] => (match lsAt S k with
    | some xs => (match asInts xs with | some ns => .ok (.int (ns.count x : Nat)) S | none => .bad)
    | none => .bad)
  | _, _ => .bad
section
variable {c : Gx} {W : WX} {S : Store}
theorem s_remove : SemM c W rRemI removeM := by
  intro σ H μ S x d xs ds Q s rx rxs p
  unfold removeM at p
  split at p
  · rename_i z
    obtain ⟨v, rfl, rv⟩ := rpl1 rxs
    cases rpInt rv
    obtain ⟨i, a, es, us, y, ys, rfl, rfl, g1, g2, hk, q⟩ := s_lsUpd s rx p
    split at hk
    · rename_i ns hns
      split at hk
      · rename_i j hj
        cases hk
        have es_eq := asInts_eq hns
        rw [es_eq] at g2
        have us_eq := g2.ofInts
        rw [us_eq] at g1 g2
        obtain ⟨hlt, he, hno⟩ := List.findIdx?_eq_some_iff_getElem.mp hj
        refine ⟨a, ns, z, j, rfl, rfl, g1, ?_, fun m hm hz => ?_, ?_⟩
        · rw [List.getElem?_eq_getElem hlt]; congr 1; simpa using he
        · have hml : m < ns.length := by omega
          rw [List.getElem?_eq_getElem hml] at hz
          have := hno m hm
          simp at this
          exact this (Option.some.inj hz)
        · have := q .non ((ns.eraseIdx j).map V.int) .non ?_
          · exact this
          · rw [es_eq, ← map_erase]
            exact RpL.ints _
      · cases hk
    · cases hk
  · exact p.elim
theorem s_count : SemM c W (rCntI c.K) countM := by
  intro σ H μ S x d xs ds Q s rx rxs p
  unfold countM at p
  split at p
  · rename_i k z h1
    obtain ⟨rfl, a, rfl, ha⟩ := rx.asRef h1
    obtain ⟨v, rfl, rv⟩ := rpl1 rxs
    cases rpInt rv
    cases h2 : lsAt S k with
    | none => rw [h2] at p; exact p.elim
    | some es =>
      rw [h2] at p
      simp only [] at p
      cases h3 : asInts es with
      | none => rw [h3] at p; exact p.elim
      | some ns =>
        rw [h3] at p
        obtain ⟨us, sq, rl⟩ := s.ls h2 ha
        rw [asInts_eq h3] at rl
        rw [rl.ofInts] at sq
        exact ⟨a, ns, z, rfl, rfl, sq, p.fin s (.int _)⟩
  · exact p.elim
end


def isiT (t : String) : List String → Option Bool
  | [] => some false
  | T :: r => match isiR t T with
    | some true => some true
    | some false => isiT t r
    | none => none
def mIsiT (Ts : List String) (m : Env' → M D) : Env' → M D := fun r => mB (m r) fun d S => match tyN d S with
  | some t => (match isiT t Ts with | some b => .ok (.bl b) S | none => .bad)
  | none => .bad
def tTys : List String → TA
  | [] => tNil
  | T :: r => tCons (tC (.ty T)) (tTys r)
theorem tTys_is : ∀ (Ts : List String) {σ : L2.St} {H : Hp} {Q : List V → Hp → Prop}, Q (Ts.map V.ty) H → tTys Ts σ H Q
  | [], _, _, _, q => q
  | T :: r, σ, H, Q, q => tTys_is r (Q := fun xs H2 => Q (.ty T :: xs) H2) q
theorem tys_paired : ∀ Ts : List String, Paired ClsV (Ts.map V.ty) (Ts.map Value.type)
  | [] => .nil
  | T :: r => .cons (.ty T) (tys_paired r)
theorem isiT_kit {K : PySem.W.Frag} {t : String} : ∀ {Ts : List String} {b : Bool}, isiT t Ts = some b → PySem.W.kitAny K (.type t) (Ts.map Value.type) = some b
  | [], _, h => h
  | T :: r, b, h => by
    unfold isiT at h
    show PySem.W.kitAny K (.type t) (Value.type T :: r.map Value.type) = some b
    unfold PySem.W.kitAny
    cases q : isiR t T with
    | none => rw [q] at h; cases h
    | some x =>
      rw [kit_ty q]
      rw [q] at h
      cases x with
      | true => exact h
      | false => exact isiT_kit h
section
variable {c : Gx} {W : WX}
theorem sem_isiT {Ts : List String} {t : TE} {m : Env' → M D} (hl : Ts.length ≤ 1000) (h : SemE c W t m) : SemE c W (tCB (rIsiT c.K) (tCons t (tCons (tTup (tTys Ts)) tNil))) (mIsiT Ts m) := by
  intro σ H μ r S Q s e p
  refine h.go s e p fun d S1 μ1 H1 v ex s1 e1 rv p1 => ?_
  cases q : tyN d S1 with
  | none => rw [q] at p1; exact p1.elim
  | some ty =>
    rw [q] at p1
    simp only [] at p1
    cases q2 : isiT ty Ts with
    | none => rw [q2] at p1; exact p1.elim
    | some b =>
      rw [q2] at p1
      refine tTys_is Ts ⟨by rw [List.length_map, sizeLine_eq]; omega, fun tp hn => ?_⟩
      have ex2 : Ex c.K μ1 H1 μ1 (upd H1 tp (.tup (Ts.map V.ty))) := Ex.tup hn
      have s2 := s1.tup (ho := .tup (Ts.map V.ty)) hn
      refine ⟨v, tp, Ts.map V.ty, .type ty, Ts.map Value.type, b, rfl, upd_same, tys_paired Ts, tyX_ok s2 (rv.mono ex2) q, isiT_kit q2, ?_⟩
      exact p1 μ1 _ ex2 s2 _ (.bl b)
theorem wp_isiT {Ts : List String} {a : Env' → M D} {r : Env'} {S : Store} {Q : D → Store → Prop} {E : Exn → Store → Prop} : wp (mIsiT Ts a r S) Q E = wp (a r S) (fun d S1 => ∃ t k, tyN d S1 = some t ∧ isiT t Ts = some k ∧ Q (.bl k) S1) E := by
  unfold mIsiT; rw [wp_mB]; congr 1; funext d S1
  cases h : tyN d S1 with
  | none => simp [wp_bad]
  | some t =>
    cases h2 : isiT t Ts with
    | none => simp [wp_bad, h2]
    | some k => cases k <;> simp [wp_ok, h2]
end


def pairD (d : D) : Option (Key × D) := match d with
  | .tup [k, v] => (match keyD k with | some j => some (j, v) | none => none)
  | _ => none
def mergeG {κ α : Type} [DecidableEq κ] (kvs more : List (κ × α)) : List (κ × α) := more.foldl (fun acc kv => putG acc kv.1 kv.2) kvs
def dictM (as : List D) : M D := fun S => match as with
  | [.ref k] => (match S[k]? with
    | some (.dK kvs) => .ok (.ref S.length) (S ++ [.dK kvs])
    | some (.lst xs) => (match optAll pairD xs with | some kvs => .ok (.ref S.length) (S ++ [.dK (mergeG [] kvs)]) | none => .bad)
    | _ => .bad)
  | _ => .bad
def rDictX (K : PySem.W.Frag) : List V → Hp → VK → Prop := fun xs H Q => (∃ (a : Addr) (ps : List Addr) (kvs : List (Key × V)), xs = [.ref a] ∧ SqL K H a (ps.map V.ref) ∧ Paired (fun p kv => SqT K H p [kV kv.1, kv.2]) ps kvs ∧
    ∀ p, H p = none → Q (.ref p) (upd H p (.dK (mergeK [] kvs)))) ∨ ∃ (a : Addr) (kvs : List (Key × V)), xs = [.ref a] ∧ Rd H a (.dK kvs) ∧ ∀ p, H p = none → Q (.ref p) (upd H p (.dK kvs))
theorem call_dictX {X : Cx} (hc : X.calm = true) : CallR X (.type "dict") (rDictX X.K) := CallR.or (call_dictP hc) call_dictD
section
variable {c : Gx} {W : WX} {μ : List Addr} {H : Hp}
theorem pairs_of {K : PySem.W.Frag} : ∀ {xs : List D} {vs : List V} {kvs : List (Key × D)}, optAll pairD xs = some kvs → RpL K μ H xs vs → ∃ (ps : List Addr) (us : List (Key × V)), vs = ps.map V.ref ∧ Paired (fun p kv => SqT K H p [kV kv.1, kv.2]) ps us ∧ RpKV K μ H kvs us
  | [], _, _, h, .nil => by cases h; exact ⟨[], [], rfl, .nil, .nil⟩
  | x :: xs, _, kvs, h, .cons r t => by
    unfold optAll at h
    split at h
    · rename_i y ys h1 h2
      cases h
      obtain ⟨ps, us, rfl, p2, p3⟩ := pairs_of h2 t
      unfold pairD at h1
      split at h1
      · rename_i k d
        split at h1
        · rename_i j hj
          cases h1
          cases r with
          | tup sq rl =>
            rename_i a zs
            obtain ⟨v1, v2, rfl, r1, r2⟩ := rpl2 (c := gx K fun _ => none) rl
            have := r1.key hj
            subst this
            exact ⟨a :: ps, (j, v2) :: us, rfl, .cons sq p2, p3.cons r2⟩
        · cases h1
      · cases h1
    · cases h
theorem RpKV.merge {K : PySem.W.Frag} : ∀ {more : List (Key × D)} {us : List (Key × V)} {ds : List (Key × D)} {vs : List (Key × V)}, RpKV K μ H more us → RpKV K μ H ds vs → RpKV K μ H (mergeG ds more) (mergeK vs us)
  | [], us, ds, vs, h, h2 => by
    cases us with
    | nil => exact h2
    | cons q us => have := h.1; simp at this
  | p :: more, us, ds, vs, h, h2 => by
    obtain ⟨q, us, rfl, e, r, t⟩ := h.uncons
    show RpKV K μ H (mergeG (putG ds p.1 p.2) more) (mergeK (putK vs q.1 q.2) us)
    rw [← e]
    exact RpKV.merge t (h2.put r p.1)
theorem s_dict : SemC c W (rDictX c.K) dictM := by
  intro σ H μ S xs ds Q s r p
  unfold dictM at p
  split at p
  · rename_i k
    obtain ⟨v, rfl, rv⟩ := rpl1 r
    cases rv with
    | ref ha =>
      rename_i a
      split at p
      · rename_i kvs hS
        obtain ⟨vs, g1, g2⟩ := s.obj _ _ _ hS ha
        exact .inr ⟨a, vs, rfl, .inl g1, fun q hq => p.finNew s hq ⟨vs, upd_same, RpKV.mono (Ex.new hq) g2⟩⟩
      · rename_i es hS
        split at p
        · rename_i kvs hk
          obtain ⟨vs, g1, g2⟩ := s.obj _ _ _ hS ha
          obtain ⟨ps, us, rfl, p2, p3⟩ := pairs_of hk g2
          exact .inl ⟨a, ps, us, rfl, .inl (.inl g1), p2, fun q hq => p.finNew s hq ⟨_, upd_same, RpKV.mono (Ex.new hq) (RpKV.merge p3 .nil)⟩⟩
        · exact p.elim
      · exact p.elim
  · exact p.elim
end
end CK
end

section
set_option Elab.async false
set_option linter.all false
set_option maxRecDepth 100000
set_option maxHeartbeats 4000000
namespace CK
open PySem PySem.Spec PyProof.Rows L2


structure BaseC (K : PySem.W.Frag) (B : Addr) : Prop where
  gg : PySem.W.specialIn K (.ref B) "__getattribute__" = some (some (.builtin "type.__getattribute__"))
  rd : PySem.W.readsIn K B (.type "type") = true
  fi : PySem.W.findCls K (.ref B) (.type "type") "__init__" = some (.val (.builtin "ValueError.__init__"))
theorem pe_baseinit {X : Cx} {x : Str} {B : Addr} {e : Expr} {es : List Expr} {ta : TA} {p1 p2 pos : Pos} {pl : Sem Bool} (T : BaseC X.K B) (hg : Gl X x) (hm : X.mg x = some (.ref B)) (ha : PA X (e :: es) ta)
    (hdb : (x == ("__debug__" : Str)) = false := by decide)
    (hc : eval (.Call (.Attribute (.Name x p1) "__init__" p2) (e :: es) [] pos) X.env = (do
      let ov ← eval (.Name x p1) X.env
      standAt p2.atName
      let (f, first) ← holding [ov] (getMethod ov "__init__" pl)
      callWith pos f first (backTo pos (starEach (e :: es) X.env)) (backToKw pos (keywordEach [] X.env))) := by rfl)
    (he : starEach (e :: es) X.env = (false, eval e X.env) :: starEach es X.env := by rfl) (hpl : (backTo pos (starEach es X.env)).any (·.1) = false := by rfl) :
    PE X (.Call (.Attribute (.Name x p1) "__init__" p2) (e :: es) [] pos) (tVeI X.K ta) := by
  constructor
  intro pins z σ H Q I h
  apply PySem.W.methodCall_KW (ld_glob I hg hm ?_ hdb) hc
  apply PySem.W.method_cls I.kIn T.gg
  apply PySem.W.cls_value I.kIn T.rd T.fi (by decide +kernel)
  show wpAny _ _ (callWith pos (Value.builtin "ValueError.__init__") [] (backTo pos (starEach (e :: es) X.env)) []) _ _ _
  apply PyProof.Rows.callWith_method1 (thn (ha.run pos pins _ σ H _ (I.tok _) h) fun us z1 ⟨vs, H1, I1, r1, a, C, ws, ev, hl, O, ea, q⟩ => ?_) he hpl
  subst ev
  cases r1 with
  | @cons _ u0 _ ur ra rr =>
    obtain rfl : u0 = Value.ref a := ra
    refine oinit_ok O I1 ea ?_ fun z2 J => ⟨.non, H1, J, rfl, q⟩
    have := Paired.length rr
    rw [sizeLine_eq]
    omega


def spInit (K : PySem.W.Frag) (f : Str) : Sp := fun vs H Q _ => ∃ (a C : Addr) (y : V), vs = [.ref a, y] ∧ OexC K C ∧ PySem.W.findIn K (.ref C) f = some none ∧ H a = some (exo a C none) ∧
  ∀ dx, H dx = none → dx ≠ a → Q .non (upd (upd H dx (exd dx [(f, y)])) a (exo a C (some dx)))
theorem init_ok {P : Program} {w : World} {K : PySem.W.Frag} {mg : Str → Option Value} {base : Heap} {qual f : Str} {st : Stmt} {fI : Addr} {fd : FuncData} {t : TA} (F : Fun K "__init__" qual st fI fd) (S : FnScope [("self" : Str), f] [("self" : Str), f] (defScope st))
    (hb : ∀ (cdv : Value) (A : Around) (outer : List Env) (s : Shared) (H : Hp) (E : XK), ∃ msg : Str, PSs (cxOf CX0 P w K mg base [("self" : Str), f] qual (defScope st) fI cdv A outer s H E).nox (defBody st) (tSeq (tDrop (tVeI K (tCons (tVar 0) (tCons (tC (.str msg)) tNil)))) (tOst K f (tVar 0) (tVar 1)))) :
    FnOk P w K mg base CX0 1 fI fd [("self" : Str), f] (spInit K f) := by
  refine F.ok S (fun _ _ _ _ h => ?_) fun cdv A outer s H vs Q E hr h => ?_
  · obtain ⟨a, C, y, rfl, _⟩ := h; rfl
  · obtain ⟨msg, d⟩ := hb cdv A outer s H E
    refine ⟨_, d, ?_⟩
    obtain ⟨a, C, y, rfl, O, hno, ea, q⟩ := h
    refine ⟨.ref a, rfl, a, C, [.str msg], rfl, (by show 1 ≤ 1000; decide), O, ea, y, rfl, .ref a, rfl, a, C, rfl, O, hno, .inl ⟨ea, fun dx h1 h2 => q dx h1 h2⟩⟩

structure XMade (P : Program) (w : World) (c : Gx) (base : Heap) (x f : Str) (C : Addr) : Prop where
  gC : c.mg x = some (.ref C)
  O : OexC c.K C
  no : PySem.W.findIn c.K (.ref C) f = some none
  fI : ∃ (fI : Addr) (fd : FuncData), PySem.W.findIn c.K (.ref C) "__init__" = some (some (.ref fI)) ∧ PySem.W.typeIn c.K (.ref fI) = some (.type "function") ∧ Binds c.K fd [("self" : Str), f] [] ∧ FnOk P w c.K c.mg base CX0 1 fI fd [("self" : Str), f] (spInit c.K f)
theorem heap_back {H1 : Hp} {a dx C : Addr} {f : Str} {y : V} (ha : H1 a = none) (hd : dx ≠ a) : upd (del (upd (upd (upd H1 a (exo a C none)) dx (exd dx [(f, y)])) a (exo a C (some dx))) a) dx (.xd [(f, y)]) = upd H1 dx (.xd [(f, y)]) := by
  funext b
  by_cases h1 : b = dx
  · rw [h1, upd_same, upd_same]
  · rw [upd_ne h1, upd_ne h1]
    by_cases h2 : b = a
    · rw [h2, del_same, ha]
    · rw [del_ne h2, upd_ne h2, upd_ne h1, upd_ne h2]
theorem ps_raise1 {X : Cx} {W : WX} {c : Gx} {x f : Str} {C : Addr} {k : Nat} {p pos pos' : Pos} {e : Expr} {ta : TA} (T : XMade X.prog X.w c X.base x f C) (hr : Room k X.A) (tk : Takes X W) (ha : PA X [e] ta) (hcalm : X.calm = true := by rfl) (hk : 2 ≤ k := by decide) (hK : c.K = X.K := by rfl) (hmg : c.mg = X.mg := by rfl) (hg : Gl X x := by rfl)
    (hdb : (x == ("__debug__" : Str)) = false := by decide) (he : starEach [e] X.env = (false, eval e X.env) :: starEach [] X.env := by rfl) (hpl : (backTo pos (starEach [] X.env)).any (·.1) = false := by rfl) :
    PS X (.Raise (some (.Call (.Name x p) [e] [] pos)) none pos') (fun _ σ H => tMkO C (spInit c.K f) [] ta σ H fun cls d H' => W cls d σ H') := by
  obtain ⟨gC, O, no, fI, fd, h1, h2, h3, h4⟩ := T
  rw [hK] at O no h1 h2 h3
  rw [hK, hmg] at h4
  rw [hmg] at gC
  rw [hK]
  exact ps_raise hcalm tk (pmk_oex (X := X) (p := p) (pos := pos) (ta := ta) (dvs := []) (ds := []) O h1 h2 h4 (hr.mono hk) h3 .nil (fun _ _ _ _ _ _ _ h => h.elim) hg gC ha hdb he hpl)

def mRaise (x f : Str) (a : Env' → M (List D)) : Env' → M Fl := stE a fun ds r S => match ds with
  | [d] => .ok (.xc ⟨x, some S.length⟩ r) (S ++ [.xd [(f, d)]])
  | _ => .bad
section
variable {c : Gx} {W : WX} {P : Program} {w : World} {base : Heap}
theorem sem_raise1 {x f : Str} {C : Addr} {t : TA} {m : Env' → M (List D)} (T : XMade P w c base x f C) (h : SemA c W t m) : SemS c W (fun _ σ H => tMkO C (spInit c.K f) [] t σ H fun cls d H' => W cls d σ H') (mRaise x f m) := by
  intro σ H μ r S Dn s e p
  refine h.goS s e p fun ds S1 μ1 H1 vs ex s1 e1 rv p1 => ?_
  split at p1
  · rename_i d
    obtain ⟨y, rfl, ry⟩ := rpl1 rv
    refine ⟨by show 1 ≤ 1000; decide, fun a hn => ⟨a, C, y, rfl, T.O, T.no, upd_same, fun dx hd hne => ⟨rfl, dx, [(f, y)], upd_same, ?_, ?_, ?_⟩⟩⟩
    · rw [upd_ne hne, upd_same]
    · rw [upd_ne hne] at hd; exact hd
    · rw [heap_back hn hne]
      have hd' : H1 dx = none := by rw [upd_ne hne] at hd; exact hd
      have ex2 : Ex c.K μ1 H1 (μ1 ++ [dx]) (upd H1 dx (.xd [(f, y)])) := Ex.new hd'
      refine p1 (μ1 ++ [dx]) _ ex2 (s1.new hd' ⟨_, upd_same, ?_⟩) σ (.ref C) (some dx) (e1.mono ex2) ⟨T.gC, ?_⟩
      · exact RpKV.mono ex2 (RpKV.nil.cons ry)
      · show (μ1 ++ [dx])[S1.length]? = some dx
        rw [← s1.len]; simp
  · exact p1.elim
end



def exS (a b : Str) : Bool := decide (a = b) || decide (b = "CrestError") || decide (b = "ValueError")

structure XTakes (c : Gx) (L : List Str) (h : Str) (v : Value) : Prop where
  ex : ∀ x ∈ L, ∀ cls, c.mg x = some cls → PySem.W.exmOne c.K cls v = some (exS x h)
def outS (i : Nat) : R Fl → R Fl
  | .ok f S => (match f with
    | .nx r => .ok (.nx (r.set i none)) S
    | .rt d => .ok (.rt d) S
    | .bk r => .ok (.bk (r.set i none)) S
    | .ct r => .ok (.ct (r.set i none)) S
    | .xc _ _ => .bad)
  | _ => .bad

def mTryAs (L : List Str) (h : Str) (i : Nat) (b : Env' → M Fl) (su : Exn → Nat → Env' → M Fl) : Env' → M Fl := fun r S => match b r S with
  | .ok f S1 => (match f with
    | .xc x r1 => if x.cls ∈ L then (if exS x.cls h = true then outS i (su x S1.length (r1.set i (some (.ref S1.length))) (S1 ++ [.opq])) else .ok (.xc x r1) S1) else .bad
    | f => .ok f S1)
  | _ => .bad
def mTryOnly (L : List Str) (h : Str) (b : Env' → M Fl) (su : Env' → M Fl) : Env' → M Fl := fun r S => match b r S with
  | .ok f S1 => (match f with
    | .xc x r1 => if x.cls ∈ L then (if exS x.cls h = true then outS r.length (su r1 S1) else .ok (.xc x r1) S1) else .bad
    | f => .ok f S1)
  | _ => .bad

def cxE (c : Gx) (j : Nat) (a : Addr) (x : Exn) (d : Option Addr) : Gx := { c with
  J := fun μ H => c.J μ H ∧ μ[j]? = some a ∧ (match x.dict, d with | none, none => True | some i, some b => μ[i]? = some b | _, _ => False)
  jm := fun {μ H μ' H'} e h => ⟨c.jm e h.1, e.mu _ _ h.2.1, by
    have h3 := h.2.2
    cases q : x.dict with
    | none =>
      cases q2 : d with
      | none => trivial
      | some b => rw [q, q2] at h3; exact h3.elim
    | some i =>
      cases q2 : d with
      | none => rw [q, q2] at h3; exact h3.elim
      | some b => rw [q, q2] at h3; exact e.mu _ _ h3⟩ }
theorem rpo_cx {c : Gx} {j : Nat} {a b : Addr} {x : Exn} {d : Option Addr} {μ : List Addr} {H : Hp} {o : O} : RpO (cxE c j a x d) μ H o b ↔ RpO c μ H o b := by cases o <;> exact Iff.rfl
theorem SOk.ofCx {c : Gx} {j : Nat} {a : Addr} {x : Exn} {d : Option Addr} {μ : List Addr} {H : Hp} {S : Store} (s : SOk (cxE c j a x d) μ H S) : SOk c μ H S :=
  ⟨s.len, fun i o b h1 h2 => rpo_cx.mp (s.obj i o b h1 h2), s.inj, s.j.1⟩
theorem EnvR.unset {K : PySem.W.Frag} {μ : List Addr} {H : Hp} {r : Env'} {σ : L2.St} (h : EnvR K μ H r σ) (i : Nat) : EnvR K μ H (r.set i none) (σ.set i none) := by
  refine ⟨by simp [h.len], fun j d e => ?_⟩
  by_cases hj : i = j
  · subst hj
    by_cases hl : i < r.length
    · rw [List.getElem?_set_self hl] at e; cases e
    · rw [List.getElem?_eq_none (by simpa using hl)] at e; cases e
  · rw [List.getElem?_set_ne hj] at e
    rw [List.getElem?_set_ne hj]
    exact h.at_ j d e

def SemX (c : Gx) (ts : Addr → Value → Option Addr → TS) (su : Exn → Nat → Env' → M Fl) : Prop := ∀ (a : Addr) (cls : Value) (d : Option Addr) (x : Exn) (j : Nat), c.mg x.cls = some cls → SemS (cxE c j a x d) Wf (ts a cls d) (su x j)
section
variable {c : Gx} {W : WX}
theorem sem_tryAs {L : List Str} {h : Str} {v : Value} {i : Nat} {tb : WX → TS} {ts : Addr → Value → Option Addr → TS} {mb : Env' → M Fl} {su : Exn → Nat → Env' → M Fl} (T : XTakes c L h v) (hb : ∀ W, SemS c W (tb W) mb) (hs : SemX c ts su) :
    SemS c W (fun Dn σ H => tb (wAs c.K v i ts W Dn) Dn σ H) (mTryAs L h i mb su) := by
  intro σ H μ r S Dn s e p
  refine hb _ σ H μ r S Dn s e ?_
  unfold mTryAs at p
  cases q : mb r S with
  | exc x S1 => rw [q] at p; exact p.elim
  | bad => rw [q] at p; exact p.elim
  | ok f S1 =>
    rw [q] at p
    cases f with
    | nx r1 => exact p
    | rt d => exact p
    | bk r1 => exact p
    | ct r1 => exact p
    | xc x r1 =>
      simp only [] at p
      intro μ1 H1 ex1 s1 σ1 cls dd e1 rx
      by_cases hL : x.cls ∈ L
      · rw [if_pos hL] at p
        refine ⟨exS x.cls h, T.ex x.cls hL cls rx.cl, fun hy a na => ?_, fun hn => ?_⟩
        · rw [if_pos hy] at p
          have exA : Ex c.K μ1 H1 (μ1 ++ [a]) H1 := ⟨fun k b hk => by rw [List.getElem?_append_left (List.getElem?_eq_some_iff.mp hk).1]; exact hk, fun _ _ z => z⟩
          have hj : (μ1 ++ [a])[S1.length]? = some a := by rw [← s1.len]; simp
          have s2 : SOk (cxE c S1.length a x dd) (μ1 ++ [a]) H1 (S1 ++ [.opq]) := by
            refine ⟨by simp [s1.len], fun k o b h1 h2 => rpo_cx.mpr ?_, fun k l o u b h1 h2 h3 h4 m1 m2 => ?_, c.jm exA s1.j, hj, ?_⟩
            · rcases get_snoc h1 with h1 | ⟨e1, e2⟩
              · rcases get_snoc h2 with h2 | ⟨e2, _⟩
                · have := s1.obj k o b h1 h2
                  cases o with
                  | lst ds => obtain ⟨xs, g, q⟩ := this; exact ⟨xs, g, q.mono exA⟩
                  | fro ds => obtain ⟨xs, g, q⟩ := this; exact ⟨xs, g, q.mono exA⟩
                  | dK ds => obtain ⟨xs, g, q⟩ := this; exact ⟨xs, g, q.1, q.2.mono exA⟩
                  | dT ds => obtain ⟨xs, g, q⟩ := this; exact ⟨xs, g, q.1, q.2.mono exA⟩
                  | xd ds => obtain ⟨xs, g, q⟩ := this; exact ⟨xs, g, q.1, q.2.mono exA⟩
                  | ins C ds => obtain ⟨A, dx, xs, g0, g, q⟩ := this; exact ⟨A, dx, xs, g0, g, q.1, q.2.mono exA⟩
                  | hid => exact this
                  | opq => trivial
                · exact absurd (List.getElem?_eq_some_iff.mp h1).1 (by rw [e2, s1.len]; exact Nat.lt_irrefl _)
              · rw [e2]; trivial
            · rcases get_snoc h1 with h1 | ⟨_, e2⟩
              · rcases get_snoc h2 with h2 | ⟨_, e2⟩
                · rcases get_snoc h3 with h3 | ⟨e3, _⟩
                  · rcases get_snoc h4 with h4 | ⟨e4, _⟩
                    · exact s1.inj k l o u b h1 h2 h3 h4 m1 m2
                    · exact absurd (List.getElem?_eq_some_iff.mp h2).1 (by rw [e4, s1.len]; exact Nat.lt_irrefl _)
                  · exact absurd (List.getElem?_eq_some_iff.mp h1).1 (by rw [e3, s1.len]; exact Nat.lt_irrefl _)
                · rw [e2] at m2; cases m2
              · rw [e2] at m1; cases m1
            · have := rx.di
              cases q1 : x.dict with
              | none =>
                cases q2 : dd with
                | none => trivial
                | some b => rw [q1, q2] at this; exact this.elim
              | some k =>
                cases q2 : dd with
                | none => rw [q1, q2] at this; exact this.elim
                | some b => rw [q1, q2] at this; exact exA.mu _ _ this
          refine hs a cls dd x S1.length rx.cl (σ1.set i (some (.ref a))) H1 (μ1 ++ [a]) (r1.set i (some (.ref S1.length))) (S1 ++ [.opq]) _ s2 ((e1.mono exA).set i (.ref hj)) ?_
          cases q3 : su x S1.length (r1.set i (some (.ref S1.length))) (S1 ++ [.opq]) with
          | exc y S2 => rw [q3] at p; exact p.elim
          | bad => rw [q3] at p; exact p.elim
          | ok f S2 =>
            rw [q3] at p
            intro μ2 H2 ex2 s3
            have exT : Ex c.K μ H μ2 H2 := (ex1.trans exA).trans ex2
            cases f with
            | nx r2 => exact fun σ2 e2 => p μ2 H2 exT s3.ofCx _ (e2.unset i)
            | rt d => exact fun v rv => p μ2 H2 exT s3.ofCx v rv
            | bk r2 => exact fun σ2 e2 => p μ2 H2 exT s3.ofCx _ (e2.unset i)
            | ct r2 => exact fun σ2 e2 => p μ2 H2 exT s3.ofCx _ (e2.unset i)
            | xc y r2 => exact p.elim
        · rw [if_neg (by rw [hn]; decide)] at p
          exact p μ1 H1 ex1 s1 σ1 cls dd e1 rx
      · rw [if_neg hL] at p; exact p.elim
end



structure XLook (K : PySem.W.Frag) (C : Addr) : Prop where
  xf : XfC K C
  ha : PySem.W.findIn K (.ref C) "__class__" = some (some (.builtin "object.__class__"))
  hn : PySem.W.specialIn K (.builtin "object.__class__") "__get__" = some (some (.builtin "getset_descriptor.__get__"))
  ht : PySem.W.takesIn K (.builtin "object.__class__") = some true
  hm : PySem.W.mroIn K C (.type "object") = some true
def dictAt (d : Option Addr) (H : Hp) : Prop := d = none ∨ ∃ dd fs, d = some dd ∧ H dd = some (.xd fs)
def rIsX (K : PySem.W.Frag) (a : Addr) (cls : Value) (d : Option Addr) : List V → Hp → VK → Prop := fun xs H Q => ∃ (w : V) (cv : Value) (C : Addr) (b : Bool), xs = [.ref a, w] ∧ (∀ u, RelV w u → u = cv) ∧ cls = .ref C ∧ XLook K C ∧ dictAt d H ∧ PySem.W.kitOne K cls cv = some b ∧ Q (.bl b) H
theorem inst_of {X : Cx} {pins : List (Addr × Obj)} {σ : L2.St} {H : Hp} {z : Shared} {a C : Addr} {oe : Obj} {d : Option Addr} {pn : List (Addr × Obj)} (I : L2.Inv (X.suite a ((a, oe) :: pn)) pins σ H z) (hz : Zc (.ref C) d oe) (hf : ∃ vs, oe.data = .fields vs) (hd : dictAt d H) :
    ∃ od, PySem.W.InstAt z.heap a oe C od := by
  obtain ⟨hget, _⟩ := I.pin (a, oe) (List.mem_append.mpr (.inl List.mem_cons_self))
  obtain ⟨vs, hv⟩ := hf
  have hno : PySem.W.notCls oe = true := by unfold PySem.W.notCls; rw [hv]
  rcases hd with rfl | ⟨dd, fs, rfl, hH⟩
  · exact ⟨none, hget, hz.1, hno, by rw [hz.2]; trivial⟩
  · obtain ⟨mA, hns, _⟩ := (show ObjOk X.prog X.w H z.heap dd (.xd fs) from I.hok dd _ hH)
    obtain ⟨od, ho, _⟩ := lookIn_ns hns
    exact ⟨some od, hget, hz.1, hno, by rw [hz.2]; exact ho⟩
theorem call_isX {X : Cx} {a : Addr} {oe : Obj} {cls : Value} {d : Option Addr} {pn : List (Addr × Obj)} (hz : Zc cls d oe) (hf : ∃ vs, oe.data = .fields vs) : CallR (X.suite a ((a, oe) :: pn)) (.builtin "isinstance") (rIsX X.K a cls d) := by
  intro pins z σ H xs us Q I r h
  obtain ⟨w, cv, C, b, rfl, hcv, rfl, T, hd, e, q⟩ := h
  cases r with
  | cons rx rr =>
    cases rr with
    | cons rt rr =>
      cases rr
      cases rx
      have ec := hcv _ rt
      subst ec
      obtain ⟨od, J⟩ := inst_of I hz hf hd
      have hcl : (PySem.W.clsIn X.K C).isSome = true := by obtain ⟨cd, hc, _⟩ := PySem.W.any_some T.xf.hdC; rw [hc]; rfl
      exact PySem.W.kia_one (PySem.W.kitx_exc hcl T.xf.ga T.xf.gg T.xf.exC T.ha T.hn T.ht T.hm) I.kIn J e (fun z => nomatch z) fun tk => ⟨.bl b, H, I.kept (t' := tk) fun _ _ z => z, rfl, q⟩
def rIsXT (K : PySem.W.Frag) (a : Addr) (cls : Value) (d : Option Addr) : List V → Hp → VK → Prop := fun xs H Q => ∃ (tp : Addr) (ws : List V) (cvs : List Value) (C : Addr) (b : Bool), xs = [.ref a, .ref tp] ∧ H tp = some (.tup ws) ∧ (∀ us, Vals ws us → us = cvs) ∧ cls = .ref C ∧ XLook K C ∧ dictAt d H ∧ PySem.W.kitAny K cls cvs = some b ∧ Q (.bl b) H
theorem call_isXT {X : Cx} {a : Addr} {oe : Obj} {cls : Value} {d : Option Addr} {pn : List (Addr × Obj)} (hz : Zc cls d oe) (hf : ∃ vs, oe.data = .fields vs) : CallR (X.suite a ((a, oe) :: pn)) (.builtin "isinstance") (rIsXT X.K a cls d) := by
  intro pins z σ H xs us Q I r h
  obtain ⟨tp, ws, cvs, C, b, rfl, hT, hcv, rfl, T, hd, e, q⟩ := h
  cases r with
  | cons rx rr =>
    cases rr with
    | cons rt rr =>
      cases rr
      cases rx
      cases rt
      obtain ⟨od, J⟩ := inst_of I hz hf hd
      obtain ⟨_, its, rv, o, h1, h2, n, h3⟩ := (show ObjOk X.prog X.w H z.heap tp (.tup ws) from I.hok tp _ hT)
      have ec := hcv _ rv
      subst ec
      obtain ⟨oc, od2, dt, sl⟩ := o
      simp only at h2 h3
      subst h2 h3
      have hcl : (PySem.W.clsIn X.K C).isSome = true := by obtain ⟨cd, hc, _⟩ := PySem.W.any_some T.xf.hdC; rw [hc]; rfl
      exact PySem.W.kia_tup (PySem.W.kitx_exc hcl T.xf.ga T.xf.gg T.xf.exC T.ha T.hn T.ht T.hm) I.kIn J h1 e (fun z => nomatch z) fun tk => ⟨.bl b, H, I.kept (t' := tk) fun _ _ z => z, rfl, q⟩

def tXfA (K : PySem.W.Frag) (a : Addr) (cls : Value) (d : Option Addr) (f : Str) (te : TE) : TE := fun σ H Q => te σ H fun x H1 => ∃ C, (cls = .ref C ∧ XfC K C ∧ PySem.W.findIn K (.ref C) f = some none) ∧ x = .ref a ∧ ∃ (dd : Addr) (fs : List (Str × V)) (v : V), d = some dd ∧ H1 dd = some (.xd fs) ∧ fs.lookup f = some v ∧ Q v H1
theorem pe_xfA {X : Cx} {a : Addr} {oe : Obj} {cls : Value} {d : Option Addr} {pn : List (Addr × Obj)} {e : Expr} {te : TE} {pos : Pos} {f : Str} (hz : Zc cls d oe) (hf : ∃ vs, oe.data = .fields vs) (he : PE (X.suite a ((a, oe) :: pn)) e te) (hb : attributeBase e f X.env (eval e X.env) = eval e X.env := by rfl) :
    PE (X.suite a ((a, oe) :: pn)) (.Attribute e f pos) (tXfA X.K a cls d f te) := by
  by_cases hT : ∃ C, cls = .ref C ∧ XfC X.K C ∧ PySem.W.findIn X.K (.ref C) f = some none
  · obtain ⟨C, ec, T, hno⟩ := hT
    have base := pe_xf (pos := pos) T hno hz hf he hb
    constructor
    intro pins z σ H Q I h
    refine base.run pins z σ H Q I ?_
    have e : (fun (x : V) (H1 : Hp) => ∃ C, (cls = .ref C ∧ XfC X.K C ∧ PySem.W.findIn X.K (.ref C) f = some none) ∧ x = .ref a ∧ ∃ (dd : Addr) (fs : List (Str × V)) (v : V), d = some dd ∧ H1 dd = some (.xd fs) ∧ fs.lookup f = some v ∧ Q v H1)
        = (fun (x : V) (H1 : Hp) => x = .ref a ∧ cls = .ref C ∧ ∃ (dd : Addr) (fs : List (Str × V)) (v : V), d = some dd ∧ H1 dd = some (.xd fs) ∧ fs.lookup f = some v ∧ Q v H1) := by
      funext x H1
      exact propext ⟨fun ⟨_, _, h1, h2⟩ => ⟨h1, ec, h2⟩, fun ⟨h1, _, h2⟩ => ⟨C, ⟨ec, T, hno⟩, h1, h2⟩⟩
    have h' := h
    unfold tXfA at h'
    rw [e] at h'
    exact h'
  · constructor
    intro pins z σ H Q I h
    refine attr_of hb (thn (he.run pins z σ H _ I h) fun u z1 hh => ?_)
    obtain ⟨x, H1, I1, rx, C, hC, _⟩ := hh
    exact absurd ⟨C, hC⟩ hT
theorem op_eqU {X : Cx} (hu : X.A.units + 200 < cLine) : OpR X (compareOp .Eq) (rEqX X.K) := by
  intro pins s σ H x y v u Q I rx ry h
  obtain ⟨d, e, hd, he, sd, se, hm, q⟩ := h
  obtain ⟨as, r1⟩ := Dp.reads I d x v hd rx
  obtain ⟨bs, r2⟩ := Dp.reads I e y u he ry
  exact SeqAt.compareEq_reads r1 r2 sd se (by omega) ⟨.bl _, H, I, rfl, q⟩
theorem op_neU {X : Cx} (hu : X.A.units + 200 < cLine) : OpR X (compareOp .NotEq) (rNeX X.K) := by
  intro pins s σ H x y v u Q I rx ry h
  obtain ⟨d, e, hd, he, sd, se, hm, q⟩ := h
  obtain ⟨as, r1⟩ := Dp.reads I d x v hd rx
  obtain ⟨bs, r2⟩ := Dp.reads I e y u he ry
  exact SeqAt.compareNe_reads r1 r2 sd se (by omega) ⟨.bl _, H, I, rfl, q⟩
theorem un_of {X : Cx} {k : Nat} {a : Addr} {pn : List (Addr × Obj)} (hr : RoomG k X.A) : (X.suite a pn).A.units + 200 < cLine := by
  have := hr.r.un
  show X.A.units + 200 < cLine
  omega


structure XIs (c : Gx) (L : List Str) (h : Str) (v : Value) : Prop where
  ex : ∀ x ∈ L, ∀ cls, c.mg x = some cls → PySem.W.kitOne c.K cls v = some (exS x h)
structure XAll (c : Gx) (L : List Str) : Prop where
  ex : ∀ x ∈ L, ∃ C, c.mg x = some (.ref C) ∧ XLook c.K C
structure XFld (c : Gx) (L : List Str) (f : Str) : Prop where
  ex : ∀ x ∈ L, ∀ C, c.mg x = some (.ref C) → PySem.W.findIn c.K (.ref C) f = some none
def xdO : Option O → Option (List (Str × D))
  | some (.xd fs) => some fs
  | _ => none
def xdOk (x : Exn) (S : Store) : Bool := match x.dict with
  | none => true
  | some k => (xdO S[k]?).isSome
def isEM (L : List Str) (x : Exn) (j : Nat) (h : Str) (m : Env' → M D) : Env' → M D := fun r => mB (m r) fun d S => match d.asRef with
  | some k => if k = j ∧ x.cls ∈ L ∧ xdOk x S = true then .ok (.bl (exS x.cls h)) S else .bad
  | none => .bad
def isETM (L : List Str) (x : Exn) (j : Nat) (hs : List Str) (m : Env' → M D) : Env' → M D := fun r => mB (m r) fun d S => match d.asRef with
  | some k => if k = j ∧ x.cls ∈ L ∧ xdOk x S = true then .ok (.bl (hs.any fun h => exS x.cls h)) S else .bad
  | none => .bad
def fldM (L : List Str) (x : Exn) (j : Nat) (f : Str) (m : Env' → M D) : Env' → M D := fun r => mB (m r) fun d S => match d.asRef, x.dict with
  | some k, some i => if k = j ∧ x.cls ∈ L then (match xdO S[i]? with | some fs => (match fs.lookup f with | some v => .ok v S | none => .bad) | none => .bad) else .bad
  | _, _ => .bad
section
variable {c : Gx} {a : Addr} {cls : Value} {d : Option Addr} {x : Exn} {j : Nat} {L : List Str}
theorem SOk.xd {μ : List Addr} {H : Hp} {S : Store} {i : Nat} {b : Addr} {fs : List (Str × D)} (s : SOk c μ H S) (h : xdO S[i]? = some fs) (hb : μ[i]? = some b) : ∃ vs, H b = some (.xd vs) ∧ RpKV c.K μ H fs vs := by
  cases q : S[i]? with
  | none => rw [q] at h; cases h
  | some o => rw [q] at h; cases o <;> simp only [xdO, reduceCtorEq, Option.some.injEq] at h; subst h; exact s.obj i _ b q hb
theorem dict_of {μ : List Addr} {H : Hp} {S : Store} (s : SOk (cxE c j a x d) μ H S) (h : xdOk x S = true) : dictAt d H := by
  have h3 := s.j.2.2
  unfold xdOk at h
  cases q : x.dict with
  | none =>
    cases q2 : d with
    | none => exact .inl rfl
    | some b => rw [q, q2] at h3; exact h3.elim
  | some i =>
    cases q2 : d with
    | none => rw [q, q2] at h3; exact h3.elim
    | some b =>
      rw [q, q2] at h3
      rw [q] at h
      obtain ⟨fs, hfs⟩ := Option.isSome_iff_exists.mp h
      obtain ⟨vs, g, _⟩ := s.xd hfs h3
      exact .inr ⟨b, vs, rfl, g⟩
theorem sem_isE {W : WX} {h : Str} {w : V} {cv : Value} {t : TE} {m : Env' → M D} (A : XAll c L) (T : XIs c L h cv) (hw : ∀ u, RelV w u → u = cv) (hx : c.mg x.cls = some cls) (hm : SemE (cxE c j a x d) W t m) :
    SemE (cxE c j a x d) W (tCB (rIsX c.K a cls d) (tCons t (tCons (tC w) tNil))) (isEM L x j h m) := by
  intro σ H μ r S Q s e p
  refine hm.go s e p fun dd S1 μ1 H1 v ex s1 e1 rv p1 => ?_
  cases q : dd.asRef with
  | none => rw [q] at p1; exact p1.elim
  | some k =>
    rw [q] at p1
    simp only [] at p1
    split at p1
    · rename_i hc
      obtain ⟨rfl, hL, hd⟩ := hc
      obtain ⟨rfl, b, rfl, hb⟩ := rv.asRef q
      have : b = a := by have := s1.j.2.1; rw [hb] at this; exact Option.some.inj this
      subst this
      obtain ⟨C, hC, XL⟩ := A.ex x.cls hL
      rw [hx] at hC
      cases hC
      exact ⟨w, cv, C, _, rfl, hw, rfl, XL, dict_of s1 hd, T.ex x.cls hL _ hx, p1.fin s1 (.bl _)⟩
    · exact p1.elim
theorem kit_any {hs : List (Str × Value)} (T : ∀ h ∈ hs, XIs c L h.1 h.2) {x : Str} (hL : x ∈ L) {cls : Value} (hx : c.mg x = some cls) : PySem.W.kitAny c.K cls (hs.map (·.2)) = some ((hs.map (·.1)).any fun h => exS x h) := by
  induction hs with
  | nil => rfl
  | cons p hs ih =>
    have h1 := (T p List.mem_cons_self).ex x hL cls hx
    have h2 := ih fun q hq => T q (List.mem_cons_of_mem _ hq)
    rw [List.map_cons, List.map_cons, List.any_cons]
    unfold PySem.W.kitAny
    rw [h1]
    cases exS x p.1 with
    | true => rfl
    | false => exact h2
def tVals : List V → TA
  | [] => tNil
  | w :: r => tCons (tC w) (tVals r)
theorem tVals_is : ∀ (ws : List V) {σ : L2.St} {H : Hp} {Q : List V → Hp → Prop}, Q ws H → tVals ws σ H Q
  | [], _, _, _, q => q
  | w :: r, σ, H, Q, q => tVals_is r (Q := fun xs H2 => Q (w :: xs) H2) q
theorem sem_isET {W : WX} {hs : List (Str × Value)} {ws : List V} {t : TE} {m : Env' → M D} (A : XAll c L) (T : ∀ h ∈ hs, XIs c L h.1 h.2) (hw : ∀ us, Vals ws us → us = hs.map (·.2)) (hlen : ws.length ≤ 1000) (hx : c.mg x.cls = some cls) (hm : SemE (cxE c j a x d) W t m) :
    SemE (cxE c j a x d) W (tCB (rIsXT c.K a cls d) (tCons t (tCons (tTup (tVals ws)) tNil))) (isETM L x j (hs.map (·.1)) m) := by
  intro σ H μ r S Q s e p
  refine hm.go s e p fun dd S1 μ1 H1 v ex s1 e1 rv p1 => ?_
  cases q : dd.asRef with
  | none => rw [q] at p1; exact p1.elim
  | some k =>
    rw [q] at p1
    simp only [] at p1
    split at p1
    · rename_i hc
      obtain ⟨rfl, hL, hd⟩ := hc
      obtain ⟨rfl, b, rfl, hb⟩ := rv.asRef q
      have : b = a := by have := s1.j.2.1; rw [hb] at this; exact Option.some.inj this
      subst this
      obtain ⟨C, hC, XL⟩ := A.ex x.cls hL
      rw [hx] at hC
      cases hC
      refine tVals_is ws ⟨by rw [sizeLine_eq]; omega, fun tp hn => ?_⟩
      have ex2 : Ex c.K μ1 H1 μ1 (upd H1 tp (.tup ws)) := Ex.tup (c := c) hn
      have s2 := s1.tup (ho := .tup ws) hn
      refine ⟨tp, ws, hs.map (·.2), C, _, rfl, upd_same, hw, rfl, XL, dict_of s2 hd, kit_any T hL hx, ?_⟩
      exact p1 μ1 _ ex2 s2 _ (.bl _)
    · exact p1.elim
theorem RpKV.look {K : PySem.W.Frag} {μ : List Addr} {H : Hp} (f : Str) : ∀ {fs : List (Str × D)} {vs : List (Str × V)} {v : D}, RpKV K μ H fs vs → fs.lookup f = some v → ∃ u, vs.lookup f = some u ∧ Rp K μ H v u
  | [], _, _, _, h => by cases h
  | p :: fs, vs, v, r, h => by
    obtain ⟨q, us, rfl, e, rp, t⟩ := r.uncons
    obtain ⟨p1, p2⟩ := p
    obtain ⟨q1, q2⟩ := q
    obtain rfl : p1 = q1 := e
    rw [List.lookup_cons] at h ⊢
    cases hb : f == p1 with
    | true => rw [hb] at h; cases h; exact ⟨q2, rfl, rp⟩
    | false => rw [hb] at h; exact RpKV.look f t h
theorem sem_fld {W : WX} {f : Str} {t : TE} {m : Env' → M D} (A : XAll c L) (T : XFld c L f) (hx : c.mg x.cls = some cls) (hm : SemE (cxE c j a x d) W t m) :
    SemE (cxE c j a x d) W (tXfA c.K a cls d f t) (fldM L x j f m) := by
  intro σ H μ r S Q s e p
  refine hm.go s e p fun dd S1 μ1 H1 v ex s1 e1 rv p1 => ?_
  split at p1
  · rename_i k i q1 q2
    split at p1
    · rename_i hc
      obtain ⟨rfl, hL⟩ := hc
      obtain ⟨rfl, b, rfl, hb⟩ := rv.asRef q1
      have : b = a := by have := s1.j.2.1; rw [hb] at this; exact Option.some.inj this
      subst this
      obtain ⟨C, hC, XL⟩ := A.ex x.cls hL
      have hC' := hC
      rw [hx] at hC
      cases hC
      cases q3 : xdO S1[i]? with
      | none => rw [q3] at p1; exact p1.elim
      | some fs =>
        rw [q3] at p1
        simp only [] at p1
        cases q4 : fs.lookup f with
        | none => rw [q4] at p1; exact p1.elim
        | some w =>
          rw [q4] at p1
          have h3 := s1.j.2.2
          rw [q2] at h3
          cases q5 : d with
          | none => rw [q5] at h3; exact h3.elim
          | some bb =>
            rw [q5] at h3
            obtain ⟨vs, g, rk⟩ := s1.xd q3 h3
            obtain ⟨u, hu, ru⟩ := rk.look f q4
            exact ⟨C, ⟨rfl, XL.xf, T.ex x.cls hL C hC'⟩, rfl, bb, vs, u, rfl, g, hu, p1.fin s1 ru⟩
    · exact p1.elim
  · exact p1.elim
end
end CK
end

section
set_option Elab.async false
set_option linter.all false
set_option maxRecDepth 100000
namespace CK
open PySem PySem.Spec PyProof.Rows L2
section
variable {prog : Program} {w : World} {A : Around} {E : Value → Shared → Prop} {s : Shared}
theorem PlainL.isList {h : Heap} {a : Addr} {its : Array Value} (x : PlainL h a its) : h.IsList a its := let ⟨o, n, e, hc, _, hd⟩ := x; ⟨o, e, hc, n, hd⟩
theorem draw_list {it t : Addr} {items : Array Value} (hne : t ≠ it) : ∀ (n i : Nat) (s : Shared) (Q : List Value → Shared → Prop), s.heap.IsListIter it t i → s.heap.IsList t items → i + n ≤ items.size →
    (∀ h', h'.IsListIter it t (i + n) → Heap.SameBut it s.heap h' → Q ((items.toList.drop i).take n) { s with heap := h' }) → wpAny (model prog w) A (draw (.ref it) n) Q E s
  | 0, i, s, Q, hit, _, _, hQ => by
    show wpAny _ _ (pure []) Q E s
    exact wpAny_pure (by simpa using hQ s.heap hit (Heap.SameBut.refl ..))
  | n + 1, i, s, Q, hit, ht, hle, hQ => by
    have hlt : i < items.size := by omega
    show wpAny _ _ (pyNext (.ref it) >>= _) Q E s
    refine wpAny_bind (wpAny_pyNext_list_item hit ht (x := items[i]) (by simp [hlt]) fun h₁ hit₁ hs₁ => ?_)
    refine wpAny_bind (wpAny_holding (draw_list hne n (i + 1) _ _ hit₁ (ht.extBut hs₁.extBut hne) (by omega) fun h₂ hit₂ hs₂ => wpAny_pure ?_))
    have hd : items.toList.drop i = items[i] :: items.toList.drop (i + 1) := by simp [List.drop_eq_getElem_cons, hlt]
    have := hQ h₂ (by rw [show i + (n + 1) = i + 1 + n by omega]; exact hit₂) (hs₁.trans hs₂)
    rw [hd, List.take_succ_cons] at this
    exact this
theorem unpackItems_list {t : Addr} {items : Array Value} {Q : List Value → Shared → Prop} (hh : A.handled = none) (ht : s.heap.IsList t items)
    (hQ : ∀ h', Heap.ExtBut s.heap.objs.size s.heap h' → Q items.toList { s with heap := h' }) : wpAny (model prog w) A (unpackItems (.ref t) items.size none) Q E s := by
  have hlt : t ≠ s.heap.objs.size := by obtain ⟨o, ho, _⟩ := ht; exact Nat.ne_of_lt (Heap.lt_size ho)
  unfold unpackItems
  refine wpAny_bind ?_
  · unfold notIterableAtAll
    refine wpAny_bind (wpAny_specialOf ht.typeIs slot_list_iter.lookup ?_)
    refine wpAny_pure ?_
    simp only [Bool.false_eq_true, if_false]
    refine wpAny_bind (wpAny_holding (wpAny_pyIter_list ht ?_))
    refine wpAny_bind (wpAny_holding (draw_list hlt items.size 0 _ _ ⟨_, Heap.get?_push_size _ rfl, rfl, rfl⟩ (ht.push _) (by omega) fun h₁ hit₁ hs₁ => ?_))
    have hall : List.take items.size (List.drop 0 items.toList) = items.toList := by
      rw [List.drop_zero]; exact List.take_of_length_le (by simp)
    rw [hall]
    rw [if_neg (by simp)]
    have ht₁ : h₁.IsList t items := (ht.push _).extBut hs₁.extBut hlt
    refine wpAny_bind (wpAny_holding (wpAny_pyNext_list_end hh hit₁ ht₁ (by simp) fun h₂ he₂ => ?_))
    simp only [Option.isSome_none, Bool.false_eq_true, if_false]
    refine wpAny_pure (hQ h₂ fun b o hb e => he₂ b o hb (hs₁.extBut b o hb (Heap.get?_push_of_some _ e)))
theorem assign_Tuple_list {env : Env} {elts : List Expr} {x1} {pos : Pos} {t : Addr} {items : Array Value} {Q : Unit → Shared → Prop} (hh : A.handled = none) (ht : s.heap.IsList t items)
    (hn : (assignEach elts env).length = items.size) (hstar : (assignEach elts env).findIdx? (·.1) = none)
    (h : ∀ h', Heap.ExtBut s.heap.objs.size s.heap h' → wpAny (model prog w) A (assignInOrder ((assignEach elts env).map (·.2)) items.toList) Q E { s with heap := h' }) :
    wpAny (model prog w) A (assign (.Tuple elts x1 pos) env (.ref t)) Q E s := by
  rw [assign_Tuple]
  refine wpAny_bind (wpAny_standAt ?_)
  unfold unpack
  rw [hn, hstar]
  exact wpAny_bind (wpAny_holding (unpackItems_list hh ht h))
end
def gLst (K : PySem.W.Frag) (n : Nat) (t : TGs) : TG := fun v σ H Q => ∃ a xs, v = .ref a ∧ SqL K H a xs ∧ xs.length = n ∧ t xs σ H Q
def gOr (t u : TG) : TG := fun v σ H Q => t v σ H Q ∨ u v σ H Q
section
variable {X : Cx} {pos : Pos}
theorem pg_lst {es : List Expr} {k : Nat} {t : TGs} {n : Nat} (hc : X.calm = true) (h : PGs X es t)
    (hn : (assignEach es X.env).length = n := by rfl) (hst : (assignEach es X.env).findIdx? (·.1) = none := by rfl) : PG X (.Tuple es k pos) (gLst X.K n t) := by
  refine ⟨fun pins s σ H v u Q I r hw => ?_⟩
  obtain ⟨a, xs, e1, hq, hl, hw⟩ := hw
  subst e1
  cases r
  obtain ⟨its, rv, ht, hz⟩ := I.list hq
  refine assign_Tuple_list (I.ok.hd hc) ht.isList (by simp [hn, ← hl, rv.length]) hst fun h' hx => ?_
  have I1 : Inv X pins σ H { s with heap := h' } := I.kept (t' := s.toks) fun b o e => hx b o (Nat.ne_of_lt (Heap.lt_size e)) e
  exact h.run pins _ σ H xs _ Q I1 (by simpa using rv) hw
theorem pg_or {e : Expr} {t u : TG} (h1 : PG X e t) (h2 : PG X e u) : PG X e (gOr t u) :=
  ⟨fun pins s σ H v w Q I r hw => hw.elim (h1.run pins s σ H v w Q I r) (h2.run pins s σ H v w Q I r)⟩
end
def gSq (n : Nat) (f : TgsM) : TgM := fun d r S => match d with
  | .tup ds => if ds.length = n then f ds r S else .bad
  | .ref k => (match lsAt S k with | some ds => if ds.length = n then f ds r S else .bad | none => .bad)
  | _ => .bad
section
variable {c : Gx} {W : WX}
theorem sem_gSq {n : Nat} {g : TGs} {f : TgsM} (h : SemGs c W g f) : SemG c W (gOr (gTup c.K n g) (gLst c.K n g)) (gSq n f) := by
  intro σ H μ r S d v Q s e rv p
  cases rv with
  | tup sq rl =>
    rename_i a xs ds
    have p' : Post c W σ μ H (fun r' μ' H' => ∀ σ', EnvR c.K μ' H' r' σ' → Q σ' H') (if ds.length = n then f ds r S else .bad) := p
    split at p'
    · rename_i hl
      exact .inl ⟨a, xs, rfl, sq, by rw [← rl.length]; exact hl, h σ H μ r S ds xs Q s e rl p'⟩
    · exact p'.elim
  | ref ha =>
    rename_i k a
    cases q0 : lsAt S k with
    | none =>
      have p' : Post c W σ μ H (fun r' μ' H' => ∀ σ', EnvR c.K μ' H' r' σ' → Q σ' H') (match lsAt S k with | some ds => if ds.length = n then f ds r S else .bad | none => .bad) := p
      rw [q0] at p'; exact p'.elim
    | some ds =>
      have p' : Post c W σ μ H (fun r' μ' H' => ∀ σ', EnvR c.K μ' H' r' σ' → Q σ' H') (match lsAt S k with | some ds => if ds.length = n then f ds r S else .bad | none => .bad) := p
      rw [q0] at p'
      simp only [] at p'
      obtain ⟨xs, sq, rl⟩ := s.ls q0 ha
      split at p'
      · rename_i hl
        exact .inr ⟨a, xs, rfl, sq, by rw [← rl.length]; exact hl, h σ H μ r S ds xs Q s e rl p'⟩
      · exact p'.elim
  | _ => exact p.elim
end
section
variable {E : Exn → Store → Prop} {S : Store} {QE : Env' → Store → Prop} {r : Env'}
theorem wp_gSqT {n : Nat} {gs : TgsM} {xs : List D} : wp (gSq n gs (.tup xs) r S) QE E = if xs.length = n then wp (gs xs r S) QE E else False := by
  show wp (if xs.length = n then gs xs r S else .bad) QE E = _
  rw [wp_ite]; with_unfolding_all rfl
theorem wp_gSqL {n k : Nat} {gs : TgsM} {xs : List D} (h : lsAt S k = some xs) (hn : xs.length = n) : wp (gSq n gs (.ref k) r S) QE E = wp (gs xs r S) QE E := by
  show wp (match lsAt S k with | some ds => if ds.length = n then gs ds r S else .bad | none => .bad) QE E = _
  rw [h]
  simp only [hn, if_true]
theorem wp_minL {Q : D → Store → Prop} {k : Nat} {a b : Int} (h : lsAt S k = some [.int a, .int b]) : wp (minM [.ref k] S) Q E = Q (.int (if b < a then b else a)) S := by
  show wp (ofList asInts (fun ns => match ns with | n :: r => mP (.int (minI r n)) | [] => mBad) [.ref k] S) Q E = _
  unfold ofList
  simp only [h]
  with_unfolding_all rfl
theorem wp_maxL {Q : D → Store → Prop} {k : Nat} {a b : Int} (h : lsAt S k = some [.int a, .int b]) : wp (maxM [.ref k] S) Q E = Q (.int (if b > a then b else a)) S := by
  show wp (ofList asInts (fun ns => match ns with | n :: r => mP (.int (maxI r n)) | [] => mBad) [.ref k] S) Q E = _
  unfold ofList
  simp only [h]
  with_unfolding_all rfl
end
end CK
end

section
set_option Elab.async false
set_option linter.all false
set_option exponentiation.threshold 100000
set_option maxRecDepth 100000
set_option maxHeartbeats 4000000
namespace CK
namespace Lib
open PySem PySem.Spec PyProof.Rows L2
local macro_rules | `(tactic| walk_at "ck") => `(tactic| try simp only [wp_seq, wp_asg, wp_if, wp_ret, wp_retN, wp_drop, wp_fn, wp_var0, wp_varS, wp_mC, wp_m2, wp_m1, wp_nil, wp_cons, wp_args, wp_call, wp_tst, wp_and, wp_or, wp_not, wp_andV, wp_orV, wp_notV, wp_ifE, wp_chain, wp_nx, wp_brk, wp_cnt, aft_nx, aft_rt, aft_bk, aft_ct, aft_xc, fin_rt, fin_nx, fin_xc, fin_bk, fin_ct, wp_gNm, wp_gTp, wp_gsNil, wp_gsCons, wp_gSub, wp_par, wp_par3, wp_i0, wp_iC, wp_addI, wp_addT, wp_mulI, wp_neg, wp_tup, wp_lst, sz0, sz1, sz2, sz3, sz4, sz5, sz6, sz7, sz8, wp_yes, wp_ixT, wp_ixL, wp_setL, wp_isi, tyN, isi_ii, isi_ib, isi_bi, isi_bb, exists_and_left, wp_ML, wp_ML0, isLs_ref, wp_append, wp_pop, wp_tupleR, wp_tupleT, wp_listR, wp_listT, wp_all, wp_any, wp_sum, wp_notB, wp_isB, wp_isN, wp_notN, Option.isSome_some, wp_rng1, wp_rng2, wp_rng3, lsAt, lsO_lst, lsO_fro, lstO_lst, wp_lenR, lenO_lst, lenO_fro, lenO_dK, List.length_map, List.getElem?_cons_zero, List.getElem?_cons_succ, wp_eqI, wp_neI, wp_eqB, wp_neB, wp_abs, wp_intI, wp_intB, wp_max2, wp_min2, wp_lenT, wp_for, wp_ok, wp_bad, lp_nx, lp_ct, lp_bk, lp_rt, lp_xc, asBl_bl, at0, at1, at2, List.map_cons, List.map_nil, List.cons_append, List.nil_append, List.length_cons, List.length_nil, List.replicate, List.set_cons_zero, List.set_cons_succ, Nat.reduceAdd, Int.reduceToNat, Int.reducePow, Int.reduceNeg, Int.reduceMul, Int.reduceAdd, Int.reduceSub, Int.reduceMod, Int.reduceDiv, Int.reduceLT, Int.reduceLE, Int.zero_mul, Int.zero_add, true_and, and_true, Nat.reduceSub, if_true, Option.some.injEq, exists_eq_left', Bool.not_true, Bool.not_false, decide_eq_true_eq, Bool.false_eq_true, if_false])
local macro_rules | `(tactic| walk_at "cks") => `(tactic| try simp only [wp_seq, wp_asg, wp_if, wp_ret, wp_retN, wp_drop, wp_fn, wp_var0, wp_varS, wp_mC, wp_m2, wp_m1, wp_nil, wp_cons, wp_args, wp_call, wp_tst, wp_and, wp_or, wp_not, wp_andV, wp_orV, wp_notV, wp_ifE, wp_chain, wp_nx, wp_brk, wp_cnt, aft_nx, aft_rt, aft_bk, aft_ct, aft_xc, fin_rt, fin_nx, fin_xc, fin_bk, fin_ct, wp_gNm, wp_gTp, wp_gsNil, wp_gsCons, wp_gSub, wp_par, wp_par3, wp_i0, wp_iC, wp_addI, wp_addT, wp_mulI, wp_neg, wp_tup, wp_lst, sz0, sz1, sz2, sz3, sz4, sz5, sz6, sz7, sz8, wp_yes, wp_ixT, wp_ixL, wp_setL, wp_isi, tyN, isi_ii, isi_ib, isi_bi, isi_bb, exists_and_left, wp_ML, wp_ML0, isLs_ref, wp_append, wp_pop, wp_tupleR, wp_tupleT, wp_listR, wp_listT, wp_all, wp_any, wp_sum, wp_notB, wp_isB, wp_isN, wp_notN, Option.isSome_some, wp_rng1, wp_rng2, wp_rng3, lsAt, lsO_lst, lsO_fro, lstO_lst, wp_lenR, lenO_lst, lenO_fro, lenO_dK, List.length_map, List.getElem?_cons_zero, List.getElem?_cons_succ, wp_eqI, wp_neI, wp_eqB, wp_neB, wp_abs, wp_intI, wp_intB, wp_max2, wp_min2, wp_lenT, wp_for, wp_ok, wp_bad, lp_nx, lp_ct, lp_bk, lp_rt, lp_xc, asBl_bl, at0, at1, at2, List.map_cons, List.map_nil, List.cons_append, List.nil_append, List.length_cons, List.length_nil, List.replicate, List.set_cons_zero, List.set_cons_succ, Nat.reduceAdd, Int.reduceToNat, Int.reducePow, Int.reduceNeg, Int.reduceMul, Int.reduceAdd, Int.reduceSub, Int.reduceMod, Int.reduceDiv, Int.reduceLT, Int.reduceLE, Int.zero_mul, Int.zero_add, true_and, and_true, Nat.reduceSub, if_true, Option.some.injEq, exists_eq_left', Bool.not_true, Bool.not_false, decide_eq_true_eq, Bool.false_eq_true, if_false, *])
local macro_rules | `(tactic| walk_at "ck1") => `(tactic| try simp only [wp_seq, wp_asg, wp_if, wp_ret, wp_retN, wp_drop, wp_fn, wp_var0, wp_varS, wp_mC, wp_m2, wp_m1, wp_nil, wp_cons, wp_args, wp_call, wp_tst, wp_and, wp_or, wp_not, wp_andV, wp_orV, wp_notV, wp_ifE, wp_chain, wp_nx, wp_brk, wp_cnt, aft_rt, aft_bk, aft_ct, aft_xc, fin_rt, fin_nx, fin_xc, fin_bk, fin_ct, wp_gNm, wp_gTp, wp_gsNil, wp_gsCons, wp_gSub, wp_par, wp_par3, wp_i0, wp_iC, wp_addI, wp_addT, wp_mulI, wp_neg, wp_tup, wp_lst, sz0, sz1, sz2, sz3, sz4, sz5, sz6, sz7, sz8, wp_yes, wp_ixT, wp_ixL, wp_setL, wp_isi, tyN, isi_ii, isi_ib, isi_bi, isi_bb, exists_and_left, wp_ML, wp_ML0, isLs_ref, wp_append, wp_pop, wp_tupleR, wp_tupleT, wp_listR, wp_listT, wp_all, wp_any, wp_sum, wp_notB, wp_isB, wp_isN, wp_notN, Option.isSome_some, wp_rng1, wp_rng2, wp_rng3, lsAt, lsO_lst, lsO_fro, lstO_lst, wp_lenR, lenO_lst, lenO_fro, lenO_dK, List.length_map, List.getElem?_cons_zero, List.getElem?_cons_succ, wp_eqI, wp_neI, wp_eqB, wp_neB, wp_abs, wp_intI, wp_intB, wp_max2, wp_min2, wp_lenT, wp_for, wp_ok, wp_bad, lp_nx, lp_ct, lp_bk, lp_rt, lp_xc, asBl_bl, at0, at1, at2, List.map_cons, List.map_nil, List.cons_append, List.nil_append, List.length_cons, List.length_nil, List.replicate, List.set_cons_zero, List.set_cons_succ, Nat.reduceAdd, Int.reduceToNat, Int.reducePow, Int.reduceNeg, Int.reduceMul, Int.reduceAdd, Int.reduceSub, Int.reduceMod, Int.reduceDiv, Int.reduceLT, Int.reduceLE, Int.zero_mul, Int.zero_add, true_and, and_true, Nat.reduceSub, if_true, Option.some.injEq, exists_eq_left', Bool.not_true, Bool.not_false, decide_eq_true_eq, Bool.false_eq_true, if_false])
def law_pot_M : List D → M D := mFn 3
 (mSeq (mAsg (mC (.int 0)) (gNm 2))
 (mSeq (mIf (mTst (m2 ltM (mVar 1) (mArgs lenM (mCons (mVar 0) mNil))))
 (mAsg (m2 modM (mArgs absM (mCons (m2 ixM (mVar 0) (mVar 1)) mNil)) (m2 powM (m2 powM (mC (.int 10)) (mC (.int 60))) (mC (.int 4)))) (gNm 2))
 mNx)
 (mRet (mArgs lstM (mCons (m2 mulM (mVar 2) (mArgs intM (mCons (m2 geM (mVar 2) (m2 powM (mC (.int 10)) (mC (.int 18)))) mNil))) (mCons (m2 modM (m2 powM (m2 addM (m2 addM (m2 modM (mVar 2) (mC (.int 2147483629))) (m2 mulM (mC (.int 7919)) (mVar 1))) (mC (.int 1))) (mC (.int 5))) (mC (.int 2147483647))) mNil))))))
def law_take_M : List D → M D := mFn 3
 (mSeq (mIf (mTst (m2 gtM (m2 ixM (mVar 0) (mC (.int 0))) (mC (.int 0))))
 (mSeq (mAsg (m2 modM (m2 ixM (mVar 0) (mC (.int 0))) (mVar 1)) (gNm 2))
 (mSeq (mAsg (m2 fdivM (m2 ixM (mVar 0) (mC (.int 0))) (mVar 1)) (gSubM (mVar 0) (mC (.int 0)) setM))
 (mRet (mVar 2))))
 mNx)
 (mSeq (mAsg (m2 modM (m2 addM (m2 mulM (m2 ixM (mVar 0) (mC (.int 1))) (mC (.int 69621))) (mC (.int 12345))) (mC (.int 2147483647))) (gSubM (mVar 0) (mC (.int 1)) setM))
 (mRet (m2 modM (m2 fdivM (m2 modM (m2 mulM (m2 ixM (mVar 0) (mC (.int 1))) (m2 ixM (mVar 0) (mC (.int 1)))) (mC (.int 2147483629))) (mC (.int 64))) (mVar 1)))))
def law_whole_M : List D → M D := mFn 1
 (mRet (mAndV (mIsi "int" (mVar 0)) (mNotV (mIsi "bool" (mVar 0)))))
def law_great_M : List D → M D := mFn 1
 (mRet (m2 addM (m2 mulM (m2 addM (m2 mulM (mCall 2 law_take_M (mCons (mVar 0) (mCons (m2 powM (mC (.int 10)) (mC (.int 6))) mNil))) (m2 powM (mC (.int 10)) (mC (.int 6)))) (mCall 2 law_take_M (mCons (mVar 0) (mCons (m2 powM (mC (.int 10)) (mC (.int 6))) mNil)))) (m2 powM (mC (.int 10)) (mC (.int 6)))) (mCall 2 law_take_M (mCons (mVar 0) (mCons (m2 powM (mC (.int 10)) (mC (.int 6))) mNil)))))
def law_pot2_M : List D → M D := mFn 3
 (mSeq (mAsg (mC (.int 0)) (gNm 2))
 (mSeq (mIf (mTst (m2 ltM (mVar 1) (mArgs lenM (mCons (mVar 0) mNil))))
 (mAsg (m2 modM (mArgs absM (mCons (m2 ixM (mVar 0) (mVar 1)) mNil)) (m2 powM (m2 powM (mC (.int 10)) (mC (.int 60))) (mC (.int 6)))) (gNm 2))
 mNx)
 (mRet (mArgs lstM (mCons (m2 mulM (mVar 2) (mArgs intM (mCons (m2 geM (mVar 2) (m2 powM (mC (.int 10)) (mC (.int 18)))) mNil))) (mCons (m2 modM (m2 powM (m2 addM (m2 addM (m2 modM (mVar 2) (mC (.int 2147483629))) (m2 mulM (mC (.int 7919)) (mVar 1))) (mC (.int 1))) (mC (.int 5))) (mC (.int 2147483647))) mNil))))))
def law_pot3_M : List D → M D := mFn 3
 (mSeq (mAsg (mC (.int 0)) (gNm 2))
 (mSeq (mIf (mTst (m2 ltM (mVar 1) (mArgs lenM (mCons (mVar 0) mNil))))
 (mAsg (m2 modM (mArgs absM (mCons (m2 ixM (mVar 0) (mVar 1)) mNil)) (m2 mulM (m2 mulM (m2 mulM (m2 powM (mC (.int 10)) (mC (.int 60))) (m2 powM (mC (.int 10)) (mC (.int 60)))) (m2 powM (mC (.int 10)) (mC (.int 60)))) (m2 powM (mC (.int 10)) (mC (.int 60))))) (gNm 2))
 mNx)
 (mRet (mArgs lstM (mCons (m2 mulM (mVar 2) (mArgs intM (mCons (m2 geM (mVar 2) (m2 powM (mC (.int 10)) (mC (.int 18)))) mNil))) (mCons (m2 modM (m2 powM (m2 addM (m2 addM (m2 modM (mVar 2) (mC (.int 2147483629))) (m2 mulM (mC (.int 7919)) (mVar 1))) (mC (.int 1))) (mC (.int 5))) (mC (.int 2147483647))) mNil))))))
def law_great2_M : List D → M D := mFn 3
 (mSeq (mAsg (mCall 2 law_take_M (mCons (mVar 0) (mCons (m2 powM (mC (.int 10)) (mC (.int 6))) mNil))) (gNm 1))
 (mSeq (mAsg (mCall 2 law_take_M (mCons (mVar 0) (mCons (m2 powM (mC (.int 10)) (mC (.int 6))) mNil))) (gNm 2))
 (mRet (mArgs minM (mCons (m2 powM (mC (.int 10)) (mC (.int 18))) (mCons (m2 addM (m2 mulM (m2 addM (m2 mulM (mCall 2 law_take_M (mCons (mVar 0) (mCons (m2 addM (m2 powM (mC (.int 10)) (mC (.int 6))) (mC (.int 1))) mNil))) (m2 powM (mC (.int 10)) (mC (.int 6)))) (mVar 2)) (m2 powM (mC (.int 10)) (mC (.int 6)))) (mVar 1)) mNil))))))

def pot (a b : Int) : O := .lst [.int a, .int b]
structure PotOk (a b : Int) : Prop where
  a0 : 0 ≤ a
  a1 : a < 2 ^ 1300
  b0 : 0 ≤ b
  b1 : b < 2147483647
def PotAt (S : Store) (p : Nat) : Prop := ∃ a b, S[p]? = some (pot a b) ∧ PotOk a b
theorem cmul_of {i j : Int} (h1 : -(2 ^ 4000) < i) (h2 : i < 2 ^ 4000) (h3 : -(2 ^ 4000) < j) (h4 : j < 2 ^ 4000) : CMulX i j :=
  mulx_ok (a := 4000) (b := 4000) (by omega) (by omega) (by decide)
theorem big200 : (2 : Int) ^ 200 < 2 ^ 4000 := by decide +kernel
theorem cmul_s {i j : Int} (h1 : -(2 ^ 200) < i) (h2 : i < 2 ^ 200) (h3 : -(2 ^ 200) < j) (h4 : j < 2 ^ 200) : CMulX i j :=
  mulx_ok (a := 200) (b := 200) (by omega) (by omega) (by decide)
theorem cdiv_s {i j : Int} (h1 : 0 < j) (h2 : j < 2 ^ 200) : CDivW i j := wide_div (b := 200) h1 (by omega) (by decide) (by decide)
theorem cdiv_of {i j : Int} (h1 : 0 < j) (h2 : j < 2 ^ 4000) : CDivW i j := wide_div (b := 4000) h1 (by omega) (by decide) (by decide)
theorem take_spec {S : Store} {p : Nat} {n : Int} {E : Exn → Store → Prop} (h : PotAt S p) (h1 : 0 < n) (h2 : n < 2 ^ 4000) :
    wp (law_take_M [.ref p, .int n] S) (fun d S' => ∃ r, d = .int r ∧ 0 ≤ r ∧ r < n ∧ ∃ a b, S' = S.set p (pot a b) ∧ PotOk a b) E := by
  obtain ⟨a, b, hS, hp⟩ := h
  have hl : p < S.length := (List.getElem?_eq_some_iff.mp hS).1
  have e1 : (1 : Int) = ((1 : Nat) : Int) := rfl
  have k0 : ixN 2 0 = some 0 := by decide
  have k1 : ixN 2 1 = some 1 := by decide
  have hpos : ∀ x : Int, 0 ≤ x % n ∧ x % n < n := fun x => ⟨Int.emod_nonneg x (by omega), Int.emod_lt_of_pos x h1⟩
  unfold law_take_M
  simp only [pot] at hS
  walk_at "ck"
  simp only [hS, lsO, lstO, Option.some.injEq, exists_eq_left', exists_and_left, at0, at1, wp_i0, asBl_bl, decide_eq_true_eq, List.length_cons, List.length_nil, Nat.reduceAdd, k0, k1, wp_iC, List.set_cons_zero, List.set_cons_succ, List.getElem?_set_self hl, wp_mulI, wp_addI]
  by_cases ha : 0 < a
  · rw [if_pos ha]
    refine ⟨h1, cdiv_of h1 h2, a % n, rfl, (hpos a).1, (hpos a).2, a / n, b, rfl, ?_⟩
    have q1 : a / n ≤ a := Int.ediv_le_self n hp.a0
    have q0 : 0 ≤ a / n := Int.ediv_nonneg hp.a0 (by omega)
    have := hp.a1
    exact ⟨q0, by omega, hp.b0, hp.b1⟩
  · rw [if_neg ha]
    have hb0 := hp.b0
    have hb1 := hp.b1
    have m0 : 0 ≤ (b * 69621 + 12345) % 2147483647 := Int.emod_nonneg _ (by decide)
    have m1 : (b * 69621 + 12345) % 2147483647 < 2147483647 := Int.emod_lt_of_pos _ (by decide)
    generalize (b * 69621 + 12345) % 2147483647 = c at m0 m1
    refine ⟨cmul_of (by omega) (by omega) (by omega) (by omega), by decide, cmul_of (by omega) (by omega) (by omega) (by omega), by decide, cdiv_of (by decide) (by decide), h1, _, rfl, (hpos _).1, (hpos _).2, a, c, rfl, hp.a0, hp.a1, m0, m1⟩
theorem PotAt.set {S : Store} {p : Nat} {a b : Int} (h : PotAt S p) (ok : PotOk a b) : PotAt (S.set p (pot a b)) p := by
  obtain ⟨a', b', h1, _⟩ := h
  exact ⟨a, b, List.getElem?_set_self (List.getElem?_eq_some_iff.mp h1).1, ok⟩

structure Kp (p : Nat) (S S' : Store) : Prop where
  pt : PotAt S' p
  kp : ∀ (i : Nat) (o : O), i ≠ p → S[i]? = some o → S'[i]? = some o
  ln : S.length ≤ S'.length
theorem Kp.refl {p : Nat} {S : Store} (h : PotAt S p) : Kp p S S := ⟨h, fun _ _ _ h => h, Nat.le_refl _⟩
theorem Kp.trans {p : Nat} {S S1 S2 : Store} (a : Kp p S S1) (b : Kp p S1 S2) : Kp p S S2 := ⟨b.pt, fun i o hi h => b.kp i o hi (a.kp i o hi h), Nat.le_trans a.ln b.ln⟩

theorem take_ok {S : Store} {p : Nat} {n : Int} {E : Exn → Store → Prop} {Q : D → Store → Prop} (h : PotAt S p) (h1 : 0 < n) (h2 : n < 2 ^ 200) (q : ∀ r S', 0 ≤ r → r < n → Kp p S S' → S'.length = S.length → Q (.int r) S') :
    wp (law_take_M [.ref p, .int n] S) Q E := by
  refine wp_mono (take_spec h h1 (Int.lt_trans h2 big200)) fun d S' hd => ?_
  obtain ⟨r, rfl, r0, r1, a, b, rfl, ok⟩ := hd
  refine q r _ r0 r1 ⟨h.set ok, fun i o hi e => ?_, by simp⟩ (by simp)
  rw [List.getElem?_set_ne (fun z => hi z.symm)]; exact e
theorem whole_ok {S : Store} {E : Exn → Store → Prop} {Q : D → Store → Prop} {i : Int} (q : Q (.bl true) S) : wp (law_whole_M [.int i] S) Q E := by
  unfold law_whole_M
  walk_at "ck"
  exact q
theorem cp6 : CPowX 10 6 := by decide +kernel
theorem cp18 : CPowX 10 18 := by decide +kernel
theorem cp60 : CPowX 10 60 := by decide +kernel
theorem two_size : 2 ≤ sizeLine := by rw [sizeLine_eq]; omega
theorem at_of' {α : Type} {xs : List α} {z : Int} {j : Nat} {v : α} (e : z = (j : Int)) (h : xs[j]? = some v) : atI xs z = some v := by
  rw [e]; exact atI_nat h
theorem pot_ok {S : Store} {E : Exn → Store → Prop} {Q : D → Store → Prop} {s : Nat} {k : Int} {ns : List Int} (h : S[s]? = some (.fro (ns.map D.int))) (h0 : 0 ≤ k) (h1 : k < 1000) (q : ∀ a b, PotOk a b → Q (.ref S.length) (S ++ [pot a b])) :
    wp (law_pot_M [.ref s, .int k] S) Q E := by
  have p5 : ∀ c : Int, 0 ≤ c → c < 2147483629 + 7919 * 1000 + 1 → CPowX c 5 := fun c h0 h1 => by
    refine ⟨by decide, ?_⟩
    have : Builtin.Int.intBits c ≤ 40 := PyProof.Rows.intBits_le (by omega)
    omega
  have m31 : ∀ c : Int, 0 ≤ c % 2147483647 ∧ c % 2147483647 < 2147483647 := fun c => ⟨Int.emod_nonneg _ (by decide), Int.emod_lt_of_pos _ (by decide)⟩
  unfold law_pot_M
  walk_at "ck"
  simp only [h]
  walk_at "ck"
  simp only [cp18, cp60, two_size, true_and]
  split
  · rename_i hk
    have hk' : k.toNat < ns.length := by omega
    refine ⟨.int ns[k.toNat], at_of' (show k = (k.toNat : Int) by omega) (by rw [List.getElem?_map, List.getElem?_eq_getElem hk']; rfl), ?_⟩
    walk_at "ck"
    generalize hx : (if ns[k.toNat] < 0 then -ns[k.toNat] else ns[k.toNat]) = x
    have c0 : 0 ≤ x % 1000000000000000000000000000000000000000000000000000000000000000000000000000000000000000000000000000000000000000000000000000000000000000000000000000000000000000000000000000000000000000000000000000000000000000000000000000000000000000000000000 := Int.emod_nonneg _ (by decide)
    have c1 : x % 1000000000000000000000000000000000000000000000000000000000000000000000000000000000000000000000000000000000000000000000000000000000000000000000000000000000000000000000000000000000000000000000000000000000000000000000000000000000000000000000000 < 1000000000000000000000000000000000000000000000000000000000000000000000000000000000000000000000000000000000000000000000000000000000000000000000000000000000000000000000000000000000000000000000000000000000000000000000000000000000000000000000000 := Int.emod_lt_of_pos _ (by decide)
    generalize x % 1000000000000000000000000000000000000000000000000000000000000000000000000000000000000000000000000000000000000000000000000000000000000000000000000000000000000000000000000000000000000000000000000000000000000000000000000000000000000000000000000 = c at c0 c1
    have d0 : 0 ≤ c % 2147483629 := Int.emod_nonneg _ (by decide)
    have d1 : c % 2147483629 < 2147483629 := Int.emod_lt_of_pos _ (by decide)
    have big : (1000000000000000000000000000000000000000000000000000000000000000000000000000000000000000000000000000000000000000000000000000000000000000000000000000000000000000000000000000000000000000000000000000000000000000000000000000000000000000000000000 : Int) < 2 ^ 1300 := by decide +kernel
    have big2 : (2 : Int) ^ 1300 < 2 ^ 4000 := by decide +kernel
    have one : ∀ b : Bool, 0 ≤ (if b = true then (1 : Int) else 0) ∧ (if b = true then (1 : Int) else 0) ≤ 1 := fun b => by cases b <;> decide
    refine ⟨by decide +kernel, cmul_of (by omega) (by omega) (by have := (one (decide (1000000000000000000 ≤ c))); omega) (by have := (one (decide (1000000000000000000 ≤ c))); omega), cmul_of (by omega) (by omega) (by omega) (by omega), p5 _ (by omega) (by omega), q _ _ ⟨?_, ?_, (m31 _).1, (m31 _).2⟩⟩
    · split <;> omega
    · split <;> omega
  · refine ⟨by decide +kernel, cmul_of (by omega) (by omega) (by omega) (by omega), p5 _ (by omega) (by omega), q 0 _ ⟨by decide, by decide, (m31 _).1, (m31 _).2⟩⟩
theorem pot2_ok {S : Store} {E : Exn → Store → Prop} {Q : D → Store → Prop} {s : Nat} {k : Int} {ns : List Int} (h : S[s]? = some (.fro (ns.map D.int))) (h0 : 0 ≤ k) (h1 : k < 1000) (q : ∀ a b, PotOk a b → Q (.ref S.length) (S ++ [pot a b])) :
    wp (law_pot2_M [.ref s, .int k] S) Q E := by
  have p5 : ∀ c : Int, 0 ≤ c → c < 2147483629 + 7919 * 1000 + 1 → CPowX c 5 := fun c h0 h1 => by
    refine ⟨by decide, ?_⟩
    have : Builtin.Int.intBits c ≤ 40 := PyProof.Rows.intBits_le (by omega)
    omega
  have m31 : ∀ c : Int, 0 ≤ c % 2147483647 ∧ c % 2147483647 < 2147483647 := fun c => ⟨Int.emod_nonneg _ (by decide), Int.emod_lt_of_pos _ (by decide)⟩
  unfold law_pot2_M
  walk_at "ck"
  simp only [h]
  walk_at "ck"
  simp only [cp18, cp60, two_size, true_and]
  split
  · rename_i hk
    have hk' : k.toNat < ns.length := by omega
    refine ⟨.int ns[k.toNat], at_of' (show k = (k.toNat : Int) by omega) (by rw [List.getElem?_map, List.getElem?_eq_getElem hk']; rfl), ?_⟩
    walk_at "ck"
    generalize hx : (if ns[k.toNat] < 0 then -ns[k.toNat] else ns[k.toNat]) = x
    have c0 : 0 ≤ x % 1000000000000000000000000000000000000000000000000000000000000000000000000000000000000000000000000000000000000000000000000000000000000000000000000000000000000000000000000000000000000000000000000000000000000000000000000000000000000000000000000000000000000000000000000000000000000000000000000000000000000000000000000000000000000000000000000000000000000000000000000 := Int.emod_nonneg _ (by decide)
    have c1 : x % 1000000000000000000000000000000000000000000000000000000000000000000000000000000000000000000000000000000000000000000000000000000000000000000000000000000000000000000000000000000000000000000000000000000000000000000000000000000000000000000000000000000000000000000000000000000000000000000000000000000000000000000000000000000000000000000000000000000000000000000000000 < 1000000000000000000000000000000000000000000000000000000000000000000000000000000000000000000000000000000000000000000000000000000000000000000000000000000000000000000000000000000000000000000000000000000000000000000000000000000000000000000000000000000000000000000000000000000000000000000000000000000000000000000000000000000000000000000000000000000000000000000000000 := Int.emod_lt_of_pos _ (by decide)
    generalize x % 1000000000000000000000000000000000000000000000000000000000000000000000000000000000000000000000000000000000000000000000000000000000000000000000000000000000000000000000000000000000000000000000000000000000000000000000000000000000000000000000000000000000000000000000000000000000000000000000000000000000000000000000000000000000000000000000000000000000000000000000000 = c at c0 c1
    have d0 : 0 ≤ c % 2147483629 := Int.emod_nonneg _ (by decide)
    have d1 : c % 2147483629 < 2147483629 := Int.emod_lt_of_pos _ (by decide)
    have big : (1000000000000000000000000000000000000000000000000000000000000000000000000000000000000000000000000000000000000000000000000000000000000000000000000000000000000000000000000000000000000000000000000000000000000000000000000000000000000000000000000000000000000000000000000000000000000000000000000000000000000000000000000000000000000000000000000000000000000000000000000 : Int) < 2 ^ 1300 := by decide +kernel
    have big2 : (2 : Int) ^ 1300 < 2 ^ 4000 := by decide +kernel
    have one : ∀ b : Bool, 0 ≤ (if b = true then (1 : Int) else 0) ∧ (if b = true then (1 : Int) else 0) ≤ 1 := fun b => by cases b <;> decide
    refine ⟨by decide +kernel, cmul_of (by omega) (by omega) (by have := (one (decide (1000000000000000000 ≤ c))); omega) (by have := (one (decide (1000000000000000000 ≤ c))); omega), cmul_of (by omega) (by omega) (by omega) (by omega), p5 _ (by omega) (by omega), q _ _ ⟨?_, ?_, (m31 _).1, (m31 _).2⟩⟩
    · split <;> omega
    · split <;> omega
  · refine ⟨by decide +kernel, cmul_of (by omega) (by omega) (by omega) (by omega), p5 _ (by omega) (by omega), q 0 _ ⟨by decide, by decide, (m31 _).1, (m31 _).2⟩⟩
theorem pot3_ok {S : Store} {E : Exn → Store → Prop} {Q : D → Store → Prop} {s : Nat} {k : Int} {ns : List Int} (h : S[s]? = some (.fro (ns.map D.int))) (h0 : 0 ≤ k) (h1 : k < 1000) (q : ∀ a b, PotOk a b → Q (.ref S.length) (S ++ [pot a b])) :
    wp (law_pot3_M [.ref s, .int k] S) Q E := by
  have p5 : ∀ c : Int, 0 ≤ c → c < 2147483629 + 7919 * 1000 + 1 → CPowX c 5 := fun c h0 h1 => by
    refine ⟨by decide, ?_⟩
    have : Builtin.Int.intBits c ≤ 40 := PyProof.Rows.intBits_le (by omega)
    omega
  have m31 : ∀ c : Int, 0 ≤ c % 2147483647 ∧ c % 2147483647 < 2147483647 := fun c => ⟨Int.emod_nonneg _ (by decide), Int.emod_lt_of_pos _ (by decide)⟩
  unfold law_pot3_M
  walk_at "ck"
  simp only [h]
  walk_at "ck"
  simp only [cp18, cp60, two_size, true_and]
  split
  · rename_i hk
    have hk' : k.toNat < ns.length := by omega
    refine ⟨.int ns[k.toNat], at_of' (show k = (k.toNat : Int) by omega) (by rw [List.getElem?_map, List.getElem?_eq_getElem hk']; rfl), ?_⟩
    walk_at "ck"
    generalize hx : (if ns[k.toNat] < 0 then -ns[k.toNat] else ns[k.toNat]) = x
    have c0 : 0 ≤ x % 1000000000000000000000000000000000000000000000000000000000000000000000000000000000000000000000000000000000000000000000000000000000000000000000000000000000000000000000000000000000000000000000000000000000000000000000000000000000000000000000000 := Int.emod_nonneg _ (by decide)
    have c1 : x % 1000000000000000000000000000000000000000000000000000000000000000000000000000000000000000000000000000000000000000000000000000000000000000000000000000000000000000000000000000000000000000000000000000000000000000000000000000000000000000000000000 < 1000000000000000000000000000000000000000000000000000000000000000000000000000000000000000000000000000000000000000000000000000000000000000000000000000000000000000000000000000000000000000000000000000000000000000000000000000000000000000000000000 := Int.emod_lt_of_pos _ (by decide)
    generalize x % 1000000000000000000000000000000000000000000000000000000000000000000000000000000000000000000000000000000000000000000000000000000000000000000000000000000000000000000000000000000000000000000000000000000000000000000000000000000000000000000000000 = c at c0 c1
    have d0 : 0 ≤ c % 2147483629 := Int.emod_nonneg _ (by decide)
    have d1 : c % 2147483629 < 2147483629 := Int.emod_lt_of_pos _ (by decide)
    have big : (1000000000000000000000000000000000000000000000000000000000000000000000000000000000000000000000000000000000000000000000000000000000000000000000000000000000000000000000000000000000000000000000000000000000000000000000000000000000000000000000000 : Int) < 2 ^ 1300 := by decide +kernel
    have big2 : (2 : Int) ^ 1300 < 2 ^ 4000 := by decide +kernel
    have one : ∀ b : Bool, 0 ≤ (if b = true then (1 : Int) else 0) ∧ (if b = true then (1 : Int) else 0) ≤ 1 := fun b => by cases b <;> decide
    refine ⟨by decide +kernel, by decide +kernel, by decide +kernel, cmul_of (by omega) (by omega) (by have := (one (decide (1000000000000000000 ≤ c))); omega) (by have := (one (decide (1000000000000000000 ≤ c))); omega), cmul_of (by omega) (by omega) (by omega) (by omega), p5 _ (by omega) (by omega), q _ _ ⟨?_, ?_, (m31 _).1, (m31 _).2⟩⟩
    · split <;> omega
    · split <;> omega
  · refine ⟨by decide +kernel, cmul_of (by omega) (by omega) (by omega) (by omega), p5 _ (by omega) (by omega), q 0 _ ⟨by decide, by decide, (m31 _).1, (m31 _).2⟩⟩
theorem ls_of {S : Store} {k : Nat} {xs : List D} (h : S[k]? = some (.lst xs)) : lsAt S k = some xs := by unfold lsAt; rw [h]; rfl
theorem get_new {S : Store} {o : O} : (S ++ [o])[S.length]? = some o := by simp
theorem get_old {S T : Store} {k : Nat} {o : O} (h : S[k]? = some o) : (S ++ T)[k]? = some o := by
  rw [List.getElem?_append_left (List.getElem?_eq_some_iff.mp h).1]; exact h
theorem get_lt {α : Type} {l : List α} {i : Nat} {x : α} (h : l[i]? = some x) : i < l.length := (List.getElem?_eq_some_iff.mp h).1
theorem PotAt.app {S T : Store} {p : Nat} (h : PotAt S p) : PotAt (S ++ T) p := let ⟨a, b, h1, h2⟩ := h; ⟨a, b, get_old h1, h2⟩
theorem PotAt.lt {S : Store} {p : Nat} (h : PotAt S p) : p < S.length := let ⟨_, _, h1, _⟩ := h; get_lt h1
theorem PotAt.setNe {S : Store} {p k : Nat} {o : O} (h : PotAt S p) (hk : k ≠ p) : PotAt (S.set k o) p := let ⟨a, b, h1, h2⟩ := h; ⟨a, b, by rw [List.getElem?_set_ne hk]; exact h1, h2⟩
theorem Kp.app {p : Nat} {S S' T : Store} (h : Kp p S S') : Kp p S (S' ++ T) := ⟨h.pt.app, fun i o hi e => get_old (h.kp i o hi e), by rw [List.length_append]; have := h.ln; omega⟩

theorem lc_draw {S : Store} {w n p j : Nat} {lo : Int} {me : Env' → M D} {r : Env'} {QU : Unit → Store → Prop} (P : D → Prop) (hp : p = S.length) (hw : PotAt S w) (hn : n ≤ 1000)
    (step : ∀ (i : Nat) (T : Store), i < n → Kp w S T → wp (me (r.set j (some (.int (lo + i)))) T) (fun y T' => P y ∧ Kp w T T' ∧ T'.length = T.length) E0')
    (q : ∀ (xs : List D) (T : Store), xs.length = n → (∀ x ∈ xs, P x) → T[p]? = some (.lst xs) → Kp w S T → T.length = S.length + 1 → QU () T) :
    wp (lcGo (srcR lo n) (gNm j) mYes me p r FU 0 (S ++ [.lst []])) QU E0' := by
  have hwp : w ≠ p := by rw [hp]; exact Nat.ne_of_lt hw.lt
  refine wp_lcGo (len := n) (it := fun i => .int (lo + i)) (fun i acc T => acc.length = i ∧ (∀ x ∈ acc, P x) ∧ Kp w S T ∧ T.length = S.length + 1) (fun i acc T hi _ => by unfold srcR; rw [if_pos hi]) (fun acc T _ => by unfold srcR; rw [if_neg (Nat.lt_irrefl _)])
    (fun i acc T hi hT hI => ?_) (fun acc T hT hI => q acc T hI.1 hI.2.1 hT hI.2.2.1 hI.2.2.2) FU 0 [] _ (by unfold FU; omega) (Nat.zero_le _) (by rw [hp]; exact get_new) ⟨rfl, (fun x h => by cases h), ⟨hw.app, fun i o _ e => get_old e, by rw [List.length_append]; omega⟩, by rw [List.length_append]; rfl⟩
  obtain ⟨ha, hP, hK, hL⟩ := hI
  unfold lcT
  rw [wp_gNm]
  unfold mYes
  simp only [wp_ok, if_true]
  refine wp_mono (step i T hi hK) fun y T' ⟨h1, h2, h3⟩ => ?_
  refine ⟨h2.kp p _ hwp.symm hT, ?_, ?_, fun x hx => ?_, ?_, by rw [List.length_set, h3, hL]⟩
  · rw [ha, sizeLine_eq]; omega
  · rw [List.length_append, ha]; rfl
  · rcases List.mem_append.mp hx with hx | hx
    · exact hP x hx
    · simp at hx; rw [hx]; exact h1
  · refine ⟨h2.pt.setNe hwp.symm, fun k o hk e => ?_, by rw [List.length_set, h3, hL]; omega⟩
    have hkp : p ≠ k := by have := get_lt e; omega
    rw [List.getElem?_set_ne hkp]
    exact h2.kp k o hk (hK.kp k o hk e)
end Lib
end CK
end

section
set_option Elab.async false
set_option linter.all false
set_option exponentiation.threshold 100000
set_option maxRecDepth 100000
set_option maxHeartbeats 4000000
namespace CK
namespace Lib
open PySem PySem.Spec PyProof.Rows L2
local macro_rules | `(tactic| walk_at "ck") => `(tactic| try simp only [wp_seq, wp_asg, wp_if, wp_ret, wp_retN, wp_drop, wp_fn, wp_var0, wp_varS, wp_mC, wp_m2, wp_m1, wp_nil, wp_cons, wp_args, wp_call, wp_tst, wp_and, wp_or, wp_not, wp_andV, wp_orV, wp_notV, wp_ifE, wp_chain, wp_nx, wp_brk, wp_cnt, aft_nx, aft_rt, aft_bk, aft_ct, aft_xc, fin_rt, fin_nx, fin_xc, fin_bk, fin_ct, wp_gNm, wp_gTp, wp_gsNil, wp_gsCons, wp_gSub, wp_par, wp_par3, wp_i0, wp_iC, wp_addI, wp_addT, wp_mulI, wp_neg, wp_tup, wp_lst, sz0, sz1, sz2, sz3, sz4, sz5, sz6, sz7, sz8, wp_yes, wp_ixT, wp_ixL, wp_setL, wp_isi, tyN, isi_ii, isi_ib, isi_bi, isi_bb, isi_nb, isi_ni, isi_ns, isi_nt, isi_nl, isi_nd, isi_bs, isi_bt, isi_bl, isi_bd, isi_is, isi_it, isi_il, isi_id, isi_sb, isi_si, isi_ss, isi_st, isi_sl, isi_sd, isi_tb, isi_ti, isi_ts, isi_tt, isi_tl, isi_td, isi_lb, isi_li, isi_ls, isi_lt, isi_ll, isi_ld, isi_db, isi_di, isi_ds, isi_dt, isi_dl, isi_dd, wp_slice, wp_noPart, wp_part, asInt_int, wp_slT, wp_slL, wp_mulT, exists_and_left, wp_ML, wp_ML0, isLs_ref, wp_append, wp_pop, wp_tupleR, wp_tupleT, wp_listR, wp_listT, wp_all, wp_any, wp_sum, wp_notB, wp_isB, wp_isN, wp_notN, Option.isSome_some, wp_rng1, wp_rng2, wp_rng3, lsAt, lsO_lst, lsO_fro, lstO_lst, wp_lenR, lenO_lst, lenO_fro, lenO_dK, List.length_map, List.getElem?_cons_zero, List.getElem?_cons_succ, wp_eqI, wp_neI, wp_eqB, wp_neB, wp_abs, wp_intI, wp_intB, wp_max2, wp_min2, wp_lenT, wp_for, wp_ok, wp_bad, lp_nx, lp_ct, lp_bk, lp_rt, lp_xc, asBl_bl, at0, at1, at2, List.map_cons, List.map_nil, List.cons_append, List.nil_append, List.length_cons, List.length_nil, List.replicate, List.set_cons_zero, List.set_cons_succ, Nat.reduceAdd, Int.reduceToNat, Int.reducePow, Int.reduceNeg, Int.reduceMul, Int.reduceAdd, Int.reduceSub, Int.reduceMod, Int.reduceDiv, Int.reduceLT, Int.reduceLE, Int.zero_mul, Int.zero_add, true_and, and_true, Nat.reduceSub, if_true, Option.some.injEq, exists_eq_left', Bool.not_true, Bool.not_false, decide_eq_true_eq, Bool.false_eq_true, if_false])
local macro_rules | `(tactic| walk_at "cks") => `(tactic| try simp only [wp_seq, wp_asg, wp_if, wp_ret, wp_retN, wp_drop, wp_fn, wp_var0, wp_varS, wp_mC, wp_m2, wp_m1, wp_nil, wp_cons, wp_args, wp_call, wp_tst, wp_and, wp_or, wp_not, wp_andV, wp_orV, wp_notV, wp_ifE, wp_chain, wp_nx, wp_brk, wp_cnt, aft_nx, aft_rt, aft_bk, aft_ct, aft_xc, fin_rt, fin_nx, fin_xc, fin_bk, fin_ct, wp_gNm, wp_gTp, wp_gsNil, wp_gsCons, wp_gSub, wp_par, wp_par3, wp_i0, wp_iC, wp_addI, wp_addT, wp_mulI, wp_neg, wp_tup, wp_lst, sz0, sz1, sz2, sz3, sz4, sz5, sz6, sz7, sz8, wp_yes, wp_ixT, wp_ixL, wp_setL, wp_isi, tyN, isi_ii, isi_ib, isi_bi, isi_bb, isi_nb, isi_ni, isi_ns, isi_nt, isi_nl, isi_nd, isi_bs, isi_bt, isi_bl, isi_bd, isi_is, isi_it, isi_il, isi_id, isi_sb, isi_si, isi_ss, isi_st, isi_sl, isi_sd, isi_tb, isi_ti, isi_ts, isi_tt, isi_tl, isi_td, isi_lb, isi_li, isi_ls, isi_lt, isi_ll, isi_ld, isi_db, isi_di, isi_ds, isi_dt, isi_dl, isi_dd, wp_slice, wp_noPart, wp_part, asInt_int, wp_slT, wp_slL, wp_mulT, exists_and_left, wp_ML, wp_ML0, isLs_ref, wp_append, wp_pop, wp_tupleR, wp_tupleT, wp_listR, wp_listT, wp_all, wp_any, wp_sum, wp_notB, wp_isB, wp_isN, wp_notN, Option.isSome_some, wp_rng1, wp_rng2, wp_rng3, lsAt, lsO_lst, lsO_fro, lstO_lst, wp_lenR, lenO_lst, lenO_fro, lenO_dK, List.length_map, List.getElem?_cons_zero, List.getElem?_cons_succ, wp_eqI, wp_neI, wp_eqB, wp_neB, wp_abs, wp_intI, wp_intB, wp_max2, wp_min2, wp_lenT, wp_for, wp_ok, wp_bad, lp_nx, lp_ct, lp_bk, lp_rt, lp_xc, asBl_bl, at0, at1, at2, List.map_cons, List.map_nil, List.cons_append, List.nil_append, List.length_cons, List.length_nil, List.replicate, List.set_cons_zero, List.set_cons_succ, Nat.reduceAdd, Int.reduceToNat, Int.reducePow, Int.reduceNeg, Int.reduceMul, Int.reduceAdd, Int.reduceSub, Int.reduceMod, Int.reduceDiv, Int.reduceLT, Int.reduceLE, Int.zero_mul, Int.zero_add, true_and, and_true, Nat.reduceSub, if_true, Option.some.injEq, exists_eq_left', Bool.not_true, Bool.not_false, decide_eq_true_eq, Bool.false_eq_true, if_false, *])
local macro_rules | `(tactic| walk_at "ck1") => `(tactic| try simp only [wp_seq, wp_asg, wp_if, wp_ret, wp_retN, wp_drop, wp_fn, wp_var0, wp_varS, wp_mC, wp_m2, wp_m1, wp_nil, wp_cons, wp_args, wp_call, wp_tst, wp_and, wp_or, wp_not, wp_andV, wp_orV, wp_notV, wp_ifE, wp_chain, wp_nx, wp_brk, wp_cnt, aft_rt, aft_bk, aft_ct, aft_xc, fin_rt, fin_nx, fin_xc, fin_bk, fin_ct, wp_gNm, wp_gTp, wp_gsNil, wp_gsCons, wp_gSub, wp_par, wp_par3, wp_i0, wp_iC, wp_addI, wp_addT, wp_mulI, wp_neg, wp_tup, wp_lst, sz0, sz1, sz2, sz3, sz4, sz5, sz6, sz7, sz8, wp_yes, wp_ixT, wp_ixL, wp_setL, wp_isi, tyN, isi_ii, isi_ib, isi_bi, isi_bb, isi_nb, isi_ni, isi_ns, isi_nt, isi_nl, isi_nd, isi_bs, isi_bt, isi_bl, isi_bd, isi_is, isi_it, isi_il, isi_id, isi_sb, isi_si, isi_ss, isi_st, isi_sl, isi_sd, isi_tb, isi_ti, isi_ts, isi_tt, isi_tl, isi_td, isi_lb, isi_li, isi_ls, isi_lt, isi_ll, isi_ld, isi_db, isi_di, isi_ds, isi_dt, isi_dl, isi_dd, wp_slice, wp_noPart, wp_part, asInt_int, wp_slT, wp_slL, wp_mulT, exists_and_left, wp_ML, wp_ML0, isLs_ref, wp_append, wp_pop, wp_tupleR, wp_tupleT, wp_listR, wp_listT, wp_all, wp_any, wp_sum, wp_notB, wp_isB, wp_isN, wp_notN, Option.isSome_some, wp_rng1, wp_rng2, wp_rng3, lsAt, lsO_lst, lsO_fro, lstO_lst, wp_lenR, lenO_lst, lenO_fro, lenO_dK, List.length_map, List.getElem?_cons_zero, List.getElem?_cons_succ, wp_eqI, wp_neI, wp_eqB, wp_neB, wp_abs, wp_intI, wp_intB, wp_max2, wp_min2, wp_lenT, wp_for, wp_ok, wp_bad, lp_nx, lp_ct, lp_bk, lp_rt, lp_xc, asBl_bl, at0, at1, at2, List.map_cons, List.map_nil, List.cons_append, List.nil_append, List.length_cons, List.length_nil, List.replicate, List.set_cons_zero, List.set_cons_succ, Nat.reduceAdd, Int.reduceToNat, Int.reducePow, Int.reduceNeg, Int.reduceMul, Int.reduceAdd, Int.reduceSub, Int.reduceMod, Int.reduceDiv, Int.reduceLT, Int.reduceLE, Int.zero_mul, Int.zero_add, true_and, and_true, Nat.reduceSub, if_true, Option.some.injEq, exists_eq_left', Bool.not_true, Bool.not_false, decide_eq_true_eq, Bool.false_eq_true, if_false])
def law_is_prime_M : List D → M D := mFn 3
 (mSeq (mAsg (mLc (mRng2 (mCons (mC (.int 2)) (mCons (mC (.int 102)) mNil))) (gNm 2) (mTst (m2 leM (m2 mulM (mVar 2) (mVar 2)) (mVar 0))) (mVar 2) [2]) (gNm 1))
 (mRet (mAndV (m2 gtM (mVar 0) (mC (.int 1))) (mArgs allM (mCons (mLc (mSrc (mVar 1)) (gNm 2) mYes (m2 gtM (m2 modM (mVar 0) (mVar 2)) (mC (.int 0))) [2]) mNil)))))
def law_prime_M : List D → M D := mFn 2
 (mSeq (mFor (mRng3 (mCons (mVar 0) (mCons (mC (.int 1)) (mCons (m1 negM (mC (.int 1))) mNil)))) (gNm 1)
 (mIf (mTst (mCall 1 law_is_prime_M (mCons (mVar 1) mNil)))
 (mRet (mVar 1))
 mNx))
 (mRet (mC (.int 2))))
def is_number_M : List D → M D := mFn 1
 (mRet (mAndV (mIsi "int" (mVar 0)) (mNotV (mIsi "bool" (mVar 0)))))
def is_prime_M : List D → M D := mFn 2
 (mSeq (mIf (mOr (mTst (m2 ltM (mVar 0) (mC (.int 2)))) (mTst (m2 geM (mVar 0) (mC (.int 10000)))))
 (mRet (mC (.bl false)))
 mNx)
 (mSeq (mAsg (mC (.int 2)) (gNm 1))
 (mSeq (mWhile (mTst (m2 leM (m2 mulM (mVar 1) (mVar 1)) (mVar 0)))
 (mSeq (mIf (mTst (m2 eqM (m2 modM (mVar 0) (mVar 1)) (mC (.int 0))))
 (mRet (mC (.bl false)))
 mNx)
 (mAsg (m2 addM (mVar 1) (mC (.int 1))) (gNm 1))))
 (mRet (mC (.bl true))))))

theorem map_get {ps : List Int} {i : Nat} {x : D} (h : (ps.map D.int)[i]? = some x) : ∃ q, ps[i]? = some q ∧ x = .int q := by
  rw [List.getElem?_map] at h
  cases q : ps[i]? with
  | none => rw [q] at h; cases h
  | some z => rw [q] at h; cases h; exact ⟨z, rfl, rfl⟩

def isP (n : Int) : Bool := decide (1 < n) && (List.range 100).all fun i => !(decide ((2 + (i : Int)) * (2 + i) ≤ n)) || decide (0 < n % (2 + i))
theorem isP_true {n : Int} : isP n = true ↔ 1 < n ∧ ∀ i : Nat, i < 100 → (2 + (i : Int)) * (2 + i) ≤ n → 0 < n % (2 + i) := by
  unfold isP
  rw [Bool.and_eq_true, List.all_eq_true, decide_eq_true_eq]
  constructor
  · rintro ⟨h1, h2⟩
    refine ⟨h1, fun i hi hq => ?_⟩
    have := h2 i (List.mem_range.mpr hi)
    rw [Bool.or_eq_true, decide_eq_true_eq] at this
    rcases this with h | h
    · rw [decide_eq_true hq] at h; cases h
    · exact h
  · rintro ⟨h1, h2⟩
    refine ⟨h1, fun i hi => ?_⟩
    rw [Bool.or_eq_true, decide_eq_true_eq]
    by_cases hq : (2 + (i : Int)) * (2 + i) ≤ n
    · exact .inr (h2 i (List.mem_range.mp hi) hq)
    · rw [decide_eq_false hq]; exact .inl rfl
theorem isP_false {n : Int} {i : Nat} (hi : i < 100) (h : (2 + (i : Int)) * (2 + i) ≤ n) (h2 : n % (2 + i) = 0) : isP n = false := by
  cases q : isP n with
  | false => rfl
  | true => have := (isP_true.mp q).2 i hi h; omega
theorem law_is_prime_ok {S : Store} {n : Int} {E : Exn → Store → Prop} {Q : D → Store → Prop} (q : ∀ G, Q (.bl (isP n)) (S ++ G)) : wp (law_is_prime_M [.int n] S) Q E := by
  unfold law_is_prime_M
  walk_at "ck1"
  simp only [wp_lc]
  walk_at "ck1"
  refine ⟨2, 102, rfl, by decide, by decide, ?_⟩
  refine lcGo_rng (n := 100) (f := fun i => if (2 + (i : Int)) * (2 + i) ≤ n then some (.int (2 + i)) else none) rfl (by decide) (fun i acc hi => ?_) ?_
  · unfold lcT
    simp only [wipeE, List.set_cons_succ, List.set_cons_zero]
    walk_at "ck1"
    refine ⟨cmul_s (by omega) (by omega) (by omega) (by omega), ?_⟩
    by_cases hc : (2 + (i : Int)) * (2 + i) ≤ n
    · rw [if_pos hc]; exact if_pos hc
    · rw [if_neg hc]; exact if_neg hc
  · simp only [aft_nx]
    walk_at "ck1"
    have hL : (List.range 100).filterMap (fun i : Nat => if (2 + (i : Int)) * (2 + i) ≤ n then some (D.int (2 + i)) else none) = ((List.range 100).filterMap (fun i : Nat => if (2 + (i : Int)) * (2 + i) ≤ n then some (2 + (i : Int)) else none)).map D.int := by
      rw [List.map_filterMap]
      congr 1
      funext i
      split <;> rfl
    rw [hL]
    have hpos : ∀ z ∈ (List.range 100).filterMap (fun i : Nat => if (2 + (i : Int)) * (2 + i) ≤ n then some (2 + (i : Int)) else none), 0 < z := fun z hz => by
      obtain ⟨i, _, h2⟩ := List.mem_filterMap.mp hz
      split at h2
      · cases h2; omega
      · cases h2
    have hlen : ((List.range 100).filterMap (fun i : Nat => if (2 + (i : Int)) * (2 + i) ≤ n then some (2 + (i : Int)) else none)).length ≤ 100 := Nat.le_trans (List.length_filterMap_le _ _) (by rw [List.length_range]; decide)
    have hall : ((List.range 100).filterMap (fun i : Nat => if (2 + (i : Int)) * (2 + i) ≤ n then some (2 + (i : Int)) else none)).all (fun z => decide (0 < n % z)) = (List.range 100).all fun i => !(decide ((2 + (i : Int)) * (2 + i) ≤ n)) || decide (0 < n % (2 + i)) := by
      rw [List.all_filterMap]
      congr 1
      funext i
      by_cases hc : (2 + (i : Int)) * (2 + i) ≤ n
      · rw [if_pos hc, decide_eq_true hc]; rfl
      · rw [if_neg hc, decide_eq_false hc]; rfl
    unfold isP at q
    rw [← hall] at q
    generalize (List.range 100).filterMap (fun i : Nat => if (2 + (i : Int)) * (2 + i) ≤ n then some (2 + (i : Int)) else none) = ns at hpos hlen q ⊢
    clear hL hall
    by_cases hn : 1 < n
    · simp only [hn, decide_true, if_true, Bool.true_and] at q ⊢
      rw [wp_lc, wp_src]
      simp only [wp_varS, wp_var0]
      refine .inr ⟨_, ns.map D.int, rfl, by simp [lsAt, lsO], ?_⟩
      refine lcGo_list (xs := ns.map D.int) (f := fun x => match x with | .int z => some (.bl (decide (0 < n % z))) | _ => none) rfl (by rw [List.length_map]; omega) (by simp [lsAt, lsO]) (fun i x acc hx => ?_) ?_
      · obtain ⟨z, hz, rfl⟩ := map_get hx
        unfold lcT
        simp only [wipeE, List.set_cons_succ, List.set_cons_zero]
        walk_at "ck1"
        exact hpos z (List.mem_of_getElem? hz)
      · walk_at "ck1"
        refine ⟨(ns.map D.int).filterMap (fun x => match x with | .int z => some (.bl (decide (0 < n % z))) | _ => none), by simp [lsO], ns.map fun z => decide (0 < n % z), ?_, ?_⟩
        · have : (ns.map D.int).filterMap (fun x => match x with | .int z => some (D.bl (decide (0 < n % z))) | _ => none) = (ns.map fun z => decide (0 < n % z)).map D.bl := by
            rw [List.filterMap_map, List.map_map, ← List.filterMap_eq_map]
            rfl
          rw [this, asBls_map]
        · rw [List.append_assoc, List.all_map]; exact q _
    · simp only [hn, decide_false, Bool.false_eq_true, if_false, Bool.false_and] at q ⊢
      exact q _
theorem law_prime_ok {S : Store} {n : Int} {E : Exn → Store → Prop} {Q : D → Store → Prop} (h0 : 2 ≤ n) (h1 : n ≤ 100000) (q : ∀ p G, 2 ≤ p → p ≤ n → isP p = true → Q (.int p) (S ++ G)) : wp (law_prime_M [.int n] S) Q E := by
  unfold law_prime_M
  walk_at "ck1"
  refine ⟨n, 1, rfl, ⟨by omega, by omega⟩, by decide, ?_⟩
  refine wp_foC (by unfold FU; omega) (fun i r T => (∃ G, T = S ++ G) ∧ ∃ y, r = [some (.int n), y]) ⟨⟨[], by simp⟩, none, rfl⟩ (fun i r T hi hI => ?_) (fun r T hI => ?_)
  · obtain ⟨⟨G, rfl⟩, y, rfl⟩ := hI
    walk_at "ck1"
    refine law_is_prime_ok fun G2 => ?_
    walk_at "ck1"
    by_cases hb : isP (n + (i : Nat) * -1) = true
    · simp only [hb, if_true]
      rw [List.append_assoc]
      exact q _ _ (by omega) (by omega) hb
    · simp only [hb, if_false]
      exact ⟨⟨_, List.append_assoc _ _ _⟩, _, rfl⟩
  · obtain ⟨⟨G, rfl⟩, y, rfl⟩ := hI
    simp only [aft_nx]
    walk_at "ck1"
    exact q 2 G (by decide) h0 (by decide +kernel)
theorem is_number_ok {S : Store} {d : D} {t : String} {E : Exn → Store → Prop} {Q : D → Store → Prop} (ht : tyN d S = some t) (q : Q (.bl (match d with | .int _ => true | _ => false)) S) : wp (is_number_M [d] S) Q E := by
  unfold is_number_M
  cases d with
  | ref k =>
    have : t = "list" ∨ t = "dict" := by
      unfold tyN at ht
      simp only at ht
      split at ht <;> first | (cases ht; simp) | cases ht
    rcases this with rfl | rfl <;> (walk_at "ck1"; simp only [tyN] at ht; simp only [ht, isi_li, isi_di, Option.some.injEq, exists_eq_left', asBl_bl, Bool.false_eq_true, if_false]; exact q)
  | _ => walk_at "ck1"; exact q
theorem law_whole_ok {S : Store} {d : D} {t : String} {E : Exn → Store → Prop} {Q : D → Store → Prop} (ht : tyN d S = some t) (q : Q (.bl (match d with | .int _ => true | _ => false)) S) : wp (law_whole_M [d] S) Q E := is_number_ok ht q
theorem is_prime_ok {S : Store} {n : Int} {E : Exn → Store → Prop} {Q : D → Store → Prop} (q : Q (.bl (isP n && decide (n < 10000))) S) : wp (is_prime_M [.int n] S) Q E := by
  unfold is_prime_M
  walk_at "ck1"
  by_cases h2 : n < 2
  · have : isP n = false := by
      cases e : isP n with
      | false => rfl
      | true => have := (isP_true.mp e).1; omega
    rw [this] at q
    simp only [h2, if_true]
    exact q
  · simp only [h2, if_false]
    by_cases h3 : 10000 ≤ n
    · rw [decide_eq_false (by omega), Bool.and_false] at q
      simp only [ge_iff_le, h3, if_true]
      exact q
    · simp only [ge_iff_le, h3, if_false]
      rw [decide_eq_true (by omega), Bool.and_true] at q
      simp only [aft_nx]
      walk_at "ck1"
      simp only [aft_nx]
      walk_at "ck1"
      refine wp_while (fun m r T => T = S ∧ ∃ d : Int, 2 ≤ d ∧ d ≤ 10000 ∧ m = (10000 - d).toNat ∧ (∀ e : Int, 2 ≤ e → e < d → n % e ≠ 0) ∧ r = [some (.int n), some (.int d)]) (m := 9998) (by unfold FU; omega) ⟨rfl, 2, by decide, by decide, rfl, fun e h1 h2 => by omega, rfl⟩ fun m r T hI => ?_
      obtain ⟨rfl, d, d2, d3, rfl, hd, rfl⟩ := hI
      walk_at "ck1"
      refine ⟨cmul_s (by omega) (by omega) (by omega) (by omega), ?_⟩
      by_cases hc : d * d ≤ n
      · simp only [hc, if_true]
        have hd99 : d < 100 := by
          rcases Int.lt_or_le d 100 with h | h
          · exact h
          · have := Int.mul_le_mul h h (by decide) (by omega); omega
        refine ⟨by omega, ?_⟩
        by_cases hm : n % d = 0
        · have : (n % d == 0) = true := by simpa using hm
          simp only [this, if_true]
          have e := isP_false (n := n) (i := (d - 2).toNat) (by omega) (by rw [show (2 + ((d - 2).toNat : Int)) = d by omega]; exact hc) (by rw [show (2 + ((d - 2).toNat : Int)) = d by omega]; exact hm)
          rw [e] at q
          exact q
        · have : (n % d == 0) = false := by simpa using hm
          simp only [this, Bool.false_eq_true, if_false]
          simp only [aft_nx]
          walk_at "ck1"
          refine ⟨_, ?_, d + 1, by omega, by omega, rfl, fun e h1 h2 => ?_, rfl⟩
          · omega
          · by_cases e = d
            · subst e; exact hm
            · exact hd e h1 (by omega)
      · simp only [hc, if_false]
        simp only [aft_nx]
        walk_at "ck1"
        have e : isP n = true := isP_true.mpr ⟨by omega, fun i hi hq => by
          have h2 : (2 + (i : Int)) < d := by
            rcases Int.lt_or_le (2 + (i : Int)) d with h | h
            · exact h
            · have := Int.mul_le_mul h h (by omega) (by omega); omega
          have := hd (2 + i) (by omega) h2
          have h3 := Int.emod_nonneg n (show (2 + (i : Int)) ≠ 0 by omega)
          omega⟩
        rw [e] at q
        exact q
end Lib
end CK
end

section
set_option Elab.async false
set_option linter.all false
set_option exponentiation.threshold 100000
set_option maxRecDepth 100000
set_option maxHeartbeats 4000000
namespace CK
namespace Lib
open PySem PySem.Spec PyProof.Rows L2
local macro_rules | `(tactic| walk_at "ck") => `(tactic| try simp only [wp_seq, wp_asg, wp_if, wp_ret, wp_retN, wp_drop, wp_fn, wp_var0, wp_varS, wp_mC, wp_m2, wp_m1, wp_nil, wp_cons, wp_args, wp_call, wp_tst, wp_and, wp_or, wp_not, wp_andV, wp_orV, wp_notV, wp_ifE, wp_chain, wp_nx, wp_brk, wp_cnt, aft_nx, aft_rt, aft_bk, aft_ct, aft_xc, fin_rt, fin_nx, fin_xc, fin_bk, fin_ct, wp_gNm, wp_gTp, wp_gsNil, wp_gsCons, wp_gSub, wp_par, wp_par3, wp_i0, wp_iC, wp_addI, wp_addT, wp_mulI, wp_neg, wp_tup, wp_lst, sz0, sz1, sz2, sz3, sz4, sz5, sz6, sz7, sz8, wp_yes, wp_ixT, wp_ixL, wp_setL, wp_isi, tyN, isi_ii, isi_ib, isi_bi, isi_bb, isi_nb, isi_ni, isi_ns, isi_nt, isi_nl, isi_nd, isi_bs, isi_bt, isi_bl, isi_bd, isi_is, isi_it, isi_il, isi_id, isi_sb, isi_si, isi_ss, isi_st, isi_sl, isi_sd, isi_tb, isi_ti, isi_ts, isi_tt, isi_tl, isi_td, isi_lb, isi_li, isi_ls, isi_lt, isi_ll, isi_ld, isi_db, isi_di, isi_ds, isi_dt, isi_dl, isi_dd, wp_slice, wp_noPart, wp_part, asInt_int, wp_slT, wp_slL, wp_mulT, wp_extend, wp_revL, exists_and_left, wp_ML, wp_ML0, isLs_ref, wp_append, wp_pop, wp_tupleR, wp_tupleT, wp_listR, wp_listT, wp_all, wp_any, wp_sum, wp_notB, wp_isB, wp_isN, wp_notN, Option.isSome_some, wp_rng1, wp_rng2, wp_rng3, lsAt, lsO_lst, lsO_fro, lstO_lst, wp_lenR, lenO_lst, lenO_fro, lenO_dK, List.length_map, List.getElem?_cons_zero, List.getElem?_cons_succ, wp_eqI, wp_neI, wp_eqB, wp_neB, wp_abs, wp_intI, wp_intB, wp_max2, wp_min2, wp_lenT, wp_for, wp_ok, wp_bad, lp_nx, lp_ct, lp_bk, lp_rt, lp_xc, asBl_bl, at0, at1, at2, List.map_cons, List.map_nil, List.cons_append, List.nil_append, List.length_cons, List.length_nil, List.replicate, List.set_cons_zero, List.set_cons_succ, Nat.reduceAdd, Int.reduceToNat, Int.reducePow, Int.reduceNeg, Int.reduceMul, Int.reduceAdd, Int.reduceSub, Int.reduceMod, Int.reduceDiv, Int.reduceLT, Int.reduceLE, Int.zero_mul, Int.zero_add, Int.cast_ofNat_Int, Int.reduceBEq, Nat.reduceLeDiff, Nat.reduceEqDiff, true_and, and_true, Nat.reduceSub, if_true, Option.some.injEq, exists_eq_left', Bool.not_true, Bool.not_false, decide_eq_true_eq, Bool.false_eq_true, if_false])
local macro_rules | `(tactic| walk_at "cks") => `(tactic| try simp only [wp_seq, wp_asg, wp_if, wp_ret, wp_retN, wp_drop, wp_fn, wp_var0, wp_varS, wp_mC, wp_m2, wp_m1, wp_nil, wp_cons, wp_args, wp_call, wp_tst, wp_and, wp_or, wp_not, wp_andV, wp_orV, wp_notV, wp_ifE, wp_chain, wp_nx, wp_brk, wp_cnt, aft_nx, aft_rt, aft_bk, aft_ct, aft_xc, fin_rt, fin_nx, fin_xc, fin_bk, fin_ct, wp_gNm, wp_gTp, wp_gsNil, wp_gsCons, wp_gSub, wp_par, wp_par3, wp_i0, wp_iC, wp_addI, wp_addT, wp_mulI, wp_neg, wp_tup, wp_lst, sz0, sz1, sz2, sz3, sz4, sz5, sz6, sz7, sz8, wp_yes, wp_ixT, wp_ixL, wp_setL, wp_isi, tyN, isi_ii, isi_ib, isi_bi, isi_bb, isi_nb, isi_ni, isi_ns, isi_nt, isi_nl, isi_nd, isi_bs, isi_bt, isi_bl, isi_bd, isi_is, isi_it, isi_il, isi_id, isi_sb, isi_si, isi_ss, isi_st, isi_sl, isi_sd, isi_tb, isi_ti, isi_ts, isi_tt, isi_tl, isi_td, isi_lb, isi_li, isi_ls, isi_lt, isi_ll, isi_ld, isi_db, isi_di, isi_ds, isi_dt, isi_dl, isi_dd, wp_slice, wp_noPart, wp_part, asInt_int, wp_slT, wp_slL, wp_mulT, wp_extend, wp_revL, exists_and_left, wp_ML, wp_ML0, isLs_ref, wp_append, wp_pop, wp_tupleR, wp_tupleT, wp_listR, wp_listT, wp_all, wp_any, wp_sum, wp_notB, wp_isB, wp_isN, wp_notN, Option.isSome_some, wp_rng1, wp_rng2, wp_rng3, lsAt, lsO_lst, lsO_fro, lstO_lst, wp_lenR, lenO_lst, lenO_fro, lenO_dK, List.length_map, List.getElem?_cons_zero, List.getElem?_cons_succ, wp_eqI, wp_neI, wp_eqB, wp_neB, wp_abs, wp_intI, wp_intB, wp_max2, wp_min2, wp_lenT, wp_for, wp_ok, wp_bad, lp_nx, lp_ct, lp_bk, lp_rt, lp_xc, asBl_bl, at0, at1, at2, List.map_cons, List.map_nil, List.cons_append, List.nil_append, List.length_cons, List.length_nil, List.replicate, List.set_cons_zero, List.set_cons_succ, Nat.reduceAdd, Int.reduceToNat, Int.reducePow, Int.reduceNeg, Int.reduceMul, Int.reduceAdd, Int.reduceSub, Int.reduceMod, Int.reduceDiv, Int.reduceLT, Int.reduceLE, Int.zero_mul, Int.zero_add, Int.cast_ofNat_Int, Int.reduceBEq, Nat.reduceLeDiff, Nat.reduceEqDiff, true_and, and_true, Nat.reduceSub, if_true, Option.some.injEq, exists_eq_left', Bool.not_true, Bool.not_false, decide_eq_true_eq, Bool.false_eq_true, if_false, *])
local macro_rules | `(tactic| walk_at "ck1") => `(tactic| try simp only [wp_seq, wp_asg, wp_if, wp_ret, wp_retN, wp_drop, wp_fn, wp_var0, wp_varS, wp_mC, wp_m2, wp_m1, wp_nil, wp_cons, wp_args, wp_call, wp_tst, wp_and, wp_or, wp_not, wp_andV, wp_orV, wp_notV, wp_ifE, wp_chain, wp_nx, wp_brk, wp_cnt, aft_rt, aft_bk, aft_ct, aft_xc, fin_rt, fin_nx, fin_xc, fin_bk, fin_ct, wp_gNm, wp_gTp, wp_gsNil, wp_gsCons, wp_gSub, wp_par, wp_par3, wp_i0, wp_iC, wp_addI, wp_addT, wp_mulI, wp_neg, wp_tup, wp_lst, sz0, sz1, sz2, sz3, sz4, sz5, sz6, sz7, sz8, wp_yes, wp_ixT, wp_ixL, wp_setL, wp_isi, tyN, isi_ii, isi_ib, isi_bi, isi_bb, isi_nb, isi_ni, isi_ns, isi_nt, isi_nl, isi_nd, isi_bs, isi_bt, isi_bl, isi_bd, isi_is, isi_it, isi_il, isi_id, isi_sb, isi_si, isi_ss, isi_st, isi_sl, isi_sd, isi_tb, isi_ti, isi_ts, isi_tt, isi_tl, isi_td, isi_lb, isi_li, isi_ls, isi_lt, isi_ll, isi_ld, isi_db, isi_di, isi_ds, isi_dt, isi_dl, isi_dd, wp_slice, wp_noPart, wp_part, asInt_int, wp_slT, wp_slL, wp_mulT, wp_extend, wp_revL, exists_and_left, wp_ML, wp_ML0, isLs_ref, wp_append, wp_pop, wp_tupleR, wp_tupleT, wp_listR, wp_listT, wp_all, wp_any, wp_sum, wp_notB, wp_isB, wp_isN, wp_notN, Option.isSome_some, wp_rng1, wp_rng2, wp_rng3, lsAt, lsO_lst, lsO_fro, lstO_lst, wp_lenR, lenO_lst, lenO_fro, lenO_dK, List.length_map, List.getElem?_cons_zero, List.getElem?_cons_succ, wp_eqI, wp_neI, wp_eqB, wp_neB, wp_abs, wp_intI, wp_intB, wp_max2, wp_min2, wp_lenT, wp_for, wp_ok, wp_bad, lp_nx, lp_ct, lp_bk, lp_rt, lp_xc, asBl_bl, at0, at1, at2, List.map_cons, List.map_nil, List.cons_append, List.nil_append, List.length_cons, List.length_nil, List.replicate, List.set_cons_zero, List.set_cons_succ, Nat.reduceAdd, Int.reduceToNat, Int.reducePow, Int.reduceNeg, Int.reduceMul, Int.reduceAdd, Int.reduceSub, Int.reduceMod, Int.reduceDiv, Int.reduceLT, Int.reduceLE, Int.zero_mul, Int.zero_add, Int.cast_ofNat_Int, Int.reduceBEq, Nat.reduceLeDiff, Nat.reduceEqDiff, true_and, and_true, Nat.reduceSub, if_true, Option.some.injEq, exists_eq_left', Bool.not_true, Bool.not_false, decide_eq_true_eq, Bool.false_eq_true, if_false])

abbrev Card := Int × Int × Int
def cd (c : Card) : D := .tup [.int c.1, .int c.2.1, .int c.2.2]
inductive Tr where
  | e : Tr
  | n (l : Tr) (c : Card) (r : Tr) : Tr
def Tr.d : Tr → D
  | .e => .tup []
  | .n l c r => .tup [l.d, cd c, r.d]
def Tr.cards : Tr → List Card
  | .e => []
  | .n l c r => l.cards ++ c :: r.cards
def Tr.ht : Tr → Nat
  | .e => 0
  | .n l _ r => max l.ht r.ht + 1
def Tr.isE : Tr → Bool
  | .e => true
  | _ => false
theorem Tr.ht_le : ∀ t : Tr, t.ht ≤ t.cards.length
  | .e => Nat.le_refl _
  | .n l c r => by
    have := l.ht_le
    have := r.ht_le
    simp only [Tr.ht, Tr.cards, List.length_append, List.length_cons]
    omega
def cpy (c : Card) : PyData := .tuple [.int c.1, .int c.2.1, .int c.2.2]
def Tr.py : Tr → PyData
  | .e => .tuple []
  | .n l c r => .tuple [l.py, cpy c, r.py]
theorem py_cd {S : Store} {n : Nat} (c : Card) : pyOf S (n + 2) (cd c) = some (cpy c) := by simp [pyOf, cd, cpy, optAll]
theorem py_tr {S : Store} : ∀ (t : Tr) (n : Nat), t.ht + 3 ≤ n → pyOf S n t.d = some t.py
  | .e, n + 1, _ => by simp [pyOf, Tr.d, Tr.py, optAll]
  | .n l c r, n + 1, h => by
    simp only [Tr.ht] at h
    have h1 := py_tr (S := S) l n (by omega)
    have h2 := py_tr (S := S) r n (by omega)
    obtain ⟨m, rfl⟩ : ∃ m, n = m + 2 := ⟨n - 2, by omega⟩
    show (optAll (pyOf S (m + 2)) [l.d, cd c, r.d]).map PyData.tuple = _
    simp only [optAll, h1, h2, py_cd]
    rfl
theorem pyD_tr {S : Store} {t : Tr} (h : t.ht ≤ 150) : pyD S t.d = some t.py := py_tr t 199 (by omega)
theorem pyD_e {S : Store} : pyD S (.tup []) = some (.tuple []) := by simp [pyD, pyOf, optAll]
theorem eqv_e : ∀ t : Tr, PyData.eqv t.py (.tuple []) = t.isE
  | .e => by simp [Tr.py, Tr.isE, PyData.eqv, PyData.eqvAll]
  | .n l c r => by simp [Tr.py, Tr.isE, PyData.eqv, PyData.eqvAll]
section
variable {E : Exn → Store → Prop} {S : Store} {Q : D → Store → Prop}
theorem wp_eqE {t : Tr} (h : t.ht ≤ 150) : wp (eqM t.d (.tup []) S) Q E = Q (.bl t.isE) S := by
  rw [wp_eq, pyD_tr h, pyD_e]; simp [eqv_e]
theorem wp_neE {t : Tr} (h : t.ht ≤ 150) : wp (neM t.d (.tup []) S) Q E = Q (.bl (!t.isE)) S := by
  rw [wp_ne, pyD_tr h, pyD_e]; simp [eqv_e]
theorem py_cds {n : Nat} : ∀ cs : List Card, optAll (pyOf S (n + 2)) (cs.map cd) = some (cs.map cpy)
  | [] => rfl
  | c :: cs => by simp only [List.map_cons, optAll, py_cd, py_cds cs]
theorem py_cards {k : Nat} {cs : List Card} (h : lsAt S k = some (cs.map cd)) : pyD S (.ref k) = some (.list (cs.map cpy)) := by
  unfold pyD pyOf
  simp only [h]
  rw [py_cds (n := 196)]
  rfl
theorem py_nil {k : Nat} (h : lsAt S k = some []) : pyD S (.ref k) = some (.list []) := by
  unfold pyD pyOf
  simp only [h]
  rfl

theorem eq_nil {k m : Nat} {cs : List Card} (h : lsAt S k = some (cs.map cd)) (h2 : lsAt S m = some []) (q : Q (.bl cs.isEmpty) S) : wp (eqM (.ref k) (.ref m) S) Q E := by
  rw [wp_eq, py_cards h, py_nil h2]
  refine ⟨_, _, rfl, rfl, ?_⟩
  have : PyData.eqv (.list (cs.map cpy)) (.list []) = cs.isEmpty := by cases cs <;> simp [PyData.eqv, PyData.eqvAll]
  rw [this]; exact q
end
theorem Kp.setNew {w v : Nat} {S T : Store} {o : O} (h : Kp w S T) (hw : w < S.length) (hv : S.length ≤ v) : Kp w S (T.set v o) :=
  ⟨h.pt.setNe (by omega), fun i x hi e => by rw [List.getElem?_set_ne (by have := get_lt e; omega)]; exact h.kp i x hi e, by rw [List.length_set]; exact h.ln⟩
theorem Kp.lt {w : Nat} {S T : Store} (h : Kp w S T) : w < T.length := h.pt.lt
theorem Kp.ls {w k : Nat} {S T : Store} {xs : List D} (h : Kp w S T) (hk : k ≠ w) (e : lsAt S k = some xs) : lsAt T k = some xs := by
  unfold lsAt at e ⊢
  cases q : S[k]? with
  | none => rw [q] at e; cases e
  | some o => rw [h.kp k o hk q]; rw [q] at e; exact e
theorem ls_app {S G : Store} {k : Nat} {xs : List D} (e : lsAt S k = some xs) : lsAt (S ++ G) k = some xs := by
  unfold lsAt at e ⊢
  cases q : S[k]? with
  | none => rw [q] at e; cases e
  | some o => rw [get_old q]; rw [q] at e; exact e
theorem ls_lt {S : Store} {k : Nat} {xs : List D} (e : lsAt S k = some xs) : k < S.length := by
  unfold lsAt at e
  cases q : S[k]? with
  | none => rw [q] at e; cases e
  | some o => exact get_lt q
theorem len_ls {S : Store} {k : Nat} {xs : List D} (h : lsAt S k = some xs) : lenO S[k]? = some xs.length := by
  unfold lsAt at h
  cases q : S[k]? with
  | none => rw [q] at h; cases h
  | some o =>
    rw [q] at h
    cases o with
    | lst zs => cases h; rfl
    | fro zs => cases h; rfl
    | _ => cases h
theorem ls_new {S : Store} {xs : List D} : lsAt (S ++ [.lst xs]) S.length = some xs := ls_of get_new

theorem at_mem {α : Type} {xs : List α} {i : Int} (h0 : 0 ≤ i) (h1 : i < xs.length) : ∃ x, atI xs i = some x ∧ x ∈ xs := by
  obtain ⟨k, rfl⟩ : ∃ k : Nat, i = (k : Int) := ⟨i.toNat, by omega⟩
  exact ⟨xs[k]'(by omega), at_of' rfl (List.getElem?_eq_getElem _), List.getElem_mem _⟩

theorem at_int {ns : List Int} {i : Int} (P : Int → Prop) (hP : ∀ x ∈ ns, P x) (h0 : 0 ≤ i) (h1 : i < ns.length) : ∃ x, atI (ns.map D.int) i = some (.int x) ∧ P x := by
  obtain ⟨k, rfl⟩ : ∃ k : Nat, i = (k : Int) := ⟨i.toNat, by omega⟩
  exact ⟨ns[k]'(by omega), at_of' rfl (by rw [List.getElem?_map, List.getElem?_eq_getElem (by omega)]; rfl), hP _ (List.getElem_mem _)⟩
theorem fm_bl {f : D → Bool} (xs : List D) : xs.filterMap (fun x => some (.bl (f x))) = (xs.map f).map D.bl := by
  rw [List.map_map, ← List.filterMap_eq_map]; rfl
theorem stepB {b : Bool} {A B : Prop} (h1 : b = true → A) (h2 : b = false → B) : (if b = true then A else B) := by cases b; exact h2 rfl; exact h1 rfl
theorem ints_of {P : Int → Prop} : ∀ {xs : List D}, (∀ x ∈ xs, ∃ q : Int, x = .int q ∧ P q) → ∃ ps : List Int, xs = ps.map D.int ∧ ∀ q ∈ ps, P q
  | [], _ => ⟨[], rfl, fun q h => by cases h⟩
  | x :: xs, hP => by
    obtain ⟨ps, rfl, h⟩ := ints_of (xs := xs) fun y hy => hP y (List.mem_cons_of_mem _ hy)
    obtain ⟨q, rfl, q0⟩ := hP x List.mem_cons_self
    exact ⟨q :: ps, rfl, fun z hz => by
      rcases List.mem_cons.mp hz with rfl | hz
      · exact q0
      · exact h z hz⟩
theorem take_succ {α : Type} {l : List α} {i : Nat} {x : α} (h : l[i]? = some x) : l.take (i + 1) = l.take i ++ [x] := by
  rw [List.take_add_one, h]; rfl
theorem cd_get {cs : List Card} {i : Nat} {x : D} (h : (cs.map cd)[i]? = some x) : ∃ c, cs[i]? = some c ∧ x = cd c := by
  rw [List.getElem?_map] at h
  cases q : cs[i]? with
  | none => rw [q] at h; cases h
  | some z => rw [q] at h; cases h; exact ⟨z, rfl, rfl⟩
theorem set_same {S : Store} {k : Nat} {o : O} (h : S[k]? = some o) : S.set k o = S := by
  apply List.ext_getElem?
  intro i
  by_cases hi : k = i
  · subst hi; rw [List.getElem?_set_self (get_lt h), h]
  · rw [List.getElem?_set_ne hi]
end Lib
end CK
end

section
set_option Elab.async false
set_option linter.all false
set_option exponentiation.threshold 100000
set_option maxRecDepth 100000
set_option maxHeartbeats 4000000
namespace CK
namespace Lib
open PySem PySem.Spec PyProof.Rows L2
local macro_rules | `(tactic| walk_at "ck") => `(tactic| try simp only [wp_seq, wp_asg, wp_if, wp_ret, wp_retN, wp_drop, wp_fn, wp_var0, wp_varS, wp_mC, wp_m2, wp_m1, wp_nil, wp_cons, wp_args, wp_call, wp_tst, wp_and, wp_or, wp_not, wp_andV, wp_orV, wp_notV, wp_ifE, wp_chain, wp_nx, wp_brk, wp_cnt, aft_nx, aft_rt, aft_bk, aft_ct, aft_xc, fin_rt, fin_nx, fin_xc, fin_bk, fin_ct, wp_gNm, wp_gTp, wp_gsNil, wp_gsCons, wp_gSub, wp_par, wp_par3, wp_i0, wp_iC, wp_addI, wp_addT, wp_mulI, wp_neg, wp_tup, wp_lst, sz0, sz1, sz2, sz3, sz4, sz5, sz6, sz7, sz8, wp_yes, wp_ixT, wp_ixL, wp_setL, wp_isi, tyN, isi_ii, isi_ib, isi_bi, isi_bb, isi_nb, isi_ni, isi_ns, isi_nt, isi_nl, isi_nd, isi_bs, isi_bt, isi_bl, isi_bd, isi_is, isi_it, isi_il, isi_id, isi_sb, isi_si, isi_ss, isi_st, isi_sl, isi_sd, isi_tb, isi_ti, isi_ts, isi_tt, isi_tl, isi_td, isi_lb, isi_li, isi_ls, isi_lt, isi_ll, isi_ld, isi_db, isi_di, isi_ds, isi_dt, isi_dl, isi_dd, wp_slice, wp_noPart, wp_part, asInt_int, wp_slT, wp_slL, wp_mulT, wp_src, wp_lc, wipeE, D.ref.injEq, D.tup.injEq, reduceCtorEq, false_and, exists_false, false_or, or_false, cpt2, cpt3, cpt4, cpt5, cpt6, cpt7, cpt8, cpt9, cpt10, cpt11, cpt12, cpt13, cpt14, cpt15, cpt16, cpt17, cpt18, cpt19, cpt20, cpt24, cpt30, cpt36, cpt40, cpt48, cpt50, cpt58, cpt59, cpt60, wp_extend, wp_revL, exists_and_left, wp_ML, wp_ML0, isLs_ref, wp_append, wp_pop, wp_tupleR, wp_tupleT, wp_listR, wp_listT, wp_all, wp_any, wp_sum, wp_notB, wp_isB, wp_isN, wp_notN, Option.isSome_some, wp_rng1, wp_rng2, wp_rng3, lsAt, lsO_lst, lsO_fro, lstO_lst, wp_lenR, lenO_lst, lenO_fro, lenO_dK, List.length_map, List.getElem?_cons_zero, List.getElem?_cons_succ, wp_eqI, wp_neI, wp_eqB, wp_neB, wp_abs, wp_intI, wp_intB, wp_max2, wp_min2, wp_lenT, wp_for, wp_ok, wp_bad, lp_nx, lp_ct, lp_bk, lp_rt, lp_xc, asBl_bl, at0, at1, at2, List.map_cons, List.map_nil, List.cons_append, List.nil_append, List.length_cons, List.length_nil, List.replicate, List.set_cons_zero, List.set_cons_succ, Nat.reduceAdd, Int.reduceToNat, Int.reducePow, Int.reduceNeg, Int.reduceMul, Int.reduceAdd, Int.reduceSub, Int.reduceMod, Int.reduceDiv, Int.reduceLT, Int.reduceLE, Int.zero_mul, Int.zero_add, Int.cast_ofNat_Int, Int.reduceBEq, Nat.reduceLeDiff, Nat.reduceEqDiff, true_and, and_true, Nat.reduceSub, if_true, Option.some.injEq, exists_eq_left', Bool.not_true, Bool.not_false, decide_eq_true_eq, Bool.false_eq_true, if_false])
local macro_rules | `(tactic| walk_at "cks") => `(tactic| try simp only [wp_seq, wp_asg, wp_if, wp_ret, wp_retN, wp_drop, wp_fn, wp_var0, wp_varS, wp_mC, wp_m2, wp_m1, wp_nil, wp_cons, wp_args, wp_call, wp_tst, wp_and, wp_or, wp_not, wp_andV, wp_orV, wp_notV, wp_ifE, wp_chain, wp_nx, wp_brk, wp_cnt, aft_nx, aft_rt, aft_bk, aft_ct, aft_xc, fin_rt, fin_nx, fin_xc, fin_bk, fin_ct, wp_gNm, wp_gTp, wp_gsNil, wp_gsCons, wp_gSub, wp_par, wp_par3, wp_i0, wp_iC, wp_addI, wp_addT, wp_mulI, wp_neg, wp_tup, wp_lst, sz0, sz1, sz2, sz3, sz4, sz5, sz6, sz7, sz8, wp_yes, wp_ixT, wp_ixL, wp_setL, wp_isi, tyN, isi_ii, isi_ib, isi_bi, isi_bb, isi_nb, isi_ni, isi_ns, isi_nt, isi_nl, isi_nd, isi_bs, isi_bt, isi_bl, isi_bd, isi_is, isi_it, isi_il, isi_id, isi_sb, isi_si, isi_ss, isi_st, isi_sl, isi_sd, isi_tb, isi_ti, isi_ts, isi_tt, isi_tl, isi_td, isi_lb, isi_li, isi_ls, isi_lt, isi_ll, isi_ld, isi_db, isi_di, isi_ds, isi_dt, isi_dl, isi_dd, wp_slice, wp_noPart, wp_part, asInt_int, wp_slT, wp_slL, wp_mulT, wp_src, wp_lc, wipeE, D.ref.injEq, D.tup.injEq, reduceCtorEq, false_and, exists_false, false_or, or_false, cpt2, cpt3, cpt4, cpt5, cpt6, cpt7, cpt8, cpt9, cpt10, cpt11, cpt12, cpt13, cpt14, cpt15, cpt16, cpt17, cpt18, cpt19, cpt20, cpt24, cpt30, cpt36, cpt40, cpt48, cpt50, cpt58, cpt59, cpt60, wp_extend, wp_revL, exists_and_left, wp_ML, wp_ML0, isLs_ref, wp_append, wp_pop, wp_tupleR, wp_tupleT, wp_listR, wp_listT, wp_all, wp_any, wp_sum, wp_notB, wp_isB, wp_isN, wp_notN, Option.isSome_some, wp_rng1, wp_rng2, wp_rng3, lsAt, lsO_lst, lsO_fro, lstO_lst, wp_lenR, lenO_lst, lenO_fro, lenO_dK, List.length_map, List.getElem?_cons_zero, List.getElem?_cons_succ, wp_eqI, wp_neI, wp_eqB, wp_neB, wp_abs, wp_intI, wp_intB, wp_max2, wp_min2, wp_lenT, wp_for, wp_ok, wp_bad, lp_nx, lp_ct, lp_bk, lp_rt, lp_xc, asBl_bl, at0, at1, at2, List.map_cons, List.map_nil, List.cons_append, List.nil_append, List.length_cons, List.length_nil, List.replicate, List.set_cons_zero, List.set_cons_succ, Nat.reduceAdd, Int.reduceToNat, Int.reducePow, Int.reduceNeg, Int.reduceMul, Int.reduceAdd, Int.reduceSub, Int.reduceMod, Int.reduceDiv, Int.reduceLT, Int.reduceLE, Int.zero_mul, Int.zero_add, Int.cast_ofNat_Int, Int.reduceBEq, Nat.reduceLeDiff, Nat.reduceEqDiff, true_and, and_true, Nat.reduceSub, if_true, Option.some.injEq, exists_eq_left', Bool.not_true, Bool.not_false, decide_eq_true_eq, Bool.false_eq_true, if_false, *])
local macro_rules | `(tactic| walk_at "ck1") => `(tactic| try simp only [wp_seq, wp_asg, wp_if, wp_ret, wp_retN, wp_drop, wp_fn, wp_var0, wp_varS, wp_mC, wp_m2, wp_m1, wp_nil, wp_cons, wp_args, wp_call, wp_tst, wp_and, wp_or, wp_not, wp_andV, wp_orV, wp_notV, wp_ifE, wp_chain, wp_nx, wp_brk, wp_cnt, aft_rt, aft_bk, aft_ct, aft_xc, fin_rt, fin_nx, fin_xc, fin_bk, fin_ct, wp_gNm, wp_gTp, wp_gsNil, wp_gsCons, wp_gSub, wp_par, wp_par3, wp_i0, wp_iC, wp_addI, wp_addT, wp_mulI, wp_neg, wp_tup, wp_lst, sz0, sz1, sz2, sz3, sz4, sz5, sz6, sz7, sz8, wp_yes, wp_ixT, wp_ixL, wp_setL, wp_isi, tyN, isi_ii, isi_ib, isi_bi, isi_bb, isi_nb, isi_ni, isi_ns, isi_nt, isi_nl, isi_nd, isi_bs, isi_bt, isi_bl, isi_bd, isi_is, isi_it, isi_il, isi_id, isi_sb, isi_si, isi_ss, isi_st, isi_sl, isi_sd, isi_tb, isi_ti, isi_ts, isi_tt, isi_tl, isi_td, isi_lb, isi_li, isi_ls, isi_lt, isi_ll, isi_ld, isi_db, isi_di, isi_ds, isi_dt, isi_dl, isi_dd, wp_slice, wp_noPart, wp_part, asInt_int, wp_slT, wp_slL, wp_mulT, wp_src, wp_lc, wipeE, D.ref.injEq, D.tup.injEq, reduceCtorEq, false_and, exists_false, false_or, or_false, cpt2, cpt3, cpt4, cpt5, cpt6, cpt7, cpt8, cpt9, cpt10, cpt11, cpt12, cpt13, cpt14, cpt15, cpt16, cpt17, cpt18, cpt19, cpt20, cpt24, cpt30, cpt36, cpt40, cpt48, cpt50, cpt58, cpt59, cpt60, wp_extend, wp_revL, exists_and_left, wp_ML, wp_ML0, isLs_ref, wp_append, wp_pop, wp_tupleR, wp_tupleT, wp_listR, wp_listT, wp_all, wp_any, wp_sum, wp_notB, wp_isB, wp_isN, wp_notN, Option.isSome_some, wp_rng1, wp_rng2, wp_rng3, lsAt, lsO_lst, lsO_fro, lstO_lst, wp_lenR, lenO_lst, lenO_fro, lenO_dK, List.length_map, List.getElem?_cons_zero, List.getElem?_cons_succ, wp_eqI, wp_neI, wp_eqB, wp_neB, wp_abs, wp_intI, wp_intB, wp_max2, wp_min2, wp_lenT, wp_for, wp_ok, wp_bad, lp_nx, lp_ct, lp_bk, lp_rt, lp_xc, asBl_bl, at0, at1, at2, List.map_cons, List.map_nil, List.cons_append, List.nil_append, List.length_cons, List.length_nil, List.replicate, List.set_cons_zero, List.set_cons_succ, Nat.reduceAdd, Int.reduceToNat, Int.reducePow, Int.reduceNeg, Int.reduceMul, Int.reduceAdd, Int.reduceSub, Int.reduceMod, Int.reduceDiv, Int.reduceLT, Int.reduceLE, Int.zero_mul, Int.zero_add, Int.cast_ofNat_Int, Int.reduceBEq, Nat.reduceLeDiff, Nat.reduceEqDiff, true_and, and_true, Nat.reduceSub, if_true, Option.some.injEq, exists_eq_left', Bool.not_true, Bool.not_false, decide_eq_true_eq, Bool.false_eq_true, if_false])
def law_marks_M : List D → M D := mFn 9
 (mSeq (mAsg (mCall 2 law_take_M (mCons (mVar 0) (mCons (mC (.int 4)) mNil))) (gNm 2))
 (mSeq (mAsg (mCall 2 law_take_M (mCons (mVar 0) (mCons (mC (.int 3)) mNil))) (gNm 3))
 (mSeq (mAsg (mCall 2 law_take_M (mCons (mVar 0) (mCons (mC (.int 3)) mNil))) (gNm 4))
 (mSeq (mAsg (mC (.int 0)) (gNm 5))
 (mSeq (mIf (mTst (m2 gtM (mVar 3) (mC (.int 0))))
 (mAsg (m2 mulM (mCall 2 law_take_M (mCons (mVar 0) (mCons (m2 ixM (mArgs tupM (mCons (mC (.int 50)) (mCons (m2 powM (mC (.int 10)) (mC (.int 6))) mNil))) (m2 subM (mVar 3) (mC (.int 1)))) mNil))) (m2 ixM (mArgs tupM (mCons (mC (.int 1)) (mCons (m2 powM (mC (.int 10)) (mC (.int 11))) mNil))) (m2 subM (mVar 3) (mC (.int 1))))) (gNm 5))
 mNx)
 (mSeq (mAsg (mArgs lstM mNil) (gNm 6))
 (mSeq (mFor (mRng1 (mCons (mVar 1) mNil)) (gNm 7)
 (mSeq (mDrop (mML appendM (mVar 6) (mCons (mVar 5) mNil)))
 (mAsg (m2 addM (m2 addM (mVar 5) (mC (.int 1))) (mCall 2 law_take_M (mCons (mVar 0) (mCons (m2 ixM (mArgs tupM (mCons (mC (.int 1)) (mCons (mC (.int 1)) (mCons (mC (.int 3)) (mCons (m2 powM (mC (.int 10)) (mC (.int 6))) mNil))))) (mVar 2)) mNil)))) (gNm 5))))
 (mSeq (mIf (mTst (m2 eqM (mVar 4) (mC (.int 0))))
 (mAsg (mLc (mSrc (mRevL (mVar 6))) (gNm 8) mYes (m2 subM (m2 powM (mC (.int 10)) (mC (.int 18))) (mVar 8)) [8]) (gNm 6))
 mNx)
 (mRet (mVar 6))))))))))
def law_cards_M : List D → M D := mFn 8
 (mSeq (mAsg (mCall 2 law_take_M (mCons (mVar 0) (mCons (mC (.int 6)) mNil))) (gNm 2))
 (mSeq (mAsg (mCall 2 law_take_M (mCons (mVar 0) (mCons (mC (.int 5)) mNil))) (gNm 3))
 (mSeq (mAsg (mArgs lstM mNil) (gNm 4))
 (mSeq (mFor (mRng1 (mCons (mArgs lenM (mCons (mVar 1) mNil)) mNil)) (gNm 5)
 (mSeq (mAsg (m2 mulM (mCall 2 law_take_M (mCons (mVar 0) (mCons (m2 ixM (mArgs tupM (mCons (mC (.int 3)) (mCons (mC (.int 200)) (mCons (m2 powM (mC (.int 10)) (mC (.int 6))) (mCons (mC (.int 2)) (mCons (mC (.int 1)) (mCons (mC (.int 1)) mNil))))))) (mVar 2)) mNil))) (m2 ixM (mArgs tupM (mCons (mC (.int 1)) (mCons (mC (.int 1)) (mCons (m2 powM (mC (.int 10)) (mC (.int 12))) (mCons (m2 powM (mC (.int 10)) (mC (.int 18))) (mCons (mC (.int 1)) (mCons (mC (.int 1)) mNil))))))) (mVar 2))) (gNm 6))
 (mSeq (mAsg (m2 addM (mVar 6) (m2 ixM (mArgs tupM (mCons (mC (.int 0)) (mCons (mC (.int 0)) (mCons (mC (.int 0)) (mCons (mC (.int 0)) (mCons (mVar 5) (mCons (m2 subM (mArgs lenM (mCons (mVar 1) mNil)) (mVar 5)) mNil))))))) (mVar 2))) (gNm 6))
 (mSeq (mAsg (m2 subM (mCall 2 law_take_M (mCons (mVar 0) (mCons (m2 ixM (mArgs tupM (mCons (mC (.int 11)) (mCons (mC (.int 3)) (mCons (m2 powM (mC (.int 10)) (mC (.int 6))) (mCons (mC (.int 1)) (mCons (mC (.int 201)) mNil)))))) (mVar 3)) mNil))) (m2 ixM (mArgs tupM (mCons (mC (.int 5)) (mCons (mC (.int 1)) (mCons (mC (.int 0)) (mCons (mC (.int 0)) (mCons (mC (.int 100)) mNil)))))) (mVar 3))) (gNm 7))
 (mDrop (mML appendM (mVar 4) (mCons (mArgs tupM (mCons (m2 ixM (mVar 1) (mVar 5)) (mCons (mVar 6) (mCons (m2 mulM (mVar 7) (m2 ixM (mArgs tupM (mCons (mC (.int 1)) (mCons (m2 powM (mC (.int 10)) (mC (.int 18))) (mCons (m2 powM (mC (.int 10)) (mC (.int 12))) (mCons (mC (.int 1)) (mCons (mC (.int 1)) mNil)))))) (mVar 3))) mNil)))) mNil)))))))
 (mRet (mVar 4))))))
def law_tree_M : Nat → List D → M D
 | 0 => fun _ _ => .bad
 | n + 1 => mFn 3
   (mSeq (mIf (mTst (m2 eqM (mVar 1) (mArgs lstM mNil)))
   (mRet (mArgs tupM mNil))
   mNx)
   (mSeq (mAsg (mCall 2 law_take_M (mCons (mVar 0) (mCons (mArgs lenM (mCons (mVar 1) mNil)) mNil))) (gNm 2))
   (mRet (mArgs tupM (mCons (mCall 2 (law_tree_M n) (mCons (mVar 0) (mCons (mSlice (mVar 1) mNoPart (mPart (mVar 2))) mNil))) (mCons (m2 ixM (mVar 1) (mVar 2)) (mCons (mCall 2 (law_tree_M n) (mCons (mVar 0) (mCons (mSlice (mVar 1) (mPart (m2 addM (mVar 2) (mC (.int 1)))) mNoPart) mNil))) mNil)))))))
def law_crest_M : Nat → List D → M D
 | 0 => fun _ _ => .bad
 | n + 1 => mFn 3
   (mSeq (mIf (mTst (m2 eqM (mVar 0) (mArgs lstM mNil)))
   (mRet (mArgs tupM mNil))
   mNx)
   (mSeq (mAsg (mC (.int 0)) (gNm 1))
   (mSeq (mFor (mRng1 (mCons (mArgs lenM (mCons (mVar 0) mNil)) mNil)) (gNm 2)
   (mIf (mTst (m2 gtM (m2 ixM (m2 ixM (mVar 0) (mVar 2)) (mC (.int 1))) (m2 ixM (m2 ixM (mVar 0) (mVar 1)) (mC (.int 1)))))
   (mAsg (mVar 2) (gNm 1))
   mNx))
   (mRet (mArgs tupM (mCons (mCall 1 (law_crest_M n) (mCons (mSlice (mVar 0) mNoPart (mPart (mVar 1))) mNil)) (mCons (m2 ixM (mVar 0) (mVar 1)) (mCons (mCall 1 (law_crest_M n) (mCons (mSlice (mVar 0) (mPart (m2 addM (mVar 1) (mC (.int 1)))) mNoPart) mNil)) mNil))))))))
def law_either_M : List D → M D := mFn 2
 (mSeq (mIf (mTst (m2 eqM (mCall 2 law_take_M (mCons (mVar 0) (mCons (mC (.int 2)) mNil))) (mC (.int 0))))
 (mRet (mCall 1 (law_crest_M 80) (mCons (mVar 1) mNil)))
 mNx)
 (mRet (mCall 2 (law_tree_M 80) (mCons (mVar 0) (mCons (mVar 1) mNil)))))
def law_beside_M : List D → M D := mFn 3
 (mSeq (mAsg (mArgs lstM (mCons (m1 negM (mC (.int 1))) (mCons (m2 addM (m2 powM (mC (.int 10)) (mC (.int 18))) (mC (.int 1))) (mCons (m1 negM (m2 powM (mC (.int 10)) (mC (.int 59)))) (mCons (m2 powM (mC (.int 10)) (mC (.int 59))) mNil))))) (gNm 1))
 (mSeq (mFor (mSrc (mVar 0)) (gNm 2)
 (mDrop (mML extendM (mVar 1) (mCons (mArgs lstM (mCons (m2 subM (mVar 2) (mC (.int 1))) (mCons (mVar 2) (mCons (m2 addM (mVar 2) (mC (.int 1))) mNil)))) mNil))))
 (mRet (mVar 1))))
def law_many_M : List D → M D := mFn 3
 (mSeq (mAsg (mCall 2 law_take_M (mCons (mVar 0) (mCons (m2 addM (mVar 1) (mC (.int 1))) mNil))) (gNm 2))
 (mSeq (mIf (mTst (m2 eqM (mCall 2 law_take_M (mCons (mVar 0) (mCons (mC (.int 6)) mNil))) (mC (.int 0))))
 (mAsg (m2 ixM (mArgs tupM (mCons (mC (.int 0)) (mCons (mC (.int 1)) (mCons (mVar 1) mNil)))) (mCall 2 law_take_M (mCons (mVar 0) (mCons (mC (.int 3)) mNil)))) (gNm 2))
 mNx)
 (mRet (mVar 2))))
def worth_of_M : Nat → List D → M D
 | 0 => fun _ _ => .bad
 | n + 1 => mFn 1
   (mSeq (mIf (mTst (m2 eqM (mVar 0) (mArgs tupM mNil)))
   (mRet (mC (.int 0)))
   mNx)
   (mRet (m2 addM (m2 addM (mCall 1 (worth_of_M n) (mCons (m2 ixM (mVar 0) (mC (.int 0))) mNil)) (m2 ixM (m2 ixM (mVar 0) (mC (.int 1))) (mC (.int 2)))) (mCall 1 (worth_of_M n) (mCons (m2 ixM (mVar 0) (mC (.int 2))) mNil)))))
def law_whole2_M : List D → M D := mFn 1
 (mRet (mAndV (mIsi "int" (mVar 0)) (mNotV (mIsi "bool" (mVar 0)))))

theorem many_ok {S : Store} {w : Nat} {m : Int} {E : Exn → Store → Prop} {Q : D → Store → Prop} (hw : PotAt S w) (m0 : 1 ≤ m) (m1 : m ≤ 1000) (q : ∀ x S', 0 ≤ x → x ≤ m → Kp w S S' → Q (.int x) S') :
    wp (law_many_M [.ref w, .int m] S) Q E := by
  unfold law_many_M
  walk_at "ck1"
  refine take_ok hw (by omega) (by omega) fun a S1 a0 a1 k1 l1 => ?_
  simp only [aft_nx]
  walk_at "ck1"
  refine take_ok k1.pt (by omega) (by omega) fun b S2 b0 b1 k2 l2 => ?_
  walk_at "ck1"
  refine stepB (fun _ => ?_) fun _ => ?_
  · refine take_ok k2.pt (by omega) (by omega) fun c S3 c0 c1 k3 l3 => ?_
    walk_at "ck1"
    obtain ⟨x, hx, x0, x1⟩ := at_int (ns := [0, 1, m]) (i := c) (fun x => 0 ≤ x ∧ x ≤ m) (by simp; omega) c0 c1
    refine ⟨_, hx, ?_⟩
    simp only [aft_nx]
    walk_at "ck1"
    exact q x _ x0 x1 ((k1.trans k2).trans k3)
  · simp only [aft_nx]
    walk_at "ck1"
    exact q a _ a0 (by omega) (k1.trans k2)
theorem marks_ok {S : Store} {w : Nat} {m : Int} {E : Exn → Store → Prop} {Q : D → Store → Prop} (hw : PotAt S w) (m0 : 0 ≤ m) (m1 : m ≤ 1000)
    (q : ∀ (ms : List Int) (k : Nat) (S' : Store), Kp w S S' → S.length ≤ k → S'[k]? = some (.lst (ms.map D.int)) → (ms.length : Int) = m → ms.Pairwise (· < ·) → (∀ x ∈ ms, 0 ≤ x ∧ x ≤ 10 ^ 18) → Q (.ref k) S') :
    wp (law_marks_M [.ref w, .int m] S) Q E := by
  unfold law_marks_M
  walk_at "ck1"
  refine take_ok hw (by omega) (by omega) fun wy S1 wy0 wy1 k1 l1 => ?_
  simp only [aft_nx]
  walk_at "ck1"
  refine take_ok k1.pt (by omega) (by omega) fun bg S2 bg0 bg1 k2 l2 => ?_
  simp only [aft_nx]
  walk_at "ck1"
  refine take_ok k2.pt (by omega) (by omega) fun mi S3 mi0 mi1 k3 l3 => ?_
  have k4 := (k1.trans k2).trans k3
  clear k1 k2 k3 l1 l2 l3
  simp only [aft_nx]
  walk_at "ck1"
  simp only [aft_nx, wp_seq]
  refine wp_mono (Q := fun f T => ∃ at' : Int, f = .nx [some (.ref w), some (.int m), some (.int wy), some (.int bg), some (.int mi), some (.int at'), none, none, none] ∧ 0 ≤ at' ∧ at' ≤ 10 ^ 17 ∧ Kp w S T) ?_ ?_
  · walk_at "ck1"
    by_cases c : 0 < bg
    · simp only [gt_iff_lt, c, if_true]
      have hb : bg = 1 ∨ bg = 2 := by omega
      rcases hb with rfl | rfl
      · refine ⟨_, CK.at0, take_ok k4.pt (by decide) (by decide) fun x S4 x0 x1 k5 l5 => ⟨_, CK.at0, ?_⟩⟩
        walk_at "ck1"
        exact ⟨cmul_s (by omega) (by omega) (by decide) (by decide), _, rfl, by omega, by omega, k4.trans k5⟩
      · refine ⟨_, CK.at1, take_ok k4.pt (by decide) (by decide) fun x S4 x0 x1 k5 l5 => ⟨_, CK.at1, ?_⟩⟩
        walk_at "ck1"
        exact ⟨cmul_s (by omega) (by omega) (by decide) (by decide), _, rfl, by omega, by omega, k4.trans k5⟩
    · simp only [gt_iff_lt, c, if_false]
      exact ⟨_, rfl, by omega, by omega, k4⟩
  · rintro f T ⟨at', rfl, at0, at1, kT⟩
    clear k4
    simp only [aft_nx]
    walk_at "ck1"
    have hv : S.length ≤ T.length := kT.ln
    have hwS := hw.lt
    have kT2 : Kp w S (T ++ [.lst []]) := kT.app
    have gv : (T ++ [O.lst []])[T.length]? = some (.lst (([] : List Int).map D.int)) := get_new
    generalize T ++ [O.lst []] = X at kT2 gv
    generalize T.length = v at hv gv
    clear kT
    simp only [aft_nx]
    walk_at "ck1"
    refine ⟨_, rfl, ⟨by omega, by omega⟩, ?_⟩
    refine wp_foR (by unfold FU; omega) (fun j r X => Kp w S X ∧ ∃ (ms : List Int) (a : Int) (z7 : Option D), r = [some (.ref w), some (.int m), some (.int wy), some (.int bg), some (.int mi), some (.int a), some (.ref v), z7, none] ∧ X[v]? = some (.lst (ms.map D.int)) ∧ ms.length = j ∧ ms.Pairwise (· < ·) ∧ (∀ x ∈ ms, 0 ≤ x ∧ x < a) ∧ 0 ≤ a ∧ a ≤ 10 ^ 17 + j * 10 ^ 6)
      ⟨kT2, [], at', none, rfl, gv, rfl, .nil, (fun x h => by cases h), at0, by omega⟩ (fun j r X hj hI => ?_) (fun r X hI => ?_)
    · obtain ⟨kX, ms, a, z7, rfl, gX, rfl, hp, hb, a0, a1⟩ := hI
      walk_at "ck1"
      simp only [gX, lsO_lst, lstO_lst, Option.isSome_some, true_and, Option.some.injEq, exists_eq_left']
      refine ⟨by rw [List.length_map, sizeLine_eq]; omega, ?_⟩
      simp only [aft_nx]
      walk_at "ck1"
      obtain ⟨x, hx, x0, x1⟩ := at_int (ns := [1, 1, 3, 1000000]) (i := wy) (fun x => 0 < x ∧ x ≤ 1000000) (by simp) wy0 wy1
      refine ⟨_, hx, ?_⟩
      have kX2 : Kp w S (X.set v (.lst (ms.map D.int ++ [.int a]))) := kX.setNew hwS hv
      refine take_ok kX2.pt (by omega) (by omega) fun y X3 y0 y1 k3 l3 => ?_
      walk_at "ck1"
      refine ⟨kX2.trans k3, ms ++ [a], _, _, rfl, ?_, by rw [List.length_append]; rfl, ?_, ?_, by omega, by omega⟩
      · rw [List.map_append]
        exact k3.kp v _ (by omega) (List.getElem?_set_self (get_lt gX))
      · rw [List.pairwise_append]
        exact ⟨hp, List.pairwise_singleton _ _, fun x hx y hy => by rw [List.mem_singleton] at hy; subst hy; exact (hb x hx).2⟩
      · intro x hx
        rcases List.mem_append.mp hx with h | h
        · have := hb x h; omega
        · rw [List.mem_singleton] at h; subst h; omega
    · obtain ⟨kX, ms, a, z7, rfl, gX, hl, hp, hb, a0, a1⟩ := hI
      simp only [aft_nx]
      walk_at "ck1"
      refine stepB (fun _ => ?_) fun _ => ?_
      · walk_at "ck1"
        simp only [gX, lsO_lst, Option.some.injEq, exists_eq_left', get_new]
        refine lcGo_list (xs := (ms.map D.int).reverse) (f := fun x => match x with | .int z => some (.int (10 ^ 18 - z)) | _ => none) rfl (by rw [List.length_reverse, List.length_map]; omega) (ls_of get_new) (fun i x acc hx => ?_) ?_
        · rw [← List.map_reverse] at hx
          obtain ⟨z, hz, rfl⟩ := map_get hx
          unfold lcT
          walk_at "ck1"
        · have e : (ms.map D.int).reverse.filterMap (fun x => match x with | .int z => some (D.int (10 ^ 18 - z)) | _ => none) = (ms.reverse.map fun z => 10 ^ 18 - z).map D.int := by
            rw [← List.map_reverse, List.filterMap_map, List.map_map, ← List.filterMap_eq_map]
            rfl
          rw [e]
          simp only [aft_nx]
          walk_at "ck1"
          refine q _ _ _ kX.app.app ?_ get_new ?_ ?_ ?_
          · rw [List.length_append]; have := kX.ln; omega
          · rw [List.length_map, List.length_reverse]; omega
          · rw [List.pairwise_map, List.pairwise_reverse]
            exact hp.imp fun h => by omega
          · intro x hx
            obtain ⟨z, hz, rfl⟩ := List.mem_map.mp hx
            have := hb z (List.mem_reverse.mp hz)
            omega
      · simp only [aft_nx]
        walk_at "ck1"
        exact q ms v X kX hv gX (by omega) hp fun x hx => by have := hb x hx; omega
def CardOk (c : Card) : Prop := (0 ≤ c.1 ∧ c.1 ≤ 10 ^ 18) ∧ (0 ≤ c.2.1 ∧ c.2.1 ≤ 2 * 10 ^ 18) ∧ (-(2 * 10 ^ 18) ≤ c.2.2 ∧ c.2.2 ≤ 2 * 10 ^ 18)
theorem cards_ok {S : Store} {w k : Nat} {ms : List Int} {E : Exn → Store → Prop} {Q : D → Store → Prop} (hw : PotAt S w) (hk : k ≠ w) (hms : S[k]? = some (.lst (ms.map D.int))) (hl : ms.length ≤ 1000) (hb : ∀ x ∈ ms, 0 ≤ x ∧ x ≤ 10 ^ 18)
    (q : ∀ (cs : List Card) (k' : Nat) (S' : Store), Kp w S S' → S.length ≤ k' → S'[k']? = some (.lst (cs.map cd)) → cs.map (·.1) = ms → (∀ c ∈ cs, CardOk c) → Q (.ref k') S') :
    wp (law_cards_M [.ref w, .ref k] S) Q E := by
  unfold law_cards_M
  walk_at "ck1"
  refine take_ok hw (by omega) (by omega) fun wy S1 wy0 wy1 k1 l1 => ?_
  simp only [aft_nx]
  walk_at "ck1"
  refine take_ok k1.pt (by omega) (by omega) fun ga S2 ga0 ga1 k2 l2 => ?_
  have kT := k1.trans k2
  clear k1 k2 l1 l2 
  simp only [aft_nx]
  walk_at "ck1"
  have hv : S.length ≤ S2.length := kT.ln
  have hwS := hw.lt
  have hkS := get_lt hms
  have kT2 : Kp w S (S2 ++ [.lst []]) := kT.app
  have gv : (S2 ++ [O.lst []])[S2.length]? = some (.lst (([] : List Card).map cd)) := get_new
  generalize S2 ++ [O.lst []] = X at kT2 gv
  generalize S2.length = v at hv gv
  clear kT
  simp only [aft_nx]
  walk_at "ck1"
  simp only [kT2.kp k _ hk hms, lenO_lst, List.length_map, Option.some.injEq, exists_eq_left']
  refine ⟨_, rfl, ⟨by omega, by omega⟩, ?_⟩
  refine wp_foR (by unfold FU; omega) (fun j r X => Kp w S X ∧ ∃ (cs : List Card) (z5 z6 z7 : Option D), r = [some (.ref w), some (.ref k), some (.int wy), some (.int ga), some (.ref v), z5, z6, z7] ∧ X[v]? = some (.lst (cs.map cd)) ∧ cs.map (·.1) = ms.take j ∧ (∀ c ∈ cs, CardOk c))
    ⟨kT2, [], none, none, none, rfl, gv, rfl, fun x h => by cases h⟩ (fun j r X hj hI => ?_) (fun r X hI => ?_)
  · obtain ⟨kX, cs, z5, z6, z7, rfl, gX, hcs, hok⟩ := hI
    have hjm : j < ms.length := by omega
    have hcl : cs.length = j := by have := congrArg List.length hcs; rw [List.length_map, List.length_take] at this; omega
    walk_at "ck1"
    obtain ⟨x, hx, x0, x1⟩ := at_int (ns := [3, 200, 1000000, 2, 1, 1]) (i := wy) (fun x => 0 < x ∧ x ≤ 1000000) (by simp) wy0 wy1
    refine ⟨_, hx, ?_⟩
    refine take_ok kX.pt (by omega) (by omega) fun y X3 y0 y1 k3 l3 => ?_
    walk_at "ck1"
    obtain ⟨u, hu, ⟨ua, ub⟩, u0, u1⟩ : ∃ u, atI [D.int 1, D.int 1, D.int 1000000000000, D.int 1000000000000000000, D.int 1, D.int 1] wy = some (.int u) ∧ (0 ≤ u ∧ u ≤ 10 ^ 18) ∧ 0 ≤ y * u ∧ y * u ≤ 10 ^ 18 := by
      have : wy = 0 ∨ wy = 1 ∨ wy = 2 ∨ wy = 3 ∨ wy = 4 ∨ wy = 5 := by omega
      rcases this with rfl | rfl | rfl | rfl | rfl | rfl
      · exact ⟨_, rfl, by omega, by omega, by omega⟩
      · exact ⟨_, rfl, by omega, by omega, by omega⟩
      · exact ⟨_, rfl, by omega, by omega, by omega⟩
      · cases hx; exact ⟨_, rfl, by omega, by omega, by omega⟩
      · exact ⟨_, rfl, by omega, by omega, by omega⟩
      · exact ⟨_, rfl, by omega, by omega, by omega⟩
    refine ⟨_, hu, ?_⟩
    walk_at "ck1"
    refine ⟨cmul_s (by omega) (by omega) (by omega) (by omega), ?_⟩
    simp only [aft_nx]
    walk_at "ck1"
    have kX3 := kX.trans k3
    simp only [kX3.kp k _ hk hms, lenO_lst, List.length_map, Option.some.injEq, exists_eq_left']
    obtain ⟨a, ha, a0, a1⟩ := at_int (ns := [0, 0, 0, 0, (j : Int), (ms.length : Int) - j]) (i := wy) (fun x => 0 ≤ x ∧ x ≤ 1000) (by simp; omega) wy0 wy1
    refine ⟨_, ha, ?_⟩
    walk_at "ck1"
    simp only [aft_nx]
    walk_at "ck1"
    obtain ⟨g1, hg1, g10, g11⟩ := at_int (ns := [11, 3, 1000000, 1, 201]) (i := ga) (fun x => 0 < x ∧ x ≤ 1000000) (by simp) ga0 ga1
    refine ⟨_, hg1, ?_⟩
    refine take_ok kX3.pt (by omega) (by omega) fun g X4 gg0 gg1 k4 l4 => ?_
    have kX4 := kX3.trans k4
    walk_at "ck1"
    obtain ⟨s1, s2, hs1, hs2, b1, b2, b3, b4, b5, b6⟩ : ∃ s1 s2 : Int, atI [D.int 5, D.int 1, D.int 0, D.int 0, D.int 100] ga = some (.int s1) ∧ atI [D.int 1, D.int 1000000000000000000, D.int 1000000000000, D.int 1, D.int 1] ga = some (.int s2) ∧ -1000000 ≤ g - s1 ∧ g - s1 ≤ 1000000 ∧ 0 ≤ s2 ∧ s2 ≤ 10 ^ 18 ∧ -(2 * 10 ^ 18) ≤ (g - s1) * s2 ∧ (g - s1) * s2 ≤ 2 * 10 ^ 18 := by
      have : ga = 0 ∨ ga = 1 ∨ ga = 2 ∨ ga = 3 ∨ ga = 4 := by omega
      rcases this with rfl | rfl | rfl | rfl | rfl
      · exact ⟨_, _, rfl, rfl, by omega, by omega, by omega, by omega, by omega, by omega⟩
      · cases hg1; exact ⟨_, _, rfl, rfl, by omega, by omega, by omega, by omega, by omega, by omega⟩
      · cases hg1; exact ⟨_, _, rfl, rfl, by omega, by omega, by omega, by omega, by omega, by omega⟩
      · exact ⟨_, _, rfl, rfl, by omega, by omega, by omega, by omega, by omega, by omega⟩
      · exact ⟨_, _, rfl, rfl, by omega, by omega, by omega, by omega, by omega, by omega⟩
    refine ⟨_, hs1, ?_⟩
    walk_at "ck1"
    simp only [aft_nx]
    walk_at "ck1"
    have gX4 : X4[v]? = some (.lst (cs.map cd)) := k4.kp v _ (by omega) (k3.kp v _ (by omega) gX)
    simp only [gX4, lsO_lst, lstO_lst, Option.isSome_some, true_and, kX4.kp k _ hk hms, Option.some.injEq, exists_eq_left']
    have hat : atI (ms.map D.int) (j : Nat) = some (.int ms[j]) := at_of' rfl (by rw [List.getElem?_map, List.getElem?_eq_getElem hjm]; rfl)
    refine ⟨_, hat, _, hs2, ?_⟩
    walk_at "ck1"
    refine ⟨cmul_s (by omega) (by omega) (by omega) (by omega), cs.map cd, by rw [gX4]; rfl, by rw [List.length_map, sizeLine_eq]; omega, kX4.setNew hwS hv, cs ++ [(ms[j], y * u + a, (g - s1) * s2)], _, _, _, rfl, ?_, ?_, ?_⟩
    · rw [List.getElem?_set_self (get_lt gX4), List.map_append]; rfl
    · rw [List.map_append, hcs, take_succ (List.getElem?_eq_getElem hjm)]; rfl
    · intro c hc
      rcases List.mem_append.mp hc with h | h
      · exact hok c h
      · rw [List.mem_singleton] at h
        subst h
        have := hb _ (List.getElem_mem hjm)
        exact ⟨this, ⟨by show 0 ≤ y * u + a; omega, by show y * u + a ≤ 2 * 10 ^ 18; omega⟩, ⟨b5, b6⟩⟩
  · obtain ⟨kX, cs, z5, z6, z7, rfl, gX, hcs, hok⟩ := hI
    simp only [aft_nx]
    walk_at "ck1"
    exact q cs v X kX hv gX (by rw [hcs, List.take_of_length_le (by omega)]) hok


inductive Cr : Tr → Prop where
  | e : Cr .e
  | n {l r : Tr} {c : Card} (hl : Cr l) (hr : Cr r) (h1 : ∀ x ∈ l.cards, x.2.1 < c.2.1) (h2 : ∀ x ∈ r.cards, x.2.1 ≤ c.2.1) : Cr (.n l c r)
theorem cut_cards {cs : List Card} {j : Nat} : cutD (cs.map cd) none (some (j : Int)) = (cs.take j).map cd := by rw [cut_to (by omega), Int.toNat_natCast, List.map_take]
theorem cut_cards2 {cs : List Card} {j : Nat} : cutD (cs.map cd) (some ((j : Int) + 1)) none = (cs.drop (j + 1)).map cd := by rw [cut_from (by omega), List.map_drop]; congr 1
theorem tree_ok {w : Nat} {E : Exn → Store → Prop} : ∀ (n : Nat) (cs : List Card) (k : Nat) (S : Store) (Q : D → Store → Prop), PotAt S w → k ≠ w → lsAt S k = some (cs.map cd) → cs.length < n → cs.length ≤ 1000 →
    (∀ (t : Tr) (S' : Store), t.cards = cs → Kp w S S' → Q t.d S') → wp (law_tree_M n [.ref w, .ref k] S) Q E
  | 0, cs, k, S, Q, _, _, _, h, _, _ => by omega
  | n + 1, cs, k, S, Q, hw, hk, hc, hn, hl, q => by
    unfold law_tree_M
    walk_at "ck1"
    refine eq_nil (ls_app hc) ls_new ?_
    walk_at "ck1"
    cases cs with
    | nil => walk_at "ck1"; exact q .e _ rfl (Kp.refl hw).app
    | cons c0 cs0 =>
      generalize hcs : c0 :: cs0 = cs at *
      have hpos : 0 < cs.length := by rw [← hcs]; simp
      have he : cs.isEmpty = false := by rw [← hcs]; rfl
      simp only [he, Bool.false_eq_true, if_false, aft_nx]
      have k0 : Kp w S (S ++ [.lst []]) := (Kp.refl hw).app
      walk_at "ck1"
      have hc0 := ls_app (G := [O.lst []]) hc
      refine ⟨_, len_ls hc0, ?_⟩
      rw [List.length_map]
      refine take_ok k0.pt (by omega) (by omega) fun x S1 x0 x1 k1 l1 => ?_
      obtain ⟨j, rfl⟩ : ∃ j : Nat, x = (j : Int) := ⟨x.toNat, by omega⟩
      have hj : j < cs.length := by omega
      have kS := k0.trans k1
      have hc1 := kS.ls hk hc
      simp only [aft_nx]
      walk_at "ck1"
      refine ⟨_, hc1, ?_⟩
      rw [cut_cards]
      have hlt := kS.ln
      have hwl := hw.lt
      refine tree_ok n (cs.take j) _ _ _ kS.app.pt (by omega) ls_new (by rw [List.length_take]; omega) (by rw [List.length_take]; omega) fun t1 S2 ht1 k2 => ?_
      have kS2 : Kp w S S2 := kS.app.trans k2
      walk_at "ck1"
      refine ⟨_, kS2.ls hk hc, cd cs[j], at_of' rfl (by rw [List.getElem?_map, List.getElem?_eq_getElem hj]; rfl), _, kS2.ls hk hc, ?_⟩
      rw [cut_cards2]
      have hlt2 := kS2.ln
      refine tree_ok n (cs.drop (j + 1)) _ _ _ kS2.app.pt (by omega) ls_new (by rw [List.length_drop]; omega) (by rw [List.length_drop]; omega) fun t2 S3 ht2 k3 => ?_
      walk_at "ck1"
      refine q (.n t1 cs[j] t2) S3 ?_ (kS2.app.trans k3)
      rw [Tr.cards, ht1, ht2, List.getElem_cons_drop, List.take_append_drop]
theorem crest_ok {E : Exn → Store → Prop} : ∀ (n : Nat) (cs : List Card) (k : Nat) (S : Store) (Q : D → Store → Prop), lsAt S k = some (cs.map cd) → cs.length < n → cs.length ≤ 1000 →
    (∀ (t : Tr) (G : Store), t.cards = cs → Cr t → Q t.d (S ++ G)) → wp (law_crest_M n [.ref k] S) Q E
  | 0, cs, k, S, Q, _, h, _, _ => by omega
  | n + 1, cs, k, S, Q, hc, hn, hl, q => by
    unfold law_crest_M
    walk_at "ck1"
    refine eq_nil (ls_app hc) ls_new ?_
    walk_at "ck1"
    cases cs with
    | nil => walk_at "ck1"; exact q .e _ rfl .e
    | cons c0 cs0 =>
      generalize hcs : c0 :: cs0 = cs at *
      have hpos : 0 < cs.length := by rw [← hcs]; simp
      have he : cs.isEmpty = false := by rw [← hcs]; rfl
      simp only [he, Bool.false_eq_true, if_false, aft_nx]
      walk_at "ck1"
      simp only [aft_nx]
      walk_at "ck1"
      have hc0 := ls_app (G := [O.lst []]) hc
      refine ⟨_, len_ls hc0, _, rfl, ⟨by omega, by rw [List.length_map]; omega⟩, ?_⟩
      rw [List.length_map]
      refine wp_foR (by unfold FU; omega) (fun i r T => T = S ++ [.lst []] ∧ ∃ (b : Nat) (z : Option D), r = [some (.ref k), some (.int b), z] ∧ ∃ hb : b < cs.length, (∀ x ∈ cs.take b, x.2.1 < cs[b].2.1) ∧ (∀ x ∈ (cs.take i), x.2.1 ≤ cs[b].2.1)) ⟨rfl, 0, none, rfl, hpos, (fun x h => by cases h), (fun x h => by cases h)⟩ (fun i r T hi hI => ?_) (fun r T hI => ?_)
      · obtain ⟨rfl, b, z, rfl, hb, h1, h2⟩ := hI
        have hi' : i < cs.length := by omega
        have ati : atI (cs.map cd) (i : Nat) = some (cd cs[i]) := at_of' rfl (by rw [List.getElem?_map, List.getElem?_eq_getElem hi']; rfl)
        have atb : atI (cs.map cd) (b : Nat) = some (cd cs[b]) := at_of' rfl (by rw [List.getElem?_map, List.getElem?_eq_getElem hb]; rfl)
        walk_at "ck1"
        refine ⟨_, hc0, _, ati, ?_⟩
        simp only [cd]
        walk_at "ck1"
        refine ⟨_, hc0, _, atb, ?_⟩
        simp only [cd]
        walk_at "ck1"
        have tk := take_succ (List.getElem?_eq_getElem hi')
        by_cases cc : cs[b].2.1 < cs[i].2.1
        · rw [if_pos cc]
          refine ⟨i, _, rfl, hi', fun x hx => ?_, fun x hx => ?_⟩
          · have := h2 x hx; omega
          · rw [tk] at hx
            rcases List.mem_append.mp hx with h | h
            · have := h2 x h; omega
            · rw [List.mem_singleton] at h; subst h; omega
        · rw [if_neg cc]
          refine ⟨b, _, rfl, hb, h1, fun x hx => ?_⟩
          rw [tk] at hx
          rcases List.mem_append.mp hx with h | h
          · exact h2 x h
          · rw [List.mem_singleton] at h; subst h; omega
      · obtain ⟨rfl, b, z, rfl, hb, h1, h2⟩ := hI
        rw [List.take_of_length_le (by omega)] at h2
        simp only [aft_nx]
        walk_at "ck1"
        refine ⟨_, hc0, ?_⟩
        rw [cut_cards]
        refine crest_ok n (cs.take b) _ _ _ ls_new (by rw [List.length_take]; omega) (by rw [List.length_take]; omega) fun t1 G1 ht1 hc1 => ?_
        walk_at "ck1"
        have hcA := ls_app (G := G1) (ls_app (G := [O.lst (List.map cd (List.take b cs))]) hc0)
        refine ⟨_, hcA, cd cs[b], at_of' rfl (by rw [List.getElem?_map, List.getElem?_eq_getElem hb]; rfl), _, hcA, ?_⟩
        rw [cut_cards2]
        refine crest_ok n (cs.drop (b + 1)) _ _ _ ls_new (by rw [List.length_drop]; omega) (by rw [List.length_drop]; omega) fun t2 G2 ht2 hc2 => ?_
        walk_at "ck1"
        simp only [List.append_assoc]
        refine q (.n t1 cs[b] t2) _ ?_ (.n hc1 hc2 ?_ ?_)
        · rw [Tr.cards, ht1, ht2, List.getElem_cons_drop, List.take_append_drop]
        · rw [ht1]; exact h1
        · rw [ht2]; exact fun x hx => h2 x (List.mem_of_mem_drop hx)
theorem either_ok {S : Store} {w k : Nat} {cs : List Card} {E : Exn → Store → Prop} {Q : D → Store → Prop} (hw : PotAt S w) (hk : k ≠ w) (hc : lsAt S k = some (cs.map cd)) (hl : cs.length < 80)
    (q : ∀ (t : Tr) (S' : Store), t.cards = cs → Kp w S S' → Q t.d S') : wp (law_either_M [.ref w, .ref k] S) Q E := by
  unfold law_either_M
  walk_at "ck1"
  refine take_ok hw (by omega) (by omega) fun x S1 x0 x1 k1 l1 => ?_
  walk_at "ck1"
  refine stepB (fun _ => ?_) fun _ => ?_
  · refine crest_ok 80 cs k S1 _ (k1.ls hk hc) hl (by omega) fun t G ht _ => ?_
    exact q t _ ht k1.app
  · simp only [aft_nx]
    walk_at "ck1"
    exact tree_ok 80 cs k S1 _ k1.pt hk (k1.ls hk hc) hl (by omega) fun t S' ht k2 => q t S' ht (k1.trans k2)
theorem beside_ok {S : Store} {k : Nat} {ms : List Int} {E : Exn → Store → Prop} {Q : D → Store → Prop} (hm : S[k]? = some (.lst (ms.map D.int))) (hl : ms.length ≤ 1000) (hb : ∀ x ∈ ms, 0 ≤ x ∧ x ≤ 10 ^ 18)
    (q : ∀ (xs : List Int) (G : Store), (S ++ G)[S.length]? = some (.lst (xs.map D.int)) → 4 ≤ xs.length → xs.length = 4 + 3 * ms.length → (∀ x ∈ xs, -(10 ^ 59) ≤ x ∧ x ≤ 10 ^ 59) → Q (.ref S.length) (S ++ G)) : wp (law_beside_M [.ref k] S) Q E := by
  unfold law_beside_M
  walk_at "ck1"
  have hk := get_lt hm
  simp only [aft_nx]
  walk_at "ck1"
  refine ⟨_, ls_of (get_old hm), ?_⟩
  refine wp_foL (xs := ms.map D.int) (by rw [List.length_map]; unfold FU; omega) (fun i r T => ∃ (xs : List Int) (G : Store) (z : Option D), T = S ++ (.lst (xs.map D.int)) :: G ∧ r = [some (.ref k), some (.ref S.length), z] ∧ xs.length = 4 + 3 * i ∧ (∀ x ∈ xs, -(10 ^ 59) ≤ x ∧ x ≤ 10 ^ 59))
    ⟨[-1, 10 ^ 18 + 1, -(10 ^ 59), 10 ^ 59], [], none, rfl, rfl, rfl, by decide⟩ (fun i r T hI => ?_) (fun i x r T hx hI => ?_) (fun r T hI => ?_)
  · obtain ⟨xs, G, z, rfl, _⟩ := hI; exact ls_of (get_old hm)
  · obtain ⟨xs, G, z, rfl, rfl, hxl, hxb⟩ := hI
    have hi : i < ms.length := by have := get_lt hx; rwa [List.length_map] at this
    obtain ⟨m, hm2, rfl⟩ := map_get hx
    have hmb := hb m (List.mem_of_getElem? hm2)
    have g1 : (S ++ (O.lst (xs.map D.int)) :: G)[S.length]? = some (.lst (xs.map D.int)) := by simp
    walk_at "ck1"
    refine ⟨by rw [g1]; rfl, ?_⟩
    simp only [get_new, lstO_lst, Option.some.injEq, exists_eq_left']
    refine ⟨xs.map D.int, by rw [get_old g1]; rfl, by rw [List.length_map, sizeLine_eq]; simp; omega, xs ++ [m - 1, m, m + 1], G ++ [.lst [.int (m - 1), .int m, .int (m + 1)]], ?_, _, rfl, ?_, ?_⟩
    · rw [List.map_append]; simp
    · rw [List.length_append, hxl]; simp; omega
    · intro y hy
      rcases List.mem_append.mp hy with h | h
      · exact hxb y h
      · simp only [List.mem_cons, List.not_mem_nil, or_false] at h
        rcases h with rfl | rfl | rfl <;> omega
  · obtain ⟨xs, G, z, rfl, rfl, hxl, hxb⟩ := hI
    rw [List.length_map] at hxl
    simp only [aft_nx]
    walk_at "ck1"
    exact q xs _ (by simp) (by omega) hxl hxb

def sumW (cs : List Card) : Int := (cs.map (·.2.2)).sum
theorem worth_ok {E : Exn → Store → Prop} {S : Store} : ∀ (n : Nat) (t : Tr) (Q : D → Store → Prop), t.ht < n → t.ht ≤ 150 → Q (.int (sumW t.cards)) S → wp (worth_of_M n [t.d] S) Q E
  | 0, t, Q, h, _, _ => by omega
  | n + 1, t, Q, h, h2, q => by
    unfold worth_of_M
    walk_at "ck1"
    rw [wp_eqE h2]
    walk_at "ck1"
    cases t with
    | e => walk_at "ck1"; exact q
    | n l c r =>
      simp only [Tr.ht] at h h2
      simp only [Tr.isE, Bool.false_eq_true, if_false, aft_nx]
      simp only [Tr.d]
      walk_at "ck1"
      refine worth_ok n l _ (by omega) (by omega) ?_
      simp only [cd]
      walk_at "ck1"
      refine worth_ok n r _ (by omega) (by omega) ?_
      walk_at "ck1"
      rw [Tr.cards, sumW, List.map_append, List.sum_append, List.map_cons, List.sum_cons] at q
      rw [show sumW l.cards + c.2.2 + sumW r.cards = (l.cards.map (·.2.2)).sum + (c.2.2 + (r.cards.map (·.2.2)).sum) by unfold sumW; omega]
      exact q
theorem whole2_ok {S : Store} {d : D} {t : String} {E : Exn → Store → Prop} {Q : D → Store → Prop} (ht : tyN d S = some t) (q : Q (.bl (match d with | .int _ => true | _ => false)) S) : wp (law_whole2_M [d] S) Q E := is_number_ok ht q
end Lib
end CK
end

section
set_option Elab.async false
set_option linter.all false
set_option exponentiation.threshold 100000
set_option maxRecDepth 100000
set_option maxHeartbeats 4000000
namespace CK
namespace Lib
open PySem PySem.Spec PyProof.Rows L2
local macro_rules | `(tactic| walk_at "ck") => `(tactic| try simp only [wp_seq, wp_asg, wp_if, wp_ret, wp_retN, wp_drop, wp_fn, wp_var0, wp_varS, wp_mC, wp_m2, wp_m1, wp_nil, wp_cons, wp_args, wp_call, wp_tst, wp_and, wp_or, wp_not, wp_andV, wp_orV, wp_notV, wp_ifE, wp_chain, wp_nx, wp_brk, wp_cnt, aft_nx, aft_rt, aft_bk, aft_ct, aft_xc, fin_rt, fin_nx, fin_xc, fin_bk, fin_ct, wp_gNm, wp_gTp, wp_gsNil, wp_gsCons, wp_gSub, wp_par, wp_par3, wp_i0, wp_iC, wp_addI, wp_addT, wp_mulI, wp_neg, wp_tup, wp_lst, sz0, sz1, sz2, sz3, sz4, sz5, sz6, sz7, sz8, wp_yes, wp_ixT, wp_ixL, wp_setL, wp_isi, tyN, isi_ii, isi_ib, isi_bi, isi_bb, isi_nb, isi_ni, isi_ns, isi_nt, isi_nl, isi_nd, isi_bs, isi_bt, isi_bl, isi_bd, isi_is, isi_it, isi_il, isi_id, isi_sb, isi_si, isi_ss, isi_st, isi_sl, isi_sd, isi_tb, isi_ti, isi_ts, isi_tt, isi_tl, isi_td, isi_lb, isi_li, isi_ls, isi_lt, isi_ll, isi_ld, isi_db, isi_di, isi_ds, isi_dt, isi_dl, isi_dd, wp_slice, wp_noPart, wp_part, asInt_int, wp_slT, wp_slL, wp_mulT, wp_src, wp_lc, wipeE, D.ref.injEq, D.tup.injEq, reduceCtorEq, false_and, exists_false, false_or, or_false, cpt2, cpt3, cpt4, cpt5, cpt6, cpt7, cpt8, cpt9, cpt10, cpt11, cpt12, cpt13, cpt14, cpt15, cpt16, cpt17, cpt18, cpt19, cpt20, cpt24, cpt30, cpt36, cpt40, cpt48, cpt50, cpt58, cpt59, cpt60, wp_extend, wp_revL, exists_and_left, wp_ML, wp_ML0, isLs_ref, wp_append, wp_pop, wp_tupleR, wp_tupleT, wp_listR, wp_listT, wp_all, wp_any, wp_sum, wp_notB, wp_isB, wp_isN, wp_notN, Option.isSome_some, wp_rng1, wp_rng2, wp_rng3, lsAt, lsO_lst, lsO_fro, lstO_lst, wp_lenR, lenO_lst, lenO_fro, lenO_dK, List.length_map, List.getElem?_cons_zero, List.getElem?_cons_succ, wp_dnew, wp_dget, wp_din, wp_dnin, wp_dg1, wp_dput, wp_dpop, wp_MD, isDk_ref, dkO_dK, keyD_int, keyD_str, wp_lrg1, wp_trg1, wp_MS, isStrB_str, wp_sindex, wp_isiT, wp_strI, wp_eqS, wp_neS, wp_eqI, wp_neI, wp_eqB, wp_neB, wp_abs, wp_intI, wp_intB, wp_max2, wp_min2, wp_lenT, wp_for, wp_ok, wp_bad, lp_nx, lp_ct, lp_bk, lp_rt, lp_xc, asBl_bl, at0, at1, at2, List.map_cons, List.map_nil, List.cons_append, List.nil_append, List.length_cons, List.length_nil, List.replicate, List.set_cons_zero, List.set_cons_succ, Nat.reduceAdd, Int.reduceToNat, Int.reducePow, Int.reduceNeg, Int.reduceMul, Int.reduceAdd, Int.reduceSub, Int.reduceMod, Int.reduceDiv, Int.reduceLT, Int.reduceLE, Int.zero_mul, Int.zero_add, Int.cast_ofNat_Int, Int.reduceBEq, Nat.reduceLeDiff, Nat.reduceEqDiff, true_and, and_true, Nat.reduceSub, if_true, Option.some.injEq, exists_eq_left', Bool.not_true, Bool.not_false, decide_eq_true_eq, Bool.false_eq_true, if_false])
local macro_rules | `(tactic| walk_at "cks") => `(tactic| try simp only [wp_seq, wp_asg, wp_if, wp_ret, wp_retN, wp_drop, wp_fn, wp_var0, wp_varS, wp_mC, wp_m2, wp_m1, wp_nil, wp_cons, wp_args, wp_call, wp_tst, wp_and, wp_or, wp_not, wp_andV, wp_orV, wp_notV, wp_ifE, wp_chain, wp_nx, wp_brk, wp_cnt, aft_nx, aft_rt, aft_bk, aft_ct, aft_xc, fin_rt, fin_nx, fin_xc, fin_bk, fin_ct, wp_gNm, wp_gTp, wp_gsNil, wp_gsCons, wp_gSub, wp_par, wp_par3, wp_i0, wp_iC, wp_addI, wp_addT, wp_mulI, wp_neg, wp_tup, wp_lst, sz0, sz1, sz2, sz3, sz4, sz5, sz6, sz7, sz8, wp_yes, wp_ixT, wp_ixL, wp_setL, wp_isi, tyN, isi_ii, isi_ib, isi_bi, isi_bb, isi_nb, isi_ni, isi_ns, isi_nt, isi_nl, isi_nd, isi_bs, isi_bt, isi_bl, isi_bd, isi_is, isi_it, isi_il, isi_id, isi_sb, isi_si, isi_ss, isi_st, isi_sl, isi_sd, isi_tb, isi_ti, isi_ts, isi_tt, isi_tl, isi_td, isi_lb, isi_li, isi_ls, isi_lt, isi_ll, isi_ld, isi_db, isi_di, isi_ds, isi_dt, isi_dl, isi_dd, wp_slice, wp_noPart, wp_part, asInt_int, wp_slT, wp_slL, wp_mulT, wp_src, wp_lc, wipeE, D.ref.injEq, D.tup.injEq, reduceCtorEq, false_and, exists_false, false_or, or_false, cpt2, cpt3, cpt4, cpt5, cpt6, cpt7, cpt8, cpt9, cpt10, cpt11, cpt12, cpt13, cpt14, cpt15, cpt16, cpt17, cpt18, cpt19, cpt20, cpt24, cpt30, cpt36, cpt40, cpt48, cpt50, cpt58, cpt59, cpt60, wp_extend, wp_revL, exists_and_left, wp_ML, wp_ML0, isLs_ref, wp_append, wp_pop, wp_tupleR, wp_tupleT, wp_listR, wp_listT, wp_all, wp_any, wp_sum, wp_notB, wp_isB, wp_isN, wp_notN, Option.isSome_some, wp_rng1, wp_rng2, wp_rng3, lsAt, lsO_lst, lsO_fro, lstO_lst, wp_lenR, lenO_lst, lenO_fro, lenO_dK, List.length_map, List.getElem?_cons_zero, List.getElem?_cons_succ, wp_dnew, wp_dget, wp_din, wp_dnin, wp_dg1, wp_dput, wp_dpop, wp_MD, isDk_ref, dkO_dK, keyD_int, keyD_str, wp_lrg1, wp_trg1, wp_MS, isStrB_str, wp_sindex, wp_isiT, wp_strI, wp_eqS, wp_neS, wp_eqI, wp_neI, wp_eqB, wp_neB, wp_abs, wp_intI, wp_intB, wp_max2, wp_min2, wp_lenT, wp_for, wp_ok, wp_bad, lp_nx, lp_ct, lp_bk, lp_rt, lp_xc, asBl_bl, at0, at1, at2, List.map_cons, List.map_nil, List.cons_append, List.nil_append, List.length_cons, List.length_nil, List.replicate, List.set_cons_zero, List.set_cons_succ, Nat.reduceAdd, Int.reduceToNat, Int.reducePow, Int.reduceNeg, Int.reduceMul, Int.reduceAdd, Int.reduceSub, Int.reduceMod, Int.reduceDiv, Int.reduceLT, Int.reduceLE, Int.zero_mul, Int.zero_add, Int.cast_ofNat_Int, Int.reduceBEq, Nat.reduceLeDiff, Nat.reduceEqDiff, true_and, and_true, Nat.reduceSub, if_true, Option.some.injEq, exists_eq_left', Bool.not_true, Bool.not_false, decide_eq_true_eq, Bool.false_eq_true, if_false, *])
local macro_rules | `(tactic| walk_at "ck1") => `(tactic| try simp only [wp_seq, wp_asg, wp_if, wp_ret, wp_retN, wp_drop, wp_fn, wp_var0, wp_varS, wp_mC, wp_m2, wp_m1, wp_nil, wp_cons, wp_args, wp_call, wp_tst, wp_and, wp_or, wp_not, wp_andV, wp_orV, wp_notV, wp_ifE, wp_chain, wp_nx, wp_brk, wp_cnt, aft_rt, aft_bk, aft_ct, aft_xc, fin_rt, fin_nx, fin_xc, fin_bk, fin_ct, wp_gNm, wp_gTp, wp_gsNil, wp_gsCons, wp_gSub, wp_par, wp_par3, wp_i0, wp_iC, wp_addI, wp_addT, wp_mulI, wp_neg, wp_tup, wp_lst, sz0, sz1, sz2, sz3, sz4, sz5, sz6, sz7, sz8, wp_yes, wp_ixT, wp_ixL, wp_setL, wp_isi, tyN, isi_ii, isi_ib, isi_bi, isi_bb, isi_nb, isi_ni, isi_ns, isi_nt, isi_nl, isi_nd, isi_bs, isi_bt, isi_bl, isi_bd, isi_is, isi_it, isi_il, isi_id, isi_sb, isi_si, isi_ss, isi_st, isi_sl, isi_sd, isi_tb, isi_ti, isi_ts, isi_tt, isi_tl, isi_td, isi_lb, isi_li, isi_ls, isi_lt, isi_ll, isi_ld, isi_db, isi_di, isi_ds, isi_dt, isi_dl, isi_dd, wp_slice, wp_noPart, wp_part, asInt_int, wp_slT, wp_slL, wp_mulT, wp_src, wp_lc, wipeE, D.ref.injEq, D.tup.injEq, reduceCtorEq, false_and, exists_false, false_or, or_false, cpt2, cpt3, cpt4, cpt5, cpt6, cpt7, cpt8, cpt9, cpt10, cpt11, cpt12, cpt13, cpt14, cpt15, cpt16, cpt17, cpt18, cpt19, cpt20, cpt24, cpt30, cpt36, cpt40, cpt48, cpt50, cpt58, cpt59, cpt60, wp_extend, wp_revL, exists_and_left, wp_ML, wp_ML0, isLs_ref, wp_append, wp_pop, wp_tupleR, wp_tupleT, wp_listR, wp_listT, wp_all, wp_any, wp_sum, wp_notB, wp_isB, wp_isN, wp_notN, Option.isSome_some, wp_rng1, wp_rng2, wp_rng3, lsAt, lsO_lst, lsO_fro, lstO_lst, wp_lenR, lenO_lst, lenO_fro, lenO_dK, List.length_map, List.getElem?_cons_zero, List.getElem?_cons_succ, wp_dnew, wp_dget, wp_din, wp_dnin, wp_dg1, wp_dput, wp_dpop, wp_MD, isDk_ref, dkO_dK, keyD_int, keyD_str, wp_lrg1, wp_trg1, wp_MS, isStrB_str, wp_sindex, wp_isiT, wp_strI, wp_eqS, wp_neS, wp_eqI, wp_neI, wp_eqB, wp_neB, wp_abs, wp_intI, wp_intB, wp_max2, wp_min2, wp_lenT, wp_for, wp_ok, wp_bad, lp_nx, lp_ct, lp_bk, lp_rt, lp_xc, asBl_bl, at0, at1, at2, List.map_cons, List.map_nil, List.cons_append, List.nil_append, List.length_cons, List.length_nil, List.replicate, List.set_cons_zero, List.set_cons_succ, Nat.reduceAdd, Int.reduceToNat, Int.reducePow, Int.reduceNeg, Int.reduceMul, Int.reduceAdd, Int.reduceSub, Int.reduceMod, Int.reduceDiv, Int.reduceLT, Int.reduceLE, Int.zero_mul, Int.zero_add, Int.cast_ofNat_Int, Int.reduceBEq, Nat.reduceLeDiff, Nat.reduceEqDiff, true_and, and_true, Nat.reduceSub, if_true, Option.some.injEq, exists_eq_left', Bool.not_true, Bool.not_false, decide_eq_true_eq, Bool.false_eq_true, if_false])
def hung_in_M : Nat → List D → M D
 | 0 => fun _ _ => .bad
 | n + 1 => mFn 5
   (mSeq (mIf (mTst (m2 eqM (mVar 0) (mArgs tupM mNil)))
   (mRet (mArgs lstM mNil))
   mNx)
   (mSeq (mAsg (mVar 0) (gTp 3 (gsCons (gNm 2) (gsCons (gNm 3) (gsCons (gNm 4) gsNil)))))
   (mRet (m2 addM (m2 addM (mCall 2 (hung_in_M n) (mCons (mVar 2) (mCons (mVar 3) mNil))) (mArgs lstM (mCons (mArgs tupM (mCons (mVar 3) (mCons (mVar 1) mNil))) mNil))) (mCall 2 (hung_in_M n) (mCons (mVar 4) (mCons (mVar 3) mNil)))))))
def cards_in_M : List D → M D := mFn 3
 (mRet (mLc (mSrc (mCall 2 (hung_in_M 80) (mCons (mVar 0) (mCons (mC .non) mNil)))) (gTp 2 (gsCons (gNm 1) (gsCons (gNm 2) gsNil))) mYes (mVar 1) [1, 2]))
def outranks_M : List D → M D := mFn 2
 (mSeq (mIf (mTst (m2 neM (m2 ixM (mVar 0) (mC (.int 1))) (m2 ixM (mVar 1) (mC (.int 1)))))
 (mRet (m2 gtM (m2 ixM (mVar 0) (mC (.int 1))) (m2 ixM (mVar 1) (mC (.int 1)))))
 mNx)
 (mRet (m2 ltM (m2 ixM (mVar 0) (mC (.int 0))) (m2 ixM (mVar 1) (mC (.int 0))))))
def woven_M : Nat → List D → M D
 | 0 => fun _ _ => .bad
 | n + 1 => mFn 2
   (mSeq (mIf (mTst (m2 eqM (mVar 0) (mArgs tupM mNil)))
   (mRet (mVar 1))
   mNx)
   (mSeq (mIf (mTst (m2 eqM (mVar 1) (mArgs tupM mNil)))
   (mRet (mVar 0))
   mNx)
   (mSeq (mIf (mTst (mCall 2 outranks_M (mCons (m2 ixM (mVar 0) (mC (.int 1))) (mCons (m2 ixM (mVar 1) (mC (.int 1))) mNil))))
   (mRet (mArgs tupM (mCons (m2 ixM (mVar 0) (mC (.int 0))) (mCons (m2 ixM (mVar 0) (mC (.int 1))) (mCons (mCall 2 (woven_M n) (mCons (m2 ixM (mVar 0) (mC (.int 2))) (mCons (mVar 1) mNil))) mNil)))))
   mNx)
   (mRet (mArgs tupM (mCons (mCall 2 (woven_M n) (mCons (mVar 0) (mCons (m2 ixM (mVar 1) (mC (.int 0))) mNil))) (mCons (m2 ixM (mVar 1) (mC (.int 1))) (mCons (m2 ixM (mVar 1) (mC (.int 2))) mNil))))))))
def joined_M : List D → M D := mFn 4
 (mSeq (mAsg (mCall 1 cards_in_M (mCons (mVar 0) mNil)) (gNm 2))
 (mSeq (mAsg (mCall 1 cards_in_M (mCons (mVar 1) mNil)) (gNm 3))
 (mSeq (mIf (mAnd (mTst (m2 neM (mVar 2) (mArgs lstM mNil))) (mAnd (mTst (m2 neM (mVar 3) (mArgs lstM mNil))) (mTst (m2 geM (m2 ixM (m2 ixM (mVar 2) (m1 negM (mC (.int 1)))) (mC (.int 0))) (m2 ixM (m2 ixM (mVar 3) (mC (.int 0))) (mC (.int 0)))))))
 mNever
 mNx)
 (mSeq (mIf (mTst (m2 gtM (m2 addM (mArgs lenM (mCons (mVar 2) mNil)) (mArgs lenM (mCons (mVar 3) mNil))) (mC (.int 64))))
 mNever
 mNx)
 (mRet (mCall 2 (woven_M 80) (mCons (mVar 0) (mCons (mVar 1) mNil))))))))
def sifted_M : Nat → List D → M D
 | 0 => fun _ _ => .bad
 | n + 1 => mFn 5
   (mSeq (mIf (mTst (m2 eqM (mVar 0) (mArgs tupM mNil)))
   (mRet (mArgs tupM mNil))
   mNx)
   (mSeq (mAsg (mCall 3 (sifted_M n) (mCons (m2 ixM (mVar 0) (mC (.int 0))) (mCons (mVar 1) (mCons (mVar 2) mNil)))) (gNm 3))
   (mSeq (mAsg (mCall 3 (sifted_M n) (mCons (m2 ixM (mVar 0) (mC (.int 2))) (mCons (mVar 1) (mCons (mVar 2) mNil)))) (gNm 4))
   (mSeq (mIf (mTst (m2 eqM (m2 dinM (m2 ixM (m2 ixM (mVar 0) (mC (.int 1))) (mC (.int 0))) (mVar 1)) (mVar 2)))
   (mRet (mArgs tupM (mCons (mVar 3) (mCons (m2 ixM (mVar 0) (mC (.int 1))) (mCons (mVar 4) mNil)))))
   mNx)
   (mRet (mCall 2 joined_M (mCons (mVar 3) (mCons (mVar 4) mNil))))))))
def keyed_M : List D → M D := mFn 3
 (mSeq (mAsg dnewM (gNm 1))
 (mSeq (mFor (mSrc (mCall 1 cards_in_M (mCons (mVar 0) mNil))) (gNm 2)
 (mAsg (mVar 2) (gSubM (mVar 1) (m2 ixM (mVar 2) (mC (.int 0))) dputM)))
 (mRet (mVar 1))))
def without_M : List D → M D := mFn 2
 (mRet (mCall 3 (sifted_M 80) (mCons (mVar 0) (mCons (mCall 1 keyed_M (mCons (mVar 1) mNil)) (mCons (mC (.bl false)) mNil)))))
def split_M : Nat → List D → M D
 | 0 => fun _ _ => .bad
 | n + 1 => mFn 7
   (mSeq (mIf (mTst (m2 eqM (mVar 0) (mArgs tupM mNil)))
   (mRet (mArgs tupM (mCons (mArgs tupM mNil) (mCons (mArgs tupM mNil) mNil))))
   mNx)
   (mSeq (mAsg (mVar 0) (gTp 3 (gsCons (gNm 2) (gsCons (gNm 3) (gsCons (gNm 4) gsNil)))))
   (mSeq (mIf (mTst (m2 ltM (m2 ixM (mVar 3) (mC (.int 0))) (mVar 1)))
   (mSeq (mAsg (mCall 2 (split_M n) (mCons (mVar 4) (mCons (mVar 1) mNil))) (gTp 2 (gsCons (gNm 5) (gsCons (gNm 6) gsNil))))
   (mRet (mArgs tupM (mCons (mArgs tupM (mCons (mVar 2) (mCons (mVar 3) (mCons (mVar 5) mNil)))) (mCons (mVar 6) mNil)))))
   mNx)
   (mSeq (mAsg (mCall 2 (split_M n) (mCons (mVar 2) (mCons (mVar 1) mNil))) (gTp 2 (gsCons (gNm 5) (gsCons (gNm 6) gsNil))))
   (mRet (mArgs tupM (mCons (mVar 5) (mCons (mArgs tupM (mCons (mVar 6) (mCons (mVar 3) (mCons (mVar 4) mNil)))) mNil))))))))
def laid_together_M : Nat → List D → M D
 | 0 => fun _ _ => .bad
 | n + 1 => mFn 4
   (mSeq (mIf (mTst (m2 eqM (mVar 0) (mArgs tupM mNil)))
   (mRet (mVar 1))
   mNx)
   (mSeq (mIf (mTst (m2 eqM (mVar 1) (mArgs tupM mNil)))
   (mRet (mVar 0))
   mNx)
   (mSeq (mIf (mTst (mCall 2 outranks_M (mCons (m2 ixM (mVar 1) (mC (.int 1))) (mCons (m2 ixM (mVar 0) (mC (.int 1))) mNil))))
   (mPar 0 1 (mCons (mVar 1) (mCons (mVar 0) mNil)))
   mNx)
   (mSeq (mAsg (mCall 2 (split_M 80) (mCons (mVar 1) (mCons (m2 ixM (m2 ixM (mVar 0) (mC (.int 1))) (mC (.int 0))) mNil))) (gTp 2 (gsCons (gNm 2) (gsCons (gNm 3) gsNil))))
   (mRet (mArgs tupM (mCons (mCall 2 (laid_together_M n) (mCons (m2 ixM (mVar 0) (mC (.int 0))) (mCons (mVar 2) mNil))) (mCons (m2 ixM (mVar 0) (mC (.int 1))) (mCons (mCall 2 (laid_together_M n) (mCons (m2 ixM (mVar 0) (mC (.int 2))) (mCons (mVar 3) mNil))) mNil)))))))))
def together_M : List D → M D := mFn 3
 (mSeq (mAsg (mCall 2 without_M (mCons (mVar 1) (mCons (mVar 0) mNil))) (gNm 2))
 (mSeq (mIf (mTst (m2 gtM (m2 addM (mArgs lenM (mCons (mCall 1 cards_in_M (mCons (mVar 0) mNil)) mNil)) (mArgs lenM (mCons (mCall 1 cards_in_M (mCons (mVar 2) mNil)) mNil))) (mC (.int 64))))
 mNever
 mNx)
 (mRet (mCall 2 (laid_together_M 80) (mCons (mVar 0) (mCons (mVar 2) mNil))))))
section
variable {E : Exn → Store → Prop} {S : Store} {Q : D → Store → Prop}
theorem wp_addL {i j : Nat} : wp (addM (.ref i) (.ref j) S) Q E = ∃ xs, lstO S[i]? = some xs ∧ ∃ ys, lstO S[j]? = some ys ∧ xs.length + ys.length ≤ sizeLine ∧ Q (.ref S.length) (S ++ [.lst (xs ++ ys)]) := by
  show wp (match lstO S[i]?, lstO S[j]? with | some xs, some ys => if xs.length + ys.length ≤ sizeLine then .ok (.ref S.length) (S ++ [.lst (xs ++ ys)]) else .bad | _, _ => .bad) Q E = _
  cases h1 : lstO S[i]? with
  | none => simp [wp_bad]
  | some xs =>
    cases h2 : lstO S[j]? with
    | none => simp [wp_bad]
    | some ys => by_cases h : xs.length + ys.length ≤ sizeLine <;> simp [h, wp_ok, wp_bad]
theorem lstO_of {k : Nat} {xs : List D} (h : S[k]? = some (.lst xs)) : lstO S[k]? = some xs := by rw [h]; rfl
theorem lsO_of {k : Nat} {xs : List D} (h : S[k]? = some (.lst xs)) : lsO S[k]? = some xs := by rw [h]; rfl
end

def Or (a b : Card) : Prop := b.2.1 < a.2.1 ∨ (b.2.1 = a.2.1 ∧ a.1 < b.1)
instance (a b : Card) : Decidable (Or a b) := inferInstanceAs (Decidable (_ ∨ _))
theorem Or.trans {a b c : Card} (h : Or a b) (h2 : Or b c) : Or a c := by unfold Or at *; omega
theorem Or.asymm {a b : Card} (h : Or a b) : ¬ Or b a := by unfold Or at *; omega
theorem Or.total {a b : Card} (h : a.1 ≠ b.1) : Or a b ∨ Or b a := by unfold Or; omega
theorem Or.neg {a b : Card} (h : ¬ Or a b) (hk : a.1 ≠ b.1) : Or b a := (Or.total hk).resolve_left h
def CrO : Tr → Prop
  | .e => True
  | .n l c r => CrO l ∧ CrO r ∧ (∀ x ∈ l.cards, Or c x) ∧ ∀ x ∈ r.cards, Or c x
def Srt (cs : List Card) : Prop := cs.Pairwise fun a b => a.1 < b.1
theorem Srt.node {l r : Tr} {c : Card} (h : Srt (Tr.n l c r).cards) : Srt l.cards ∧ Srt r.cards ∧ (∀ x ∈ l.cards, x.1 < c.1) ∧ (∀ x ∈ r.cards, c.1 < x.1) := by
  unfold Srt Tr.cards at h
  rw [List.pairwise_append, List.pairwise_cons] at h
  exact ⟨h.1, h.2.1.2, fun x hx => h.2.2 x hx c List.mem_cons_self, h.2.1.1⟩
theorem Srt.filter {cs : List Card} (h : Srt cs) (p : Card → Bool) : Srt (cs.filter p) := List.Pairwise.filter p h
theorem Srt.inj {cs : List Card} (h : Srt cs) {a b : Card} (ha : a ∈ cs) (hb : b ∈ cs) (e : a.1 = b.1) : a = b := by
  induction cs with
  | nil => cases ha
  | cons c cs ih =>
    have h := List.pairwise_cons.mp h
    rcases List.mem_cons.mp ha with rfl | ha'
    · rcases List.mem_cons.mp hb with rfl | hb'
      · rfl
      · have := h.1 b hb'; omega
    · rcases List.mem_cons.mp hb with rfl | hb'
      · have := h.1 a ha'; omega
      · exact ih h.2 ha' hb'
theorem Srt.ext : ∀ {cs ds : List Card}, Srt cs → Srt ds → (∀ c, c ∈ cs ↔ c ∈ ds) → cs = ds
  | [], [], _, _, _ => rfl
  | [], d :: ds, _, _, h => by have := (h d).mpr List.mem_cons_self; cases this
  | c :: cs, [], _, _, h => by have := (h c).mp List.mem_cons_self; cases this
  | c :: cs, d :: ds, h1, h2, h => by
    have a1 := List.pairwise_cons.mp h1
    have a2 := List.pairwise_cons.mp h2
    have e : c = d := by
      rcases List.mem_cons.mp ((h c).mp List.mem_cons_self) with e | hc
      · exact e
      · rcases List.mem_cons.mp ((h d).mpr List.mem_cons_self) with e | hd
        · exact e.symm
        · have := a2.1 c hc; have := a1.1 d hd; omega
    subst e
    rw [Srt.ext a1.2 a2.2 fun x => ?_]
    have hx := h x
    constructor
    · intro m
      rcases List.mem_cons.mp (hx.mp (List.mem_cons_of_mem _ m)) with e | m2
      · subst e; have := a1.1 _ m; omega
      · exact m2
    · intro m
      rcases List.mem_cons.mp (hx.mpr (List.mem_cons_of_mem _ m)) with e | m2
      · subst e; have := a2.1 _ m; omega
      · exact m2
theorem cr_of {t : Tr} (h : CrO t) (hs : Srt t.cards) : Cr t := by
  induction t with
  | e => exact .e
  | n l c r ih1 ih2 =>
    obtain ⟨s1, s2, k1, k2⟩ := hs.node
    obtain ⟨h1, h2, h3, h4⟩ := h
    refine .n (ih1 h1 s1) (ih2 h2 s2) (fun x hx => ?_) fun x hx => ?_
    · have := h3 x hx; have := k1 x hx; unfold Or at *; omega
    · have := h4 x hx; have := k2 x hx; unfold Or at *; omega
theorem crO_of {t : Tr} (h : Cr t) (hs : Srt t.cards) : CrO t := by
  induction h with
  | e => trivial
  | @n l r c hl hr h1 h2 ih1 ih2 =>
    obtain ⟨s1, s2, k1, k2⟩ := hs.node
    refine ⟨ih1 s1, ih2 s2, fun x hx => ?_, fun x hx => ?_⟩
    · have := h1 x hx; unfold Or; omega
    · have := h2 x hx; have := k2 x hx; unfold Or; omega

theorem crO_uniq : ∀ {t u : Tr}, CrO t → CrO u → Srt t.cards → t.cards = u.cards → t = u
  | .e, .e, _, _, _, _ => rfl
  | .e, .n l c r, _, _, _, h => by simp [Tr.cards] at h
  | .n l c r, .e, _, _, _, h => by simp [Tr.cards] at h
  | .n l c r, .n l' c' r', h1, h2, hs, h => by
    have hc : c = c' := by
      have m1 : c ∈ (Tr.n l' c' r').cards := by rw [← h]; simp [Tr.cards]
      have m2 : c' ∈ (Tr.n l c r).cards := by rw [h]; simp [Tr.cards]
      simp only [Tr.cards, List.mem_append, List.mem_cons] at m1 m2
      have a1 : c = c' ∨ Or c' c := by
        rcases m1 with m | m | m
        · exact .inr (h2.2.2.1 c m)
        · exact .inl m
        · exact .inr (h2.2.2.2 c m)
      have a2 : c' = c ∨ Or c c' := by
        rcases m2 with m | m | m
        · exact .inr (h1.2.2.1 c' m)
        · exact .inl m
        · exact .inr (h1.2.2.2 c' m)
      rcases a1 with e | a1
      · exact e
      · rcases a2 with e | a2
        · exact e.symm
        · exact absurd a1 a2.asymm
    subst hc
    obtain ⟨s1, s2, k1, k2⟩ := hs.node
    have hs' := hs
    rw [h] at hs'
    obtain ⟨s1', s2', k1', k2'⟩ := hs'.node
    simp only [Tr.cards] at h
    have hl : l.cards = l'.cards := by
      refine Srt.ext s1 s1' fun x => ?_
      have hx : x ∈ l.cards ++ c :: r.cards ↔ x ∈ l'.cards ++ c :: r'.cards := by rw [h]
      simp only [List.mem_append, List.mem_cons] at hx
      constructor
      · intro m
        have := k1 x m
        rcases hx.mp (.inl m) with q | q | q
        · exact q
        · subst q; omega
        · have := k2' x q; omega
      · intro m
        have := k1' x m
        rcases hx.mpr (.inl m) with q | q | q
        · exact q
        · subst q; omega
        · have := k2 x q; omega
    rw [hl] at h
    have hr : r.cards = r'.cards := by simpa using h
    rw [crO_uniq h1.1 h2.1 s1 hl, crO_uniq h1.2.1 h2.2.1 s2 hr]

def hungL : Tr → D → List (Card × D)
  | .e, _ => []
  | .n l c r, ab => hungL l (cd c) ++ (c, ab) :: hungL r (cd c)
def hd (p : Card × D) : D := .tup [cd p.1, p.2]
theorem hungL_cards : ∀ (t : Tr) (ab : D), (hungL t ab).map (·.1) = t.cards
  | .e, _ => rfl
  | .n l c r, ab => by simp [hungL, Tr.cards, hungL_cards l, hungL_cards r]
theorem hungL_len (t : Tr) (ab : D) : (hungL t ab).length = t.cards.length := by rw [← hungL_cards t ab, List.length_map]
theorem hung_ok {E : Exn → Store → Prop} : ∀ (n : Nat) (t : Tr) (ab : D) (S : Store) (Q : D → Store → Prop), t.ht < n → t.ht ≤ 150 → t.cards.length ≤ 1000 →
    (∀ (k : Nat) (G : Store), (S ++ G)[k]? = some (.lst ((hungL t ab).map hd)) → S.length ≤ k → Q (.ref k) (S ++ G)) → wp (hung_in_M n [t.d, ab] S) Q E
  | 0, t, ab, S, Q, h, _, _, _ => by omega
  | n + 1, t, ab, S, Q, h, h2, hl, q => by
    unfold hung_in_M
    walk_at "ck1"
    rw [wp_eqE h2]
    walk_at "ck1"
    cases t with
    | e => walk_at "ck1"; exact q _ [.lst []] get_new (Nat.le_refl _)
    | n l c r =>
      simp only [Tr.ht] at h h2
      simp only [Tr.cards, List.length_append, List.length_cons] at hl
      simp only [Tr.isE, Bool.false_eq_true, if_false, aft_nx]
      simp only [Tr.d]
      walk_at "ck1"
      simp only [aft_nx]
      walk_at "ck1"
      refine hung_ok n l (cd c) S _ (by omega) (by omega) (by omega) fun k1 G1 g1 b1 => ?_
      walk_at "ck1"
      rw [wp_addL]
      refine ⟨_, lstO_of (get_old g1), _, lstO_of get_new, by rw [List.length_map, hungL_len, sizeLine_eq]; simp; omega, ?_⟩
      refine hung_ok n r (cd c) _ _ (by omega) (by omega) (by omega) fun k2 G2 g2 b2 => ?_
      rw [wp_addL]
      refine ⟨_, lstO_of (get_old get_new), _, lstO_of g2, by rw [List.length_map, List.length_append, List.length_map, hungL_len, hungL_len, sizeLine_eq]; simp; omega, ?_⟩
      simp only [List.append_assoc] at g2 ⊢
      refine q _ _ ?_ ?_
      · have e : (hungL (.n l c r) ab).map hd = (hungL l (cd c)).map hd ++ ([.tup [cd c, ab]] ++ (hungL r (cd c)).map hd) := by
          simp [hungL, hd]
        rw [e]
        have := get_new (S := S ++ (G1 ++ ([O.lst [D.tup [cd c, ab]]] ++ ([O.lst (List.map hd (hungL l (cd c)) ++ [D.tup [cd c, ab]])] ++ G2)))) (o := O.lst (List.map hd (hungL l (cd c)) ++ ([D.tup [cd c, ab]] ++ List.map hd (hungL r (cd c)))))
        simpa only [List.append_assoc] using this
      · simp only [List.length_append]; omega
theorem cards_in_ok {S : Store} {t : Tr} {E : Exn → Store → Prop} {Q : D → Store → Prop} (ht : t.ht < 80) (hl : t.cards.length ≤ 1000)
    (q : ∀ (k : Nat) (G : Store), (S ++ G)[k]? = some (.lst (t.cards.map cd)) → S.length ≤ k → Q (.ref k) (S ++ G)) : wp (cards_in_M [t.d] S) Q E := by
  unfold cards_in_M
  walk_at "ck1"
  refine hung_ok 80 t .non S _ ht (by omega) hl fun k G g b => ?_
  walk_at "ck1"
  refine ⟨_, lsO_of g, ?_⟩
  refine lcGo_list (xs := (hungL t .non).map hd) (f := fun x => match x with | .tup [a, _] => some a | _ => none) rfl (by rw [List.length_map, hungL_len]; omega) (ls_of g) (fun i x acc hx => ?_) ?_
  · rw [List.getElem?_map] at hx
    cases h : (hungL t .non)[i]? with
    | none => rw [h] at hx; cases hx
    | some p =>
      rw [h] at hx
      cases hx
      unfold lcT
      simp only [hd]
      walk_at "ck1"
  · have e : ((hungL t .non).map hd).filterMap (fun x => match x with | .tup [a, _] => some a | _ => none) = t.cards.map cd := by
      rw [← hungL_cards t .non, List.map_map, List.filterMap_map, ← List.filterMap_eq_map]
      rfl
    rw [e]
    walk_at "ck1"
    simp only [List.append_assoc]
    refine q _ _ ?_ ?_
    · rw [← List.append_assoc]; exact get_new
    · simp
theorem outranks_ok {S : Store} {a b : Card} {E : Exn → Store → Prop} {Q : D → Store → Prop} (q : Q (.bl (decide (Or a b))) S) : wp (outranks_M [cd a, cd b] S) Q E := by
  unfold outranks_M
  simp only [cd]
  walk_at "ck1"
  by_cases h : a.2.1 = b.2.1
  · rw [h]
    simp only [beq_self_eq_true, Bool.not_true, Bool.false_eq_true, if_false, aft_nx]
    walk_at "ck1"
    have : decide (Or a b) = decide (a.1 < b.1) := decide_eq_decide.mpr (by unfold Or; omega)
    rw [this] at q
    exact q
  · have : (a.2.1 == b.2.1) = false := by simpa using h
    simp only [this, Bool.not_false, if_true]
    have e : decide (Or a b) = decide (b.2.1 < a.2.1) := decide_eq_decide.mpr (by unfold Or; omega)
    rw [e] at q
    exact q

theorem woven_ok {E : Exn → Store → Prop} {S : Store} : ∀ (n : Nat) (a b : Tr) (Q : D → Store → Prop), a.ht + b.ht < n → a.ht ≤ 150 → b.ht ≤ 150 → CrO a → CrO b → (∀ x ∈ a.cards, ∀ y ∈ b.cards, x.1 < y.1) →
    (∀ t : Tr, CrO t → t.cards = a.cards ++ b.cards → Q t.d S) → wp (woven_M n [a.d, b.d] S) Q E
  | 0, a, b, Q, h, _, _, _, _, _, _ => by omega
  | n + 1, a, b, Q, h, h1, h2, ca, cb, hk, q => by
    unfold woven_M
    walk_at "ck1"
    rw [wp_eqE h1]
    walk_at "ck1"
    cases a with
    | e =>
      simp only [Tr.isE, if_true]
      exact q b cb rfl
    | n l c r =>
      simp only [Tr.isE, Bool.false_eq_true, if_false, aft_nx]
      walk_at "ck1"
      rw [wp_eqE h2]
      walk_at "ck1"
      cases b with
      | e =>
        simp only [Tr.isE, if_true]
        exact q (.n l c r) ca (by simp [Tr.cards])
      | n l' c' r' =>
        simp only [Tr.isE, Bool.false_eq_true, if_false, aft_nx]
        walk_at "ck1"
        simp only [Tr.d]
        walk_at "ck1"
        refine outranks_ok ?_
        walk_at "ck1"
        simp only [Tr.ht] at h h1 h2
        have hcc : c.1 < c'.1 := hk c (by simp [Tr.cards]) c' (by simp [Tr.cards])
        by_cases o : Or c c'
        · simp only [o, if_true]
          walk_at "ck1"
          refine woven_ok n r (.n l' c' r') _ (by simp only [Tr.ht]; omega) (by omega) (by simp only [Tr.ht]; omega) ca.2.1 cb (fun x hx y hy => hk x (by simp [Tr.cards, hx]) y hy) fun t ht hc => ?_
          walk_at "ck1"
          refine q (.n l c t) ⟨ca.1, ht, ca.2.2.1, fun x hx => ?_⟩ (by simp [Tr.cards, hc])
          rw [hc] at hx
          rcases List.mem_append.mp hx with m | m
          · exact ca.2.2.2 x m
          · simp only [Tr.cards, List.mem_append, List.mem_cons] at m
            rcases m with m | m | m
            · exact o.trans (cb.2.2.1 x m)
            · subst m; exact o
            · exact o.trans (cb.2.2.2 x m)
        · simp only [o, if_false, aft_nx]
          have o2 := Or.neg o (by omega)
          walk_at "ck1"
          refine woven_ok n (.n l c r) l' _ (by simp only [Tr.ht]; omega) (by simp only [Tr.ht]; omega) (by omega) ca cb.1 (fun x hx y hy => hk x hx y (by simp [Tr.cards, hy])) fun t ht hc => ?_
          walk_at "ck1"
          refine q (.n t c' r') ⟨ht, cb.2.1, fun x hx => ?_, cb.2.2.2⟩ (by simp [Tr.cards, hc])
          rw [hc] at hx
          rcases List.mem_append.mp hx with m | m
          · simp only [Tr.cards, List.mem_append, List.mem_cons] at m
            rcases m with m | m | m
            · exact o2.trans (ca.2.2.1 x m)
            · subst m; exact o2
            · exact o2.trans (ca.2.2.2 x m)
          · exact cb.2.2.1 x m
theorem flt_all {p : Card → Bool} {cs : List Card} (h : ∀ x ∈ cs, p x = true) : cs.filter p = cs := List.filter_eq_self.mpr h
theorem flt_no {p : Card → Bool} {cs : List Card} (h : ∀ x ∈ cs, ¬ p x = true) : cs.filter p = [] := List.filter_eq_nil_iff.mpr h
theorem split_ok {E : Exn → Store → Prop} {S : Store} : ∀ (n : Nat) (t : Tr) (key : Int) (Q : D → Store → Prop), t.ht < n → t.ht ≤ 150 → CrO t → Srt t.cards →
    (∀ a b : Tr, CrO a → CrO b → a.cards = t.cards.filter (fun c => decide (c.1 < key)) → b.cards = t.cards.filter (fun c => decide (key ≤ c.1)) → Q (.tup [a.d, b.d]) S) → wp (split_M n [t.d, .int key] S) Q E
  | 0, t, key, Q, h, _, _, _, _ => by omega
  | n + 1, t, key, Q, h, h2, hc, hs, q => by
    unfold split_M
    walk_at "ck1"
    rw [wp_eqE h2]
    walk_at "ck1"
    cases t with
    | e => walk_at "ck1"; exact q .e .e trivial trivial rfl rfl
    | n l c r =>
      simp only [Tr.ht] at h h2
      obtain ⟨s1, s2, k1, k2⟩ := hs.node
      simp only [Tr.isE, Bool.false_eq_true, if_false, aft_nx]
      simp only [Tr.d, cd]
      walk_at "ck1"
      simp only [aft_nx]
      walk_at "ck1"
      have f1 : ∀ (p : Card → Bool), (Tr.n l c r).cards.filter p = l.cards.filter p ++ ((if p c then [c] else []) ++ r.cards.filter p) := by
        intro p
        rw [Tr.cards, List.filter_append, List.filter_cons]
        split <;> simp
      by_cases hk : c.1 < key
      · simp only [hk, if_true]
        walk_at "ck1"
        refine split_ok n r key _ (by omega) (by omega) hc.2.1 s2 fun a b ca cb ea eb => ?_
        walk_at "ck1"
        simp only [aft_nx]
        walk_at "ck1"
        refine q (.n l c a) b ⟨hc.1, ca, hc.2.2.1, fun x hx => ?_⟩ cb ?_ ?_
        · rw [ea] at hx; exact hc.2.2.2 x (List.mem_filter.mp hx).1
        · rw [f1, Tr.cards, ea, flt_all (cs := l.cards) (fun x hx => decide_eq_true (by have := k1 x hx; omega))]
          simp [hk]
        · rw [f1, eb, flt_no (cs := l.cards) (fun x hx => by have := k1 x hx; simp; omega)]
          have : ¬ key ≤ c.1 := by omega
          simp [this]
      · simp only [hk, if_false, aft_nx]
        walk_at "ck1"
        refine split_ok n l key _ (by omega) (by omega) hc.1 s1 fun a b ca cb ea eb => ?_
        walk_at "ck1"
        simp only [aft_nx]
        walk_at "ck1"
        refine q a (.n b c r) ca ⟨cb, hc.2.1, fun x hx => ?_, hc.2.2.2⟩ ?_ ?_
        · rw [eb] at hx; exact hc.2.2.1 x (List.mem_filter.mp hx).1
        · rw [f1, ea, flt_no (cs := r.cards) (fun x hx => by have := k2 x hx; simp; omega)]
          simp [hk]
        · rw [f1, Tr.cards, eb, flt_all (cs := r.cards) (fun x hx => decide_eq_true (by have := k2 x hx; omega))]
          have : key ≤ c.1 := by omega
          simp [this]
theorem ne_nil {S : Store} {E : Exn → Store → Prop} {Q : D → Store → Prop} {k m : Nat} {cs : List Card} (h : lsAt S k = some (cs.map cd)) (h2 : lsAt S m = some []) (q : Q (.bl (!cs.isEmpty)) S) : wp (neM (.ref k) (.ref m) S) Q E := by
  rw [wp_ne, py_cards h, py_nil h2]
  refine ⟨_, _, rfl, rfl, ?_⟩
  cases cs with
  | nil => simpa [PyData.eqv, PyData.eqvAll] using q
  | cons c cs => simpa [PyData.eqv, PyData.eqvAll] using q
theorem joined_ok {S : Store} {a b : Tr} {E : Exn → Store → Prop} {Q : D → Store → Prop} (ca : CrO a) (cb : CrO b) (hk : ∀ x ∈ a.cards, ∀ y ∈ b.cards, x.1 < y.1) (hl : a.cards.length + b.cards.length ≤ 64)
    (q : ∀ (t : Tr) (G : Store), CrO t → t.cards = a.cards ++ b.cards → Q t.d (S ++ G)) : wp (joined_M [a.d, b.d] S) Q E := by
  have hta := a.ht_le
  have htb := b.ht_le
  unfold joined_M
  walk_at "ck1"
  refine cards_in_ok (by omega) (by omega) fun k1 G1 g1 b1 => ?_
  simp only [aft_nx]
  walk_at "ck1"
  refine cards_in_ok (by omega) (by omega) fun k2 G2 g2 b2 => ?_
  have g1' := get_old (T := G2) g1
  generalize hS : S ++ G1 ++ G2 = X at *
  have hX : ∃ G, X = S ++ G := ⟨G1 ++ G2, by rw [← hS, List.append_assoc]⟩
  clear g1 hS
  simp only [aft_nx]
  walk_at "ck1"
  refine ne_nil (ls_app (ls_of g1')) ls_new ?_
  walk_at "ck1"
  have rest : ∀ G, wp (mSeq (mIf (mTst (m2 gtM (m2 addM (mArgs lenM (mCons (mVar 2) mNil)) (mArgs lenM (mCons (mVar 3) mNil))) (mC (.int 64)))) mNever mNx) (mRet (mCall 2 (woven_M 80) (mCons (mVar 0) (mCons (mVar 1) mNil)))) [some a.d, some b.d, some (.ref k1), some (.ref k2)] (X ++ G)) (fin Q E) E0' := by
    intro G
    have e1 := len_ls (ls_app (G := G) (ls_of g1'))
    have e2 := len_ls (ls_app (G := G) (ls_of g2))
    rw [List.length_map] at e1 e2
    walk_at "ck1"
    refine ⟨_, e1, _, e2, ?_⟩
    walk_at "ck1"
    rw [if_neg (by omega)]
    simp only [aft_nx]
    walk_at "ck1"
    refine woven_ok 80 a b _ (by omega) (by omega) (by omega) ca cb hk fun t ht hc => ?_
    obtain ⟨G', rfl⟩ := hX
    rw [List.append_assoc]
    exact q t _ ht hc
  cases hca : a.cards with
  | nil =>
    simp only [List.isEmpty_nil, Bool.not_true, Bool.false_eq_true, if_false, aft_nx]
    exact rest _
  | cons x xs =>
    simp only [List.isEmpty_cons, Bool.not_false, if_true]
    walk_at "ck1"
    rw [List.append_assoc]
    refine ne_nil (ls_app (ls_of g2)) (by rw [← List.append_assoc]; exact ls_new) ?_
    walk_at "ck1"
    cases hcb : b.cards with
    | nil =>
      simp only [List.isEmpty_nil, Bool.not_true, Bool.false_eq_true, if_false, aft_nx]
      exact rest _
    | cons y ys =>
      simp only [List.isEmpty_cons, Bool.not_false, if_true]
      walk_at "ck1"
      rw [hca] at g1'
      rw [hcb] at g2
      have hne : (x :: xs) ≠ [] := by simp
      have hat : atI ((x :: xs).map cd) (-1) = some (cd ((x :: xs).getLast hne)) := by
        have e : (x :: xs).map cd = ((x :: xs).dropLast.map cd) ++ [cd ((x :: xs).getLast hne)] := by
          conv => lhs; rw [← List.dropLast_concat_getLast hne]
          rw [List.map_append]; rfl
        rw [e]
        exact L2.atI_last _ _
      refine ⟨_, ls_app (ls_of g1'), _, hat, ?_⟩
      simp only [cd]
      walk_at "ck1"
      refine ⟨_, ls_app (ls_of g2), _, CK.at0, ?_⟩
      simp only [cd]
      walk_at "ck1"
      have := hk ((x :: xs).getLast hne) (by rw [hca]; exact List.getLast_mem hne) y (by rw [hcb]; exact List.mem_cons_self)
      rw [if_neg (by omega)]
      simp only [aft_nx]
      exact rest _


def kc (c : Card) : Key × D := (.inl c.1, cd c)
theorem val_kc (x : Int) : ∀ cs : List Card, valG (cs.map kc) (.inl x) = (cs.find? fun c => decide (c.1 = x)).map cd
  | [] => rfl
  | c :: cs => by
    rw [List.map_cons, valG_cons, val_kc x cs, List.find?_cons]
    simp only [kc, Sum.inl.injEq]
    by_cases h : c.1 = x <;> simp [h]
theorem val_kc_none {x : Int} {cs : List Card} (h : ∀ c ∈ cs, c.1 ≠ x) : valG (cs.map kc) (.inl x) = none := by
  rw [val_kc, List.find?_eq_none.mpr fun c hc => by simpa using h c hc]; rfl
theorem val_kc_some {c : Card} {cs : List Card} (hs : Srt cs) (hc : c ∈ cs) : valG (cs.map kc) (.inl c.1) = some (cd c) := by
  rw [val_kc]
  cases h : cs.find? fun d => decide (d.1 = c.1) with
  | none => have := List.find?_eq_none.mp h c hc; simp at this
  | some d =>
    have h1 := List.mem_of_find?_eq_some h
    have h2 : d.1 = c.1 := by simpa using List.find?_some h
    rw [hs.inj h1 hc h2]; rfl
theorem val_kc_is {x : Int} {cs : List Card} : (valG (cs.map kc) (.inl x)).isSome = decide (x ∈ cs.map (·.1)) := by
  rw [val_kc, Option.isSome_map]
  apply Bool.eq_iff_iff.mpr
  rw [List.find?_isSome]
  simp
  
theorem keyed_ok {S : Store} {t : Tr} {E : Exn → Store → Prop} {Q : D → Store → Prop} (ht : t.ht < 80) (hl : t.cards.length ≤ 1000) (hs : Srt t.cards)
    (q : ∀ G : Store, (S ++ G)[S.length]? = some (.dK (t.cards.map kc)) → Q (.ref S.length) (S ++ G)) : wp (keyed_M [t.d] S) Q E := by
  unfold keyed_M
  walk_at "ck1"
  simp only [aft_nx]
  walk_at "ck1"
  refine cards_in_ok ht hl fun k G g b => ?_
  walk_at "ck1"
  refine ⟨_, lsO_of g, ?_⟩
  have hk : S.length < k := by rw [List.length_append] at b; simp at b; omega
  refine wp_foL (xs := t.cards.map cd) (by rw [List.length_map]; unfold FU; omega) (fun i r T => ∃ (z : Option D) (G' : Store), T = S ++ .dK ((t.cards.take i).map kc) :: G' ∧ T[k]? = some (.lst (t.cards.map cd)) ∧ r = [some t.d, some (.ref S.length), z])
    ⟨_, G, by simp, g, rfl⟩ (fun i r T hI => ?_) (fun i x r T hx hI => ?_) (fun r T hI => ?_)
  · obtain ⟨z, G', _, h2, _⟩ := hI; exact ls_of h2
  · obtain ⟨z, G', rfl, h2, rfl⟩ := hI
    obtain ⟨c, hc, rfl⟩ := cd_get hx
    have hi := get_lt hc
    have gd : (S ++ O.dK ((t.cards.take i).map kc) :: G')[S.length]? = some (.dK ((t.cards.take i).map kc)) := by simp
    simp only [cd]
    walk_at "ck1"
    refine ⟨_, by rw [gd]; rfl, by rw [List.length_map, List.length_take, sizeLine_eq]; omega, ?_⟩
    have hnew : valG ((t.cards.take i).map kc) (.inl c.1) = none := by
      refine val_kc_none fun d hd => ?_
      obtain ⟨j, hj⟩ := List.getElem?_of_mem hd
      rw [List.getElem?_take] at hj
      split at hj
      · rename_i hji
        have h1 := (List.getElem?_eq_some_iff.mp hj)
        have h2 := (List.getElem?_eq_some_iff.mp hc)
        have := List.pairwise_iff_getElem.mp hs j i h1.1 h2.1 hji
        rw [h1.2, h2.2] at this
        omega
      · cases hj
    refine ⟨_, G', ?_, ?_, rfl⟩
    · rw [putG_new _ hnew, take_succ hc, List.map_append]
      simp [kc, cd]
    · rw [List.getElem?_set_ne (by omega)]; exact h2
  · obtain ⟨z, G', rfl, h2, rfl⟩ := hI
    rw [List.length_map, List.take_of_length_le (Nat.le_refl _)] at *
    simp only [aft_nx]
    walk_at "ck1"
    exact q _ (by simp)
theorem sifted_ok {E : Exn → Store → Prop} {ks : Nat} {kvs : List (Key × D)} {wt : Bool} : ∀ (n : Nat) (t : Tr) (S : Store) (Q : D → Store → Prop), t.ht < n → t.cards.length ≤ 64 → CrO t → Srt t.cards → S[ks]? = some (.dK kvs) →
    (∀ (u : Tr) (G : Store), CrO u → u.cards = t.cards.filter (fun c => (valG kvs (.inl c.1)).isSome == wt) → Q u.d (S ++ G)) → wp (sifted_M n [t.d, .ref ks, .bl wt] S) Q E
  | 0, t, S, Q, h, _, _, _, _, _ => by omega
  | n + 1, t, S, Q, h, hl, hc, hs, hk, q => by
    have h2 := t.ht_le
    unfold sifted_M
    walk_at "ck1"
    rw [wp_eqE (by omega)]
    walk_at "ck1"
    cases t with
    | e =>
      simp only [Tr.isE, if_true]
      have := q .e [] trivial rfl
      rw [List.append_nil] at this
      exact this
    | n l c r =>
      obtain ⟨s1, s2, k1, k2⟩ := hs.node
      simp only [Tr.ht] at h h2
      simp only [Tr.cards, List.length_append, List.length_cons] at hl h2
      simp only [Tr.isE, Bool.false_eq_true, if_false, aft_nx]
      simp only [Tr.d]
      walk_at "ck1"
      refine sifted_ok n l S _ (by omega) (by omega) hc.1 s1 hk fun u G cu hu => ?_
      simp only [aft_nx]
      walk_at "ck1"
      refine sifted_ok n r _ _ (by omega) (by omega) hc.2.1 s2 (get_old hk) fun v G2 cv hv => ?_
      simp only [aft_nx]
      walk_at "ck1"
      simp only [cd]
      walk_at "ck1"
      have hk2 : (S ++ G ++ G2)[ks]? = some (.dK kvs) := get_old (get_old hk)
      refine ⟨_, by rw [hk2]; rfl, ?_⟩
      walk_at "ck1"
      have f1 : (l.cards ++ c :: r.cards).filter (fun c => (valG kvs (.inl c.1)).isSome == wt) = u.cards ++ ((if ((valG kvs (.inl c.1)).isSome == wt) = true then [c] else []) ++ v.cards) := by
        rw [List.filter_append, List.filter_cons, hu, hv]
        split <;> simp
      by_cases hw : ((valG kvs (.inl c.1)).isSome == wt) = true
      · simp only [hw, if_true]
        walk_at "ck1"
        rw [List.append_assoc]
        refine q (.n u c v) _ ⟨cu, cv, fun x hx => ?_, fun x hx => ?_⟩ ?_
        · rw [hu] at hx; exact hc.2.2.1 x (List.mem_filter.mp hx).1
        · rw [hv] at hx; exact hc.2.2.2 x (List.mem_filter.mp hx).1
        · rw [Tr.cards, Tr.cards, f1, if_pos hw]; rfl
      · simp only [hw, Bool.false_eq_true, if_false, aft_nx]
        walk_at "ck1"
        have lu : u.cards.length ≤ l.cards.length := by rw [hu]; exact List.length_filter_le _ _
        have lv : v.cards.length ≤ r.cards.length := by rw [hv]; exact List.length_filter_le _ _
        refine joined_ok cu cv (fun x hx y hy => ?_) (by omega) fun w G3 cw hw2 => ?_
        · rw [hu] at hx; rw [hv] at hy
          have := k1 x (List.mem_filter.mp hx).1
          have := k2 y (List.mem_filter.mp hy).1
          omega
        · rw [List.append_assoc, List.append_assoc]
          refine q w _ cw ?_
          rw [hw2, Tr.cards, f1, if_neg hw]; rfl
theorem without_ok {S : Store} {a b : Tr} {E : Exn → Store → Prop} {Q : D → Store → Prop} (ca : CrO a) (sa : Srt a.cards) (sb : Srt b.cards) (la : a.cards.length ≤ 64) (lb : b.cards.length ≤ 64)
    (q : ∀ (u : Tr) (G : Store), CrO u → u.cards = a.cards.filter (fun c => !decide (c.1 ∈ b.cards.map (·.1))) → Q u.d (S ++ G)) : wp (without_M [a.d, b.d] S) Q E := by
  have hta := a.ht_le
  have htb := b.ht_le
  unfold without_M
  walk_at "ck1"
  refine keyed_ok (by omega) (by omega) sb fun G g => ?_
  walk_at "ck1"
  refine sifted_ok 80 a _ _ (by omega) la ca sa g fun u G2 cu hu => ?_
  rw [List.append_assoc]
  refine q u _ cu ?_
  rw [hu]
  congr 1
  funext c
  rw [val_kc_is]
  cases decide (c.1 ∈ b.cards.map (·.1)) <;> rfl
theorem laid_ok {E : Exn → Store → Prop} {S : Store} : ∀ (n : Nat) (a b : Tr) (Q : D → Store → Prop), a.cards.length + b.cards.length < n → a.cards.length + b.cards.length ≤ 64 → CrO a → CrO b → Srt a.cards → Srt b.cards → (∀ x ∈ a.cards, ∀ y ∈ b.cards, x.1 ≠ y.1) →
    (∀ t : Tr, CrO t → Srt t.cards → (∀ x, x ∈ t.cards ↔ x ∈ a.cards ∨ x ∈ b.cards) → Q t.d S) → wp (laid_together_M n [a.d, b.d] S) Q E
  | 0, a, b, Q, h, _, _, _, _, _, _, _ => by omega
  | n + 1, a, b, Q, h, hl, ca, cb, sa, sb, hk, q => by
    have hta := a.ht_le
    have htb := b.ht_le
    unfold laid_together_M
    walk_at "ck1"
    rw [wp_eqE (by omega)]
    walk_at "ck1"
    cases a with
    | e =>
      simp only [Tr.isE, if_true]
      exact q b cb sb (by simp [Tr.cards])
    | n l c r =>
      simp only [Tr.isE, Bool.false_eq_true, if_false, aft_nx]
      walk_at "ck1"
      rw [wp_eqE (by omega)]
      walk_at "ck1"
      cases b with
      | e =>
        simp only [Tr.isE, if_true]
        exact q _ ca sa (by simp [Tr.cards])
      | n l' c' r' =>
        simp only [Tr.isE, Bool.false_eq_true, if_false, aft_nx]
        walk_at "ck1"
        simp only [Tr.d]
        walk_at "ck1"
        refine outranks_ok ?_
        walk_at "ck1"
        have main : ∀ (l r : Tr) (c : Card) (b : Tr), (Tr.n l c r).cards.length + b.cards.length < n + 1 → (Tr.n l c r).cards.length + b.cards.length ≤ 64 → CrO (.n l c r) → CrO b → Srt (Tr.n l c r).cards → Srt b.cards → (∀ x ∈ (Tr.n l c r).cards, ∀ y ∈ b.cards, x.1 ≠ y.1) → (∀ y ∈ b.cards, Or c y) →
            (∀ t : Tr, CrO t → Srt t.cards → (∀ x, x ∈ t.cards ↔ x ∈ (Tr.n l c r).cards ∨ x ∈ b.cards) → Q t.d S) →
            wp ((mSeq (mAsg (mCall 2 (split_M 80) (mCons (mVar 1) (mCons (m2 ixM (m2 ixM (mVar 0) (mC (.int 1))) (mC (.int 0))) mNil))) (gTp 2 (gsCons (gNm 2) (gsCons (gNm 3) gsNil)))) (mRet (mArgs tupM (mCons (mCall 2 (laid_together_M n) (mCons (m2 ixM (mVar 0) (mC (.int 0))) (mCons (mVar 2) mNil))) (mCons (m2 ixM (mVar 0) (mC (.int 1))) (mCons (mCall 2 (laid_together_M n) (mCons (m2 ixM (mVar 0) (mC (.int 2))) (mCons (mVar 3) mNil))) mNil)))))) [some (Tr.n l c r).d, some b.d, none, none] S) (fin Q E) E0' := by
          intro l r c b h hl ca cb sa sb hk ho q
          obtain ⟨s1, s2, k1, k2⟩ := sa.node
          have htb := b.ht_le
          simp only [Tr.cards, List.length_append, List.length_cons] at h hl
          simp only [Tr.d, cd]
          walk_at "ck1"
          refine split_ok 80 b c.1 _ (by omega) (by omega) cb sb fun u v cu cv hu hv => ?_
          have lu : u.cards.length ≤ b.cards.length := by rw [hu]; exact List.length_filter_le _ _
          have lv : v.cards.length ≤ b.cards.length := by rw [hv]; exact List.length_filter_le _ _
          have mu : ∀ x, x ∈ u.cards ↔ x ∈ b.cards ∧ x.1 < c.1 := fun x => by rw [hu, List.mem_filter]; simp
          have mv : ∀ x, x ∈ v.cards ↔ x ∈ b.cards ∧ c.1 ≤ x.1 := fun x => by rw [hv, List.mem_filter]; simp
          walk_at "ck1"
          simp only [aft_nx]
          walk_at "ck1"
          refine laid_ok n l u _ (by omega) (by omega) ca.1 cu s1 (by rw [hu]; exact sb.filter _) (fun x hx y hy => hk x (by simp [Tr.cards, hx]) y ((mu y).mp hy).1) fun t1 ct1 st1 m1 => ?_
          walk_at "ck1"
          refine laid_ok n r v _ (by omega) (by omega) ca.2.1 cv s2 (by rw [hv]; exact sb.filter _) (fun x hx y hy => hk x (by simp [Tr.cards, hx]) y ((mv y).mp hy).1) fun t2 ct2 st2 m2 => ?_
          walk_at "ck1"
          refine q (.n t1 c t2) ⟨ct1, ct2, fun x hx => ?_, fun x hx => ?_⟩ ?_ fun x => ?_
          · rcases (m1 x).mp hx with m | m
            · exact ca.2.2.1 x m
            · exact ho x ((mu x).mp m).1
          · rcases (m2 x).mp hx with m | m
            · exact ca.2.2.2 x m
            · exact ho x ((mv x).mp m).1
          · have a1 : ∀ x ∈ t1.cards, x.1 < c.1 := fun x hx => by
              rcases (m1 x).mp hx with m | m
              · exact k1 x m
              · exact ((mu x).mp m).2
            have a2 : ∀ x ∈ t2.cards, c.1 < x.1 := fun x hx => by
              rcases (m2 x).mp hx with m | m
              · exact k2 x m
              · have h1 := (mv x).mp m
                have := hk c (by simp [Tr.cards]) x h1.1
                omega
            unfold Srt Tr.cards
            rw [List.pairwise_append, List.pairwise_cons]
            refine ⟨st1, ⟨fun x hx => a2 x hx, st2⟩, fun x hx y hy => ?_⟩
            have := a1 x hx
            rcases List.mem_cons.mp hy with rfl | m
            · exact this
            · have := a2 y m; omega
          · simp only [Tr.cards, List.mem_append, List.mem_cons, m1, m2, mu, mv]
            constructor
            · rintro ((m | ⟨m, _⟩) | m | m | ⟨m, _⟩)
              · exact .inl (.inl m)
              · exact .inr m
              · exact .inl (.inr (.inl m))
              · exact .inl (.inr (.inr m))
              · exact .inr m
            · rintro ((m | m | m) | m)
              · exact .inl (.inl m)
              · exact .inr (.inl m)
              · exact .inr (.inr (.inl m))
              · by_cases hx : x.1 < c.1
                · exact .inl (.inr ⟨m, hx⟩)
                · exact .inr (.inr (.inr ⟨m, by omega⟩))
        have hcc : c.1 ≠ c'.1 := hk c (by simp [Tr.cards]) c' (by simp [Tr.cards])
        by_cases o : Or c' c
        · simp only [o, if_true, aft_nx]
          refine main l' r' c' (.n l c r) (by omega) (by omega) cb ca sb sa (fun x hx y hy => (hk y hy x hx).symm) (fun y hy => ?_) fun t ct st m => q t ct st fun x => (m x).trans (or_comm)
          simp only [Tr.cards, List.mem_append, List.mem_cons] at hy
          rcases hy with m | m | m
          · exact o.trans (ca.2.2.1 y m)
          · subst m; exact o
          · exact o.trans (ca.2.2.2 y m)
        · simp only [o, if_false, aft_nx]
          have o2 := Or.neg o (by omega)
          refine main l r c (.n l' c' r') (by omega) (by omega) ca cb sa sb hk (fun y hy => ?_) q
          simp only [Tr.cards, List.mem_append, List.mem_cons] at hy
          rcases hy with m | m | m
          · exact o2.trans (cb.2.2.1 y m)
          · subst m; exact o2
          · exact o2.trans (cb.2.2.2 y m)
theorem together_ok {S : Store} {a b : Tr} {E : Exn → Store → Prop} {Q : D → Store → Prop} (ca : CrO a) (cb : CrO b) (sa : Srt a.cards) (sb : Srt b.cards) (lb : b.cards.length ≤ 64)
    (hl : a.cards.length + (b.cards.filter (fun c => !decide (c.1 ∈ a.cards.map (·.1)))).length ≤ 64)
    (q : ∀ (t : Tr) (G : Store), CrO t → Srt t.cards → (∀ x, x ∈ t.cards ↔ x ∈ a.cards ∨ (x ∈ b.cards ∧ x.1 ∉ a.cards.map (·.1))) → Q t.d (S ++ G)) : wp (together_M [a.d, b.d] S) Q E := by
  have hta := a.ht_le
  unfold together_M
  walk_at "ck1"
  refine without_ok cb sb sa lb (by omega) fun u G cu hu => ?_
  have htu := u.ht_le
  have lu : a.cards.length + u.cards.length ≤ 64 := by rw [hu]; exact hl
  simp only [aft_nx]
  walk_at "ck1"
  refine cards_in_ok (by omega) (by omega) fun k1 G1 g1 b1 => ?_
  walk_at "ck1"
  refine ⟨_, len_ls (ls_of g1), ?_⟩
  refine cards_in_ok (by omega) (by omega) fun k2 G2 g2 b2 => ?_
  walk_at "ck1"
  refine ⟨_, len_ls (ls_of g2), ?_⟩
  simp only [List.length_map]
  rw [if_neg (by omega)]
  simp only [aft_nx]
  walk_at "ck1"
  refine laid_ok 80 a u _ (by omega) (by omega) ca cu sa (by rw [hu]; exact sb.filter _) (fun x hx y hy => ?_) fun t ct st m => ?_
  · rw [hu, List.mem_filter] at hy
    intro e
    have := hy.2
    rw [← e] at this
    simp at this
    exact this _ _ hx
  · simp only [List.append_assoc]
    refine q t _ ct st fun x => ?_
    rw [m, hu, List.mem_filter]
    simp
end Lib
end CK
end

section
set_option Elab.async false
set_option linter.all false
set_option exponentiation.threshold 100000
set_option maxRecDepth 100000
set_option maxHeartbeats 4000000
namespace CK
namespace Lib
open PySem PySem.Spec PyProof.Rows L2
local macro_rules | `(tactic| walk_at "ck") => `(tactic| try simp only [wp_seq, wp_asg, wp_if, wp_ret, wp_retN, wp_drop, wp_fn, wp_var0, wp_varS, wp_mC, wp_m2, wp_m1, wp_nil, wp_cons, wp_args, wp_call, wp_tst, wp_and, wp_or, wp_not, wp_andV, wp_orV, wp_notV, wp_ifE, wp_chain, wp_nx, wp_brk, wp_cnt, aft_nx, aft_rt, aft_bk, aft_ct, aft_xc, fin_rt, fin_nx, fin_xc, fin_bk, fin_ct, wp_gNm, wp_gTp, wp_gsNil, wp_gsCons, wp_gSub, wp_par, wp_par3, wp_i0, wp_iC, wp_addI, wp_addT, wp_mulI, wp_neg, wp_tup, wp_lst, sz0, sz1, sz2, sz3, sz4, sz5, sz6, sz7, sz8, wp_yes, wp_ixT, wp_ixL, wp_setL, wp_isi, tyN, isi_ii, isi_ib, isi_bi, isi_bb, isi_nb, isi_ni, isi_ns, isi_nt, isi_nl, isi_nd, isi_bs, isi_bt, isi_bl, isi_bd, isi_is, isi_it, isi_il, isi_id, isi_sb, isi_si, isi_ss, isi_st, isi_sl, isi_sd, isi_tb, isi_ti, isi_ts, isi_tt, isi_tl, isi_td, isi_lb, isi_li, isi_ls, isi_lt, isi_ll, isi_ld, isi_db, isi_di, isi_ds, isi_dt, isi_dl, isi_dd, wp_slice, wp_noPart, wp_part, asInt_int, wp_slT, wp_slL, wp_mulT, wp_src, wp_lc, wipeE, D.ref.injEq, D.tup.injEq, reduceCtorEq, false_and, exists_false, false_or, or_false, cpt2, cpt3, cpt4, cpt5, cpt6, cpt7, cpt8, cpt9, cpt10, cpt11, cpt12, cpt13, cpt14, cpt15, cpt16, cpt17, cpt18, cpt19, cpt20, cpt24, cpt30, cpt36, cpt40, cpt48, cpt50, cpt58, cpt59, cpt60, wp_extend, wp_revL, exists_and_left, wp_ML, wp_ML0, isLs_ref, wp_append, wp_pop, wp_tupleR, wp_tupleT, wp_listR, wp_listT, wp_all, wp_any, wp_sum, wp_notB, wp_isB, wp_isN, wp_notN, Option.isSome_some, wp_rng1, wp_rng2, wp_rng3, lsAt, lsO_lst, lsO_fro, lstO_lst, wp_lenR, lenO_lst, lenO_fro, lenO_dK, List.length_map, List.getElem?_cons_zero, List.getElem?_cons_succ, wp_dnew, wp_dget, wp_din, wp_dnin, wp_dg1, wp_dput, wp_dpop, wp_MD, isDk_ref, dkO_dK, keyD_int, keyD_str, wp_lrg1, wp_trg1, wp_MS, isStrB_str, wp_sindex, wp_isiT, wp_strI, wp_eqS, wp_neS, wp_eqI, wp_neI, wp_eqB, wp_neB, wp_abs, wp_intI, wp_intB, wp_max2, wp_min2, wp_lenT, wp_for, wp_ok, wp_bad, lp_nx, lp_ct, lp_bk, lp_rt, lp_xc, asBl_bl, at0, at1, at2, List.map_cons, List.map_nil, List.cons_append, List.nil_append, List.length_cons, List.length_nil, List.replicate, List.set_cons_zero, List.set_cons_succ, Nat.reduceAdd, Int.reduceToNat, Int.reducePow, Int.reduceNeg, Int.reduceMul, Int.reduceAdd, Int.reduceSub, Int.reduceMod, Int.reduceDiv, Int.reduceLT, Int.reduceLE, Int.zero_mul, Int.zero_add, Int.cast_ofNat_Int, Int.reduceBEq, Nat.reduceLeDiff, Nat.reduceEqDiff, true_and, and_true, Nat.reduceSub, if_true, Option.some.injEq, exists_eq_left', Bool.not_true, Bool.not_false, decide_eq_true_eq, Bool.false_eq_true, if_false])
local macro_rules | `(tactic| walk_at "cks") => `(tactic| try simp only [wp_seq, wp_asg, wp_if, wp_ret, wp_retN, wp_drop, wp_fn, wp_var0, wp_varS, wp_mC, wp_m2, wp_m1, wp_nil, wp_cons, wp_args, wp_call, wp_tst, wp_and, wp_or, wp_not, wp_andV, wp_orV, wp_notV, wp_ifE, wp_chain, wp_nx, wp_brk, wp_cnt, aft_nx, aft_rt, aft_bk, aft_ct, aft_xc, fin_rt, fin_nx, fin_xc, fin_bk, fin_ct, wp_gNm, wp_gTp, wp_gsNil, wp_gsCons, wp_gSub, wp_par, wp_par3, wp_i0, wp_iC, wp_addI, wp_addT, wp_mulI, wp_neg, wp_tup, wp_lst, sz0, sz1, sz2, sz3, sz4, sz5, sz6, sz7, sz8, wp_yes, wp_ixT, wp_ixL, wp_setL, wp_isi, tyN, isi_ii, isi_ib, isi_bi, isi_bb, isi_nb, isi_ni, isi_ns, isi_nt, isi_nl, isi_nd, isi_bs, isi_bt, isi_bl, isi_bd, isi_is, isi_it, isi_il, isi_id, isi_sb, isi_si, isi_ss, isi_st, isi_sl, isi_sd, isi_tb, isi_ti, isi_ts, isi_tt, isi_tl, isi_td, isi_lb, isi_li, isi_ls, isi_lt, isi_ll, isi_ld, isi_db, isi_di, isi_ds, isi_dt, isi_dl, isi_dd, wp_slice, wp_noPart, wp_part, asInt_int, wp_slT, wp_slL, wp_mulT, wp_src, wp_lc, wipeE, D.ref.injEq, D.tup.injEq, reduceCtorEq, false_and, exists_false, false_or, or_false, cpt2, cpt3, cpt4, cpt5, cpt6, cpt7, cpt8, cpt9, cpt10, cpt11, cpt12, cpt13, cpt14, cpt15, cpt16, cpt17, cpt18, cpt19, cpt20, cpt24, cpt30, cpt36, cpt40, cpt48, cpt50, cpt58, cpt59, cpt60, wp_extend, wp_revL, exists_and_left, wp_ML, wp_ML0, isLs_ref, wp_append, wp_pop, wp_tupleR, wp_tupleT, wp_listR, wp_listT, wp_all, wp_any, wp_sum, wp_notB, wp_isB, wp_isN, wp_notN, Option.isSome_some, wp_rng1, wp_rng2, wp_rng3, lsAt, lsO_lst, lsO_fro, lstO_lst, wp_lenR, lenO_lst, lenO_fro, lenO_dK, List.length_map, List.getElem?_cons_zero, List.getElem?_cons_succ, wp_dnew, wp_dget, wp_din, wp_dnin, wp_dg1, wp_dput, wp_dpop, wp_MD, isDk_ref, dkO_dK, keyD_int, keyD_str, wp_lrg1, wp_trg1, wp_MS, isStrB_str, wp_sindex, wp_isiT, wp_strI, wp_eqS, wp_neS, wp_eqI, wp_neI, wp_eqB, wp_neB, wp_abs, wp_intI, wp_intB, wp_max2, wp_min2, wp_lenT, wp_for, wp_ok, wp_bad, lp_nx, lp_ct, lp_bk, lp_rt, lp_xc, asBl_bl, at0, at1, at2, List.map_cons, List.map_nil, List.cons_append, List.nil_append, List.length_cons, List.length_nil, List.replicate, List.set_cons_zero, List.set_cons_succ, Nat.reduceAdd, Int.reduceToNat, Int.reducePow, Int.reduceNeg, Int.reduceMul, Int.reduceAdd, Int.reduceSub, Int.reduceMod, Int.reduceDiv, Int.reduceLT, Int.reduceLE, Int.zero_mul, Int.zero_add, Int.cast_ofNat_Int, Int.reduceBEq, Nat.reduceLeDiff, Nat.reduceEqDiff, true_and, and_true, Nat.reduceSub, if_true, Option.some.injEq, exists_eq_left', Bool.not_true, Bool.not_false, decide_eq_true_eq, Bool.false_eq_true, if_false, *])
local macro_rules | `(tactic| walk_at "ck1") => `(tactic| try simp only [wp_seq, wp_asg, wp_if, wp_ret, wp_retN, wp_drop, wp_fn, wp_var0, wp_varS, wp_mC, wp_m2, wp_m1, wp_nil, wp_cons, wp_args, wp_call, wp_tst, wp_and, wp_or, wp_not, wp_andV, wp_orV, wp_notV, wp_ifE, wp_chain, wp_nx, wp_brk, wp_cnt, aft_rt, aft_bk, aft_ct, aft_xc, fin_rt, fin_nx, fin_xc, fin_bk, fin_ct, wp_gNm, wp_gTp, wp_gsNil, wp_gsCons, wp_gSub, wp_par, wp_par3, wp_i0, wp_iC, wp_addI, wp_addT, wp_mulI, wp_neg, wp_tup, wp_lst, sz0, sz1, sz2, sz3, sz4, sz5, sz6, sz7, sz8, wp_yes, wp_ixT, wp_ixL, wp_setL, wp_isi, tyN, isi_ii, isi_ib, isi_bi, isi_bb, isi_nb, isi_ni, isi_ns, isi_nt, isi_nl, isi_nd, isi_bs, isi_bt, isi_bl, isi_bd, isi_is, isi_it, isi_il, isi_id, isi_sb, isi_si, isi_ss, isi_st, isi_sl, isi_sd, isi_tb, isi_ti, isi_ts, isi_tt, isi_tl, isi_td, isi_lb, isi_li, isi_ls, isi_lt, isi_ll, isi_ld, isi_db, isi_di, isi_ds, isi_dt, isi_dl, isi_dd, wp_slice, wp_noPart, wp_part, asInt_int, wp_slT, wp_slL, wp_mulT, wp_src, wp_lc, wipeE, D.ref.injEq, D.tup.injEq, reduceCtorEq, false_and, exists_false, false_or, or_false, cpt2, cpt3, cpt4, cpt5, cpt6, cpt7, cpt8, cpt9, cpt10, cpt11, cpt12, cpt13, cpt14, cpt15, cpt16, cpt17, cpt18, cpt19, cpt20, cpt24, cpt30, cpt36, cpt40, cpt48, cpt50, cpt58, cpt59, cpt60, wp_extend, wp_revL, exists_and_left, wp_ML, wp_ML0, isLs_ref, wp_append, wp_pop, wp_tupleR, wp_tupleT, wp_listR, wp_listT, wp_all, wp_any, wp_sum, wp_notB, wp_isB, wp_isN, wp_notN, Option.isSome_some, wp_rng1, wp_rng2, wp_rng3, lsAt, lsO_lst, lsO_fro, lstO_lst, wp_lenR, lenO_lst, lenO_fro, lenO_dK, List.length_map, List.getElem?_cons_zero, List.getElem?_cons_succ, wp_dnew, wp_dget, wp_din, wp_dnin, wp_dg1, wp_dput, wp_dpop, wp_MD, isDk_ref, dkO_dK, keyD_int, keyD_str, wp_lrg1, wp_trg1, wp_MS, isStrB_str, wp_sindex, wp_isiT, wp_strI, wp_eqS, wp_neS, wp_eqI, wp_neI, wp_eqB, wp_neB, wp_abs, wp_intI, wp_intB, wp_max2, wp_min2, wp_lenT, wp_for, wp_ok, wp_bad, lp_nx, lp_ct, lp_bk, lp_rt, lp_xc, asBl_bl, at0, at1, at2, List.map_cons, List.map_nil, List.cons_append, List.nil_append, List.length_cons, List.length_nil, List.replicate, List.set_cons_zero, List.set_cons_succ, Nat.reduceAdd, Int.reduceToNat, Int.reducePow, Int.reduceNeg, Int.reduceMul, Int.reduceAdd, Int.reduceSub, Int.reduceMod, Int.reduceDiv, Int.reduceLT, Int.reduceLE, Int.zero_mul, Int.zero_add, Int.cast_ofNat_Int, Int.reduceBEq, Nat.reduceLeDiff, Nat.reduceEqDiff, true_and, and_true, Nat.reduceSub, if_true, Option.some.injEq, exists_eq_left', Bool.not_true, Bool.not_false, decide_eq_true_eq, Bool.false_eq_true, if_false])

def NumB (i : Int) : Prop := -(10 ^ 61) < i ∧ i < 10 ^ 61
def CardN (c : Card) : Prop := NumB c.1 ∧ NumB c.2.1 ∧ NumB c.2.2
theorem num_abs {i : Int} (h : NumB i) : i.natAbs < 10 ^ 61 := by
  obtain ⟨h1, h2⟩ := h
  omega
theorem num_log {i : Int} (h : NumB i) : i.natAbs.log2 < 203 := by
  have h1 := num_abs h
  have h2 : (10 : Nat) ^ 61 < 2 ^ 203 := by decide +kernel
  by_cases h0 : i.natAbs = 0
  · rw [h0]; decide
  · exact (Nat.log2_lt h0).mpr (by omega)
theorem num_weight {i : Int} (h : NumB i) : (PyData.int i).weight ≤ 203 := by
  have := num_log h
  simp only [PyData.weight]
  split <;> omega
theorem num_short {i : Int} (h : NumB i) : PyData.leavesShort 62 (.int i) = true := by
  have e := int_text_length_le10 (k := 61) (by decide) (num_abs h)
  have e2 : (Str.ofString (toString i)).length = (toString i).length := ofString_len _
  have e3 : (Str.ofString (toString i)).length ≤ 62 := by omega
  simp only [PyData.leavesShort, PyData.shown]
  exact decide_eq_true e3
theorem num_show {i : Int} (h : NumB i) : PyData.showable (.int i) = true := by
  have := num_log h
  simp only [PyData.showable, decide_eq_true_eq]
  omega

structure Shw (p : PyData) (w d : Nat) : Prop where
  sh : p.showable = true
  ls : p.leavesShort 62 = true
  wt : p.weight ≤ w
  dp : p.depth ≤ d
theorem shw_int {i : Int} (h : NumB i) : Shw (.int i) 203 0 := ⟨num_show h, num_short h, num_weight h, by simp [PyData.depth]⟩
theorem Shw.mono {p : PyData} {w d w' d' : Nat} (h : Shw p w d) (h1 : w ≤ w') (h2 : d ≤ d') : Shw p w' d' := ⟨h.sh, h.ls, Nat.le_trans h.wt h1, Nat.le_trans h.dp h2⟩
theorem shw_tup0 : Shw (.tuple []) 0 1 := ⟨by simp [PyData.showable, PyData.showableAll], by simp [PyData.leavesShort, PyData.leavesShortAll], by simp [PyData.weight, PyData.weightAll], by simp [PyData.depth, PyData.depthAll]⟩
theorem shw_tup2 {a b : PyData} {w w1 d : Nat} (h : Shw a w d) (h1 : Shw b w1 d) : Shw (.tuple [a, b]) (w + w1 + 2) (d + 1) :=
  ⟨by simp [PyData.showable, PyData.showableAll, h.sh, h1.sh], by simp [PyData.leavesShort, PyData.leavesShortAll, h.ls, h1.ls], by have := h.wt; have := h1.wt; simp only [PyData.weight, PyData.weightAll]; omega,
   by have := h.dp; have := h1.dp; simp only [PyData.depth, PyData.depthAll]; omega⟩
theorem shw_tup3 {a b c : PyData} {w w1 w2 d : Nat} (h : Shw a w d) (h1 : Shw b w1 d) (h2 : Shw c w2 d) : Shw (.tuple [a, b, c]) (w + w1 + w2 + 3) (d + 1) :=
  ⟨by simp [PyData.showable, PyData.showableAll, h.sh, h1.sh, h2.sh], by simp [PyData.leavesShort, PyData.leavesShortAll, h.ls, h1.ls, h2.ls], by have := h.wt; have := h1.wt; have := h2.wt; simp only [PyData.weight, PyData.weightAll]; omega,
   by have := h.dp; have := h1.dp; have := h2.dp; simp only [PyData.depth, PyData.depthAll]; omega⟩
theorem shw_card {c : Card} (h : CardN c) : Shw (cpy c) 612 1 := (shw_tup3 (shw_int h.1) (shw_int h.2.1) (shw_int h.2.2)).mono (by omega) (by omega)
theorem shw_tr : ∀ {t : Tr}, (∀ c ∈ t.cards, CardN c) → Shw t.py (615 * t.cards.length) (t.ht + 2)
  | .e, _ => shw_tup0.mono (Nat.zero_le _) (by simp [Tr.ht])
  | .n l c r, h => by
    have h1 := shw_tr (t := l) fun x hx => h x (by simp [Tr.cards, hx])
    have h2 := shw_tr (t := r) fun x hx => h x (by simp [Tr.cards, hx])
    have h3 := shw_card (h c (by simp [Tr.cards]))
    have hd : max l.ht r.ht + 2 = (Tr.n l c r).ht + 1 := by simp only [Tr.ht]
    refine (shw_tup3 (h1.mono (Nat.le_refl _) (d' := max l.ht r.ht + 2) (by omega)) (h3.mono (Nat.le_refl _) (by omega)) (h2.mono (Nat.le_refl _) (by omega))).mono ?_ (by omega)
    simp only [Tr.cards, List.length_append, List.length_cons]
    omega
theorem Shw.fits {p : PyData} {w d : Nat} (h : Shw p w d) (hw : w ≤ 260000) : p.shown.length ≤ sizeLine := by
  have h1 := PyData.shown_le 62 (by decide) p h.ls
  have h2 := h.wt
  have h3 : (62 + 2) * p.weight ≤ 64 * w := by omega
  rw [sizeLine_eq]
  omega
theorem shw_all : ∀ {ps : List PyData} {w d : Nat}, (∀ p ∈ ps, Shw p w d) → PyData.showableAll ps = true ∧ PyData.leavesShortAll 62 ps = true ∧ PyData.weightAll ps ≤ (w + 1) * ps.length ∧ PyData.depthAll ps ≤ d
  | [], w, d, _ => ⟨rfl, rfl, by simp [PyData.weightAll], by simp [PyData.depthAll]⟩
  | p :: ps, w, d, h => by
    obtain ⟨h1, h2, h3, h4⟩ := shw_all (ps := ps) fun x hx => h x (List.mem_cons_of_mem _ hx)
    have h0 := h p List.mem_cons_self
    refine ⟨by simp [PyData.showableAll, h0.sh, h1], by simp [PyData.leavesShortAll, h0.ls, h2], ?_, ?_⟩
    · have := h0.wt
      simp only [PyData.weightAll, List.length_cons, Nat.mul_add]
      omega
    · have := h0.dp
      simp only [PyData.depthAll]
      omega
theorem shw_list {ps : List PyData} {w d : Nat} (h : ∀ p ∈ ps, Shw p w d) : Shw (.list ps) ((w + 1) * ps.length) (d + 1) := by
  obtain ⟨h1, h2, h3, h4⟩ := shw_all h
  exact ⟨by simpa [PyData.showable] using h1, by simpa [PyData.leavesShort] using h2, by simpa [PyData.weight] using h3, by simp only [PyData.depth]; omega⟩
theorem shw_tup {ps : List PyData} {w d : Nat} (h : ∀ p ∈ ps, Shw p w d) : Shw (.tuple ps) ((w + 1) * ps.length) (d + 1) := by
  obtain ⟨h1, h2, h3, h4⟩ := shw_all h
  exact ⟨by simpa [PyData.showable] using h1, by simpa [PyData.leavesShort] using h2, by simpa [PyData.weight] using h3, by simp only [PyData.depth]; omega⟩
section
variable {E : Exn → Store → Prop} {S : Store} {Q : D → Store → Prop}
theorem str_ref {k w d : Nat} {p : PyData} (hp : pyD S (.ref k) = some p) (h : Shw p w d) (hw : w ≤ 260000) (hd : d ≤ 190) (q : Q (.str p.shown) S) : wp (strXM [.ref k] S) Q E := wp_strR hp h.sh (Nat.le_trans h.dp hd) (h.fits hw) q
theorem str_tup {xs : List D} {w d : Nat} {p : PyData} (hp : pyD S (.tup xs) = some p) (h : Shw p w d) (hw : w ≤ 260000) (hd : d ≤ 190) (q : Q (.str p.shown) S) : wp (strXM [.tup xs] S) Q E := wp_strT hp h.sh (Nat.le_trans h.dp hd) (h.fits hw) q
theorem str_tr {t : Tr} (h : ∀ c ∈ t.cards, CardN c) (hl : t.cards.length ≤ 150) (q : Q (.str t.py.shown) S) : wp (strXM [t.d] S) Q E := by
  have hh := t.ht_le
  have hp : pyD S t.d = some t.py := pyD_tr (by omega)
  have hs := shw_tr h
  cases t with
  | e => exact str_tup hp hs (by omega) (by omega) q
  | n l c r => exact str_tup hp hs (by omega) (by omega) q
theorem wp_neT {t u : Tr} (h : t.ht ≤ 150) (h2 : u.ht ≤ 150) : wp (neM t.d u.d S) Q E = Q (.bl (!PyData.eqv t.py u.py)) S := by
  rw [wp_ne, pyD_tr h, pyD_tr h2]; simp
theorem wp_eqT {t u : Tr} (h : t.ht ≤ 150) (h2 : u.ht ≤ 150) : wp (eqM t.d u.d S) Q E = Q (.bl (PyData.eqv t.py u.py)) S := by
  rw [wp_eq, pyD_tr h, pyD_tr h2]; simp
end
theorem eqv_card (c : Card) : PyData.eqv (cpy c) (cpy c) = true := by simp [cpy, PyData.eqv, PyData.eqvAll]
theorem eqv_tr : ∀ t : Tr, PyData.eqv t.py t.py = true
  | .e => by simp [Tr.py, PyData.eqv, PyData.eqvAll]
  | .n l c r => by simp [Tr.py, PyData.eqv, PyData.eqvAll, eqv_tr l, eqv_tr r, eqv_card]
theorem eqv_cardI {a b : Card} : PyData.eqv (cpy a) (cpy b) = decide (a = b) := by
  obtain ⟨a1, a2, a3⟩ := a
  obtain ⟨b1, b2, b3⟩ := b
  apply Bool.eq_iff_iff.mpr
  simp [cpy, PyData.eqv, PyData.eqvAll]
theorem eqv_trI : ∀ {t u : Tr}, PyData.eqv t.py u.py = true → t = u
  | .e, .e, _ => rfl
  | .e, .n l c r, h => by simp [Tr.py, PyData.eqv, PyData.eqvAll] at h
  | .n l c r, .e, h => by simp [Tr.py, PyData.eqv, PyData.eqvAll] at h
  | .n l c r, .n l' c' r', h => by
    simp only [Tr.py, PyData.eqv, PyData.eqvAll, Bool.and_eq_true, eqv_cardI, decide_eq_true_eq] at h
    rw [eqv_trI h.1, h.2.1, eqv_trI h.2.2.1]
end Lib
end CK
end

section
set_option Elab.async false
set_option linter.all false
set_option exponentiation.threshold 100000
set_option maxRecDepth 100000
set_option maxHeartbeats 4000000
namespace CK
namespace Lib
open PySem PySem.Spec PyProof.Rows L2
local macro_rules | `(tactic| walk_at "ck") => `(tactic| try simp only [wp_seq, wp_asg, wp_if, wp_ret, wp_retN, wp_drop, wp_fn, wp_var0, wp_varS, wp_mC, wp_m2, wp_m1, wp_nil, wp_cons, wp_args, wp_call, wp_tst, wp_and, wp_or, wp_not, wp_andV, wp_orV, wp_notV, wp_ifE, wp_chain, wp_nx, wp_brk, wp_cnt, aft_nx, aft_rt, aft_bk, aft_ct, aft_xc, fin_rt, fin_nx, fin_xc, fin_bk, fin_ct, wp_gNm, wp_gTp, wp_gsNil, wp_gsCons, wp_gSub, wp_par, wp_par3, wp_i0, wp_iC, wp_addI, wp_addT, wp_mulI, wp_neg, wp_tup, wp_lst, sz0, sz1, sz2, sz3, sz4, sz5, sz6, sz7, sz8, wp_yes, wp_ixT, wp_ixL, wp_setL, wp_isi, tyN, isi_ii, isi_ib, isi_bi, isi_bb, isi_nb, isi_ni, isi_ns, isi_nt, isi_nl, isi_nd, isi_bs, isi_bt, isi_bl, isi_bd, isi_is, isi_it, isi_il, isi_id, isi_sb, isi_si, isi_ss, isi_st, isi_sl, isi_sd, isi_tb, isi_ti, isi_ts, isi_tt, isi_tl, isi_td, isi_lb, isi_li, isi_ls, isi_lt, isi_ll, isi_ld, isi_db, isi_di, isi_ds, isi_dt, isi_dl, isi_dd, wp_slice, wp_noPart, wp_part, asInt_int, wp_slT, wp_slL, wp_mulT, wp_src, wp_lc, wipeE, D.ref.injEq, D.tup.injEq, reduceCtorEq, false_and, exists_false, false_or, or_false, cpt2, cpt3, cpt4, cpt5, cpt6, cpt7, cpt8, cpt9, cpt10, cpt11, cpt12, cpt13, cpt14, cpt15, cpt16, cpt17, cpt18, cpt19, cpt20, cpt24, cpt30, cpt36, cpt40, cpt48, cpt50, cpt58, cpt59, cpt60, wp_extend, wp_revL, exists_and_left, wp_ML, wp_ML0, isLs_ref, wp_append, wp_pop, wp_tupleR, wp_tupleT, wp_listR, wp_listT, wp_all, wp_any, wp_sum, wp_notB, wp_isB, wp_isN, wp_notN, Option.isSome_some, wp_rng1, wp_rng2, wp_rng3, lsAt, lsO_lst, lsO_fro, lstO_lst, wp_lenR, lenO_lst, lenO_fro, lenO_dK, List.length_map, List.getElem?_cons_zero, List.getElem?_cons_succ, wp_dnew, wp_dget, wp_din, wp_dnin, wp_dg1, wp_dput, wp_dpop, wp_MD, isDk_ref, dkO_dK, keyD_int, keyD_str, wp_lrg1, wp_trg1, wp_MS, isStrB_str, wp_sindex, wp_isiT, wp_strI, wp_eqS, wp_neS, wp_eqI, wp_neI, wp_eqB, wp_neB, wp_abs, wp_intI, wp_intB, wp_max2, wp_min2, wp_lenT, wp_for, wp_ok, wp_bad, lp_nx, lp_ct, lp_bk, lp_rt, lp_xc, asBl_bl, at0, at1, at2, List.map_cons, List.map_nil, List.cons_append, List.nil_append, List.length_cons, List.length_nil, List.replicate, List.set_cons_zero, List.set_cons_succ, Nat.reduceAdd, Int.reduceToNat, Int.reducePow, Int.reduceNeg, Int.reduceMul, Int.reduceAdd, Int.reduceSub, Int.reduceMod, Int.reduceDiv, Int.reduceLT, Int.reduceLE, Int.zero_mul, Int.zero_add, Int.cast_ofNat_Int, Int.reduceBEq, Nat.reduceLeDiff, Nat.reduceEqDiff, true_and, and_true, Nat.reduceSub, if_true, Option.some.injEq, exists_eq_left', Bool.not_true, Bool.not_false, decide_eq_true_eq, Bool.false_eq_true, if_false])
local macro_rules | `(tactic| walk_at "cks") => `(tactic| try simp only [wp_seq, wp_asg, wp_if, wp_ret, wp_retN, wp_drop, wp_fn, wp_var0, wp_varS, wp_mC, wp_m2, wp_m1, wp_nil, wp_cons, wp_args, wp_call, wp_tst, wp_and, wp_or, wp_not, wp_andV, wp_orV, wp_notV, wp_ifE, wp_chain, wp_nx, wp_brk, wp_cnt, aft_nx, aft_rt, aft_bk, aft_ct, aft_xc, fin_rt, fin_nx, fin_xc, fin_bk, fin_ct, wp_gNm, wp_gTp, wp_gsNil, wp_gsCons, wp_gSub, wp_par, wp_par3, wp_i0, wp_iC, wp_addI, wp_addT, wp_mulI, wp_neg, wp_tup, wp_lst, sz0, sz1, sz2, sz3, sz4, sz5, sz6, sz7, sz8, wp_yes, wp_ixT, wp_ixL, wp_setL, wp_isi, tyN, isi_ii, isi_ib, isi_bi, isi_bb, isi_nb, isi_ni, isi_ns, isi_nt, isi_nl, isi_nd, isi_bs, isi_bt, isi_bl, isi_bd, isi_is, isi_it, isi_il, isi_id, isi_sb, isi_si, isi_ss, isi_st, isi_sl, isi_sd, isi_tb, isi_ti, isi_ts, isi_tt, isi_tl, isi_td, isi_lb, isi_li, isi_ls, isi_lt, isi_ll, isi_ld, isi_db, isi_di, isi_ds, isi_dt, isi_dl, isi_dd, wp_slice, wp_noPart, wp_part, asInt_int, wp_slT, wp_slL, wp_mulT, wp_src, wp_lc, wipeE, D.ref.injEq, D.tup.injEq, reduceCtorEq, false_and, exists_false, false_or, or_false, cpt2, cpt3, cpt4, cpt5, cpt6, cpt7, cpt8, cpt9, cpt10, cpt11, cpt12, cpt13, cpt14, cpt15, cpt16, cpt17, cpt18, cpt19, cpt20, cpt24, cpt30, cpt36, cpt40, cpt48, cpt50, cpt58, cpt59, cpt60, wp_extend, wp_revL, exists_and_left, wp_ML, wp_ML0, isLs_ref, wp_append, wp_pop, wp_tupleR, wp_tupleT, wp_listR, wp_listT, wp_all, wp_any, wp_sum, wp_notB, wp_isB, wp_isN, wp_notN, Option.isSome_some, wp_rng1, wp_rng2, wp_rng3, lsAt, lsO_lst, lsO_fro, lstO_lst, wp_lenR, lenO_lst, lenO_fro, lenO_dK, List.length_map, List.getElem?_cons_zero, List.getElem?_cons_succ, wp_dnew, wp_dget, wp_din, wp_dnin, wp_dg1, wp_dput, wp_dpop, wp_MD, isDk_ref, dkO_dK, keyD_int, keyD_str, wp_lrg1, wp_trg1, wp_MS, isStrB_str, wp_sindex, wp_isiT, wp_strI, wp_eqS, wp_neS, wp_eqI, wp_neI, wp_eqB, wp_neB, wp_abs, wp_intI, wp_intB, wp_max2, wp_min2, wp_lenT, wp_for, wp_ok, wp_bad, lp_nx, lp_ct, lp_bk, lp_rt, lp_xc, asBl_bl, at0, at1, at2, List.map_cons, List.map_nil, List.cons_append, List.nil_append, List.length_cons, List.length_nil, List.replicate, List.set_cons_zero, List.set_cons_succ, Nat.reduceAdd, Int.reduceToNat, Int.reducePow, Int.reduceNeg, Int.reduceMul, Int.reduceAdd, Int.reduceSub, Int.reduceMod, Int.reduceDiv, Int.reduceLT, Int.reduceLE, Int.zero_mul, Int.zero_add, Int.cast_ofNat_Int, Int.reduceBEq, Nat.reduceLeDiff, Nat.reduceEqDiff, true_and, and_true, Nat.reduceSub, if_true, Option.some.injEq, exists_eq_left', Bool.not_true, Bool.not_false, decide_eq_true_eq, Bool.false_eq_true, if_false, *])
local macro_rules | `(tactic| walk_at "ck1") => `(tactic| try simp only [wp_seq, wp_asg, wp_if, wp_ret, wp_retN, wp_drop, wp_fn, wp_var0, wp_varS, wp_mC, wp_m2, wp_m1, wp_nil, wp_cons, wp_args, wp_call, wp_tst, wp_and, wp_or, wp_not, wp_andV, wp_orV, wp_notV, wp_ifE, wp_chain, wp_nx, wp_brk, wp_cnt, aft_rt, aft_bk, aft_ct, aft_xc, fin_rt, fin_nx, fin_xc, fin_bk, fin_ct, wp_gNm, wp_gTp, wp_gsNil, wp_gsCons, wp_gSub, wp_par, wp_par3, wp_i0, wp_iC, wp_addI, wp_addT, wp_mulI, wp_neg, wp_tup, wp_lst, sz0, sz1, sz2, sz3, sz4, sz5, sz6, sz7, sz8, wp_yes, wp_ixT, wp_ixL, wp_setL, wp_isi, tyN, isi_ii, isi_ib, isi_bi, isi_bb, isi_nb, isi_ni, isi_ns, isi_nt, isi_nl, isi_nd, isi_bs, isi_bt, isi_bl, isi_bd, isi_is, isi_it, isi_il, isi_id, isi_sb, isi_si, isi_ss, isi_st, isi_sl, isi_sd, isi_tb, isi_ti, isi_ts, isi_tt, isi_tl, isi_td, isi_lb, isi_li, isi_ls, isi_lt, isi_ll, isi_ld, isi_db, isi_di, isi_ds, isi_dt, isi_dl, isi_dd, wp_slice, wp_noPart, wp_part, asInt_int, wp_slT, wp_slL, wp_mulT, wp_src, wp_lc, wipeE, D.ref.injEq, D.tup.injEq, reduceCtorEq, false_and, exists_false, false_or, or_false, cpt2, cpt3, cpt4, cpt5, cpt6, cpt7, cpt8, cpt9, cpt10, cpt11, cpt12, cpt13, cpt14, cpt15, cpt16, cpt17, cpt18, cpt19, cpt20, cpt24, cpt30, cpt36, cpt40, cpt48, cpt50, cpt58, cpt59, cpt60, wp_extend, wp_revL, exists_and_left, wp_ML, wp_ML0, isLs_ref, wp_append, wp_pop, wp_tupleR, wp_tupleT, wp_listR, wp_listT, wp_all, wp_any, wp_sum, wp_notB, wp_isB, wp_isN, wp_notN, Option.isSome_some, wp_rng1, wp_rng2, wp_rng3, lsAt, lsO_lst, lsO_fro, lstO_lst, wp_lenR, lenO_lst, lenO_fro, lenO_dK, List.length_map, List.getElem?_cons_zero, List.getElem?_cons_succ, wp_dnew, wp_dget, wp_din, wp_dnin, wp_dg1, wp_dput, wp_dpop, wp_MD, isDk_ref, dkO_dK, keyD_int, keyD_str, wp_lrg1, wp_trg1, wp_MS, isStrB_str, wp_sindex, wp_isiT, wp_strI, wp_eqS, wp_neS, wp_eqI, wp_neI, wp_eqB, wp_neB, wp_abs, wp_intI, wp_intB, wp_max2, wp_min2, wp_lenT, wp_for, wp_ok, wp_bad, lp_nx, lp_ct, lp_bk, lp_rt, lp_xc, asBl_bl, at0, at1, at2, List.map_cons, List.map_nil, List.cons_append, List.nil_append, List.length_cons, List.length_nil, List.replicate, List.set_cons_zero, List.set_cons_succ, Nat.reduceAdd, Int.reduceToNat, Int.reducePow, Int.reduceNeg, Int.reduceMul, Int.reduceAdd, Int.reduceSub, Int.reduceMod, Int.reduceDiv, Int.reduceLT, Int.reduceLE, Int.zero_mul, Int.zero_add, Int.cast_ofNat_Int, Int.reduceBEq, Nat.reduceLeDiff, Nat.reduceEqDiff, true_and, and_true, Nat.reduceSub, if_true, Option.some.injEq, exists_eq_left', Bool.not_true, Bool.not_false, decide_eq_true_eq, Bool.false_eq_true, if_false])
def law_signs_M : List D → M D := mFn 7
 (mSeq (mAsg (mCall 2 law_take_M (mCons (mVar 0) (mCons (mC (.int 5)) mNil))) (gNm 2))
 (mSeq (mAsg (m2 ixM (mC (.str "abc")) (mCall 2 law_take_M (mCons (mVar 0) (mCons (mC (.int 3)) mNil)))) (gNm 3))
 (mSeq (mAsg (mArgs lstM mNil) (gNm 4))
 (mSeq (mAsg (m2 ixM (mC (.str "abc")) (mCall 2 law_take_M (mCons (mVar 0) (mCons (mC (.int 3)) mNil)))) (gNm 5))
 (mSeq (mFor (mRng1 (mCons (mVar 1) mNil)) (gNm 6)
 (mSeq (mIf (mOr (mTst (m2 eqM (mVar 2) (mC (.int 0)))) (mAnd (mTst (m2 eqM (mVar 2) (mC (.int 1)))) (mTst (m2 eqM (mCall 2 law_take_M (mCons (mVar 0) (mCons (mC (.int 6)) mNil))) (mC (.int 0))))))
 (mAsg (m2 ixM (mC (.str "abc")) (mCall 2 law_take_M (mCons (mVar 0) (mCons (mC (.int 3)) mNil)))) (gNm 5))
 mNx)
 (mSeq (mIf (mTst (m2 eqM (mVar 2) (mC (.int 2))))
 (mAsg (m2 ixM (mC (.str "aaaaaaab")) (mCall 2 law_take_M (mCons (mVar 0) (mCons (mC (.int 8)) mNil)))) (gNm 5))
 mNx)
 (mSeq (mIf (mTst (m2 eqM (mVar 2) (mC (.int 3))))
 (mAsg (m2 ixM (mC (.str "ab")) (m2 modM (mVar 6) (mC (.int 2)))) (gNm 5))
 mNx)
 (mDrop (mML appendM (mVar 4) (mCons (mVar 5) mNil)))))))
 (mSeq (mIf (mAnd (mTst (m2 gtM (mVar 1) (mC (.int 0)))) (mTst (m2 eqM (mCall 2 law_take_M (mCons (mVar 0) (mCons (mC (.int 4)) mNil))) (mC (.int 0)))))
 (mAsg (mVar 3) (gSubM (mVar 4) (mCall 2 law_take_M (mCons (mVar 0) (mCons (mVar 1) mNil))) setM))
 mNx)
 (mRet (mVar 4))))))))
def law_two_M : List D → M D := mFn 11
 (mSeq (mAsg (mCall 2 law_marks_M (mCons (mVar 0) (mCons (mCall 2 law_many_M (mCons (mVar 0) (mCons (mVar 1) mNil))) mNil))) (gNm 2))
 (mSeq (mAsg (mCall 2 law_signs_M (mCons (mVar 0) (mCons (mArgs lenM (mCons (mVar 2) mNil)) mNil))) (gNm 3))
 (mSeq (mAsg (mCall 2 law_cards_M (mCons (mVar 0) (mCons (mVar 2) mNil))) (gNm 4))
 (mSeq (mAsg (mCall 2 law_cards_M (mCons (mVar 0) (mCons (mVar 2) mNil))) (gNm 5))
 (mSeq (mAsg (m2 ixM (mArgs tupM (mCons (mC (.int 1)) (mCons (mC (.int 1)) (mCons (m2 powM (mC (.int 10)) (mC (.int 40))) mNil)))) (mCall 2 law_take_M (mCons (mVar 0) (mCons (mC (.int 3)) mNil)))) (gNm 6))
 (mSeq (mAsg (mLc (mSrc (mVar 4)) (gNm 9) mYes (mArgs tupM (mCons (m2 ixM (mVar 9) (mC (.int 0))) (mCons (m2 ixM (mVar 9) (mC (.int 1))) (mCons (m2 mulM (m2 ixM (mVar 9) (mC (.int 2))) (mVar 6)) mNil)))) [9]) (gNm 4))
 (mSeq (mAsg (mLc (mRng1 (mCons (mArgs lenM (mCons (mVar 2) mNil)) mNil)) (gNm 10) (mTst (m2 neM (m2 ixM (mVar 3) (mVar 10)) (mC (.str "b")))) (m2 ixM (mVar 4) (mVar 10)) [10]) (gNm 7))
 (mSeq (mAsg (mLc (mRng1 (mCons (mArgs lenM (mCons (mVar 2) mNil)) mNil)) (gNm 10) (mTst (m2 neM (m2 ixM (mVar 3) (mVar 10)) (mC (.str "a")))) (m2 ixM (mVar 5) (mVar 10)) [10]) (gNm 8))
 (mRet (mArgs tupM (mCons (mVar 3) (mCons (mVar 7) (mCons (mVar 8) mNil)))))))))))))
def law_both_M : List D → M D := mFn 4
 (mSeq (mAsg (mLc (mSrc (mVar 0)) (gNm 3) mYes (m2 ixM (mVar 3) (mC (.int 0))) [3]) (gNm 2))
 (mRet (mArgs sortedM (mCons (m2 addM (mVar 0) (mLc (mSrc (mVar 1)) (gNm 3) (mTst (m2 (inXM true) (m2 ixM (mVar 3) (mC (.int 0))) (mVar 2))) (mVar 3) [3])) mNil))))

def sgD (n : Nat) : D := .str ⟨#[n]⟩
def SgOk (n : Nat) : Prop := n = 97 ∨ n = 98 ∨ n = 99
theorem str_a : (Str.ofString "a") = ⟨#[97]⟩ := by decide +kernel
theorem str_b : (Str.ofString "b") = ⟨#[98]⟩ := by decide +kernel
theorem str_c : (Str.ofString "c") = ⟨#[99]⟩ := by decide +kernel
theorem cps_abc : (Str.ofString "abc").cps.toList = [97, 98, 99] := by decide +kernel
theorem cps_a7b : (Str.ofString "aaaaaaab").cps.toList = [97, 97, 97, 97, 97, 97, 97, 98] := by decide +kernel
theorem cps_ab : (Str.ofString "ab").cps.toList = [97, 98] := by decide +kernel
theorem len_abc : (Str.ofString "abc").length ≤ sizeLine := by decide +kernel
theorem len_a7b : (Str.ofString "aaaaaaab").length ≤ sizeLine := by decide +kernel
theorem len_ab : (Str.ofString "ab").length ≤ sizeLine := by decide +kernel
section
variable {E : Exn → Store → Prop} {S : Store} {Q : D → Store → Prop}
theorem wp_ixS {z : Str} {i : Int} : wp (ixM (.str z) (.int i) S) Q E = (z.length ≤ sizeLine ∧ ∃ x, atI z.cps.toList i = some x ∧ Q (.str ⟨#[x]⟩) S) := by
  show wp (if z.length ≤ sizeLine then (match atI z.cps.toList i with | some x => .ok (.str ⟨#[x]⟩) S | none => .bad) else .bad) Q E = _
  by_cases h : z.length ≤ sizeLine
  · rw [if_pos h]
    cases h2 : atI z.cps.toList i <;> simp [h, wp_ok, wp_bad]
  · simp [h, wp_bad]
theorem sg_lay {n : Nat} (h : SgOk n) : PyData.canLay0 (.str ⟨#[n]⟩) = true := by
  rcases h with rfl | rfl | rfl <;> decide +kernel
theorem py_sg {n k : Nat} (h : SgOk n) : pyOf S (k + 1) (sgD n) = some (.str ⟨#[n]⟩) := by
  unfold pyOf sgD
  simp only [sg_lay h, if_true]
theorem sg_eq {n m : Nat} : PyData.eqv (.str ⟨#[n]⟩) (.str ⟨#[m]⟩) = decide (n = m) := by
  simp only [PyData.eqv]
  by_cases h : n = m
  · subst h; simp
  · rw [decide_eq_false h]
    apply Bool.eq_false_iff.mpr
    intro q
    have := eq_of_beq q
    injection this with this
    injection this with this
    simp at this
    exact h this
theorem wp_neSg {n m : Nat} (h1 : SgOk n) (h2 : SgOk m) : wp (neM (sgD n) (.str ⟨#[m]⟩) S) Q E = Q (.bl (!decide (n = m))) S := by
  rw [wp_ne]
  have e1 : pyD S (sgD n) = some (.str ⟨#[n]⟩) := py_sg h1
  have e2 : pyD S (.str ⟨#[m]⟩) = some (.str ⟨#[m]⟩) := py_sg h2
  rw [e1, e2]
  simp [sg_eq]
theorem wp_ixAbc {i : Int} (h0 : 0 ≤ i) (h1 : i < 3) (q : ∀ n, SgOk n → Q (sgD n) S) : wp (ixM (.str "abc") (.int i) S) Q E := by
  rw [wp_ixS, cps_abc]
  refine ⟨len_abc, ?_⟩
  have : i = 0 ∨ i = 1 ∨ i = 2 := by omega
  rcases this with rfl | rfl | rfl
  · exact ⟨97, CK.at0, q 97 (by simp [SgOk])⟩
  · exact ⟨98, CK.at1, q 98 (by simp [SgOk])⟩
  · exact ⟨99, CK.at2, q 99 (by simp [SgOk])⟩
theorem wp_ixA7b {i : Int} (h0 : 0 ≤ i) (h1 : i < 8) (q : ∀ n, SgOk n → Q (sgD n) S) : wp (ixM (.str "aaaaaaab") (.int i) S) Q E := by
  rw [wp_ixS, cps_a7b]
  refine ⟨len_a7b, ?_⟩
  obtain ⟨x, hx, hm⟩ := at_mem (xs := [97, 97, 97, 97, 97, 97, 97, 98]) h0 h1
  refine ⟨x, hx, q x ?_⟩
  simp at hm
  unfold SgOk
  omega
theorem wp_ixAb {i : Int} (h0 : 0 ≤ i) (h1 : i < 2) (q : ∀ n, SgOk n → Q (sgD n) S) : wp (ixM (.str "ab") (.int i) S) Q E := by
  rw [wp_ixS, cps_ab]
  refine ⟨len_ab, ?_⟩
  have : i = 0 ∨ i = 1 := by omega
  rcases this with rfl | rfl
  · exact ⟨97, CK.at0, q 97 (by simp [SgOk])⟩
  · exact ⟨98, CK.at1, q 98 (by simp [SgOk])⟩
end
theorem signs_ok {S : Store} {w : Nat} {m : Nat} {E : Exn → Store → Prop} {Q : D → Store → Prop} (hw : PotAt S w) (m1 : m ≤ 1000)
    (q : ∀ (sg : List Nat) (k : Nat) (S' : Store), Kp w S S' → S.length ≤ k → S'[k]? = some (.lst (sg.map sgD)) → sg.length = m → (∀ x ∈ sg, SgOk x) → Q (.ref k) S') :
    wp (law_signs_M [.ref w, .int m] S) Q E := by
  unfold law_signs_M
  walk_at "ck1"
  refine take_ok hw (by omega) (by omega) fun wy S1 wy0 wy1 k1 l1 => ?_
  simp only [aft_nx]
  walk_at "ck1"
  refine take_ok k1.pt (by omega) (by omega) fun x S2 x0 x1 k2 l2 => ?_
  refine wp_ixAbc x0 x1 fun ot hot => ?_
  simp only [aft_nx]
  walk_at "ck1"
  have k3 : Kp w S (S2 ++ [.lst []]) := (k1.trans k2).app
  have hv : S.length ≤ S2.length := (k1.trans k2).ln
  have gv : (S2 ++ [O.lst []])[S2.length]? = some (.lst (([] : List Nat).map sgD)) := get_new
  generalize S2 ++ [O.lst []] = X at k3 gv
  generalize S2.length = v at hv gv
  have hwS := hw.lt
  clear k1 k2
  simp only [aft_nx]
  walk_at "ck1"
  refine take_ok k3.pt (by omega) (by omega) fun y S4 y0 y1 k4 l4 => ?_
  refine wp_ixAbc y0 y1 fun sn hsn => ?_
  have gv4 := k4.kp v _ (by omega) gv
  have k5 := k3.trans k4
  clear k3 k4 gv
  simp only [aft_nx]
  walk_at "ck1"
  refine ⟨_, rfl, ⟨by omega, by omega⟩, ?_⟩
  refine wp_foR (by unfold FU; omega) (fun j r X => Kp w S X ∧ ∃ (sg : List Nat) (s : Nat) (z : Option D), r = [some (.ref w), some (.int m), some (.int wy), some (sgD ot), some (.ref v), some (sgD s), z] ∧ X[v]? = some (.lst (sg.map sgD)) ∧ sg.length = j ∧ (∀ x ∈ sg, SgOk x) ∧ SgOk s)
    ⟨k5, [], sn, none, rfl, gv4, rfl, (fun x h => by cases h), hsn⟩ (fun j r X hj hI => ?_) (fun r X hI => ?_)
  · obtain ⟨kX, sg, s, z, rfl, gX, rfl, hsg, hs⟩ := hI
    have hjm : sg.length < m := by omega
    walk_at "ck1"
    have step3 : ∀ (s : Nat) (X : Store), SgOk s → Kp w S X → X[v]? = some (.lst (sg.map sgD)) →
        wp (mDrop (mML appendM (mVar 4) (mCons (mVar 5) mNil)) [some (.ref w), some (.int m), some (.int wy), some (sgD ot), some (.ref v), some (sgD s), some (.int (sg.length : Nat))] X) (lp (aft (mSeq (mIf (mAnd (mTst (m2 gtM (mVar 1) (mC (.int 0)))) (mTst (m2 eqM (mCall 2 law_take_M (mCons (mVar 0) (mCons (mC (.int 4)) mNil))) (mC (.int 0)))))
 (mAsg (mVar 3) (gSubM (mVar 4) (mCall 2 law_take_M (mCons (mVar 0) (mCons (mVar 1) mNil))) setM))
 mNx)
 (mRet (mVar 4))) (fin Q E) E0') fun r X => Kp w S X ∧ ∃ (sg' : List Nat) (s : Nat) (z : Option D), r = [some (.ref w), some (.int m), some (.int wy), some (sgD ot), some (.ref v), some (sgD s), z] ∧ X[v]? = some (.lst (sg'.map sgD)) ∧ sg'.length = sg.length + 1 ∧ (∀ x ∈ sg', SgOk x) ∧ SgOk s) E0' := by
      intro s X hs kX gX
      walk_at "ck1"
      simp only [gX, lsO_lst, lstO_lst, Option.isSome_some, true_and, Option.some.injEq, exists_eq_left']
      refine ⟨by rw [List.length_map, sizeLine_eq]; omega, ?_⟩
      refine ⟨kX.setNew hwS hv, sg ++ [s], s, _, rfl, ?_, by simp, fun x hx => ?_, hs⟩
      · rw [List.getElem?_set_self (get_lt gX), List.map_append]; rfl
      · rcases List.mem_append.mp hx with h | h
        · exact hsg x h
        · rw [List.mem_singleton] at h; subst h; exact hs
    have step2 : ∀ (s : Nat) (X : Store), SgOk s → Kp w S X → X[v]? = some (.lst (sg.map sgD)) → _ := fun s X hs kX gX => step3 s X hs kX gX
    have hne : ∀ a : Int, wy = a ∨ wy ≠ a := fun a => by omega
    have stepB2 : ∀ (s : Nat) (X : Store), SgOk s → Kp w S X → X[v]? = some (.lst (sg.map sgD)) →
        wp (mSeq (mIf (mTst (m2 eqM (mVar 2) (mC (.int 2))))
 (mAsg (m2 ixM (mC (.str "aaaaaaab")) (mCall 2 law_take_M (mCons (mVar 0) (mCons (mC (.int 8)) mNil)))) (gNm 5))
 mNx)
 (mSeq (mIf (mTst (m2 eqM (mVar 2) (mC (.int 3))))
 (mAsg (m2 ixM (mC (.str "ab")) (m2 modM (mVar 6) (mC (.int 2)))) (gNm 5))
 mNx)
 (mDrop (mML appendM (mVar 4) (mCons (mVar 5) mNil)))) [some (.ref w), some (.int m), some (.int wy), some (sgD ot), some (.ref v), some (sgD s), some (.int (sg.length : Nat))] X) (lp (aft (mSeq (mIf (mAnd (mTst (m2 gtM (mVar 1) (mC (.int 0)))) (mTst (m2 eqM (mCall 2 law_take_M (mCons (mVar 0) (mCons (mC (.int 4)) mNil))) (mC (.int 0)))))
 (mAsg (mVar 3) (gSubM (mVar 4) (mCall 2 law_take_M (mCons (mVar 0) (mCons (mVar 1) mNil))) setM))
 mNx)
 (mRet (mVar 4))) (fin Q E) E0') fun r X => Kp w S X ∧ ∃ (sg' : List Nat) (s : Nat) (z : Option D), r = [some (.ref w), some (.int m), some (.int wy), some (sgD ot), some (.ref v), some (sgD s), z] ∧ X[v]? = some (.lst (sg'.map sgD)) ∧ sg'.length = sg.length + 1 ∧ (∀ x ∈ sg', SgOk x) ∧ SgOk s) E0' := by
      intro s X hs kX gX
      have last : ∀ (s : Nat) (X : Store), SgOk s → Kp w S X → X[v]? = some (.lst (sg.map sgD)) → _ := step3
      walk_at "ck1"
      refine stepB (fun _ => ?_) fun _ => ?_
      · refine take_ok kX.pt (by omega) (by omega) fun x S2 x0 x1 k2 l2 => ?_
        refine wp_ixA7b x0 x1 fun n hn => ?_
        simp only [aft_nx]
        walk_at "ck1"
        refine stepB (fun _ => ?_) fun _ => ?_
        · refine wp_ixAb (by omega) (by omega) fun n hn => ?_
          simp only [aft_nx]
          exact step3 n _ hn (kX.trans k2) (k2.kp v _ (by omega) gX)
        · simp only [aft_nx]
          exact step3 n _ hn (kX.trans k2) (k2.kp v _ (by omega) gX)
      · simp only [aft_nx]
        walk_at "ck1"
        refine stepB (fun _ => ?_) fun _ => ?_
        · refine wp_ixAb (by omega) (by omega) fun n hn => ?_
          simp only [aft_nx]
          exact step3 n _ hn kX gX
        · simp only [aft_nx]
          exact step3 s _ hs kX gX
    refine stepB (fun _ => ?_) fun _ => ?_
    · refine take_ok kX.pt (by omega) (by omega) fun x S2 x0 x1 k2 l2 => ?_
      refine wp_ixAbc x0 x1 fun n hn => ?_
      simp only [aft_nx]
      exact stepB2 n _ hn (kX.trans k2) (k2.kp v _ (by omega) gX)
    · refine stepB (fun _ => ?_) fun _ => ?_
      · refine take_ok kX.pt (by omega) (by omega) fun x S2 x0 x1 k2 l2 => ?_
        walk_at "ck1"
        have kX2 := kX.trans k2
        have gX2 := k2.kp v _ (by omega) gX
        refine stepB (fun _ => ?_) fun _ => ?_
        · refine take_ok kX2.pt (by omega) (by omega) fun x S3 x0 x1 k3 l3 => ?_
          refine wp_ixAbc x0 x1 fun n hn => ?_
          simp only [aft_nx]
          exact stepB2 n _ hn (kX2.trans k3) (k3.kp v _ (by omega) gX2)
        · simp only [aft_nx]
          exact stepB2 s _ hs kX2 gX2
      · simp only [aft_nx]
        exact stepB2 s _ hs kX gX
  · obtain ⟨kX, sg, s, z, rfl, gX, hl, hsg, hs⟩ := hI
    have hlm : sg.length = m := by omega
    simp only [aft_nx]
    walk_at "ck1"
    by_cases hm : 0 < (m : Int)
    · simp only [hm, if_true]
      walk_at "ck1"
      refine take_ok kX.pt (by omega) (by omega) fun x S2 x0 x1 k2 l2 => ?_
      walk_at "ck1"
      have kX2 := kX.trans k2
      have gX2 := k2.kp v _ (by omega) gX
      refine stepB (fun _ => ?_) fun _ => ?_
      · refine take_ok kX2.pt (by omega) (by omega) fun x S3 x0 x1 k3 l3 => ?_
        walk_at "ck1"
        have kX3 := kX2.trans k3
        have gX3 := k3.kp v _ (by omega) gX2
        have hix : ixN (sg.map sgD).length x = some x.toNat := by
          unfold ixN
          rw [if_pos x0, if_pos (by rw [List.length_map]; omega)]
        refine ⟨_, lstO_of gX3, _, hix, ?_⟩
        simp only [aft_nx]
        walk_at "ck1"
        refine q (sg.set x.toNat ot) v _ (kX3.setNew hwS hv) hv ?_ (by rw [List.length_set]; exact hlm) fun y hy => ?_
        · rw [List.getElem?_set_self (get_lt gX3), List.map_set]
        · rcases List.mem_or_eq_of_mem_set hy with h | h
          · exact hsg y h
          · subst h; exact hot
      · simp only [aft_nx]
        walk_at "ck1"
        exact q sg v _ kX2 hv gX2 hlm hsg
    · simp only [hm, if_false, aft_nx]
      walk_at "ck1"
      exact q sg v _ kX hv gX hlm hsg


abbrev Rw := Nat × Card × Card
def rows1 (rs : List Rw) : List Card := rs.filterMap fun r => if r.1 = 98 then none else some r.2.1
def rows2 (rs : List Rw) : List Card := rs.filterMap fun r => if r.1 = 97 then none else some r.2.2

def CardB (c : Card) : Prop := (0 ≤ c.1 ∧ c.1 ≤ 10 ^ 18) ∧ (0 ≤ c.2.1 ∧ c.2.1 ≤ 2 * 10 ^ 18) ∧ (-(10 ^ 59) ≤ c.2.2 ∧ c.2.2 ≤ 10 ^ 59)
structure RowsOk (rs : List Rw) : Prop where
  sg : ∀ r ∈ rs, SgOk r.1
  ky : ∀ r ∈ rs, r.2.1.1 = r.2.2.1
  so : Srt (rs.map (·.2.1))
  ln : rs.length ≤ 64
  b1 : ∀ r ∈ rs, CardB r.2.1
  b2 : ∀ r ∈ rs, CardB r.2.2
def far (f : Int) (c : Card) : Card := (c.1, c.2.1, c.2.2 * f)
theorem srt_keys {cs : List Card} {ms : List Int} (h : cs.map (·.1) = ms) (hp : ms.Pairwise (· < ·)) : Srt cs := by
  rw [← h] at hp
  exact List.pairwise_map.mp hp
theorem two_ok {S : Store} {w : Nat} {E : Exn → Store → Prop} {Q : D → Store → Prop} (hw : PotAt S w)
    (q : ∀ (rs : List Rw) (k1 k2 k3 : Nat) (S' : Store), Kp w S S' → S.length ≤ k1 → S.length ≤ k2 → S.length ≤ k3 → S'[k1]? = some (.lst (rs.map fun r => sgD r.1)) → S'[k2]? = some (.lst ((rows1 rs).map cd)) → S'[k3]? = some (.lst ((rows2 rs).map cd)) → RowsOk rs → Q (.tup [.ref k1, .ref k2, .ref k3]) S') :
    wp (law_two_M [.ref w, .int 64] S) Q E := by
  have hwS := hw.lt
  unfold law_two_M
  walk_at "ck1"
  refine many_ok hw (by omega) (by omega) fun m S1 m0 m1 k1 => ?_
  refine marks_ok k1.pt m0 (by omega) fun ms km S2 k2 hkm gm hml hmp hmb => ?_
  have kA := k1.trans k2
  have hl1 := k1.ln
  simp only [aft_nx]
  walk_at "ck1"
  refine ⟨_, len_ls (ls_of gm), ?_⟩
  simp only [List.length_map]
  refine signs_ok kA.pt (by omega) fun sg ks S3 k3 hks gs hsl hsg => ?_
  have kB := kA.trans k3
  have hl2 := kA.ln
  have gm3 := k3.kp km _ (by omega) gm
  simp only [aft_nx]
  walk_at "ck1"
  refine cards_ok kB.pt (by omega) gm3 (by omega) hmb fun c1 kc1 S4 k4 hkc1 gc1 hc1 hok1 => ?_
  have kC := kB.trans k4
  have hl3 := kB.ln
  have gm4 := k4.kp km _ (by omega) gm3
  have gs4 := k4.kp ks _ (by omega) gs
  simp only [aft_nx]
  walk_at "ck1"
  refine cards_ok kC.pt (by omega) gm4 (by omega) hmb fun c2 kc2 S5 k5 hkc2 gc2 hc2 hok2 => ?_
  have kD := kC.trans k5
  have hl4 := kC.ln
  have gm5 := k5.kp km _ (by omega) gm4
  have gs5 := k5.kp ks _ (by omega) gs4
  have gc15 := k5.kp kc1 _ (by omega) gc1
  simp only [aft_nx]
  walk_at "ck1"
  refine take_ok kD.pt (by omega) (by omega) fun x S6 x0 x1 k6 l6 => ?_
  have kE := kD.trans k6
  have gm6 := k6.kp km _ (by omega) gm5
  have gs6 := k6.kp ks _ (by omega) gs5
  have gc16 := k6.kp kc1 _ (by omega) gc15
  have gc26 := k6.kp kc2 _ (by omega) gc2
  clear gm gm3 gm4 gm5 gs gs4 gs5 gc1 gc15 gc2 k1 k2 k3 k4 k5 k6 kA kB kC kD
  walk_at "ck1"
  obtain ⟨f, hf, f0, f1⟩ := at_int (ns := [1, 1, 10000000000000000000000000000000000000000]) (i := x) (fun x => 0 < x ∧ x ≤ 10 ^ 40) (by simp) x0 x1
  refine ⟨_, hf, ?_⟩
  simp only [aft_nx]
  walk_at "ck1"
  refine ⟨_, lsO_of gc16, ?_⟩
  have lc1 : c1.length = ms.length := by have := congrArg List.length hc1; rwa [List.length_map] at this
  have lc2 : c2.length = ms.length := by have := congrArg List.length hc2; rwa [List.length_map] at this
  have bf : ∀ c ∈ c1, -(10 ^ 59) ≤ c.2.2 * f ∧ c.2.2 * f ≤ 10 ^ 59 := fun c hc => by
    obtain ⟨_, _, u, v⟩ := hok1 c hc
    have h1 : c.2.2 * f ≤ 2 * 10 ^ 18 * f := Int.mul_le_mul_of_nonneg_right v (by omega)
    have h2 : -(2 * 10 ^ 18) * f ≤ c.2.2 * f := Int.mul_le_mul_of_nonneg_right u (by omega)
    omega
  refine lcGo_list (xs := c1.map cd) (f := fun y => match y with | .tup [.int a, .int b, .int c] => some (.tup [.int a, .int b, .int (c * f)]) | _ => none) rfl (by rw [List.length_map]; omega) (ls_of gc16) (fun i y acc hy => ?_) ?_
  · obtain ⟨c, hc, rfl⟩ := cd_get hy
    have := hok1 c (List.mem_of_getElem? hc)
    obtain ⟨_, _, u, v⟩ := this
    unfold lcT
    simp only [cd]
    walk_at "ck1"
    exact cmul_s (by omega) (by omega) (by omega) (by omega)
  · have e : (c1.map cd).filterMap (fun y => match y with | .tup [.int a, .int b, .int c] => some (D.tup [.int a, .int b, .int (c * f)]) | _ => none) = (c1.map (far f)).map cd := by
      rw [List.map_map, List.filterMap_map, ← List.filterMap_eq_map]; rfl
    rw [e]
    have hrows : ∃ rs : List Rw, rs.map (·.1) = sg ∧ rs.map (·.2.1) = c1.map (far f) ∧ rs.map (·.2.2) = c2 := by
      refine ⟨sg.zip ((c1.map (far f)).zip c2), ?_, ?_, ?_⟩
      · exact map_zip1 (by simp; omega)
      · have : (sg.zip ((c1.map (far f)).zip c2)).map (·.2) = (c1.map (far f)).zip c2 := map_zip2 (by simp; omega)
        rw [show (fun r : Rw => r.2.1) = (fun p : Card × Card => p.1) ∘ (fun r : Rw => r.2) from rfl, ← List.map_map, this]
        exact map_zip1 (by simp; omega)
      · have : (sg.zip ((c1.map (far f)).zip c2)).map (·.2) = (c1.map (far f)).zip c2 := map_zip2 (by simp; omega)
        rw [show (fun r : Rw => r.2.2) = (fun p : Card × Card => p.2) ∘ (fun r : Rw => r.2) from rfl, ← List.map_map, this]
        exact map_zip2 (by simp; omega)
    obtain ⟨rs, r1, r2, r3⟩ := hrows
    have lrs : rs.length = ms.length := by have := congrArg List.length r1; rw [List.length_map] at this; omega
    have kF : Kp w S (S6 ++ [O.lst ((c1.map (far f)).map cd)]) := kE.app
    have gm7 := get_old (T := [O.lst ((c1.map (far f)).map cd)]) gm6
    have gs7 := get_old (T := [O.lst ((c1.map (far f)).map cd)]) gs6
    have gc27 := get_old (T := [O.lst ((c1.map (far f)).map cd)]) gc26
    have gf7 : (S6 ++ [O.lst ((c1.map (far f)).map cd)])[S6.length]? = some (.lst ((rs.map (·.2.1)).map cd)) := by rw [r2]; exact get_new
    have hS6 : S.length ≤ S6.length := kE.ln
    generalize S6 ++ [O.lst ((c1.map (far f)).map cd)] = X at kF gm7 gs7 gc27 gf7
    generalize S6.length = kf at hS6 gf7
    rw [← r1] at gs7
    rw [← r3] at gc27
    clear kE gm6 gs6 gc16 gc26 e
    have hge : ∀ i : Nat, i < rs.length → rs[i]? = some (rs.getD i (0, (0, 0, 0), (0, 0, 0))) := fun i hi => getD_of hi
    have hsgr : ∀ r ∈ rs, SgOk r.1 := fun r hr => hsg r.1 (by rw [← r1]; exact List.mem_map.mpr ⟨r, hr, rfl⟩)
    simp only [aft_nx]
    walk_at "ck1"
    refine ⟨_, len_ls (ls_of gm7), _, rfl, ⟨by omega, by rw [List.length_map]; omega⟩, ?_⟩
    rw [List.length_map, show ((ms.length : Nat) : Int).toNat = rs.length by omega]
    refine lcGo_rng (f := fun i => (fun r : Rw => if r.1 = 98 then none else some (cd r.2.1)) (rs.getD i (0, (0, 0, 0), (0, 0, 0)))) rfl (by omega) (fun i acc hi => ?_) ?_
    · have hr := hge i hi
      have hs := hsgr _ (List.mem_of_getElem? hr)
      unfold lcT
      walk_at "ck1"
      refine ⟨_, lsO_of (get_old gs7), _, at_of' rfl (by rw [List.getElem?_map, List.getElem?_map, hr]; rfl), ?_⟩
      rw [str_b, wp_neSg hs (by simp [SgOk])]
      walk_at "ck1"
      by_cases h98 : (rs.getD i (0, (0, 0, 0), (0, 0, 0))).1 = 98
      · simp only [h98, decide_true, Bool.not_true, Bool.false_eq_true, if_false, if_true, and_self]
      · simp only [h98, decide_false, Bool.not_false, if_true, if_false]
        refine ⟨_, lsO_of (get_old gf7), cd (rs.getD i (0, (0, 0, 0), (0, 0, 0))).2.1, at_of' rfl (by rw [List.getElem?_map, List.getElem?_map, hr]; rfl), rfl⟩
    · rw [range_filterMap (fun r : Rw => if r.1 = 98 then none else some (cd r.2.1)) (0, (0, 0, 0), (0, 0, 0)) rs]
      have e1 : rs.filterMap (fun r : Rw => if r.1 = 98 then none else some (cd r.2.1)) = (rows1 rs).map cd := by
        unfold rows1
        rw [List.map_filterMap]
        congr 1
        funext r
        split <;> rfl
      rw [e1]
      have kG : Kp w S (X ++ [O.lst ((rows1 rs).map cd)]) := kF.app
      have gm8 := get_old (T := [O.lst ((rows1 rs).map cd)]) gm7
      have gs8 := get_old (T := [O.lst ((rows1 rs).map cd)]) gs7
      have gc28 := get_old (T := [O.lst ((rows1 rs).map cd)]) gc27
      have g18 : (X ++ [O.lst ((rows1 rs).map cd)])[X.length]? = some (.lst ((rows1 rs).map cd)) := get_new
      have hX : S.length ≤ X.length := kF.ln
      generalize X ++ [O.lst ((rows1 rs).map cd)] = Y at kG gm8 gs8 gc28 g18
      generalize X.length = k1 at hX g18
      clear kF gm7 gs7 gc27 gf7 e1
      simp only [aft_nx]
      walk_at "ck1"
      refine ⟨_, len_ls (ls_of gm8), _, rfl, ⟨by omega, by rw [List.length_map]; omega⟩, ?_⟩
      rw [List.length_map, show ((ms.length : Nat) : Int).toNat = rs.length by omega]
      refine lcGo_rng (f := fun i => (fun r : Rw => if r.1 = 97 then none else some (cd r.2.2)) (rs.getD i (0, (0, 0, 0), (0, 0, 0)))) rfl (by omega) (fun i acc hi => ?_) ?_
      · have hr := hge i hi
        have hs := hsgr _ (List.mem_of_getElem? hr)
        unfold lcT
        walk_at "ck1"
        refine ⟨_, lsO_of (get_old gs8), _, at_of' rfl (by rw [List.getElem?_map, List.getElem?_map, hr]; rfl), ?_⟩
        rw [str_a, wp_neSg hs (by simp [SgOk])]
        walk_at "ck1"
        by_cases h98 : (rs.getD i (0, (0, 0, 0), (0, 0, 0))).1 = 97
        · simp only [h98, decide_true, Bool.not_true, Bool.false_eq_true, if_false, if_true, and_self]
        · simp only [h98, decide_false, Bool.not_false, if_true, if_false]
          refine ⟨_, lsO_of (get_old gc28), cd (rs.getD i (0, (0, 0, 0), (0, 0, 0))).2.2, at_of' rfl (by rw [List.getElem?_map, List.getElem?_map, hr]; rfl), rfl⟩
      · rw [range_filterMap (fun r : Rw => if r.1 = 97 then none else some (cd r.2.2)) (0, (0, 0, 0), (0, 0, 0)) rs]
        have e1 : rs.filterMap (fun r : Rw => if r.1 = 97 then none else some (cd r.2.2)) = (rows2 rs).map cd := by
          unfold rows2
          rw [List.map_filterMap]
          congr 1
          funext r
          split <;> rfl
        rw [e1]
        simp only [aft_nx]
        walk_at "ck1"
        refine q rs ks k1 Y.length _ kG.app (by omega) (by omega) kG.ln ?_ (get_old g18) get_new ⟨hsgr, fun r hr => ?_, ?_, by omega, fun r hr => ?_, fun r hr => ?_⟩
        · have := get_old (T := [O.lst ((rows2 rs).map cd)]) gs8
          rw [List.map_map] at this
          exact this
        · obtain ⟨i, hi⟩ := List.getElem?_of_mem hr
          have a1 : (rs.map (·.2.1))[i]? = some r.2.1 := by rw [List.getElem?_map, hi]; rfl
          have a2 : (rs.map (·.2.2))[i]? = some r.2.2 := by rw [List.getElem?_map, hi]; rfl
          rw [r2, List.getElem?_map] at a1
          rw [r3] at a2
          cases h : c1[i]? with
          | none => rw [h] at a1; cases a1
          | some c =>
            rw [h] at a1
            have a1 : far f c = r.2.1 := Option.some.inj a1
            have b1 : (c1.map (·.1))[i]? = some c.1 := by rw [List.getElem?_map, h]; rfl
            have b2 : (c2.map (·.1))[i]? = some r.2.2.1 := by rw [List.getElem?_map, a2]; rfl
            rw [hc1] at b1
            rw [hc2, b1] at b2
            rw [← a1]
            exact Option.some.inj b2
        · rw [r2]
          refine srt_keys (ms := ms) ?_ hmp
          rw [List.map_map, ← hc1]; rfl
        · have : r.2.1 ∈ rs.map (·.2.1) := List.mem_map.mpr ⟨r, hr, rfl⟩
          rw [r2] at this
          obtain ⟨c, hc, e⟩ := List.mem_map.mp this
          rw [← e]
          have := hok1 c hc
          exact ⟨this.1, this.2.1, bf c hc⟩
        · have : r.2.2 ∈ rs.map (·.2.2) := List.mem_map.mpr ⟨r, hr, rfl⟩
          rw [r3] at this
          have := hok2 _ this
          exact ⟨this.1, this.2.1, by have := this.2.2; omega⟩

theorem py_ints {S : Store} {n : Nat} : ∀ ns : List Int, optAll (pyOf S (n + 1)) (ns.map D.int) = some (ns.map PyData.int)
  | [] => rfl
  | i :: ns => by simp only [List.map_cons, optAll, py_ints ns]; rfl
theorem pyD_ints {S : Store} {k : Nat} {ns : List Int} (h : lsAt S k = some (ns.map D.int)) : pyD S (.ref k) = some (.list (ns.map PyData.int)) := by
  unfold pyD pyOf
  simp only [h]
  rw [py_ints (n := 197)]
  rfl
theorem any_ints (x : Int) (ns : List Int) : ((ns.map PyData.int).any fun z => PyData.eqv z (.int x)) = decide (x ∈ ns) := by
  rw [List.any_map]
  apply Bool.eq_iff_iff.mpr
  simp [eq_int]
theorem wp_inI {S : Store} {k : Nat} {x : Int} {ns : List Int} {neg : Bool} {E : Exn → Store → Prop} {Q : D → Store → Prop} (h : lsAt S k = some (ns.map D.int)) (q : Q (.bl (if neg then !decide (x ∈ ns) else decide (x ∈ ns))) S) : wp (inXM neg (.int x) (.ref k) S) Q E := by
  rw [wp_inX, pyD_ints h]
  refine ⟨.int x, ns.map PyData.int, rfl, rfl, ?_⟩
  rw [any_ints]
  exact q
def cardLt (x y : Card) : Bool := decide (x.1 < y.1) || (!decide (y.1 < x.1) && (decide (x.2.1 < y.2.1) || (!decide (y.2.1 < x.2.1) && decide (x.2.2 < y.2.2))))
theorem dataLt_cards (x y : Card) : PySem.W.dataLt (cpy x) (cpy y) = cardLt x y := by
  unfold PySem.W.dataLt cpy cardLt
  simp [PySem.W.keyToks, PySem.W.keyToksAll, PyProof.Rows.lexLt, PyProof.Rows.itemLt]
theorem cardLe_trans (a b c : Card) (h : (!cardLt b a) = true) (h2 : (!cardLt c b) = true) : (!cardLt c a) = true := by
  unfold cardLt at *
  simp only [Bool.not_eq_true', Bool.or_eq_false_iff, decide_eq_false_iff_not, Bool.and_eq_false_iff, Bool.not_eq_false', decide_eq_true_eq] at *
  omega
theorem cardLe_total (a b : Card) : ((!cardLt b a) || (!cardLt a b)) = true := by
  unfold cardLt
  simp only [Bool.or_eq_true, Bool.not_eq_true', Bool.or_eq_false_iff, decide_eq_false_iff_not, Bool.and_eq_false_iff, Bool.not_eq_false', decide_eq_true_eq] at *
  omega
theorem sortOk_cards (cs : List Card) : sortOkB (cs.map cpy) = true := by
  unfold sortOkB sortableB
  simp [PySem.W.alike, PySem.W.alikeAll, cpy, PyData.depth, PyData.depthAll]
def sortCards (cs : List Card) : List Card := cs.mergeSort fun x y => !cardLt y x
theorem sortCards_mem {cs : List Card} {c : Card} : c ∈ sortCards cs ↔ c ∈ cs := List.mem_mergeSort
theorem sortCards_srt {cs : List Card} (h : cs.Pairwise fun a b => a.1 ≠ b.1) : Srt (sortCards cs) := by
  have h1 : (sortCards cs).Pairwise fun x y => (!cardLt y x) = true := List.pairwise_mergeSort cardLe_trans cardLe_total cs
  have h2 : (sortCards cs).Pairwise fun a b => a.1 ≠ b.1 := by
    have p : (sortCards cs).Perm cs := List.mergeSort_perm _ _
    exact (p.pairwise_iff (fun h => Ne.symm h)).mpr h
  refine List.Pairwise.imp (fun ⟨a, b⟩ => ?_) (h1.and h2)
  unfold cardLt at a
  simp only [Bool.not_eq_true', Bool.or_eq_false_iff, decide_eq_false_iff_not] at a
  omega
theorem sorted_cards {S : Store} {k : Nat} {cs : List Card} {E : Exn → Store → Prop} {Q : D → Store → Prop} (h : lsAt S k = some (cs.map cd)) (q : Q (.ref S.length) (S ++ [.lst ((sortCards cs).map cd)])) : wp (sortedM [.ref k] S) Q E :=
  wp_sorted (g := cpy) h (fun x _ => py_cd x) (sortOk_cards cs) (fun x _ y _ => by rw [dataLt_cards]) q
theorem fm_filter {a : List Int} : ∀ b : List Card, (b.map cd).filterMap (fun y => match y with | .tup (.int x :: r) => if x ∈ a then none else some (.tup (.int x :: r)) | _ => none) = (b.filter fun c => !decide (c.1 ∈ a)).map cd
  | [] => rfl
  | c :: b => by
    rw [List.map_cons, List.filterMap_cons, fm_filter b, List.filter_cons]
    simp only [cd]
    by_cases hm : c.1 ∈ a
    · simp only [hm, if_true, decide_true, Bool.not_true, Bool.false_eq_true, if_false]
    · simp only [hm, if_false, decide_false, Bool.not_false, if_true, List.map_cons, cd]
theorem both_ok {S : Store} {k1 k2 : Nat} {a b : List Card} {E : Exn → Store → Prop} {Q : D → Store → Prop} (h1 : S[k1]? = some (.lst (a.map cd))) (h2 : lsAt S k2 = some (b.map cd)) (sa : Srt a) (sb : Srt b) (la : a.length ≤ 1000) (lb : b.length ≤ 1000)
    (q : ∀ (cs : List Card) (k : Nat) (G : Store), (S ++ G)[k]? = some (.lst (cs.map cd)) → S.length ≤ k → Srt cs → (∀ x, x ∈ cs ↔ x ∈ a ∨ (x ∈ b ∧ x.1 ∉ a.map (·.1))) → Q (.ref k) (S ++ G)) : wp (law_both_M [.ref k1, .ref k2] S) Q E := by
  unfold law_both_M
  walk_at "ck1"
  refine ⟨_, lsO_of h1, ?_⟩
  refine lcGo_list (xs := a.map cd) (f := fun y => match y with | .tup (x :: _) => some x | _ => none) rfl (by rw [List.length_map]; omega) (ls_of h1) (fun i y acc hy => ?_) ?_
  · obtain ⟨c, hc, rfl⟩ := cd_get hy
    unfold lcT
    simp only [cd]
    walk_at "ck1"
  · have e : (a.map cd).filterMap (fun y => match y with | .tup (x :: _) => some x | _ => none) = (a.map (·.1)).map D.int := by
      rw [List.map_map, List.filterMap_map, ← List.filterMap_eq_map]; rfl
    rw [e]
    simp only [aft_nx]
    walk_at "ck1"
    have hT : (S ++ [O.lst ((a.map (·.1)).map D.int)])[S.length]? = some (.lst ((a.map (·.1)).map D.int)) := get_new
    refine ⟨_, ls_app h2, ?_⟩
    refine lcGo_list (xs := b.map cd) (f := fun y => match y with | .tup (.int x :: r) => if x ∈ a.map (·.1) then none else some (.tup (.int x :: r)) | _ => none) rfl (by rw [List.length_map]; omega) (ls_app h2) (fun i y acc hy => ?_) ?_
    · obtain ⟨c, hc, rfl⟩ := cd_get hy
      unfold lcT
      simp only [cd]
      walk_at "ck1"
      refine wp_inI (ls_app (ls_of hT)) ?_
      walk_at "ck1"
      by_cases hm : c.1 ∈ a.map (·.1)
      · simp only [hm, decide_true, Bool.not_true, Bool.false_eq_true, if_false, if_true]
      · simp only [hm, decide_false, Bool.not_false, if_true, if_false]
    · rw [fm_filter, wp_addL]
      refine ⟨_, lstO_of (get_old (get_old h1)), _, lstO_of get_new, ?_, ?_⟩
      · have := List.length_filter_le (fun c : Card => !decide (c.1 ∈ a.map (·.1))) b
        rw [List.length_map, List.length_map, sizeLine_eq]; omega
      · rw [← List.map_append]
        refine sorted_cards ls_new ?_
        simp only [List.append_assoc]
        refine q _ _ _ (by simp only [← List.append_assoc]; exact get_new) (by simp only [List.length_append]; omega) (sortCards_srt ?_) fun x => ?_
        · rw [List.pairwise_append]
          refine ⟨sa.imp fun h => by omega, (sb.filter _).imp fun h => by omega, fun x hx y hy e => ?_⟩
          rw [List.mem_filter] at hy
          have := hy.2
          rw [← e] at this
          simp at this
          exact this _ _ hx
        · rw [sortCards_mem, List.mem_append, List.mem_filter]
          simp
theorem rows1_mem {rs : List Rw} {c : Card} (h : c ∈ rows1 rs) : ∃ r ∈ rs, r.2.1 = c := by
  unfold rows1 at h
  obtain ⟨r, hr, e⟩ := List.mem_filterMap.mp h
  refine ⟨r, hr, ?_⟩
  split at e
  · cases e
  · exact Option.some.inj e
theorem rows2_mem {rs : List Rw} {c : Card} (h : c ∈ rows2 rs) : ∃ r ∈ rs, r.2.2 = c := by
  unfold rows2 at h
  obtain ⟨r, hr, e⟩ := List.mem_filterMap.mp h
  refine ⟨r, hr, ?_⟩
  split at e
  · cases e
  · exact Option.some.inj e
theorem rows1_srt {rs : List Rw} (h : RowsOk rs) : Srt (rows1 rs) := by
  have h1 := h.so
  clear h
  unfold Srt rows1 at *
  rw [List.pairwise_map] at h1
  refine List.Pairwise.filterMap _ (fun a b hab x hx y hy => ?_) h1
  split at hx
  · cases hx
  · split at hy
    · cases hy
    · cases hx; cases hy; exact hab
theorem rows2_srt {rs : List Rw} (h : RowsOk rs) : Srt (rows2 rs) := by
  have h1 : (rs.map (·.2.2)).Pairwise fun a b => a.1 < b.1 := by
    have h1 := h.so
    unfold Srt at h1
    rw [List.pairwise_map] at h1 ⊢
    refine (List.pairwise_iff_getElem.mpr fun i j hi hj hij => ?_)
    have := List.pairwise_iff_getElem.mp h1 i j hi hj hij
    rw [← h.ky _ (List.getElem_mem hi), ← h.ky _ (List.getElem_mem hj)]
    exact this
  clear h
  unfold Srt rows2 at *
  rw [List.pairwise_map] at h1
  refine List.Pairwise.filterMap _ (fun a b hab x hx y hy => ?_) h1
  split at hx
  · cases hx
  · split at hy
    · cases hy
    · cases hx; cases hy; exact hab
theorem rows1_len {rs : List Rw} : (rows1 rs).length ≤ rs.length := List.length_filterMap_le _ _
theorem rows2_len {rs : List Rw} : (rows2 rs).length ≤ rs.length := List.length_filterMap_le _ _
theorem cardN_of {c : Card} (h : CardB c) : CardN c := by
  obtain ⟨⟨a, b⟩, ⟨d, e⟩, f, g⟩ := h
  refine ⟨⟨?_, ?_⟩, ⟨?_, ?_⟩, ⟨?_, ?_⟩⟩ <;> omega
theorem rows_keys1 {rs : List Rw} (h : RowsOk rs) {c : Card} (hc : c ∈ rows2 rs) (hn : c.1 ∉ (rows1 rs).map (·.1)) : ∃ r ∈ rs, r.1 = 98 ∧ r.2.2 = c := by
  unfold rows2 at hc
  obtain ⟨r, hr, e⟩ := List.mem_filterMap.mp hc
  split at e
  · cases e
  · have e := Option.some.inj e
    refine ⟨r, hr, ?_, e⟩
    refine Classical.byContradiction fun h98 => hn (List.mem_map.mpr ⟨r.2.1, ?_, ?_⟩)
    · exact List.mem_filterMap.mpr ⟨r, hr, by rw [if_neg h98]⟩
    · rw [h.ky r hr, e]

theorem len_both {rs : List Rw} (h : RowsOk rs) : (rows1 rs).length + ((rows2 rs).filter (fun c => !decide (c.1 ∈ (rows1 rs).map (·.1)))).length ≤ 64 := by
  have key : ∀ (ts : List Rw), (∀ r ∈ ts, r ∈ rs) → (rows1 ts).length + ((rows2 ts).filter (fun c => !decide (c.1 ∈ (rows1 rs).map (·.1)))).length ≤ ts.length := by
    intro ts
    induction ts with
    | nil => intro _; exact Nat.le_refl _
    | cons r ts ih =>
      intro hm
      have ih := ih fun x hx => hm x (List.mem_cons_of_mem _ hx)
      unfold rows1 rows2 at ih ⊢
      rw [List.filterMap_cons, List.filterMap_cons]
      have hr := hm r List.mem_cons_self
      by_cases h98 : r.1 = 98
      · rw [if_pos h98, if_neg (by omega)]
        simp only [List.filter_cons, List.length_cons]
        split <;> (try simp only [List.length_cons]) <;> omega
      · rw [if_neg h98]
        have hin : r.2.2.1 ∈ (rows1 rs).map (·.1) := List.mem_map.mpr ⟨r.2.1, List.mem_filterMap.mpr ⟨r, hr, by rw [if_neg h98]⟩, h.ky r hr⟩
        by_cases h97 : r.1 = 97
        · rw [if_pos h97]; simp only [List.length_cons]; omega
        · rw [if_neg h97]
          simp only [List.filter_cons, List.length_cons]
          have : (!decide (r.2.2.1 ∈ (rows1 rs).map (·.1))) = false := by simpa using hin
          unfold rows1 at this
          simp only [this, Bool.false_eq_true, if_false]
          omega
  have := key rs fun _ h => h
  have := h.ln
  omega
theorem len_both2 {rs : List Rw} (h : RowsOk rs) : (rows2 rs).length + ((rows1 rs).filter (fun c => !decide (c.1 ∈ (rows2 rs).map (·.1)))).length ≤ 64 := by
  have key : ∀ (ts : List Rw), (∀ r ∈ ts, r ∈ rs) → (rows2 ts).length + ((rows1 ts).filter (fun c => !decide (c.1 ∈ (rows2 rs).map (·.1)))).length ≤ ts.length := by
    intro ts
    induction ts with
    | nil => intro _; exact Nat.le_refl _
    | cons r ts ih =>
      intro hm
      have ih := ih fun x hx => hm x (List.mem_cons_of_mem _ hx)
      unfold rows1 rows2 at ih ⊢
      rw [List.filterMap_cons, List.filterMap_cons]
      have hr := hm r List.mem_cons_self
      by_cases h98 : r.1 = 97
      · rw [if_pos h98, if_neg (by omega)]
        simp only [List.filter_cons, List.length_cons]
        split <;> (try simp only [List.length_cons]) <;> omega
      · rw [if_neg h98]
        have hin : r.2.1.1 ∈ (rows2 rs).map (·.1) := List.mem_map.mpr ⟨r.2.2, List.mem_filterMap.mpr ⟨r, hr, by rw [if_neg h98]⟩, (h.ky r hr).symm⟩
        by_cases h97 : r.1 = 98
        · rw [if_pos h97]; simp only [List.length_cons]; omega
        · rw [if_neg h97]
          simp only [List.filter_cons, List.length_cons]
          have : (!decide (r.2.1.1 ∈ (rows2 rs).map (·.1))) = false := by simpa using hin
          unfold rows2 at this
          simp only [this, Bool.false_eq_true, if_false]
          omega
  have := key rs fun _ h => h
  have := h.ln
  omega

theorem same_crest {t u : Tr} {A : Card → Prop} (ht : CrO t) (hu : Cr u) (st : Srt t.cards) (su : Srt u.cards) (h : ∀ x, x ∈ t.cards ↔ A x) (h2 : ∀ x, x ∈ u.cards ↔ A x) : t = u :=
  crO_uniq ht (crO_of hu su) st (Srt.ext st su fun x => (h x).trans (h2 x).symm)
theorem pos_len {a b : Tr} (x : ∀ c, c ∈ a.cards ↔ c ∈ b.cards) (sa : Srt a.cards) (sb : Srt b.cards) : a.cards.length = b.cards.length := by rw [Srt.ext sa sb x]
theorem card_len {t : Tr} {a b : List Card} (st : Srt t.cards) (sa : Srt a) (sb : Srt b) (hl : a.length + (b.filter (fun c => !decide (c.1 ∈ a.map (·.1)))).length ≤ 64) (m : ∀ x, x ∈ t.cards ↔ x ∈ a ∨ (x ∈ b ∧ x.1 ∉ a.map (·.1))) : t.cards.length ≤ 64 := by
  have sub : t.cards.Perm (a ++ b.filter (fun c => !decide (c.1 ∈ a.map (·.1)))) := by
    refine (List.perm_ext_iff_of_nodup ?_ ?_).mpr fun x => ?_
    · exact st.imp fun h e => by subst e; omega
    · rw [List.nodup_append]
      refine ⟨sa.imp fun h e => by subst e; omega, (sb.filter _).imp fun h e => by subst e; omega, fun x hx y hy e => ?_⟩
      subst e
      have := (List.mem_filter.mp hy).2
      simp at this
      exact this _ _ hx
    · rw [m, List.mem_append, List.mem_filter]; simp
  rw [sub.length_eq, List.length_append]
  exact hl
end Lib
end CK
end

section
set_option Elab.async false
set_option linter.all false
set_option exponentiation.threshold 100000
set_option maxRecDepth 100000
set_option maxHeartbeats 4000000
namespace CK
namespace Lib
open PySem PySem.Spec PyProof.Rows L2
local macro_rules | `(tactic| walk_at "ck") => `(tactic| try simp only [wp_seq, wp_asg, wp_if, wp_ret, wp_retN, wp_drop, wp_fn, wp_var0, wp_varS, wp_mC, wp_m2, wp_m1, wp_nil, wp_cons, wp_args, wp_call, wp_tst, wp_and, wp_or, wp_not, wp_andV, wp_orV, wp_notV, wp_ifE, wp_chain, wp_nx, wp_brk, wp_cnt, aft_nx, aft_rt, aft_bk, aft_ct, aft_xc, fin_rt, fin_nx, fin_xc, fin_bk, fin_ct, wp_gNm, wp_gTp, wp_gsNil, wp_gsCons, wp_gSub, wp_par, wp_par3, wp_i0, wp_iC, wp_addI, wp_addT, wp_mulI, wp_neg, wp_tup, wp_lst, sz0, sz1, sz2, sz3, sz4, sz5, sz6, sz7, sz8, wp_yes, wp_ixT, wp_ixL, wp_setL, wp_isi, tyN, isi_ii, isi_ib, isi_bi, isi_bb, isi_nb, isi_ni, isi_ns, isi_nt, isi_nl, isi_nd, isi_bs, isi_bt, isi_bl, isi_bd, isi_is, isi_it, isi_il, isi_id, isi_sb, isi_si, isi_ss, isi_st, isi_sl, isi_sd, isi_tb, isi_ti, isi_ts, isi_tt, isi_tl, isi_td, isi_lb, isi_li, isi_ls, isi_lt, isi_ll, isi_ld, isi_db, isi_di, isi_ds, isi_dt, isi_dl, isi_dd, wp_slice, wp_noPart, wp_part, asInt_int, wp_slT, wp_slL, wp_mulT, wp_src, wp_lc, wipeE, D.ref.injEq, D.tup.injEq, reduceCtorEq, false_and, exists_false, false_or, or_false, cpt2, cpt3, cpt4, cpt5, cpt6, cpt7, cpt8, cpt9, cpt10, cpt11, cpt12, cpt13, cpt14, cpt15, cpt16, cpt17, cpt18, cpt19, cpt20, cpt24, cpt30, cpt36, cpt40, cpt48, cpt50, cpt58, cpt59, cpt60, wp_extend, wp_revL, exists_and_left, wp_ML, wp_ML0, isLs_ref, wp_append, wp_pop, wp_tupleR, wp_tupleT, wp_listR, wp_listT, wp_all, wp_any, wp_sum, wp_notB, wp_isB, wp_isN, wp_notN, Option.isSome_some, wp_rng1, wp_rng2, wp_rng3, lsAt, lsO_lst, lsO_fro, lstO_lst, wp_lenR, lenO_lst, lenO_fro, lenO_dK, List.length_map, List.getElem?_cons_zero, List.getElem?_cons_succ, wp_dnew, wp_dget, wp_din, wp_dnin, wp_dg1, wp_dput, wp_dpop, wp_MD, isDk_ref, dkO_dK, keyD_int, keyD_str, wp_lrg1, wp_trg1, wp_MS, isStrB_str, wp_sindex, wp_isiT, wp_strI, wp_eqS, wp_neS, wp_eqI, wp_neI, wp_eqB, wp_neB, wp_abs, wp_intI, wp_intB, wp_max2, wp_min2, wp_lenT, wp_for, wp_ok, wp_bad, lp_nx, lp_ct, lp_bk, lp_rt, lp_xc, asBl_bl, at0, at1, at2, List.map_cons, List.map_nil, List.cons_append, List.nil_append, List.length_cons, List.length_nil, List.replicate, List.set_cons_zero, List.set_cons_succ, Nat.reduceAdd, Int.reduceToNat, Int.reducePow, Int.reduceNeg, Int.reduceMul, Int.reduceAdd, Int.reduceSub, Int.reduceMod, Int.reduceDiv, Int.reduceLT, Int.reduceLE, Int.zero_mul, Int.zero_add, Int.cast_ofNat_Int, Int.reduceBEq, Nat.reduceLeDiff, Nat.reduceEqDiff, true_and, and_true, Nat.reduceSub, if_true, Option.some.injEq, exists_eq_left', Bool.not_true, Bool.not_false, decide_eq_true_eq, Bool.false_eq_true, if_false])
local macro_rules | `(tactic| walk_at "cks") => `(tactic| try simp only [wp_seq, wp_asg, wp_if, wp_ret, wp_retN, wp_drop, wp_fn, wp_var0, wp_varS, wp_mC, wp_m2, wp_m1, wp_nil, wp_cons, wp_args, wp_call, wp_tst, wp_and, wp_or, wp_not, wp_andV, wp_orV, wp_notV, wp_ifE, wp_chain, wp_nx, wp_brk, wp_cnt, aft_nx, aft_rt, aft_bk, aft_ct, aft_xc, fin_rt, fin_nx, fin_xc, fin_bk, fin_ct, wp_gNm, wp_gTp, wp_gsNil, wp_gsCons, wp_gSub, wp_par, wp_par3, wp_i0, wp_iC, wp_addI, wp_addT, wp_mulI, wp_neg, wp_tup, wp_lst, sz0, sz1, sz2, sz3, sz4, sz5, sz6, sz7, sz8, wp_yes, wp_ixT, wp_ixL, wp_setL, wp_isi, tyN, isi_ii, isi_ib, isi_bi, isi_bb, isi_nb, isi_ni, isi_ns, isi_nt, isi_nl, isi_nd, isi_bs, isi_bt, isi_bl, isi_bd, isi_is, isi_it, isi_il, isi_id, isi_sb, isi_si, isi_ss, isi_st, isi_sl, isi_sd, isi_tb, isi_ti, isi_ts, isi_tt, isi_tl, isi_td, isi_lb, isi_li, isi_ls, isi_lt, isi_ll, isi_ld, isi_db, isi_di, isi_ds, isi_dt, isi_dl, isi_dd, wp_slice, wp_noPart, wp_part, asInt_int, wp_slT, wp_slL, wp_mulT, wp_src, wp_lc, wipeE, D.ref.injEq, D.tup.injEq, reduceCtorEq, false_and, exists_false, false_or, or_false, cpt2, cpt3, cpt4, cpt5, cpt6, cpt7, cpt8, cpt9, cpt10, cpt11, cpt12, cpt13, cpt14, cpt15, cpt16, cpt17, cpt18, cpt19, cpt20, cpt24, cpt30, cpt36, cpt40, cpt48, cpt50, cpt58, cpt59, cpt60, wp_extend, wp_revL, exists_and_left, wp_ML, wp_ML0, isLs_ref, wp_append, wp_pop, wp_tupleR, wp_tupleT, wp_listR, wp_listT, wp_all, wp_any, wp_sum, wp_notB, wp_isB, wp_isN, wp_notN, Option.isSome_some, wp_rng1, wp_rng2, wp_rng3, lsAt, lsO_lst, lsO_fro, lstO_lst, wp_lenR, lenO_lst, lenO_fro, lenO_dK, List.length_map, List.getElem?_cons_zero, List.getElem?_cons_succ, wp_dnew, wp_dget, wp_din, wp_dnin, wp_dg1, wp_dput, wp_dpop, wp_MD, isDk_ref, dkO_dK, keyD_int, keyD_str, wp_lrg1, wp_trg1, wp_MS, isStrB_str, wp_sindex, wp_isiT, wp_strI, wp_eqS, wp_neS, wp_eqI, wp_neI, wp_eqB, wp_neB, wp_abs, wp_intI, wp_intB, wp_max2, wp_min2, wp_lenT, wp_for, wp_ok, wp_bad, lp_nx, lp_ct, lp_bk, lp_rt, lp_xc, asBl_bl, at0, at1, at2, List.map_cons, List.map_nil, List.cons_append, List.nil_append, List.length_cons, List.length_nil, List.replicate, List.set_cons_zero, List.set_cons_succ, Nat.reduceAdd, Int.reduceToNat, Int.reducePow, Int.reduceNeg, Int.reduceMul, Int.reduceAdd, Int.reduceSub, Int.reduceMod, Int.reduceDiv, Int.reduceLT, Int.reduceLE, Int.zero_mul, Int.zero_add, Int.cast_ofNat_Int, Int.reduceBEq, Nat.reduceLeDiff, Nat.reduceEqDiff, true_and, and_true, Nat.reduceSub, if_true, Option.some.injEq, exists_eq_left', Bool.not_true, Bool.not_false, decide_eq_true_eq, Bool.false_eq_true, if_false, *])
local macro_rules | `(tactic| walk_at "ck1") => `(tactic| try simp only [wp_seq, wp_asg, wp_if, wp_ret, wp_retN, wp_drop, wp_fn, wp_var0, wp_varS, wp_mC, wp_m2, wp_m1, wp_nil, wp_cons, wp_args, wp_call, wp_tst, wp_and, wp_or, wp_not, wp_andV, wp_orV, wp_notV, wp_ifE, wp_chain, wp_nx, wp_brk, wp_cnt, aft_rt, aft_bk, aft_ct, aft_xc, fin_rt, fin_nx, fin_xc, fin_bk, fin_ct, wp_gNm, wp_gTp, wp_gsNil, wp_gsCons, wp_gSub, wp_par, wp_par3, wp_i0, wp_iC, wp_addI, wp_addT, wp_mulI, wp_neg, wp_tup, wp_lst, sz0, sz1, sz2, sz3, sz4, sz5, sz6, sz7, sz8, wp_yes, wp_ixT, wp_ixL, wp_setL, wp_isi, tyN, isi_ii, isi_ib, isi_bi, isi_bb, isi_nb, isi_ni, isi_ns, isi_nt, isi_nl, isi_nd, isi_bs, isi_bt, isi_bl, isi_bd, isi_is, isi_it, isi_il, isi_id, isi_sb, isi_si, isi_ss, isi_st, isi_sl, isi_sd, isi_tb, isi_ti, isi_ts, isi_tt, isi_tl, isi_td, isi_lb, isi_li, isi_ls, isi_lt, isi_ll, isi_ld, isi_db, isi_di, isi_ds, isi_dt, isi_dl, isi_dd, wp_slice, wp_noPart, wp_part, asInt_int, wp_slT, wp_slL, wp_mulT, wp_src, wp_lc, wipeE, D.ref.injEq, D.tup.injEq, reduceCtorEq, false_and, exists_false, false_or, or_false, cpt2, cpt3, cpt4, cpt5, cpt6, cpt7, cpt8, cpt9, cpt10, cpt11, cpt12, cpt13, cpt14, cpt15, cpt16, cpt17, cpt18, cpt19, cpt20, cpt24, cpt30, cpt36, cpt40, cpt48, cpt50, cpt58, cpt59, cpt60, wp_extend, wp_revL, exists_and_left, wp_ML, wp_ML0, isLs_ref, wp_append, wp_pop, wp_tupleR, wp_tupleT, wp_listR, wp_listT, wp_all, wp_any, wp_sum, wp_notB, wp_isB, wp_isN, wp_notN, Option.isSome_some, wp_rng1, wp_rng2, wp_rng3, lsAt, lsO_lst, lsO_fro, lstO_lst, wp_lenR, lenO_lst, lenO_fro, lenO_dK, List.length_map, List.getElem?_cons_zero, List.getElem?_cons_succ, wp_dnew, wp_dget, wp_din, wp_dnin, wp_dg1, wp_dput, wp_dpop, wp_MD, isDk_ref, dkO_dK, keyD_int, keyD_str, wp_lrg1, wp_trg1, wp_MS, isStrB_str, wp_sindex, wp_isiT, wp_strI, wp_eqS, wp_neS, wp_eqI, wp_neI, wp_eqB, wp_neB, wp_abs, wp_intI, wp_intB, wp_max2, wp_min2, wp_lenT, wp_for, wp_ok, wp_bad, lp_nx, lp_ct, lp_bk, lp_rt, lp_xc, asBl_bl, at0, at1, at2, List.map_cons, List.map_nil, List.cons_append, List.nil_append, List.length_cons, List.length_nil, List.replicate, List.set_cons_zero, List.set_cons_succ, Nat.reduceAdd, Int.reduceToNat, Int.reducePow, Int.reduceNeg, Int.reduceMul, Int.reduceAdd, Int.reduceSub, Int.reduceMod, Int.reduceDiv, Int.reduceLT, Int.reduceLE, Int.zero_mul, Int.zero_add, Int.cast_ofNat_Int, Int.reduceBEq, Nat.reduceLeDiff, Nat.reduceEqDiff, true_and, and_true, Nat.reduceSub, if_true, Option.some.injEq, exists_eq_left', Bool.not_true, Bool.not_false, decide_eq_true_eq, Bool.false_eq_true, if_false])
def law_keys_M : List D → M D := mFn 7
 (mSeq (mAsg (mCall 2 law_take_M (mCons (mVar 0) (mCons (mC (.int 4)) mNil))) (gNm 2))
 (mSeq (mAsg (m2 ixM (mArgs tupM (mCons (mC (.int 0)) (mCons (mC (.int 5)) (mCons (mC (.int 7)) (mCons (mC (.int 0)) mNil))))) (mVar 2)) (gNm 3))
 (mSeq (mAsg (mArgs lstM mNil) (gNm 4))
 (mSeq (mFor (mRng1 (mCons (mVar 1) mNil)) (gNm 5)
 (mSeq (mDrop (mML appendM (mVar 4) (mCons (mVar 3) mNil)))
 (mAsg (m2 addM (m2 addM (mVar 3) (mC (.int 1))) (m2 mulM (mCall 2 law_take_M (mCons (mVar 0) (mCons (m2 ixM (mArgs tupM (mCons (mC (.int 1)) (mCons (mC (.int 3)) (mCons (m2 powM (mC (.int 10)) (mC (.int 6))) (mCons (mC (.int 3)) mNil))))) (mVar 2)) mNil))) (m2 ixM (mArgs tupM (mCons (mC (.int 1)) (mCons (mC (.int 1)) (mCons (m2 powM (mC (.int 10)) (mC (.int 10))) (mCons (mC (.int 1)) mNil))))) (mVar 2)))) (gNm 3))))
 (mSeq (mIf (mTst (m2 eqM (mVar 2) (mC (.int 3))))
 (mAsg (mLc (mSrc (mVar 4)) (gNm 6) mYes (m2 addM (m2 subM (m2 powM (mC (.int 10)) (mC (.int 18))) (m2 ixM (mVar 4) (m1 negM (mC (.int 1))))) (mVar 6)) [6]) (gNm 4))
 mNx)
 (mRet (mVar 4)))))))
def law_rank_M : List D → M D := mFn 2
 (mSeq (mIf (mTst (m2 ltM (mVar 1) (mC (.int 3))))
 (mRet (m2 ixM (mArgs tupM (mCons (mC (.int 7)) (mCons (m2 addM (mC (.int 7)) (mCall 2 law_take_M (mCons (mVar 0) (mCons (mC (.int 3)) mNil)))) (mCons (m2 mulM (m2 powM (mC (.int 10)) (mC (.int 18))) (mCall 2 law_take_M (mCons (mVar 0) (mCons (mC (.int 2)) mNil)))) mNil)))) (mVar 1)))
 mNx)
 (mRet (mCall 1 law_great_M (mCons (mVar 0) mNil))))
def law_cards2_M : List D → M D := mFn 7
 (mSeq (mAsg (mCall 2 law_take_M (mCons (mVar 0) (mCons (mC (.int 5)) mNil))) (gNm 2))
 (mSeq (mAsg (mArgs tupM (mCons (mC (.int 0)) (mCons (mC (.int 1)) (mCons (m1 negM (mC (.int 1))) (mCons (m2 powM (mC (.int 10)) (mC (.int 18))) (mCons (m1 negM (m2 powM (mC (.int 10)) (mC (.int 18)))) (mCons (m2 mulM (mC (.int 3)) (m2 powM (mC (.int 10)) (mC (.int 18)))) mNil))))))) (gNm 3))
 (mSeq (mAsg (mArgs lstM mNil) (gNm 4))
 (mSeq (mFor (mSrc (mCall 2 law_keys_M (mCons (mVar 0) (mCons (mVar 1) mNil)))) (gNm 5)
 (mSeq (mAsg (m2 addM (mC (.int 7)) (mArgs lenM (mCons (mVar 4) mNil))) (gNm 6))
 (mSeq (mIf (mTst (m2 ltM (mVar 2) (mC (.int 4))))
 (mAsg (mCall 2 law_rank_M (mCons (mVar 0) (mCons (mVar 2) mNil))) (gNm 6))
 mNx)
 (mDrop (mML appendM (mVar 4) (mCons (mArgs tupM (mCons (mVar 5) (mCons (mVar 6) (mCons (m2 ixM (mVar 3) (mCall 2 law_take_M (mCons (mVar 0) (mCons (mC (.int 6)) mNil)))) mNil)))) mNil))))))
 (mRet (mVar 4))))))
def law_crest2_M : Nat → List D → M D
 | 0 => fun _ _ => .bad
 | n + 1 => mFn 3
   (mSeq (mIf (mTst (m2 eqM (mArgs lenM (mCons (mVar 0) mNil)) (mC (.int 0))))
   (mRet (mArgs tupM mNil))
   mNx)
   (mSeq (mAsg (mC (.int 0)) (gNm 1))
   (mSeq (mFor (mRng2 (mCons (mC (.int 1)) (mCons (mArgs lenM (mCons (mVar 0) mNil)) mNil))) (gNm 2)
   (mIf (mTst (m2 gtM (m2 ixM (m2 ixM (mVar 0) (mVar 2)) (mC (.int 1))) (m2 ixM (m2 ixM (mVar 0) (mVar 1)) (mC (.int 1)))))
   (mAsg (mVar 2) (gNm 1))
   mNx))
   (mRet (mArgs tupM (mCons (mCall 1 (law_crest2_M n) (mCons (mSlice (mVar 0) mNoPart (mPart (mVar 1))) mNil)) (mCons (m2 ixM (mVar 0) (mVar 1)) (mCons (mCall 1 (law_crest2_M n) (mCons (mSlice (mVar 0) (mPart (m2 addM (mVar 1) (mC (.int 1)))) mNoPart) mNil)) mNil))))))))
def law_many2_M : List D → M D := mFn 3
 (mSeq (mAsg (mCall 2 law_take_M (mCons (mVar 0) (mCons (mC (.int 8)) mNil))) (gNm 2))
 (mRet (m2 ixM (mArgs tupM (mCons (mC (.int 0)) (mCons (mC (.int 1)) (mCons (mVar 1) (mCons (m2 addM (mC (.int 2)) (mCall 2 law_take_M (mCons (mVar 0) (mCons (m2 subM (mVar 1) (mC (.int 2))) mNil)))) mNil))))) (mArgs minM (mCons (mVar 2) (mCons (mC (.int 3)) mNil))))))
def law_strange_M : List D → M D := mFn 5
 (mSeq (mAsg (mCall 2 law_take_M (mCons (mVar 0) (mCons (mC (.int 5)) mNil))) (gNm 2))
 (mSeq (mAsg (m2 ixM (mArgs tupM (mCons (m1 negM (mC (.int 1))) (mCons (m2 addM (m2 powM (mC (.int 10)) (mC (.int 18))) (mC (.int 1))) (mCons (m2 subM (m2 powM (mC (.int 10)) (mC (.int 60))) (mC (.int 1))) (mCons (m2 subM (mC (.int 1)) (m2 powM (mC (.int 10)) (mC (.int 60)))) (mCons (mC (.int 3)) mNil)))))) (mVar 2)) (gNm 3))
 (mSeq (mIf (mAnd (mTst (m2 eqM (mVar 2) (mC (.int 4)))) (mTst (m2 neM (mVar 1) (mArgs lstM mNil))))
 (mAsg (m2 addM (m2 ixM (mVar 1) (mCall 2 law_take_M (mCons (mVar 0) (mCons (mArgs lenM (mCons (mVar 1) mNil)) mNil)))) (mC (.int 1))) (gNm 3))
 mNx)
 (mSeq (mAsg (mC (.int 0)) (gNm 4))
 (mSeq (mWhile (mAnd (mTst (m2 (inXM false) (mVar 3) (mVar 1))) (mTst (m2 ltM (mVar 4) (mC (.int 65)))))
 (mSeq (mAsg (m2 addM (mVar 3) (mC (.int 1))) (gNm 3))
 (mAsg (m2 addM (mVar 4) (mC (.int 1))) (gNm 4))))
 (mRet (mVar 3)))))))
def law_some_key_M : List D → M D := mFn 2
 (mSeq (mIf (mOr (mTst (m2 eqM (mVar 1) (mArgs lstM mNil))) (mTst (m2 eqM (mCall 2 law_take_M (mCons (mVar 0) (mCons (mC (.int 8)) mNil))) (mC (.int 0)))))
 (mRet (mCall 2 law_strange_M (mCons (mVar 0) (mCons (mVar 1) mNil))))
 mNx)
 (mRet (m2 ixM (mVar 1) (mCall 2 law_take_M (mCons (mVar 0) (mCons (mArgs lenM (mCons (mVar 1) mNil)) mNil))))))
def law_alike_M : List D → M D := mFn 2
 (mRet (mAndV (m2 eqM (mVar 0) (mVar 1)) (m2 (eqSM false) (mArgs strXM (mCons (mVar 0) mNil)) (mArgs strXM (mCons (mVar 1) mNil)))))
theorem great_ok {S : Store} {w : Nat} {E : Exn → Store → Prop} {Q : D → Store → Prop} (hw : PotAt S w) (q : ∀ x S', 0 ≤ x → x < 10 ^ 18 → Kp w S S' → S'.length = S.length → Q (.int x) S') :
    wp (law_great_M [.ref w] S) Q E := by
  unfold law_great_M
  walk_at "ck1"
  refine take_ok hw (by omega) (by omega) fun a S1 a0 a1 k1 l1 => ?_
  walk_at "ck1"
  refine ⟨cmul_s (by omega) (by omega) (by omega) (by omega), take_ok k1.pt (by omega) (by omega) fun b S2 b0 b1 k2 l2 => ?_⟩
  walk_at "ck1"
  refine ⟨cmul_s (by omega) (by omega) (by omega) (by omega), take_ok k2.pt (by omega) (by omega) fun c S3 c0 c1 k3 l3 => ?_⟩
  walk_at "ck1"
  exact q _ _ (by omega) (by omega) ((k1.trans k2).trans k3) (by omega)
theorem cp10 : CPowX 10 10 := by decide +kernel
theorem keys_ok {S : Store} {w : Nat} {m : Int} {E : Exn → Store → Prop} {Q : D → Store → Prop} (hw : PotAt S w) (m0 : 0 ≤ m) (m1 : m ≤ 70)
    (q : ∀ (ms : List Int) (k : Nat) (S' : Store), Kp w S S' → S.length ≤ k → S'[k]? = some (.lst (ms.map D.int)) → (ms.length : Int) = m → ms.Pairwise (· < ·) → (∀ x ∈ ms, 0 ≤ x ∧ x ≤ 10 ^ 18) → Q (.ref k) S') :
    wp (law_keys_M [.ref w, .int m] S) Q E := by
  unfold law_keys_M
  walk_at "ck1"
  refine take_ok hw (by omega) (by omega) fun wy S1 wy0 wy1 k1 l1 => ?_
  simp only [aft_nx]
  walk_at "ck1"
  obtain ⟨x, hx, x0, x1⟩ := at_int (ns := [0, 5, 7, 0]) (i := wy) (fun x => 0 ≤ x ∧ x ≤ 7) (by simp) wy0 wy1
  refine ⟨_, hx, ?_⟩
  simp only [aft_nx]
  walk_at "ck1"
  have hv : S.length ≤ S1.length := k1.ln
  have hwS := hw.lt
  have kT2 : Kp w S (S1 ++ [.lst []]) := k1.app
  have gv : (S1 ++ [O.lst []])[S1.length]? = some (.lst (([] : List Int).map D.int)) := get_new
  generalize S1 ++ [O.lst []] = X at kT2 gv
  generalize S1.length = v at hv gv
  clear k1
  simp only [aft_nx]
  walk_at "ck1"
  refine ⟨_, rfl, ⟨by omega, by omega⟩, ?_⟩
  refine wp_foR (by unfold FU; omega) (fun j r X => Kp w S X ∧ ∃ (ms : List Int) (a : Int) (z7 : Option D), r = [some (.ref w), some (.int m), some (.int wy), some (.int a), some (.ref v), z7, none] ∧ X[v]? = some (.lst (ms.map D.int)) ∧ ms.length = j ∧ ms.Pairwise (· < ·) ∧ (∀ x ∈ ms, 0 ≤ x ∧ x < a) ∧ 0 ≤ a ∧ a ≤ 7 + j * (10 ^ 16 + 1))
    ⟨kT2, [], x, none, rfl, gv, rfl, .nil, (fun x h => by cases h), x0, by omega⟩ (fun j r X hj hI => ?_) (fun r X hI => ?_)
  · obtain ⟨kX, ms, a, z7, rfl, gX, rfl, hp, hb, a0, a1⟩ := hI
    walk_at "ck1"
    simp only [gX, lsO_lst, lstO_lst, Option.isSome_some, true_and, Option.some.injEq, exists_eq_left']
    refine ⟨by rw [List.length_map, sizeLine_eq]; omega, ?_⟩
    simp only [aft_nx]
    walk_at "ck1"
    obtain ⟨x, hx, x0, x1⟩ := at_int (ns := [1, 3, 1000000, 3]) (i := wy) (fun x => 0 < x ∧ x ≤ 1000000) (by simp) wy0 wy1
    obtain ⟨y, hy, y0, y1⟩ := at_int (ns := [1, 1, 10000000000, 1]) (i := wy) (fun x => 0 < x ∧ x ≤ 10000000000) (by simp) wy0 wy1
    refine ⟨_, hx, ?_⟩
    have kX2 : Kp w S (X.set v (.lst (ms.map D.int ++ [.int a]))) := kX.setNew hwS hv
    refine take_ok kX2.pt (by omega) (by omega) fun z X3 z0 z1 k3 l3 => ?_
    walk_at "ck1"
    refine ⟨_, hy, ?_⟩
    walk_at "ck1"
    have hzy : 0 ≤ z * y ∧ z * y ≤ 10 ^ 16 := by
      refine ⟨Int.mul_nonneg z0 (by omega), ?_⟩
      have : z * y ≤ 1000000 * 10000000000 := Int.mul_le_mul (by omega) (by omega) (by omega) (by omega)
      omega
    refine ⟨cmul_s (by omega) (by omega) (by omega) (by omega), kX2.trans k3, ms ++ [a], _, _, rfl, ?_, by rw [List.length_append]; rfl, ?_, ?_, by omega, by omega⟩
    · rw [List.map_append]
      exact k3.kp v _ (by omega) (List.getElem?_set_self (get_lt gX))
    · rw [List.pairwise_append]
      exact ⟨hp, List.pairwise_singleton _ _, fun x hx y hy => by rw [List.mem_singleton] at hy; subst hy; exact (hb x hx).2⟩
    · intro x hx
      rcases List.mem_append.mp hx with h | h
      · have := hb x h; omega
      · rw [List.mem_singleton] at h; subst h; omega
  · obtain ⟨kX, ms, a, z7, rfl, gX, hl, hp, hb, a0, a1⟩ := hI
    simp only [aft_nx]
    walk_at "ck1"
    have hb2 : ∀ x ∈ ms, 0 ≤ x ∧ x ≤ 10 ^ 18 := fun x hx => by have := hb x hx; omega
    refine stepB (fun _ => ?_) fun _ => ?_
    · walk_at "ck1"
      simp only [gX, lsO_lst, Option.some.injEq, exists_eq_left', get_new]
      cases ms.eq_nil_or_concat with
      | inl h0 =>
        subst h0
        refine lcGo_list (xs := []) (f := fun x => none) rfl (by simp) (ls_of gX) (fun i x acc hx => by cases hx) ?_
        simp only [aft_nx]
        walk_at "ck1"
        exact q [] _ _ kX.app (by have := kX.ln; omega) get_new (by simp at hl ⊢; omega) .nil (fun x h => by cases h)
      | inr h0 =>
        obtain ⟨ms', l, rfl⟩ := h0
        rw [List.concat_eq_append] at *
        refine lcGo_list (xs := (ms' ++ [l]).map D.int) (f := fun x => match x with | .int z => some (.int (10 ^ 18 - l + z)) | _ => none) rfl (by rw [List.length_map]; omega) (ls_of gX) (fun i x acc hx => ?_) ?_
        · obtain ⟨z, hz, rfl⟩ := map_get hx
          unfold lcT
          walk_at "ck1"
          refine ⟨_, ls_of (get_old gX), .int l, by rw [List.map_append]; exact L2.atI_last _ _, ?_⟩
          walk_at "ck1"
        · have e : ((ms' ++ [l]).map D.int).filterMap (fun x => match x with | .int z => some (D.int (10 ^ 18 - l + z)) | _ => none) = ((ms' ++ [l]).map fun z => 10 ^ 18 - l + z).map D.int := by
            rw [List.filterMap_map, List.map_map, ← List.filterMap_eq_map]
            rfl
          rw [e]
          simp only [aft_nx]
          walk_at "ck1"
          have hml : ∀ x ∈ ms' ++ [l], x ≤ l := fun x hx => by
            rcases List.mem_append.mp hx with h | h
            · have := (List.pairwise_append.mp hp).2.2 x h l (by simp); omega
            · rw [List.mem_singleton] at h; omega
          have hl2 := hb2 l (by simp)
          refine q _ _ _ kX.app (by have := kX.ln; omega) get_new (by rw [List.length_map]; omega) ?_ ?_
          · rw [List.pairwise_map]
            exact hp.imp fun h => by omega
          · intro x hx
            obtain ⟨z, hz, rfl⟩ := List.mem_map.mp hx
            have := hml z hz
            have := hb2 z hz
            omega
    · simp only [aft_nx]
      walk_at "ck1"
      exact q ms v X kX hv gX (by omega) hp hb2
theorem rank_ok {S : Store} {w : Nat} {y : Int} {E : Exn → Store → Prop} {Q : D → Store → Prop} (hw : PotAt S w) (y0 : 0 ≤ y) (q : ∀ x S', 0 ≤ x → x ≤ 10 ^ 18 → Kp w S S' → S'.length = S.length → Q (.int x) S') :
    wp (law_rank_M [.ref w, .int y] S) Q E := by
  unfold law_rank_M
  walk_at "ck1"
  by_cases c : y < 3
  · rw [if_pos c]
    refine take_ok hw (by omega) (by omega) fun a S1 a0 a1 k1 l1 => ?_
    walk_at "ck1"
    refine take_ok k1.pt (by omega) (by omega) fun b S2 b0 b1 k2 l2 => ?_
    walk_at "ck1"
    refine ⟨cmul_s (by omega) (by omega) (by omega) (by omega), ?_⟩
    obtain ⟨x, hx, x0, x1⟩ := at_int (ns := [7, 7 + a, 1000000000000000000 * b]) (i := y) (fun x => 0 ≤ x ∧ x ≤ 10 ^ 18) (by simp; omega) y0 c
    exact ⟨_, hx, q _ _ x0 x1 (k1.trans k2) (by omega)⟩
  · rw [if_neg c]
    simp only [aft_nx]
    walk_at "ck1"
    exact great_ok hw fun x S' h0 h1 k l => q x S' h0 (by omega) k l
structure LeafB (c : Card) : Prop where
  a : 0 ≤ c.1 ∧ c.1 ≤ 10 ^ 18
  b : 0 ≤ c.2.1 ∧ c.2.1 ≤ 10 ^ 18
  c : -(10 ^ 18) ≤ c.2.2 ∧ c.2.2 ≤ 3 * 10 ^ 18
theorem LeafB.num {c : Card} (h : LeafB c) : CardN c := ⟨⟨by have := h.a; omega, by have := h.a; omega⟩, ⟨by have := h.b; omega, by have := h.b; omega⟩, ⟨by have := h.c; omega, by have := h.c; omega⟩⟩
theorem leaf_cards_ok {S : Store} {w : Nat} {m : Int} {E : Exn → Store → Prop} {Q : D → Store → Prop} (hw : PotAt S w) (m0 : 0 ≤ m) (m1 : m ≤ 70)
    (q : ∀ (cs : List Card) (k : Nat) (S' : Store), Kp w S S' → S.length ≤ k → S'[k]? = some (.lst (cs.map cd)) → (cs.length : Int) = m → Srt cs → (∀ c ∈ cs, LeafB c) → Q (.ref k) S') :
    wp (law_cards2_M [.ref w, .int m] S) Q E := by
  unfold law_cards2_M
  walk_at "ck1"
  refine take_ok hw (by omega) (by omega) fun wy S1 wy0 wy1 k1 l1 => ?_
  simp only [aft_nx]
  walk_at "ck1"
  refine ⟨cmul_s (by omega) (by omega) (by omega) (by omega), ?_⟩
  simp only [aft_nx]
  walk_at "ck1"
  have hwS := hw.lt
  have hv : S.length ≤ S1.length := k1.ln
  have kT2 : Kp w S (S1 ++ [.lst []]) := k1.app
  have gv : (S1 ++ [O.lst []])[S1.length]? = some (.lst (([] : List Card).map cd)) := get_new
  generalize S1 ++ [O.lst []] = X at kT2 gv
  generalize S1.length = v at hv gv
  clear k1
  simp only [aft_nx]
  walk_at "ck1"
  refine keys_ok kT2.pt m0 m1 fun ms k X2 k2 hk hms hml hmp hmb => ?_
  have gv2 := k2.kp v _ (by omega) gv
  have kX := kT2.trans k2
  have hvk : v < k := by have := get_lt gv; omega
  have hkS : S.length ≤ k := by omega
  walk_at "ck1"
  refine ⟨_, ls_of hms, ?_⟩
  refine wp_foL (xs := ms.map D.int) (by rw [List.length_map]; unfold FU; omega) (fun i r T => Kp w S T ∧ T[k]? = some (.lst (ms.map D.int)) ∧ ∃ (cs : List Card) (z5 z6 : Option D), r = [some (.ref w), some (.int m), some (.int wy), some (.tup [.int 0, .int 1, .int (-1), .int (1000000000000000000), .int (-1000000000000000000), .int 3000000000000000000]), some (.ref v), z5, z6] ∧ T[v]? = some (.lst (cs.map cd)) ∧ cs.map (·.1) = ms.take i ∧ ∀ c ∈ cs, LeafB c)
    ⟨kX, hms, [], none, none, rfl, gv2, rfl, fun c h => by cases h⟩ (fun i r T hI => ls_of hI.2.1) (fun i x r T hx hI => ?_) (fun r T hI => ?_)
  · obtain ⟨kT, gk, cs, z5, z6, rfl, gT, hcs, hok⟩ := hI
    obtain ⟨z, hz, rfl⟩ := map_get hx
    have hi := get_lt hz
    have hzb := hmb z (List.mem_of_getElem? hz)
    have hlc : cs.length = i := by have := congrArg List.length hcs; rw [List.length_map, List.length_take] at this; omega
    walk_at "ck1"
    simp only [gT, lenO_lst, Option.some.injEq, exists_eq_left', List.length_map]
    simp only [aft_nx, wp_seq]
    refine wp_mono (Q := fun f T2 => ∃ y : Int, f = .nx [some (.ref w), some (.int m), some (.int wy), some (.tup [.int 0, .int 1, .int (-1), .int (1000000000000000000), .int (-1000000000000000000), .int 3000000000000000000]), some (.ref v), some (.int z), some (.int y)] ∧ 0 ≤ y ∧ y ≤ 10 ^ 18 ∧ Kp w S T2 ∧ Kp w T T2) ?_ ?_
    · walk_at "ck1"
      by_cases c : wy < 4
      · rw [if_pos c]
        refine rank_ok kT.pt wy0 fun y T2 y0 y1 k3 l3 => ?_
        walk_at "ck1"
        exact ⟨_, rfl, y0, y1, kT.trans k3, k3⟩
      · rw [if_neg c]
        exact ⟨_, rfl, by omega, by omega, kT, .refl kT.pt⟩
    · rintro f T2 ⟨y, rfl, y0, y1, kT2, kTT⟩
      simp only [aft_nx]
      walk_at "ck1"
      have gT2 := kTT.kp v _ (by omega) gT
      simp only [gT2, lsO_lst, lstO_lst, Option.isSome_some, true_and, Option.some.injEq, exists_eq_left']
      refine take_ok kT2.pt (by omega) (by omega) fun u T3 u0 u1 k4 l4 => ?_
      walk_at "ck1"
      obtain ⟨x, hx, x0, x1⟩ := at_int (ns := [0, 1, -1, 1000000000000000000, -1000000000000000000, 3000000000000000000]) (i := u) (fun x => -(10 ^ 18) ≤ x ∧ x ≤ 3 * 10 ^ 18) (by simp) u0 u1
      refine ⟨_, hx, ?_⟩
      have gT3 := k4.kp v _ (by omega) gT2
      have kT3 := kT2.trans k4
      have gk3 := k4.kp k _ (by omega) (kTT.kp k _ (by omega) gk)
      simp only [gT3, lstO_lst, Option.some.injEq, exists_eq_left']
      refine ⟨by rw [List.length_map, sizeLine_eq]; omega, kT3.setNew hwS hv, by rw [List.getElem?_set_ne (by omega)]; exact gk3, cs ++ [(z, y, x)], _, _, rfl, ?_, ?_, ?_⟩
      · rw [List.getElem?_set_self (get_lt gT3), List.map_append]; rfl
      · rw [List.map_append, hcs, take_succ hz]; rfl
      · intro c hc
        rcases List.mem_append.mp hc with h | h
        · exact hok c h
        · rw [List.mem_singleton] at h; subst h
          exact ⟨hzb, ⟨y0, y1⟩, ⟨x0, x1⟩⟩
  · obtain ⟨kT, gk, cs, z5, z6, rfl, gT, hcs, hok⟩ := hI
    rw [List.length_map, List.take_length] at hcs
    simp only [aft_nx]
    walk_at "ck1"
    refine q cs v T kT hv gT (by rw [← hml, ← hcs, List.length_map]) ?_ hok
    unfold Srt
    rw [← List.pairwise_map (f := fun c : Card => c.1) (R := fun a b => a < b), hcs]
    exact hmp
theorem leaf_many_ok {S : Store} {w : Nat} {m : Int} {E : Exn → Store → Prop} {Q : D → Store → Prop} (hw : PotAt S w) (m0 : 3 ≤ m) (m1 : m ≤ 1000) (q : ∀ x S', 0 ≤ x → x ≤ m → Kp w S S' → Q (.int x) S') :
    wp (law_many2_M [.ref w, .int m] S) Q E := by
  unfold law_many2_M
  walk_at "ck1"
  refine take_ok hw (by omega) (by omega) fun a S1 a0 a1 k1 l1 => ?_
  simp only [aft_nx]
  walk_at "ck1"
  refine take_ok k1.pt (by omega) (by omega) fun b S2 b0 b1 k2 l2 => ?_
  walk_at "ck1"
  obtain ⟨x, hx, x0, x1⟩ := at_int (ns := [0, 1, m, 2 + b]) (i := if 3 < a then 3 else a) (fun x => 0 ≤ x ∧ x ≤ m) (by simp; omega) (by split <;> omega) (by simp only [List.length_cons, List.length_nil]; split <;> omega)
  refine ⟨_, hx, q x _ x0 x1 (k1.trans k2)⟩
theorem wp_eqN {a b : Int} {S : Store} {E : Exn → Store → Prop} {Q : D → Store → Prop} : wp (eqM (.int a) (.int b) S) Q E = Q (.bl (a == b)) S := wp_eqI
theorem leaf_crest_ok {E : Exn → Store → Prop} : ∀ (n : Nat) (cs : List Card) (k : Nat) (S : Store) (Q : D → Store → Prop), lsAt S k = some (cs.map cd) → cs.length < n → cs.length ≤ 1000 →
    (∀ (t : Tr) (G : Store), t.cards = cs → Cr t → Q t.d (S ++ G)) → wp (law_crest2_M n [.ref k] S) Q E
  | 0, cs, k, S, Q, _, h, _, _ => by omega
  | n + 1, cs, k, S, Q, hc, hn, hl, q => by
    unfold law_crest2_M
    walk_at "ck1"
    refine ⟨_, len_ls hc, ?_⟩
    walk_at "ck1"
    cases cs with
    | nil =>
      walk_at "ck1"
      have h := q .e [] rfl .e
      rw [List.append_nil] at h
      exact h
    | cons c0 cs0 =>
      generalize hcs : c0 :: cs0 = cs at *
      have hpos : 0 < cs.length := by rw [← hcs]; simp
      refine stepB (fun h => ?_) fun _ => ?_
      · have h := beq_iff_eq.mp h
        first | rw [List.length_map] at h | skip
        omega
      simp only [aft_nx]
      walk_at "ck1"
      simp only [aft_nx]
      walk_at "ck1"
      refine ⟨_, len_ls hc, _, _, rfl, ⟨by decide, by decide⟩, ⟨by omega, by rw [List.length_map]; omega⟩, ?_⟩
      rw [List.length_map]
      refine wp_foR (by unfold FU; omega) (fun i r T => T = S ∧ ∃ (b : Nat) (z : Option D), r = [some (.ref k), some (.int b), z] ∧ ∃ hb : b < cs.length, (∀ x ∈ cs.take b, x.2.1 < cs[b].2.1) ∧ (∀ x ∈ (cs.take (i + 1)), x.2.1 ≤ cs[b].2.1)) ⟨rfl, 0, none, rfl, hpos, (fun x h => by cases h), (fun x h => by
        rw [← hcs] at h; simp at h; subst h; simp [← hcs])⟩ (fun i r T hi hI => ?_) (fun r T hI => ?_)
      · obtain ⟨rfl, b, z, rfl, hb, h1, h2⟩ := hI
        have hi' : i + 1 < cs.length := by omega
        have ati : atI (cs.map cd) (1 + (i : Nat)) = some (cd cs[i + 1]) := at_of' (j := i + 1) (by omega) (by rw [List.getElem?_map, List.getElem?_eq_getElem hi']; rfl)
        have atb : atI (cs.map cd) (b : Nat) = some (cd cs[b]) := at_of' rfl (by rw [List.getElem?_map, List.getElem?_eq_getElem hb]; rfl)
        walk_at "ck1"
        refine ⟨_, hc, _, ati, ?_⟩
        simp only [cd]
        walk_at "ck1"
        refine ⟨_, hc, _, atb, ?_⟩
        simp only [cd]
        walk_at "ck1"
        have tk := take_succ (List.getElem?_eq_getElem hi')
        by_cases cc : cs[b].2.1 < cs[i + 1].2.1
        · rw [if_pos cc]
          refine ⟨i + 1, _, by rw [show (1 : Int) + (i : Nat) = ((i + 1 : Nat) : Int) by omega], hi', fun x hx => ?_, fun x hx => ?_⟩
          · have := h2 x hx; omega
          · rw [tk] at hx
            rcases List.mem_append.mp hx with h | h
            · have := h2 x h; omega
            · rw [List.mem_singleton] at h; subst h; omega
        · rw [if_neg cc]
          refine ⟨b, _, rfl, hb, h1, fun x hx => ?_⟩
          rw [tk] at hx
          rcases List.mem_append.mp hx with h | h
          · exact h2 x h
          · rw [List.mem_singleton] at h; subst h; omega
      · obtain ⟨rfl, b, z, rfl, hb, h1, h2⟩ := hI
        rw [List.take_of_length_le (by omega)] at h2
        simp only [aft_nx]
        walk_at "ck1"
        refine ⟨_, hc, ?_⟩
        rw [cut_cards]
        refine leaf_crest_ok n (cs.take b) _ _ _ ls_new (by rw [List.length_take]; omega) (by rw [List.length_take]; omega) fun t1 G1 ht1 hc1 => ?_
        walk_at "ck1"
        have hcA := ls_app (G := G1) (ls_app (G := [O.lst (List.map cd (List.take b cs))]) hc)
        refine ⟨_, hcA, cd cs[b], at_of' rfl (by rw [List.getElem?_map, List.getElem?_eq_getElem hb]; rfl), _, hcA, ?_⟩
        rw [cut_cards2]
        refine leaf_crest_ok n (cs.drop (b + 1)) _ _ _ ls_new (by rw [List.length_drop]; omega) (by rw [List.length_drop]; omega) fun t2 G2 ht2 hc2 => ?_
        walk_at "ck1"
        simp only [List.append_assoc]
        refine q (.n t1 cs[b] t2) _ ?_ (.n hc1 hc2 ?_ ?_)
        · rw [Tr.cards, ht1, ht2, List.getElem_cons_drop, List.take_append_drop]
        · rw [ht1]; exact h1
        · rw [ht2]; exact fun x hx => h2 x (List.mem_of_mem_drop hx)

theorem eq_nilI {S : Store} {E : Exn → Store → Prop} {Q : D → Store → Prop} {k m : Nat} {ns : List Int} (h : lsAt S k = some (ns.map D.int)) (h2 : lsAt S m = some []) (q : Q (.bl ns.isEmpty) S) : wp (eqM (.ref k) (.ref m) S) Q E := by
  rw [wp_eq, pyD_ints h, py_nil h2]
  refine ⟨_, _, rfl, rfl, ?_⟩
  cases ns with
  | nil => simpa [PyData.eqv, PyData.eqvAll] using q
  | cons c cs => simpa [PyData.eqv, PyData.eqvAll] using q
theorem ne_nilI {S : Store} {E : Exn → Store → Prop} {Q : D → Store → Prop} {k m : Nat} {ns : List Int} (h : lsAt S k = some (ns.map D.int)) (h2 : lsAt S m = some []) (q : Q (.bl (!ns.isEmpty)) S) : wp (neM (.ref k) (.ref m) S) Q E := by
  rw [wp_ne, pyD_ints h, py_nil h2]
  refine ⟨_, _, rfl, rfl, ?_⟩
  cases ns with
  | nil => simpa [PyData.eqv, PyData.eqvAll] using q
  | cons c cs => simpa [PyData.eqv, PyData.eqvAll] using q
theorem strange_ok {S : Store} {w k : Nat} {ns : List Int} {E : Exn → Store → Prop} {Q : D → Store → Prop} (hw : PotAt S w) (hk : k ≠ w) (hn : lsAt S k = some (ns.map D.int)) (hl : ns.length ≤ 65) (hb : ∀ x ∈ ns, 0 ≤ x ∧ x ≤ 10 ^ 18)
    (q : ∀ (x : Int) (S' : Store), -(10 ^ 60) < x → x < 10 ^ 60 + 100 → Kp w S S' → Q (.int x) S') : wp (law_strange_M [.ref w, .ref k] S) Q E := by
  unfold law_strange_M
  walk_at "ck1"
  refine take_ok hw (by omega) (by omega) fun wy S1 wy0 wy1 k1 l1 => ?_
  simp only [aft_nx]
  walk_at "ck1"
  obtain ⟨x, hx, x0, x1⟩ := at_int (ns := [-1, 1000000000000000001, 999999999999999999999999999999999999999999999999999999999999, -999999999999999999999999999999999999999999999999999999999999, 3]) (i := wy) (fun x => -(10 ^ 60) < x ∧ x < 10 ^ 60) (by simp) wy0 wy1
  refine ⟨_, hx, ?_⟩
  have hn1 := k1.ls hk hn
  simp only [aft_nx, wp_seq]
  refine wp_mono (Q := fun f T => ∃ y : Int, f = .nx [some (.ref w), some (.ref k), some (.int wy), some (.int y), none] ∧ -(10 ^ 60) < y ∧ y < 10 ^ 60 + 5 ∧ Kp w S T) ?_ ?_
  · walk_at "ck1"
    refine stepB (fun _ => ?_) fun _ => ⟨_, rfl, x0, by omega, k1⟩
    refine ne_nilI (ls_app hn1) ls_new ?_
    walk_at "ck1"
    refine stepB (fun hne => ?_) fun _ => ⟨_, rfl, x0, by omega, k1.app⟩
    have hpos : 0 < ns.length := by cases ns with | nil => simp at hne | cons _ _ => simp
    refine ⟨_, len_ls (ls_app hn1), ?_⟩
    rw [List.length_map]
    refine take_ok k1.app.pt (by omega) (by omega) fun i S2 i0 i1 k2 l2 => ?_
    have kS2 := k1.app.trans k2
    obtain ⟨y, hy, y0, y1⟩ := at_int (ns := ns) (i := i) (fun x => 0 ≤ x ∧ x ≤ 10 ^ 18) hb i0 i1
    walk_at "ck1"
    refine ⟨_, kS2.ls hk hn, _, hy, ?_⟩
    walk_at "ck1"
    exact ⟨_, rfl, by omega, by omega, kS2⟩
  · rintro f T ⟨y, rfl, y0, y1, kT⟩
    simp only [aft_nx]
    walk_at "ck1"
    simp only [aft_nx, wp_seq]
    refine wp_while (fun m r T2 => T2 = T ∧ ∃ (y' j : Int), r = [some (.ref w), some (.ref k), some (.int wy), some (.int y'), some (.int j)] ∧ 0 ≤ j ∧ j ≤ 65 ∧ y' = y + j ∧ m = (65 - j).toNat) (m := 65) (by unfold FU; omega) ⟨rfl, y, 0, rfl, by omega, by omega, by omega, by omega⟩ (fun m r T2 hI => ?_)
    obtain ⟨rfl, y', j, rfl, j0, j1, rfl, rfl⟩ := hI
    walk_at "ck1"
    refine wp_inI (kT.ls hk hn) ?_
    walk_at "ck1"
    by_cases ci : y + j ∈ ns
    · rw [if_pos ci]
      by_cases c : j < 65
      · rw [if_pos c]
        walk_at "ck1"
        simp only [aft_nx]
        walk_at "ck1"
        exact ⟨(65 - (j + 1)).toNat, by omega, y + j + 1, j + 1, rfl, by omega, by omega, by omega, rfl⟩
      · rw [if_neg c]
        simp only [aft_nx]
        walk_at "ck1"
        exact q _ _ (by omega) (by omega) kT
    · rw [if_neg ci]
      simp only [aft_nx]
      walk_at "ck1"
      exact q _ _ (by omega) (by omega) kT
theorem some_key_ok {S : Store} {w k : Nat} {ns : List Int} {E : Exn → Store → Prop} {Q : D → Store → Prop} (hw : PotAt S w) (hk : k ≠ w) (hn : lsAt S k = some (ns.map D.int)) (hl : ns.length ≤ 65) (hb : ∀ x ∈ ns, 0 ≤ x ∧ x ≤ 10 ^ 18)
    (q : ∀ (x : Int) (S' : Store), -(10 ^ 60) < x → x < 10 ^ 60 + 100 → Kp w S S' → Q (.int x) S') : wp (law_some_key_M [.ref w, .ref k] S) Q E := by
  unfold law_some_key_M
  walk_at "ck1"
  refine eq_nilI (ls_app hn) ls_new ?_
  walk_at "ck1"
  have k0 : Kp w S (S ++ [.lst []]) := (Kp.refl hw).app
  refine stepB (fun he => ?_) fun hne => ?_
  · exact strange_ok k0.pt hk (k0.ls hk hn) hl hb fun x S' x0 x1 k1 => q x S' x0 x1 (k0.trans k1)
  · refine take_ok k0.pt (by omega) (by omega) fun a S1 a0 a1 k1 l1 => ?_
    have kS := k0.trans k1
    walk_at "ck1"
    refine stepB (fun _ => ?_) fun _ => ?_
    · exact strange_ok kS.pt hk (kS.ls hk hn) hl hb fun x S' x0 x1 k1 => q x S' x0 x1 (kS.trans k1)
    · simp only [aft_nx]
      walk_at "ck1"
      have hpos : 0 < ns.length := by cases ns with | nil => simp at hne | cons _ _ => simp
      refine ⟨_, len_ls (kS.ls hk hn), ?_⟩
      rw [List.length_map]
      refine take_ok kS.pt (by omega) (by omega) fun i S2 i0 i1 k2 l2 => ?_
      obtain ⟨y, hy, y0, y1⟩ := at_int (ns := ns) (i := i) (fun x => 0 ≤ x ∧ x ≤ 10 ^ 18) hb i0 i1
      walk_at "ck1"
      exact ⟨_, (kS.trans k2).ls hk hn, _, hy, q _ _ (by omega) (by omega) (kS.trans k2)⟩

theorem alike_tup {S : Store} {xs ys : List D} {p : PyData} {w d : Nat} {E : Exn → Store → Prop} {Q : D → Store → Prop} (h1 : pyD S (.tup xs) = some p) (h2 : pyD S (.tup ys) = some p) (he : PyData.eqv p p = true) (hs : Shw p w d) (hw : w ≤ 260000) (hd : d ≤ 190)
    (q : Q (.bl true) S) : wp (law_alike_M [.tup xs, .tup ys] S) Q E := by
  unfold law_alike_M
  walk_at "ck1"
  rw [wp_eq, h1, h2]
  refine ⟨_, _, rfl, rfl, ?_⟩
  rw [he]
  walk_at "ck1"
  refine str_tup h1 hs hw hd ?_
  refine str_tup h2 hs hw hd ?_
  walk_at "ck1"
  simpa using q
theorem alike_ref {S : Store} {a b : Nat} {p : PyData} {w d : Nat} {E : Exn → Store → Prop} {Q : D → Store → Prop} (h1 : pyD S (.ref a) = some p) (h2 : pyD S (.ref b) = some p) (he : PyData.eqv p p = true) (hs : Shw p w d) (hw : w ≤ 260000) (hd : d ≤ 190)
    (q : Q (.bl true) S) : wp (law_alike_M [.ref a, .ref b] S) Q E := by
  unfold law_alike_M
  walk_at "ck1"
  rw [wp_eq, h1, h2]
  refine ⟨_, _, rfl, rfl, ?_⟩
  rw [he]
  walk_at "ck1"
  refine str_ref h1 hs hw hd ?_
  refine str_ref h2 hs hw hd ?_
  walk_at "ck1"
  simpa using q
theorem alike_tr {S : Store} {t : Tr} {E : Exn → Store → Prop} {Q : D → Store → Prop} (h : ∀ c ∈ t.cards, CardN c) (hl : t.cards.length ≤ 150) (q : Q (.bl true) S) : wp (law_alike_M [t.d, t.d] S) Q E := by
  have hh := t.ht_le
  have hp : pyD S t.d = some t.py := pyD_tr (by omega)
  have hs := shw_tr h
  have he := eqv_tr t
  cases t with
  | e => exact alike_tup hp hp he hs (by omega) (by omega) q
  | n l c r => exact alike_tup hp hp he hs (by omega) (by omega) q

def headD : D → Option D
  | .tup (a :: _) => some a
  | _ => none
theorem heads_ok {cs : List Card} : (cs.map cd).filterMap headD = (cs.map (·.1)).map D.int := by
  rw [List.filterMap_map, List.map_map, ← List.filterMap_eq_map]; rfl

def fltD (p : Card → Bool) : D → Option D
  | .tup [.int a, .int b, .int c] => if p (a, b, c) then some (.tup [.int a, .int b, .int c]) else none
  | _ => none
theorem fltD_cd {p : Card → Bool} {c : Card} : fltD p (.tup [.int c.1, .int c.2.1, .int c.2.2]) = if p c then some (cd c) else none := rfl
theorem lc_flt {cs : List Card} {p : Card → Bool} : (cs.map cd).filterMap (fltD p) = (cs.filter p).map cd := by
  induction cs with
  | nil => rfl
  | cons c cs ih =>
    rw [List.map_cons, List.filterMap_cons, List.filter_cons, ih]
    rw [show fltD p (cd c) = if p c then some (cd c) else none from rfl]
    cases h : p c <;> simp
theorem py_two {S : Store} {t u : Tr} (h : t.ht ≤ 100) (h2 : u.ht ≤ 100) : pyD S (.tup [t.d, u.d]) = some (.tuple [t.py, u.py]) := by
  have h1 := py_tr (S := S) t 198 (by omega)
  have h2 := py_tr (S := S) u 198 (by omega)
  show (optAll (pyOf S 198) [t.d, u.d]).map PyData.tuple = _
  simp only [optAll, h1, h2]
  rfl
theorem alike_two {S : Store} {t u : Tr} {E : Exn → Store → Prop} {Q : D → Store → Prop} (h : ∀ c ∈ t.cards, CardN c) (h' : ∀ c ∈ u.cards, CardN c) (hl : t.cards.length ≤ 64) (hl' : u.cards.length ≤ 64) (q : Q (.bl true) S) : wp (law_alike_M [.tup [t.d, u.d], .tup [t.d, u.d]] S) Q E := by
  have h1 := t.ht_le
  have h2 := u.ht_le
  have hp : pyD S (.tup [t.d, u.d]) = _ := py_two (by omega) (by omega)
  have s1 := (shw_tr h).mono (w' := 615 * 64) (d' := 70) (by omega) (by omega)
  have s2 := (shw_tr h').mono (w' := 615 * 64) (d' := 70) (by omega) (by omega)
  exact alike_tup hp hp (by simp [PyData.eqv, PyData.eqvAll, eqv_tr]) (shw_tup2 s1 s2) (by omega) (by omega) q
end Lib
end CK
end

section
set_option Elab.async false
set_option linter.all false
set_option exponentiation.threshold 100000
set_option maxRecDepth 100000
set_option maxHeartbeats 4000000
namespace CK
namespace Lib
open PySem PySem.Spec PyProof.Rows L2
local macro_rules | `(tactic| walk_at "ck") => `(tactic| try simp only [wp_seq, wp_asg, wp_if, wp_ret, wp_retN, wp_drop, wp_fn, wp_var0, wp_varS, wp_mC, wp_m2, wp_m1, wp_nil, wp_cons, wp_args, wp_call, wp_tst, wp_and, wp_or, wp_not, wp_andV, wp_orV, wp_notV, wp_ifE, wp_chain, wp_nx, wp_brk, wp_cnt, aft_nx, aft_rt, aft_bk, aft_ct, aft_xc, fin_rt, fin_nx, fin_xc, fin_bk, fin_ct, wp_gNm, wp_gTp, wp_gsNil, wp_gsCons, wp_gSub, wp_par, wp_par3, wp_i0, wp_iC, wp_addI, wp_addT, wp_mulI, wp_neg, wp_tup, wp_lst, sz0, sz1, sz2, sz3, sz4, sz5, sz6, sz7, sz8, wp_yes, wp_ixT, wp_ixL, wp_setL, wp_isi, tyN, isi_ii, isi_ib, isi_bi, isi_bb, isi_nb, isi_ni, isi_ns, isi_nt, isi_nl, isi_nd, isi_bs, isi_bt, isi_bl, isi_bd, isi_is, isi_it, isi_il, isi_id, isi_sb, isi_si, isi_ss, isi_st, isi_sl, isi_sd, isi_tb, isi_ti, isi_ts, isi_tt, isi_tl, isi_td, isi_lb, isi_li, isi_ls, isi_lt, isi_ll, isi_ld, isi_db, isi_di, isi_ds, isi_dt, isi_dl, isi_dd, wp_slice, wp_noPart, wp_part, asInt_int, wp_slT, wp_slL, wp_mulT, wp_src, wp_lc, wipeE, D.ref.injEq, D.tup.injEq, reduceCtorEq, false_and, exists_false, false_or, or_false, cpt2, cpt3, cpt4, cpt5, cpt6, cpt7, cpt8, cpt9, cpt10, cpt11, cpt12, cpt13, cpt14, cpt15, cpt16, cpt17, cpt18, cpt19, cpt20, cpt24, cpt30, cpt36, cpt40, cpt48, cpt50, cpt58, cpt59, cpt60, wp_extend, wp_revL, exists_and_left, wp_ML, wp_ML0, isLs_ref, wp_append, wp_pop, wp_tupleR, wp_tupleT, wp_listR, wp_listT, wp_all, wp_any, wp_sum, wp_notB, wp_isB, wp_isN, wp_notN, Option.isSome_some, wp_rng1, wp_rng2, wp_rng3, lsAt, lsO_lst, lsO_fro, lstO_lst, wp_lenR, lenO_lst, lenO_fro, lenO_dK, List.length_map, List.getElem?_cons_zero, List.getElem?_cons_succ, wp_dnew, wp_dget, wp_din, wp_dnin, wp_dg1, wp_dput, wp_dpop, wp_MD, isDk_ref, dkO_dK, keyD_int, keyD_str, wp_lrg1, wp_trg1, wp_MS, isStrB_str, wp_sindex, wp_isiT, wp_strI, wp_eqS, wp_neS, wp_eqI, wp_neI, wp_eqB, wp_neB, wp_abs, wp_intI, wp_intB, wp_max2, wp_min2, wp_lenT, wp_for, wp_ok, wp_bad, lp_nx, lp_ct, lp_bk, lp_rt, lp_xc, asBl_bl, at0, at1, at2, List.map_cons, List.map_nil, List.cons_append, List.nil_append, List.length_cons, List.length_nil, List.replicate, List.set_cons_zero, List.set_cons_succ, Nat.reduceAdd, Int.reduceToNat, Int.reducePow, Int.reduceNeg, Int.reduceMul, Int.reduceAdd, Int.reduceSub, Int.reduceMod, Int.reduceDiv, Int.reduceLT, Int.reduceLE, Int.zero_mul, Int.zero_add, Int.cast_ofNat_Int, Int.reduceBEq, Nat.reduceLeDiff, Nat.reduceEqDiff, true_and, and_true, Nat.reduceSub, if_true, Option.some.injEq, exists_eq_left', Bool.not_true, Bool.not_false, decide_eq_true_eq, Bool.false_eq_true, if_false])
local macro_rules | `(tactic| walk_at "cks") => `(tactic| try simp only [wp_seq, wp_asg, wp_if, wp_ret, wp_retN, wp_drop, wp_fn, wp_var0, wp_varS, wp_mC, wp_m2, wp_m1, wp_nil, wp_cons, wp_args, wp_call, wp_tst, wp_and, wp_or, wp_not, wp_andV, wp_orV, wp_notV, wp_ifE, wp_chain, wp_nx, wp_brk, wp_cnt, aft_nx, aft_rt, aft_bk, aft_ct, aft_xc, fin_rt, fin_nx, fin_xc, fin_bk, fin_ct, wp_gNm, wp_gTp, wp_gsNil, wp_gsCons, wp_gSub, wp_par, wp_par3, wp_i0, wp_iC, wp_addI, wp_addT, wp_mulI, wp_neg, wp_tup, wp_lst, sz0, sz1, sz2, sz3, sz4, sz5, sz6, sz7, sz8, wp_yes, wp_ixT, wp_ixL, wp_setL, wp_isi, tyN, isi_ii, isi_ib, isi_bi, isi_bb, isi_nb, isi_ni, isi_ns, isi_nt, isi_nl, isi_nd, isi_bs, isi_bt, isi_bl, isi_bd, isi_is, isi_it, isi_il, isi_id, isi_sb, isi_si, isi_ss, isi_st, isi_sl, isi_sd, isi_tb, isi_ti, isi_ts, isi_tt, isi_tl, isi_td, isi_lb, isi_li, isi_ls, isi_lt, isi_ll, isi_ld, isi_db, isi_di, isi_ds, isi_dt, isi_dl, isi_dd, wp_slice, wp_noPart, wp_part, asInt_int, wp_slT, wp_slL, wp_mulT, wp_src, wp_lc, wipeE, D.ref.injEq, D.tup.injEq, reduceCtorEq, false_and, exists_false, false_or, or_false, cpt2, cpt3, cpt4, cpt5, cpt6, cpt7, cpt8, cpt9, cpt10, cpt11, cpt12, cpt13, cpt14, cpt15, cpt16, cpt17, cpt18, cpt19, cpt20, cpt24, cpt30, cpt36, cpt40, cpt48, cpt50, cpt58, cpt59, cpt60, wp_extend, wp_revL, exists_and_left, wp_ML, wp_ML0, isLs_ref, wp_append, wp_pop, wp_tupleR, wp_tupleT, wp_listR, wp_listT, wp_all, wp_any, wp_sum, wp_notB, wp_isB, wp_isN, wp_notN, Option.isSome_some, wp_rng1, wp_rng2, wp_rng3, lsAt, lsO_lst, lsO_fro, lstO_lst, wp_lenR, lenO_lst, lenO_fro, lenO_dK, List.length_map, List.getElem?_cons_zero, List.getElem?_cons_succ, wp_dnew, wp_dget, wp_din, wp_dnin, wp_dg1, wp_dput, wp_dpop, wp_MD, isDk_ref, dkO_dK, keyD_int, keyD_str, wp_lrg1, wp_trg1, wp_MS, isStrB_str, wp_sindex, wp_isiT, wp_strI, wp_eqS, wp_neS, wp_eqI, wp_neI, wp_eqB, wp_neB, wp_abs, wp_intI, wp_intB, wp_max2, wp_min2, wp_lenT, wp_for, wp_ok, wp_bad, lp_nx, lp_ct, lp_bk, lp_rt, lp_xc, asBl_bl, at0, at1, at2, List.map_cons, List.map_nil, List.cons_append, List.nil_append, List.length_cons, List.length_nil, List.replicate, List.set_cons_zero, List.set_cons_succ, Nat.reduceAdd, Int.reduceToNat, Int.reducePow, Int.reduceNeg, Int.reduceMul, Int.reduceAdd, Int.reduceSub, Int.reduceMod, Int.reduceDiv, Int.reduceLT, Int.reduceLE, Int.zero_mul, Int.zero_add, Int.cast_ofNat_Int, Int.reduceBEq, Nat.reduceLeDiff, Nat.reduceEqDiff, true_and, and_true, Nat.reduceSub, if_true, Option.some.injEq, exists_eq_left', Bool.not_true, Bool.not_false, decide_eq_true_eq, Bool.false_eq_true, if_false, *])
local macro_rules | `(tactic| walk_at "ck1") => `(tactic| try simp only [wp_seq, wp_asg, wp_if, wp_ret, wp_retN, wp_drop, wp_fn, wp_var0, wp_varS, wp_mC, wp_m2, wp_m1, wp_nil, wp_cons, wp_args, wp_call, wp_tst, wp_and, wp_or, wp_not, wp_andV, wp_orV, wp_notV, wp_ifE, wp_chain, wp_nx, wp_brk, wp_cnt, aft_rt, aft_bk, aft_ct, aft_xc, fin_rt, fin_nx, fin_xc, fin_bk, fin_ct, wp_gNm, wp_gTp, wp_gsNil, wp_gsCons, wp_gSub, wp_par, wp_par3, wp_i0, wp_iC, wp_addI, wp_addT, wp_mulI, wp_neg, wp_tup, wp_lst, sz0, sz1, sz2, sz3, sz4, sz5, sz6, sz7, sz8, wp_yes, wp_ixT, wp_ixL, wp_setL, wp_isi, tyN, isi_ii, isi_ib, isi_bi, isi_bb, isi_nb, isi_ni, isi_ns, isi_nt, isi_nl, isi_nd, isi_bs, isi_bt, isi_bl, isi_bd, isi_is, isi_it, isi_il, isi_id, isi_sb, isi_si, isi_ss, isi_st, isi_sl, isi_sd, isi_tb, isi_ti, isi_ts, isi_tt, isi_tl, isi_td, isi_lb, isi_li, isi_ls, isi_lt, isi_ll, isi_ld, isi_db, isi_di, isi_ds, isi_dt, isi_dl, isi_dd, wp_slice, wp_noPart, wp_part, asInt_int, wp_slT, wp_slL, wp_mulT, wp_src, wp_lc, wipeE, D.ref.injEq, D.tup.injEq, reduceCtorEq, false_and, exists_false, false_or, or_false, cpt2, cpt3, cpt4, cpt5, cpt6, cpt7, cpt8, cpt9, cpt10, cpt11, cpt12, cpt13, cpt14, cpt15, cpt16, cpt17, cpt18, cpt19, cpt20, cpt24, cpt30, cpt36, cpt40, cpt48, cpt50, cpt58, cpt59, cpt60, wp_extend, wp_revL, exists_and_left, wp_ML, wp_ML0, isLs_ref, wp_append, wp_pop, wp_tupleR, wp_tupleT, wp_listR, wp_listT, wp_all, wp_any, wp_sum, wp_notB, wp_isB, wp_isN, wp_notN, Option.isSome_some, wp_rng1, wp_rng2, wp_rng3, lsAt, lsO_lst, lsO_fro, lstO_lst, wp_lenR, lenO_lst, lenO_fro, lenO_dK, List.length_map, List.getElem?_cons_zero, List.getElem?_cons_succ, wp_dnew, wp_dget, wp_din, wp_dnin, wp_dg1, wp_dput, wp_dpop, wp_MD, isDk_ref, dkO_dK, keyD_int, keyD_str, wp_lrg1, wp_trg1, wp_MS, isStrB_str, wp_sindex, wp_isiT, wp_strI, wp_eqS, wp_neS, wp_eqI, wp_neI, wp_eqB, wp_neB, wp_abs, wp_intI, wp_intB, wp_max2, wp_min2, wp_lenT, wp_for, wp_ok, wp_bad, lp_nx, lp_ct, lp_bk, lp_rt, lp_xc, asBl_bl, at0, at1, at2, List.map_cons, List.map_nil, List.cons_append, List.nil_append, List.length_cons, List.length_nil, List.replicate, List.set_cons_zero, List.set_cons_succ, Nat.reduceAdd, Int.reduceToNat, Int.reducePow, Int.reduceNeg, Int.reduceMul, Int.reduceAdd, Int.reduceSub, Int.reduceMod, Int.reduceDiv, Int.reduceLT, Int.reduceLE, Int.zero_mul, Int.zero_add, Int.cast_ofNat_Int, Int.reduceBEq, Nat.reduceLeDiff, Nat.reduceEqDiff, true_and, and_true, Nat.reduceSub, if_true, Option.some.injEq, exists_eq_left', Bool.not_true, Bool.not_false, decide_eq_true_eq, Bool.false_eq_true, if_false])
def law_branching_M : Nat → List D → M D
 | 0 => fun _ _ => .bad
 | n + 1 => mFn 4
   (mSeq (mIf (mTst (m2 eqM (mArgs lenM (mCons (mVar 1) mNil)) (mC (.int 0))))
   (mRet (mArgs tupM mNil))
   mNx)
   (mSeq (mAsg (m2 fdivM (mArgs lenM (mCons (mVar 1) mNil)) (mC (.int 2))) (gNm 3))
   (mSeq (mIf (mTst (m2 ltM (mVar 2) (mC (.int 3))))
   (mAsg (m2 ixM (mArgs tupM (mCons (mCall 2 law_take_M (mCons (mVar 0) (mCons (mArgs lenM (mCons (mVar 1) mNil)) mNil))) (mCons (mC (.int 0)) (mCons (m2 subM (mArgs lenM (mCons (mVar 1) mNil)) (mC (.int 1))) mNil)))) (mVar 2)) (gNm 3))
   mNx)
   (mRet (mArgs tupM (mCons (mCall 3 (law_branching_M n) (mCons (mVar 0) (mCons (mSlice (mVar 1) mNoPart (mPart (mVar 3))) (mCons (mVar 2) mNil)))) (mCons (m2 ixM (mVar 1) (mVar 3)) (mCons (mCall 3 (law_branching_M n) (mCons (mVar 0) (mCons (mSlice (mVar 1) (mPart (m2 addM (mVar 3) (mC (.int 1)))) mNoPart) (mCons (mVar 2) mNil)))) mNil))))))))
def law_tree2_M : List D → M D := mFn 2
 (mRet (mCall 3 (law_branching_M 80) (mCons (mVar 0) (mCons (mVar 1) (mCons (m2 ixM (mArgs tupM (mCons (mC (.int 0)) (mCons (mC (.int 0)) (mCons (mC (.int 0)) (mCons (mC (.int 0)) (mCons (mC (.int 1)) (mCons (mC (.int 2)) (mCons (mC (.int 3)) mNil)))))))) (mCall 2 law_take_M (mCons (mVar 0) (mCons (mC (.int 7)) mNil)))) mNil)))))
def law_links_M : List D → M D := mFn 5
 (mSeq (mAsg (mArgs lstM mNil) (gNm 1))
 (mSeq (mAsg (mArgs lstM (mCons (mVar 0) mNil)) (gNm 2))
 (mSeq (mWhile (mTst (m2 neM (mVar 2) (mArgs lstM mNil)))
 (mSeq (mAsg (mML0 popM (mVar 2)) (gNm 3))
 (mIf (mTst (m2 neM (mVar 3) (mArgs tupM mNil)))
 (mSeq (mDrop (mML extendM (mVar 1) (mCons (mLc (mSrc (mArgs tupM (mCons (m2 ixM (mVar 3) (mC (.int 0))) (mCons (m2 ixM (mVar 3) (mC (.int 2))) mNil)))) (gNm 4) (mTst (m2 neM (mVar 4) (mArgs tupM mNil))) (mArgs tupM (mCons (m2 ixM (m2 ixM (mVar 3) (mC (.int 1))) (mC (.int 0))) (mCons (m2 ixM (m2 ixM (mVar 4) (mC (.int 1))) (mC (.int 0))) mNil))) [4]) mNil)))
 (mDrop (mML extendM (mVar 2) (mCons (mArgs lstM (mCons (m2 ixM (mVar 3) (mC (.int 0))) (mCons (m2 ixM (mVar 3) (mC (.int 2))) mNil))) mNil))))
 mNx)))
 (mRet (mArgs sortedM (mCons (mVar 1) mNil))))))
def links_M : List D → M D := mFn 5
 (mSeq (mAsg (mArgs lstM mNil) (gNm 1))
 (mSeq (mAsg (mArgs lstM (mCons (mVar 0) mNil)) (gNm 2))
 (mSeq (mWhile (mTst (m2 neM (mVar 2) (mArgs lstM mNil)))
 (mSeq (mAsg (mML0 popM (mVar 2)) (gNm 3))
 (mIf (mTst (m2 neM (mVar 3) (mArgs tupM mNil)))
 (mFor (mSrc (mArgs tupM (mCons (m2 ixM (mVar 3) (mC (.int 0))) (mCons (m2 ixM (mVar 3) (mC (.int 2))) mNil)))) (gNm 4)
 (mIf (mTst (m2 neM (mVar 4) (mArgs tupM mNil)))
 (mSeq (mDrop (mML appendM (mVar 1) (mCons (mArgs tupM (mCons (m2 ixM (m2 ixM (mVar 3) (mC (.int 1))) (mC (.int 0))) (mCons (m2 ixM (m2 ixM (mVar 4) (mC (.int 1))) (mC (.int 0))) mNil))) mNil)))
 (mDrop (mML appendM (mVar 2) (mCons (mVar 4) mNil))))
 mNx))
 mNx)))
 (mRet (mArgs sortedM (mCons (mVar 1) mNil))))))
def law_turn_M : Nat → List D → M D
 | 0 => fun _ _ => .bad
 | n + 1 => mFn 6
   (mSeq (mIf (mOr (mTst (m2 eqM (mVar 0) (mArgs tupM mNil))) (mTst (m2 eqM (m2 ixM (m2 ixM (mVar 0) (mC (.int 1))) (mC (.int 0))) (mVar 1))))
   (mRet (mC .non))
   mNx)
   (mSeq (mAsg (mVar 0) (gTp 3 (gsCons (gNm 2) (gsCons (gNm 3) (gsCons (gNm 4) gsNil)))))
   (mSeq (mIf (mTst (m2 ltM (mVar 1) (m2 ixM (mVar 3) (mC (.int 0)))))
   (mSeq (mIf (mAnd (mTst (m2 neM (mVar 2) (mArgs tupM mNil))) (mTst (m2 eqM (m2 ixM (m2 ixM (mVar 2) (mC (.int 1))) (mC (.int 0))) (mVar 1))))
   (mRet (mArgs tupM (mCons (m2 ixM (mVar 2) (mC (.int 0))) (mCons (m2 ixM (mVar 2) (mC (.int 1))) (mCons (mArgs tupM (mCons (m2 ixM (mVar 2) (mC (.int 2))) (mCons (mVar 3) (mCons (mVar 4) mNil)))) mNil)))))
   mNx)
   (mSeq (mAsg (mCall 2 (law_turn_M n) (mCons (mVar 2) (mCons (mVar 1) mNil))) (gNm 5))
   (mRet (mIfE (mTst (m2 notM (mVar 5) (mC .non))) (mArgs tupM (mCons (mVar 5) (mCons (mVar 3) (mCons (mVar 4) mNil)))) (mC .non)))))
   mNx)
   (mSeq (mIf (mAnd (mTst (m2 neM (mVar 4) (mArgs tupM mNil))) (mTst (m2 eqM (m2 ixM (m2 ixM (mVar 4) (mC (.int 1))) (mC (.int 0))) (mVar 1))))
   (mRet (mArgs tupM (mCons (mArgs tupM (mCons (mVar 2) (mCons (mVar 3) (mCons (m2 ixM (mVar 4) (mC (.int 0))) mNil)))) (mCons (m2 ixM (mVar 4) (mC (.int 1))) (mCons (m2 ixM (mVar 4) (mC (.int 2))) mNil)))))
   mNx)
   (mSeq (mAsg (mCall 2 (law_turn_M n) (mCons (mVar 4) (mCons (mVar 1) mNil))) (gNm 5))
   (mRet (mIfE (mTst (m2 notM (mVar 5) (mC .non))) (mArgs tupM (mCons (mVar 2) (mCons (mVar 3) (mCons (mVar 5) mNil)))) (mC .non))))))))
def split_road_M : List D → M D := mFn 6
 (mSeq (mAsg (mArgs lstM mNil) (gNm 2))
 (mSeq (mWhile (mTst (m2 neM (mVar 0) (mArgs tupM mNil)))
 (mSeq (mAsg (mVar 0) (gTp 3 (gsCons (gNm 3) (gsCons (gNm 4) (gsCons (gNm 5) gsNil)))))
 (mIf (mTst (m2 ltM (m2 ixM (mVar 4) (mC (.int 0))) (mVar 1)))
 (mSeq (mDrop (mML appendM (mVar 2) (mCons (mArgs tupM (mCons (m2 ixM (mVar 4) (mC (.int 0))) (mCons (mC (.str "less")) mNil))) mNil)))
 (mAsg (mVar 5) (gNm 0)))
 (mSeq (mDrop (mML appendM (mVar 2) (mCons (mArgs tupM (mCons (m2 ixM (mVar 4) (mC (.int 0))) (mCons (mC (.str "rest")) mNil))) mNil)))
 (mAsg (mVar 3) (gNm 0))))))
 (mRet (mVar 2))))
def split_links_M : List D → M D := mFn 8
 (mSeq (mAsg (mCall 2 (split_M 80) (mCons (mVar 0) (mCons (mVar 1) mNil))) (gTp 2 (gsCons (gNm 2) (gsCons (gNm 3) gsNil))))
 (mSeq (mAsg (mCall 1 links_M (mCons (mVar 0) mNil)) (gNm 4))
 (mSeq (mAsg (mArgs sortedM (mCons (m2 addM (mCall 1 links_M (mCons (mVar 2) mNil)) (mCall 1 links_M (mCons (mVar 3) mNil))) mNil)) (gNm 5))
 (mSeq (mAsg (mLc (mSrc (mVar 4)) (gNm 7) (mTst (m2 (inXM true) (mVar 7) (mVar 5))) (mVar 7) [7]) (gNm 6))
 (mRet (mArgs tupM (mCons (mVar 6) (mCons (mLc (mSrc (mVar 5)) (gNm 7) (mTst (m2 (inXM true) (mVar 7) (mVar 4))) (mVar 7) [7]) mNil))))))))

abbrev Pr := Int × Int
def pd (p : Pr) : D := .tup [.int p.1, .int p.2]
def ppy (p : Pr) : PyData := .tuple [.int p.1, .int p.2]
theorem py_pd {S : Store} {n : Nat} (c : Pr) : pyOf S (n + 2) (pd c) = some (ppy c) := by simp [pyOf, pd, ppy, optAll]
theorem py_pds {S : Store} {n : Nat} : ∀ cs : List Pr, optAll (pyOf S (n + 2)) (cs.map pd) = some (cs.map ppy)
  | [] => rfl
  | c :: cs => by simp only [List.map_cons, optAll, py_pd, py_pds cs]
theorem pyD_prs {S : Store} {k : Nat} {cs : List Pr} (h : lsAt S k = some (cs.map pd)) : pyD S (.ref k) = some (.list (cs.map ppy)) := by
  unfold pyD pyOf
  simp only [h]
  rw [py_pds (n := 196)]
  rfl
theorem pd_get {cs : List Pr} {i : Nat} {x : D} (h : (cs.map pd)[i]? = some x) : ∃ c, cs[i]? = some c ∧ x = pd c := by
  rw [List.getElem?_map] at h
  cases q : cs[i]? with
  | none => rw [q] at h; cases h
  | some z => rw [q] at h; cases h; exact ⟨z, rfl, rfl⟩
theorem eqv_pr {a b : Pr} : PyData.eqv (ppy a) (ppy b) = decide (a = b) := by
  obtain ⟨a1, a2⟩ := a
  obtain ⟨b1, b2⟩ := b
  apply Bool.eq_iff_iff.mpr
  simp [ppy, PyData.eqv, PyData.eqvAll]
theorem wp_inP {S : Store} {k : Nat} {x : Pr} {ns : List Pr} {neg : Bool} {E : Exn → Store → Prop} {Q : D → Store → Prop} (h : lsAt S k = some (ns.map pd)) (q : Q (.bl (if neg then !decide (x ∈ ns) else decide (x ∈ ns))) S) : wp (inXM neg (pd x) (.ref k) S) Q E := by
  rw [wp_inX, pyD_prs h]
  refine ⟨ppy x, ns.map ppy, py_pd x, rfl, ?_⟩
  have : (ns.map ppy).any (fun z => PyData.eqv z (ppy x)) = decide (x ∈ ns) := by
    rw [List.any_map]
    apply Bool.eq_iff_iff.mpr
    rw [List.any_eq_true, decide_eq_true_eq]
    constructor
    · rintro ⟨y, hy, e⟩
      have e : decide (y = x) = true := by rw [← eqv_pr]; exact e
      rw [← of_decide_eq_true e]; exact hy
    · intro hx
      exact ⟨x, hx, by show PyData.eqv (ppy x) (ppy x) = true; rw [eqv_pr]; simp⟩
  rw [this]
  exact q
theorem eqv_prs : ∀ ps : List Pr, PyData.eqvAll (ps.map ppy) (ps.map ppy) = true
  | [] => by simp [PyData.eqvAll]
  | p :: ps => by simp [PyData.eqvAll, eqv_pr, eqv_prs ps]
def prLt (x y : Pr) : Bool := decide (x.1 < y.1) || (!decide (y.1 < x.1) && decide (x.2 < y.2))
theorem dataLt_prs (x y : Pr) : PySem.W.dataLt (ppy x) (ppy y) = prLt x y := by
  unfold PySem.W.dataLt ppy prLt
  simp [PySem.W.keyToks, PySem.W.keyToksAll, PyProof.Rows.lexLt, PyProof.Rows.itemLt]
theorem prLe_trans (a b c : Pr) (h : (!prLt b a) = true) (h2 : (!prLt c b) = true) : (!prLt c a) = true := by
  unfold prLt at *
  simp only [Bool.not_eq_true', Bool.or_eq_false_iff, decide_eq_false_iff_not, Bool.and_eq_false_iff, Bool.not_eq_false', decide_eq_true_eq] at *
  omega
theorem prLe_total (a b : Pr) : ((!prLt b a) || (!prLt a b)) = true := by
  unfold prLt
  simp only [Bool.or_eq_true, Bool.not_eq_true', Bool.or_eq_false_iff, decide_eq_false_iff_not, Bool.and_eq_false_iff, Bool.not_eq_false', decide_eq_true_eq] at *
  omega
theorem prLe_anti (a b : Pr) (h : (!prLt b a) = true) (h2 : (!prLt a b) = true) : a = b := by
  unfold prLt at *
  simp only [Bool.not_eq_true', Bool.or_eq_false_iff, decide_eq_false_iff_not, Bool.and_eq_false_iff, Bool.not_eq_false', decide_eq_true_eq] at *
  exact Prod.ext (by omega) (by omega)
theorem sortOk_prs (cs : List Pr) : sortOkB (cs.map ppy) = true := by
  unfold sortOkB sortableB
  simp [PySem.W.alike, PySem.W.alikeAll, ppy, PyData.depth, PyData.depthAll]
def sortP (cs : List Pr) : List Pr := cs.mergeSort fun x y => !prLt y x
theorem sortP_mem {cs : List Pr} {c : Pr} : c ∈ sortP cs ↔ c ∈ cs := List.mem_mergeSort
theorem sortP_perm {cs : List Pr} : (sortP cs).Perm cs := List.mergeSort_perm _ _
theorem sortP_len {cs : List Pr} : (sortP cs).length = cs.length := sortP_perm.length_eq
theorem sortP_eq {cs ds : List Pr} (h : cs.Perm ds) : sortP cs = sortP ds :=
  List.Perm.eq_of_pairwise (le := fun x y => (!prLt y x) = true) (fun a b _ _ h1 h2 => prLe_anti a b h1 h2) (List.pairwise_mergeSort prLe_trans prLe_total cs) (List.pairwise_mergeSort prLe_trans prLe_total ds) ((sortP_perm.trans h).trans sortP_perm.symm)
theorem sorted_prs {S : Store} {k : Nat} {cs : List Pr} {E : Exn → Store → Prop} {Q : D → Store → Prop} (h : lsAt S k = some (cs.map pd)) (q : Q (.ref S.length) (S ++ [.lst ((sortP cs).map pd)])) : wp (sortedM [.ref k] S) Q E :=
  wp_sorted (g := ppy) h (fun x _ => py_pd x) (sortOk_prs cs) (fun x _ y _ => by rw [dataLt_prs]) q
theorem shw_pr {c : Pr} (h : NumB c.1 ∧ NumB c.2) : Shw (ppy c) 408 1 := (shw_tup2 (shw_int h.1) (shw_int h.2)).mono (by omega) (by omega)
theorem shw_prs {cs : List Pr} (h : ∀ c ∈ cs, NumB c.1 ∧ NumB c.2) : Shw (.list (cs.map ppy)) (409 * cs.length) 2 := by
  have := shw_list (ps := cs.map ppy) (w := 408) (d := 1) fun p hp => by obtain ⟨c, hc, rfl⟩ := List.mem_map.mp hp; exact shw_pr (h c hc)
  rw [List.length_map] at this
  exact this

def tops : Tr → List Int
  | .e => []
  | .n _ c _ => [c.1]
def lk : Tr → List Pr
  | .e => []
  | .n l c r => (tops l ++ tops r).map (fun k => (c.1, k)) ++ (lk l ++ lk r)
theorem tops_mem {t : Tr} {k : Int} (h : k ∈ tops t) : ∃ c ∈ t.cards, c.1 = k := by
  cases t with
  | e => cases h
  | n l c r => simp [tops] at h; exact ⟨c, by simp [Tr.cards], h.symm⟩
theorem lk_mem : ∀ {t : Tr} {p : Pr}, p ∈ lk t → (∃ c ∈ t.cards, c.1 = p.1) ∧ ∃ c ∈ t.cards, c.1 = p.2
  | .e, p, h => by cases h
  | .n l c r, p, h => by
    unfold lk at h
    rcases List.mem_append.mp h with h | h
    · obtain ⟨k, hk, rfl⟩ := List.mem_map.mp h
      refine ⟨⟨c, by simp [Tr.cards], rfl⟩, ?_⟩
      rcases List.mem_append.mp hk with hk | hk
      · obtain ⟨x, hx, e⟩ := tops_mem hk; exact ⟨x, by simp [Tr.cards, hx], e⟩
      · obtain ⟨x, hx, e⟩ := tops_mem hk; exact ⟨x, by simp [Tr.cards, hx], e⟩
    · rcases List.mem_append.mp h with h | h
      · obtain ⟨⟨x, hx, e⟩, y, hy, e2⟩ := lk_mem h; exact ⟨⟨x, by simp [Tr.cards, hx], e⟩, y, by simp [Tr.cards, hy], e2⟩
      · obtain ⟨⟨x, hx, e⟩, y, hy, e2⟩ := lk_mem h; exact ⟨⟨x, by simp [Tr.cards, hx], e⟩, y, by simp [Tr.cards, hy], e2⟩
theorem lk_len : ∀ t : Tr, (lk t).length + (tops t).length = t.cards.length
  | .e => rfl
  | .n l c r => by
    have h1 := lk_len l
    have h2 := lk_len r
    have e : tops (.n l c r) = [c.1] := rfl
    rw [e, lk, Tr.cards]
    simp only [List.length_append, List.length_map, List.length_cons, List.length_nil]
    omega

def busy (ts : List Tr) : Nat := (ts.map fun t => 2 * t.cards.length + 1).sum
theorem py_trs {S : Store} : ∀ {ts : List Tr}, (∀ t ∈ ts, t.ht ≤ 150) → optAll (pyOf S 198) (ts.map Tr.d) = some (ts.map Tr.py)
  | [], _ => rfl
  | t :: ts, h => by
    simp only [List.map_cons, optAll, py_tr (S := S) t 198 (by have := h t List.mem_cons_self; omega), py_trs fun x hx => h x (List.mem_cons_of_mem _ hx)]
theorem ne_nilT {S : Store} {E : Exn → Store → Prop} {Q : D → Store → Prop} {k m : Nat} {ts : List Tr} (h : lsAt S k = some (ts.map Tr.d)) (hh : ∀ t ∈ ts, t.ht ≤ 150) (h2 : lsAt S m = some []) (q : Q (.bl (!ts.isEmpty)) S) : wp (neM (.ref k) (.ref m) S) Q E := by
  have e : pyD S (.ref k) = some (.list (ts.map Tr.py)) := by
    unfold pyD pyOf
    simp only [h]
    rw [py_trs hh]
    rfl
  rw [wp_ne, e, py_nil h2]
  refine ⟨_, _, rfl, rfl, ?_⟩
  cases ts with
  | nil => simpa [PyData.eqv, PyData.eqvAll] using q
  | cons c cs => simpa [PyData.eqv, PyData.eqvAll] using q
theorem last_d {ts : List Tr} {t : Tr} : ((ts ++ [t]).map Tr.d)[((ts ++ [t]).map Tr.d).length - 1]? = some t.d := by simp
theorem dl_d {ts : List Tr} {t : Tr} : ((ts ++ [t]).map Tr.d).dropLast = ts.map Tr.d := by simp
def skipE : List Tr → List Tr := fun ts => ts.filter fun t => !t.isE
theorem lk_skip (ts : List Tr) : (skipE ts).flatMap lk = ts.flatMap lk := by
  unfold skipE
  induction ts with
  | nil => rfl
  | cons t ts ih =>
    cases t with
    | e => rw [List.filter_cons_of_neg (by decide), List.flatMap_cons, ih]; rfl
    | n l c r => rw [List.filter_cons_of_pos (by rfl), List.flatMap_cons, List.flatMap_cons, ih]
theorem busy_app {ts us : List Tr} : busy (ts ++ us) = busy ts + busy us := by unfold busy; rw [List.map_append, List.sum_append]
theorem busy_node {l r : Tr} {c : Card} : busy [.n l c r] = busy [l, r] + 1 := by simp [busy, Tr.cards]; omega
theorem busy_skip (ts : List Tr) : busy (skipE ts) ≤ busy ts := by
  unfold skipE
  induction ts with
  | nil => exact Nat.le_refl _
  | cons t ts ih =>
    have e : ∀ us, busy (t :: us) = busy [t] + busy us := fun us => busy_app (ts := [t])
    rw [e ts, List.filter_cons]
    split
    · rw [e]; omega
    · omega

structure Gath (t : Tr) (fs : List Pr) (ts : List Tr) : Prop where
  pm : (fs ++ ts.flatMap lk).Perm (lk t)
  ht : ∀ u ∈ ts, u.ht ≤ 150
  bs : busy ts ≤ 2 * t.cards.length + 1
theorem Gath.flen {t : Tr} {fs : List Pr} {ts : List Tr} (h : Gath t fs ts) : fs.length ≤ t.cards.length := by
  have h1 := h.pm.length_eq
  have h2 := lk_len t
  rw [List.length_append] at h1
  omega
theorem busy_len : ∀ ts : List Tr, ts.length ≤ busy ts
  | [] => Nat.le_refl _
  | t :: ts => by
    have := busy_len ts
    have e : busy (t :: ts) = 2 * t.cards.length + 1 + busy ts := by simp [busy]
    rw [e, List.length_cons]; omega
theorem Gath.node {t l r : Tr} {c : Card} {fs : List Pr} {ts : List Tr} (h : Gath t fs (ts ++ [.n l c r])) : Gath t (fs ++ (tops l ++ tops r).map fun k => (c.1, k)) (ts ++ [l, r]) := by
  refine ⟨?_, ?_, ?_⟩
  · refine List.Perm.trans ?_ h.pm
    rw [List.flatMap_append, List.flatMap_append, List.append_assoc]
    refine List.Perm.append_left _ ?_
    have e1 : [l, r].flatMap lk = lk l ++ lk r := by simp
    have e2 : [Tr.n l c r].flatMap lk = (tops l ++ tops r).map (fun k => (c.1, k)) ++ (lk l ++ lk r) := by simp [lk]
    rw [e1, e2]
    exact List.perm_append_comm_assoc _ _ _
  · intro u hu
    have hn := h.ht (.n l c r) (by simp)
    simp only [Tr.ht] at hn
    rcases List.mem_append.mp hu with hu | hu
    · exact h.ht u (by simp [hu])
    · simp at hu
      rcases hu with rfl | rfl <;> omega
  · have := h.bs
    rw [busy_app, busy_node] at this
    rw [busy_app]
    omega
theorem Gath.drop {t : Tr} {fs : List Pr} {ts : List Tr} (h : Gath t fs (ts ++ [.e])) : Gath t fs ts := by
  refine ⟨?_, fun u hu => h.ht u (by simp [hu]), ?_⟩
  · have := h.pm
    rw [List.flatMap_append] at this
    simpa [lk] using this
  · have := h.bs
    rw [busy_app] at this
    omega
theorem Gath.skip {t : Tr} {fs : List Pr} {ts us : List Tr} (h : Gath t fs (ts ++ us)) : Gath t fs (ts ++ skipE us) := by
  refine ⟨?_, fun u hu => h.ht u ?_, ?_⟩
  · have := h.pm
    rw [List.flatMap_append] at this ⊢
    rw [lk_skip]; exact this
  · rcases List.mem_append.mp hu with hu | hu
    · simp [hu]
    · simp [(List.mem_filter.mp hu).1]
  · have := h.bs
    have := busy_skip us
    rw [busy_app] at *
    omega
def linkD (k : Int) : D → Option D
  | .tup [_, .tup (.int j :: _), _] => some (pd (k, j))
  | _ => none
theorem linkD_tr {k : Int} {t : Tr} : linkD k t.d = (match t with | .e => none | .n _ c _ => some (pd (k, c.1))) := by cases t <;> rfl
theorem linkD_ok {k : Int} {l r : Tr} : [l.d, r.d].filterMap (linkD k) = ((tops l ++ tops r).map fun j => (k, j)).map pd := by
  cases l <;> cases r <;> rfl
theorem law_links_ok {S : Store} {t : Tr} {E : Exn → Store → Prop} {Q : D → Store → Prop} (ht : t.ht ≤ 150) (hl : t.cards.length ≤ 1000)
    (q : ∀ (k : Nat) (G : Store), (S ++ G)[k]? = some (.lst ((sortP (lk t)).map pd)) → S.length ≤ k → Q (.ref k) (S ++ G)) : wp (law_links_M [t.d] S) Q E := by
  unfold law_links_M
  walk_at "ck1"
  simp only [aft_nx]
  walk_at "ck1"
  simp only [aft_nx, wp_seq]
  have e0 : S ++ [O.lst []] ++ [O.lst [t.d]] = S ++ O.lst (([] : List Pr).map pd) :: O.lst ([t].map Tr.d) :: [] := by simp
  have e1 : (S ++ [O.lst []]).length = S.length + 1 := by simp
  rw [e0, e1]
  refine wp_while (fun m r T => ∃ (fs : List Pr) (ts : List Tr) (G : Store) (z3 : Option D), T = S ++ O.lst (fs.map pd) :: O.lst (ts.map Tr.d) :: G ∧ r = [some t.d, some (.ref S.length), some (.ref (S.length + 1)), z3, none] ∧ Gath t fs ts ∧ m = busy ts) (m := busy [t]) (by unfold FU; simp [busy]; omega) ⟨[], [t], [], none, rfl, rfl, ⟨by simp, by simpa using ht, by simp [busy]⟩, rfl⟩ (fun m r T hI => ?_)
  obtain ⟨fs, ts, G, z3, rfl, rfl, hg, rfl⟩ := hI
  have gf : ∀ G (fs : List Pr) (ts : List Tr), (S ++ O.lst (fs.map pd) :: O.lst (ts.map Tr.d) :: G)[S.length]? = some (.lst (fs.map pd)) := fun G fs ts => by simp
  have gw : ∀ G (fs : List Pr) (ts : List Tr), (S ++ O.lst (fs.map pd) :: O.lst (ts.map Tr.d) :: G)[S.length + 1]? = some (.lst (ts.map Tr.d)) := fun G fs ts => by
    rw [List.getElem?_append_right (by omega)]; simp
  have sf : ∀ G (fs fs' : List Pr) (ts : List Tr), (S ++ O.lst (fs.map pd) :: O.lst (ts.map Tr.d) :: G).set S.length (.lst (fs'.map pd)) = S ++ O.lst (fs'.map pd) :: O.lst (ts.map Tr.d) :: G := fun G fs fs' ts => by simp
  have sw : ∀ G (fs : List Pr) (ts ts' : List Tr), (S ++ O.lst (fs.map pd) :: O.lst (ts.map Tr.d) :: G).set (S.length + 1) (.lst (ts'.map Tr.d)) = S ++ O.lst (fs.map pd) :: O.lst (ts'.map Tr.d) :: G := fun G fs ts ts' => by
    rw [List.set_append_right _ _ (by omega)]; simp
  have ea : ∀ G (fs : List Pr) (ts : List Tr) (o : O), (S ++ O.lst (fs.map pd) :: O.lst (ts.map Tr.d) :: G) ++ [o] = S ++ O.lst (fs.map pd) :: O.lst (ts.map Tr.d) :: (G ++ [o]) := fun G fs ts o => by simp
  walk_at "ck1"
  refine ne_nilT (ls_app (ls_of (gw G fs ts))) hg.ht ls_new ?_
  rw [ea]
  walk_at "ck1"
  rcases ts.eq_nil_or_concat with rfl | ⟨ts', u, rfl⟩
  · simp only [List.isEmpty_nil, Bool.not_true, Bool.false_eq_true, if_false, aft_nx]
    walk_at "ck1"
    refine sorted_prs (ls_of (gf _ fs [])) ?_
    have hp : fs.Perm (lk t) := by simpa using hg.pm
    rw [sortP_eq hp, List.append_assoc]
    exact q _ _ (by rw [← List.append_assoc]; exact get_new) (by simp)
  · rw [List.concat_eq_append] at *
    have hne : (!(ts' ++ [u]).isEmpty) = true := by simp
    rw [hne]
    simp only [if_true]
    refine ⟨by rw [gw]; rfl, _, by rw [gw]; rfl, _, last_d, ?_⟩
    rw [dl_d, sw]
    simp only [aft_nx]
    walk_at "ck1"
    rw [wp_neE (hg.ht u (by simp))]
    walk_at "ck1"
    cases u with
    | e =>
      simp only [Tr.isE, Bool.not_true, Bool.false_eq_true, if_false]
      have hb : busy (ts' ++ [Tr.e]) = busy ts' + 1 := by rw [busy_app]; simp [busy, Tr.cards]
      exact ⟨busy ts', by omega, fs, ts', _, rfl, _, rfl, hg.drop, rfl⟩
    | n l c r =>
      have hh := hg.ht (.n l c r) (by simp)
      simp only [Tr.ht] at hh
      simp only [Tr.isE, Bool.not_false, if_true]
      simp only [Tr.d]
      walk_at "ck1"
      refine ⟨by rw [gf]; rfl, ?_⟩
      refine lcGo_tup (xs := [l.d, r.d]) (f := linkD c.1) rfl (by simp) (fun i x acc hx => ?_) ?_
      · have hu : ∃ u : Tr, x = u.d ∧ u.ht ≤ 150 := by
          match i, hx with
          | 0, hx => cases hx; exact ⟨l, rfl, by omega⟩
          | 1, hx => cases hx; exact ⟨r, rfl, by omega⟩
        obtain ⟨u, rfl, hu⟩ := hu
        unfold lcT
        walk_at "ck1"
        rw [wp_neE hu]
        walk_at "ck1"
        cases u with
        | e => simp [Tr.isE, Tr.d, linkD]
        | n a b d =>
          simp only [Tr.isE, Bool.not_false, if_true, Tr.d, cd]
          walk_at "ck1"
          rfl
      · rw [linkD_ok, ea]
        have l1 := hg.node.flen
        rw [List.length_append] at l1
        have l2 := busy_len (ts' ++ [l, r])
        have l3 := hg.node.bs
        rw [List.length_append] at l2
        walk_at "ck1"
        refine ⟨_, by rw [← ea, get_new]; rfl, _, by rw [gf]; rfl, by rw [List.length_map, List.length_map, sizeLine_eq]; omega, ?_⟩
        rw [← List.map_append, sf]
        simp only [aft_nx]
        walk_at "ck1"
        refine ⟨by rw [gw]; rfl, _, by rw [get_new]; rfl, _, by rw [ea, gw]; rfl, by rw [List.length_map, sizeLine_eq]; simp only [List.length_cons, List.length_nil] at l2 ⊢; omega, ?_⟩
        have e3 : ts'.map Tr.d ++ [l.d, r.d] = (ts' ++ [l, r]).map Tr.d := by simp
        rw [e3, ea, sw]
        have hb : busy (ts' ++ [Tr.n l c r]) = busy (ts' ++ [l, r]) + 1 := by rw [busy_app, busy_app, busy_node]; omega
        exact ⟨busy (ts' ++ [l, r]), by omega, _, _, _, rfl, _, rfl, hg.node, rfl⟩
theorem links_ok {S : Store} {t : Tr} {E : Exn → Store → Prop} {Q : D → Store → Prop} (ht : t.ht ≤ 150) (hl : t.cards.length ≤ 1000)
    (q : ∀ (k : Nat) (G : Store), (S ++ G)[k]? = some (.lst ((sortP (lk t)).map pd)) → S.length ≤ k → Q (.ref k) (S ++ G)) : wp (links_M [t.d] S) Q E := by
  unfold links_M
  walk_at "ck1"
  simp only [aft_nx]
  walk_at "ck1"
  simp only [aft_nx, wp_seq]
  have e0 : S ++ [O.lst []] ++ [O.lst [t.d]] = S ++ O.lst (([] : List Pr).map pd) :: O.lst ([t].map Tr.d) :: [] := by simp
  have e1 : (S ++ [O.lst []]).length = S.length + 1 := by simp
  rw [e0, e1]
  refine wp_while (fun m r T => ∃ (fs : List Pr) (ts : List Tr) (G : Store) (z3 z4 : Option D), T = S ++ O.lst (fs.map pd) :: O.lst (ts.map Tr.d) :: G ∧ r = [some t.d, some (.ref S.length), some (.ref (S.length + 1)), z3, z4] ∧ Gath t fs ts ∧ m = busy ts) (m := busy [t]) (by unfold FU; simp [busy]; omega) ⟨[], [t], [], none, none, rfl, rfl, ⟨by simp, by simpa using ht, by simp [busy]⟩, rfl⟩ (fun m r T hI => ?_)
  obtain ⟨fs, ts, G, z3, z4, rfl, rfl, hg, rfl⟩ := hI
  have gf : ∀ G (fs : List Pr) (ts : List Tr), (S ++ O.lst (fs.map pd) :: O.lst (ts.map Tr.d) :: G)[S.length]? = some (.lst (fs.map pd)) := fun G fs ts => by simp
  have gw : ∀ G (fs : List Pr) (ts : List Tr), (S ++ O.lst (fs.map pd) :: O.lst (ts.map Tr.d) :: G)[S.length + 1]? = some (.lst (ts.map Tr.d)) := fun G fs ts => by
    rw [List.getElem?_append_right (by omega)]; simp
  have sf : ∀ G (fs fs' : List Pr) (ts : List Tr), (S ++ O.lst (fs.map pd) :: O.lst (ts.map Tr.d) :: G).set S.length (.lst (fs'.map pd)) = S ++ O.lst (fs'.map pd) :: O.lst (ts.map Tr.d) :: G := fun G fs fs' ts => by simp
  have sw : ∀ G (fs : List Pr) (ts ts' : List Tr), (S ++ O.lst (fs.map pd) :: O.lst (ts.map Tr.d) :: G).set (S.length + 1) (.lst (ts'.map Tr.d)) = S ++ O.lst (fs.map pd) :: O.lst (ts'.map Tr.d) :: G := fun G fs ts ts' => by
    rw [List.set_append_right _ _ (by omega)]; simp
  have ea : ∀ G (fs : List Pr) (ts : List Tr) (o : O), (S ++ O.lst (fs.map pd) :: O.lst (ts.map Tr.d) :: G) ++ [o] = S ++ O.lst (fs.map pd) :: O.lst (ts.map Tr.d) :: (G ++ [o]) := fun G fs ts o => by simp
  walk_at "ck1"
  refine ne_nilT (ls_app (ls_of (gw G fs ts))) hg.ht ls_new ?_
  rw [ea]
  walk_at "ck1"
  rcases ts.eq_nil_or_concat with rfl | ⟨ts', u, rfl⟩
  · simp only [List.isEmpty_nil, Bool.not_true, Bool.false_eq_true, if_false, aft_nx]
    walk_at "ck1"
    refine sorted_prs (ls_of (gf _ fs [])) ?_
    have hp : fs.Perm (lk t) := by simpa using hg.pm
    rw [sortP_eq hp, List.append_assoc]
    exact q _ _ (by rw [← List.append_assoc]; exact get_new) (by simp)
  · rw [List.concat_eq_append] at *
    have hne : (!(ts' ++ [u]).isEmpty) = true := by simp
    rw [hne]
    simp only [if_true]
    refine ⟨by rw [gw]; rfl, _, by rw [gw]; rfl, _, last_d, ?_⟩
    rw [dl_d, sw]
    simp only [aft_nx]
    walk_at "ck1"
    rw [wp_neE (hg.ht u (by simp))]
    walk_at "ck1"
    cases u with
    | e =>
      simp only [Tr.isE, Bool.not_true, Bool.false_eq_true, if_false]
      have hb : busy (ts' ++ [Tr.e]) = busy ts' + 1 := by rw [busy_app]; simp [busy, Tr.cards]
      exact ⟨busy ts', by omega, fs, ts', _, rfl, _, _, rfl, hg.drop, rfl⟩
    | n l c r =>
      have hh := hg.ht (.n l c r) (by simp)
      simp only [Tr.ht] at hh
      simp only [Tr.isE, Bool.not_false, if_true]
      simp only [Tr.d]
      walk_at "ck1"
      have l1 := hg.node.flen
      rw [List.length_append, List.length_map, List.length_append] at l1
      have l2 := busy_len (ts' ++ [l, r])
      have l3 := hg.node.bs
      rw [List.length_append] at l2
      simp only [List.length_cons, List.length_nil] at l2
      refine wp_foT (xs := [l.d, r.d]) (by unfold FU; simp) (fun i r1 T => T = S ++ O.lst ((fs ++ (([l, r].take i).flatMap tops).map fun k => (c.1, k)).map pd) :: O.lst ((ts' ++ skipE ([l, r].take i)).map Tr.d) :: (G ++ [.lst []]) ∧ ∃ z4, r1 = [some t.d, some (.ref S.length), some (.ref (S.length + 1)), some (.tup [l.d, cd c, r.d]), z4])
        ⟨by simp [skipE], z4, rfl⟩ (fun i x r1 T hx hI => ?_) (fun r1 T hI => ?_)
      · obtain ⟨rfl, z4, rfl⟩ := hI
        have hu : ∃ u : Tr, x = u.d ∧ u.ht ≤ 150 ∧ [l, r][i]? = some u ∧ i < 2 := by
          match i, hx with
          | 0, hx => cases hx; exact ⟨l, rfl, by omega, rfl, by omega⟩
          | 1, hx => cases hx; exact ⟨r, rfl, by omega, rfl, by omega⟩
        obtain ⟨u, rfl, hu, hiu, hi2⟩ := hu
        have hfs : (([l, r].take i).flatMap tops).length ≤ (tops l).length + (tops r).length := by
          have : i = 0 ∨ i = 1 := by omega
          rcases this with rfl | rfl <;> simp
        have hts : (skipE ([l, r].take i)).length ≤ 2 := Nat.le_trans (List.length_filter_le _ _) (by rw [List.length_take]; simp; omega)
        walk_at "ck1"
        rw [wp_neE hu, take_succ hiu]
        walk_at "ck1"
        cases u with
        | e =>
          simp only [Tr.isE, Bool.not_true, Bool.false_eq_true, if_false]
          refine ⟨?_, _, rfl⟩
          simp [skipE, tops, Tr.isE]
        | n a b d =>
          simp only [Tr.isE, Bool.not_false, if_true, Tr.d, cd]
          walk_at "ck1"
          refine ⟨by rw [gf]; rfl, _, by rw [gf]; rfl, by rw [List.length_map, List.length_append, List.length_map, sizeLine_eq]; omega, ?_⟩
          simp only [aft_nx]
          walk_at "ck1"
          have e2 : (fs ++ (([l, r].take i).flatMap tops).map fun k => (c.1, k)).map pd ++ [D.tup [.int c.1, .int b.1]] = (fs ++ (([l, r].take i ++ [Tr.n a b d]).flatMap tops).map fun k => (c.1, k)).map pd := by
            have : [Tr.n a b d].flatMap tops = [b.1] := rfl
            rw [List.flatMap_append, this]
            simp [pd]
          rw [e2, sf]
          refine ⟨by rw [gw]; rfl, _, by rw [gw]; rfl, by rw [List.length_map, List.length_append, sizeLine_eq]; omega, ?_, _, rfl⟩
          have e3 : (ts' ++ skipE ([l, r].take i)).map Tr.d ++ [D.tup [a.d, .tup [.int b.1, .int b.2.1, .int b.2.2], d.d]] = (ts' ++ skipE ([l, r].take i ++ [Tr.n a b d])).map Tr.d := by
            have : skipE [Tr.n a b d] = [Tr.n a b d] := rfl
            unfold skipE at *
            rw [List.filter_append, this]
            simp [Tr.d, cd]
          rw [e3, sw]
      · obtain ⟨rfl, z4, rfl⟩ := hI
        have hb : busy (ts' ++ [Tr.n l c r]) = busy (ts' ++ [l, r]) + 1 := by rw [busy_app, busy_app, busy_node]; omega
        have hb2 : busy (ts' ++ skipE [l, r]) ≤ busy (ts' ++ [l, r]) := by rw [busy_app, busy_app]; have := busy_skip [l, r]; omega
        have hgn := hg.node.skip
        refine ⟨busy (ts' ++ skipE [l, r]), by omega, _, _, _, rfl, _, _, rfl, ?_, rfl⟩
        simpa using hgn

theorem branching_ok {w : Nat} {E : Exn → Store → Prop} {y : Int} (y0 : 0 ≤ y) (y1 : y ≤ 3) : ∀ (n : Nat) (cs : List Card) (k : Nat) (S : Store) (Q : D → Store → Prop), PotAt S w → k ≠ w → lsAt S k = some (cs.map cd) → cs.length < n → cs.length ≤ 1000 →
    (∀ (t : Tr) (S' : Store), t.cards = cs → Kp w S S' → Q t.d S') → wp (law_branching_M n [.ref w, .ref k, .int y] S) Q E
  | 0, cs, k, S, Q, _, _, _, h, _, _ => by omega
  | n + 1, cs, k, S, Q, hw, hk, hc, hn, hl, q => by
    unfold law_branching_M
    walk_at "ck1"
    refine ⟨_, len_ls hc, ?_⟩
    walk_at "ck1"
    cases cs with
    | nil => walk_at "ck1"; exact q .e _ rfl (Kp.refl hw)
    | cons c0 cs0 =>
      generalize hcs : c0 :: cs0 = cs at *
      have hpos : 0 < cs.length := by rw [← hcs]; simp
      refine stepB (fun h => ?_) fun _ => ?_
      · have h := beq_iff_eq.mp h
        first | rw [List.length_map] at h | skip
        omega
      simp only [aft_nx]
      walk_at "ck1"
      refine ⟨_, len_ls hc, cdiv_s (by omega) (by omega), ?_⟩
      rw [List.length_map]
      simp only [aft_nx, wp_seq]
      refine wp_mono (Q := fun f T => ∃ j : Nat, f = .nx [some (.ref w), some (.ref k), some (.int y), some (.int j)] ∧ j < cs.length ∧ Kp w S T) ?_ ?_
      · walk_at "ck1"
        by_cases c : y < 3
        · rw [if_pos c]
          refine ⟨_, len_ls hc, ?_⟩
          rw [List.length_map]
          refine take_ok hw (by omega) (by omega) fun x S1 x0 x1 k1 l1 => ?_
          walk_at "ck1"
          refine ⟨_, len_ls (k1.ls hk hc), ?_⟩
          rw [List.length_map]
          obtain ⟨j, hj, j0, j1⟩ := at_int (ns := [x, 0, (cs.length : Int) - 1]) (i := y) (fun j => 0 ≤ j ∧ j < cs.length) (by simp; omega) y0 (by simpa using c)
          refine ⟨_, hj, j.toNat, ?_, by omega, k1⟩
          rw [show ((j.toNat : Nat) : Int) = j by omega]
        · rw [if_neg c]
          refine ⟨((cs.length : Int) / 2).toNat, ?_, by omega, .refl hw⟩
          rw [show ((((cs.length : Int) / 2).toNat : Nat) : Int) = (cs.length : Int) / 2 by omega]
      · rintro f S1 ⟨j, rfl, hj, kS⟩
        have hc1 := kS.ls hk hc
        simp only [aft_nx]
        walk_at "ck1"
        refine ⟨_, hc1, ?_⟩
        rw [cut_cards]
        have hlt := kS.ln
        have hwl := hw.lt
        refine branching_ok y0 y1 n (cs.take j) _ _ _ kS.app.pt (by omega) ls_new (by rw [List.length_take]; omega) (by rw [List.length_take]; omega) fun t1 S2 ht1 k2 => ?_
        have kS2 : Kp w S S2 := kS.app.trans k2
        walk_at "ck1"
        refine ⟨_, kS2.ls hk hc, cd cs[j], at_of' rfl (by rw [List.getElem?_map, List.getElem?_eq_getElem hj]; rfl), _, kS2.ls hk hc, ?_⟩
        rw [cut_cards2]
        have hlt2 := kS2.ln
        refine branching_ok y0 y1 n (cs.drop (j + 1)) _ _ _ kS2.app.pt (by omega) ls_new (by rw [List.length_drop]; omega) (by rw [List.length_drop]; omega) fun t2 S3 ht2 k3 => ?_
        walk_at "ck1"
        refine q (.n t1 cs[j] t2) S3 ?_ (kS2.app.trans k3)
        rw [Tr.cards, ht1, ht2, List.getElem_cons_drop, List.take_append_drop]
theorem tree2_ok {w : Nat} {E : Exn → Store → Prop} {cs : List Card} {k : Nat} {S : Store} {Q : D → Store → Prop} (hw : PotAt S w) (hk : k ≠ w) (hc : lsAt S k = some (cs.map cd)) (hl : cs.length < 80)
    (q : ∀ (t : Tr) (S' : Store), t.cards = cs → Kp w S S' → Q t.d S') : wp (law_tree2_M [.ref w, .ref k] S) Q E := by
  unfold law_tree2_M
  walk_at "ck1"
  refine take_ok hw (by omega) (by omega) fun x S1 x0 x1 k1 l1 => ?_
  walk_at "ck1"
  obtain ⟨y, hy, y0, y1⟩ := at_int (ns := [0, 0, 0, 0, 1, 2, 3]) (i := x) (fun j => 0 ≤ j ∧ j ≤ 3) (by simp) x0 x1
  refine ⟨_, hy, ?_⟩
  exact branching_ok y0 y1 80 cs k S1 _ k1.pt hk (k1.ls hk hc) hl (by omega) fun t S' ht k2 => q t S' ht (k1.trans k2)
inductive Turn : Tr → Tr → Prop where
  | up {a b r : Tr} {x c : Card} : Turn (.n (.n a x b) c r) (.n a x (.n b c r))
  | dn {l a b : Tr} {x c : Card} : Turn (.n l c (.n a x b)) (.n (.n l c a) x b)
  | inl {l l' r : Tr} {c : Card} (h : Turn l l') : Turn (.n l c r) (.n l' c r)
  | inr {l r r' : Tr} {c : Card} (h : Turn r r') : Turn (.n l c r) (.n l c r')
theorem Turn.cards {t u : Tr} (h : Turn t u) : u.cards = t.cards := by
  induction h with
  | up => simp [Tr.cards]
  | dn => simp [Tr.cards]
  | inl h ih => simp [Tr.cards, ih]
  | inr h ih => simp [Tr.cards, ih]
theorem turn_ok {E : Exn → Store → Prop} {S : Store} : ∀ (n : Nat) (t : Tr) (key : Int) (Q : D → Store → Prop), t.ht < n → t.ht ≤ 150 → Srt t.cards → key ∈ t.cards.map (·.1) → tops t ≠ [key] →
    (∀ t', Turn t t' → Q t'.d S) → wp (law_turn_M n [t.d, .int key] S) Q E
  | 0, t, key, Q, h, _, _, _, _, _ => by omega
  | n + 1, .e, key, Q, h, h2, hs, hm, hne, q => by simp [Tr.cards] at hm
  | n + 1, .n l c r, key, Q, h, h2, hs, hm, hne, q => by
    have hck : c.1 ≠ key := fun e => hne (by rw [← e]; rfl)
    obtain ⟨sl, sr, kl, kr⟩ := hs.node
    simp only [Tr.ht] at h h2
    unfold law_turn_M
    walk_at "ck1"
    rw [wp_eqE (t := .n l c r) (by simp only [Tr.ht]; omega)]
    walk_at "ck1"
    simp only [Tr.isE, Bool.false_eq_true, if_false, Tr.d, cd]
    walk_at "ck1"
    have e1 : (c.1 == key) = false := beq_eq_false_iff_ne.mpr hck
    simp only [e1, Bool.false_eq_true, if_false, aft_nx]
    walk_at "ck1"
    simp only [aft_nx]
    walk_at "ck1"
    obtain ⟨x, hx, hxk⟩ := List.mem_map.mp hm
    simp only [Tr.cards, List.mem_append, List.mem_cons] at hx
    by_cases ck : key < c.1
    · rw [if_pos ck]
      have hxl : x ∈ l.cards := by
        rcases hx with hx | rfl | hx
        · exact hx
        · omega
        · have := kr x hx; omega
      rw [wp_neE (by omega)]
      walk_at "ck1"
      cases l with
      | e => simp [Tr.cards] at hxl
      | n a b d =>
        simp only [Tr.isE, Bool.not_false, if_true, Tr.d, cd]
        walk_at "ck1"
        by_cases hb : b.1 = key
        · have e2 : (b.1 == key) = true := beq_iff_eq.mpr hb
          simp only [e2, if_true]
          walk_at "ck1"
          exact q (.n a b (.n d c r)) .up
        · have e2 : (b.1 == key) = false := beq_eq_false_iff_ne.mpr hb
          simp only [e2, Bool.false_eq_true, if_false, aft_nx]
          walk_at "ck1"
          refine turn_ok n (.n a b d) key _ (by omega) (by omega) sl (List.mem_map.mpr ⟨x, hxl, hxk⟩) (fun e => hb (by simpa [tops] using e)) fun t' ht' => ?_
          simp only [aft_nx]
          walk_at "ck1"
          cases t' <;> exact q (.n _ c r) (.inl ht')
    · rw [if_neg ck]
      have hxl : x ∈ r.cards := by
        rcases hx with hx | rfl | hx
        · have := kl x hx; omega
        · omega
        · exact hx
      simp only [aft_nx]
      walk_at "ck1"
      rw [wp_neE (by omega)]
      walk_at "ck1"
      cases r with
      | e => simp [Tr.cards] at hxl
      | n a b d =>
        simp only [Tr.isE, Bool.not_false, if_true, Tr.d, cd]
        walk_at "ck1"
        by_cases hb : b.1 = key
        · have e2 : (b.1 == key) = true := beq_iff_eq.mpr hb
          simp only [e2, if_true]
          walk_at "ck1"
          exact q (.n (.n l c a) b d) .dn
        · have e2 : (b.1 == key) = false := beq_eq_false_iff_ne.mpr hb
          simp only [e2, Bool.false_eq_true, if_false, aft_nx]
          walk_at "ck1"
          refine turn_ok n (.n a b d) key _ (by omega) (by omega) sr (List.mem_map.mpr ⟨x, hxl, hxk⟩) (fun e => hb (by simpa [tops] using e)) fun t' ht' => ?_
          simp only [aft_nx]
          walk_at "ck1"
          cases t' <;> exact q (.n l c _) (.inr ht')

def come (t u : Tr) : List Pr := (lk u).filter fun p => !decide (p ∈ lk t)
theorem flt_len_mono {α : Type} {p q : α → Bool} {xs : List α} (h : ∀ x ∈ xs, p x = true → q x = true) : (xs.filter p).length ≤ (xs.filter q).length := by
  induction xs with
  | nil => exact Nat.le_refl _
  | cons x xs ih =>
    have i := ih fun y hy => h y (List.mem_cons_of_mem _ hy)
    rw [List.filter_cons, List.filter_cons]
    by_cases hp : p x = true
    · rw [if_pos hp, if_pos (h x List.mem_cons_self hp)]
      simp only [List.length_cons]; omega
    · rw [if_neg hp]
      split
      · simp only [List.length_cons]; omega
      · exact i
theorem tops_len (t : Tr) : (tops t).length ≤ 1 := by cases t <;> simp [tops]
theorem come_le {t u : Tr} (h : Turn t u) : (tops u = tops t ∧ (come t u).length ≤ 3) ∨ (come t u).length ≤ 2 := by
  have none : ∀ {xs ys : List Pr}, (∀ x ∈ xs, x ∈ ys) → (xs.filter fun p => !decide (p ∈ ys)).length = 0 := fun {xs ys} h => by
    rw [List.length_eq_zero_iff, List.filter_eq_nil_iff]
    intro x hx
    simp [h x hx]
  have len : ∀ {xs ys : List Pr}, (xs.filter fun p => !decide (p ∈ ys)).length ≤ xs.length := List.length_filter_le _ _
  induction h with
  | @up a b r x c =>
    right
    unfold come
    have e : lk (.n a x (.n b c r)) = (tops a).map (fun k => (x.1, k)) ++ ([(x.1, c.1)] ++ (lk a ++ ((tops b).map (fun k => (c.1, k)) ++ ((tops r).map (fun k => (c.1, k)) ++ (lk b ++ lk r))))) := by simp [lk, tops]
    rw [e]
    simp only [List.filter_append, List.length_append]
    have h1 := none (xs := (tops a).map (fun k => (x.1, k))) (ys := lk (.n (.n a x b) c r)) fun p hp => by simp only [lk, List.mem_append, List.map_append]; simp only [List.mem_map] at hp ⊢; simp [hp]
    have h2 := none (xs := lk a) (ys := lk (.n (.n a x b) c r)) fun p hp => by simp [lk, hp]
    have h3 := none (xs := (tops r).map (fun k => (c.1, k))) (ys := lk (.n (.n a x b) c r)) fun p hp => by simp only [lk, List.mem_append, List.map_append]; simp only [List.mem_map] at hp ⊢; simp [hp]
    have h4 := none (xs := lk b) (ys := lk (.n (.n a x b) c r)) fun p hp => by simp [lk, hp]
    have h5 := none (xs := lk r) (ys := lk (.n (.n a x b) c r)) fun p hp => by simp [lk, hp]
    have h6 := len (xs := [(x.1, c.1)]) (ys := lk (.n (.n a x b) c r))
    have h7 := len (xs := (tops b).map (fun k => (c.1, k))) (ys := lk (.n (.n a x b) c r))
    have h8 := tops_len b
    rw [List.length_map] at h7
    simp only [List.length_cons, List.length_nil] at h6
    omega
  | @dn l a b x c =>
    right
    unfold come
    have e : lk (.n (.n l c a) x b) = [(x.1, c.1)] ++ ((tops b).map (fun k => (x.1, k)) ++ ((tops l).map (fun k => (c.1, k)) ++ ((tops a).map (fun k => (c.1, k)) ++ (lk l ++ (lk a ++ lk b))))) := by simp [lk, tops]
    rw [e]
    simp only [List.filter_append, List.length_append]
    have h1 := none (xs := (tops b).map (fun k => (x.1, k))) (ys := lk (.n l c (.n a x b))) fun p hp => by simp only [lk, List.mem_append, List.map_append]; simp only [List.mem_map] at hp ⊢; simp [hp]
    have h2 := none (xs := lk a) (ys := lk (.n l c (.n a x b))) fun p hp => by simp [lk, hp]
    have h3 := none (xs := (tops l).map (fun k => (c.1, k))) (ys := lk (.n l c (.n a x b))) fun p hp => by simp only [lk, List.mem_append, List.map_append]; simp only [List.mem_map] at hp ⊢; simp [hp]
    have h4 := none (xs := lk b) (ys := lk (.n l c (.n a x b))) fun p hp => by simp [lk, hp]
    have h5 := none (xs := lk l) (ys := lk (.n l c (.n a x b))) fun p hp => by simp [lk, hp]
    have h6 := len (xs := [(x.1, c.1)]) (ys := lk (.n l c (.n a x b)))
    have h7 := len (xs := (tops a).map (fun k => (c.1, k))) (ys := lk (.n l c (.n a x b)))
    have h8 := tops_len a
    rw [List.length_map] at h7
    simp only [List.length_cons, List.length_nil] at h6
    omega
  | @inl l l' r c h ih =>
    left
    refine ⟨rfl, ?_⟩
    unfold come at *
    have e : lk (.n l' c r) = (tops l').map (fun k => (c.1, k)) ++ ((tops r).map (fun k => (c.1, k)) ++ (lk l' ++ lk r)) := by simp [lk]
    rw [e]
    simp only [List.filter_append, List.length_append]
    have h1 := none (xs := (tops r).map (fun k => (c.1, k))) (ys := lk (.n l c r)) fun p hp => by simp only [lk, List.mem_append, List.map_append]; simp [hp]
    have h2 := none (xs := lk r) (ys := lk (.n l c r)) fun p hp => by simp [lk, hp]
    have h3 : ((lk l').filter fun p => !decide (p ∈ lk (.n l c r))).length ≤ ((lk l').filter fun p => !decide (p ∈ lk l)).length := flt_len_mono fun p _ hp => by
      simp only [Bool.not_eq_true', decide_eq_false_iff_not] at hp ⊢
      exact fun hm => hp (by simp [lk, hm])
    have h4 := len (xs := (tops l').map (fun k => (c.1, k))) (ys := lk (.n l c r))
    have h5 := tops_len l'
    rw [List.length_map] at h4
    rcases ih with ⟨ht, ih⟩ | ih
    · have h6 := none (xs := (tops l').map (fun k => (c.1, k))) (ys := lk (.n l c r)) fun p hp => by rw [ht] at hp; simp only [lk, List.mem_append, List.map_append]; simp [hp]
      omega
    · omega
  | @inr l r r' c h ih =>
    left
    refine ⟨rfl, ?_⟩
    unfold come at *
    have e : lk (.n l c r') = (tops l).map (fun k => (c.1, k)) ++ ((tops r').map (fun k => (c.1, k)) ++ (lk l ++ lk r')) := by simp [lk]
    rw [e]
    simp only [List.filter_append, List.length_append]
    have h1 := none (xs := (tops l).map (fun k => (c.1, k))) (ys := lk (.n l c r)) fun p hp => by simp only [lk, List.mem_append, List.map_append]; simp [hp]
    have h2 := none (xs := lk l) (ys := lk (.n l c r)) fun p hp => by simp [lk, hp]
    have h3 : ((lk r').filter fun p => !decide (p ∈ lk (.n l c r))).length ≤ ((lk r').filter fun p => !decide (p ∈ lk r)).length := flt_len_mono fun p _ hp => by
      simp only [Bool.not_eq_true', decide_eq_false_iff_not] at hp ⊢
      exact fun hm => hp (by simp [lk, hm])
    have h4 := len (xs := (tops r').map (fun k => (c.1, k))) (ys := lk (.n l c r))
    have h5 := tops_len r'
    rw [List.length_map] at h4
    rcases ih with ⟨ht, ih⟩ | ih
    · have h6 := none (xs := (tops r').map (fun k => (c.1, k))) (ys := lk (.n l c r)) fun p hp => by rw [ht] at hp; simp only [lk, List.mem_append, List.map_append]; simp [hp]
      omega
    · omega
theorem wp_clear {k : Nat} {S : Store} {E : Exn → Store → Prop} {Q : D → Store → Prop} : wp (clearM (.ref k) [] S) Q E = ∃ xs, lstO S[k]? = some xs ∧ Q .non (S.set k (.lst [])) := by
  unfold clearM
  simp only [wp_lsUpd]
  apply propext
  constructor
  · rintro ⟨xs, z, zs, h1, h2, h3⟩
    cases h2; exact ⟨xs, h1, h3⟩
  · rintro ⟨xs, h1, h3⟩
    exact ⟨xs, .non, [], h1, rfl, h3⟩

abbrev Rd := Int × Bool
def wrd (b : Bool) : Str := if b = true then "less" else "rest"
def rdD (p : Rd) : D := .tup [.int p.1, .str (wrd p.2)]
def rdpy (p : Rd) : PyData := .tuple [.int p.1, .str (wrd p.2)]
def rd : Tr → Int → List Rd
  | .e, _ => []
  | .n l c r, key => if c.1 < key then (c.1, true) :: rd r key else (c.1, false) :: rd l key
theorem rd_len : ∀ (t : Tr) (key : Int), (rd t key).length ≤ t.cards.length
  | .e, _ => Nat.le_refl _
  | .n l c r, key => by
    have h1 := rd_len l key
    have h2 := rd_len r key
    simp only [rd, Tr.cards, List.length_append, List.length_cons]
    split <;> simp only [List.length_cons] <;> omega
theorem rd_mem : ∀ {t : Tr} {key : Int} {p : Rd}, p ∈ rd t key → ∃ c ∈ t.cards, c.1 = p.1
  | .e, _, p, h => by cases h
  | .n l c r, key, p, h => by
    unfold rd at h
    split at h
    · rcases List.mem_cons.mp h with rfl | h
      · exact ⟨c, by simp [Tr.cards], rfl⟩
      · obtain ⟨x, hx, e⟩ := rd_mem h; exact ⟨x, by simp [Tr.cards, hx], e⟩
    · rcases List.mem_cons.mp h with rfl | h
      · exact ⟨c, by simp [Tr.cards], rfl⟩
      · obtain ⟨x, hx, e⟩ := rd_mem h; exact ⟨x, by simp [Tr.cards, hx], e⟩
theorem split_road_ok {S : Store} {t : Tr} {key : Int} {E : Exn → Store → Prop} {Q : D → Store → Prop} (ht : t.ht ≤ 150) (hl : t.cards.length ≤ 1000) (q : Q (.ref S.length) (S ++ [.lst ((rd t key).map rdD)])) : wp (split_road_M [t.d, .int key] S) Q E := by
  unfold split_road_M
  walk_at "ck1"
  simp only [aft_nx, wp_seq]
  refine wp_while (fun m r T => ∃ (xs : List Rd) (u : Tr) (z3 z4 z5 : Option D), T = S ++ [O.lst (xs.map rdD)] ∧ r = [some u.d, some (.int key), some (.ref S.length), z3, z4, z5] ∧ xs ++ rd u key = rd t key ∧ u.ht ≤ 150 ∧ m = u.ht) (m := t.ht) (by unfold FU; omega) ⟨[], t, none, none, none, rfl, rfl, rfl, ht, rfl⟩ (fun m r T hI => ?_)
  obtain ⟨xs, u, z3, z4, z5, rfl, rfl, hx, hu, rfl⟩ := hI
  have hxl : xs.length ≤ 1000 := by have := congrArg List.length hx; have := rd_len t key; rw [List.length_append] at *; omega
  walk_at "ck1"
  rw [wp_neE hu]
  walk_at "ck1"
  cases u with
  | e =>
    simp only [Tr.isE, Bool.not_true, Bool.false_eq_true, if_false, aft_nx]
    walk_at "ck1"
    simp only [rd, List.append_nil] at hx
    rw [hx]; exact q
  | n l c r =>
    simp only [Tr.ht] at hu
    simp only [Tr.isE, Bool.not_false, if_true, Tr.d, cd, aft_nx]
    walk_at "ck1"
    simp only [aft_nx]
    walk_at "ck1"
    simp only [get_new, lsO_lst, lstO_lst, Option.isSome_some, true_and, Option.some.injEq, exists_eq_left']
    by_cases h : c.1 < key
    · simp only [h, if_true]
      refine ⟨by rw [List.length_map, sizeLine_eq]; omega, ?_⟩
      try simp only [aft_nx]
      walk_at "ck1"
      refine ⟨r.ht, by simp only [Tr.ht]; omega, xs ++ [(c.1, true)], ?_, r, _, _, _, rfl, ?_, by omega, rfl⟩
      · simp [rdD, wrd]
      · rw [← hx]; simp [rd, h]
    · simp only [h, if_false]
      refine ⟨by rw [List.length_map, sizeLine_eq]; omega, ?_⟩
      try simp only [aft_nx]
      walk_at "ck1"
      refine ⟨l.ht, by simp only [Tr.ht]; omega, xs ++ [(c.1, false)], ?_, l, _, _, _, rfl, ?_, by omega, rfl⟩
      · simp [rdD, wrd]
      · rw [← hx]; simp [rd, h]

def behP (a b : Tr) : List Pr := sortP (lk a ++ lk b)
def goneP (t a b : Tr) : List Pr := (sortP (lk t)).filter fun p => !decide (p ∈ behP a b)
def comeP (t a b : Tr) : List Pr := (behP a b).filter fun p => !decide (p ∈ sortP (lk t))
def newD (ps : List Pr) : D → Option D
  | .tup [.int a, .int b] => if (a, b) ∈ ps then none else some (pd (a, b))
  | _ => none
theorem newD_pd {ps : List Pr} {c : Pr} : newD ps (.tup [.int c.1, .int c.2]) = if c ∈ ps then none else some (pd c) := rfl
theorem new_ok {ps qs : List Pr} : (qs.map pd).filterMap (newD ps) = (qs.filter fun p => !decide (p ∈ ps)).map pd := by
  induction qs with
  | nil => rfl
  | cons c cs ih =>
    rw [List.map_cons, List.filterMap_cons, List.filter_cons, ih]
    rw [show newD ps (pd c) = if c ∈ ps then none else some (pd c) from rfl]
    by_cases h : c ∈ ps <;> simp [h]
theorem split_links_ok {S : Store} {t : Tr} {key : Int} {E : Exn → Store → Prop} {Q : D → Store → Prop} (hl : t.cards.length < 80) (ct : CrO t) (st : Srt t.cards)
    (q : ∀ a b : Tr, CrO a → CrO b → a.cards = t.cards.filter (fun c => decide (c.1 < key)) → b.cards = t.cards.filter (fun c => decide (key ≤ c.1)) → ∀ (g h : Nat) (G : Store), (S ++ G)[g]? = some (.lst ((goneP t a b).map pd)) → (S ++ G)[h]? = some (.lst ((comeP t a b).map pd)) → S.length ≤ g → g < h → Q (.tup [.ref g, .ref h]) (S ++ G)) :
    wp (split_links_M [t.d, .int key] S) Q E := by
  have hh := t.ht_le
  unfold split_links_M
  walk_at "ck1"
  refine split_ok 80 t key _ (by omega) (by omega) ct st fun a b ca cb ha hb => ?_
  have la : a.cards.length ≤ t.cards.length := by rw [ha]; exact List.length_filter_le _ _
  have lb : b.cards.length ≤ t.cards.length := by rw [hb]; exact List.length_filter_le _ _
  have hha := a.ht_le
  have hhb := b.ht_le
  have l1 := lk_len t
  have l2 := lk_len a
  have l3 := lk_len b
  walk_at "ck1"
  simp only [aft_nx]
  walk_at "ck1"
  refine links_ok (by omega) (by omega) fun k1 G1 g1 b1 => ?_
  simp only [aft_nx]
  walk_at "ck1"
  refine links_ok (by omega) (by omega) fun k2 G2 g2 b2 => ?_
  walk_at "ck1"
  refine links_ok (by omega) (by omega) fun k3 G3 g3 b3 => ?_
  rw [wp_addL]
  refine ⟨_, by rw [get_old g2]; rfl, _, by rw [g3]; rfl, by rw [List.length_map, List.length_map, sortP_len, sortP_len, sizeLine_eq]; omega, ?_⟩
  rw [← List.map_append]
  walk_at "ck1"
  refine sorted_prs ls_new ?_
  have es : sortP (sortP (lk a) ++ sortP (lk b)) = behP a b := sortP_eq (sortP_perm.append sortP_perm)
  rw [es]
  have g1' := get_old (T := [O.lst ((behP a b).map pd)]) (get_old (T := [O.lst ((sortP (lk a) ++ sortP (lk b)).map pd)]) (get_old (T := G3) (get_old (T := G2) g1)))
  have g4 : (S ++ G1 ++ G2 ++ G3 ++ [O.lst ((sortP (lk a) ++ sortP (lk b)).map pd)] ++ [O.lst ((behP a b).map pd)])[(S ++ G1 ++ G2 ++ G3 ++ [O.lst ((sortP (lk a) ++ sortP (lk b)).map pd)]).length]? = some (.lst ((behP a b).map pd)) := get_new
  obtain ⟨G, hG⟩ : ∃ G, S ++ G1 ++ G2 ++ G3 ++ [O.lst ((sortP (lk a) ++ sortP (lk b)).map pd)] ++ [O.lst ((behP a b).map pd)] = S ++ G := ⟨G1 ++ (G2 ++ (G3 ++ ([O.lst ((sortP (lk a) ++ sortP (lk b)).map pd)] ++ [O.lst ((behP a b).map pd)]))), by simp only [List.append_assoc]⟩
  rw [hG] at g1' g4 ⊢
  generalize (S ++ G1 ++ G2 ++ G3 ++ [O.lst ((sortP (lk a) ++ sortP (lk b)).map pd)]).length = k4 at g4
  clear hG g1 g2 g3 b2 b3
  have hbl : (behP a b).length ≤ 200 := by unfold behP; rw [sortP_len, List.length_append]; omega
  simp only [aft_nx]
  walk_at "ck1"
  refine ⟨_, ls_of g1', ?_⟩
  refine lcGo_list (xs := (sortP (lk t)).map pd) (f := newD (behP a b)) rfl (by rw [List.length_map, sortP_len]; omega) (ls_of g1') (fun i x acc hx => ?_) ?_
  · obtain ⟨c, hc, rfl⟩ := pd_get hx
    generalize behP a b = A at g4 ⊢
    unfold lcT
    walk_at "ck1"
    refine wp_inP (ls_of (get_old g4)) ?_
    walk_at "ck1"
    by_cases h : c ∈ A <;> simp [h, newD_pd, pd]
  rw [new_ok]
  simp only [aft_nx]
  walk_at "ck1"
  refine ⟨_, ls_of (get_old g4), ?_⟩
  refine lcGo_list (xs := (behP a b).map pd) (f := newD (sortP (lk t))) rfl (by rw [List.length_map]; omega) (ls_of (get_old g4)) (fun i x acc hx => ?_) ?_
  · obtain ⟨c, hc, rfl⟩ := pd_get hx
    have g5 := get_old (T := [O.lst acc]) (get_old (T := [O.lst (((sortP (lk t)).filter fun p => !decide (p ∈ behP a b)).map pd)]) g1')
    revert g5
    generalize sortP (lk t) = A
    intro g5
    unfold lcT
    walk_at "ck1"
    refine wp_inP (ls_of g5) ?_
    walk_at "ck1"
    by_cases h : c ∈ A <;> simp [h, newD_pd, pd]
  rw [new_ok]
  walk_at "ck1"
  have r1 : (S ++ G ++ [O.lst ((goneP t a b).map pd)] ++ [O.lst ((comeP t a b).map pd)])[(S ++ G).length]? = some (.lst ((goneP t a b).map pd)) := get_old get_new
  have r2 : (S ++ G ++ [O.lst ((goneP t a b).map pd)] ++ [O.lst ((comeP t a b).map pd)])[(S ++ G ++ [O.lst ((goneP t a b).map pd)]).length]? = some (.lst ((comeP t a b).map pd)) := get_new
  have e : S ++ G ++ [O.lst ((goneP t a b).map pd)] ++ [O.lst ((comeP t a b).map pd)] = S ++ (G ++ [O.lst ((goneP t a b).map pd)] ++ [O.lst ((comeP t a b).map pd)]) := by simp only [List.append_assoc]
  rw [e] at r1 r2
  have := q a b ca cb ha hb _ _ _ r1 r2 (by rw [List.length_append]; omega) (by simp only [List.length_append, List.length_cons, List.length_nil]; omega)
  rw [← e] at this
  exact this
end Lib
end CK
end

section
set_option Elab.async false
set_option linter.all false
set_option exponentiation.threshold 100000
set_option maxRecDepth 100000
set_option maxHeartbeats 4000000
namespace CK
namespace Lib
open PySem PySem.Spec PyProof.Rows L2
local macro_rules | `(tactic| walk_at "ck") => `(tactic| try simp only [wp_seq, wp_asg, wp_if, wp_ret, wp_retN, wp_drop, wp_fn, wp_var0, wp_varS, wp_mC, wp_m2, wp_m1, wp_nil, wp_cons, wp_args, wp_call, wp_tst, wp_and, wp_or, wp_not, wp_andV, wp_orV, wp_notV, wp_ifE, wp_chain, wp_nx, wp_brk, wp_cnt, aft_nx, aft_rt, aft_bk, aft_ct, aft_xc, fin_rt, fin_nx, fin_xc, fin_bk, fin_ct, wp_gNm, wp_gTp, wp_gsNil, wp_gsCons, wp_gSub, wp_par, wp_par3, wp_i0, wp_iC, wp_addI, wp_addT, wp_mulI, wp_neg, wp_tup, wp_lst, sz0, sz1, sz2, sz3, sz4, sz5, sz6, sz7, sz8, wp_yes, wp_ixT, wp_ixL, wp_setL, wp_isi, tyN, isi_ii, isi_ib, isi_bi, isi_bb, isi_nb, isi_ni, isi_ns, isi_nt, isi_nl, isi_nd, isi_bs, isi_bt, isi_bl, isi_bd, isi_is, isi_it, isi_il, isi_id, isi_sb, isi_si, isi_ss, isi_st, isi_sl, isi_sd, isi_tb, isi_ti, isi_ts, isi_tt, isi_tl, isi_td, isi_lb, isi_li, isi_ls, isi_lt, isi_ll, isi_ld, isi_db, isi_di, isi_ds, isi_dt, isi_dl, isi_dd, wp_slice, wp_noPart, wp_part, asInt_int, wp_slT, wp_slL, wp_mulT, wp_src, wp_lc, wipeE, D.ref.injEq, D.tup.injEq, reduceCtorEq, false_and, exists_false, false_or, or_false, cpt2, cpt3, cpt4, cpt5, cpt6, cpt7, cpt8, cpt9, cpt10, cpt11, cpt12, cpt13, cpt14, cpt15, cpt16, cpt17, cpt18, cpt19, cpt20, cpt24, cpt30, cpt36, cpt40, cpt48, cpt50, cpt58, cpt59, cpt60, wp_extend, wp_revL, exists_and_left, wp_ML, wp_ML0, isLs_ref, wp_append, wp_pop, wp_tupleR, wp_tupleT, wp_listR, wp_listT, wp_all, wp_any, wp_sum, wp_notB, wp_isB, wp_isN, wp_notN, Option.isSome_some, wp_rng1, wp_rng2, wp_rng3, lsAt, lsO_lst, lsO_fro, lstO_lst, wp_lenR, lenO_lst, lenO_fro, lenO_dK, List.length_map, List.getElem?_cons_zero, List.getElem?_cons_succ, wp_dnew, wp_dget, wp_din, wp_dnin, wp_dg1, wp_dput, wp_dpop, wp_MD, isDk_ref, dkO_dK, keyD_int, keyD_str, wp_lrg1, wp_trg1, wp_MS, isStrB_str, wp_sindex, wp_isiT, wp_strI, wp_eqS, wp_neS, wp_eqI, wp_neI, wp_eqB, wp_neB, wp_abs, wp_intI, wp_intB, wp_max2, wp_min2, wp_lenT, wp_for, wp_ok, wp_bad, lp_nx, lp_ct, lp_bk, lp_rt, lp_xc, asBl_bl, at0, at1, at2, List.map_cons, List.map_nil, List.cons_append, List.nil_append, List.length_cons, List.length_nil, List.replicate, List.set_cons_zero, List.set_cons_succ, Nat.reduceAdd, Int.reduceToNat, Int.reducePow, Int.reduceNeg, Int.reduceMul, Int.reduceAdd, Int.reduceSub, Int.reduceMod, Int.reduceDiv, Int.reduceLT, Int.reduceLE, Int.zero_mul, Int.zero_add, Int.cast_ofNat_Int, Int.reduceBEq, Nat.reduceLeDiff, Nat.reduceEqDiff, true_and, and_true, Nat.reduceSub, if_true, Option.some.injEq, exists_eq_left', Bool.not_true, Bool.not_false, decide_eq_true_eq, Bool.false_eq_true, if_false])
local macro_rules | `(tactic| walk_at "cks") => `(tactic| try simp only [wp_seq, wp_asg, wp_if, wp_ret, wp_retN, wp_drop, wp_fn, wp_var0, wp_varS, wp_mC, wp_m2, wp_m1, wp_nil, wp_cons, wp_args, wp_call, wp_tst, wp_and, wp_or, wp_not, wp_andV, wp_orV, wp_notV, wp_ifE, wp_chain, wp_nx, wp_brk, wp_cnt, aft_nx, aft_rt, aft_bk, aft_ct, aft_xc, fin_rt, fin_nx, fin_xc, fin_bk, fin_ct, wp_gNm, wp_gTp, wp_gsNil, wp_gsCons, wp_gSub, wp_par, wp_par3, wp_i0, wp_iC, wp_addI, wp_addT, wp_mulI, wp_neg, wp_tup, wp_lst, sz0, sz1, sz2, sz3, sz4, sz5, sz6, sz7, sz8, wp_yes, wp_ixT, wp_ixL, wp_setL, wp_isi, tyN, isi_ii, isi_ib, isi_bi, isi_bb, isi_nb, isi_ni, isi_ns, isi_nt, isi_nl, isi_nd, isi_bs, isi_bt, isi_bl, isi_bd, isi_is, isi_it, isi_il, isi_id, isi_sb, isi_si, isi_ss, isi_st, isi_sl, isi_sd, isi_tb, isi_ti, isi_ts, isi_tt, isi_tl, isi_td, isi_lb, isi_li, isi_ls, isi_lt, isi_ll, isi_ld, isi_db, isi_di, isi_ds, isi_dt, isi_dl, isi_dd, wp_slice, wp_noPart, wp_part, asInt_int, wp_slT, wp_slL, wp_mulT, wp_src, wp_lc, wipeE, D.ref.injEq, D.tup.injEq, reduceCtorEq, false_and, exists_false, false_or, or_false, cpt2, cpt3, cpt4, cpt5, cpt6, cpt7, cpt8, cpt9, cpt10, cpt11, cpt12, cpt13, cpt14, cpt15, cpt16, cpt17, cpt18, cpt19, cpt20, cpt24, cpt30, cpt36, cpt40, cpt48, cpt50, cpt58, cpt59, cpt60, wp_extend, wp_revL, exists_and_left, wp_ML, wp_ML0, isLs_ref, wp_append, wp_pop, wp_tupleR, wp_tupleT, wp_listR, wp_listT, wp_all, wp_any, wp_sum, wp_notB, wp_isB, wp_isN, wp_notN, Option.isSome_some, wp_rng1, wp_rng2, wp_rng3, lsAt, lsO_lst, lsO_fro, lstO_lst, wp_lenR, lenO_lst, lenO_fro, lenO_dK, List.length_map, List.getElem?_cons_zero, List.getElem?_cons_succ, wp_dnew, wp_dget, wp_din, wp_dnin, wp_dg1, wp_dput, wp_dpop, wp_MD, isDk_ref, dkO_dK, keyD_int, keyD_str, wp_lrg1, wp_trg1, wp_MS, isStrB_str, wp_sindex, wp_isiT, wp_strI, wp_eqS, wp_neS, wp_eqI, wp_neI, wp_eqB, wp_neB, wp_abs, wp_intI, wp_intB, wp_max2, wp_min2, wp_lenT, wp_for, wp_ok, wp_bad, lp_nx, lp_ct, lp_bk, lp_rt, lp_xc, asBl_bl, at0, at1, at2, List.map_cons, List.map_nil, List.cons_append, List.nil_append, List.length_cons, List.length_nil, List.replicate, List.set_cons_zero, List.set_cons_succ, Nat.reduceAdd, Int.reduceToNat, Int.reducePow, Int.reduceNeg, Int.reduceMul, Int.reduceAdd, Int.reduceSub, Int.reduceMod, Int.reduceDiv, Int.reduceLT, Int.reduceLE, Int.zero_mul, Int.zero_add, Int.cast_ofNat_Int, Int.reduceBEq, Nat.reduceLeDiff, Nat.reduceEqDiff, true_and, and_true, Nat.reduceSub, if_true, Option.some.injEq, exists_eq_left', Bool.not_true, Bool.not_false, decide_eq_true_eq, Bool.false_eq_true, if_false, *])
local macro_rules | `(tactic| walk_at "ck1") => `(tactic| try simp only [wp_seq, wp_asg, wp_if, wp_ret, wp_retN, wp_drop, wp_fn, wp_var0, wp_varS, wp_mC, wp_m2, wp_m1, wp_nil, wp_cons, wp_args, wp_call, wp_tst, wp_and, wp_or, wp_not, wp_andV, wp_orV, wp_notV, wp_ifE, wp_chain, wp_nx, wp_brk, wp_cnt, aft_rt, aft_bk, aft_ct, aft_xc, fin_rt, fin_nx, fin_xc, fin_bk, fin_ct, wp_gNm, wp_gTp, wp_gsNil, wp_gsCons, wp_gSub, wp_par, wp_par3, wp_i0, wp_iC, wp_addI, wp_addT, wp_mulI, wp_neg, wp_tup, wp_lst, sz0, sz1, sz2, sz3, sz4, sz5, sz6, sz7, sz8, wp_yes, wp_ixT, wp_ixL, wp_setL, wp_isi, tyN, isi_ii, isi_ib, isi_bi, isi_bb, isi_nb, isi_ni, isi_ns, isi_nt, isi_nl, isi_nd, isi_bs, isi_bt, isi_bl, isi_bd, isi_is, isi_it, isi_il, isi_id, isi_sb, isi_si, isi_ss, isi_st, isi_sl, isi_sd, isi_tb, isi_ti, isi_ts, isi_tt, isi_tl, isi_td, isi_lb, isi_li, isi_ls, isi_lt, isi_ll, isi_ld, isi_db, isi_di, isi_ds, isi_dt, isi_dl, isi_dd, wp_slice, wp_noPart, wp_part, asInt_int, wp_slT, wp_slL, wp_mulT, wp_src, wp_lc, wipeE, D.ref.injEq, D.tup.injEq, reduceCtorEq, false_and, exists_false, false_or, or_false, cpt2, cpt3, cpt4, cpt5, cpt6, cpt7, cpt8, cpt9, cpt10, cpt11, cpt12, cpt13, cpt14, cpt15, cpt16, cpt17, cpt18, cpt19, cpt20, cpt24, cpt30, cpt36, cpt40, cpt48, cpt50, cpt58, cpt59, cpt60, wp_extend, wp_revL, exists_and_left, wp_ML, wp_ML0, isLs_ref, wp_append, wp_pop, wp_tupleR, wp_tupleT, wp_listR, wp_listT, wp_all, wp_any, wp_sum, wp_notB, wp_isB, wp_isN, wp_notN, Option.isSome_some, wp_rng1, wp_rng2, wp_rng3, lsAt, lsO_lst, lsO_fro, lstO_lst, wp_lenR, lenO_lst, lenO_fro, lenO_dK, List.length_map, List.getElem?_cons_zero, List.getElem?_cons_succ, wp_dnew, wp_dget, wp_din, wp_dnin, wp_dg1, wp_dput, wp_dpop, wp_MD, isDk_ref, dkO_dK, keyD_int, keyD_str, wp_lrg1, wp_trg1, wp_MS, isStrB_str, wp_sindex, wp_isiT, wp_strI, wp_eqS, wp_neS, wp_eqI, wp_neI, wp_eqB, wp_neB, wp_abs, wp_intI, wp_intB, wp_max2, wp_min2, wp_lenT, wp_for, wp_ok, wp_bad, lp_nx, lp_ct, lp_bk, lp_rt, lp_xc, asBl_bl, at0, at1, at2, List.map_cons, List.map_nil, List.cons_append, List.nil_append, List.length_cons, List.length_nil, List.replicate, List.set_cons_zero, List.set_cons_succ, Nat.reduceAdd, Int.reduceToNat, Int.reducePow, Int.reduceNeg, Int.reduceMul, Int.reduceAdd, Int.reduceSub, Int.reduceMod, Int.reduceDiv, Int.reduceLT, Int.reduceLE, Int.zero_mul, Int.zero_add, Int.cast_ofNat_Int, Int.reduceBEq, Nat.reduceLeDiff, Nat.reduceEqDiff, true_and, and_true, Nat.reduceSub, if_true, Option.some.injEq, exists_eq_left', Bool.not_true, Bool.not_false, decide_eq_true_eq, Bool.false_eq_true, if_false])
def law_number_M : List D → M D := mFn 5
 (mSeq (mAsg (mCall 2 law_take_M (mCons (mVar 0) (mCons (mC (.int 5)) mNil))) (gNm 2))
 (mSeq (mAsg (mCall 2 law_take_M (mCons (mVar 0) (mCons (mC (.int 12)) mNil))) (gNm 3))
 (mSeq (mAsg (m2 ixM (mArgs lstM (mCons (m2 addM (mVar 1) (mVar 3)) (mCons (m2 fdivM (mVar 3) (mC (.int 4))) (mCons (m2 subM (m2 powM (mC (.int 10)) (mC (.int 18))) (m2 fdivM (mVar 3) (mC (.int 4)))) (mCons (m2 addM (mVar 1) (mVar 3)) mNil))))) (mArgs minM (mCons (mVar 2) (mCons (mC (.int 3)) mNil)))) (gNm 4))
 (mSeq (mIf (mTst (m2 eqM (mVar 2) (mC (.int 4))))
 (mAsg (mCall 1 law_great2_M (mCons (mVar 0) mNil)) (gNm 4))
 mNx)
 (mRet (mArgs minM (mCons (mVar 4) (mCons (m2 powM (mC (.int 10)) (mC (.int 18))) mNil))))))))
def law_card_M : List D → M D := mFn 6
 (mSeq (mAsg (mCall 2 law_number_M (mCons (mVar 0) (mCons (mVar 1) mNil))) (gNm 3))
 (mSeq (mAsg (m2 ixM (mArgs lstM (mCons (mC (.int 7)) (mCons (mCall 2 law_take_M (mCons (mVar 0) (mCons (mC (.int 3)) mNil))) (mCons (mCall 2 law_number_M (mCons (mVar 0) (mCons (mVar 1) mNil))) mNil)))) (mVar 2)) (gNm 4))
 (mSeq (mAsg (m2 subM (mCall 2 law_take_M (mCons (mVar 0) (mCons (mC (.int 19)) mNil))) (mC (.int 9))) (gNm 5))
 (mSeq (mIf (mTst (m2 eqM (mCall 2 law_take_M (mCons (mVar 0) (mCons (mC (.int 4)) mNil))) (mC (.int 0))))
 (mAsg (m2 mulM (mCall 1 law_great2_M (mCons (mVar 0) mNil)) (m2 ixM (mArgs lstM (mCons (mC (.int 1)) (mCons (m2 subM (mC (.int 0)) (mC (.int 1))) mNil))) (mCall 2 law_take_M (mCons (mVar 0) (mCons (mC (.int 2)) mNil))))) (gNm 5))
 mNx)
 (mRet (mArgs tupM (mCons (mVar 3) (mCons (mVar 4) (mCons (mArgs maxM (mCons (m2 subM (mC (.int 0)) (m2 powM (mC (.int 10)) (mC (.int 18)))) (mCons (mArgs minM (mCons (m2 powM (mC (.int 10)) (mC (.int 18))) (mCons (mVar 5) mNil))) mNil))) mNil)))))))))
def law_pack_M : List D → M D := mFn 9
 (mSeq (mAsg (m2 ixM (mArgs lstM (mCons (mCall 2 law_take_M (mCons (mVar 0) (mCons (m2 addM (mVar 1) (mC (.int 1))) mNil))) (mCons (mVar 1) mNil))) (mArgs intM (mCons (m2 eqM (mCall 2 law_take_M (mCons (mVar 0) (mCons (mC (.int 4)) mNil))) (mC (.int 0))) mNil))) (gNm 2))
 (mSeq (mAsg (mCall 2 law_take_M (mCons (mVar 0) (mCons (mC (.int 3)) mNil))) (gNm 3))
 (mSeq (mAsg (m2 mulM (mCall 1 law_great2_M (mCons (mVar 0) mNil)) (mCall 2 law_take_M (mCons (mVar 0) (mCons (mC (.int 2)) mNil)))) (gNm 4))
 (mSeq (mAsg (mArgs lstM mNil) (gNm 5))
 (mSeq (mAsg dnewM (gNm 6))
 (mSeq (mFor (mRng1 (mCons (mVar 2) mNil)) (gNm 7)
 (mSeq (mAsg (mCall 3 law_card_M (mCons (mVar 0) (mCons (mVar 4) (mCons (mVar 3) mNil)))) (gNm 8))
 (mIf (mTst (m2 dninM (m2 ixM (mVar 8) (mC (.int 0))) (mVar 6)))
 (mSeq (mAsg (mC (.bl true)) (gSubM (mVar 6) (m2 ixM (mVar 8) (mC (.int 0))) dputM))
 (mDrop (mML insertM (mVar 5) (mCons (mCall 2 law_take_M (mCons (mVar 0) (mCons (m2 addM (mArgs lenM (mCons (mVar 5) mNil)) (mC (.int 1))) mNil))) (mCons (mVar 8) mNil)))))
 mNx)))
 (mRet (mVar 5))))))))
def law_leafed_M : Nat → List D → M D
 | 0 => fun _ _ => .bad
 | n + 1 => mFn 5
   (mSeq (mIf (mTst (m2 eqM (mVar 0) (mArgs tupM mNil)))
   (mRet (mArgs tupM (mCons (mArgs tupM mNil) (mCons (mVar 1) (mCons (mArgs tupM mNil) mNil)))))
   mNx)
   (mSeq (mAsg (mVar 0) (gTp 3 (gsCons (gNm 2) (gsCons (gNm 3) (gsCons (gNm 4) gsNil)))))
   (mSeq (mIf (mTst (m2 ltM (m2 ixM (mVar 1) (mC (.int 0))) (m2 ixM (mVar 3) (mC (.int 0)))))
   (mRet (mArgs tupM (mCons (mCall 2 (law_leafed_M n) (mCons (mVar 2) (mCons (mVar 1) mNil))) (mCons (mVar 3) (mCons (mVar 4) mNil)))))
   mNx)
   (mRet (mArgs tupM (mCons (mVar 2) (mCons (mVar 3) (mCons (mCall 2 (law_leafed_M n) (mCons (mVar 4) (mCons (mVar 1) mNil))) mNil))))))))
def law_over_M : List D → M D := mFn 2
 (mRet (mOrV (m2 gtM (m2 ixM (mVar 0) (mC (.int 1))) (m2 ixM (mVar 1) (mC (.int 1)))) (mAndV (m2 eqM (m2 ixM (mVar 0) (mC (.int 1))) (m2 ixM (mVar 1) (mC (.int 1)))) (m2 ltM (m2 ixM (mVar 0) (mC (.int 0))) (m2 ixM (mVar 1) (mC (.int 0)))))))
def law_by_ranks_M : List D → M D := mFn 4
 (mSeq (mAsg (mArgs lstM mNil) (gNm 1))
 (mSeq (mFor (mSrc (mVar 0)) (gNm 2)
 (mDrop (mML insertM (mVar 1) (mCons (mArgs lenM (mCons (mLc (mSrc (mVar 1)) (gNm 3) (mTst (mCall 2 law_over_M (mCons (mVar 3) (mCons (mVar 2) mNil)))) (mVar 3) [3]) mNil)) (mCons (mVar 2) mNil)))))
 (mRet (mVar 1))))
theorem great2_ok {S : Store} {w : Nat} {E : Exn → Store → Prop} {Q : D → Store → Prop} (hw : PotAt S w) (q : ∀ x S', 0 ≤ x → x ≤ 10 ^ 18 → Kp w S S' → S'.length = S.length → Q (.int x) S') :
    wp (law_great2_M [.ref w] S) Q E := by
  unfold law_great2_M
  walk_at "ck1"
  refine take_ok hw (by omega) (by omega) fun a S1 a0 a1 k1 l1 => ?_
  simp only [aft_nx]
  walk_at "ck1"
  refine take_ok k1.pt (by omega) (by omega) fun b S2 b0 b1 k2 l2 => ?_
  simp only [aft_nx]
  walk_at "ck1"
  refine take_ok k2.pt (by omega) (by omega) fun c S3 c0 c1 k3 l3 => ?_
  walk_at "ck1"
  refine ⟨cmul_s (by omega) (by omega) (by omega) (by omega), cmul_s (by omega) (by omega) (by omega) (by omega), ?_⟩
  refine q _ _ ?_ ?_ ((k1.trans k2).trans k3) (by omega) <;> split <;> omega
theorem number_ok {S : Store} {w : Nat} {b : Int} {E : Exn → Store → Prop} {Q : D → Store → Prop} (hw : PotAt S w) (b0 : 0 ≤ b) (b1 : b ≤ 10 ^ 18) (q : ∀ x S', 0 ≤ x → x ≤ 10 ^ 18 → Kp w S S' → Q (.int x) S') :
    wp (law_number_M [.ref w, .int b] S) Q E := by
  unfold law_number_M
  walk_at "ck1"
  refine take_ok hw (by omega) (by omega) fun y S1 y0 y1 k1 l1 => ?_
  simp only [aft_nx]
  walk_at "ck1"
  refine take_ok k1.pt (by omega) (by omega) fun n S2 n0 n1 k2 l2 => ?_
  simp only [aft_nx]
  walk_at "ck1"
  have kS := k1.trans k2
  refine ⟨cdiv_s (by omega) (by omega), cdiv_s (by omega) (by omega), ?_⟩
  obtain ⟨x, hx, x0, x1⟩ := at_int (ns := [b + n, n / 4, 1000000000000000000 - n / 4, b + n]) (i := if 3 < y then 3 else y) (fun x => 0 ≤ x ∧ x ≤ 10 ^ 18 + 12) (by simp; omega) (by split <;> omega) (by simp only [List.length_cons, List.length_nil]; split <;> omega)
  refine ⟨_, ls_new, _, hx, ?_⟩
  simp only [aft_nx, wp_seq]
  refine wp_mono (Q := fun f T => ∃ x : Int, f = .nx [some (.ref w), some (.int b), some (.int y), some (.int n), some (.int x)] ∧ 0 ≤ x ∧ x ≤ 10 ^ 18 + 12 ∧ Kp w S T) ?_ ?_
  · walk_at "ck1"
    refine stepB (fun _ => ?_) fun _ => ⟨_, rfl, x0, x1, kS.app⟩
    refine great2_ok kS.app.pt fun z T z0 z1 kT lT => ?_
    walk_at "ck1"
    exact ⟨_, rfl, z0, by omega, kS.app.trans kT⟩
  · rintro f T ⟨x, rfl, x0, x1, kT⟩
    simp only [aft_nx]
    walk_at "ck1"
    exact q _ _ (by split <;> omega) (by split <;> omega) kT
structure PackB (c : Card) : Prop where
  a : 0 ≤ c.1 ∧ c.1 ≤ 10 ^ 18
  b : 0 ≤ c.2.1 ∧ c.2.1 ≤ 10 ^ 18
  c : -(10 ^ 18) ≤ c.2.2 ∧ c.2.2 ≤ 10 ^ 18
theorem card_ok {S : Store} {w : Nat} {b y : Int} {E : Exn → Store → Prop} {Q : D → Store → Prop} (hw : PotAt S w) (b0 : 0 ≤ b) (b1 : b ≤ 10 ^ 18) (y0 : 0 ≤ y) (y1 : y < 3) (q : ∀ c S', PackB c → Kp w S S' → Q (cd c) S') :
    wp (law_card_M [.ref w, .int b, .int y] S) Q E := by
  unfold law_card_M
  walk_at "ck1"
  refine number_ok hw b0 b1 fun key S1 key0 key1 kS => ?_
  simp only [aft_nx]
  walk_at "ck1"
  refine take_ok kS.pt (by omega) (by omega) fun a S2 a0 a1 kA lA => ?_
  walk_at "ck1"
  refine number_ok kA.pt b0 b1 fun n S3 n0 n1 kN => ?_
  walk_at "ck1"
  obtain ⟨rk, hr, r0, r1⟩ := at_int (ns := [7, a, n]) (i := y) (fun x => 0 ≤ x ∧ x ≤ 10 ^ 18) (by simp; omega) y0 y1
  refine ⟨_, ls_new, _, hr, ?_⟩
  have kT := ((kS.trans kA).trans kN).app (T := [O.lst [.int 7, .int a, .int n]])
  generalize S3 ++ [O.lst [.int 7, .int a, .int n]] = T at kT
  clear kS kA lA kN
  simp only [aft_nx]
  walk_at "ck1"
  refine take_ok kT.pt (by omega) (by omega) fun x T1 x0 x1 k1 l1 => ?_
  walk_at "ck1"
  simp only [aft_nx, wp_seq]
  refine wp_mono (Q := fun f T => ∃ x : Int, f = .nx [some (.ref w), some (.int b), some (.int y), some (.int key), some (.int rk), some (.int x)] ∧ -(10 ^ 18) ≤ x ∧ x ≤ 10 ^ 18 ∧ Kp w S T) ?_ ?_
  · walk_at "ck1"
    refine take_ok (kT.trans k1).pt (by omega) (by omega) fun z T2 z0 z1 k2 l2 => ?_
    have kT2 := (kT.trans k1).trans k2
    walk_at "ck1"
    refine stepB (fun _ => ?_) fun _ => ⟨_, rfl, by omega, by omega, kT2⟩
    refine great2_ok kT2.pt fun g T3 g0 g1 k3 l3 => ?_
    walk_at "ck1"
    refine take_ok (kT2.trans k3).app.pt (by omega) (by omega) fun u T4 u0 u1 k4 l4 => ?_
    walk_at "ck1"
    have kT4 := (kT2.trans k3).app.trans k4
    have kT4x := ls_of (k4.kp T3.length _ (by have := kT2.lt; omega) (get_new (S := T3) (o := O.lst [.int 1, .int (-1)])))
    obtain ⟨s, hs, s0⟩ := at_int (ns := [1, -1]) (i := u) (fun x => x = 1 ∨ x = -1) (by simp) u0 u1
    refine ⟨_, kT4x, _, hs, ?_⟩
    walk_at "ck1"
    refine ⟨cmul_s (by omega) (by omega) (by omega) (by omega), ?_⟩
    rcases s0 with rfl | rfl
    · exact ⟨_, rfl, by omega, by omega, kT4⟩
    · exact ⟨_, rfl, by omega, by omega, kT4⟩
  · rintro f T ⟨x, rfl, x0, x1, kT⟩
    simp only [aft_nx]
    walk_at "ck1"
    have h1 : (if x < 1000000000000000000 then x else 1000000000000000000) = x := by split <;> omega
    have h2 : (if x > -1000000000000000000 then x else -1000000000000000000) = x := by split <;> omega
    rw [h1, h2]
    exact q (key, rk, x) _ ⟨⟨key0, key1⟩, ⟨r0, r1⟩, ⟨x0, x1⟩⟩ kT
theorem wp_insert {k : Nat} {i : Int} {y : D} {S : Store} {E : Exn → Store → Prop} {Q : D → Store → Prop} (i0 : 0 ≤ i) (i1 : i < 2 ^ 63) {xs : List D} (h : lstO S[k]? = some xs) (hl : xs.length < sizeLine) (q : Q .non (S.set k (.lst (xs.take i.toNat ++ [y] ++ xs.drop i.toNat)))) : wp (insertM (.ref k) [.int i, y] S) Q E := by
  unfold insertM
  simp only [wp_lsUpd]
  exact ⟨xs, _, _, h, by rw [if_pos ⟨hl, i0, i1⟩], q⟩

theorem pack_ok {S : Store} {w : Nat} {m : Int} {E : Exn → Store → Prop} {Q : D → Store → Prop} (hw : PotAt S w) (m0 : 0 ≤ m) (m1 : m ≤ 70)
    (q : ∀ (cs : List Card) (k : Nat) (S' : Store), Kp w S S' → S.length ≤ k → S'[k]? = some (.lst (cs.map cd)) → (cs.length : Int) ≤ m → (cs.map (·.1)).Nodup → (∀ c ∈ cs, PackB c) → Q (.ref k) S') :
    wp (law_pack_M [.ref w, .int m] S) Q E := by
  unfold law_pack_M
  walk_at "ck1"
  refine take_ok hw (by omega) (by omega) fun a S1 a0 a1 k1 l1 => ?_
  walk_at "ck1"
  refine take_ok k1.app.pt (by omega) (by omega) fun z S2 z0 z1 k2 l2 => ?_
  have kS := k1.app.trans k2
  walk_at "ck1"
  obtain ⟨n, hn, n0, n1⟩ := at_int (ns := [a, m]) (i := if (z == 0) = true then 1 else 0) (fun x => 0 ≤ x ∧ x ≤ m) (by simp; omega) (by split <;> omega) (by simp only [List.length_cons, List.length_nil]; split <;> omega)
  refine ⟨_, ls_of (k2.kp S1.length _ (by have := k1.lt; omega) get_new), _, hn, ?_⟩
  simp only [aft_nx]
  walk_at "ck1"
  refine take_ok kS.pt (by omega) (by omega) fun y S3 y0 y1 k3 l3 => ?_
  simp only [aft_nx]
  walk_at "ck1"
  refine great2_ok (kS.trans k3).pt fun g S4 g0 g1 k4 l4 => ?_
  walk_at "ck1"
  refine take_ok ((kS.trans k3).trans k4).pt (by omega) (by omega) fun u S5 u0 u1 k5 l5 => ?_
  walk_at "ck1"
  refine ⟨cmul_s (by omega) (by omega) (by omega) (by omega), ?_⟩
  have hb : 0 ≤ g * u ∧ g * u ≤ 10 ^ 18 := by
    have : u = 0 ∨ u = 1 := by omega
    rcases this with rfl | rfl <;> omega
  generalize g * u = b at hb
  have kT := ((kS.trans k3).trans k4).trans k5
  clear kS k1 k2 k3 k4 k5 l1 l2 l3 l4 l5 hn
  simp only [aft_nx]
  walk_at "ck1"
  simp only [aft_nx]
  walk_at "ck1"
  have e1 : (S5 ++ [O.lst []]).length = S5.length + 1 := by simp
  rw [e1]
  have hwS := hw.lt
  have hv : S.length ≤ S5.length := kT.ln
  have kT2 := (kT.app (T := [O.lst []])).app (T := [O.dK []])
  have gv := get_old (T := [O.dK []]) (get_new (S := S5) (o := O.lst (([] : List Card).map cd)))
  have gd : (S5 ++ [O.lst []] ++ [O.dK []])[S5.length + 1]? = some (.dK []) := by rw [← e1]; exact get_new
  simp only [List.map_nil] at gv
  generalize S5 ++ [O.lst []] ++ [O.dK []] = X at kT2 gv gd
  generalize S5.length = v at hv gv gd
  clear kT e1
  simp only [aft_nx]
  walk_at "ck1"
  refine ⟨_, rfl, ⟨by omega, by omega⟩, ?_⟩
  refine wp_foR (by unfold FU; omega) (fun j r T => Kp w S T ∧ ∃ (cs : List Card) (kvs : List (Key × D)) (z7 z8 : Option D), r = [some (.ref w), some (.int m), some (.int n), some (.int y), some (.int b), some (.ref v), some (.ref (v + 1)), z7, z8] ∧ T[v]? = some (.lst (cs.map cd)) ∧ T[v + 1]? = some (.dK kvs) ∧ cs.length ≤ j ∧ kvs.length ≤ j ∧ (cs.map (·.1)).Nodup ∧ (∀ c ∈ cs, PackB c) ∧ ∀ x : Int, (valG kvs (.inl x)).isSome = decide (x ∈ cs.map (·.1)))
    ⟨kT2, [], [], none, none, rfl, gv, gd, Nat.le_refl _, Nat.le_refl _, List.nodup_nil, (fun c h => by cases h), fun x => by simp [valG_nil]⟩ (fun j r T hj hI => ?_) (fun r T hI => ?_)
  · obtain ⟨kT, cs, kvs, z7, z8, rfl, gT, gD, hcl, hkl, hnd, hcb, hval⟩ := hI
    walk_at "ck1"
    refine card_ok kT.pt hb.1 hb.2 y0 y1 fun c T1 hc k1 => ?_
    have kT1 := kT.trans k1
    have gT1 := k1.kp v _ (by omega) gT
    have gD1 := k1.kp (v + 1) _ (by omega) gD
    clear kT gT gD k1
    simp only [aft_nx, cd]
    walk_at "ck1"
    simp only [gD1, dkO_dK, Option.some.injEq, exists_eq_left', hval]
    by_cases h : c.1 ∈ cs.map (·.1)
    · simp only [h, decide_true, Bool.not_true, Bool.false_eq_true, if_false]
      exact ⟨kT1, cs, kvs, _, _, rfl, gT1, rfl, by omega, by omega, hnd, hcb, hval⟩
    · simp only [h, decide_false, Bool.not_false, if_true]
      walk_at "ck1"
      refine ⟨by rw [sizeLine_eq]; omega, ?_⟩
      have kT2 := kT1.setNew (v := v + 1) (o := .dK (putG kvs (.inl c.1) (.bl true))) hwS (by omega)
      have gT2 : (T1.set (v + 1) (.dK (putG kvs (.inl c.1) (.bl true))))[v]? = _ := (List.getElem?_set_ne (by omega)).trans gT1
      have gD2 : (T1.set (v + 1) (.dK (putG kvs (.inl c.1) (.bl true))))[v + 1]? = some (.dK (putG kvs (.inl c.1) (.bl true))) := List.getElem?_set_self (get_lt gD1)
      generalize T1.set (v + 1) (.dK (putG kvs (.inl c.1) (.bl true))) = T2 at kT2 gT2 gD2
      clear kT1 gT1 gD1
      simp only [aft_nx]
      walk_at "ck1"
      refine ⟨by rw [gT2]; rfl, _, by rw [gT2]; rfl, ?_⟩
      rw [List.length_map]
      refine take_ok kT2.pt (by omega) (by omega) fun i T3 i0 i1 k3 l3 => ?_
      have kT3 := kT2.trans k3
      have gT3 := k3.kp v _ (by omega) gT2
      have gD3 := k3.kp (v + 1) _ (by omega) gD2
      walk_at "ck1"
      refine wp_insert i0 (by omega) (by rw [gT3]; rfl) (by rw [List.length_map, sizeLine_eq]; omega) ?_
      have hpm : (cs.take i.toNat ++ [c] ++ cs.drop i.toNat).Perm (c :: cs) := by
        rw [List.append_assoc, List.singleton_append]
        refine List.perm_middle.trans ?_
        rw [List.take_append_drop]
      have hmp : (cs.map cd).take i.toNat ++ [D.tup [.int c.1, .int c.2.1, .int c.2.2]] ++ (cs.map cd).drop i.toNat = (cs.take i.toNat ++ [c] ++ cs.drop i.toNat).map cd := by
        simp [cd, List.map_take, List.map_drop]
      rw [hmp]
      have hmm := hpm.map (·.1)
      walk_at "ck1"
      refine ⟨kT3.setNew hwS hv, cs.take i.toNat ++ [c] ++ cs.drop i.toNat, putG kvs (.inl c.1) (.bl true), _, _, rfl, List.getElem?_set_self (get_lt gT3), (List.getElem?_set_ne (by omega)).trans gD3, ?_, ?_, ?_, ?_, ?_⟩
      · have := hpm.length_eq; simp only [List.length_cons] at this; omega
      · have := putG_len kvs (.inl c.1) (.bl true); omega
      · exact hmm.nodup_iff.mpr (by rw [List.map_cons]; exact List.nodup_cons.mpr ⟨h, hnd⟩)
      · intro x hx
        rcases List.mem_cons.mp (hpm.mem_iff.mp hx) with rfl | hx
        · exact hc
        · exact hcb x hx
      · intro x
        apply Bool.eq_iff_iff.mpr
        rw [decide_eq_true_eq, hmm.mem_iff, List.map_cons, List.mem_cons, valG_put]
        by_cases hx : x = c.1
        · subst hx; simp
        · have : (Sum.inl x : Key) ≠ .inl c.1 := fun e => hx (Sum.inl.inj e)
          rw [if_neg this, hval x, decide_eq_true_eq]
          exact ⟨.inr, fun h => h.resolve_left hx⟩
  · obtain ⟨kT, cs, kvs, z7, z8, rfl, gT, gD, hcl, hkl, hnd, hcb, hval⟩ := hI
    simp only [aft_nx]
    walk_at "ck1"
    exact q cs v T kT hv gT (by omega) hnd hcb

def lf : Tr → Card → Tr
  | .e, c => .n .e c .e
  | .n l t r, c => if c.1 < t.1 then .n (lf l c) t r else .n l t (lf r c)
theorem lf_perm : ∀ (t : Tr) (c : Card), (lf t c).cards.Perm (c :: t.cards)
  | .e, c => List.Perm.refl _
  | .n l t r, c => by
    unfold lf
    split
    · have := lf_perm l c
      simp only [Tr.cards]
      exact (this.append_right _)
    · have := lf_perm r c
      simp only [Tr.cards]
      exact ((this.cons t).append_left l.cards).trans (by
        have : (l.cards ++ t :: c :: r.cards).Perm (l.cards ++ c :: t :: r.cards) := (List.Perm.swap _ _ _).append_left _
        exact this.trans List.perm_middle)
theorem lf_mem {t : Tr} {c x : Card} : x ∈ (lf t c).cards ↔ x = c ∨ x ∈ t.cards := by rw [(lf_perm t c).mem_iff, List.mem_cons]
theorem lf_srt : ∀ {t : Tr} {c : Card}, Srt t.cards → (∀ x ∈ t.cards, x.1 ≠ c.1) → Srt (lf t c).cards
  | .e, c, _, _ => List.pairwise_singleton _ _
  | .n l t r, c, hs, hn => by
    obtain ⟨sl, sr, kl, kr⟩ := hs.node
    have htc := hn t (by simp [Tr.cards])
    have node : ∀ {l r : Tr}, Srt l.cards → Srt r.cards → (∀ x ∈ l.cards, x.1 < t.1) → (∀ x ∈ r.cards, t.1 < x.1) → Srt (Tr.n l t r).cards := fun {l r} sl sr kl kr => by
      unfold Srt Tr.cards
      rw [List.pairwise_append, List.pairwise_cons]
      refine ⟨sl, ⟨kr, sr⟩, fun x hx y hy => ?_⟩
      rcases List.mem_cons.mp hy with rfl | hy
      · exact kl x hx
      · have := kl x hx; have := kr y hy; omega
    unfold lf
    split
    · refine node (lf_srt sl fun x hx => hn x (by simp [Tr.cards, hx])) sr (fun x hx => ?_) kr
      rcases lf_mem.mp hx with rfl | hx
      · assumption
      · exact kl x hx
    · refine node sl (lf_srt sr fun x hx => hn x (by simp [Tr.cards, hx])) kl (fun x hx => ?_)
      rcases lf_mem.mp hx with rfl | hx
      · omega
      · exact kr x hx
theorem lf_crO : ∀ {t : Tr} {c : Card}, CrO t → (∀ x ∈ t.cards, Or x c) → CrO (lf t c)
  | .e, c, _, _ => ⟨trivial, trivial, (fun x h => by cases h), fun x h => by cases h⟩
  | .n l t r, c, h, ho => by
    obtain ⟨hl, hr, h1, h2⟩ := h
    unfold lf
    split
    · refine ⟨lf_crO hl fun x hx => ho x (by simp [Tr.cards, hx]), hr, fun x hx => ?_, h2⟩
      rcases lf_mem.mp hx with rfl | hx
      · exact ho t (by simp [Tr.cards])
      · exact h1 x hx
    · refine ⟨hl, lf_crO hr fun x hx => ho x (by simp [Tr.cards, hx]), h1, fun x hx => ?_⟩
      rcases lf_mem.mp hx with rfl | hx
      · exact ho t (by simp [Tr.cards])
      · exact h2 x hx
theorem leafed_ok {E : Exn → Store → Prop} {S : Store} {c : Card} : ∀ (n : Nat) (t : Tr) (Q : D → Store → Prop), t.ht < n → t.ht ≤ 150 → Q (lf t c).d S → wp (law_leafed_M n [t.d, cd c] S) Q E
  | 0, t, Q, h, _, _ => by omega
  | n + 1, t, Q, h, h2, q => by
    unfold law_leafed_M
    walk_at "ck1"
    rw [wp_eqE h2]
    walk_at "ck1"
    cases t with
    | e => walk_at "ck1"; exact q
    | n l t r =>
      simp only [Tr.ht] at h h2
      simp only [Tr.isE, Bool.false_eq_true, if_false, aft_nx]
      simp only [Tr.d]
      walk_at "ck1"
      simp only [aft_nx]
      simp only [cd]
      walk_at "ck1"
      unfold lf at q
      by_cases hc : c.1 < t.1
      · rw [if_pos hc] at q ⊢
        exact leafed_ok n l _ (by omega) (by omega) q
      · rw [if_neg hc] at q ⊢
        simp only [aft_nx]
        walk_at "ck1"
        exact leafed_ok n r _ (by omega) (by omega) q
theorem over_ok {S : Store} {a b : Card} {E : Exn → Store → Prop} {Q : D → Store → Prop} (q : Q (.bl (decide (Or a b))) S) : wp (law_over_M [cd a, cd b] S) Q E := by
  unfold law_over_M
  simp only [cd]
  walk_at "ck1"
  by_cases h1 : b.2.1 < a.2.1
  · have : Or a b := .inl h1
    simp only [this, decide_true] at q
    simp only [h1, decide_true, if_true]
    exact q
  · by_cases h2 : a.2.1 = b.2.1
    · by_cases h3 : a.1 < b.1
      · have : Or a b := .inr ⟨h2.symm, h3⟩
        simp only [this, decide_true] at q
        simpa [h1, h2, h3] using q
      · have : ¬ Or a b := by unfold Or; omega
        simp only [this, decide_false] at q
        simpa [h1, h2, h3] using q
    · have : ¬ Or a b := by unfold Or; omega
      simp only [this, decide_false] at q
      simpa [h1, h2] using q
theorem or_prefix {c : Card} : ∀ {rs : List Card}, rs.Pairwise Or → (∀ x ∈ rs.take (rs.filter fun x => decide (Or x c)).length, Or x c) ∧ ∀ x ∈ rs.drop (rs.filter fun x => decide (Or x c)).length, ¬ Or x c
  | [], _ => ⟨(fun x h => by cases h), fun x h => by cases h⟩
  | a :: rs, h => by
    have h := List.pairwise_cons.mp h
    have ih := or_prefix (c := c) h.2
    by_cases ha : Or a c
    · rw [List.filter_cons_of_pos (by simpa using ha)]
      simp only [List.length_cons, List.take_succ_cons, List.drop_succ_cons]
      refine ⟨fun x hx => ?_, ih.2⟩
      rcases List.mem_cons.mp hx with rfl | hx
      · exact ha
      · exact ih.1 x hx
    · have e : (a :: rs).filter (fun x => decide (Or x c)) = [] := by
        rw [List.filter_eq_nil_iff]
        intro x hx
        rcases List.mem_cons.mp hx with rfl | hx
        · simpa using ha
        · simp only [decide_eq_true_eq]
          exact fun hc => ha ((h.1 x hx).trans hc)
      rw [e]
      refine ⟨(fun x h => by cases h), fun x hx => ?_⟩
      simp only [List.length_nil, List.drop_zero] at hx
      rcases List.mem_cons.mp hx with rfl | hx
      · exact ha
      · exact fun hc => ha ((h.1 x hx).trans hc)
theorem by_ranks_ok {S : Store} {k : Nat} {cs : List Card} {E : Exn → Store → Prop} {Q : D → Store → Prop} (hk : S[k]? = some (.lst (cs.map cd))) (hl : cs.length ≤ 1000) (hn : (cs.map (·.1)).Nodup)
    (q : ∀ (rs : List Card) (v : Nat) (G : Store), (S ++ G)[v]? = some (.lst (rs.map cd)) → S.length ≤ v → rs.Perm cs → rs.Pairwise Or → Q (.ref v) (S ++ G)) : wp (law_by_ranks_M [.ref k] S) Q E := by
  have hkl := get_lt hk
  unfold law_by_ranks_M
  walk_at "ck1"
  simp only [aft_nx]
  walk_at "ck1"
  refine ⟨_, ls_of (get_old hk), ?_⟩
  refine wp_foL (xs := cs.map cd) (by rw [List.length_map]; unfold FU; omega) (fun i r T => ∃ (rs : List Card) (G : Store) (z : Option D), T = S ++ (.lst (rs.map cd)) :: G ∧ r = [some (.ref k), some (.ref S.length), z, none] ∧ rs.Perm (cs.take i) ∧ rs.Pairwise Or)
    ⟨[], [], none, rfl, rfl, List.Perm.refl _, .nil⟩ (fun i r T hI => ?_) (fun i x r T hx hI => ?_) (fun r T hI => ?_)
  · obtain ⟨rs, G, z, rfl, _⟩ := hI; exact ls_of (get_old hk)
  · obtain ⟨rs, G, z, rfl, rfl, hp, ho⟩ := hI
    obtain ⟨c, hc, rfl⟩ := cd_get hx
    have hi := get_lt hc
    have hrl : rs.length = i := by rw [hp.length_eq, List.length_take]; omega
    have g1 : (S ++ (O.lst (rs.map cd)) :: G)[S.length]? = some (.lst (rs.map cd)) := by simp
    walk_at "ck1"
    refine ⟨by rw [g1]; rfl, _, ls_of g1, ?_⟩
    refine lcGo_list (xs := rs.map cd) (f := fltD fun x => decide (Or x c)) rfl (by rw [List.length_map]; omega) (ls_of g1) (fun j x acc hx => ?_) ?_
    · obtain ⟨d, hd, rfl⟩ := cd_get hx
      unfold lcT
      walk_at "ck1"
      refine over_ok ?_
      walk_at "ck1"
      by_cases h : Or d c <;> simp [h, fltD_cd, cd]
    rw [lc_flt]
    walk_at "ck1"
    refine ⟨_, len_ls ls_new, ?_⟩
    rw [List.length_map]
    have hkl2 : (rs.filter fun x => decide (Or x c)).length ≤ rs.length := List.length_filter_le _ _
    obtain ⟨p1, p2⟩ := or_prefix (c := c) ho
    generalize (rs.filter fun x => decide (Or x c)).length = n at hkl2 p1 p2
    refine wp_insert (by omega) (by omega) (xs := rs.map cd) (by rw [get_old g1]; rfl) (by rw [List.length_map, sizeLine_eq]; omega) ?_
    rw [Int.toNat_natCast]
    have hmp : (rs.map cd).take n ++ [cd c] ++ (rs.map cd).drop n = (rs.take n ++ [c] ++ rs.drop n).map cd := by simp [List.map_take, List.map_drop]
    rw [hmp]
    walk_at "ck1"
    refine ⟨rs.take n ++ [c] ++ rs.drop n, G ++ [O.lst ((rs.filter fun x => decide (Or x c)).map cd)], ?_, _, rfl, ?_, ?_⟩
    · simp
    · rw [take_succ hc, List.append_assoc, List.singleton_append]
      refine List.perm_middle.trans ?_
      rw [List.take_append_drop]
      exact (hp.cons c).trans (List.perm_append_singleton _ _).symm
    · have key : ∀ x ∈ rs, x.1 ≠ c.1 := fun x hx e => by
        have hx2 := hp.mem_iff.mp hx
        obtain ⟨j, hj⟩ := List.mem_iff_getElem?.mp hx2
        have hji : j < i := by have := get_lt hj; rw [List.length_take] at this; omega
        have hj2 : cs[j]? = some x := by rw [List.getElem?_take_of_lt hji] at hj; exact hj
        have a1 : (cs.map (·.1))[j]? = some c.1 := by rw [List.getElem?_map, hj2, ← e]; rfl
        have a2 : (cs.map (·.1))[i]? = some c.1 := by rw [List.getElem?_map, hc]; rfl
        have := (List.getElem?_inj (by rw [List.length_map]; omega) hn).mp (a1.trans a2.symm)
        omega
      rw [List.append_assoc, List.singleton_append, List.pairwise_append, List.pairwise_cons]
      have hsp := ho
      rw [← List.take_append_drop n rs, List.pairwise_append] at hsp
      refine ⟨hsp.1, ⟨fun u hu => ?_, hsp.2.1⟩, fun u hu y hy => ?_⟩
      · exact (Or.total (key u (List.mem_of_mem_drop hu))).resolve_left (p2 u hu)
      · rcases List.mem_cons.mp hy with rfl | hy
        · exact p1 u hu
        · exact hsp.2.2 u hu y hy
  · obtain ⟨rs, G, z, rfl, rfl, hp, ho⟩ := hI
    rw [List.length_map, List.take_length] at hp
    simp only [aft_nx]
    walk_at "ck1"
    exact q rs _ _ (by simp) (Nat.le_refl _) hp ho
end Lib
end CK
end

section
set_option Elab.async false
set_option linter.all false
set_option exponentiation.threshold 100000
set_option maxRecDepth 100000
set_option maxHeartbeats 4000000
namespace CK
namespace Lib
open PySem PySem.Spec PyProof.Rows L2
local macro_rules | `(tactic| walk_at "ck") => `(tactic| try simp only [wp_seq, wp_asg, wp_if, wp_ret, wp_retN, wp_drop, wp_fn, wp_var0, wp_varS, wp_mC, wp_m2, wp_m1, wp_nil, wp_cons, wp_args, wp_call, wp_tst, wp_and, wp_or, wp_not, wp_andV, wp_orV, wp_notV, wp_ifE, wp_chain, wp_nx, wp_brk, wp_cnt, aft_nx, aft_rt, aft_bk, aft_ct, aft_xc, fin_rt, fin_nx, fin_xc, fin_bk, fin_ct, wp_gNm, wp_gTp, wp_gsNil, wp_gsCons, wp_gSub, wp_par, wp_par3, wp_i0, wp_iC, wp_addI, wp_addT, wp_mulI, wp_neg, wp_tup, wp_lst, sz0, sz1, sz2, sz3, sz4, sz5, sz6, sz7, sz8, wp_yes, wp_ixT, wp_ixL, wp_setL, wp_isi, tyN, isi_ii, isi_ib, isi_bi, isi_bb, isi_nb, isi_ni, isi_ns, isi_nt, isi_nl, isi_nd, isi_bs, isi_bt, isi_bl, isi_bd, isi_is, isi_it, isi_il, isi_id, isi_sb, isi_si, isi_ss, isi_st, isi_sl, isi_sd, isi_tb, isi_ti, isi_ts, isi_tt, isi_tl, isi_td, isi_lb, isi_li, isi_ls, isi_lt, isi_ll, isi_ld, isi_db, isi_di, isi_ds, isi_dt, isi_dl, isi_dd, wp_slice, wp_noPart, wp_part, asInt_int, wp_slT, wp_slL, wp_mulT, wp_src, wp_lc, wipeE, D.ref.injEq, D.tup.injEq, reduceCtorEq, false_and, exists_false, false_or, or_false, cpt2, cpt3, cpt4, cpt5, cpt6, cpt7, cpt8, cpt9, cpt10, cpt11, cpt12, cpt13, cpt14, cpt15, cpt16, cpt17, cpt18, cpt19, cpt20, cpt24, cpt30, cpt36, cpt40, cpt48, cpt50, cpt58, cpt59, cpt60, wp_extend, wp_revL, exists_and_left, wp_ML, wp_ML0, isLs_ref, wp_append, wp_pop, wp_tupleR, wp_tupleT, wp_listR, wp_listT, wp_all, wp_any, wp_sum, wp_notB, wp_isB, wp_isN, wp_notN, Option.isSome_some, wp_rng1, wp_rng2, wp_rng3, lsAt, lsO_lst, lsO_fro, lstO_lst, wp_lenR, lenO_lst, lenO_fro, lenO_dK, List.length_map, List.getElem?_cons_zero, List.getElem?_cons_succ, wp_dnew, wp_dget, wp_din, wp_dnin, wp_dg1, wp_dput, wp_dpop, wp_MD, isDk_ref, dkO_dK, keyD_int, keyD_str, wp_lrg1, wp_trg1, wp_MS, isStrB_str, wp_sindex, wp_isiT, wp_strI, wp_eqS, wp_neS, wp_eqI, wp_neI, wp_eqB, wp_neB, wp_abs, wp_intI, wp_intB, wp_max2, wp_min2, wp_lenT, wp_for, wp_ok, wp_bad, lp_nx, lp_ct, lp_bk, lp_rt, lp_xc, asBl_bl, at0, at1, at2, List.map_cons, List.map_nil, List.cons_append, List.nil_append, List.length_cons, List.length_nil, List.replicate, List.set_cons_zero, List.set_cons_succ, Nat.reduceAdd, Int.reduceToNat, Int.reducePow, Int.reduceNeg, Int.reduceMul, Int.reduceAdd, Int.reduceSub, Int.reduceMod, Int.reduceDiv, Int.reduceLT, Int.reduceLE, Int.zero_mul, Int.zero_add, Int.cast_ofNat_Int, Int.reduceBEq, Nat.reduceLeDiff, Nat.reduceEqDiff, true_and, and_true, Nat.reduceSub, if_true, Option.some.injEq, exists_eq_left', Bool.not_true, Bool.not_false, decide_eq_true_eq, Bool.false_eq_true, if_false])
local macro_rules | `(tactic| walk_at "cks") => `(tactic| try simp only [wp_seq, wp_asg, wp_if, wp_ret, wp_retN, wp_drop, wp_fn, wp_var0, wp_varS, wp_mC, wp_m2, wp_m1, wp_nil, wp_cons, wp_args, wp_call, wp_tst, wp_and, wp_or, wp_not, wp_andV, wp_orV, wp_notV, wp_ifE, wp_chain, wp_nx, wp_brk, wp_cnt, aft_nx, aft_rt, aft_bk, aft_ct, aft_xc, fin_rt, fin_nx, fin_xc, fin_bk, fin_ct, wp_gNm, wp_gTp, wp_gsNil, wp_gsCons, wp_gSub, wp_par, wp_par3, wp_i0, wp_iC, wp_addI, wp_addT, wp_mulI, wp_neg, wp_tup, wp_lst, sz0, sz1, sz2, sz3, sz4, sz5, sz6, sz7, sz8, wp_yes, wp_ixT, wp_ixL, wp_setL, wp_isi, tyN, isi_ii, isi_ib, isi_bi, isi_bb, isi_nb, isi_ni, isi_ns, isi_nt, isi_nl, isi_nd, isi_bs, isi_bt, isi_bl, isi_bd, isi_is, isi_it, isi_il, isi_id, isi_sb, isi_si, isi_ss, isi_st, isi_sl, isi_sd, isi_tb, isi_ti, isi_ts, isi_tt, isi_tl, isi_td, isi_lb, isi_li, isi_ls, isi_lt, isi_ll, isi_ld, isi_db, isi_di, isi_ds, isi_dt, isi_dl, isi_dd, wp_slice, wp_noPart, wp_part, asInt_int, wp_slT, wp_slL, wp_mulT, wp_src, wp_lc, wipeE, D.ref.injEq, D.tup.injEq, reduceCtorEq, false_and, exists_false, false_or, or_false, cpt2, cpt3, cpt4, cpt5, cpt6, cpt7, cpt8, cpt9, cpt10, cpt11, cpt12, cpt13, cpt14, cpt15, cpt16, cpt17, cpt18, cpt19, cpt20, cpt24, cpt30, cpt36, cpt40, cpt48, cpt50, cpt58, cpt59, cpt60, wp_extend, wp_revL, exists_and_left, wp_ML, wp_ML0, isLs_ref, wp_append, wp_pop, wp_tupleR, wp_tupleT, wp_listR, wp_listT, wp_all, wp_any, wp_sum, wp_notB, wp_isB, wp_isN, wp_notN, Option.isSome_some, wp_rng1, wp_rng2, wp_rng3, lsAt, lsO_lst, lsO_fro, lstO_lst, wp_lenR, lenO_lst, lenO_fro, lenO_dK, List.length_map, List.getElem?_cons_zero, List.getElem?_cons_succ, wp_dnew, wp_dget, wp_din, wp_dnin, wp_dg1, wp_dput, wp_dpop, wp_MD, isDk_ref, dkO_dK, keyD_int, keyD_str, wp_lrg1, wp_trg1, wp_MS, isStrB_str, wp_sindex, wp_isiT, wp_strI, wp_eqS, wp_neS, wp_eqI, wp_neI, wp_eqB, wp_neB, wp_abs, wp_intI, wp_intB, wp_max2, wp_min2, wp_lenT, wp_for, wp_ok, wp_bad, lp_nx, lp_ct, lp_bk, lp_rt, lp_xc, asBl_bl, at0, at1, at2, List.map_cons, List.map_nil, List.cons_append, List.nil_append, List.length_cons, List.length_nil, List.replicate, List.set_cons_zero, List.set_cons_succ, Nat.reduceAdd, Int.reduceToNat, Int.reducePow, Int.reduceNeg, Int.reduceMul, Int.reduceAdd, Int.reduceSub, Int.reduceMod, Int.reduceDiv, Int.reduceLT, Int.reduceLE, Int.zero_mul, Int.zero_add, Int.cast_ofNat_Int, Int.reduceBEq, Nat.reduceLeDiff, Nat.reduceEqDiff, true_and, and_true, Nat.reduceSub, if_true, Option.some.injEq, exists_eq_left', Bool.not_true, Bool.not_false, decide_eq_true_eq, Bool.false_eq_true, if_false, *])
local macro_rules | `(tactic| walk_at "ck1") => `(tactic| try simp only [wp_seq, wp_asg, wp_if, wp_ret, wp_retN, wp_drop, wp_fn, wp_var0, wp_varS, wp_mC, wp_m2, wp_m1, wp_nil, wp_cons, wp_args, wp_call, wp_tst, wp_and, wp_or, wp_not, wp_andV, wp_orV, wp_notV, wp_ifE, wp_chain, wp_nx, wp_brk, wp_cnt, aft_rt, aft_bk, aft_ct, aft_xc, fin_rt, fin_nx, fin_xc, fin_bk, fin_ct, wp_gNm, wp_gTp, wp_gsNil, wp_gsCons, wp_gSub, wp_par, wp_par3, wp_i0, wp_iC, wp_addI, wp_addT, wp_mulI, wp_neg, wp_tup, wp_lst, sz0, sz1, sz2, sz3, sz4, sz5, sz6, sz7, sz8, wp_yes, wp_ixT, wp_ixL, wp_setL, wp_isi, tyN, isi_ii, isi_ib, isi_bi, isi_bb, isi_nb, isi_ni, isi_ns, isi_nt, isi_nl, isi_nd, isi_bs, isi_bt, isi_bl, isi_bd, isi_is, isi_it, isi_il, isi_id, isi_sb, isi_si, isi_ss, isi_st, isi_sl, isi_sd, isi_tb, isi_ti, isi_ts, isi_tt, isi_tl, isi_td, isi_lb, isi_li, isi_ls, isi_lt, isi_ll, isi_ld, isi_db, isi_di, isi_ds, isi_dt, isi_dl, isi_dd, wp_slice, wp_noPart, wp_part, asInt_int, wp_slT, wp_slL, wp_mulT, wp_src, wp_lc, wipeE, D.ref.injEq, D.tup.injEq, reduceCtorEq, false_and, exists_false, false_or, or_false, cpt2, cpt3, cpt4, cpt5, cpt6, cpt7, cpt8, cpt9, cpt10, cpt11, cpt12, cpt13, cpt14, cpt15, cpt16, cpt17, cpt18, cpt19, cpt20, cpt24, cpt30, cpt36, cpt40, cpt48, cpt50, cpt58, cpt59, cpt60, wp_extend, wp_revL, exists_and_left, wp_ML, wp_ML0, isLs_ref, wp_append, wp_pop, wp_tupleR, wp_tupleT, wp_listR, wp_listT, wp_all, wp_any, wp_sum, wp_notB, wp_isB, wp_isN, wp_notN, Option.isSome_some, wp_rng1, wp_rng2, wp_rng3, lsAt, lsO_lst, lsO_fro, lstO_lst, wp_lenR, lenO_lst, lenO_fro, lenO_dK, List.length_map, List.getElem?_cons_zero, List.getElem?_cons_succ, wp_dnew, wp_dget, wp_din, wp_dnin, wp_dg1, wp_dput, wp_dpop, wp_MD, isDk_ref, dkO_dK, keyD_int, keyD_str, wp_lrg1, wp_trg1, wp_MS, isStrB_str, wp_sindex, wp_isiT, wp_strI, wp_eqS, wp_neS, wp_eqI, wp_neI, wp_eqB, wp_neB, wp_abs, wp_intI, wp_intB, wp_max2, wp_min2, wp_lenT, wp_for, wp_ok, wp_bad, lp_nx, lp_ct, lp_bk, lp_rt, lp_xc, asBl_bl, at0, at1, at2, List.map_cons, List.map_nil, List.cons_append, List.nil_append, List.length_cons, List.length_nil, List.replicate, List.set_cons_zero, List.set_cons_succ, Nat.reduceAdd, Int.reduceToNat, Int.reducePow, Int.reduceNeg, Int.reduceMul, Int.reduceAdd, Int.reduceSub, Int.reduceMod, Int.reduceDiv, Int.reduceLT, Int.reduceLE, Int.zero_mul, Int.zero_add, Int.cast_ofNat_Int, Int.reduceBEq, Nat.reduceLeDiff, Nat.reduceEqDiff, true_and, and_true, Nat.reduceSub, if_true, Option.some.injEq, exists_eq_left', Bool.not_true, Bool.not_false, decide_eq_true_eq, Bool.false_eq_true, if_false])
def cards_within_M : Nat → List D → M D
 | 0 => fun _ _ => .bad
 | n + 1 => mFn 7
   (mSeq (mIf (mTst (m2 eqM (mVar 0) (mArgs tupM mNil)))
   (mRet (mArgs lstM mNil))
   mNx)
   (mSeq (mAsg (mVar 0) (gTp 3 (gsCons (gNm 3) (gsCons (gNm 4) (gsCons (gNm 5) gsNil)))))
   (mSeq (mAsg (mArgs lstM mNil) (gNm 6))
   (mSeq (mIf (mTst (m2 ltM (mVar 1) (m2 ixM (mVar 4) (mC (.int 0)))))
   (mDrop (mML extendM (mVar 6) (mCons (mCall 3 (cards_within_M n) (mCons (mVar 3) (mCons (mVar 1) (mCons (mVar 2) mNil)))) mNil)))
   mNx)
   (mSeq (mIf (mTst (mChain leM leM (mVar 1) (m2 ixM (mVar 4) (mC (.int 0))) (mVar 2)))
   (mDrop (mML appendM (mVar 6) (mCons (mVar 4) mNil)))
   mNx)
   (mSeq (mIf (mTst (m2 ltM (m2 ixM (mVar 4) (mC (.int 0))) (mVar 2)))
   (mDrop (mML extendM (mVar 6) (mCons (mCall 3 (cards_within_M n) (mCons (mVar 5) (mCons (mVar 1) (mCons (mVar 2) mNil)))) mNil)))
   mNx)
   (mRet (mVar 6))))))))
def topmost_M : List D → M D := mFn 3
 (mSeq (mAsg (mC (.int 0)) (gNm 1))
 (mSeq (mFor (mRng2 (mCons (mC (.int 1)) (mCons (mArgs lenM (mCons (mVar 0) mNil)) mNil))) (gNm 2)
 (mIf (mTst (mCall 2 outranks_M (mCons (m2 ixM (mVar 0) (mVar 2)) (mCons (m2 ixM (mVar 0) (mVar 1)) mNil))))
 (mAsg (mVar 2) (gNm 1))
 mNx))
 (mRet (mVar 1))))
def top_within_M : List D → M D := mFn 4
 (mSeq (mAsg (mCall 3 (cards_within_M 80) (mCons (mVar 0) (mCons (mVar 1) (mCons (mVar 2) mNil)))) (gNm 3))
 (mSeq (mIf (mTst (m2 eqM (mVar 3) (mArgs lstM mNil)))
 (mRet (mC .non))
 mNx)
 (mRet (m2 ixM (mVar 3) (mCall 1 topmost_M (mCons (mVar 3) mNil))))))
def parts_on_road_M : List D → M D := mFn 3
 (mSeq (mAsg (mArgs lstM mNil) (gNm 2))
 (mSeq (mWhile (mAnd (mTst (m2 neM (mVar 0) (mArgs tupM mNil))) (mOr (mTst (m2 eqM (mVar 2) (mArgs lstM mNil))) (mTst (m2 neM (m2 ixM (m2 ixM (m2 ixM (mVar 2) (m1 negM (mC (.int 1)))) (mC (.int 1))) (mC (.int 0))) (mVar 1)))))
 (mSeq (mDrop (mML appendM (mVar 2) (mCons (mVar 0) mNil)))
 (mIf (mTst (m2 ltM (mVar 1) (m2 ixM (m2 ixM (mVar 0) (mC (.int 1))) (mC (.int 0)))))
 (mAsg (m2 ixM (mVar 0) (mC (.int 0))) (gNm 0))
 (mIf (mTst (m2 gtM (mVar 1) (m2 ixM (m2 ixM (mVar 0) (mC (.int 1))) (mC (.int 0)))))
 (mAsg (m2 ixM (mVar 0) (mC (.int 2))) (gNm 0))
 mNx))))
 (mRet (mVar 2))))
def road_M : List D → M D := mFn 3
 (mRet (mLc (mSrc (mCall 2 parts_on_road_M (mCons (mVar 0) (mCons (mVar 1) mNil)))) (gNm 2) mYes (m2 ixM (m2 ixM (mVar 2) (mC (.int 1))) (mC (.int 0))) [2]))

def inB (lo hi : Int) (c : Card) : Bool := decide (lo ≤ c.1) && decide (c.1 ≤ hi)
theorem inB_iff {lo hi : Int} {c : Card} : inB lo hi c = true ↔ lo ≤ c.1 ∧ c.1 ≤ hi := by unfold inB; rw [Bool.and_eq_true, decide_eq_true_eq, decide_eq_true_eq]
theorem cards_within_ok {E : Exn → Store → Prop} {lo hi : Int} : ∀ (n : Nat) (t : Tr) (S : Store) (Q : D → Store → Prop), t.ht < n → t.ht ≤ 150 → t.cards.length ≤ 1000 → Srt t.cards →
    (∀ (k : Nat) (G : Store), (S ++ G)[k]? = some (.lst ((t.cards.filter (inB lo hi)).map cd)) → S.length ≤ k → Q (.ref k) (S ++ G)) → wp (cards_within_M n [t.d, .int lo, .int hi] S) Q E
  | 0, t, S, Q, h, _, _, _, _ => by omega
  | n + 1, t, S, Q, h, h2, hl, hs, q => by
    unfold cards_within_M
    walk_at "ck1"
    rw [wp_eqE h2]
    walk_at "ck1"
    cases t with
    | e => walk_at "ck1"; exact q _ _ get_new (Nat.le_refl _)
    | n l c r =>
      obtain ⟨sl, sr, kl, kr⟩ := hs.node
      simp only [Tr.ht] at h h2
      have hlc : l.cards.length + r.cards.length + 1 ≤ 1000 := by simp only [Tr.cards, List.length_append, List.length_cons] at hl; omega
      simp only [Tr.isE, Bool.false_eq_true, if_false, aft_nx]
      simp only [Tr.d]
      walk_at "ck1"
      simp only [aft_nx]
      walk_at "ck1"
      have fl : (l.cards.filter (inB lo hi)).length ≤ l.cards.length := List.length_filter_le _ _
      have fr : (r.cards.filter (inB lo hi)).length ≤ r.cards.length := List.length_filter_le _ _
      simp only [aft_nx, wp_seq]
      refine wp_mono (Q := fun f T => ∃ G : Store, f = .nx [some (.tup [l.d, cd c, r.d]), some (.int lo), some (.int hi), some l.d, some (cd c), some r.d, some (.ref S.length)] ∧ T = S ++ O.lst ((l.cards.filter (inB lo hi)).map cd) :: G) ?_ ?_
      · simp only [cd]
        walk_at "ck1"
        by_cases c1 : lo < c.1
        · rw [if_pos c1]
          refine ⟨by rw [get_new]; rfl, ?_⟩
          refine cards_within_ok n l _ _ (by omega) (by omega) (by omega) sl fun k G g b => ?_
          walk_at "ck1"
          refine ⟨_, by rw [g]; rfl, _, by rw [get_old get_new]; rfl, by rw [List.length_map, sizeLine_eq]; simp only [List.length_nil]; omega, G, ?_⟩
          simp
        · rw [if_neg c1]
          have e : l.cards.filter (inB lo hi) = [] := flt_no fun x hx => by rw [inB_iff]; have := kl x hx; omega
          refine ⟨[], ?_⟩
          rw [e]; rfl
      · rintro f T ⟨G, rfl, rfl⟩
        have g1 : ∀ (xs : List Card) (G : Store), (S ++ O.lst (xs.map cd) :: G)[S.length]? = some (.lst (xs.map cd)) := fun xs G => by simp
        have s1 : ∀ (xs ys : List Card) (G : Store), (S ++ O.lst (xs.map cd) :: G).set S.length (.lst (ys.map cd)) = S ++ O.lst (ys.map cd) :: G := fun xs ys G => by simp
        simp only [aft_nx, wp_seq]
        refine wp_mono (Q := fun f T => f = .nx [some (.tup [l.d, cd c, r.d]), some (.int lo), some (.int hi), some l.d, some (cd c), some r.d, some (.ref S.length)] ∧ T = S ++ O.lst ((l.cards.filter (inB lo hi) ++ [c].filter (inB lo hi)).map cd) :: G) ?_ ?_
        · simp only [cd]
          walk_at "ck1"
          by_cases c1 : lo ≤ c.1
          · by_cases c2 : c.1 ≤ hi
            · have e : [c].filter (inB lo hi) = [c] := by rw [List.filter_cons_of_pos (inB_iff.mpr ⟨c1, c2⟩)]; rfl
              simp only [c1, c2, decide_true, if_true, e]
              walk_at "ck1"
              refine ⟨by rw [g1]; rfl, _, by rw [g1]; rfl, by rw [List.length_map, sizeLine_eq]; omega, ?_⟩
              have e2 : (l.cards.filter (inB lo hi)).map cd ++ [D.tup [.int c.1, .int c.2.1, .int c.2.2]] = (l.cards.filter (inB lo hi) ++ [c]).map cd := by simp [cd]
              rw [e2, s1]
            · have e : [c].filter (inB lo hi) = [] := by rw [List.filter_cons_of_neg (by rw [inB_iff]; omega)]; rfl
              simp only [c1, c2, decide_true, decide_false, if_true, Bool.false_eq_true, if_false, e, List.append_nil]
              walk_at "ck1"
          · have e : [c].filter (inB lo hi) = [] := by rw [List.filter_cons_of_neg (by rw [inB_iff]; omega)]; rfl
            simp only [c1, decide_false, Bool.false_eq_true, if_false, e, List.append_nil]
            walk_at "ck1"
        · rintro f T ⟨rfl, rfl⟩
          have hf : (Tr.n l c r).cards.filter (inB lo hi) = l.cards.filter (inB lo hi) ++ [c].filter (inB lo hi) ++ r.cards.filter (inB lo hi) := by
            rw [Tr.cards, List.filter_append, List.append_assoc]
            congr 1
            rw [← List.singleton_append (x := c), List.filter_append]
          have fc : ([c].filter (inB lo hi)).length ≤ 1 := List.length_filter_le _ _
          simp only [aft_nx, wp_seq]
          refine wp_mono (Q := fun f T => ∃ G : Store, f = .nx [some (.tup [l.d, cd c, r.d]), some (.int lo), some (.int hi), some l.d, some (cd c), some r.d, some (.ref S.length)] ∧ T = S ++ O.lst (((Tr.n l c r).cards.filter (inB lo hi)).map cd) :: G) ?_ ?_
          · simp only [cd]
            walk_at "ck1"
            by_cases c1 : c.1 < hi
            · rw [if_pos c1]
              refine ⟨by rw [g1]; rfl, ?_⟩
              refine cards_within_ok n r _ _ (by omega) (by omega) (by omega) sr fun k G2 g b => ?_
              walk_at "ck1"
              refine ⟨_, by rw [g]; rfl, _, by rw [get_old (g1 _ _)]; rfl, by rw [List.length_map, List.length_map, List.length_append, sizeLine_eq]; omega, G ++ G2, ?_⟩
              rw [← List.map_append, ← hf, List.append_assoc, List.cons_append, s1]
            · rw [if_neg c1]
              have e : r.cards.filter (inB lo hi) = [] := flt_no fun x hx => by rw [inB_iff]; have := kr x hx; omega
              refine ⟨G, ?_⟩
              rw [hf, e, List.append_nil]
          · rintro f T ⟨G, rfl, rfl⟩
            simp only [aft_nx]
            walk_at "ck1"
            exact q _ _ (g1 _ _) (Nat.le_refl _)
theorem topmost_ok {S : Store} {k : Nat} {cs : List Card} {E : Exn → Store → Prop} {Q : D → Store → Prop} (hc : lsAt S k = some (cs.map cd)) (hl : cs.length ≤ 1000) (hne : 0 < cs.length) (hn : (cs.map (·.1)).Nodup)
    (q : ∀ (b : Nat) (hb : b < cs.length), (∀ x ∈ cs, x = cs[b] ∨ Or cs[b] x) → Q (.int b) S) : wp (topmost_M [.ref k] S) Q E := by
  unfold topmost_M
  walk_at "ck1"
  simp only [aft_nx]
  walk_at "ck1"
  refine ⟨_, len_ls hc, _, _, rfl, ⟨by decide, by decide⟩, ⟨by omega, by rw [List.length_map]; omega⟩, ?_⟩
  rw [List.length_map]
  refine wp_foR (by unfold FU; omega) (fun i r T => T = S ∧ ∃ (b : Nat) (z : Option D), r = [some (.ref k), some (.int b), z] ∧ ∃ hb : b < cs.length, ∀ x ∈ cs.take (i + 1), x = cs[b] ∨ Or cs[b] x) ⟨rfl, 0, none, rfl, hne, fun x h => ?_⟩ (fun i r T hi hI => ?_) (fun r T hI => ?_)
  · left
    cases cs with
    | nil => simp at hne
    | cons a as => simpa using h
  · obtain ⟨rfl, b, z, rfl, hb, h1⟩ := hI
    have hi' : i + 1 < cs.length := by omega
    have ati : atI (cs.map cd) (1 + (i : Nat)) = some (cd cs[i + 1]) := at_of' (j := i + 1) (by omega) (by rw [List.getElem?_map, List.getElem?_eq_getElem hi']; rfl)
    have atb : atI (cs.map cd) (b : Nat) = some (cd cs[b]) := at_of' rfl (by rw [List.getElem?_map, List.getElem?_eq_getElem hb]; rfl)
    have tk := take_succ (List.getElem?_eq_getElem hi')
    walk_at "ck1"
    refine ⟨_, hc, _, ati, _, hc, _, atb, ?_⟩
    refine outranks_ok ?_
    walk_at "ck1"
    by_cases ho : Or cs[i + 1] cs[b]
    · rw [if_pos ho]
      refine ⟨i + 1, _, by rw [show (1 : Int) + (i : Nat) = ((i + 1 : Nat) : Int) by omega], hi', fun x hx => ?_⟩
      rw [tk] at hx
      rcases List.mem_append.mp hx with h | h
      · rcases h1 x h with rfl | h
        · exact .inr ho
        · exact .inr (ho.trans h)
      · rw [List.mem_singleton] at h; exact .inl h
    · rw [if_neg ho]
      refine ⟨b, _, rfl, hb, fun x hx => ?_⟩
      rw [tk] at hx
      rcases List.mem_append.mp hx with h | h
      · exact h1 x h
      · rw [List.mem_singleton] at h
        by_cases hbi : b = i + 1
        · left; subst hbi; exact h
        · right
          rw [h]
          have : cs[b].1 ≠ cs[i + 1].1 := fun e => by
            have a1 : (cs.map (·.1))[b]? = some cs[b].1 := by rw [List.getElem?_map, List.getElem?_eq_getElem hb]; rfl
            have a2 : (cs.map (·.1))[i + 1]? = some cs[b].1 := by rw [List.getElem?_map, List.getElem?_eq_getElem hi', e]; rfl
            exact hbi ((List.getElem?_inj (by rw [List.length_map]; omega) hn).mp (a1.trans a2.symm))
          exact (Or.total this).resolve_right ho
  · obtain ⟨rfl, b, z, rfl, hb, h1⟩ := hI
    rw [List.take_of_length_le (by omega)] at h1
    simp only [aft_nx]
    walk_at "ck1"
    exact q b hb h1
theorem srt_nodup {cs : List Card} (h : Srt cs) : (cs.map (·.1)).Nodup := by
  unfold List.Nodup
  rw [List.pairwise_map]
  exact h.imp fun h => by omega
theorem top_within_ok {S : Store} {t : Tr} {lo hi : Int} {E : Exn → Store → Prop} {Q : D → Store → Prop} (hl : t.cards.length < 80) (hs : Srt t.cards)
    (q0 : (∀ c ∈ t.cards, ¬ (lo ≤ c.1 ∧ c.1 ≤ hi)) → ∀ G, Q .non (S ++ G))
    (q1 : ∀ c ∈ t.cards, lo ≤ c.1 → c.1 ≤ hi → (∀ x ∈ t.cards, lo ≤ x.1 → x.1 ≤ hi → x = c ∨ Or c x) → ∀ G, Q (cd c) (S ++ G)) : wp (top_within_M [t.d, .int lo, .int hi] S) Q E := by
  have hh := t.ht_le
  unfold top_within_M
  walk_at "ck1"
  refine cards_within_ok 80 t S _ (by omega) (by omega) (by omega) hs fun k G g b => ?_
  simp only [aft_nx]
  walk_at "ck1"
  refine eq_nil (ls_app (ls_of g)) ls_new ?_
  walk_at "ck1"
  have fl : (t.cards.filter (inB lo hi)).length ≤ t.cards.length := List.length_filter_le _ _
  cases hf : t.cards.filter (inB lo hi) with
  | nil =>
    simp only [List.isEmpty_nil, if_true]
    rw [List.append_assoc]
    exact q0 (fun c hc hb => by have := List.filter_eq_nil_iff.mp hf c hc; exact this (inB_iff.mpr hb)) _
  | cons a as =>
    simp only [List.isEmpty_cons, Bool.false_eq_true, if_false, aft_nx]
    walk_at "ck1"
    rw [hf] at g fl
    refine topmost_ok (cs := a :: as) (ls_app (ls_of g)) (by omega) (by simp) (by rw [← hf]; exact srt_nodup (hs.filter _)) fun b hb h1 => ?_
    walk_at "ck1"
    refine ⟨_, ls_app (ls_of g), _, at_of' rfl (by rw [List.getElem?_map, List.getElem?_eq_getElem hb]; rfl), ?_⟩
    have hm : (a :: as)[b] ∈ t.cards.filter (inB lo hi) := by rw [hf]; exact List.getElem_mem _
    have hm2 := List.mem_filter.mp hm
    have hm3 := inB_iff.mp hm2.2
    rw [List.append_assoc]
    exact q1 _ hm2.1 hm3.1 hm3.2 (fun x hx x0 x1 => h1 x (by rw [← hf]; exact List.mem_filter.mpr ⟨hx, inB_iff.mpr ⟨x0, x1⟩⟩)) _

def prts : Tr → Int → List Tr
  | .e, _ => []
  | .n l c r, key => .n l c r :: (if key < c.1 then prts l key else if c.1 < key then prts r key else [])
def topK : Tr → Int
  | .e => 0
  | .n _ c _ => c.1
theorem prts_ne : ∀ {t : Tr} {key : Int} {u : Tr}, u ∈ prts t key → ∃ l c r, u = .n l c r ∧ c ∈ t.cards ∧ u.ht ≤ t.ht
  | .e, _, u, h => by cases h
  | .n l c r, key, u, h => by
    unfold prts at h
    rcases List.mem_cons.mp h with rfl | h
    · exact ⟨l, c, r, rfl, by simp [Tr.cards], Nat.le_refl _⟩
    · split at h
      · obtain ⟨a, b, d, e, hb, hh⟩ := prts_ne h; exact ⟨a, b, d, e, by simp [Tr.cards, hb], by simp only [Tr.ht]; omega⟩
      · split at h
        · obtain ⟨a, b, d, e, hb, hh⟩ := prts_ne h; exact ⟨a, b, d, e, by simp [Tr.cards, hb], by simp only [Tr.ht]; omega⟩
        · cases h
theorem prts_len : ∀ (t : Tr) (key : Int), (prts t key).length ≤ t.ht
  | .e, _ => Nat.le_refl _
  | .n l c r, key => by
    have h1 := prts_len l key
    have h2 := prts_len r key
    unfold prts
    simp only [List.length_cons, Tr.ht]
    split
    · omega
    · split
      · omega
      · simp
theorem eq_nilT {S : Store} {E : Exn → Store → Prop} {Q : D → Store → Prop} {k m : Nat} {ts : List Tr} (h : lsAt S k = some (ts.map Tr.d)) (hh : ∀ t ∈ ts, t.ht ≤ 150) (h2 : lsAt S m = some []) (q : Q (.bl ts.isEmpty) S) : wp (eqM (.ref k) (.ref m) S) Q E := by
  have e : pyD S (.ref k) = some (.list (ts.map Tr.py)) := by
    unfold pyD pyOf
    simp only [h]
    rw [py_trs hh]
    rfl
  rw [wp_eq, e, py_nil h2]
  refine ⟨_, _, rfl, rfl, ?_⟩
  cases ts with
  | nil => simpa [PyData.eqv, PyData.eqvAll] using q
  | cons c cs => simpa [PyData.eqv, PyData.eqvAll] using q

inductive Goes (t : Tr) (key : Int) : List Tr → Tr → Nat → Prop where
  | on {ps : List Tr} {u : Tr} (h : ps ++ prts u key = prts t key) (hl : ∀ qs a c b, ps = qs ++ [.n a c b] → c.1 ≠ key) (hu : u.ht ≤ 150) : Goes t key ps u (u.ht + 1)
  | there {ps qs : List Tr} {a b : Tr} {c : Card} (h : ps = prts t key) (e : ps = qs ++ [.n a c b]) (hc : c.1 = key) (hu : (Tr.n a c b).ht ≤ 150) : Goes t key ps (.n a c b) 0
theorem parts_ok {S : Store} {t : Tr} {key : Int} {E : Exn → Store → Prop} {Q : D → Store → Prop} (ht : t.ht ≤ 150) (q : ∀ G, Q (.ref S.length) (S ++ O.lst ((prts t key).map Tr.d) :: G)) : wp (parts_on_road_M [t.d, .int key] S) Q E := by
  unfold parts_on_road_M
  walk_at "ck1"
  simp only [aft_nx, wp_seq]
  have g1 : ∀ (xs : List Tr) (G : Store), (S ++ O.lst (xs.map Tr.d) :: G)[S.length]? = some (.lst (xs.map Tr.d)) := fun xs G => by simp
  have s1 : ∀ (xs ys : List Tr) (G : Store), (S ++ O.lst (xs.map Tr.d) :: G).set S.length (.lst (ys.map Tr.d)) = S ++ O.lst (ys.map Tr.d) :: G := fun xs ys G => by simp
  have a1 : ∀ (xs : List Tr) (G : Store) (o : O), (S ++ O.lst (xs.map Tr.d) :: G) ++ [o] = S ++ O.lst (xs.map Tr.d) :: (G ++ [o]) := fun xs G o => by simp
  refine wp_while (fun m r T => ∃ (ps : List Tr) (u : Tr) (G : Store), T = S ++ O.lst (ps.map Tr.d) :: G ∧ r = [some u.d, some (.int key), some (.ref S.length)] ∧ Goes t key ps u m) (m := t.ht + 1) (by unfold FU; omega) ⟨[], t, [], rfl, rfl, .on rfl (fun qs a c b e => by simp at e) ht⟩ (fun m r T hI => ?_)
  obtain ⟨ps, u, G, rfl, rfl, hg⟩ := hI
  have hph : ∀ p ∈ prts t key, p.ht ≤ 150 := fun p hp => by obtain ⟨_, _, _, _, _, h⟩ := prts_ne hp; omega
  have hpl := prts_len t key
  cases hg with
  | on h hl hu =>
    have hps : ∀ p ∈ ps, p.ht ≤ 150 := fun p hp => hph p (by rw [← h]; simp [hp])
    have hpn : ps.length ≤ 150 := by have := congrArg List.length h; rw [List.length_append] at this; omega
    walk_at "ck1"
    rw [wp_neE hu]
    walk_at "ck1"
    cases u with
    | e =>
      simp only [Tr.isE, Bool.not_true, Bool.false_eq_true, if_false, aft_nx]
      walk_at "ck1"
      rw [prts, List.append_nil] at h
      rw [h]
      exact q _
    | n a c b =>
      simp only [Tr.ht] at hu
      have hstep : ∀ G, wp (mSeq (mDrop (mML appendM (mVar 2) (mCons (mVar 0) mNil))) (mIf (mTst (m2 ltM (mVar 1) (m2 ixM (m2 ixM (mVar 0) (mC (.int 1))) (mC (.int 0))))) (mAsg (m2 ixM (mVar 0) (mC (.int 0))) (gNm 0)) (mIf (mTst (m2 gtM (mVar 1) (m2 ixM (m2 ixM (mVar 0) (mC (.int 1))) (mC (.int 0))))) (mAsg (m2 ixM (mVar 0) (mC (.int 2))) (gNm 0)) mNx)) [some (Tr.n a c b).d, some (.int key), some (.ref S.length)] (S ++ O.lst (ps.map Tr.d) :: G)) (lp (aft (mRet (mVar 2)) (fin Q E) E0') fun r2 S2 => ∃ m', m' < (Tr.n a c b).ht + 1 ∧ ∃ (ps : List Tr) (u : Tr) (G : Store), S2 = S ++ O.lst (ps.map Tr.d) :: G ∧ r2 = [some u.d, some (.int key), some (.ref S.length)] ∧ Goes t key ps u m') E0' := by
        intro G
        walk_at "ck1"
        refine ⟨by rw [g1]; rfl, _, by rw [g1]; rfl, by rw [List.length_map, sizeLine_eq]; omega, ?_⟩
        have e1 : ps.map Tr.d ++ [(Tr.n a c b).d] = (ps ++ [Tr.n a c b]).map Tr.d := by simp
        rw [e1, s1]
        simp only [aft_nx]
        simp only [Tr.d, cd]
        walk_at "ck1"
        have last : ∀ {qs : List Tr} {x y : Tr} {z : Card}, ps ++ [Tr.n a c b] = qs ++ [.n x z y] → z = c := fun {qs x y z} e => by
          have := List.append_inj_right' e rfl
          simp at this; exact this.2.1.symm
        have hp : prts (.n a c b) key = .n a c b :: (if key < c.1 then prts a key else if c.1 < key then prts b key else []) := rfl
        rw [hp] at h
        by_cases h1 : key < c.1
        · rw [if_pos h1] at h ⊢
          walk_at "ck1"
          exact ⟨a.ht + 1, by simp only [Tr.ht]; omega, ps ++ [.n a c b], a, _, rfl, rfl, .on (by rw [← h]; simp) (fun qs x z y e => by rw [last e]; omega) (by omega)⟩
        · rw [if_neg h1] at h ⊢
          by_cases h2 : c.1 < key
          · rw [if_pos h2] at h
            simp only [gt_iff_lt, h2, if_true]
            walk_at "ck1"
            exact ⟨b.ht + 1, by simp only [Tr.ht]; omega, ps ++ [.n a c b], b, _, rfl, rfl, .on (by rw [← h]; simp) (fun qs x z y e => by rw [last e]; omega) (by omega)⟩
          · rw [if_neg h2] at h
            simp only [gt_iff_lt, h2, if_false]
            walk_at "ck1"
            exact ⟨0, by omega, ps ++ [.n a c b], .n a c b, _, rfl, rfl, .there h rfl (by omega) (by simp only [Tr.ht]; omega)⟩
      simp only [Tr.isE, Bool.not_false, if_true]
      refine eq_nilT (ls_app (ls_of (g1 ps G))) hps ls_new ?_
      rw [a1]
      walk_at "ck1"
      rcases ps.eq_nil_or_concat with rfl | ⟨qs, p, rfl⟩
      · simp only [List.isEmpty_nil, if_true]
        have h0 := hstep (G ++ [.lst []])
        revert h0
        walk_at "ck1"
        exact id
      · rw [List.concat_eq_append] at *
        have hemp : (qs ++ [p]).isEmpty = false := by simp
        simp only [hemp, Bool.false_eq_true, if_false]
        obtain ⟨x, z, y, rfl, _, _⟩ := prts_ne (t := t) (key := key) (u := p) (by rw [← h]; simp)
        refine ⟨_, ls_of (g1 _ _), _, by rw [List.map_append]; exact L2.atI_last _ _, ?_⟩
        simp only [Tr.d, cd]
        walk_at "ck1"
        have hzk : z.1 ≠ key := hl qs x z y rfl
        have e2 : (z.1 == key) = false := beq_eq_false_iff_ne.mpr hzk
        simp only [e2, Bool.not_false, if_true]
        have h0 := hstep (G ++ [.lst []])
        revert h0
        walk_at "ck1"
        exact id
  | there h e hc hu =>
    rename_i qs a b c
    have hps : ∀ p ∈ ps, p.ht ≤ 150 := fun p hp => hph p (by rw [← h]; exact hp)
    walk_at "ck1"
    rw [wp_neE hu]
    walk_at "ck1"
    simp only [Tr.isE, Bool.not_false, if_true]
    refine eq_nilT (ls_app (ls_of (g1 ps G))) hps ls_new ?_
    rw [a1]
    walk_at "ck1"
    have hemp : ps.isEmpty = false := by rw [e]; simp
    simp only [hemp, Bool.false_eq_true, if_false]
    refine ⟨_, ls_of (g1 _ _), (Tr.n a c b).d, by rw [e, List.map_append]; exact L2.atI_last _ _, ?_⟩
    simp only [Tr.d, cd]
    walk_at "ck1"
    have e2 : (c.1 == key) = true := beq_iff_eq.mpr hc
    simp only [e2, Bool.not_true, Bool.false_eq_true, if_false, aft_nx]
    walk_at "ck1"
    rw [h]
    exact q _
def topD : D → Option D
  | .tup [_, .tup (k :: _), _] => some k
  | _ => none
theorem road_ok {S : Store} {t : Tr} {key : Int} {E : Exn → Store → Prop} {Q : D → Store → Prop} (ht : t.ht ≤ 150) (q : ∀ (k : Nat) (G : Store), (S ++ G)[k]? = some (.lst (((prts t key).map topK).map D.int)) → S.length ≤ k → Q (.ref k) (S ++ G)) : wp (road_M [t.d, .int key] S) Q E := by
  have hpl := prts_len t key
  unfold road_M
  walk_at "ck1"
  refine parts_ok ht fun G => ?_
  walk_at "ck1"
  have g1 : (S ++ O.lst ((prts t key).map Tr.d) :: G)[S.length]? = some (.lst ((prts t key).map Tr.d)) := by simp
  refine ⟨_, ls_of g1, ?_⟩
  refine lcGo_list (xs := (prts t key).map Tr.d) (f := topD) rfl (by rw [List.length_map]; omega) (ls_of g1) (fun i x acc hx => ?_) ?_
  · rw [List.getElem?_map] at hx
    cases hu : (prts t key)[i]? with
    | none => rw [hu] at hx; cases hx
    | some u =>
      rw [hu] at hx
      cases hx
      obtain ⟨l, c, r, rfl, _, _⟩ := prts_ne (List.mem_of_getElem? hu)
      unfold lcT
      simp only [Tr.d, cd]
      walk_at "ck1"
      rfl
  · have e : ((prts t key).map Tr.d).filterMap topD = ((prts t key).map topK).map D.int := by
      have : ∀ us : List Tr, (∀ u ∈ us, ∃ l c r, u = Tr.n l c r) → (us.map Tr.d).filterMap topD = (us.map topK).map D.int := by
        intro us
        induction us with
        | nil => intro _; rfl
        | cons u us ih =>
          intro h
          obtain ⟨l, c, r, rfl⟩ := h u List.mem_cons_self
          rw [List.map_cons, List.filterMap_cons, ih fun x hx => h x (List.mem_cons_of_mem _ hx)]
          rfl
      exact this _ fun u hu => by obtain ⟨l, c, r, e, _⟩ := prts_ne hu; exact ⟨l, c, r, e⟩
    rw [e]
    walk_at "ck1"
    rw [List.append_assoc]
    exact q _ _ (by rw [← List.append_assoc]; exact get_new) (by simp)
end Lib
end CK
end

section
set_option Elab.async false
set_option linter.all false
set_option maxRecDepth 100000
set_option maxHeartbeats 4000000
namespace CK
namespace Lk10
open PySem PySem.Spec PyProof.Rows L2

open CK.Lib
def law_end_M : List D → M D := mFn 3
 (mSeq (mAsg (mCall 2 law_take_M (mCons (mVar 0) (mCons (mC (.int 6)) mNil))) (gNm 2))
 (mSeq (mIf (mOr (mTst (m2 eqM (mVar 1) (mArgs lstM mNil))) (mTst (m2 eqM (mVar 2) (mC (.int 5)))))
 (mRet (m2 ixM (mArgs lstM (mCons (m2 subM (mC (.int 0)) (mC (.int 1))) (mCons (m2 addM (m2 powM (mC (.int 10)) (mC (.int 18))) (mC (.int 1))) (mCons (m2 subM (mC (.int 0)) (m2 powM (mC (.int 10)) (mC (.int 59)))) (mCons (mCall 1 law_great2_M (mCons (mVar 0) mNil)) mNil))))) (mCall 2 law_take_M (mCons (mVar 0) (mCons (mC (.int 4)) mNil)))))
 mNx)
 (mRet (m2 addM (m2 ixM (m2 ixM (mVar 1) (mCall 2 law_take_M (mCons (mVar 0) (mCons (mArgs lenM (mCons (mVar 1) mNil)) mNil)))) (mC (.int 0))) (m2 ixM (mArgs lstM (mCons (mC (.int 0)) (mCons (mC (.int 0)) (mCons (mC (.int 0)) (mCons (mC (.int 1)) (mCons (m2 subM (mC (.int 0)) (mC (.int 1))) mNil)))))) (mVar 2))))))
def law_M : List D → M D := mFn 15
 (mSeq (mFor (mRng1 (mCons (mArgs maxM (mCons (mC (.int 2)) (mCons (mArgs minM (mCons (mArgs lenM (mCons (mVar 0) mNil)) (mCons (mC (.int 10)) mNil))) mNil))) mNil)) (gNm 1)
 (mSeq (mAsg (mCall 2 law_pot_M (mCons (mVar 0) (mCons (mVar 1) mNil))) (gNm 2))
 (mSeq (mAsg (mCall 2 law_take_M (mCons (mVar 2) (mCons (mC (.int 2)) mNil))) (gNm 3))
 (mSeq (mAsg (mCall 2 law_pack_M (mCons (mVar 2) (mCons (mC (.int 24)) mNil))) (gNm 4))
 (mSeq (mAsg (mArgs tupM mNil) (gNm 5))
 (mSeq (mFor (mSrc (m2 ixM (mArgs lstM (mCons (mVar 4) (mCons (mCall 1 law_by_ranks_M (mCons (mVar 4) mNil)) mNil))) (mVar 3))) (gNm 6)
 (mAsg (mCall 2 (law_leafed_M 80) (mCons (mVar 5) (mCons (mVar 6) mNil))) (gNm 5)))
 (mFor (mRng1 (mCons (mC (.int 8)) mNil)) (gNm 7)
 (mSeq (mAsg (mArgs lstM (mCons (mCall 2 law_end_M (mCons (mVar 2) (mCons (mVar 4) mNil))) (mCons (mCall 2 law_end_M (mCons (mVar 2) (mCons (mVar 4) mNil))) mNil))) (gNm 8))
 (mSeq (mIf (mTst (m2 gtM (mCall 2 law_take_M (mCons (mVar 2) (mCons (mC (.int 4)) mNil))) (mC (.int 0))))
 (mAsg (mArgs lstM (mCons (mArgs minM (mCons (mVar 8) mNil)) (mCons (mArgs maxM (mCons (mVar 8) mNil)) mNil))) (gNm 8))
 mNx)
 (mSeq (mAsg (mVar 8) (gSq 2 (gsCons (gNm 9) (gsCons (gNm 10) gsNil))))
 (mSeq (mAsg (mC .non) (gNm 11))
 (mSeq (mFor (mSrc (mVar 4)) (gNm 6)
 (mIf (mAnd (mTst (mChain leM leM (mVar 9) (m2 ixM (mVar 6) (mC (.int 0))) (mVar 10))) (mOr (mTst (m2 isM (mVar 11) (mC .non))) (mTst (mCall 2 law_over_M (mCons (mVar 6) (mCons (mVar 11) mNil))))))
 (mAsg (mVar 6) (gNm 11))
 mNx))
 (mSeq (mIf (mTst (m2 neM (mCall 3 top_within_M (mCons (mVar 5) (mCons (mVar 9) (mCons (mVar 10) mNil)))) (mVar 11)))
 (mRet (mC (.bl false)))
 mNx)
 (mIf (mAnd (mTst (m2 notM (mVar 11) (mC .non))) (mTst (m2 eqM (mVar 3) (mC (.int 1)))))
 (mFor (mSrc (mArgs tupM (mCons (mVar 9) (mCons (mVar 10) mNil)))) (gNm 12)
 (mSeq (mAsg (mLc (mSrc (mCall 2 road_M (mCons (mVar 5) (mCons (mVar 12) mNil)))) (gNm 14) (mTst (mChain leM leM (mVar 9) (mVar 14) (mVar 10))) (mVar 14) [14]) (gNm 13))
 (mIf (mAnd (mTst (m2 neM (mVar 13) (mArgs lstM mNil))) (mTst (m2 neM (m2 ixM (mVar 13) (mC (.int 0))) (m2 ixM (mVar 11) (mC (.int 0))))))
 (mRet (mC (.bl false)))
 mNx)))
 mNx))))))))))))))
 (mRet (m2 isM (mCall 3 top_within_M (mCons (mArgs tupM mNil) (mCons (mC (.int 0)) (mCons (m2 powM (mC (.int 10)) (mC (.int 18))) mNil)))) (mC .non))))
end Lk10
end CK
end

section
set_option Elab.async false
set_option linter.all false
set_option exponentiation.threshold 100000
set_option maxRecDepth 100000
set_option maxHeartbeats 1000000
namespace CK
namespace Lk10
open PySem PySem.Spec PyProof.Rows L2 CK.Lib
local macro_rules | `(tactic| walk_at "ck") => `(tactic| try simp only [wp_seq, wp_asg, wp_if, wp_ret, wp_retN, wp_drop, wp_fn, wp_var0, wp_varS, wp_mC, wp_m2, wp_m1, wp_nil, wp_cons, wp_args, wp_call, wp_tst, wp_and, wp_or, wp_not, wp_andV, wp_orV, wp_notV, wp_ifE, wp_chain, wp_nx, wp_brk, wp_cnt, aft_nx, aft_rt, aft_bk, aft_ct, aft_xc, fin_rt, fin_nx, fin_xc, fin_bk, fin_ct, wp_gNm, wp_gTp, wp_gsNil, wp_gsCons, wp_gSub, wp_par, wp_par3, wp_i0, wp_iC, wp_addI, wp_addT, wp_mulI, wp_neg, wp_tup, wp_lst, sz0, sz1, sz2, sz3, sz4, sz5, sz6, sz7, sz8, wp_yes, wp_ixT, wp_ixL, wp_setL, wp_isi, tyN, isi_ii, isi_ib, isi_bi, isi_bb, isi_nb, isi_ni, isi_ns, isi_nt, isi_nl, isi_nd, isi_bs, isi_bt, isi_bl, isi_bd, isi_is, isi_it, isi_il, isi_id, isi_sb, isi_si, isi_ss, isi_st, isi_sl, isi_sd, isi_tb, isi_ti, isi_ts, isi_tt, isi_tl, isi_td, isi_lb, isi_li, isi_ls, isi_lt, isi_ll, isi_ld, isi_db, isi_di, isi_ds, isi_dt, isi_dl, isi_dd, wp_slice, wp_noPart, wp_part, asInt_int, wp_slT, wp_slL, wp_mulT, wp_src, wp_lc, wipeE, D.ref.injEq, D.tup.injEq, reduceCtorEq, false_and, exists_false, false_or, or_false, cpt2, cpt3, cpt4, cpt5, cpt6, cpt7, cpt8, cpt9, cpt10, cpt11, cpt12, cpt13, cpt14, cpt15, cpt16, cpt17, cpt18, cpt19, cpt20, cpt24, cpt30, cpt36, cpt40, cpt48, cpt50, cpt58, cpt59, cpt60, wp_extend, wp_revL, exists_and_left, wp_ML, wp_ML0, isLs_ref, wp_append, wp_pop, wp_tupleR, wp_tupleT, wp_listR, wp_listT, wp_all, wp_any, wp_sum, wp_notB, wp_isB, wp_isN, wp_notN, Option.isSome_some, wp_rng1, wp_rng2, wp_rng3, lsAt, lsO_lst, lsO_fro, lstO_lst, wp_lenR, lenO_lst, lenO_fro, lenO_dK, List.length_map, List.getElem?_cons_zero, List.getElem?_cons_succ, wp_dnew, wp_dget, wp_din, wp_dnin, wp_dg1, wp_dput, wp_dpop, wp_MD, isDk_ref, dkO_dK, keyD_int, keyD_str, wp_lrg1, wp_trg1, wp_MS, isStrB_str, wp_sindex, wp_isiT, wp_strI, wp_eqS, wp_neS, wp_eqI, wp_neI, wp_eqB, wp_neB, wp_abs, wp_intI, wp_intB, wp_max2, wp_min2, wp_lenT, wp_for, wp_ok, wp_bad, lp_nx, lp_ct, lp_bk, lp_rt, lp_xc, asBl_bl, at0, at1, at2, List.map_cons, List.map_nil, List.cons_append, List.nil_append, List.length_cons, List.length_nil, List.replicate, List.set_cons_zero, List.set_cons_succ, Nat.reduceAdd, Int.reduceToNat, Int.reducePow, Int.reduceNeg, Int.reduceMul, Int.reduceAdd, Int.reduceSub, Int.reduceMod, Int.reduceDiv, Int.reduceLT, Int.reduceLE, Int.zero_mul, Int.zero_add, Int.cast_ofNat_Int, Int.reduceBEq, Nat.reduceLeDiff, Nat.reduceEqDiff, true_and, and_true, Nat.reduceSub, if_true, Option.some.injEq, exists_eq_left', Bool.not_true, Bool.not_false, decide_eq_true_eq, Bool.false_eq_true, if_false])
local macro_rules | `(tactic| walk_at "cks") => `(tactic| try simp only [wp_seq, wp_asg, wp_if, wp_ret, wp_retN, wp_drop, wp_fn, wp_var0, wp_varS, wp_mC, wp_m2, wp_m1, wp_nil, wp_cons, wp_args, wp_call, wp_tst, wp_and, wp_or, wp_not, wp_andV, wp_orV, wp_notV, wp_ifE, wp_chain, wp_nx, wp_brk, wp_cnt, aft_nx, aft_rt, aft_bk, aft_ct, aft_xc, fin_rt, fin_nx, fin_xc, fin_bk, fin_ct, wp_gNm, wp_gTp, wp_gsNil, wp_gsCons, wp_gSub, wp_par, wp_par3, wp_i0, wp_iC, wp_addI, wp_addT, wp_mulI, wp_neg, wp_tup, wp_lst, sz0, sz1, sz2, sz3, sz4, sz5, sz6, sz7, sz8, wp_yes, wp_ixT, wp_ixL, wp_setL, wp_isi, tyN, isi_ii, isi_ib, isi_bi, isi_bb, isi_nb, isi_ni, isi_ns, isi_nt, isi_nl, isi_nd, isi_bs, isi_bt, isi_bl, isi_bd, isi_is, isi_it, isi_il, isi_id, isi_sb, isi_si, isi_ss, isi_st, isi_sl, isi_sd, isi_tb, isi_ti, isi_ts, isi_tt, isi_tl, isi_td, isi_lb, isi_li, isi_ls, isi_lt, isi_ll, isi_ld, isi_db, isi_di, isi_ds, isi_dt, isi_dl, isi_dd, wp_slice, wp_noPart, wp_part, asInt_int, wp_slT, wp_slL, wp_mulT, wp_src, wp_lc, wipeE, D.ref.injEq, D.tup.injEq, reduceCtorEq, false_and, exists_false, false_or, or_false, cpt2, cpt3, cpt4, cpt5, cpt6, cpt7, cpt8, cpt9, cpt10, cpt11, cpt12, cpt13, cpt14, cpt15, cpt16, cpt17, cpt18, cpt19, cpt20, cpt24, cpt30, cpt36, cpt40, cpt48, cpt50, cpt58, cpt59, cpt60, wp_extend, wp_revL, exists_and_left, wp_ML, wp_ML0, isLs_ref, wp_append, wp_pop, wp_tupleR, wp_tupleT, wp_listR, wp_listT, wp_all, wp_any, wp_sum, wp_notB, wp_isB, wp_isN, wp_notN, Option.isSome_some, wp_rng1, wp_rng2, wp_rng3, lsAt, lsO_lst, lsO_fro, lstO_lst, wp_lenR, lenO_lst, lenO_fro, lenO_dK, List.length_map, List.getElem?_cons_zero, List.getElem?_cons_succ, wp_dnew, wp_dget, wp_din, wp_dnin, wp_dg1, wp_dput, wp_dpop, wp_MD, isDk_ref, dkO_dK, keyD_int, keyD_str, wp_lrg1, wp_trg1, wp_MS, isStrB_str, wp_sindex, wp_isiT, wp_strI, wp_eqS, wp_neS, wp_eqI, wp_neI, wp_eqB, wp_neB, wp_abs, wp_intI, wp_intB, wp_max2, wp_min2, wp_lenT, wp_for, wp_ok, wp_bad, lp_nx, lp_ct, lp_bk, lp_rt, lp_xc, asBl_bl, at0, at1, at2, List.map_cons, List.map_nil, List.cons_append, List.nil_append, List.length_cons, List.length_nil, List.replicate, List.set_cons_zero, List.set_cons_succ, Nat.reduceAdd, Int.reduceToNat, Int.reducePow, Int.reduceNeg, Int.reduceMul, Int.reduceAdd, Int.reduceSub, Int.reduceMod, Int.reduceDiv, Int.reduceLT, Int.reduceLE, Int.zero_mul, Int.zero_add, Int.cast_ofNat_Int, Int.reduceBEq, Nat.reduceLeDiff, Nat.reduceEqDiff, true_and, and_true, Nat.reduceSub, if_true, Option.some.injEq, exists_eq_left', Bool.not_true, Bool.not_false, decide_eq_true_eq, Bool.false_eq_true, if_false, *])
local macro_rules | `(tactic| walk_at "ck1") => `(tactic| try simp only [wp_seq, wp_asg, wp_if, wp_ret, wp_retN, wp_drop, wp_fn, wp_var0, wp_varS, wp_mC, wp_m2, wp_m1, wp_nil, wp_cons, wp_args, wp_call, wp_tst, wp_and, wp_or, wp_not, wp_andV, wp_orV, wp_notV, wp_ifE, wp_chain, wp_nx, wp_brk, wp_cnt, aft_rt, aft_bk, aft_ct, aft_xc, fin_rt, fin_nx, fin_xc, fin_bk, fin_ct, wp_gNm, wp_gTp, wp_gsNil, wp_gsCons, wp_gSub, wp_par, wp_par3, wp_i0, wp_iC, wp_addI, wp_addT, wp_mulI, wp_neg, wp_tup, wp_lst, sz0, sz1, sz2, sz3, sz4, sz5, sz6, sz7, sz8, wp_yes, wp_ixT, wp_ixL, wp_setL, wp_isi, tyN, isi_ii, isi_ib, isi_bi, isi_bb, isi_nb, isi_ni, isi_ns, isi_nt, isi_nl, isi_nd, isi_bs, isi_bt, isi_bl, isi_bd, isi_is, isi_it, isi_il, isi_id, isi_sb, isi_si, isi_ss, isi_st, isi_sl, isi_sd, isi_tb, isi_ti, isi_ts, isi_tt, isi_tl, isi_td, isi_lb, isi_li, isi_ls, isi_lt, isi_ll, isi_ld, isi_db, isi_di, isi_ds, isi_dt, isi_dl, isi_dd, wp_slice, wp_noPart, wp_part, asInt_int, wp_slT, wp_slL, wp_mulT, wp_src, wp_lc, wipeE, D.ref.injEq, D.tup.injEq, reduceCtorEq, false_and, exists_false, false_or, or_false, cpt2, cpt3, cpt4, cpt5, cpt6, cpt7, cpt8, cpt9, cpt10, cpt11, cpt12, cpt13, cpt14, cpt15, cpt16, cpt17, cpt18, cpt19, cpt20, cpt24, cpt30, cpt36, cpt40, cpt48, cpt50, cpt58, cpt59, cpt60, wp_extend, wp_revL, exists_and_left, wp_ML, wp_ML0, isLs_ref, wp_append, wp_pop, wp_tupleR, wp_tupleT, wp_listR, wp_listT, wp_all, wp_any, wp_sum, wp_notB, wp_isB, wp_isN, wp_notN, Option.isSome_some, wp_rng1, wp_rng2, wp_rng3, lsAt, lsO_lst, lsO_fro, lstO_lst, wp_lenR, lenO_lst, lenO_fro, lenO_dK, List.length_map, List.getElem?_cons_zero, List.getElem?_cons_succ, wp_dnew, wp_dget, wp_din, wp_dnin, wp_dg1, wp_dput, wp_dpop, wp_MD, isDk_ref, dkO_dK, keyD_int, keyD_str, wp_lrg1, wp_trg1, wp_MS, isStrB_str, wp_sindex, wp_isiT, wp_strI, wp_eqS, wp_neS, wp_eqI, wp_neI, wp_eqB, wp_neB, wp_abs, wp_intI, wp_intB, wp_max2, wp_min2, wp_lenT, wp_for, wp_ok, wp_bad, lp_nx, lp_ct, lp_bk, lp_rt, lp_xc, asBl_bl, at0, at1, at2, List.map_cons, List.map_nil, List.cons_append, List.nil_append, List.length_cons, List.length_nil, List.replicate, List.set_cons_zero, List.set_cons_succ, Nat.reduceAdd, Int.reduceToNat, Int.reducePow, Int.reduceNeg, Int.reduceMul, Int.reduceAdd, Int.reduceSub, Int.reduceMod, Int.reduceDiv, Int.reduceLT, Int.reduceLE, Int.zero_mul, Int.zero_add, Int.cast_ofNat_Int, Int.reduceBEq, Nat.reduceLeDiff, Nat.reduceEqDiff, true_and, and_true, Nat.reduceSub, if_true, Option.some.injEq, exists_eq_left', Bool.not_true, Bool.not_false, decide_eq_true_eq, Bool.false_eq_true, if_false])
theorem end_ok {S : Store} {w k : Nat} {cs : List Card} {E : Exn → Store → Prop} {Q : D → Store → Prop} (hw : PotAt S w) (hk : k ≠ w) (hc : lsAt S k = some (cs.map cd)) (hl : cs.length ≤ 1000) (q : ∀ x S', Kp w S S' → Q (.int x) S') : wp (law_end_M [.ref w, .ref k] S) Q E := by
  unfold law_end_M
  walk_at "ck1"
  refine take_ok hw (by omega) (by omega) fun y S1 y0 y1 k1 l1 => ?_
  simp only [aft_nx]
  walk_at "ck1"
  refine eq_nil (ls_app (k1.ls hk hc)) ls_new ?_
  walk_at "ck1"
  have kS := k1.app (T := [O.lst []])
  refine stepB (fun _ => ?_) fun hne => ?_
  · refine great2_ok kS.pt fun g S2 g0 g1 k2 l2 => ?_
    walk_at "ck1"
    refine take_ok (kS.trans k2).app.pt (by omega) (by omega) fun i S3 i0 i1 k3 l3 => ?_
    have g3 := k3.kp S2.length _ (by have := (kS.trans k2).lt; omega) get_new
    walk_at "ck1"
    obtain ⟨x, hx, _⟩ := at_int (ns := [-1, 1000000000000000001, -100000000000000000000000000000000000000000000000000000000000, g]) (i := i) (fun _ => True) (fun _ _ => trivial) i0 i1
    exact ⟨_, lsO_of g3, _, hx, q _ _ ((kS.trans k2).app.trans k3)⟩
  · refine stepB (fun _ => ?_) fun hy => ?_
    · refine great2_ok kS.pt fun g S2 g0 g1 k2 l2 => ?_
      walk_at "ck1"
      refine take_ok (kS.trans k2).app.pt (by omega) (by omega) fun i S3 i0 i1 k3 l3 => ?_
      have g3 := k3.kp S2.length _ (by have := (kS.trans k2).lt; omega) get_new
      walk_at "ck1"
      obtain ⟨x, hx, _⟩ := at_int (ns := [-1, 1000000000000000001, -100000000000000000000000000000000000000000000000000000000000, g]) (i := i) (fun _ => True) (fun _ _ => trivial) i0 i1
      exact ⟨_, lsO_of g3, _, hx, q _ _ ((kS.trans k2).app.trans k3)⟩
    · simp only [aft_nx]
      walk_at "ck1"
      have hpos : 0 < cs.length := by cases cs with | nil => simp at hne | cons _ _ => simp
      have hy5 : y < 5 := by have := beq_eq_false_iff_ne.mp hy; omega
      refine ⟨_, len_ls (kS.ls hk hc), ?_⟩
      rw [List.length_map]
      refine take_ok kS.pt (by omega) (by omega) fun i S2 i0 i1 k2 l2 => ?_
      walk_at "ck1"
      obtain ⟨n, rfl⟩ : ∃ n : Nat, i = (n : Int) := ⟨i.toNat, by omega⟩
      have hn : n < cs.length := by omega
      refine ⟨_, (kS.trans k2).ls hk hc, cd cs[n], at_of' rfl (by rw [List.getElem?_map, List.getElem?_eq_getElem hn]; rfl), ?_⟩
      simp only [cd]
      walk_at "ck1"
      obtain ⟨x, hx, _⟩ := at_int (ns := [0, 0, 0, 1, -1]) (i := y) (fun _ => True) (fun _ _ => trivial) y0 hy5
      refine ⟨_, ls_new, _, hx, ?_⟩
      walk_at "ck1"
      exact q _ _ (kS.trans k2).app

theorem met_first {lo hi e : Int} (h0 : lo ≤ e) (h1 : e ≤ hi) : ∀ {t : Tr} {x : Int} {xs : List Int}, CrO t → Srt t.cards → ((prts t e).map topK).filter (fun k => decide (lo ≤ k) && decide (k ≤ hi)) = x :: xs →
    ∃ c ∈ t.cards, c.1 = x ∧ lo ≤ c.1 ∧ c.1 ≤ hi ∧ ∀ y ∈ t.cards, lo ≤ y.1 → y.1 ≤ hi → y = c ∨ Or c y
  | .e, x, xs, _, _, h => by simp [prts] at h
  | .n l c r, x, xs, hc, hs, h => by
    obtain ⟨sl, sr, kl, kr⟩ := hs.node
    obtain ⟨cl, cr, o1, o2⟩ := hc
    have hp : prts (.n l c r) e = .n l c r :: (if e < c.1 then prts l e else if c.1 < e then prts r e else []) := rfl
    rw [hp, List.map_cons] at h
    by_cases hin : lo ≤ c.1 ∧ c.1 ≤ hi
    · rw [List.filter_cons_of_pos (by show (decide (lo ≤ c.1) && decide (c.1 ≤ hi)) = true; rw [Bool.and_eq_true, decide_eq_true_eq, decide_eq_true_eq]; exact hin)] at h
      have hx : c.1 = x := (List.cons.inj h).1
      refine ⟨c, by simp [Tr.cards], hx, hin.1, hin.2, fun y hy _ _ => ?_⟩
      simp only [Tr.cards, List.mem_append, List.mem_cons] at hy
      rcases hy with hy | rfl | hy
      · exact .inr (o1 y hy)
      · exact .inl rfl
      · exact .inr (o2 y hy)
    · rw [List.filter_cons_of_neg (by show ¬ (decide (lo ≤ c.1) && decide (c.1 ≤ hi)) = true; rw [Bool.and_eq_true, decide_eq_true_eq, decide_eq_true_eq]; exact hin)] at h
      by_cases h2 : e < c.1
      · rw [if_pos h2] at h
        obtain ⟨d, hd, e1, d0, d1, ho⟩ := met_first h0 h1 cl sl h
        refine ⟨d, by simp [Tr.cards, hd], e1, d0, d1, fun y hy y0 y1 => ?_⟩
        simp only [Tr.cards, List.mem_append, List.mem_cons] at hy
        rcases hy with hy | rfl | hy
        · exact ho y hy y0 y1
        · omega
        · have := kr y hy; omega
      · rw [if_neg h2] at h
        by_cases h3 : c.1 < e
        · rw [if_pos h3] at h
          obtain ⟨d, hd, e1, d0, d1, ho⟩ := met_first h0 h1 cr sr h
          refine ⟨d, by simp [Tr.cards, hd], e1, d0, d1, fun y hy y0 y1 => ?_⟩
          simp only [Tr.cards, List.mem_append, List.mem_cons] at hy
          rcases hy with hy | rfl | hy
          · have := kl y hy; omega
          · omega
          · exact ho y hy y0 y1
        · rw [if_neg h3] at h; simp at h

def Due (lo hi : Int) (cs : List Card) (d : D) : Prop := (d = .non ∧ ∀ c ∈ cs, ¬ (lo ≤ c.1 ∧ c.1 ≤ hi)) ∨ ∃ c ∈ cs, d = cd c ∧ lo ≤ c.1 ∧ c.1 ≤ hi ∧ ∀ x ∈ cs, lo ≤ x.1 → x.1 ≤ hi → x = c ∨ Or c x
def inD (lo hi : Int) : D → Option D
  | .int z => if lo ≤ z ∧ z ≤ hi then some (.int z) else none
  | _ => none
theorem inD_ok {lo hi : Int} {ns : List Int} : (ns.map D.int).filterMap (inD lo hi) = (ns.filter fun k => decide (lo ≤ k) && decide (k ≤ hi)).map D.int := by
  induction ns with
  | nil => rfl
  | cons n ns ih =>
    rw [List.map_cons, List.filterMap_cons, List.filter_cons, ih]
    rw [show inD lo hi (.int n) = if lo ≤ n ∧ n ≤ hi then some (.int n) else none from rfl]
    by_cases h1 : lo ≤ n <;> by_cases h2 : n ≤ hi <;> simp [h1, h2]
theorem due_nodup {cs : List Card} (hn : (cs.map (·.1)).Nodup) {i : Nat} {c x : Card} (hc : cs[i]? = some c) (hx : x ∈ cs.take i) : x.1 ≠ c.1 := fun e => by
  obtain ⟨j, hj⟩ := List.mem_iff_getElem?.mp hx
  have hi := get_lt hc
  have hji : j < i := by have := get_lt hj; rw [List.length_take] at this; omega
  have hj2 : cs[j]? = some x := by rw [List.getElem?_take_of_lt hji] at hj; exact hj
  have a1 : (cs.map (·.1))[j]? = some c.1 := by rw [List.getElem?_map, hj2, ← e]; rfl
  have a2 : (cs.map (·.1))[i]? = some c.1 := by rw [List.getElem?_map, hc]; rfl
  have := (List.getElem?_inj (by rw [List.length_map]; omega) hn).mp (a1.trans a2.symm)
  omega
theorem law_true : ∀ ns : List Int, ns.length ≤ 63 → ∃ S', law_M [.ref 0] [.fro (ns.map D.int)] = .ok (.bl true) S' := by
  intro ns hns
  suffices h : wp (law_M [.ref 0] [.fro (ns.map D.int)]) (fun d _ => d = .bl true) E0' by
    obtain ⟨a, S', h1, rfl⟩ := wp_ex h
    exact ⟨S', h1⟩
  unfold law_M
  walk_at "ck1"
  refine ⟨_, rfl, ?_, ?_⟩
  · constructor
    · split <;> split <;> omega
    · split <;> split <;> omega
  refine wp_foR (by unfold FU; split <;> split <;> omega) (fun i r T => T[0]? = some (.fro (ns.map D.int)) ∧ ∃ y1 y2 y3 y4 y5 y6 y7 y8 y9 y10 y11 y12 y13, r = [some (.ref 0), y1, y2, y3, y4, y5, y6, y7, y8, y9, y10, y11, y12, y13, none])
    ⟨rfl, _, _, _, _, _, _, _, _, _, _, _, _, _, rfl⟩ (fun i r T hi hI => ?_) (fun r T hI => ?_)
  · obtain ⟨h0, y1, y2, y3, y4, y5, y6, y7, y8, y9, y10, y11, y12, y13, rfl⟩ := hI
    have hi' : i < 1000 := by split at hi <;> split at hi <;> omega
    walk_at "ck1"
    refine pot_ok h0 (by omega) (by omega) fun a b ok => ?_
    have pt : PotAt (T ++ [pot a b]) T.length := ⟨a, b, get_new, ok⟩
    have h0l := get_lt h0
    have h00 := get_old (T := [pot a b]) h0
    generalize T ++ [pot a b] = X at pt h00
    generalize T.length = w at pt h0l
    clear h0
    simp only [aft_nx]
    walk_at "ck1"
    refine take_ok pt (by omega) (by omega) fun pl S1 p0 p1 k1 l1 => ?_
    simp only [aft_nx]
    walk_at "ck1"
    refine pack_ok k1.pt (by omega) (by omega) fun cs k S2 k2 hk gk hcl hcn hcb => ?_
    have kS := k1.trans k2
    have hkw : k ≠ w := by have := k1.lt; omega
    have hlen : cs.length ≤ 24 := by omega
    clear k1 k2 l1
    simp only [aft_nx]
    walk_at "ck1"
    simp only [aft_nx]
    walk_at "ck1"
    refine by_ranks_ok gk (by omega) hcn fun rs v G gv hv hp ho => ?_
    have kS2 := kS.app (T := G)
    have gk2 := get_old (T := G) gk
    have hvw : v ≠ w := by have := kS.lt; omega
    generalize S2 ++ G = Y at kS2 gk2 gv
    clear kS gk hv hk
    walk_at "ck1"
    have hplan : ∃ (us : List Card) (m : Nat), atI [D.ref k, .ref v] pl = some (.ref m) ∧ (Y ++ [O.lst [.ref k, .ref v]])[m]? = some (.lst (us.map cd)) ∧ us.Perm cs ∧ (pl = 1 → us.Pairwise Lib.Or) := by
      have : pl = 0 ∨ pl = 1 := by omega
      rcases this with rfl | rfl
      · exact ⟨cs, k, CK.at0, get_old gk2, List.Perm.refl _, fun h => by omega⟩
      · exact ⟨rs, v, CK.at1, get_old gv, hp, fun _ => ho⟩
    obtain ⟨us, m, hat, gm, hup, huo⟩ := hplan
    refine ⟨_, ls_new, _, hat, ?_⟩
    have kS3 := kS2.app (T := [O.lst [.ref k, .ref v]])
    have gk3 := get_old (T := [O.lst [.ref k, .ref v]]) gk2
    generalize Y ++ [O.lst [.ref k, .ref v]] = Z at kS3 gk3 gm
    clear kS2 gk2 gv
    walk_at "ck1"
    refine ⟨_, ls_of gm, ?_⟩
    have hun : (us.map (·.1)).Nodup := (hup.map (·.1)).nodup_iff.mpr hcn
    refine wp_foL (xs := us.map cd) (by rw [List.length_map, hup.length_eq]; unfold FU; omega) (fun j r T => T = Z ∧ ∃ (t : Tr) (z6 : Option D), r = [some (.ref 0), some (.int (i : Int)), some (.ref w), some (.int pl), some (.ref k), some t.d, z6, y7, y8, y9, y10, y11, y12, y13, none] ∧ t.cards.Perm (us.take j) ∧ Srt t.cards ∧ (pl = 1 → CrO t))
      ⟨rfl, .e, _, rfl, List.Perm.refl _, List.Pairwise.nil, fun _ => trivial⟩ (fun j r T hI => by rw [hI.1]; exact ls_of gm) (fun j x r T hx hI => ?_) (fun r T hI => ?_)
    · obtain ⟨rfl, t, z6, rfl, htp, hts, hto⟩ := hI
      obtain ⟨c, hc, rfl⟩ := cd_get hx
      have hjl := get_lt hc
      have htl : t.cards.length ≤ 24 := by rw [htp.length_eq, List.length_take]; have := hup.length_eq; omega
      have hth := t.ht_le
      have hne : ∀ x ∈ t.cards, x.1 ≠ c.1 := fun x hx => due_nodup hun hc (htp.mem_iff.mp hx)
      walk_at "ck1"
      refine leafed_ok 80 t _ (by omega) (by omega) ?_
      walk_at "ck1"
      refine ⟨lf t c, _, rfl, ?_, lf_srt hts hne, fun h1 => lf_crO (hto h1) fun x hx => ?_⟩
      · rw [take_succ hc]
        exact (lf_perm t c).trans ((htp.cons c).trans (List.perm_append_singleton _ _).symm)
      · have hx2 := htp.mem_iff.mp hx
        obtain ⟨j2, hj2⟩ := List.mem_iff_getElem?.mp hx2
        have hji : j2 < j := by have := get_lt hj2; rw [List.length_take] at this; omega
        rw [List.getElem?_take_of_lt hji] at hj2
        have := List.pairwise_iff_getElem.mp (huo h1) j2 j (get_lt hj2) hjl hji
        rw [(List.getElem?_eq_some_iff.mp hj2).2, (List.getElem?_eq_some_iff.mp hc).2] at this
        exact this
    · obtain ⟨rfl, t, z6, rfl, htp, hts, hto⟩ := hI
      rw [List.length_map, List.take_length] at htp
      have htc : t.cards.Perm cs := htp.trans hup
      have htl : t.cards.length ≤ 24 := by rw [htc.length_eq]; omega
      have hth := t.ht_le
      simp only [aft_nx]
      walk_at "ck1"
      refine ⟨_, rfl, ⟨by decide, by decide⟩, ?_⟩
      have h0Z := kS3.kp 0 _ (by omega) h00
      refine wp_foR (by unfold FU; decide) (fun j r T => Kp w X T ∧ T[k]? = some (.lst (cs.map cd)) ∧ ∃ z6 z7 z8 z9 z10 z11 z12 z13 : Option D, r = [some (.ref 0), some (.int (i : Int)), some (.ref w), some (.int pl), some (.ref k), some t.d, z6, z7, z8, z9, z10, z11, z12, z13, none])
        ⟨kS3, gk3, _, _, _, _, _, _, _, _, rfl⟩ (fun j r T hj hI => ?_) (fun r T hI => ?_)
      · obtain ⟨kT, gT, z6, z7, z8, z9, z10, z11, z12, z13, rfl⟩ := hI
        walk_at "ck1"
        refine end_ok kT.pt hkw (ls_of gT) (by omega) fun e1 T1 k1 => ?_
        walk_at "ck1"
        refine end_ok (kT.trans k1).pt hkw (ls_of (k1.kp k _ hkw gT)) (by omega) fun e2 T2 k2 => ?_
        have kT2 := (kT.trans k1).trans k2
        have gT2 := k2.kp k _ hkw (k1.kp k _ hkw gT)
        clear kT k1 k2 gT
        walk_at "ck1"
        simp only [aft_nx, wp_seq]
        refine wp_mono (Q := fun f T => Kp w X T ∧ T[k]? = some (.lst (cs.map cd)) ∧ ∃ (a : Nat) (lo hi : Int), T[a]? = some (.lst [.int lo, .int hi]) ∧ f = .nx [some (.ref 0), some (.int (i : Int)), some (.ref w), some (.int pl), some (.ref k), some t.d, z6, some (.int (j : Int)), some (.ref a), z9, z10, z11, z12, z13, none]) ?_ ?_
        · walk_at "ck1"
          refine take_ok kT2.app.pt (by omega) (by omega) fun q4 T3 q0 q1 k3 l3 => ?_
          have kT3 := kT2.app.trans k3
          have gT3 := k3.kp k _ hkw (get_old gT2)
          have ge := k3.kp T2.length _ (by have := kT2.lt; omega) (get_new (S := T2) (o := O.lst [.int e1, .int e2]))
          walk_at "ck1"
          by_cases hq : 0 < q4
          · simp only [gt_iff_lt, hq, if_true]
            walk_at "ck1"
            rw [wp_minL (ls_of ge)]
            walk_at "ck1"
            rw [wp_maxL (ls_of ge)]
            walk_at "ck1"
            exact ⟨kT3.app, get_old gT3, _, _, _, get_new, rfl⟩
          · simp only [gt_iff_lt, hq, if_false]
            exact ⟨kT3, gT3, _, _, _, ge, rfl⟩
        · rintro f T ⟨kT, gT, a, lo, hi, ga, rfl⟩
          clear kT2 gT2
          simp only [aft_nx]
          walk_at "ck1"
          rw [wp_gSqL (n := 2) (ls_of ga) rfl]
          walk_at "ck1"
          simp only [aft_nx]
          walk_at "ck1"
          simp only [aft_nx]
          walk_at "ck1"
          refine ⟨_, ls_of gT, ?_⟩
          refine wp_foL (xs := cs.map cd) (by rw [List.length_map]; unfold FU; omega) (fun n r U => U = T ∧ ∃ (d : D) (z6 : Option D), r = [some (.ref 0), some (.int (i : Int)), some (.ref w), some (.int pl), some (.ref k), some t.d, z6, some (.int (j : Int)), some (.ref a), some (.int lo), some (.int hi), some d, z12, z13, none] ∧ Due lo hi (cs.take n) d)
            ⟨rfl, .non, _, rfl, .inl ⟨rfl, fun c h => by cases h⟩⟩ (fun n r U hI => by rw [hI.1]; exact ls_of gT) (fun n x r U hx hI => ?_) (fun r U hI => ?_)
          · obtain ⟨rfl, d, z6, rfl, hd⟩ := hI
            obtain ⟨c, hc, rfl⟩ := cd_get hx
            have tk := take_succ hc
            rw [tk]
            have hnd : ∀ x ∈ cs.take n, x.1 ≠ c.1 := fun x hx => due_nodup hcn hc hx
            have stay : ¬ (lo ≤ c.1 ∧ c.1 ≤ hi) → Due lo hi (cs.take n ++ [c]) d := fun hno => by
              rcases hd with ⟨e, h⟩ | ⟨x, hx, e, x0, x1, h⟩
              · exact .inl ⟨e, fun y hy => by
                  rcases List.mem_append.mp hy with hy | hy
                  · exact h y hy
                  · rw [List.mem_singleton] at hy; rw [hy]; exact hno⟩
              · exact .inr ⟨x, List.mem_append_left _ hx, e, x0, x1, fun y hy y0 y1 => by
                  rcases List.mem_append.mp hy with hy | hy
                  · exact h y hy y0 y1
                  · rw [List.mem_singleton] at hy; rw [hy] at y0 y1; exact absurd ⟨y0, y1⟩ hno⟩
            simp only [cd]
            walk_at "ck1"
            by_cases c1 : lo ≤ c.1
            · by_cases c2 : c.1 ≤ hi
              · simp only [c1, c2, decide_true, if_true]
                walk_at "ck1"
                rcases hd with ⟨rfl, h⟩ | ⟨x, hx, rfl, x0, x1, h⟩
                · walk_at "ck1"
                  exact ⟨_, _, rfl, .inr ⟨c, by simp, rfl, c1, c2, fun y hy y0 y1 => by
                    rcases List.mem_append.mp hy with hy | hy
                    · exact absurd ⟨y0, y1⟩ (h y hy)
                    · rw [List.mem_singleton] at hy; exact .inl hy⟩⟩
                · simp only [cd]
                  walk_at "ck1"
                  refine over_ok (a := c) (b := x) ?_
                  walk_at "ck1"
                  by_cases ho : Lib.Or c x
                  · simp only [ho, if_true]
                    exact ⟨_, _, rfl, .inr ⟨c, by simp, rfl, c1, c2, fun y hy y0 y1 => by
                      rcases List.mem_append.mp hy with hy | hy
                      · rcases h y hy y0 y1 with rfl | h
                        · exact .inr ho
                        · exact .inr (ho.trans h)
                      · rw [List.mem_singleton] at hy; exact .inl hy⟩⟩
                  · simp only [ho, if_false]
                    exact ⟨_, _, rfl, .inr ⟨x, List.mem_append_left _ hx, rfl, x0, x1, fun y hy y0 y1 => by
                      rcases List.mem_append.mp hy with hy | hy
                      · exact h y hy y0 y1
                      · rw [List.mem_singleton] at hy; rw [hy]; exact .inr ((Or.total (hnd x hx)).resolve_right ho)⟩⟩
              · simp only [c1, c2, decide_true, decide_false, if_true, Bool.false_eq_true, if_false]
                exact ⟨_, _, rfl, stay fun h => c2 h.2⟩
            · simp only [c1, decide_false, Bool.false_eq_true, if_false]
              exact ⟨_, _, rfl, stay fun h => c1 h.1⟩
          · obtain ⟨rfl, d, z6, rfl, hd⟩ := hI
            rw [List.length_map, List.take_length] at hd
            simp only [aft_nx, wp_seq]
            have hmem : ∀ x : Card, x ∈ t.cards ↔ x ∈ cs := fun x => htc.mem_iff
            refine wp_mono (Q := fun f U2 => f = .nx [some (.ref 0), some (.int (i : Int)), some (.ref w), some (.int pl), some (.ref k), some t.d, z6, some (.int (j : Int)), some (.ref a), some (.int lo), some (.int hi), some d, z12, z13, none] ∧ ∃ G, U2 = U ++ G) ?_ ?_
            · walk_at "ck1"
              refine top_within_ok (by omega) hts (fun h G => ?_) (fun c hc c0 c1 h G => ?_)
              · rcases hd with ⟨rfl, _⟩ | ⟨x, hx, rfl, x0, x1, _⟩
                · rw [wp_ne]
                  refine ⟨.none, .none, by with_unfolding_all rfl, by with_unfolding_all rfl, ?_⟩
                  simp only [PyData.eqv]
                  walk_at "ck1"
                  exact ⟨G, rfl⟩
                · exact absurd ⟨x0, x1⟩ (h x ((hmem x).mpr hx))
              · rcases hd with ⟨rfl, h2⟩ | ⟨x, hx, rfl, x0, x1, h2⟩
                · exact absurd ⟨c0, c1⟩ (h2 c ((hmem c).mp hc))
                · have e : x = c := by
                    rcases h x ((hmem x).mpr hx) x0 x1 with e | ho1
                    · exact e
                    · rcases h2 c ((hmem c).mp hc) c0 c1 with e | ho2
                      · exact e.symm
                      · exact absurd ho2 ho1.asymm
                  subst e
                  rw [wp_ne]
                  refine ⟨cpy x, cpy x, py_cd x, py_cd x, ?_⟩
                  rw [eqv_card]
                  walk_at "ck1"
                  exact ⟨G, rfl⟩
            · rintro f U2 ⟨rfl, G, rfl⟩
              have kU := kT.app (T := G)
              have gU := get_old (T := G) gT
              generalize U ++ G = U2 at kU gU
              simp only [aft_nx]
              walk_at "ck1"
              rcases hd with ⟨rfl, _⟩ | ⟨x, hx, rfl, x0, x1, h2⟩
              · walk_at "ck1"
                exact ⟨kU, gU, _, _, _, _, _, _, _, _, rfl⟩
              · simp only [cd]
                walk_at "ck1"
                by_cases hpl : pl = 1
                · have e1 : (pl == 1) = true := beq_iff_eq.mpr hpl
                  simp only [e1, if_true]
                  walk_at "ck1"
                  have hlh : lo ≤ hi := by omega
                  refine wp_foT (xs := [.int lo, .int hi]) (by unfold FU; simp) (fun n r V => Kp w X V ∧ V[k]? = some (.lst (cs.map cd)) ∧ ∃ z12 z13, r = [some (.ref 0), some (.int (i : Int)), some (.ref w), some (.int pl), some (.ref k), some t.d, z6, some (.int (j : Int)), some (.ref a), some (.int lo), some (.int hi), some (cd x), z12, z13, none])
                    ⟨kU, gU, _, _, rfl⟩ (fun n y r V hy hI => ?_) (fun r V hI => ?_)
                  · obtain ⟨kV, gV, z12, z13, rfl⟩ := hI
                    have hye : ∃ e, y = .int e ∧ lo ≤ e ∧ e ≤ hi := by
                      match n, hy with
                      | 0, hy => cases hy; exact ⟨lo, rfl, by omega, hlh⟩
                      | 1, hy => cases hy; exact ⟨hi, rfl, hlh, by omega⟩
                    obtain ⟨e, rfl, he0, he1⟩ := hye
                    walk_at "ck1"
                    refine road_ok (by omega) fun m2 G2 gm2 hm2 => ?_
                    walk_at "ck1"
                    refine ⟨_, ls_of gm2, ?_⟩
                    have hpl2 := prts_len t e
                    refine lcGo_list (xs := ((prts t e).map topK).map D.int) (f := inD lo hi) rfl (by rw [List.length_map, List.length_map]; omega) (ls_of gm2) (fun q y acc hy => ?_) ?_
                    · obtain ⟨z, hz, rfl⟩ := map_get hy
                      unfold lcT
                      walk_at "ck1"
                      by_cases h3 : lo ≤ z <;> by_cases h4 : z ≤ hi <;> simp [h3, h4, inD]
                    rw [inD_ok]
                    simp only [aft_nx]
                    walk_at "ck1"
                    refine ne_nilI (ls_app ls_new) ls_new ?_
                    walk_at "ck1"
                    cases hf : ((prts t e).map topK).filter (fun k => decide (lo ≤ k) && decide (k ≤ hi)) with
                    | nil =>
                      simp only [List.isEmpty_nil, Bool.not_true, Bool.false_eq_true, if_false]
                      exact ⟨kV.app.app.app, get_old (get_old (get_old gV)), _, _, rfl⟩
                    | cons y ys =>
                      obtain ⟨c, hc, hcy, c0, c1, ho⟩ := met_first he0 he1 (hto hpl) hts hf
                      have exc : x = c := by
                        rcases ho x ((hmem x).mpr hx) x0 x1 with e | ho1
                        · exact e
                        · rcases h2 c ((hmem c).mp hc) c0 c1 with e | ho2
                          · exact e.symm
                          · exact absurd ho2 ho1.asymm
                      simp only [List.isEmpty_cons, Bool.not_false, if_true]
                      walk_at "ck1"
                      refine ⟨_, ls_app ls_new, _, CK.at0, ?_⟩
                      simp only [cd]
                      walk_at "ck1"
                      have e5 : (y == x.1) = true := beq_iff_eq.mpr (by rw [exc, hcy])
                      simp only [e5, Bool.not_true, Bool.false_eq_true, if_false]
                      exact ⟨kV.app.app.app, get_old (get_old (get_old gV)), _, _, rfl⟩
                  · obtain ⟨kV, gV, z12, z13, rfl⟩ := hI
                    try simp only [aft_nx]
                    walk_at "ck1"
                    exact ⟨kV, gV, _, _, _, _, _, _, _, _, rfl⟩
                · have e1 : (pl == 1) = false := beq_eq_false_iff_ne.mpr hpl
                  simp only [e1, Bool.false_eq_true, if_false]
                  walk_at "ck1"
                  exact ⟨kU, gU, _, _, _, _, _, _, _, _, rfl⟩
      · obtain ⟨kT, gT, z6, z7, z8, z9, z10, z11, z12, z13, rfl⟩ := hI
        try simp only [aft_nx]
        walk_at "ck1"
        exact ⟨kT.kp 0 _ (by omega) h00, _, _, _, _, _, _, _, _, _, _, _, _, _, rfl⟩
  · obtain ⟨h0, y1, y2, y3, y4, y5, y6, y7, y8, y9, y10, y11, y12, y13, rfl⟩ := hI
    simp only [aft_nx]
    walk_at "ck1"
    refine top_within_ok (t := .e) (by decide) List.Pairwise.nil (fun _ G => ?_) (fun c hc => by cases hc)
    walk_at "ck1"
end Lk10
end CK
end

section
set_option Elab.async false
set_option linter.all false
set_option maxRecDepth 100000
set_option maxHeartbeats 4000000
namespace CK
namespace Lk10
open PySem PySem.Spec PyProof.Rows L2

open CK.Lib
def topS (i : Nat) : Stmt := PySem.Challenge.pw_crestkeys_k10_tops_within.main.body.getD i (.Pass ⟨0, 0, 0, 0⟩)
abbrev s_law_pot : Stmt := topS 9
theorem sc_law_pot : FnScope ["script", "k", "cell"] ["script", "k"] (defScope s_law_pot) := ⟨rfl, rfl, rfl, by decide +kernel, rfl, by decide +kernel, by decide +kernel⟩
abbrev s_law_take : Stmt := topS 10
theorem sc_law_take : FnScope ["pot", "many", "found"] ["pot", "many"] (defScope s_law_take) := ⟨rfl, rfl, rfl, by decide +kernel, rfl, by decide +kernel, by decide +kernel⟩
abbrev s_law_great : Stmt := topS 11
theorem sc_law_great : FnScope ["pot", "low", "middle"] ["pot"] (defScope s_law_great) := ⟨rfl, rfl, rfl, by decide +kernel, rfl, by decide +kernel, by decide +kernel⟩
abbrev s_law_number : Stmt := topS 12
theorem sc_law_number : FnScope ["pot", "base", "way", "near", "found"] ["pot", "base"] (defScope s_law_number) := ⟨rfl, rfl, rfl, by decide +kernel, rfl, by decide +kernel, by decide +kernel⟩
abbrev s_law_card : Stmt := topS 13
theorem sc_law_card : FnScope ["pot", "base", "ranks", "key", "rank", "worth"] ["pot", "base", "ranks"] (defScope s_law_card) := ⟨rfl, rfl, rfl, by decide +kernel, rfl, by decide +kernel, by decide +kernel⟩
abbrev s_law_pack : Stmt := topS 14
theorem sc_law_pack : FnScope ["pot", "most", "many", "ranks", "base", "pack", "known", "k", "card"] ["pot", "most"] (defScope s_law_pack) := ⟨rfl, rfl, rfl, by decide +kernel, rfl, by decide +kernel, by decide +kernel⟩
abbrev s_cards_within : Stmt := topS 6
theorem sc_cards_within : FnScope ["tree", "low", "high", "left", "card", "right", "found"] ["tree", "low", "high"] (defScope s_cards_within) := ⟨rfl, rfl, rfl, by decide +kernel, rfl, by decide +kernel, by decide +kernel⟩
abbrev s_outranks : Stmt := topS 1
theorem sc_outranks : FnScope ["one", "other"] ["one", "other"] (defScope s_outranks) := ⟨rfl, rfl, rfl, by decide +kernel, rfl, by decide +kernel, by decide +kernel⟩
abbrev s_topmost : Stmt := topS 3
theorem sc_topmost : FnScope ["cards", "found", "at"] ["cards"] (defScope s_topmost) := ⟨rfl, rfl, rfl, by decide +kernel, rfl, by decide +kernel, by decide +kernel⟩
abbrev s_top_within : Stmt := topS 7
theorem sc_top_within : FnScope ["tree", "low", "high", "some"] ["tree", "low", "high"] (defScope s_top_within) := ⟨rfl, rfl, rfl, by decide +kernel, rfl, by decide +kernel, by decide +kernel⟩
abbrev s_law_leafed : Stmt := topS 17
theorem sc_law_leafed : FnScope ["tree", "card", "left", "top", "right"] ["tree", "card"] (defScope s_law_leafed) := ⟨rfl, rfl, rfl, by decide +kernel, rfl, by decide +kernel, by decide +kernel⟩
abbrev s_law_over : Stmt := topS 15
theorem sc_law_over : FnScope ["one", "other"] ["one", "other"] (defScope s_law_over) := ⟨rfl, rfl, rfl, by decide +kernel, rfl, by decide +kernel, by decide +kernel⟩
abbrev s_law_by_ranks : Stmt := topS 16
theorem sc_law_by_ranks : FnScope ["pack", "row", "card", "one"] ["pack"] (defScope s_law_by_ranks) := ⟨rfl, rfl, rfl, by decide +kernel, rfl, by decide +kernel, by decide +kernel⟩
abbrev s_law_end : Stmt := topS 19
theorem sc_law_end : FnScope ["pot", "cards", "way"] ["pot", "cards"] (defScope s_law_end) := ⟨rfl, rfl, rfl, by decide +kernel, rfl, by decide +kernel, by decide +kernel⟩
abbrev s_parts_on_road : Stmt := topS 4
theorem sc_parts_on_road : FnScope ["tree", "key", "found"] ["tree", "key"] (defScope s_parts_on_road) := ⟨rfl, rfl, rfl, by decide +kernel, rfl, by decide +kernel, by decide +kernel⟩
abbrev s_road : Stmt := topS 5
theorem sc_road : FnScope ["tree", "key", "part"] ["tree", "key"] (defScope s_road) := ⟨rfl, rfl, rfl, by decide +kernel, rfl, by decide +kernel, by decide +kernel⟩
abbrev s_law : Stmt := topS 20
theorem sc_law : FnScope ["script", "k", "pot", "plain", "pack", "tree", "card", "turn", "ends", "low", "high", "due", "end", "met", "key"] ["script"] (defScope s_law) := ⟨rfl, rfl, rfl, by decide +kernel, rfl, by decide +kernel, by decide +kernel⟩
structure Bl (c : Gx) : Prop where
  b_abs : c.mg "abs" = none
  b_int : c.mg "int" = none
  b_len : c.mg "len" = none
  b_max : c.mg "max" = none
  b_min : c.mg "min" = none
  b_range : c.mg "range" = none
section
variable {P : Program} {w : World} {c : Gx} {base : Heap}
theorem ok_law_pot (T : DefAt c "_law_pot" s_law_pot ["script", "k"]) (Bl : Bl c) : FnHas P w c base 1 "_law_pot" ["script", "k"] law_pot_M :=
  T.has (k := 0) sc_law_pot <| fun f cdv A outer s H E tk po hr =>
  ⟨_, (pss_cons (ps_set (i := 2) sc_law_pot.nd rfl (.inl rfl) pe_int)
 (pss_cons (ps_if (pt_cmpR op_lt (pv 1) (pe_callB call_lenA (by rfl) Bl.b_len (by decide +kernel) (pa_cons (pv 0) pa_nil)) (nomark _)) (pss_one (ps_set (i := 2) sc_law_pot.nd rfl (.inl rfl) (pe_op op_mod (pe_callB call_abs (by rfl) Bl.b_abs (by decide +kernel) (pa_cons (pe_ix ix_seq (pv 0) (pv 1) (fun _ _ => rfl)) pa_nil)) (pe_op op_powX (pe_op op_powX pe_int pe_int) pe_int))))
 pss_nil)
 (pss_one (ps_ret (pe_lst (pa_cons (pe_op op_mulA (pv 2) (pe_callTy call_int1 (by rfl) Bl.b_int (by decide +kernel) (pa_cons (pe_cmpR op_ge (pv 2) (pe_op op_powX pe_int pe_int) (nomark _)) pa_nil))) (pa_cons (pe_op op_mod (pe_op op_powX (pe_op op_addA (pe_op op_addA (pe_op op_mod (pv 2) pe_int) (pe_op op_mulA pe_int (pv 1))) pe_int) pe_int) pe_int) pa_nil))))))),
 (sem_seq (sem_asg sem_int (sem_name 2))
 (sem_seq (sem_if (sem_tTest (sem_op s_lt (sem_var 1) (sem_cb s_len (sem_cons (sem_var 0) sem_nil)))) (sem_asg (sem_op s_mod (sem_cb s_abs (sem_cons (sem_op s_ix (sem_var 0) (sem_var 1)) sem_nil)) (sem_op s_pow (sem_op s_pow sem_int sem_int) sem_int)) (sem_name 2))
 sem_next)
 (sem_ret (sem_lst (sem_cons (sem_op s_mul (sem_var 2) (sem_cb s_int (sem_cons (sem_op s_ge (sem_var 2) (sem_op s_pow sem_int sem_int)) sem_nil))) (sem_cons (sem_op s_mod (sem_op s_pow (sem_op s_add (sem_op s_add (sem_op s_mod (sem_var 2) sem_int) (sem_op s_mul sem_int (sem_var 1))) sem_int) sem_int) sem_int) sem_nil))))))⟩
theorem ok_law_take (T : DefAt c "_law_take" s_law_take ["pot", "many"]) (Bl : Bl c) : FnHas P w c base 1 "_law_take" ["pot", "many"] law_take_M :=
  T.has (k := 0) sc_law_take <| fun f cdv A outer s H E tk po hr =>
  ⟨_, (pss_cons (ps_if (pt_cmpR op_gt (pe_ix ix_seq (pv 0) pe_int (fun _ _ => rfl)) pe_int (nomark _)) (pss_cons (ps_set (i := 2) sc_law_take.nd rfl (.inl rfl) (pe_op op_mod (pe_ix ix_seq (pv 0) pe_int (fun _ _ => rfl)) (pv 1)))
 (pss_cons (ps_asg (pe_op op_fdivW (pe_ix ix_seq (pv 0) pe_int (fun _ _ => rfl)) (pv 1)) (pg_sub (pv 0) pe_int set_list))
 (pss_one (ps_ret (pv 2)))))
 pss_nil)
 (pss_cons (ps_asg (pe_op op_mod (pe_op op_addA (pe_op op_mulA (pe_ix ix_seq (pv 0) pe_int (fun _ _ => rfl)) pe_int) pe_int) pe_int) (pg_sub (pv 0) pe_int set_list))
 (pss_one (ps_ret (pe_op op_mod (pe_op op_fdivW (pe_op op_mod (pe_op op_mulA (pe_ix ix_seq (pv 0) pe_int (fun _ _ => rfl)) (pe_ix ix_seq (pv 0) pe_int (fun _ _ => rfl))) pe_int) pe_int) (pv 1)))))),
 (sem_seq (sem_if (sem_tTest (sem_op s_gt (sem_op s_ix (sem_var 0) sem_int) sem_int)) (sem_seq (sem_asg (sem_op s_mod (sem_op s_ix (sem_var 0) sem_int) (sem_var 1)) (sem_name 2))
 (sem_seq (sem_asg (sem_op s_fdiv (sem_op s_ix (sem_var 0) sem_int) (sem_var 1)) (sem_gSub (sem_var 0) sem_int s_set))
 (sem_ret (sem_var 2))))
 sem_next)
 (sem_seq (sem_asg (sem_op s_mod (sem_op s_add (sem_op s_mul (sem_op s_ix (sem_var 0) sem_int) sem_int) sem_int) sem_int) (sem_gSub (sem_var 0) sem_int s_set))
 (sem_ret (sem_op s_mod (sem_op s_fdiv (sem_op s_mod (sem_op s_mul (sem_op s_ix (sem_var 0) sem_int) (sem_op s_ix (sem_var 0) sem_int)) sem_int) sem_int) (sem_var 1)))))⟩
structure Hs_law_great (P : Program) (w : World) (c : Gx) (base : Heap) : Prop where
  h_law_take : FnHas P w c base 1 "_law_take" ["pot", "many"] law_take_M
theorem ok_law_great (T : DefAt c "_law_great" s_law_great ["pot"]) (Hs : Hs_law_great P w c base) (Bl : Bl c) : FnHas P w c base 2 "_law_great" ["pot"] law_great2_M :=
  T.has (k := 1) sc_law_great <| fun f cdv A outer s H E tk po hr =>
  ⟨_, (pss_cons (ps_set (i := 1) sc_law_great.nd rfl (.inl rfl) (pe_callM Hs.h_law_take hr tk (pa_cons (pv 0) (pa_cons (pe_op op_powX pe_int pe_int) pa_nil)) (hjk := by omega)))
 (pss_cons (ps_set (i := 2) sc_law_great.nd rfl (.inl rfl) (pe_callM Hs.h_law_take hr tk (pa_cons (pv 0) (pa_cons (pe_op op_powX pe_int pe_int) pa_nil)) (hjk := by omega)))
 (pss_one (ps_ret (pe_callB (call_minA hr.r rfl) (by rfl) Bl.b_min (by decide +kernel) (pa_cons (pe_op op_powX pe_int pe_int) (pa_cons (pe_op op_addA (pe_op op_mulA (pe_op op_addA (pe_op op_mulA (pe_callM Hs.h_law_take hr tk (pa_cons (pv 0) (pa_cons (pe_op op_addA (pe_op op_powX pe_int pe_int) pe_int) pa_nil)) (hjk := by omega)) (pe_op op_powX pe_int pe_int)) (pv 2)) (pe_op op_powX pe_int pe_int)) (pv 1)) pa_nil))))))),
 (sem_seq (sem_asg (sem_call (sem_cons (sem_var 0) (sem_cons (sem_op s_pow sem_int sem_int) sem_nil))) (sem_name 1))
 (sem_seq (sem_asg (sem_call (sem_cons (sem_var 0) (sem_cons (sem_op s_pow sem_int sem_int) sem_nil))) (sem_name 2))
 (sem_ret (sem_cb s_min (sem_cons (sem_op s_pow sem_int sem_int) (sem_cons (sem_op s_add (sem_op s_mul (sem_op s_add (sem_op s_mul (sem_call (sem_cons (sem_var 0) (sem_cons (sem_op s_add (sem_op s_pow sem_int sem_int) sem_int) sem_nil))) (sem_op s_pow sem_int sem_int)) (sem_var 2)) (sem_op s_pow sem_int sem_int)) (sem_var 1)) sem_nil))))))⟩
structure Hs_law_number (P : Program) (w : World) (c : Gx) (base : Heap) : Prop where
  h_law_take : FnHas P w c base 1 "_law_take" ["pot", "many"] law_take_M
  h_law_great : FnHas P w c base 2 "_law_great" ["pot"] law_great2_M
theorem ok_law_number (T : DefAt c "_law_number" s_law_number ["pot", "base"]) (Hs : Hs_law_number P w c base) (Bl : Bl c) : FnHas P w c base 3 "_law_number" ["pot", "base"] law_number_M :=
  T.has (k := 2) sc_law_number <| fun f cdv A outer s H E tk po hr =>
  ⟨_, (pss_cons (ps_set (i := 2) sc_law_number.nd rfl (.inl rfl) (pe_callM Hs.h_law_take hr tk (pa_cons (pv 0) (pa_cons pe_int pa_nil)) (hjk := by omega)))
 (pss_cons (ps_set (i := 3) sc_law_number.nd rfl (.inl rfl) (pe_callM Hs.h_law_take hr tk (pa_cons (pv 0) (pa_cons pe_int pa_nil)) (hjk := by omega)))
 (pss_cons (ps_set (i := 4) sc_law_number.nd rfl (.inl rfl) (pe_ix ix_seq (pe_lst (pa_cons (pe_op op_addA (pv 1) (pv 3)) (pa_cons (pe_op op_fdivW (pv 3) pe_int) (pa_cons (pe_op op_sub (pe_op op_powX pe_int pe_int) (pe_op op_fdivW (pv 3) pe_int)) (pa_cons (pe_op op_addA (pv 1) (pv 3)) pa_nil))))) (pe_callB (call_minA hr.r rfl) (by rfl) Bl.b_min (by decide +kernel) (pa_cons (pv 2) (pa_cons pe_int pa_nil))) (fun _ _ => rfl)))
 (pss_cons (ps_if (pt_cmpR (op_eqX hr.r) (pv 2) pe_int (nomark _)) (pss_one (ps_set (i := 4) sc_law_number.nd rfl (.inl rfl) (pe_callM Hs.h_law_great hr tk (pa_cons (pv 0) pa_nil) (hjk := by omega))))
 pss_nil)
 (pss_one (ps_ret (pe_callB (call_minA hr.r rfl) (by rfl) Bl.b_min (by decide +kernel) (pa_cons (pv 4) (pa_cons (pe_op op_powX pe_int pe_int) pa_nil))))))))),
 (sem_seq (sem_asg (sem_call (sem_cons (sem_var 0) (sem_cons sem_int sem_nil))) (sem_name 2))
 (sem_seq (sem_asg (sem_call (sem_cons (sem_var 0) (sem_cons sem_int sem_nil))) (sem_name 3))
 (sem_seq (sem_asg (sem_op s_ix (sem_lst (sem_cons (sem_op s_add (sem_var 1) (sem_var 3)) (sem_cons (sem_op s_fdiv (sem_var 3) sem_int) (sem_cons (sem_op s_sub (sem_op s_pow sem_int sem_int) (sem_op s_fdiv (sem_var 3) sem_int)) (sem_cons (sem_op s_add (sem_var 1) (sem_var 3)) sem_nil))))) (sem_cb s_min (sem_cons (sem_var 2) (sem_cons sem_int sem_nil)))) (sem_name 4))
 (sem_seq (sem_if (sem_tTest (sem_op s_eq (sem_var 2) sem_int)) (sem_asg (sem_call (sem_cons (sem_var 0) sem_nil)) (sem_name 4))
 sem_next)
 (sem_ret (sem_cb s_min (sem_cons (sem_var 4) (sem_cons (sem_op s_pow sem_int sem_int) sem_nil))))))))⟩
structure Hs_law_card (P : Program) (w : World) (c : Gx) (base : Heap) : Prop where
  h_law_number : FnHas P w c base 3 "_law_number" ["pot", "base"] law_number_M
  h_law_take : FnHas P w c base 1 "_law_take" ["pot", "many"] law_take_M
  h_law_great : FnHas P w c base 2 "_law_great" ["pot"] law_great2_M
theorem ok_law_card (T : DefAt c "_law_card" s_law_card ["pot", "base", "ranks"]) (Hs : Hs_law_card P w c base) (Bl : Bl c) : FnHas P w c base 4 "_law_card" ["pot", "base", "ranks"] law_card_M :=
  T.has (k := 3) sc_law_card <| fun f cdv A outer s H E tk po hr =>
  ⟨_, (pss_cons (ps_set (i := 3) sc_law_card.nd rfl (.inl rfl) (pe_callM Hs.h_law_number hr tk (pa_cons (pv 0) (pa_cons (pv 1) pa_nil)) (hjk := by omega)))
 (pss_cons (ps_set (i := 4) sc_law_card.nd rfl (.inl rfl) (pe_ix ix_seq (pe_lst (pa_cons pe_int (pa_cons (pe_callM Hs.h_law_take hr tk (pa_cons (pv 0) (pa_cons pe_int pa_nil)) (hjk := by omega)) (pa_cons (pe_callM Hs.h_law_number hr tk (pa_cons (pv 0) (pa_cons (pv 1) pa_nil)) (hjk := by omega)) pa_nil)))) (pv 2) (fun _ _ => rfl)))
 (pss_cons (ps_set (i := 5) sc_law_card.nd rfl (.inl rfl) (pe_op op_sub (pe_callM Hs.h_law_take hr tk (pa_cons (pv 0) (pa_cons pe_int pa_nil)) (hjk := by omega)) pe_int))
 (pss_cons (ps_if (pt_cmpR (op_eqX hr.r) (pe_callM Hs.h_law_take hr tk (pa_cons (pv 0) (pa_cons pe_int pa_nil)) (hjk := by omega)) pe_int (nomark _)) (pss_one (ps_set (i := 5) sc_law_card.nd rfl (.inl rfl) (pe_op op_mulA (pe_callM Hs.h_law_great hr tk (pa_cons (pv 0) pa_nil) (hjk := by omega)) (pe_ix ix_seq (pe_lst (pa_cons pe_int (pa_cons (pe_op op_sub pe_int pe_int) pa_nil))) (pe_callM Hs.h_law_take hr tk (pa_cons (pv 0) (pa_cons pe_int pa_nil)) (hjk := by omega)) (fun _ _ => rfl)))))
 pss_nil)
 (pss_one (ps_ret (pe_tup (pa_cons (pv 3) (pa_cons (pv 4) (pa_cons (pe_callB (call_maxA hr.r rfl) (by rfl) Bl.b_max (by decide +kernel) (pa_cons (pe_op op_sub pe_int (pe_op op_powX pe_int pe_int)) (pa_cons (pe_callB (call_minA hr.r rfl) (by rfl) Bl.b_min (by decide +kernel) (pa_cons (pe_op op_powX pe_int pe_int) (pa_cons (pv 5) pa_nil))) pa_nil))) pa_nil)))))))))),
 (sem_seq (sem_asg (sem_call (sem_cons (sem_var 0) (sem_cons (sem_var 1) sem_nil))) (sem_name 3))
 (sem_seq (sem_asg (sem_op s_ix (sem_lst (sem_cons sem_int (sem_cons (sem_call (sem_cons (sem_var 0) (sem_cons sem_int sem_nil))) (sem_cons (sem_call (sem_cons (sem_var 0) (sem_cons (sem_var 1) sem_nil))) sem_nil)))) (sem_var 2)) (sem_name 4))
 (sem_seq (sem_asg (sem_op s_sub (sem_call (sem_cons (sem_var 0) (sem_cons sem_int sem_nil))) sem_int) (sem_name 5))
 (sem_seq (sem_if (sem_tTest (sem_op s_eq (sem_call (sem_cons (sem_var 0) (sem_cons sem_int sem_nil))) sem_int)) (sem_asg (sem_op s_mul (sem_call (sem_cons (sem_var 0) sem_nil)) (sem_op s_ix (sem_lst (sem_cons sem_int (sem_cons (sem_op s_sub sem_int sem_int) sem_nil))) (sem_call (sem_cons (sem_var 0) (sem_cons sem_int sem_nil))))) (sem_name 5))
 sem_next)
 (sem_ret (sem_tup (sem_cons (sem_var 3) (sem_cons (sem_var 4) (sem_cons (sem_cb s_max (sem_cons (sem_op s_sub sem_int (sem_op s_pow sem_int sem_int)) (sem_cons (sem_cb s_min (sem_cons (sem_op s_pow sem_int sem_int) (sem_cons (sem_var 5) sem_nil))) sem_nil))) sem_nil)))))))))⟩
structure Hs_law_pack (P : Program) (w : World) (c : Gx) (base : Heap) : Prop where
  h_law_take : FnHas P w c base 1 "_law_take" ["pot", "many"] law_take_M
  h_law_great : FnHas P w c base 2 "_law_great" ["pot"] law_great2_M
  h_law_card : FnHas P w c base 4 "_law_card" ["pot", "base", "ranks"] law_card_M
theorem ok_law_pack (T : DefAt c "_law_pack" s_law_pack ["pot", "most"]) (Hs : Hs_law_pack P w c base) (Bl : Bl c) : FnHas P w c base 5 "_law_pack" ["pot", "most"] law_pack_M :=
  T.has (k := 4) sc_law_pack <| fun f cdv A outer s H E tk po hr =>
  ⟨_, (pss_cons (ps_set (i := 2) sc_law_pack.nd rfl (.inl rfl) (pe_ix ix_seq (pe_lst (pa_cons (pe_callM Hs.h_law_take hr tk (pa_cons (pv 0) (pa_cons (pe_op op_addA (pv 1) pe_int) pa_nil)) (hjk := by omega)) (pa_cons (pv 1) pa_nil))) (pe_callTy call_int1 (by rfl) Bl.b_int (by decide +kernel) (pa_cons (pe_cmpR (op_eqX hr.r) (pe_callM Hs.h_law_take hr tk (pa_cons (pv 0) (pa_cons pe_int pa_nil)) (hjk := by omega)) pe_int (nomark _)) pa_nil)) (fun _ _ => rfl)))
 (pss_cons (ps_set (i := 3) sc_law_pack.nd rfl (.inl rfl) (pe_callM Hs.h_law_take hr tk (pa_cons (pv 0) (pa_cons pe_int pa_nil)) (hjk := by omega)))
 (pss_cons (ps_set (i := 4) sc_law_pack.nd rfl (.inl rfl) (pe_op op_mulA (pe_callM Hs.h_law_great hr tk (pa_cons (pv 0) pa_nil) (hjk := by omega)) (pe_callM Hs.h_law_take hr tk (pa_cons (pv 0) (pa_cons pe_int pa_nil)) (hjk := by omega))))
 (pss_cons (ps_set (i := 5) sc_law_pack.nd rfl (.inl rfl) (pe_lst pa_nil))
 (pss_cons (ps_set (i := 6) sc_law_pack.nd rfl (.inl rfl) pe_dnewK)
 (pss_cons (ps_for po rfl (pi_range1 (by rfl) Bl.b_range (pa_cons (pv 2) pa_nil)) (pg_name (i := 7) sc_law_pack.nd rfl (.inl rfl))
 (pss_cons (ps_set (i := 8) sc_law_pack.nd rfl (.inl rfl) (pe_callM Hs.h_law_card hr tk (pa_cons (pv 0) (pa_cons (pv 4) (pa_cons (pv 3) pa_nil))) (hjk := by omega)))
 (pss_one (ps_if (pt_cmpR (op_dnin (hu_of hr.r)) (pe_ix ix_seq (pv 8) pe_int (fun _ _ => rfl)) (pv 6) (by rfl)) (pss_cons (ps_asg pe_bl (pg_sub (pv 6) (pe_ix ix_seq (pv 8) pe_int (fun _ _ => rfl)) (set_dict (hu_of hr.r))))
 (pss_one (ps_expr (pe_bm PySem.F.plainAttrs_list PySem.F.slot_list_insert PySem.F.type_list_insert mt_insert (pv 5) (pa_cons (pe_callM Hs.h_law_take hr tk (pa_cons (pv 0) (pa_cons (pe_op op_addA (pe_callB call_lenA (by rfl) Bl.b_len (by decide +kernel) (pa_cons (pv 5) pa_nil)) pe_int) pa_nil)) (hjk := by omega)) (pa_cons (pv 8) pa_nil))))))
 pss_nil))))
 (pss_one (ps_ret (pv 5))))))))),
 (sem_seq (sem_asg (sem_op s_ix (sem_lst (sem_cons (sem_call (sem_cons (sem_var 0) (sem_cons (sem_op s_add (sem_var 1) sem_int) sem_nil))) (sem_cons (sem_var 1) sem_nil))) (sem_cb s_int (sem_cons (sem_op s_eq (sem_call (sem_cons (sem_var 0) (sem_cons sem_int sem_nil))) sem_int) sem_nil))) (sem_name 2))
 (sem_seq (sem_asg (sem_call (sem_cons (sem_var 0) (sem_cons sem_int sem_nil))) (sem_name 3))
 (sem_seq (sem_asg (sem_op s_mul (sem_call (sem_cons (sem_var 0) sem_nil)) (sem_call (sem_cons (sem_var 0) (sem_cons sem_int sem_nil)))) (sem_name 4))
 (sem_seq (sem_asg (sem_lst sem_nil) (sem_name 5))
 (sem_seq (sem_asg sem_dnew (sem_name 6))
 (sem_seq (sem_for (sem_rng1 (sem_cons (sem_var 2) sem_nil)) (sem_name 7)
 (sem_seq (sem_asg (sem_call (sem_cons (sem_var 0) (sem_cons (sem_var 4) (sem_cons (sem_var 3) sem_nil)))) (sem_name 8))
 (sem_if (sem_tTest (sem_op s_dnin (sem_op s_ix (sem_var 8) sem_int) (sem_var 6))) (sem_seq (sem_asg sem_bl (sem_gSub (sem_var 6) (sem_op s_ix (sem_var 8) sem_int) s_dput))
 (sem_drop (sem_bm s_insert (sem_var 5) (sem_cons (sem_call (sem_cons (sem_var 0) (sem_cons (sem_op s_add (sem_cb s_len (sem_cons (sem_var 5) sem_nil)) sem_int) sem_nil))) (sem_cons (sem_var 8) sem_nil)))))
 sem_next)))
 (sem_ret (sem_var 5))))))))⟩
theorem ok_cards_within (T : DefAt c "cards_within" s_cards_within ["tree", "low", "high"]) (Bl : Bl c) : ∀ n : Nat, FnHas P w c base (n + 1) "cards_within" ["tree", "low", "high"] (cards_within_M n)
  | 0 => T.bad fun _ _ => rfl
  | n + 1 => by
   have ih := ok_cards_within T Bl n
   exact T.has (k := n + 1) sc_cards_within <| fun f cdv A outer s H E tk po hr =>
  ⟨_, (pss_cons (ps_if (pt_cmpR (op_eqX hr.r) (pv 0) (pe_tup pa_nil) (nomark _)) (pss_one (ps_ret (pe_lst pa_nil)))
 pss_nil)
 (pss_cons (ps_asg (pv 0) (pg_tup rfl (pgs_cons (pg_name (i := 3) sc_cards_within.nd rfl (.inl rfl)) (pgs_cons (pg_name (i := 4) sc_cards_within.nd rfl (.inl rfl)) (pgs_cons (pg_name (i := 5) sc_cards_within.nd rfl (.inl rfl)) pgs_nil)))))
 (pss_cons (ps_set (i := 6) sc_cards_within.nd rfl (.inl rfl) (pe_lst pa_nil))
 (pss_cons (ps_if (pt_cmpR op_lt (pv 1) (pe_ix ix_seq (pv 4) pe_int (fun _ _ => rfl)) (nomark _)) (pss_one (ps_expr (pe_bm PySem.F.plainAttrs_list PySem.F.slot_list_extend PySem.F.type_list_extend mt_extend (pv 6) (pa_cons (pe_callM ih hr tk (pa_cons (pv 3) (pa_cons (pv 1) (pa_cons (pv 2) pa_nil))) (hjk := by omega)) pa_nil))))
 pss_nil)
 (pss_cons (ps_if (pt_chain op_le op_le (pv 1) (pe_ix ix_seq (pv 4) pe_int (fun _ _ => rfl)) (pv 2)) (pss_one (ps_expr (pe_bm PySem.F.plainAttrs_list PySem.F.slot_list_append PySem.F.type_list_append mt_append (pv 6) (pa_cons (pv 4) pa_nil))))
 pss_nil)
 (pss_cons (ps_if (pt_cmpR op_lt (pe_ix ix_seq (pv 4) pe_int (fun _ _ => rfl)) (pv 2) (nomark _)) (pss_one (ps_expr (pe_bm PySem.F.plainAttrs_list PySem.F.slot_list_extend PySem.F.type_list_extend mt_extend (pv 6) (pa_cons (pe_callM ih hr tk (pa_cons (pv 5) (pa_cons (pv 1) (pa_cons (pv 2) pa_nil))) (hjk := by omega)) pa_nil))))
 pss_nil)
 (pss_one (ps_ret (pv 6))))))))),
 (sem_seq (sem_if (sem_tTest (sem_op s_eq (sem_var 0) (sem_tup sem_nil))) (sem_ret (sem_lst sem_nil))
 sem_next)
 (sem_seq (sem_asg (sem_var 0) (sem_gTup (sem_gsCons (fun _ => (sem_name 3)) (fun _ => (sem_gsCons (fun _ => (sem_name 4)) (fun _ => (sem_gsCons (fun _ => (sem_name 5)) (fun _ => sem_gsNil))))))))
 (sem_seq (sem_asg (sem_lst sem_nil) (sem_name 6))
 (sem_seq (sem_if (sem_tTest (sem_op s_lt (sem_var 1) (sem_op s_ix (sem_var 4) sem_int))) (sem_drop (sem_bm s_extend (sem_var 6) (sem_cons (sem_call (sem_cons (sem_var 3) (sem_cons (sem_var 1) (sem_cons (sem_var 2) sem_nil)))) sem_nil)))
 sem_next)
 (sem_seq (sem_if (sem_tTest (sem_chain s_le s_le (sem_var 1) (sem_op s_ix (sem_var 4) sem_int) (sem_var 2))) (sem_drop (sem_bm s_append (sem_var 6) (sem_cons (sem_var 4) sem_nil)))
 sem_next)
 (sem_seq (sem_if (sem_tTest (sem_op s_lt (sem_op s_ix (sem_var 4) sem_int) (sem_var 2))) (sem_drop (sem_bm s_extend (sem_var 6) (sem_cons (sem_call (sem_cons (sem_var 5) (sem_cons (sem_var 1) (sem_cons (sem_var 2) sem_nil)))) sem_nil)))
 sem_next)
 (sem_ret (sem_var 6))))))))⟩
theorem ok_outranks (T : DefAt c "outranks" s_outranks ["one", "other"]) (Bl : Bl c) : FnHas P w c base 1 "outranks" ["one", "other"] outranks_M :=
  T.has (k := 0) sc_outranks <| fun f cdv A outer s H E tk po hr =>
  ⟨_, (pss_cons (ps_if (pt_cmpR (op_neX hr.r) (pe_ix ix_seq (pv 0) pe_int (fun _ _ => rfl)) (pe_ix ix_seq (pv 1) pe_int (fun _ _ => rfl)) (nomark _)) (pss_one (ps_ret (pe_cmpR op_gt (pe_ix ix_seq (pv 0) pe_int (fun _ _ => rfl)) (pe_ix ix_seq (pv 1) pe_int (fun _ _ => rfl)) (nomark _))))
 pss_nil)
 (pss_one (ps_ret (pe_cmpR op_lt (pe_ix ix_seq (pv 0) pe_int (fun _ _ => rfl)) (pe_ix ix_seq (pv 1) pe_int (fun _ _ => rfl)) (nomark _))))),
 (sem_seq (sem_if (sem_tTest (sem_op s_ne (sem_op s_ix (sem_var 0) sem_int) (sem_op s_ix (sem_var 1) sem_int))) (sem_ret (sem_op s_gt (sem_op s_ix (sem_var 0) sem_int) (sem_op s_ix (sem_var 1) sem_int)))
 sem_next)
 (sem_ret (sem_op s_lt (sem_op s_ix (sem_var 0) sem_int) (sem_op s_ix (sem_var 1) sem_int))))⟩
structure Hs_topmost (P : Program) (w : World) (c : Gx) (base : Heap) : Prop where
  h_outranks : FnHas P w c base 1 "outranks" ["one", "other"] outranks_M
theorem ok_topmost (T : DefAt c "topmost" s_topmost ["cards"]) (Hs : Hs_topmost P w c base) (Bl : Bl c) : FnHas P w c base 2 "topmost" ["cards"] topmost_M :=
  T.has (k := 1) sc_topmost <| fun f cdv A outer s H E tk po hr =>
  ⟨_, (pss_cons (ps_set (i := 1) sc_topmost.nd rfl (.inl rfl) pe_int)
 (pss_cons (ps_for po rfl (pi_range2 (by rfl) Bl.b_range (pa_cons pe_int (pa_cons (pe_callB call_lenA (by rfl) Bl.b_len (by decide +kernel) (pa_cons (pv 0) pa_nil)) pa_nil))) (pg_name (i := 2) sc_topmost.nd rfl (.inl rfl))
 (pss_one (ps_if (pt_val (pe_callM Hs.h_outranks hr tk (pa_cons (pe_ix ix_seq (pv 0) (pv 2) (fun _ _ => rfl)) (pa_cons (pe_ix ix_seq (pv 0) (pv 1) (fun _ _ => rfl)) pa_nil)) (hjk := by omega))) (pss_one (ps_set (i := 1) sc_topmost.nd rfl (.inl rfl) (pv 2)))
 pss_nil)))
 (pss_one (ps_ret (pv 1))))),
 (sem_seq (sem_asg sem_int (sem_name 1))
 (sem_seq (sem_for (sem_rng2 (sem_cons sem_int (sem_cons (sem_cb s_len (sem_cons (sem_var 0) sem_nil)) sem_nil))) (sem_name 2)
 (sem_if (sem_tB (sem_call (sem_cons (sem_op s_ix (sem_var 0) (sem_var 2)) (sem_cons (sem_op s_ix (sem_var 0) (sem_var 1)) sem_nil)))) (sem_asg (sem_var 2) (sem_name 1))
 sem_next))
 (sem_ret (sem_var 1))))⟩
structure Hs_top_within (P : Program) (w : World) (c : Gx) (base : Heap) : Prop where
  h_cards_within : FnHas P w c base 81 "cards_within" ["tree", "low", "high"] (cards_within_M 80)
  h_topmost : FnHas P w c base 2 "topmost" ["cards"] topmost_M
theorem ok_top_within (T : DefAt c "top_within" s_top_within ["tree", "low", "high"]) (Hs : Hs_top_within P w c base) (Bl : Bl c) : FnHas P w c base 82 "top_within" ["tree", "low", "high"] top_within_M :=
  T.has (k := 81) sc_top_within <| fun f cdv A outer s H E tk po hr =>
  ⟨_, (pss_cons (ps_set (i := 3) sc_top_within.nd rfl (.inl rfl) (pe_callM Hs.h_cards_within hr tk (pa_cons (pv 0) (pa_cons (pv 1) (pa_cons (pv 2) pa_nil))) (hjk := by omega)))
 (pss_cons (ps_if (pt_cmpR (op_eqX hr.r) (pv 3) (pe_lst pa_nil) (nomark _)) (pss_one (ps_ret pe_non))
 pss_nil)
 (pss_one (ps_ret (pe_ix ix_seq (pv 3) (pe_callM Hs.h_topmost hr tk (pa_cons (pv 3) pa_nil) (hjk := by omega)) (fun _ _ => rfl)))))),
 (sem_seq (sem_asg (sem_call (sem_cons (sem_var 0) (sem_cons (sem_var 1) (sem_cons (sem_var 2) sem_nil)))) (sem_name 3))
 (sem_seq (sem_if (sem_tTest (sem_op s_eq (sem_var 3) (sem_lst sem_nil))) (sem_ret sem_non)
 sem_next)
 (sem_ret (sem_op s_ix (sem_var 3) (sem_call (sem_cons (sem_var 3) sem_nil))))))⟩
theorem ok_law_leafed (T : DefAt c "_law_leafed" s_law_leafed ["tree", "card"]) (Bl : Bl c) : ∀ n : Nat, FnHas P w c base (n + 1) "_law_leafed" ["tree", "card"] (law_leafed_M n)
  | 0 => T.bad fun _ _ => rfl
  | n + 1 => by
   have ih := ok_law_leafed T Bl n
   exact T.has (k := n + 1) sc_law_leafed <| fun f cdv A outer s H E tk po hr =>
  ⟨_, (pss_cons (ps_if (pt_cmpR (op_eqX hr.r) (pv 0) (pe_tup pa_nil) (nomark _)) (pss_one (ps_ret (pe_tup (pa_cons (pe_tup pa_nil) (pa_cons (pv 1) (pa_cons (pe_tup pa_nil) pa_nil))))))
 pss_nil)
 (pss_cons (ps_asg (pv 0) (pg_tup rfl (pgs_cons (pg_name (i := 2) sc_law_leafed.nd rfl (.inl rfl)) (pgs_cons (pg_name (i := 3) sc_law_leafed.nd rfl (.inl rfl)) (pgs_cons (pg_name (i := 4) sc_law_leafed.nd rfl (.inl rfl)) pgs_nil)))))
 (pss_cons (ps_if (pt_cmpR op_lt (pe_ix ix_seq (pv 1) pe_int (fun _ _ => rfl)) (pe_ix ix_seq (pv 3) pe_int (fun _ _ => rfl)) (nomark _)) (pss_one (ps_ret (pe_tup (pa_cons (pe_callM ih hr tk (pa_cons (pv 2) (pa_cons (pv 1) pa_nil)) (hjk := by omega)) (pa_cons (pv 3) (pa_cons (pv 4) pa_nil))))))
 pss_nil)
 (pss_one (ps_ret (pe_tup (pa_cons (pv 2) (pa_cons (pv 3) (pa_cons (pe_callM ih hr tk (pa_cons (pv 4) (pa_cons (pv 1) pa_nil)) (hjk := by omega)) pa_nil))))))))),
 (sem_seq (sem_if (sem_tTest (sem_op s_eq (sem_var 0) (sem_tup sem_nil))) (sem_ret (sem_tup (sem_cons (sem_tup sem_nil) (sem_cons (sem_var 1) (sem_cons (sem_tup sem_nil) sem_nil)))))
 sem_next)
 (sem_seq (sem_asg (sem_var 0) (sem_gTup (sem_gsCons (fun _ => (sem_name 2)) (fun _ => (sem_gsCons (fun _ => (sem_name 3)) (fun _ => (sem_gsCons (fun _ => (sem_name 4)) (fun _ => sem_gsNil))))))))
 (sem_seq (sem_if (sem_tTest (sem_op s_lt (sem_op s_ix (sem_var 1) sem_int) (sem_op s_ix (sem_var 3) sem_int))) (sem_ret (sem_tup (sem_cons (sem_call (sem_cons (sem_var 2) (sem_cons (sem_var 1) sem_nil))) (sem_cons (sem_var 3) (sem_cons (sem_var 4) sem_nil)))))
 sem_next)
 (sem_ret (sem_tup (sem_cons (sem_var 2) (sem_cons (sem_var 3) (sem_cons (sem_call (sem_cons (sem_var 4) (sem_cons (sem_var 1) sem_nil))) sem_nil))))))))⟩
theorem ok_law_over (T : DefAt c "_law_over" s_law_over ["one", "other"]) (Bl : Bl c) : FnHas P w c base 1 "_law_over" ["one", "other"] law_over_M :=
  T.has (k := 0) sc_law_over <| fun f cdv A outer s H E tk po hr =>
  ⟨_, (pss_one (ps_ret (pe_or (pe_cmpR op_gt (pe_ix ix_seq (pv 0) pe_int (fun _ _ => rfl)) (pe_ix ix_seq (pv 1) pe_int (fun _ _ => rfl)) (nomark _)) (pe_one (pe_and (pe_cmpR (op_eqX hr.r) (pe_ix ix_seq (pv 0) pe_int (fun _ _ => rfl)) (pe_ix ix_seq (pv 1) pe_int (fun _ _ => rfl)) (nomark _)) (pe_one (pe_cmpR op_lt (pe_ix ix_seq (pv 0) pe_int (fun _ _ => rfl)) (pe_ix ix_seq (pv 1) pe_int (fun _ _ => rfl)) (nomark _)))))))),
 (sem_ret (sem_orV (sem_op s_gt (sem_op s_ix (sem_var 0) sem_int) (sem_op s_ix (sem_var 1) sem_int)) (sem_andV (sem_op s_eq (sem_op s_ix (sem_var 0) sem_int) (sem_op s_ix (sem_var 1) sem_int)) (sem_op s_lt (sem_op s_ix (sem_var 0) sem_int) (sem_op s_ix (sem_var 1) sem_int)))))⟩
structure Hs_law_by_ranks (P : Program) (w : World) (c : Gx) (base : Heap) : Prop where
  h_law_over : FnHas P w c base 1 "_law_over" ["one", "other"] law_over_M
theorem ok_law_by_ranks (T : DefAt c "_law_by_ranks" s_law_by_ranks ["pack"]) (Hs : Hs_law_by_ranks P w c base) (Bl : Bl c) : FnHas P w c base 2 "_law_by_ranks" ["pack"] law_by_ranks_M :=
  T.has (k := 1) sc_law_by_ranks <| fun f cdv A outer s H E tk po hr =>
  ⟨_, (pss_cons (ps_set (i := 1) sc_law_by_ranks.nd rfl (.inl rfl) (pe_lst pa_nil))
 (pss_cons (ps_for po rfl (pi_seq (pv 0)) (pg_name (i := 2) sc_law_by_ranks.nd rfl (.inr rfl))
 (pss_one (ps_expr (pe_bm PySem.F.plainAttrs_list PySem.F.slot_list_insert PySem.F.type_list_insert mt_insert (pv 1) (pa_cons (pe_callB call_lenA (by rfl) Bl.b_len (by decide +kernel) (pa_cons (pe_lc (own := [("one", 3)]) (g := gName 3) rfl sc_law_by_ranks.nd (pi_seq (pv 1)) (blkOk_by (own := [("one", 3)]) (N := ["pack", "row", "card", "one"]) (sc := defScope s_law_by_ranks) (by decide +kernel)) (fun _ _ _ _ _ => (pg_name (i := 3) sc_law_by_ranks.nd rfl (Or.inl rfl))) (fun _ _ _ _ _ => (pts_one (pt_val (pe_callM Hs.h_law_over hr takes0 (pa_cons (pv 3) (pa_cons (pv 2) pa_nil)) (hjk := by omega))))) (fun _ _ _ _ _ => (pv 3))) pa_nil)) (pa_cons (pv 2) pa_nil))))))
 (pss_one (ps_ret (pv 1))))),
 (sem_seq (sem_asg (sem_lst sem_nil) (sem_name 1))
 (sem_seq (sem_for (sem_seqI (sem_var 0)) (sem_name 2)
 (sem_drop (sem_bm s_insert (sem_var 1) (sem_cons (sem_cb s_len (sem_cons (sem_lc (sem_seqI (sem_var 1)) (sem_gvName 3 (by decide)) (sem_tB (sem_call (sem_cons (sem_var 3) (sem_cons (sem_var 2) sem_nil)))) (sem_var 3)) sem_nil)) (sem_cons (sem_var 2) sem_nil)))))
 (sem_ret (sem_var 1))))⟩
structure Hs_law_end (P : Program) (w : World) (c : Gx) (base : Heap) : Prop where
  h_law_take : FnHas P w c base 1 "_law_take" ["pot", "many"] law_take_M
  h_law_great : FnHas P w c base 2 "_law_great" ["pot"] law_great2_M
theorem ok_law_end (T : DefAt c "_law_end" s_law_end ["pot", "cards"]) (Hs : Hs_law_end P w c base) (Bl : Bl c) : FnHas P w c base 3 "_law_end" ["pot", "cards"] law_end_M :=
  T.has (k := 2) sc_law_end <| fun f cdv A outer s H E tk po hr =>
  ⟨_, (pss_cons (ps_set (i := 2) sc_law_end.nd rfl (.inl rfl) (pe_callM Hs.h_law_take hr tk (pa_cons (pv 0) (pa_cons pe_int pa_nil)) (hjk := by omega)))
 (pss_cons (ps_if (PW.pt (pw_or (pt_cmpR (op_eqX hr.r) (pv 1) (pe_lst pa_nil) (nomark _)) (pw_or1 (pt_cmpR (op_eqX hr.r) (pv 2) pe_int (nomark _))))) (pss_one (ps_ret (pe_ix ix_seq (pe_lst (pa_cons (pe_op op_sub pe_int pe_int) (pa_cons (pe_op op_addA (pe_op op_powX pe_int pe_int) pe_int) (pa_cons (pe_op op_sub pe_int (pe_op op_powX pe_int pe_int)) (pa_cons (pe_callM Hs.h_law_great hr tk (pa_cons (pv 0) pa_nil) (hjk := by omega)) pa_nil))))) (pe_callM Hs.h_law_take hr tk (pa_cons (pv 0) (pa_cons pe_int pa_nil)) (hjk := by omega)) (fun _ _ => rfl))))
 pss_nil)
 (pss_one (ps_ret (pe_op op_addA (pe_ix ix_seq (pe_ix ix_seq (pv 1) (pe_callM Hs.h_law_take hr tk (pa_cons (pv 0) (pa_cons (pe_callB call_lenA (by rfl) Bl.b_len (by decide +kernel) (pa_cons (pv 1) pa_nil)) pa_nil)) (hjk := by omega)) (fun _ _ => rfl)) pe_int (fun _ _ => rfl)) (pe_ix ix_seq (pe_lst (pa_cons pe_int (pa_cons pe_int (pa_cons pe_int (pa_cons pe_int (pa_cons (pe_op op_sub pe_int pe_int) pa_nil)))))) (pv 2) (fun _ _ => rfl))))))),
 (sem_seq (sem_asg (sem_call (sem_cons (sem_var 0) (sem_cons sem_int sem_nil))) (sem_name 2))
 (sem_seq (sem_if (sem_or (sem_tTest (sem_op s_eq (sem_var 1) (sem_lst sem_nil))) (sem_tTest (sem_op s_eq (sem_var 2) sem_int))) (sem_ret (sem_op s_ix (sem_lst (sem_cons (sem_op s_sub sem_int sem_int) (sem_cons (sem_op s_add (sem_op s_pow sem_int sem_int) sem_int) (sem_cons (sem_op s_sub sem_int (sem_op s_pow sem_int sem_int)) (sem_cons (sem_call (sem_cons (sem_var 0) sem_nil)) sem_nil))))) (sem_call (sem_cons (sem_var 0) (sem_cons sem_int sem_nil)))))
 sem_next)
 (sem_ret (sem_op s_add (sem_op s_ix (sem_op s_ix (sem_var 1) (sem_call (sem_cons (sem_var 0) (sem_cons (sem_cb s_len (sem_cons (sem_var 1) sem_nil)) sem_nil)))) sem_int) (sem_op s_ix (sem_lst (sem_cons sem_int (sem_cons sem_int (sem_cons sem_int (sem_cons sem_int (sem_cons (sem_op s_sub sem_int sem_int) sem_nil)))))) (sem_var 2))))))⟩
theorem ok_parts_on_road (T : DefAt c "parts_on_road" s_parts_on_road ["tree", "key"]) (Bl : Bl c) : FnHas P w c base 1 "parts_on_road" ["tree", "key"] parts_on_road_M :=
  T.has (k := 0) sc_parts_on_road <| fun f cdv A outer s H E tk po hr =>
  ⟨_, (pss_cons (ps_set (i := 2) sc_parts_on_road.nd rfl (.inl rfl) (pe_lst pa_nil))
 (pss_cons (ps_while po (PW.pt (pw_and (pt_cmpR (op_neX hr.r) (pv 0) (pe_tup pa_nil) (nomark _)) (pw_and1 (PW.pt (pw_or (pt_cmpR (op_eqX hr.r) (pv 2) (pe_lst pa_nil) (nomark _)) (pw_or1 (pt_cmpR (op_neX hr.r) (pe_ix ix_seq (pe_ix ix_seq (pe_ix ix_seq (pv 2) (pe_un un_neg pe_int) (fun _ _ => rfl)) pe_int (fun _ _ => rfl)) pe_int (fun _ _ => rfl)) (pv 1) (nomark _))))))))
 (pss_cons (ps_expr (pe_bm PySem.F.plainAttrs_list PySem.F.slot_list_append PySem.F.type_list_append mt_append (pv 2) (pa_cons (pv 0) pa_nil)))
 (pss_one (ps_if (pt_cmpR op_lt (pv 1) (pe_ix ix_seq (pe_ix ix_seq (pv 0) pe_int (fun _ _ => rfl)) pe_int (fun _ _ => rfl)) (nomark _)) (pss_one (ps_set (i := 0) sc_parts_on_road.nd rfl (.inl rfl) (pe_ix ix_seq (pv 0) pe_int (fun _ _ => rfl))))
 (pss_one (ps_if (pt_cmpR op_gt (pv 1) (pe_ix ix_seq (pe_ix ix_seq (pv 0) pe_int (fun _ _ => rfl)) pe_int (fun _ _ => rfl)) (nomark _)) (pss_one (ps_set (i := 0) sc_parts_on_road.nd rfl (.inl rfl) (pe_ix ix_seq (pv 0) pe_int (fun _ _ => rfl))))
 pss_nil))))))
 (pss_one (ps_ret (pv 2))))),
 (sem_seq (sem_asg (sem_lst sem_nil) (sem_name 2))
 (sem_seq (sem_while (sem_and (sem_tTest (sem_op s_ne (sem_var 0) (sem_tup sem_nil))) (sem_or (sem_tTest (sem_op s_eq (sem_var 2) (sem_lst sem_nil))) (sem_tTest (sem_op s_ne (sem_op s_ix (sem_op s_ix (sem_op s_ix (sem_var 2) (sem_un s_neg sem_int)) sem_int) sem_int) (sem_var 1)))))
 (sem_seq (sem_drop (sem_bm s_append (sem_var 2) (sem_cons (sem_var 0) sem_nil)))
 (sem_if (sem_tTest (sem_op s_lt (sem_var 1) (sem_op s_ix (sem_op s_ix (sem_var 0) sem_int) sem_int))) (sem_asg (sem_op s_ix (sem_var 0) sem_int) (sem_name 0))
 (sem_if (sem_tTest (sem_op s_gt (sem_var 1) (sem_op s_ix (sem_op s_ix (sem_var 0) sem_int) sem_int))) (sem_asg (sem_op s_ix (sem_var 0) sem_int) (sem_name 0))
 sem_next))))
 (sem_ret (sem_var 2))))⟩
structure Hs_road (P : Program) (w : World) (c : Gx) (base : Heap) : Prop where
  h_parts_on_road : FnHas P w c base 1 "parts_on_road" ["tree", "key"] parts_on_road_M
theorem ok_road (T : DefAt c "road" s_road ["tree", "key"]) (Hs : Hs_road P w c base) (Bl : Bl c) : FnHas P w c base 2 "road" ["tree", "key"] road_M :=
  T.has (k := 1) sc_road <| fun f cdv A outer s H E tk po hr =>
  ⟨_, (pss_one (ps_ret (pe_lc (own := [("part", 2)]) (g := gName 2) (tt := tYes) rfl sc_road.nd (pi_seq (pe_callM Hs.h_parts_on_road hr tk (pa_cons (pv 0) (pa_cons (pv 1) pa_nil)) (hjk := by omega))) (blkOk_by (own := [("part", 2)]) (N := ["tree", "key", "part"]) (sc := defScope s_road) (by decide +kernel)) (fun _ _ _ _ _ => (pg_name (i := 2) sc_road.nd rfl (Or.inl rfl))) (fun _ _ _ _ _ => pts_nil) (fun _ _ _ _ _ => (pe_ix ix_seq (pe_ix ix_seq (pv 2) pe_int (fun _ _ => rfl)) pe_int (fun _ _ => rfl)))))),
 (sem_ret (sem_lc (sem_seqI (sem_call (sem_cons (sem_var 0) (sem_cons (sem_var 1) sem_nil)))) (sem_gvName 2 (by decide)) sem_yes (sem_op s_ix (sem_op s_ix (sem_var 2) sem_int) sem_int)))⟩
structure Hs_law (P : Program) (w : World) (c : Gx) (base : Heap) : Prop where
  h_law_pot : FnHas P w c base 1 "_law_pot" ["script", "k"] law_pot_M
  h_law_take : FnHas P w c base 1 "_law_take" ["pot", "many"] law_take_M
  h_law_pack : FnHas P w c base 5 "_law_pack" ["pot", "most"] law_pack_M
  h_top_within : FnHas P w c base 82 "top_within" ["tree", "low", "high"] top_within_M
  h_law_leafed : FnHas P w c base 81 "_law_leafed" ["tree", "card"] (law_leafed_M 80)
  h_law_by_ranks : FnHas P w c base 2 "_law_by_ranks" ["pack"] law_by_ranks_M
  h_law_end : FnHas P w c base 3 "_law_end" ["pot", "cards"] law_end_M
  h_law_over : FnHas P w c base 1 "_law_over" ["one", "other"] law_over_M
  h_road : FnHas P w c base 2 "road" ["tree", "key"] road_M
theorem ok_law {f : Addr} {fd : FuncData} (F : Fun c.K "law" "law" s_law f fd) (Hs : Hs_law P w c base) (Bl : Bl c) : FnG P w c base 83 f fd ["script"] law_M :=
  fn_mk (k := 82) F sc_law <| fun cdv A outer s H E tk po hr =>
  ⟨_, (pss_cons (ps_for po rfl (pi_range1 (by rfl) Bl.b_range (pa_cons (pe_callB (call_maxA hr.r rfl) (by rfl) Bl.b_max (by decide +kernel) (pa_cons pe_int (pa_cons (pe_callB (call_minA hr.r rfl) (by rfl) Bl.b_min (by decide +kernel) (pa_cons (pe_callB call_lenA (by rfl) Bl.b_len (by decide +kernel) (pa_cons (pv 0) pa_nil)) (pa_cons pe_int pa_nil))) pa_nil))) pa_nil)) (pg_name (i := 1) sc_law.nd rfl (.inl rfl))
 (pss_cons (ps_set (i := 2) sc_law.nd rfl (.inl rfl) (pe_callM Hs.h_law_pot hr tk (pa_cons (pv 0) (pa_cons (pv 1) pa_nil)) (hjk := by omega)))
 (pss_cons (ps_set (i := 3) sc_law.nd rfl (.inl rfl) (pe_callM Hs.h_law_take hr tk (pa_cons (pv 2) (pa_cons pe_int pa_nil)) (hjk := by omega)))
 (pss_cons (ps_set (i := 4) sc_law.nd rfl (.inl rfl) (pe_callM Hs.h_law_pack hr tk (pa_cons (pv 2) (pa_cons pe_int pa_nil)) (hjk := by omega)))
 (pss_cons (ps_set (i := 5) sc_law.nd rfl (.inl rfl) (pe_tup pa_nil))
 (pss_cons (ps_for po rfl (pi_seq (pe_ix ix_seq (pe_lst (pa_cons (pv 4) (pa_cons (pe_callM Hs.h_law_by_ranks hr tk (pa_cons (pv 4) pa_nil) (hjk := by omega)) pa_nil))) (pv 3) (fun _ _ => rfl))) (pg_name (i := 6) sc_law.nd rfl (.inl rfl))
 (pss_one (ps_set (i := 5) sc_law.nd rfl (.inl rfl) (pe_callM Hs.h_law_leafed hr tk (pa_cons (pv 5) (pa_cons (pv 6) pa_nil)) (hjk := by omega)))))
 (pss_one (ps_for po rfl (pi_range1 (by rfl) Bl.b_range (pa_cons pe_int pa_nil)) (pg_name (i := 7) sc_law.nd rfl (.inl rfl))
 (pss_cons (ps_set (i := 8) sc_law.nd rfl (.inl rfl) (pe_lst (pa_cons (pe_callM Hs.h_law_end hr tk (pa_cons (pv 2) (pa_cons (pv 4) pa_nil)) (hjk := by omega)) (pa_cons (pe_callM Hs.h_law_end hr tk (pa_cons (pv 2) (pa_cons (pv 4) pa_nil)) (hjk := by omega)) pa_nil))))
 (pss_cons (ps_if (pt_cmpR op_gt (pe_callM Hs.h_law_take hr tk (pa_cons (pv 2) (pa_cons pe_int pa_nil)) (hjk := by omega)) pe_int (nomark _)) (pss_one (ps_set (i := 8) sc_law.nd rfl (.inl rfl) (pe_lst (pa_cons (pe_callB (call_minA hr.r rfl) (by rfl) Bl.b_min (by decide +kernel) (pa_cons (pv 8) pa_nil)) (pa_cons (pe_callB (call_maxA hr.r rfl) (by rfl) Bl.b_max (by decide +kernel) (pa_cons (pv 8) pa_nil)) pa_nil)))))
 pss_nil)
 (pss_cons (ps_asg (pv 8) (pg_or (pg_tup rfl (pgs_cons (pg_name (i := 9) sc_law.nd rfl (.inr rfl)) (pgs_cons (pg_name (i := 10) sc_law.nd rfl (.inr rfl)) pgs_nil))) (pg_lst rfl (pgs_cons (pg_name (i := 9) sc_law.nd rfl (.inr rfl)) (pgs_cons (pg_name (i := 10) sc_law.nd rfl (.inr rfl)) pgs_nil)))))
 (pss_cons (ps_set (i := 11) sc_law.nd rfl (.inl rfl) pe_non)
 (pss_cons (ps_for po rfl (pi_seq (pv 4)) (pg_name (i := 6) sc_law.nd rfl (.inl rfl))
 (pss_one (ps_if (PW.pt (pw_and (pt_chain op_le op_le (pv 9) (pe_ix ix_seq (pv 6) pe_int (fun _ _ => rfl)) (pv 10)) (pw_and1 (PW.pt (pw_or (pt_cmpR op_isA (pv 11) pe_non (nomark _)) (pw_or1 (pt_val (pe_callM Hs.h_law_over hr tk (pa_cons (pv 6) (pa_cons (pv 11) pa_nil)) (hjk := by omega))))))))) (pss_one (ps_set (i := 11) sc_law.nd rfl (.inl rfl) (pv 6)))
 pss_nil)))
 (pss_cons (ps_if (pt_cmpR (op_neX hr.r) (pe_callM Hs.h_top_within hr tk (pa_cons (pv 5) (pa_cons (pv 9) (pa_cons (pv 10) pa_nil))) (hjk := by omega)) (pv 11) (nomark _)) (pss_one (ps_ret pe_bl))
 pss_nil)
 (pss_one (ps_if (PW.pt (pw_and (pt_cmpR op_notA (pv 11) pe_non (nomark _)) (pw_and1 (pt_cmpR (op_eqX hr.r) (pv 3) pe_int (nomark _))))) (pss_one (ps_for po rfl (pi_seq (pe_tup (pa_cons (pv 9) (pa_cons (pv 10) pa_nil)))) (pg_name (i := 12) sc_law.nd rfl (.inl rfl))
 (pss_cons (ps_setLc (i := 13) (own := [("key", 14)]) (g := gName 14) rfl sc_law.nd rfl rfl (sw_true rfl rfl rfl (by decide +kernel)) (pi_seq (pe_callM Hs.h_road hr tk (pa_cons (pv 5) (pa_cons (pv 12) pa_nil)) (hjk := by omega))) (blkOk_by (own := [("key", 14)]) (N := ["script", "k", "pot", "plain", "pack", "tree", "card", "turn", "ends", "low", "high", "due", "end", "met", "key"]) (sc := defScope s_law) (by decide +kernel)) (fun _ _ _ _ _ => (pg_name (i := 14) sc_law.nd rfl (Or.inl rfl))) (fun _ _ _ _ _ => (pts_one (pt_chain op_le op_le (pv 9) (pv 14) (pv 10)))) (fun _ _ _ _ _ => (pv 14)))
 (pss_one (ps_if (PW.pt (pw_and (pt_cmpR (op_neX hr.r) (pv 13) (pe_lst pa_nil) (nomark _)) (pw_and1 (pt_cmpR (op_neX hr.r) (pe_ix ix_seq (pv 13) pe_int (fun _ _ => rfl)) (pe_ix ix_seq (pv 11) pe_int (fun _ _ => rfl)) (nomark _))))) (pss_one (ps_ret pe_bl))
 pss_nil)))))
 pss_nil))))))))))))))))
 (pss_one (ps_ret (pe_cmpR op_isA (pe_callM Hs.h_top_within hr tk (pa_cons (pe_tup pa_nil) (pa_cons pe_int (pa_cons (pe_op op_powX pe_int pe_int) pa_nil))) (hjk := by omega)) pe_non (nomark _))))),
 (sem_seq (sem_for (sem_rng1 (sem_cons (sem_cb s_max (sem_cons sem_int (sem_cons (sem_cb s_min (sem_cons (sem_cb s_len (sem_cons (sem_var 0) sem_nil)) (sem_cons sem_int sem_nil))) sem_nil))) sem_nil)) (sem_name 1)
 (sem_seq (sem_asg (sem_call (sem_cons (sem_var 0) (sem_cons (sem_var 1) sem_nil))) (sem_name 2))
 (sem_seq (sem_asg (sem_call (sem_cons (sem_var 2) (sem_cons sem_int sem_nil))) (sem_name 3))
 (sem_seq (sem_asg (sem_call (sem_cons (sem_var 2) (sem_cons sem_int sem_nil))) (sem_name 4))
 (sem_seq (sem_asg (sem_tup sem_nil) (sem_name 5))
 (sem_seq (sem_for (sem_seqI (sem_op s_ix (sem_lst (sem_cons (sem_var 4) (sem_cons (sem_call (sem_cons (sem_var 4) sem_nil)) sem_nil))) (sem_var 3))) (sem_name 6)
 (sem_asg (sem_call (sem_cons (sem_var 5) (sem_cons (sem_var 6) sem_nil))) (sem_name 5)))
 (sem_for (sem_rng1 (sem_cons sem_int sem_nil)) (sem_name 7)
 (sem_seq (sem_asg (sem_lst (sem_cons (sem_call (sem_cons (sem_var 2) (sem_cons (sem_var 4) sem_nil))) (sem_cons (sem_call (sem_cons (sem_var 2) (sem_cons (sem_var 4) sem_nil))) sem_nil))) (sem_name 8))
 (sem_seq (sem_if (sem_tTest (sem_op s_gt (sem_call (sem_cons (sem_var 2) (sem_cons sem_int sem_nil))) sem_int)) (sem_asg (sem_lst (sem_cons (sem_cb s_min (sem_cons (sem_var 8) sem_nil)) (sem_cons (sem_cb s_max (sem_cons (sem_var 8) sem_nil)) sem_nil))) (sem_name 8))
 sem_next)
 (sem_seq (sem_asg (sem_var 8) (sem_gSq (sem_gsCons (fun _ => (sem_name 9)) (fun _ => (sem_gsCons (fun _ => (sem_name 10)) (fun _ => sem_gsNil))))))
 (sem_seq (sem_asg sem_non (sem_name 11))
 (sem_seq (sem_for (sem_seqI (sem_var 4)) (sem_name 6)
 (sem_if (sem_and (sem_tTest (sem_chain s_le s_le (sem_var 9) (sem_op s_ix (sem_var 6) sem_int) (sem_var 10))) (sem_or (sem_tTest (sem_op s_is (sem_var 11) sem_non)) (sem_tB (sem_call (sem_cons (sem_var 6) (sem_cons (sem_var 11) sem_nil)))))) (sem_asg (sem_var 6) (sem_name 11))
 sem_next))
 (sem_seq (sem_if (sem_tTest (sem_op s_ne (sem_call (sem_cons (sem_var 5) (sem_cons (sem_var 9) (sem_cons (sem_var 10) sem_nil)))) (sem_var 11))) (sem_ret sem_bl)
 sem_next)
 (sem_if (sem_and (sem_tTest (sem_op s_not (sem_var 11) sem_non)) (sem_tTest (sem_op s_eq (sem_var 3) sem_int))) (sem_for (sem_seqI (sem_tup (sem_cons (sem_var 9) (sem_cons (sem_var 10) sem_nil)))) (sem_name 12)
 (sem_seq (sem_asg (sem_lc (sem_seqI (sem_call (sem_cons (sem_var 5) (sem_cons (sem_var 12) sem_nil)))) (sem_gvName 14 (by decide)) (sem_tTest (sem_chain s_le s_le (sem_var 9) (sem_var 14) (sem_var 10))) (sem_var 14)) (sem_name 13))
 (sem_if (sem_and (sem_tTest (sem_op s_ne (sem_var 13) (sem_lst sem_nil))) (sem_tTest (sem_op s_ne (sem_op s_ix (sem_var 13) sem_int) (sem_op s_ix (sem_var 11) sem_int)))) (sem_ret sem_bl)
 sem_next)))
 sem_next))))))))))))))
 (sem_ret (sem_op s_is (sem_call (sem_cons (sem_tup sem_nil) (sem_cons sem_int (sem_cons (sem_op s_pow sem_int sem_int) sem_nil)))) sem_non)))⟩
theorem all_ok {f : Addr} {fd : FuncData} (F : Fun c.K "law" "law" s_law f fd) (T_law_pot : DefAt c "_law_pot" s_law_pot ["script", "k"]) (T_law_take : DefAt c "_law_take" s_law_take ["pot", "many"]) (T_law_great : DefAt c "_law_great" s_law_great ["pot"]) (T_law_number : DefAt c "_law_number" s_law_number ["pot", "base"]) (T_law_card : DefAt c "_law_card" s_law_card ["pot", "base", "ranks"]) (T_law_pack : DefAt c "_law_pack" s_law_pack ["pot", "most"]) (T_cards_within : DefAt c "cards_within" s_cards_within ["tree", "low", "high"]) (T_outranks : DefAt c "outranks" s_outranks ["one", "other"]) (T_topmost : DefAt c "topmost" s_topmost ["cards"]) (T_top_within : DefAt c "top_within" s_top_within ["tree", "low", "high"]) (T_law_leafed : DefAt c "_law_leafed" s_law_leafed ["tree", "card"]) (T_law_over : DefAt c "_law_over" s_law_over ["one", "other"]) (T_law_by_ranks : DefAt c "_law_by_ranks" s_law_by_ranks ["pack"]) (T_law_end : DefAt c "_law_end" s_law_end ["pot", "cards"]) (T_parts_on_road : DefAt c "parts_on_road" s_parts_on_road ["tree", "key"]) (T_road : DefAt c "road" s_road ["tree", "key"]) (Bl : Bl c) : FnG P w c base 83 f fd ["script"] law_M := by
  have H_law_pot := ok_law_pot (P := P) (w := w) (base := base) T_law_pot Bl
  have H_law_take := ok_law_take (P := P) (w := w) (base := base) T_law_take Bl
  have H_law_great := ok_law_great (P := P) (w := w) (base := base) T_law_great ⟨H_law_take⟩ Bl
  have H_law_number := ok_law_number (P := P) (w := w) (base := base) T_law_number ⟨H_law_take, H_law_great⟩ Bl
  have H_law_card := ok_law_card (P := P) (w := w) (base := base) T_law_card ⟨H_law_number, H_law_take, H_law_great⟩ Bl
  have H_law_pack := ok_law_pack (P := P) (w := w) (base := base) T_law_pack ⟨H_law_take, H_law_great, H_law_card⟩ Bl
  have H_cards_within : FnHas P w c base 81 "cards_within" ["tree", "low", "high"] (cards_within_M 80) := (ok_cards_within T_cards_within Bl 80).mono (by decide)
  have H_outranks := ok_outranks (P := P) (w := w) (base := base) T_outranks Bl
  have H_topmost := ok_topmost (P := P) (w := w) (base := base) T_topmost ⟨H_outranks⟩ Bl
  have H_top_within := ok_top_within (P := P) (w := w) (base := base) T_top_within ⟨H_cards_within, H_topmost⟩ Bl
  have H_law_leafed : FnHas P w c base 81 "_law_leafed" ["tree", "card"] (law_leafed_M 80) := (ok_law_leafed T_law_leafed Bl 80).mono (by decide)
  have H_law_over := ok_law_over (P := P) (w := w) (base := base) T_law_over Bl
  have H_law_by_ranks := ok_law_by_ranks (P := P) (w := w) (base := base) T_law_by_ranks ⟨H_law_over⟩ Bl
  have H_law_end := ok_law_end (P := P) (w := w) (base := base) T_law_end ⟨H_law_take, H_law_great⟩ Bl
  have H_parts_on_road := ok_parts_on_road (P := P) (w := w) (base := base) T_parts_on_road Bl
  have H_road := ok_road (P := P) (w := w) (base := base) T_road ⟨H_parts_on_road⟩ Bl
  exact ok_law F ⟨H_law_pot, H_law_take, H_law_pack, H_top_within, H_law_leafed, H_law_by_ranks, H_law_end, H_law_over, H_road⟩ Bl
end
theorem all_mk {P : Program} {w : World} {K : PySem.W.Frag} {h : Heap} {mg : Str → Option Value} {fa : Addr} (X : K.In h) (G : h.Ns mainGlobals mg) (hfa : mg "law" = some (.ref fa))
    {od0 an0 : Option Addr} {sl0 : Array (Option Value)} {oc0 kV0 dc0 pm0 cd0 ct0 : Value} {f0 : Addr} (a0 : PySem.W.nsIn K mainGlobals "_law_pot" = some (some (.ref f0))) (l0 : K.lookup f0 = some ⟨oc0, od0, .func (PySem.W.fnOf "_law_pot" "_law_pot" (defArgs s_law_pot) (defBody s_law_pot) (defScope s_law_pot) .none kV0 dc0 pm0 an0 cd0 ct0), sl0⟩) (c0 : PySem.W.codeIn K cd0 "_law_pot" = true) (k0 : PySem.W.keepIn K (.ref f0) = true)
    {od1 an1 : Option Addr} {sl1 : Array (Option Value)} {oc1 kV1 dc1 pm1 cd1 ct1 : Value} {f1 : Addr} (a1 : PySem.W.nsIn K mainGlobals "_law_take" = some (some (.ref f1))) (l1 : K.lookup f1 = some ⟨oc1, od1, .func (PySem.W.fnOf "_law_take" "_law_take" (defArgs s_law_take) (defBody s_law_take) (defScope s_law_take) .none kV1 dc1 pm1 an1 cd1 ct1), sl1⟩) (c1 : PySem.W.codeIn K cd1 "_law_take" = true) (k1 : PySem.W.keepIn K (.ref f1) = true)
    {od2 an2 : Option Addr} {sl2 : Array (Option Value)} {oc2 kV2 dc2 pm2 cd2 ct2 : Value} {f2 : Addr} (a2 : PySem.W.nsIn K mainGlobals "_law_great" = some (some (.ref f2))) (l2 : K.lookup f2 = some ⟨oc2, od2, .func (PySem.W.fnOf "_law_great" "_law_great" (defArgs s_law_great) (defBody s_law_great) (defScope s_law_great) .none kV2 dc2 pm2 an2 cd2 ct2), sl2⟩) (c2 : PySem.W.codeIn K cd2 "_law_great" = true) (k2 : PySem.W.keepIn K (.ref f2) = true)
    {od3 an3 : Option Addr} {sl3 : Array (Option Value)} {oc3 kV3 dc3 pm3 cd3 ct3 : Value} {f3 : Addr} (a3 : PySem.W.nsIn K mainGlobals "_law_number" = some (some (.ref f3))) (l3 : K.lookup f3 = some ⟨oc3, od3, .func (PySem.W.fnOf "_law_number" "_law_number" (defArgs s_law_number) (defBody s_law_number) (defScope s_law_number) .none kV3 dc3 pm3 an3 cd3 ct3), sl3⟩) (c3 : PySem.W.codeIn K cd3 "_law_number" = true) (k3 : PySem.W.keepIn K (.ref f3) = true)
    {od4 an4 : Option Addr} {sl4 : Array (Option Value)} {oc4 kV4 dc4 pm4 cd4 ct4 : Value} {f4 : Addr} (a4 : PySem.W.nsIn K mainGlobals "_law_card" = some (some (.ref f4))) (l4 : K.lookup f4 = some ⟨oc4, od4, .func (PySem.W.fnOf "_law_card" "_law_card" (defArgs s_law_card) (defBody s_law_card) (defScope s_law_card) .none kV4 dc4 pm4 an4 cd4 ct4), sl4⟩) (c4 : PySem.W.codeIn K cd4 "_law_card" = true) (k4 : PySem.W.keepIn K (.ref f4) = true)
    {od5 an5 : Option Addr} {sl5 : Array (Option Value)} {oc5 kV5 dc5 pm5 cd5 ct5 : Value} {f5 : Addr} (a5 : PySem.W.nsIn K mainGlobals "_law_pack" = some (some (.ref f5))) (l5 : K.lookup f5 = some ⟨oc5, od5, .func (PySem.W.fnOf "_law_pack" "_law_pack" (defArgs s_law_pack) (defBody s_law_pack) (defScope s_law_pack) .none kV5 dc5 pm5 an5 cd5 ct5), sl5⟩) (c5 : PySem.W.codeIn K cd5 "_law_pack" = true) (k5 : PySem.W.keepIn K (.ref f5) = true)
    {od6 an6 : Option Addr} {sl6 : Array (Option Value)} {oc6 kV6 dc6 pm6 cd6 ct6 : Value} {f6 : Addr} (a6 : PySem.W.nsIn K mainGlobals "cards_within" = some (some (.ref f6))) (l6 : K.lookup f6 = some ⟨oc6, od6, .func (PySem.W.fnOf "cards_within" "cards_within" (defArgs s_cards_within) (defBody s_cards_within) (defScope s_cards_within) .none kV6 dc6 pm6 an6 cd6 ct6), sl6⟩) (c6 : PySem.W.codeIn K cd6 "cards_within" = true) (k6 : PySem.W.keepIn K (.ref f6) = true)
    {od7 an7 : Option Addr} {sl7 : Array (Option Value)} {oc7 kV7 dc7 pm7 cd7 ct7 : Value} {f7 : Addr} (a7 : PySem.W.nsIn K mainGlobals "outranks" = some (some (.ref f7))) (l7 : K.lookup f7 = some ⟨oc7, od7, .func (PySem.W.fnOf "outranks" "outranks" (defArgs s_outranks) (defBody s_outranks) (defScope s_outranks) .none kV7 dc7 pm7 an7 cd7 ct7), sl7⟩) (c7 : PySem.W.codeIn K cd7 "outranks" = true) (k7 : PySem.W.keepIn K (.ref f7) = true)
    {od8 an8 : Option Addr} {sl8 : Array (Option Value)} {oc8 kV8 dc8 pm8 cd8 ct8 : Value} {f8 : Addr} (a8 : PySem.W.nsIn K mainGlobals "topmost" = some (some (.ref f8))) (l8 : K.lookup f8 = some ⟨oc8, od8, .func (PySem.W.fnOf "topmost" "topmost" (defArgs s_topmost) (defBody s_topmost) (defScope s_topmost) .none kV8 dc8 pm8 an8 cd8 ct8), sl8⟩) (c8 : PySem.W.codeIn K cd8 "topmost" = true) (k8 : PySem.W.keepIn K (.ref f8) = true)
    {od9 an9 : Option Addr} {sl9 : Array (Option Value)} {oc9 kV9 dc9 pm9 cd9 ct9 : Value} {f9 : Addr} (a9 : PySem.W.nsIn K mainGlobals "top_within" = some (some (.ref f9))) (l9 : K.lookup f9 = some ⟨oc9, od9, .func (PySem.W.fnOf "top_within" "top_within" (defArgs s_top_within) (defBody s_top_within) (defScope s_top_within) .none kV9 dc9 pm9 an9 cd9 ct9), sl9⟩) (c9 : PySem.W.codeIn K cd9 "top_within" = true) (k9 : PySem.W.keepIn K (.ref f9) = true)
    {od10 an10 : Option Addr} {sl10 : Array (Option Value)} {oc10 kV10 dc10 pm10 cd10 ct10 : Value} {f10 : Addr} (a10 : PySem.W.nsIn K mainGlobals "_law_leafed" = some (some (.ref f10))) (l10 : K.lookup f10 = some ⟨oc10, od10, .func (PySem.W.fnOf "_law_leafed" "_law_leafed" (defArgs s_law_leafed) (defBody s_law_leafed) (defScope s_law_leafed) .none kV10 dc10 pm10 an10 cd10 ct10), sl10⟩) (c10 : PySem.W.codeIn K cd10 "_law_leafed" = true) (k10 : PySem.W.keepIn K (.ref f10) = true)
    {od11 an11 : Option Addr} {sl11 : Array (Option Value)} {oc11 kV11 dc11 pm11 cd11 ct11 : Value} {f11 : Addr} (a11 : PySem.W.nsIn K mainGlobals "_law_over" = some (some (.ref f11))) (l11 : K.lookup f11 = some ⟨oc11, od11, .func (PySem.W.fnOf "_law_over" "_law_over" (defArgs s_law_over) (defBody s_law_over) (defScope s_law_over) .none kV11 dc11 pm11 an11 cd11 ct11), sl11⟩) (c11 : PySem.W.codeIn K cd11 "_law_over" = true) (k11 : PySem.W.keepIn K (.ref f11) = true)
    {od12 an12 : Option Addr} {sl12 : Array (Option Value)} {oc12 kV12 dc12 pm12 cd12 ct12 : Value} {f12 : Addr} (a12 : PySem.W.nsIn K mainGlobals "_law_by_ranks" = some (some (.ref f12))) (l12 : K.lookup f12 = some ⟨oc12, od12, .func (PySem.W.fnOf "_law_by_ranks" "_law_by_ranks" (defArgs s_law_by_ranks) (defBody s_law_by_ranks) (defScope s_law_by_ranks) .none kV12 dc12 pm12 an12 cd12 ct12), sl12⟩) (c12 : PySem.W.codeIn K cd12 "_law_by_ranks" = true) (k12 : PySem.W.keepIn K (.ref f12) = true)
    {od13 an13 : Option Addr} {sl13 : Array (Option Value)} {oc13 kV13 dc13 pm13 cd13 ct13 : Value} {f13 : Addr} (a13 : PySem.W.nsIn K mainGlobals "_law_end" = some (some (.ref f13))) (l13 : K.lookup f13 = some ⟨oc13, od13, .func (PySem.W.fnOf "_law_end" "_law_end" (defArgs s_law_end) (defBody s_law_end) (defScope s_law_end) .none kV13 dc13 pm13 an13 cd13 ct13), sl13⟩) (c13 : PySem.W.codeIn K cd13 "_law_end" = true) (k13 : PySem.W.keepIn K (.ref f13) = true)
    {od14 an14 : Option Addr} {sl14 : Array (Option Value)} {oc14 kV14 dc14 pm14 cd14 ct14 : Value} {f14 : Addr} (a14 : PySem.W.nsIn K mainGlobals "parts_on_road" = some (some (.ref f14))) (l14 : K.lookup f14 = some ⟨oc14, od14, .func (PySem.W.fnOf "parts_on_road" "parts_on_road" (defArgs s_parts_on_road) (defBody s_parts_on_road) (defScope s_parts_on_road) .none kV14 dc14 pm14 an14 cd14 ct14), sl14⟩) (c14 : PySem.W.codeIn K cd14 "parts_on_road" = true) (k14 : PySem.W.keepIn K (.ref f14) = true)
    {od15 an15 : Option Addr} {sl15 : Array (Option Value)} {oc15 kV15 dc15 pm15 cd15 ct15 : Value} {f15 : Addr} (a15 : PySem.W.nsIn K mainGlobals "road" = some (some (.ref f15))) (l15 : K.lookup f15 = some ⟨oc15, od15, .func (PySem.W.fnOf "road" "road" (defArgs s_road) (defBody s_road) (defScope s_road) .none kV15 dc15 pm15 an15 cd15 ct15), sl15⟩) (c15 : PySem.W.codeIn K cd15 "road" = true) (k15 : PySem.W.keepIn K (.ref f15) = true)
    {od16 an16 : Option Addr} {sl16 : Array (Option Value)} {oc16 kV16 dc16 pm16 cd16 ct16 : Value} {f16 : Addr} (a16 : PySem.W.nsIn K mainGlobals "law" = some (some (.ref f16))) (l16 : K.lookup f16 = some ⟨oc16, od16, .func (PySem.W.fnOf "law" "law" (defArgs s_law) (defBody s_law) (defScope s_law) .none kV16 dc16 pm16 an16 cd16 ct16), sl16⟩) (c16 : PySem.W.codeIn K cd16 "law" = true) (k16 : PySem.W.keepIn K (.ref f16) = true)
    (z_abs : PySem.W.nsIn K mainGlobals "abs" = some none)
    (z_int : PySem.W.nsIn K mainGlobals "int" = some none)
    (z_len : PySem.W.nsIn K mainGlobals "len" = some none)
    (z_max : PySem.W.nsIn K mainGlobals "max" = some none)
    (z_min : PySem.W.nsIn K mainGlobals "min" = some none)
    (z_range : PySem.W.nsIn K mainGlobals "range" = some none) :
    ∃ fd : FuncData, (∀ (s : Shared) (v : Value), BindsTo s fd ⟨[v], []⟩ [("script", v)]) ∧ ∀ base : Heap, FnG P w (gx K mg) base 83 fa fd ["script"] law_M := by
  have F0 := fun_mk (st := s_law_pot) l0 c0 k0
  have T0 : DefAt (gx K mg) "_law_pot" s_law_pot ["script", "k"] := ⟨f0, _, F0, F0.binds fun _ _ _ _ _ _ us hl => match us, hl with | [_, _], _ => rfl, PySem.W.mg_of X G a0⟩
  have F1 := fun_mk (st := s_law_take) l1 c1 k1
  have T1 : DefAt (gx K mg) "_law_take" s_law_take ["pot", "many"] := ⟨f1, _, F1, F1.binds fun _ _ _ _ _ _ us hl => match us, hl with | [_, _], _ => rfl, PySem.W.mg_of X G a1⟩
  have F2 := fun_mk (st := s_law_great) l2 c2 k2
  have T2 : DefAt (gx K mg) "_law_great" s_law_great ["pot"] := ⟨f2, _, F2, F2.binds fun _ _ _ _ _ _ us hl => match us, hl with | [_], _ => rfl, PySem.W.mg_of X G a2⟩
  have F3 := fun_mk (st := s_law_number) l3 c3 k3
  have T3 : DefAt (gx K mg) "_law_number" s_law_number ["pot", "base"] := ⟨f3, _, F3, F3.binds fun _ _ _ _ _ _ us hl => match us, hl with | [_, _], _ => rfl, PySem.W.mg_of X G a3⟩
  have F4 := fun_mk (st := s_law_card) l4 c4 k4
  have T4 : DefAt (gx K mg) "_law_card" s_law_card ["pot", "base", "ranks"] := ⟨f4, _, F4, F4.binds fun _ _ _ _ _ _ us hl => match us, hl with | [_, _, _], _ => rfl, PySem.W.mg_of X G a4⟩
  have F5 := fun_mk (st := s_law_pack) l5 c5 k5
  have T5 : DefAt (gx K mg) "_law_pack" s_law_pack ["pot", "most"] := ⟨f5, _, F5, F5.binds fun _ _ _ _ _ _ us hl => match us, hl with | [_, _], _ => rfl, PySem.W.mg_of X G a5⟩
  have F6 := fun_mk (st := s_cards_within) l6 c6 k6
  have T6 : DefAt (gx K mg) "cards_within" s_cards_within ["tree", "low", "high"] := ⟨f6, _, F6, F6.binds fun _ _ _ _ _ _ us hl => match us, hl with | [_, _, _], _ => rfl, PySem.W.mg_of X G a6⟩
  have F7 := fun_mk (st := s_outranks) l7 c7 k7
  have T7 : DefAt (gx K mg) "outranks" s_outranks ["one", "other"] := ⟨f7, _, F7, F7.binds fun _ _ _ _ _ _ us hl => match us, hl with | [_, _], _ => rfl, PySem.W.mg_of X G a7⟩
  have F8 := fun_mk (st := s_topmost) l8 c8 k8
  have T8 : DefAt (gx K mg) "topmost" s_topmost ["cards"] := ⟨f8, _, F8, F8.binds fun _ _ _ _ _ _ us hl => match us, hl with | [_], _ => rfl, PySem.W.mg_of X G a8⟩
  have F9 := fun_mk (st := s_top_within) l9 c9 k9
  have T9 : DefAt (gx K mg) "top_within" s_top_within ["tree", "low", "high"] := ⟨f9, _, F9, F9.binds fun _ _ _ _ _ _ us hl => match us, hl with | [_, _, _], _ => rfl, PySem.W.mg_of X G a9⟩
  have F10 := fun_mk (st := s_law_leafed) l10 c10 k10
  have T10 : DefAt (gx K mg) "_law_leafed" s_law_leafed ["tree", "card"] := ⟨f10, _, F10, F10.binds fun _ _ _ _ _ _ us hl => match us, hl with | [_, _], _ => rfl, PySem.W.mg_of X G a10⟩
  have F11 := fun_mk (st := s_law_over) l11 c11 k11
  have T11 : DefAt (gx K mg) "_law_over" s_law_over ["one", "other"] := ⟨f11, _, F11, F11.binds fun _ _ _ _ _ _ us hl => match us, hl with | [_, _], _ => rfl, PySem.W.mg_of X G a11⟩
  have F12 := fun_mk (st := s_law_by_ranks) l12 c12 k12
  have T12 : DefAt (gx K mg) "_law_by_ranks" s_law_by_ranks ["pack"] := ⟨f12, _, F12, F12.binds fun _ _ _ _ _ _ us hl => match us, hl with | [_], _ => rfl, PySem.W.mg_of X G a12⟩
  have F13 := fun_mk (st := s_law_end) l13 c13 k13
  have T13 : DefAt (gx K mg) "_law_end" s_law_end ["pot", "cards"] := ⟨f13, _, F13, F13.binds fun _ _ _ _ _ _ us hl => match us, hl with | [_, _], _ => rfl, PySem.W.mg_of X G a13⟩
  have F14 := fun_mk (st := s_parts_on_road) l14 c14 k14
  have T14 : DefAt (gx K mg) "parts_on_road" s_parts_on_road ["tree", "key"] := ⟨f14, _, F14, F14.binds fun _ _ _ _ _ _ us hl => match us, hl with | [_, _], _ => rfl, PySem.W.mg_of X G a14⟩
  have F15 := fun_mk (st := s_road) l15 c15 k15
  have T15 : DefAt (gx K mg) "road" s_road ["tree", "key"] := ⟨f15, _, F15, F15.binds fun _ _ _ _ _ _ us hl => match us, hl with | [_, _], _ => rfl, PySem.W.mg_of X G a15⟩
  have F16 := fun_mk (st := s_law) l16 c16 k16
  have e := hfa.symm.trans (PySem.W.mg_of X G a16)
  cases e
  refine ⟨PySem.W.fnOf "law" "law" (defArgs s_law) (defBody s_law) (defScope s_law) .none kV16 dc16 pm16 an16 cd16 ct16, fun s v => .of_eq rfl, fun base => ?_⟩
  exact all_ok (P := P) (w := w) (c := (gx K mg)) (base := base) F16 T0 T1 T2 T3 T4 T5 T6 T7 T8 T9 T10 T11 T12 T13 T14 T15 ⟨PySem.W.mg_none_of X G z_abs, PySem.W.mg_none_of X G z_int, PySem.W.mg_none_of X G z_len, PySem.W.mg_none_of X G z_max, PySem.W.mg_none_of X G z_min, PySem.W.mg_none_of X G z_range⟩
end Lk10
end CK
end
open PySem PySem.W PyProof.Rows
set_option maxHeartbeats 0 in
theorem PySem.Challenge.cw_crestkeys_k10_tops_within_holds : PySem.Challenge.rw_crestkeys_k10_tops_within.Holds := by
  w_on; o_law; k_head; (case hw => w_witness2)
  k_fill
  refine CK.law_walk (l := PySem.Challenge.rw_crestkeys_k10_tops_within) (n := 63) (k := 83) (x := "script") (f := CK.Lk10.law_M) rfl (by decide) rfl ⟨⟨rfl, by decide, by decide⟩, rfl⟩ (fun w h Y => PySem.W.kIn_of Y) ?F CK.Lk10.law_true
  case F =>
    intro w mg fa h KX G hmg
    refine' CK.Lk10.all_mk KX G hmg ?a0 ?l0 ?c0 ?k0 ?a1 ?l1 ?c1 ?k1 ?a2 ?l2 ?c2 ?k2 ?a3 ?l3 ?c3 ?k3 ?a4 ?l4 ?c4 ?k4 ?a5 ?l5 ?c5 ?k5 ?a6 ?l6 ?c6 ?k6 ?a7 ?l7 ?c7 ?k7 ?a8 ?l8 ?c8 ?k8 ?a9 ?l9 ?c9 ?k9 ?a10 ?l10 ?c10 ?k10 ?a11 ?l11 ?c11 ?k11 ?a12 ?l12 ?c12 ?k12 ?a13 ?l13 ?c13 ?k13 ?a14 ?l14 ?c14 ?k14 ?a15 ?l15 ?c15 ?k15 ?a16 ?l16 ?c16 ?k16 ?z_abs ?z_int ?z_len ?z_max ?z_min ?z_range
    (case a0 => k_is); (case l0 => k_is); (case c0 => k_is); (case k0 => k_is); (case a1 => k_is); (case l1 => k_is); (case c1 => k_is); (case k1 => k_is); (case a2 => k_is); (case l2 => k_is); (case c2 => k_is); (case k2 => k_is); (case a3 => k_is); (case l3 => k_is); (case c3 => k_is); (case k3 => k_is); (case a4 => k_is); (case l4 => k_is); (case c4 => k_is); (case k4 => k_is); (case a5 => k_is); (case l5 => k_is); (case c5 => k_is); (case k5 => k_is); (case a6 => k_is); (case l6 => k_is); (case c6 => k_is); (case k6 => k_is); (case a7 => k_is); (case l7 => k_is); (case c7 => k_is); (case k7 => k_is); (case a8 => k_is); (case l8 => k_is); (case c8 => k_is); (case k8 => k_is); (case a9 => k_is); (case l9 => k_is); (case c9 => k_is); (case k9 => k_is); (case a10 => k_is); (case l10 => k_is); (case c10 => k_is); (case k10 => k_is); (case a11 => k_is); (case l11 => k_is); (case c11 => k_is); (case k11 => k_is); (case a12 => k_is); (case l12 => k_is); (case c12 => k_is); (case k12 => k_is); (case a13 => k_is); (case l13 => k_is); (case c13 => k_is); (case k13 => k_is); (case a14 => k_is); (case l14 => k_is); (case c14 => k_is); (case k14 => k_is); (case a15 => k_is); (case l15 => k_is); (case c15 => k_is); (case k15 => k_is); (case a16 => k_is); (case l16 => k_is); (case c16 => k_is); (case k16 => k_is); (case z_abs => k_is); (case z_int => k_is); (case z_len => k_is); (case z_max => k_is); (case z_min => k_is); (case z_range => k_is)
