import PyProof.Rows.All
import Wide.All
import OpenK.AllK
import Wide.FinOn
import PyProof.EqAt
import PyProof.EqKinds
import PyProof.TupleCall
import HandS.ForMost
import HandS.ForExc
import HandS.Wide
import HandS.WideBits
import HandS.IsInst
import HandS.Flow
import HandS.ExcInit
import HandS.ExcField
import HandS.TryMany
import KE.KExcIs
import PyProof.Rows.IntBool
import HandS.ExcCtx
import HandS.TupAny
import HandS.Rev
import HandS.More
import HandS.TupMul
import HandS.Zip
import HandS.Conv
import HandS.Style
import HandS.SetFor
import HandS.SortInts
import KE.DataMinMax
import HandS.Deep
import KE.GoesEnum
import HandS.Small
import KE.SortData
import KE.SortKeyHeap
import PyProof.ReprRoads
import PyProof.ReprLen
import HandS.Replace
import HandS.Lambda
import HandS.EndTab
import HandS.SortKw
import KE.KSortKey
import HandS.HotCalls
import HandS.Comp
import KE.KEqDict
import PyProof.MaxThree
import KE.KDictList
import HandS.Strs
import KE.KIndexOf
import KE.DataCmp
import KE.KTupSum
import PySem.Challenge.RW_crestkeys_k02_packs_checked

section
set_option Elab.async false
set_option linter.all false
set_option maxRecDepth 100000
set_option maxHeartbeats 4000000
namespace CK
open PySem PySem.Spec PyProof.Rows L2


inductive D where
  | non | bl (b : Bool) | int (i : Int) | str (x : Str) | tup (xs : List D) | ref (i : Nat)
inductive O where
  | lst (xs : List D) | fro (xs : List D) | dK (kvs : List (Key × D)) | dT (kvs : List (List Key × D)) | xd (fs : List (Str × D)) | ins (C : Str) (fs : List (Str × D)) | hid | opq | exn (cls : Str) (dict : Option Nat)
abbrev Store := List O
abbrev Env' := List (Option D)
structure Exn where
  cls : Str
  dict : Option Nat
inductive R (α : Type) where
  | ok (a : α) (S : Store) | exc (x : Exn) (S : Store) | bad
abbrev M (α : Type) := Store → R α
inductive Fl where
  | nx (r : Env') | rt (d : D) | bk (r : Env') | ct (r : Env') | xc (x : Exn) (r : Env')
def mP {α : Type} (a : α) : M α := fun S => .ok a S
def mBad {α : Type} : M α := fun _ => .bad
def mB {α β : Type} (m : M α) (f : α → M β) : M β := fun S => match m S with
  | .ok a S' => f a S'
  | .exc x S' => .exc x S'
  | .bad => .bad
def O.mut : O → Bool
  | .fro _ => false
  | .opq => false
  | .exn _ _ => false
  | _ => true



def SqS (K : PySem.W.Frag) (H : Hp) (a : Addr) (xs : List V) : Prop := (∃ ob : Obj, ob.dict = none ∧ H a = some (.frz ob (.tup xs))) ∨
    ∃ (o : Obj) (its : Array Value) (n : Nat), K.lookup a = some o ∧ o.cls = .type "tuple" ∧ o.dict = none ∧ o.data = .seq its n ∧ its.size ≤ sizeLine ∧ Vals xs its.toList
theorem SqS.sq {K : PySem.W.Frag} {H : Hp} {a : Addr} {xs : List V} (h : SqS K H a xs) : SqT K H a xs := by
  rcases h with ⟨ob, _, h⟩ | ⟨o, its, n, l, c, _, d⟩
  · exact .inl (.inr ⟨ob, h⟩)
  · exact .inr ⟨o, its, n, l, c, d⟩
instance {K : PySem.W.Frag} {H : Hp} {a : Addr} {xs : List V} : Coe (SqS K H a xs) (SqT K H a xs) := ⟨SqS.sq⟩
mutual
inductive Rp (K : PySem.W.Frag) (μ : List Addr) (H : Hp) : D → V → Prop
  | non : Rp K μ H .non .non
  | bl (b : Bool) : Rp K μ H (.bl b) (.bl b)
  | int (i : Int) : Rp K μ H (.int i) (.int i)
  | str (x : Str) : Rp K μ H (.str x) (.str x)
  | tup {a : Addr} {xs : List V} {ds : List D} : SqS K H a xs → RpL K μ H ds xs → Rp K μ H (.tup ds) (.ref a)
  | ref {i : Nat} {a : Addr} : μ[i]? = some a → Rp K μ H (.ref i) (.ref a)
inductive RpL (K : PySem.W.Frag) (μ : List Addr) (H : Hp) : List D → List V → Prop
  | nil : RpL K μ H [] []
  | cons {d : D} {v : V} {ds : List D} {vs : List V} : Rp K μ H d v → RpL K μ H ds vs → RpL K μ H (d :: ds) (v :: vs)
end
def RpKV {κ : Type} (K : PySem.W.Frag) (μ : List Addr) (H : Hp) (ds : List (κ × D)) (vs : List (κ × V)) : Prop :=
  ds.map (·.1) = vs.map (·.1) ∧ RpL K μ H (ds.map (·.2)) (vs.map (·.2))

def FrL (K : PySem.W.Frag) (H : Hp) (a : Addr) (xs : List V) : Prop := (∃ u, H a = some (.frz u (.lst xs))) ∨
    ∃ (o : Obj) (its : Array Value) (n : Nat), K.lookup a = some o ∧ o.cls = .type "list" ∧ o.dict = none ∧ o.data = .seq its n ∧ its.size ≤ sizeLine ∧ Vals xs its.toList
theorem FrL.sq {K : PySem.W.Frag} {H : Hp} {a : Addr} {xs : List V} (h : FrL K H a xs) : SqL K H a xs := by
  rcases h with ⟨u, h⟩ | h
  · exact .inl (.inr ⟨u, h⟩)
  · exact .inr h
theorem FrL.upd {K : PySem.W.Frag} {H : Hp} {a p : Addr} {xs : List V} {o : HO} (h : FrL K H a xs) (hp : ∀ u v, H p ≠ some (.frz u v)) : FrL K (upd H p o) a xs := by
  rcases h with ⟨u, h⟩ | h
  · refine .inl ⟨u, ?_⟩
    rw [upd_ne (fun e => ?_)]
    · exact h
    · subst e; exact hp _ _ h
  · exact .inr h
structure Ex (K : PySem.W.Frag) (μ : List Addr) (H : Hp) (μ' : List Addr) (H' : Hp) : Prop where
  mu : ∀ (i : Nat) (a : Addr), μ[i]? = some a → μ'[i]? = some a
  tu : ∀ a xs, SqT K H a xs → SqT K H' a xs
  ts : ∀ a xs, SqS K H a xs → SqS K H' a xs

def Stay (o : HO) : Prop := (∃ ps, o = .tbl ps) ∨ ∃ f, o = .ext f
def StayH (H H' : Hp) : Prop := ∀ b o, H b = some o → Stay o → H' b = some o
theorem StayH.refl (H : Hp) : StayH H H := fun _ _ h _ => h
theorem StayH.new {H : Hp} {p : Addr} {ho : HO} (hp : H p = none) : StayH H (upd H p ho) := fun b o h _ => by
  rw [upd_ne (fun z => by rw [z, hp] at h; cases h)]
  exact h
theorem StayH.put {H : Hp} {a : Addr} {ho ho' : HO} (hp : H a = some ho) (hs : ¬ Stay ho) : StayH H (upd H a ho') := fun b o h st => by
  rw [upd_ne (fun z => by rw [z, hp] at h; cases h; exact hs st)]
  exact h

def ExT (cls : Value) (d : Option Addr) (a : Addr) : HO := .ext fun h => ∃ (oe : Obj) (vs : Array Value), h.get? a = some oe ∧ Zc cls d oe ∧ oe.data = .fields vs
theorem exT_ok {P : Program} {w : World} {H : Hp} {h : Heap} {a : Addr} {cls : Value} {d : Option Addr} {oe : Obj} {vs : Array Value} (e : h.get? a = some oe) (z : Zc cls d oe) (hd : oe.data = .fields vs) : ObjOk P w H h a (ExT cls d a) :=
  ⟨⟨oe, vs, e, z, hd⟩, ⟨oe, e⟩, fun _ _ ⟨o, v, q, r⟩ k => ⟨o, v, k o q, r⟩⟩

def DiAt (μ : List Addr) (x : Option Nat) (d : Option Addr) : Prop := match x, d with
  | none, none => True
  | some i, some a => μ[i]? = some a
  | _, _ => False
theorem DiAt.mono {μ μ' : List Addr} {x : Option Nat} {d : Option Addr} (h : DiAt μ x d) (e : ∀ (i : Nat) (a : Addr), μ[i]? = some a → μ'[i]? = some a) : DiAt μ' x d := by
  unfold DiAt at h ⊢
  cases x <;> cases d <;> first | exact h | exact e _ _ h

structure XLook (K : PySem.W.Frag) (C : Addr) : Prop where
  xf : XfC K C
  ha : PySem.W.findIn K (.ref C) "__class__" = some (some (.builtin "object.__class__"))
  hn : PySem.W.specialIn K (.builtin "object.__class__") "__get__" = some (some (.builtin "getset_descriptor.__get__"))
  ht : PySem.W.takesIn K (.builtin "object.__class__") = some true
  hm : PySem.W.mroIn K C (.type "object") = some true
  kb : ∀ T, T ∈ (["int", "bool", "str", "tuple", "list", "dict"] : List String) → PySem.W.kitOne K (.ref C) (.type T) = some false
def dictAt (d : Option Addr) (H : Hp) : Prop := d = none ∨ ∃ dd fs, d = some dd ∧ H dd = some (.xd fs)

structure Gx where
  K : PySem.W.Frag
  mg : Str → Option Value
  J : List Addr → Hp → Prop
  jm : ∀ {μ : List Addr} {H : Hp} {μ' : List Addr} {H' : Hp}, Ex K μ H μ' H' → StayH H H' → J μ H → J μ' H'
  
  lk : List (Addr × Obj × HO) := []
  
  lq : Option (Addr × Obj × HO) := none

class Nlk (c : Gx) : Prop where
  h : c.lq = none
abbrev gx (K : PySem.W.Frag) (mg : Str → Option Value) : Gx := { K := K, mg := mg, J := fun _ _ => True, jm := fun _ _ _ => trivial }
instance {K : PySem.W.Frag} {mg : Str → Option Value} : Nlk (gx K mg) := ⟨rfl⟩
def RpO (c : Gx) (μ : List Addr) (H : Hp) : O → Addr → Prop
  | .lst ds, a => ∃ xs, H a = some (.lst xs) ∧ RpL c.K μ H ds xs
  | .fro ds, a => ∃ xs, FrL c.K H a xs ∧ RpL c.K μ H ds xs
  | .dK ds, a => ∃ xs, (H a = some (.dK xs) ∨ ∃ od, c.lq = some (a, od, .dK xs) ∧ H a = some (.frz od (.dK xs))) ∧ RpKV c.K μ H ds xs
  | .dT ds, a => ∃ xs, H a = some (.dT xs) ∧ RpKV c.K μ H ds xs
  | .xd ds, a => ∃ xs, H a = some (.xd xs) ∧ RpKV c.K μ H ds xs
  | .ins C ds, a => ∃ A dx xs, c.mg C = some (.ref A) ∧ H a = some (.ins A dx xs) ∧ RpKV c.K μ H ds xs
  | .hid, a => ∃ o, H a = some o ∧ (∀ xs, o ≠ .tup xs) ∧ ¬ Stay o
  | .opq, _ => True
  | .exn x i, a => ∃ cls d, (c.mg x = some cls ∧ ∃ C, cls = .ref C ∧ XLook c.K C) ∧ H a = some (ExT cls d a) ∧ DiAt μ i d
structure SOk (c : Gx) (μ : List Addr) (H : Hp) (S : Store) : Prop where
  len : μ.length = S.length
  obj : ∀ (i : Nat) (o : O) (a : Addr), S[i]? = some o → μ[i]? = some a → RpO c μ H o a
  inj : ∀ (i j : Nat) (o u : O) (a : Addr), S[i]? = some o → S[j]? = some u → μ[i]? = some a → μ[j]? = some a → o.mut = true → u.mut = true → i = j
  j : c.J μ H
  lkd : ∀ q, q ∈ c.lk → H q.1 = some (.frz q.2.1 q.2.2)
structure EnvR (K : PySem.W.Frag) (μ : List Addr) (H : Hp) (r : Env') (σ : L2.St) : Prop where
  len : r.length = σ.length
  at_ : ∀ (i : Nat) (d : D), r[i]? = some (some d) → ∃ v, σ[i]? = some (some v) ∧ Rp K μ H d v
structure RpX (c : Gx) (μ : List Addr) (H : Hp) (x : Exn) (cls : Value) (d : Option Addr) : Prop where
  cl : c.mg x.cls = some cls
  di : match x.dict, d with
    | none, none => True
    | some i, some a => μ[i]? = some a
    | _, _ => False

theorem Ex.refl {K : PySem.W.Frag} {μ : List Addr} {H : Hp} : Ex K μ H μ H := ⟨fun _ _ h => h, fun _ _ h => h, fun _ _ h => h⟩
theorem Ex.trans {K : PySem.W.Frag} {μ μ1 μ2 : List Addr} {H H1 H2 : Hp} (a : Ex K μ H μ1 H1) (b : Ex K μ1 H1 μ2 H2) : Ex K μ H μ2 H2 :=
  ⟨fun i x h => b.mu i x (a.mu i x h), fun i x h => b.tu i x (a.tu i x h), fun i x h => b.ts i x (a.ts i x h)⟩
mutual
theorem Rp.mono {K : PySem.W.Frag} {μ μ' : List Addr} {H H' : Hp} (e : Ex K μ H μ' H') : ∀ {d : D} {v : V}, Rp K μ H d v → Rp K μ' H' d v
  | _, _, .non => .non
  | _, _, .bl b => .bl b
  | _, _, .int i => .int i
  | _, _, .str x => .str x
  | _, _, .tup s r => .tup (e.ts _ _ s) (RpL.mono e r)
  | _, _, .ref h => .ref (e.mu _ _ h)
theorem RpL.mono {K : PySem.W.Frag} {μ μ' : List Addr} {H H' : Hp} (e : Ex K μ H μ' H') : ∀ {ds : List D} {vs : List V}, RpL K μ H ds vs → RpL K μ' H' ds vs
  | _, _, .nil => .nil
  | _, _, .cons r t => .cons (Rp.mono e r) (RpL.mono e t)
end
theorem EnvR.mono {K : PySem.W.Frag} {μ μ' : List Addr} {H H' : Hp} {r : Env'} {σ : L2.St} (e : Ex K μ H μ' H') (h : EnvR K μ H r σ) : EnvR K μ' H' r σ :=
  ⟨h.len, fun i d q => let ⟨v, a, b⟩ := h.at_ i d q; ⟨v, a, b.mono e⟩⟩
theorem EnvR.set {K : PySem.W.Frag} {μ : List Addr} {H : Hp} {r : Env'} {σ : L2.St} {d : D} {v : V} (h : EnvR K μ H r σ) (i : Nat) (q : Rp K μ H d v) : EnvR K μ H (r.set i (some d)) (σ.set i (some v)) := by
  refine ⟨by simp [h.len], fun j e he => ?_⟩
  by_cases hj : i = j
  · subst hj
    have hl : i < r.length := by
      have := (List.getElem?_eq_some_iff.mp he).1
      simpa using this
    rw [List.getElem?_set_self hl] at he
    cases he
    exact ⟨v, by rw [List.getElem?_set_self (by rw [← h.len]; exact hl)], q⟩
  · rw [List.getElem?_set_ne hj] at he
    rw [List.getElem?_set_ne hj]
    exact h.at_ j e he
theorem RpL.length {K : PySem.W.Frag} {μ : List Addr} {H : Hp} : ∀ {ds : List D} {vs : List V}, RpL K μ H ds vs → ds.length = vs.length
  | _, _, .nil => rfl
  | _, _, .cons _ t => by simp [RpL.length t]
theorem RpL.get {K : PySem.W.Frag} {μ : List Addr} {H : Hp} : ∀ {ds : List D} {vs : List V} {i : Nat} {d : D}, RpL K μ H ds vs → ds[i]? = some d → ∃ v, vs[i]? = some v ∧ Rp K μ H d v
  | _, _, _, _, .nil, e => by simp at e
  | _, _, 0, _, .cons r _, e => by simp at e; subst e; exact ⟨_, rfl, r⟩
  | _, _, i + 1, d, .cons _ t, e => by
    obtain ⟨u, h1, h2⟩ := RpL.get (i := i) (d := d) t (by simpa using e)
    exact ⟨u, by simpa using h1, h2⟩
theorem RpL.append {K : PySem.W.Frag} {μ : List Addr} {H : Hp} : ∀ {ds es : List D} {vs us : List V}, RpL K μ H ds vs → RpL K μ H es us → RpL K μ H (ds ++ es) (vs ++ us)
  | _, _, _, _, .nil, s => s
  | _, _, _, _, .cons r t, s => .cons r (RpL.append t s)
theorem RpL.take {K : PySem.W.Frag} {μ : List Addr} {H : Hp} : ∀ {ds : List D} {vs : List V} (n : Nat), RpL K μ H ds vs → RpL K μ H (ds.take n) (vs.take n)
  | _, _, 0, _ => .nil
  | _, _, _ + 1, .nil => .nil
  | _, _, n + 1, .cons r t => .cons r (RpL.take n t)
theorem RpL.drop {K : PySem.W.Frag} {μ : List Addr} {H : Hp} : ∀ {ds : List D} {vs : List V} (n : Nat), RpL K μ H ds vs → RpL K μ H (ds.drop n) (vs.drop n)
  | _, _, 0, r => r
  | _, _, _ + 1, .nil => .nil
  | _, _, n + 1, .cons _ t => RpL.drop n t
theorem RpL.reverse {K : PySem.W.Frag} {μ : List Addr} {H : Hp} : ∀ {ds : List D} {vs : List V}, RpL K μ H ds vs → RpL K μ H ds.reverse vs.reverse
  | _, _, .nil => .nil
  | _, _, .cons r t => by
    rw [List.reverse_cons, List.reverse_cons]
    exact (RpL.reverse t).append (.cons r .nil)
theorem RpL.set {K : PySem.W.Frag} {μ : List Addr} {H : Hp} {d : D} {v : V} (r : Rp K μ H d v) : ∀ {ds : List D} {vs : List V} (i : Nat), RpL K μ H ds vs → RpL K μ H (ds.set i d) (vs.set i v)
  | _, _, _, .nil => .nil
  | _, _, 0, .cons _ t => .cons r t
  | _, _, i + 1, .cons q t => .cons q (RpL.set r i t)
theorem RpL.eraseIdx {K : PySem.W.Frag} {μ : List Addr} {H : Hp} : ∀ {ds : List D} {vs : List V} (i : Nat), RpL K μ H ds vs → RpL K μ H (ds.eraseIdx i) (vs.eraseIdx i)
  | _, _, _, .nil => .nil
  | _, _, 0, .cons _ t => t
  | _, _, i + 1, .cons q t => .cons q (RpL.eraseIdx i t)
theorem RpL.dropLast {K : PySem.W.Frag} {μ : List Addr} {H : Hp} {ds : List D} {vs : List V} (h : RpL K μ H ds vs) : RpL K μ H ds.dropLast vs.dropLast := by
  rw [List.dropLast_eq_take, List.dropLast_eq_take, h.length]
  exact h.take _
theorem RpL.ints {K : PySem.W.Frag} {μ : List Addr} {H : Hp} : ∀ (ns : List Int), RpL K μ H (ns.map D.int) (ns.map V.int)
  | [] => .nil
  | n :: r => .cons (.int n) (RpL.ints r)

theorem sqT_upd {K : PySem.W.Frag} {H : Hp} {p : Addr} {o : HO} (h : ∀ xs, H p ≠ some (.tup xs)) (h2 : ∀ u xs, H p ≠ some (.frz u (.tup xs))) {a : Addr} {xs : List V} (q : SqT K H a xs) : SqT K (upd H p o) a xs := by
  rcases q with (q | ⟨u, q⟩) | q
  · refine .inl (.inl ?_)
    rw [upd_ne (fun e => ?_)]
    · exact q
    · subst e; exact h _ q
  · refine .inl (.inr ⟨u, ?_⟩)
    rw [upd_ne (fun e => ?_)]
    · exact q
    · subst e; exact h2 _ _ q
  · exact .inr q
theorem sqS_upd {K : PySem.W.Frag} {H : Hp} {p : Addr} {o : HO} (h : ∀ u xs, H p ≠ some (.frz u (.tup xs))) {a : Addr} {xs : List V} (q : SqS K H a xs) : SqS K (upd H p o) a xs := by
  rcases q with ⟨ob, d, q⟩ | q
  · exact .inl ⟨ob, d, by rw [upd_ne (fun e => by subst e; exact h _ _ q)]; exact q⟩
  · exact .inr q
theorem RpO.new {c : Gx} {μ μ' : List Addr} {H : Hp} {p : Addr} {ho : HO} (hp : H p = none) (e : Ex c.K μ H μ' (upd H p ho)) {o : O} {a : Addr} (r : RpO c μ H o a) : RpO c μ' (upd H p ho) o a := by
  cases o with
  | lst ds => obtain ⟨xs, h, q⟩ := r; exact ⟨xs, by rw [upd_ne (ne_of_none h hp)]; exact h, q.mono e⟩
  | fro ds => obtain ⟨xs, h, q⟩ := r; exact ⟨xs, h.upd (fun _ _ z => by rw [hp] at z; cases z), q.mono e⟩
  | dK ds =>
    obtain ⟨xs, h, q⟩ := r
    refine ⟨xs, ?_, q.1, q.2.mono e⟩
    rcases h with h | ⟨od, h, h2⟩
    · exact .inl (by rw [upd_ne (ne_of_none h hp)]; exact h)
    · exact .inr ⟨od, h, by rw [upd_ne (ne_of_none h2 hp)]; exact h2⟩
  | dT ds => obtain ⟨xs, h, q⟩ := r; exact ⟨xs, by rw [upd_ne (ne_of_none h hp)]; exact h, q.1, q.2.mono e⟩
  | xd ds => obtain ⟨xs, h, q⟩ := r; exact ⟨xs, by rw [upd_ne (ne_of_none h hp)]; exact h, q.1, q.2.mono e⟩
  | ins C ds => obtain ⟨A, dx, xs, g, h, q⟩ := r; exact ⟨A, dx, xs, g, by rw [upd_ne (ne_of_none h hp)]; exact h, q.1, q.2.mono e⟩
  | hid => obtain ⟨o, h, q⟩ := r; exact ⟨o, by rw [upd_ne (ne_of_none h hp)]; exact h, q⟩
  | opq => trivial
  | exn x i => obtain ⟨cls, d, g, h, q⟩ := r; exact ⟨cls, d, g, by rw [upd_ne (ne_of_none h hp)]; exact h, q.mono e.mu⟩
end CK
end

section
set_option Elab.async false
set_option linter.all false
set_option maxRecDepth 100000
set_option maxHeartbeats 4000000
namespace CK
open PySem PySem.Spec PyProof.Rows L2


def Post {α : Type} (c : Gx) (W : WX) (σ : L2.St) (μ : List Addr) (H : Hp) (Z : α → List Addr → Hp → Prop) : R α → Prop
  | .ok a S' => ∀ μ' H', Ex c.K μ H μ' H' → SOk c μ' H' S' → Z a μ' H'
  | .exc x S' => ∀ μ' H' cls dd, Ex c.K μ H μ' H' → SOk c μ' H' S' → RpX c μ' H' x cls dd → W cls dd σ H'
  | .bad => False
def ZE (c : Gx) (Q : VK) : D → List Addr → Hp → Prop := fun d μ' H' => ∀ v, Rp c.K μ' H' d v → Q v H'
def ZT (Q : Bool → Hp → Prop) : Bool → List Addr → Hp → Prop := fun b _ H' => Q b H'
def ZA (c : Gx) (Q : List V → Hp → Prop) : List D → List Addr → Hp → Prop := fun ds μ' H' => ∀ vs, RpL c.K μ' H' ds vs → Q vs H'
def FlP (c : Gx) (W : WX) (Dn : Ends) (μ' : List Addr) (H' : Hp) : Fl → Prop
  | .nx r => ∀ σ', EnvR c.K μ' H' r σ' → Dn.nx σ' H'
  | .rt d => ∀ v, Rp c.K μ' H' d v → Dn.rt v H'
  | .bk r => ∀ σ', EnvR c.K μ' H' r σ' → Dn.bk σ' H'
  | .ct r => ∀ σ', EnvR c.K μ' H' r σ' → Dn.ct σ' H'
  | .xc x r => ∀ σ' cls dd, EnvR c.K μ' H' r σ' → RpX c μ' H' x cls dd → W cls dd σ' H'
def PostS (c : Gx) (W : WX) (μ : List Addr) (H : Hp) (Dn : Ends) : R Fl → Prop
  | .ok f S' => ∀ μ' H', Ex c.K μ H μ' H' → SOk c μ' H' S' → FlP c W Dn μ' H' f
  | .exc _ _ => False
  | .bad => False
def SemE (c : Gx) (W : WX) (t : TE) (m : Env' → M D) : Prop := ∀ σ H μ r S Q, SOk c μ H S → EnvR c.K μ H r σ → Post c W σ μ H (ZE c Q) (m r S) → t σ H Q
def SemT (c : Gx) (W : WX) (t : TT) (m : Env' → M Bool) : Prop := ∀ σ H μ r S Q, SOk c μ H S → EnvR c.K μ H r σ → Post c W σ μ H (ZT Q) (m r S) → t σ H Q
def SemA (c : Gx) (W : WX) (t : TA) (m : Env' → M (List D)) : Prop := ∀ σ H μ r S Q, SOk c μ H S → EnvR c.K μ H r σ → Post c W σ μ H (ZA c Q) (m r S) → t σ H Q
def SemS (c : Gx) (W : WX) (t : TS) (m : Env' → M Fl) : Prop := ∀ σ H μ r S Dn, SOk c μ H S → EnvR c.K μ H r σ → PostS c W μ H Dn (m r S) → t Dn σ H

def Sem2 (c : Gx) (W : WX) (t : R2) (f : D → D → M D) : Prop := ∀ σ H μ S x y d e Q, SOk c μ H S → Rp c.K μ H d x → Rp c.K μ H e y → Post c W σ μ H (ZE c Q) (f d e S) → t x y H Q
def SemC (c : Gx) (W : WX) (t : List V → Hp → VK → Prop) (f : List D → M D) : Prop := ∀ σ H μ S xs ds Q, SOk c μ H S → RpL c.K μ H ds xs → Post c W σ μ H (ZE c Q) (f ds S) → t xs H Q
def SemM (c : Gx) (W : WX) (t : V → List V → Hp → VK → Prop) (f : D → List D → M D) : Prop := ∀ σ H μ S x d xs ds Q, SOk c μ H S → Rp c.K μ H d x → RpL c.K μ H ds xs → Post c W σ μ H (ZE c Q) (f d ds S) → t x xs H Q

section
variable {c : Gx} {W : WX} {σ : L2.St} {μ μ' : List Addr} {H H' : Hp} {α β : Type}
theorem Post.mono {Z : α → List Addr → Hp → Prop} (e : Ex c.K μ H μ' H') : ∀ {x : R α}, Post c W σ μ H Z x → Post c W σ μ' H' Z x
  | .ok _ _, h => fun _ _ e' s => h _ _ (e.trans e') s
  | .exc _ _, h => fun _ _ _ _ e' s x => h _ _ _ _ (e.trans e') s x
  | .bad, h => h
theorem PostS.mono {Dn : Ends} (e : Ex c.K μ H μ' H') : ∀ {x : R Fl}, PostS c W μ H Dn x → PostS c W μ' H' Dn x
  | .ok _ _, h => fun _ _ e' s => h _ _ (e.trans e') s
  | .exc _ _, h => h
  | .bad, h => h
theorem Post.bind {m : M α} {k : α → M β} {S : Store} {Z : β → List Addr → Hp → Prop} (h : Post c W σ μ H Z (mB m k S)) :
    Post c W σ μ H (fun a μ1 H1 => ∃ S1, SOk c μ1 H1 S1 ∧ Ex c.K μ H μ1 H1 ∧ Post c W σ μ1 H1 Z (k a S1)) (m S) := by
  unfold mB at h
  cases e : m S with
  | ok a S1 =>
    rw [e] at h
    exact fun μ1 H1 ex ok => ⟨S1, ok, ex, Post.mono ex h⟩
  | exc x S1 => rw [e] at h; exact h
  | bad => rw [e] at h; exact h
theorem Post.imp {Z Z' : α → List Addr → Hp → Prop} : ∀ {x : R α}, Post c W σ μ H Z x → (∀ a μ' H', Z a μ' H' → Z' a μ' H') → Post c W σ μ H Z' x
  | .ok _ _, h, f => fun _ _ e' s => f _ _ _ (h _ _ e' s)
  | .exc _ _, h, _ => h
  | .bad, h, _ => h
end
section
variable {c : Gx} {W : WX} {σ : L2.St} {μ : List Addr} {H : Hp} {r : Env'} {S : Store} {β : Type} {Z : β → List Addr → Hp → Prop}
theorem SemE.go {t : TE} {m : Env' → M D} {k : D → M β} {Q : VK} (h : SemE c W t m) (s : SOk c μ H S) (e : EnvR c.K μ H r σ) (p : Post c W σ μ H Z (mB (m r) k S))
    (q : ∀ d S1 μ1 H1 v, Ex c.K μ H μ1 H1 → SOk c μ1 H1 S1 → EnvR c.K μ1 H1 r σ → Rp c.K μ1 H1 d v → Post c W σ μ1 H1 Z (k d S1) → Q v H1) : t σ H Q :=
  h σ H μ r S Q s e ((Post.bind p).imp fun d _ _ ⟨S1, ok, ex, p1⟩ v rv => q d S1 _ _ v ex ok (e.mono ex) rv p1)
theorem SemT.go {t : TT} {m : Env' → M Bool} {k : Bool → M β} {Q : Bool → Hp → Prop} (h : SemT c W t m) (s : SOk c μ H S) (e : EnvR c.K μ H r σ) (p : Post c W σ μ H Z (mB (m r) k S))
    (q : ∀ d S1 μ1 H1, Ex c.K μ H μ1 H1 → SOk c μ1 H1 S1 → EnvR c.K μ1 H1 r σ → Post c W σ μ1 H1 Z (k d S1) → Q d H1) : t σ H Q :=
  h σ H μ r S Q s e ((Post.bind p).imp fun d _ _ ⟨S1, ok, ex, p1⟩ => q d S1 _ _ ex ok (e.mono ex) p1)
theorem SemA.go {t : TA} {m : Env' → M (List D)} {k : List D → M β} {Q : List V → Hp → Prop} (h : SemA c W t m) (s : SOk c μ H S) (e : EnvR c.K μ H r σ) (p : Post c W σ μ H Z (mB (m r) k S))
    (q : ∀ d S1 μ1 H1 v, Ex c.K μ H μ1 H1 → SOk c μ1 H1 S1 → EnvR c.K μ1 H1 r σ → RpL c.K μ1 H1 d v → Post c W σ μ1 H1 Z (k d S1) → Q v H1) : t σ H Q :=
  h σ H μ r S Q s e ((Post.bind p).imp fun d _ _ ⟨S1, ok, ex, p1⟩ v rv => q d S1 _ _ v ex ok (e.mono ex) rv p1)

theorem Post.fin {d : D} {v : V} {Q : VK} (s : SOk c μ H S) (p : Post c W σ μ H (ZE c Q) (.ok d S)) (r : Rp c.K μ H d v) : Q v H := p μ H .refl s v r
theorem Post.finT {b : Bool} {Q : Bool → Hp → Prop} (s : SOk c μ H S) (p : Post c W σ μ H (ZT Q) (.ok b S)) : Q b H := p μ H .refl s
theorem Post.finA {d : List D} {v : List V} {Q : List V → Hp → Prop} (s : SOk c μ H S) (p : Post c W σ μ H (ZA c Q) (.ok d S)) (r : RpL c.K μ H d v) : Q v H := p μ H .refl s v r
end


def mVar (i : Nat) : Env' → M D := fun r S => match r[i]? with
  | some (some d) => .ok d S
  | _ => .bad
def mC (d : D) : Env' → M D := fun _ S => .ok d S
def m2 (f : D → D → M D) (a b : Env' → M D) : Env' → M D := fun r => mB (a r) fun x => mB (b r) fun y => f x y
def m1 (f : D → M D) (a : Env' → M D) : Env' → M D := fun r => mB (a r) f
def mNil : Env' → M (List D) := fun _ S => .ok [] S
def mCons (a : Env' → M D) (b : Env' → M (List D)) : Env' → M (List D) := fun r => mB (a r) fun x => mB (b r) fun xs => mP (x :: xs)
def mArgs (f : List D → M D) (a : Env' → M (List D)) : Env' → M D := fun r => mB (a r) f
section
variable {c : Gx} {W : WX}
theorem sem_var (i : Nat) : SemE c W (tVar i) (mVar i) := by
  intro σ H μ r S Q s e p
  unfold mVar at p
  split at p
  · rename_i d hd
    obtain ⟨v, h1, h2⟩ := e.at_ i d hd
    exact ⟨v, h1, p.fin s h2⟩
  · exact p.elim
theorem sem_c {d : D} {v : V} (h : ∀ μ H, Rp c.K μ H d v) : SemE c W (tC v) (mC d) := fun _ _ _ _ _ _ s _ p => p.fin s (h _ _)
theorem sem_int {i : Int} : SemE c W (tC (.int i)) (mC (.int i)) := sem_c fun _ _ => .int i
theorem sem_bl {b : Bool} : SemE c W (tC (.bl b)) (mC (.bl b)) := sem_c fun _ _ => .bl b
theorem sem_non : SemE c W (tC .non) (mC .non) := sem_c fun _ _ => .non
theorem sem_op {t : R2} {f : D → D → M D} {ta tb : TE} {ma mb : Env' → M D} (h : Sem2 c W t f) (ha : SemE c W ta ma) (hb : SemE c W tb mb) : SemE c W (tOp t ta tb) (m2 f ma mb) :=
  fun σ H μ r S Q s e p => ha.go s e p fun d S1 μ1 H1 v ex s1 e1 rv p1 => hb.go s1 e1 p1 fun d2 S2 μ2 H2 v2 ex2 s2 e2 rv2 p2 => h σ H2 μ2 S2 v v2 d d2 Q s2 (rv.mono ex2) rv2 p2
theorem sem_nil : SemA c W tNil mNil := fun _ _ _ _ _ _ s _ p => p.finA s .nil
theorem sem_cons {ta : TE} {tb : TA} {ma : Env' → M D} {mb : Env' → M (List D)} (ha : SemE c W ta ma) (hb : SemA c W tb mb) : SemA c W (tCons ta tb) (mCons ma mb) :=
  fun σ H μ r S Q s e p => ha.go s e p fun d S1 μ1 H1 v ex s1 e1 rv p1 => hb.go s1 e1 p1 fun d2 S2 μ2 H2 v2 ex2 s2 e2 rv2 p2 => p2.finA s2 (.cons (rv.mono ex2) rv2)
theorem sem_cb {t : List V → Hp → VK → Prop} {f : List D → M D} {ta : TA} {ma : Env' → M (List D)} (h : SemC c W t f) (ha : SemA c W ta ma) : SemE c W (tCB t ta) (mArgs f ma) :=
  fun σ H μ r S Q s e p => ha.go s e p fun d S1 μ1 H1 v ex s1 e1 rv p1 => h σ H1 μ1 S1 v d Q s1 rv p1
end


def D.asInt (d : D) : Option Int := match d with | .int i => some i | _ => none
def D.asBl (d : D) : Option Bool := match d with | .bl i => some i | _ => none
def D.asTup (d : D) : Option (List D) := match d with | .tup i => some i | _ => none
def D.asRef (d : D) : Option Nat := match d with | .ref i => some i | _ => none
def D.asStr (d : D) : Option Str := match d with | .str i => some i | _ => none
section
variable {K : PySem.W.Frag} {μ : List Addr} {H : Hp} {d : D} {v : V}
theorem Rp.asInt {i : Int} (r : Rp K μ H d v) (h : d.asInt = some i) : d = .int i ∧ v = .int i := by
  cases r <;> simp only [D.asInt, reduceCtorEq, Option.some.injEq] at h <;> subst h <;> exact ⟨rfl, rfl⟩
theorem Rp.asBl {i : Bool} (r : Rp K μ H d v) (h : d.asBl = some i) : d = .bl i ∧ v = .bl i := by
  cases r <;> simp only [D.asBl, reduceCtorEq, Option.some.injEq] at h <;> subst h <;> exact ⟨rfl, rfl⟩
theorem Rp.asStr {i : Str} (r : Rp K μ H d v) (h : d.asStr = some i) : d = .str i ∧ v = .str i := by
  cases r <;> simp only [D.asStr, reduceCtorEq, Option.some.injEq] at h <;> subst h <;> exact ⟨rfl, rfl⟩
theorem Rp.asTup {ds : List D} (r : Rp K μ H d v) (h : d.asTup = some ds) : d = .tup ds ∧ ∃ a xs, v = .ref a ∧ SqT K H a xs ∧ RpL K μ H ds xs := by
  cases r <;> simp only [D.asTup, reduceCtorEq, Option.some.injEq] at h
  rename_i s q
  subst h
  exact ⟨rfl, _, _, rfl, s, q⟩
theorem Rp.asRef {i : Nat} (r : Rp K μ H d v) (h : d.asRef = some i) : d = .ref i ∧ ∃ a, v = .ref a ∧ μ[i]? = some a := by
  cases r <;> simp only [D.asRef, reduceCtorEq, Option.some.injEq] at h
  subst h
  exact ⟨rfl, _, rfl, by assumption⟩
end


def iOp (C : Int → Int → Prop) [∀ i j, Decidable (C i j)] (g : Int → Int → D) (d e : D) : M D := fun S => match d.asInt, e.asInt with
  | some i, some j => if C i j then .ok (g i j) S else .bad
  | _, _ => .bad
def iOp0 (g : Int → Int → D) (d e : D) : M D := fun S => match d.asInt, e.asInt with
  | some i, some j => .ok (g i j) S
  | _, _ => .bad
section
variable {c : Gx} {W : WX}
theorem sem_rI {C : Int → Int → Prop} [∀ i j, Decidable (C i j)] {g : Int → Int → V} {g' : Int → Int → D} (h : ∀ i j μ H, Rp c.K μ H (g' i j) (g i j)) : Sem2 c W (rI C g) (iOp C g') := by
  intro σ H μ S x y d e Q s rx ry p
  simp only [iOp] at p
  split at p
  · rename_i i j hi hj
    obtain ⟨rfl, rfl⟩ := rx.asInt hi
    obtain ⟨rfl, rfl⟩ := ry.asInt hj
    split at p
    · rename_i hc; exact ⟨i, j, rfl, rfl, hc, p.fin s (h i j _ _)⟩
    · exact p.elim
  · exact p.elim
theorem sem_rI0 {g : Int → Int → V} {g' : Int → Int → D} (h : ∀ i j μ H, Rp c.K μ H (g' i j) (g i j)) : Sem2 c W (rI0 g) (iOp0 g') := by
  intro σ H μ S x y d e Q s rx ry p
  simp only [iOp0] at p
  split at p
  · rename_i i j hi hj
    obtain ⟨rfl, rfl⟩ := rx.asInt hi
    obtain ⟨rfl, rfl⟩ := ry.asInt hj
    exact ⟨i, j, rfl, rfl, p.fin s (h i j _ _)⟩
  · exact p.elim
end


section
variable {c : Gx} {W : WX} {σ : L2.St} {μ : List Addr} {H : Hp} {S : Store}
theorem get_snoc {α : Type} {l : List α} {x y : α} {i : Nat} (h : (l ++ [x])[i]? = some y) : l[i]? = some y ∨ (i = l.length ∧ y = x) := by
  by_cases hi : i < l.length
  · rw [List.getElem?_append_left hi] at h; exact .inl h
  · have h2 := (List.getElem?_eq_some_iff.mp h).1
    simp at h2
    have : i = l.length := by omega
    subst this
    simp at h
    exact .inr ⟨rfl, h.symm⟩
theorem Ex.new {p : Addr} {ho : HO} (hp : H p = none) : Ex c.K μ H (μ ++ [p]) (upd H p ho) :=
  ⟨fun i a h => by rw [List.getElem?_append_left (List.getElem?_eq_some_iff.mp h).1]; exact h,
   fun a xs q => sqT_upd (fun _ z => by rw [hp] at z; cases z) (fun _ _ z => by rw [hp] at z; cases z) q, fun a xs q => sqS_upd (fun _ _ z => by rw [hp] at z; cases z) q⟩
theorem Ex.tup {p : Addr} {ho : HO} (hp : H p = none) : Ex c.K μ H μ (upd H p ho) :=
  ⟨fun i a h => h, fun a xs q => sqT_upd (fun _ z => by rw [hp] at z; cases z) (fun _ _ z => by rw [hp] at z; cases z) q, fun a xs q => sqS_upd (fun _ _ z => by rw [hp] at z; cases z) q⟩

theorem SOk.tup {p : Addr} {ho : HO} (s : SOk c μ H S) (hp : H p = none) : SOk c μ (upd H p ho) S :=
  ⟨s.len, fun i o a h1 h2 => (s.obj i o a h1 h2).new hp (Ex.tup hp), s.inj, c.jm (Ex.tup hp) (StayH.new hp) s.j, fun q hq => by rw [upd_ne (ne_of_none (s.lkd q hq) hp)]; exact s.lkd q hq⟩
theorem RpO.there {o : O} {a : Addr} (r : RpO c μ H o a) (m : o.mut = true) : ∃ ho, H a = some ho ∧ (∀ xs, ho ≠ .tup xs) := by
  cases o with
  | lst ds => obtain ⟨xs, h, _⟩ := r; exact ⟨_, h, fun _ z => by cases z⟩
  | fro ds => cases m
  | dK ds =>
    obtain ⟨xs, h, _⟩ := r
    rcases h with h | ⟨od, _, h⟩
    · exact ⟨_, h, fun _ z => by cases z⟩
    · exact ⟨_, h, fun _ z => by cases z⟩
  | dT ds => obtain ⟨xs, h, _⟩ := r; exact ⟨_, h, fun _ z => by cases z⟩
  | xd ds => obtain ⟨xs, h, _⟩ := r; exact ⟨_, h, fun _ z => by cases z⟩
  | ins C ds => obtain ⟨A, dx, xs, _, h, _⟩ := r; exact ⟨_, h, fun _ z => by cases z⟩
  | hid => obtain ⟨o, h, q, _⟩ := r; exact ⟨o, h, q⟩
  | opq => cases m
  | exn x i => cases m
theorem RpO.rest {o : O} {a : Addr} (r : RpO c μ H o a) (m : o.mut = true) : ∃ ho, H a = some ho ∧ ¬ Stay ho := by
  cases o with
  | lst ds => obtain ⟨xs, h, _⟩ := r; exact ⟨_, h, fun z => by rcases z with ⟨_, z⟩ | ⟨_, z⟩ <;> cases z⟩
  | fro ds => cases m
  | dK ds =>
    obtain ⟨xs, h, _⟩ := r
    rcases h with h | ⟨od, _, h⟩
    · exact ⟨_, h, fun z => by rcases z with ⟨_, z⟩ | ⟨_, z⟩ <;> cases z⟩
    · exact ⟨_, h, fun z => by rcases z with ⟨_, z⟩ | ⟨_, z⟩ <;> cases z⟩
  | dT ds => obtain ⟨xs, h, _⟩ := r; exact ⟨_, h, fun z => by rcases z with ⟨_, z⟩ | ⟨_, z⟩ <;> cases z⟩
  | xd ds => obtain ⟨xs, h, _⟩ := r; exact ⟨_, h, fun z => by rcases z with ⟨_, z⟩ | ⟨_, z⟩ <;> cases z⟩
  | ins C ds => obtain ⟨A, dx, xs, _, h, _⟩ := r; exact ⟨_, h, fun z => by rcases z with ⟨_, z⟩ | ⟨_, z⟩ <;> cases z⟩
  | hid => obtain ⟨o, h, _, q⟩ := r; exact ⟨o, h, q⟩
  | opq => cases m
  | exn x i => cases m
theorem SOk.new {p : Addr} {ho : HO} {o : O} (s : SOk c μ H S) (hp : H p = none) (r : RpO c (μ ++ [p]) (upd H p ho) o p) : SOk c (μ ++ [p]) (upd H p ho) (S ++ [o]) := by
  have key : ∀ (i : Nat) (u : O) (a : Addr), (S ++ [o])[i]? = some u → (μ ++ [p])[i]? = some a → (S[i]? = some u ∧ μ[i]? = some a) ∨ (i = S.length ∧ u = o ∧ a = p) := fun i u a h1 h2 => by
    rcases get_snoc h1 with h1 | ⟨e1, e1'⟩
    · rcases get_snoc h2 with h2 | ⟨e2, _⟩
      · exact .inl ⟨h1, h2⟩
      · exact absurd (List.getElem?_eq_some_iff.mp h1).1 (by rw [e2, s.len]; exact Nat.lt_irrefl _)
    · rcases get_snoc h2 with h2 | ⟨e2, e2'⟩
      · exact absurd (List.getElem?_eq_some_iff.mp h2).1 (by rw [e1, s.len]; exact Nat.lt_irrefl _)
      · exact .inr ⟨e1, e1', e2'⟩
  refine ⟨by simp [s.len], fun i u a h1 h2 => ?_, fun i j u w a h1 h2 h3 h4 m1 m2 => ?_, c.jm (Ex.new hp) (StayH.new hp) s.j, fun q hq => by rw [upd_ne (ne_of_none (s.lkd q hq) hp)]; exact s.lkd q hq⟩
  · rcases key i u a h1 h2 with ⟨h1, h2⟩ | ⟨_, e1, e2⟩
    · exact (s.obj i u a h1 h2).new hp (Ex.new hp)
    · rw [e1, e2]; exact r
  · rcases key i u a h1 h3 with ⟨h1, h3⟩ | ⟨e0, e1, e2⟩
    · rcases key j w a h2 h4 with ⟨h2, h4⟩ | ⟨f0, f1, f2⟩
      · exact s.inj i j u w a h1 h2 h3 h4 m1 m2
      · obtain ⟨_, h, _⟩ := (s.obj i u a h1 h3).there m1
        rw [f2, hp] at h; cases h
    · rcases key j w a h2 h4 with ⟨h2, h4⟩ | ⟨f0, f1, f2⟩
      · obtain ⟨_, h, _⟩ := (s.obj j w a h2 h4).there m2
        rw [e2, hp] at h; cases h
      · rw [e0, f0]
theorem Ex.put {a : Addr} {ho ho' : HO} (hp : H a = some ho) (h1 : ∀ xs, ho ≠ .tup xs) (h2 : ∀ u v, ho ≠ .frz u v) : Ex c.K μ H μ (upd H a ho') :=
  ⟨fun _ _ h => h, fun b xs q => sqT_upd (fun _ z => by rw [hp] at z; cases z; exact h1 _ rfl) (fun _ _ z => by rw [hp] at z; cases z; exact h2 _ _ rfl) q, fun b xs q => sqS_upd (fun _ _ z => by rw [hp] at z; cases z; exact h2 _ _ rfl) q⟩
theorem RpO.put {a b : Addr} {ho ho' : HO} (hp : H a = some ho) (h1 : ∀ xs, ho ≠ .tup xs) (h2 : ∀ u v, ho ≠ .frz u v) {o : O} (r : RpO c μ H o b) (ne : o.mut = true → b ≠ a) (hns : ¬ Stay ho) : RpO c μ (upd H a ho') o b := by
  have e : Ex c.K μ H μ (upd H a ho') := Ex.put hp h1 h2
  cases o with
  | lst ds => obtain ⟨xs, h, q⟩ := r; exact ⟨xs, by rw [upd_ne (ne rfl)]; exact h, q.mono e⟩
  | fro ds => obtain ⟨xs, h, q⟩ := r; exact ⟨xs, h.upd (fun _ _ z => by rw [hp] at z; cases z; exact h2 _ _ rfl), q.mono e⟩
  | dK ds =>
    obtain ⟨xs, h, q⟩ := r
    refine ⟨xs, ?_, q.1, q.2.mono e⟩
    rcases h with h | ⟨od, h, h3⟩
    · exact .inl (by rw [upd_ne (ne rfl)]; exact h)
    · exact .inr ⟨od, h, by rw [upd_ne (ne rfl)]; exact h3⟩
  | dT ds => obtain ⟨xs, h, q⟩ := r; exact ⟨xs, by rw [upd_ne (ne rfl)]; exact h, q.1, q.2.mono e⟩
  | xd ds => obtain ⟨xs, h, q⟩ := r; exact ⟨xs, by rw [upd_ne (ne rfl)]; exact h, q.1, q.2.mono e⟩
  | ins C ds => obtain ⟨A, dx, xs, g, h, q⟩ := r; exact ⟨A, dx, xs, g, by rw [upd_ne (ne rfl)]; exact h, q.1, q.2.mono e⟩
  | hid => obtain ⟨o, h, q⟩ := r; exact ⟨o, by rw [upd_ne (ne rfl)]; exact h, q⟩
  | opq => trivial
  | exn x i => obtain ⟨cls, d, g, h, q⟩ := r; exact ⟨cls, d, g, by rw [upd_ne (fun z => by rw [z, hp] at h; cases h; exact hns (.inr ⟨_, rfl⟩))]; exact h, q.mono e.mu⟩
theorem SOk.put {i : Nat} {o o' : O} {a : Addr} {ho ho' : HO} (s : SOk c μ H S) (hi : S[i]? = some o) (ha : μ[i]? = some a) (hm : o.mut = true) (hp : H a = some ho) (h1 : ∀ xs, ho ≠ .tup xs) (h2 : ∀ u v, ho ≠ .frz u v)
    (r : RpO c μ (upd H a ho') o' a) : SOk c μ (upd H a ho') (S.set i o') := by
  have hl : i < S.length := (List.getElem?_eq_some_iff.mp hi).1
  have hns : ¬ Stay ho := by
    obtain ⟨o2, e2, n2⟩ := (s.obj i o a hi ha).rest hm
    rw [hp] at e2
    cases e2
    exact n2
  have old : ∀ (j : Nat) (u : O), (S.set i o')[j]? = some u → (j = i ∧ u = o') ∨ (j ≠ i ∧ S[j]? = some u) := fun j u h => by
    by_cases hj : i = j
    · subst hj; rw [List.getElem?_set_self hl] at h; cases h; exact .inl ⟨rfl, rfl⟩
    · rw [List.getElem?_set_ne hj] at h; exact .inr ⟨fun e => hj e.symm, h⟩
  have far : ∀ (j : Nat) (u : O) (b : Addr), j ≠ i → S[j]? = some u → μ[j]? = some b → u.mut = true → b ≠ a := fun j u b hj h3 h4 m e => by
    subst e; exact hj (s.inj j i u o _ h3 hi h4 ha m hm)
  refine ⟨by simp [s.len], fun j u b h3 h4 => ?_, fun j k u w b h3 h4 h5 h6 m1 m2 => ?_, c.jm (Ex.put hp h1 h2) (StayH.put hp hns) s.j, fun q hq => by
    rw [upd_ne (fun z => by have := s.lkd q hq; rw [z, hp] at this; cases this; exact h2 _ _ rfl)]; exact s.lkd q hq⟩
  · rcases old j u h3 with ⟨e1, e2⟩ | ⟨hj, h3⟩
    · rw [e1, ha] at h4; cases h4; rw [e2]; exact r
    · exact (s.obj j u b h3 h4).put hp h1 h2 (far j u b hj h3 h4) hns
  · rcases old j u h3 with ⟨e1, e2⟩ | ⟨hj, h3⟩
    · rcases old k w h4 with ⟨f1, f2⟩ | ⟨hk, h4⟩
      · rw [e1, f1]
      · rw [e1, ha] at h5; cases h5; exact absurd rfl (far k w _ hk h4 h6 m2)
    · rcases old k w h4 with ⟨f1, f2⟩ | ⟨hk, h4⟩
      · rw [f1, ha] at h6; cases h6; exact absurd rfl (far j u _ hj h3 h5 m1)
      · exact s.inj j k u w b h3 h4 h5 h6 m1 m2

theorem Post.finNew {p : Addr} {ho : HO} {o : O} {Q : VK} (s : SOk c μ H S) (q : Post c W σ μ H (ZE c Q) (.ok (.ref S.length) (S ++ [o]))) (hp : H p = none) (r : RpO c (μ ++ [p]) (upd H p ho) o p) : Q (.ref p) (upd H p ho) :=
  q _ _ (Ex.new hp) (s.new hp r) _ (.ref (by rw [← s.len]; simp))
theorem Post.finTup {p : Addr} {ds : List D} {xs : List V} {Q : VK} (s : SOk c μ H S) (q : Post c W σ μ H (ZE c Q) (.ok (.tup ds) S)) (hp : H p = none) (r : RpL c.K μ H ds xs) (ob : Obj) (hd : ob.dict = none) : Q (.ref p) (upd H p (.frz ob (.tup xs))) :=
  q _ _ (Ex.tup hp) (s.tup hp) _ (.tup (.inl ⟨_, hd, upd_same⟩) (r.mono (Ex.tup hp)))
theorem Post.finPut {i : Nat} {o o' : O} {a : Addr} {ho ho' : HO} {d : D} {v : V} {Q : VK} (s : SOk c μ H S) (q : Post c W σ μ H (ZE c Q) (.ok d (S.set i o'))) (hi : S[i]? = some o) (ha : μ[i]? = some a) (hm : o.mut = true) (hp : H a = some ho)
    (h1 : ∀ xs, ho ≠ .tup xs) (h2 : ∀ u v, ho ≠ .frz u v) (r : RpO c μ (upd H a ho') o' a) (rd : Rp c.K μ H d v) : Q v (upd H a ho') :=
  q _ _ (Ex.put hp h1 h2) (s.put hi ha hm hp h1 h2 r) _ (rd.mono (Ex.put hp h1 h2))
theorem SOk.at {i : Nat} {o : O} (s : SOk c μ H S) (h : S[i]? = some o) : ∃ a, μ[i]? = some a ∧ RpO c μ H o a := by
  have hl : i < μ.length := by rw [s.len]; exact (List.getElem?_eq_some_iff.mp h).1
  exact ⟨μ[i], List.getElem?_eq_getElem hl, s.obj i o _ h (List.getElem?_eq_getElem hl)⟩

def lsO : Option O → Option (List D)
  | some (.lst xs) => some xs
  | some (.fro xs) => some xs
  | _ => none
def lsAt (S : Store) (i : Nat) : Option (List D) := lsO S[i]?
theorem SOk.ls {i : Nat} {a : Addr} {ds : List D} (s : SOk c μ H S) (h : lsAt S i = some ds) (ha : μ[i]? = some a) : ∃ xs, SqL c.K H a xs ∧ RpL c.K μ H ds xs := by
  unfold lsAt at h
  cases e : S[i]? with
  | none => rw [e] at h; cases h
  | some o =>
    rw [e] at h
    cases o with
    | lst zs => cases h; obtain ⟨xs, h1, h2⟩ := s.obj _ _ _ e ha; exact ⟨xs, .inl (.inl h1), h2⟩
    | fro zs => cases h; obtain ⟨xs, h1, h2⟩ := s.obj _ _ _ e ha; exact ⟨xs, h1.sq, h2⟩
    | _ => cases h
end
end CK
end

section
set_option Elab.async false
set_option linter.all false
set_option maxRecDepth 100000
set_option maxHeartbeats 4000000
namespace CK
open PySem PySem.Spec PyProof.Rows L2


def mTst (m : Env' → M D) : Env' → M Bool := fun r => mB (m r) fun d => match d.asBl with
  | some b => mP b
  | none => mBad
def mAnd (a b : Env' → M Bool) : Env' → M Bool := fun r => mB (a r) fun x => if x = true then b r else mP false
def mOr (a b : Env' → M Bool) : Env' → M Bool := fun r => mB (a r) fun x => if x = true then mP true else b r
def mNot (a : Env' → M Bool) : Env' → M Bool := fun r => mB (a r) fun x => mP (!x)
def mAndV (a b : Env' → M D) : Env' → M D := fun r => mB (mTst a r) fun x => if x = true then b r else mP (.bl false)
def mOrV (a b : Env' → M D) : Env' → M D := fun r => mB (mTst a r) fun x => if x = true then mP (.bl true) else b r
def mNotV (a : Env' → M D) : Env' → M D := fun r => mB (mTst a r) fun x => mP (.bl (!x))
def mIfE (t : Env' → M Bool) (a b : Env' → M D) : Env' → M D := fun r => mB (t r) fun x => if x = true then a r else b r
section
variable {c : Gx} {W : WX}
theorem SemE.tst {β : Type} {Z : β → List Addr → Hp → Prop} {σ : L2.St} {μ : List Addr} {H : Hp} {r : Env'} {S : Store} {t : TE} {m : Env' → M D} {k : Bool → M β} {Q : VK} (h : SemE c W t m) (s : SOk c μ H S) (e : EnvR c.K μ H r σ) (p : Post c W σ μ H Z (mB (mTst m r) k S))
    (q : ∀ b S1 μ1 H1, Ex c.K μ H μ1 H1 → SOk c μ1 H1 S1 → EnvR c.K μ1 H1 r σ → Post c W σ μ1 H1 Z (k b S1) → Q (.bl b) H1) : t σ H Q := by
  refine h.go (Z := Z) (k := fun d => mB (match d.asBl with | some b => mP b | none => mBad) k) s e ?_ fun d S1 μ1 H1 v ex s1 e1 rv p1 => ?_
  · have : mB (mTst m r) k S = mB (m r) (fun d => mB (match d.asBl with | some b => mP b | none => mBad) k) S := by
      unfold mTst mB
      cases m r S <;> rfl
    rw [← this]; exact p
  · cases hd : d.asBl with
    | none => rw [hd] at p1; exact p1.elim
    | some b =>
      rw [hd] at p1
      obtain ⟨rfl, rfl⟩ := rv.asBl hd
      exact q b S1 μ1 H1 ex s1 e1 p1
theorem sem_tst {t : TE} {m : Env' → M D} (h : SemE c W t m) : SemT c W (fun σ H Q => t σ H fun x H1 => ∃ k, x = .bl k ∧ Q k H1) (mTst m) := by
  intro σ H μ r S Q s e p
  refine h.tst (k := mP) s e ?_ fun b S1 μ1 H1 ex s1 e1 p1 => ⟨b, rfl, p1.finT s1⟩
  have : mB (mTst m r) mP S = mTst m r S := by
    unfold mB
    cases mTst m r S <;> rfl
  rw [this]; exact p
theorem sem_tB {t : TE} {m : Env' → M D} (h : SemE c W t m) : SemT c W (tB t) (mTst m) := sem_tst h
theorem sem_tTest {t : TE} {m : Env' → M D} (h : SemE c W t m) : SemT c W (tTest t) (mTst m) := sem_tst h
theorem sem_or {t u : TT} {a b : Env' → M Bool} (ha : SemT c W t a) (hb : SemT c W u b) : SemT c W (tOr t u) (mOr a b) :=
  fun σ H μ r S Q s e p => ha.go s e p fun d S1 μ1 H1 ex s1 e1 p1 => by
    cases d with
    | true => exact p1.finT s1
    | false => exact hb σ H1 μ1 r S1 Q s1 e1 p1
theorem sem_not {t : TT} {a : Env' → M Bool} (ha : SemT c W t a) : SemT c W (tNot t) (mNot a) :=
  fun σ H μ r S Q s e p => ha.go s e p fun d S1 μ1 H1 ex s1 e1 p1 => p1.finT s1
theorem sem_andV {t u : TE} {a b : Env' → M D} (ha : SemE c W t a) (hb : SemE c W u b) : SemE c W (tAndV t u) (mAndV a b) :=
  fun σ H μ r S Q s e p => ha.tst s e p fun d S1 μ1 H1 ex s1 e1 p1 => ⟨d, rfl, by
    cases d with
    | true => exact hb σ H1 μ1 r S1 Q s1 e1 p1
    | false => exact p1.fin s1 (.bl false)⟩
end


def stE {α : Type} (m : Env' → M α) (k : α → Env' → M Fl) : Env' → M Fl := fun r S => match m r S with
  | .ok a S' => k a r S'
  | .exc x S' => .ok (.xc x r) S'
  | .bad => .bad
def mNx : Env' → M Fl := fun r S => .ok (.nx r) S
def mSeq (a b : Env' → M Fl) : Env' → M Fl := fun r S => match a r S with
  | .ok f S' => (match f with | .nx r' => b r' S' | .rt d => .ok (.rt d) S' | .bk r' => .ok (.bk r') S' | .ct r' => .ok (.ct r') S' | .xc x r' => .ok (.xc x r') S')
  | .exc _ _ => .bad
  | .bad => .bad
def mBrk : Env' → M Fl := fun r S => .ok (.bk r) S
def mCnt : Env' → M Fl := fun r S => .ok (.ct r) S
def mDrop (m : Env' → M D) : Env' → M Fl := stE m fun _ r S => .ok (.nx r) S
def mRet (m : Env' → M D) : Env' → M Fl := stE m fun d _ S => .ok (.rt d) S
def mRetN : Env' → M Fl := fun _ S => .ok (.rt .non) S
def mIf (t : Env' → M Bool) (a b : Env' → M Fl) : Env' → M Fl := stE t fun x => if x = true then a else b
abbrev TgM := D → Env' → M Env'
def mAsg (m : Env' → M D) (g : TgM) : Env' → M Fl := stE m fun d => stE (g d) fun r' _ S => .ok (.nx r') S
def gNm (i : Nat) : TgM := fun d r S => .ok (r.set i (some d)) S
section
variable {c : Gx} {W : WX} {σ : L2.St} {μ : List Addr} {H : Hp} {r : Env'} {S : Store} {Dn : Ends}
theorem PostS.bind {α : Type} {m : Env' → M α} {k : α → Env' → M Fl} (e : EnvR c.K μ H r σ) (h : PostS c W μ H Dn (stE m k r S)) :
    Post c W σ μ H (fun a μ1 H1 => ∃ S1, SOk c μ1 H1 S1 ∧ Ex c.K μ H μ1 H1 ∧ PostS c W μ1 H1 Dn (k a r S1)) (m r S) := by
  unfold stE at h
  cases q : m r S with
  | ok a S1 =>
    rw [q] at h
    exact fun μ1 H1 ex ok => ⟨S1, ok, ex, PostS.mono ex h⟩
  | exc x S1 =>
    rw [q] at h
    exact fun μ1 H1 cls dd ex ok rx => h μ1 H1 ex ok σ cls dd (e.mono ex) rx
  | bad => rw [q] at h; exact h
theorem SemE.goS {t : TE} {m : Env' → M D} {k : D → Env' → M Fl} {Q : VK} (h : SemE c W t m) (s : SOk c μ H S) (e : EnvR c.K μ H r σ) (p : PostS c W μ H Dn (stE m k r S))
    (q : ∀ d S1 μ1 H1 v, Ex c.K μ H μ1 H1 → SOk c μ1 H1 S1 → EnvR c.K μ1 H1 r σ → Rp c.K μ1 H1 d v → PostS c W μ1 H1 Dn (k d r S1) → Q v H1) : t σ H Q :=
  h σ H μ r S Q s e ((PostS.bind e p).imp fun d _ _ ⟨S1, ok, ex, p1⟩ v rv => q d S1 _ _ v ex ok (e.mono ex) rv p1)
theorem SemT.goS {t : TT} {m : Env' → M Bool} {k : Bool → Env' → M Fl} {Q : Bool → Hp → Prop} (h : SemT c W t m) (s : SOk c μ H S) (e : EnvR c.K μ H r σ) (p : PostS c W μ H Dn (stE m k r S))
    (q : ∀ d S1 μ1 H1, Ex c.K μ H μ1 H1 → SOk c μ1 H1 S1 → EnvR c.K μ1 H1 r σ → PostS c W μ1 H1 Dn (k d r S1) → Q d H1) : t σ H Q :=
  h σ H μ r S Q s e ((PostS.bind e p).imp fun d _ _ ⟨S1, ok, ex, p1⟩ => q d S1 _ _ ex ok (e.mono ex) p1)
def SemG (c : Gx) (W : WX) (g : TG) (f : TgM) : Prop := ∀ σ H μ r S d v Q, SOk c μ H S → EnvR c.K μ H r σ → Rp c.K μ H d v → Post c W σ μ H (fun r' μ' H' => ∀ σ', EnvR c.K μ' H' r' σ' → Q σ' H') (f d r S) → g v σ H Q
theorem PostS.nx (s : SOk c μ H S) (e : EnvR c.K μ H r σ) (p : PostS c W μ H Dn (.ok (.nx r) S)) : Dn.nx σ H := p μ H .refl s σ e
theorem PostS.rt {d : D} {v : V} (s : SOk c μ H S) (e : Rp c.K μ H d v) (p : PostS c W μ H Dn (.ok (.rt d) S)) : Dn.rt v H := p μ H .refl s v e
theorem PostS.bk (s : SOk c μ H S) (e : EnvR c.K μ H r σ) (p : PostS c W μ H Dn (.ok (.bk r) S)) : Dn.bk σ H := p μ H .refl s σ e
theorem PostS.ct (s : SOk c μ H S) (e : EnvR c.K μ H r σ) (p : PostS c W μ H Dn (.ok (.ct r) S)) : Dn.ct σ H := p μ H .refl s σ e
end
section
variable {c : Gx} {W : WX}
theorem sem_next : SemS c W tNext mNx := fun _ _ _ _ _ _ s e p => p.nx s e
theorem sem_drop {t : TE} {m : Env' → M D} (h : SemE c W t m) : SemS c W (tDrop t) (mDrop m) :=
  fun _ _ _ _ _ _ s e p => h.goS s e p fun d S1 μ1 H1 v ex s1 e1 rv p1 => p1.nx s1 e1
theorem sem_ret {t : TE} {m : Env' → M D} (h : SemE c W t m) : SemS c W (tRet t) (mRet m) :=
  fun _ _ _ _ _ _ s e p => h.goS s e p fun d S1 μ1 H1 v ex s1 e1 rv p1 => p1.rt s1 rv
theorem sem_if {t : TT} {ta tb : TS} {mt : Env' → M Bool} {a b : Env' → M Fl} (ht : SemT c W t mt) (ha : SemS c W ta a) (hb : SemS c W tb b) : SemS c W (tIfS t ta tb) (mIf mt a b) :=
  fun σ H μ r S Dn s e p => ht.goS s e p fun d S1 μ1 H1 ex s1 e1 p1 => by
    cases d with
    | true => exact ha σ H1 μ1 r S1 Dn s1 e1 p1
    | false => exact hb σ H1 μ1 r S1 Dn s1 e1 p1
theorem sem_seq {t u : TS} {a b : Env' → M Fl} (ha : SemS c W t a) (hb : SemS c W u b) : SemS c W (tSeq t u) (mSeq a b) := by
  intro σ H μ r S Dn s e p
  refine ha σ H μ r S _ s e ?_
  unfold mSeq at p
  cases q : a r S with
  | ok f S1 =>
    rw [q] at p
    intro μ1 H1 ex s1
    cases f with
    | nx r' => exact fun σ' e' => hb σ' H1 μ1 r' S1 Dn s1 e' (PostS.mono ex p)
    | rt d => exact p μ1 H1 ex s1
    | bk r' => exact p μ1 H1 ex s1
    | ct r' => exact p μ1 H1 ex s1
    | xc x r' => exact p μ1 H1 ex s1
  | exc x S1 => rw [q] at p; exact p.elim
  | bad => rw [q] at p; exact p.elim
theorem sem_asg {t : TE} {m : Env' → M D} {g : TG} {f : TgM} (h : SemE c W t m) (hg : SemG c W g f) : SemS c W (tAsg t g) (mAsg m f) :=
  fun σ H μ r S Dn s e p => h.goS s e p fun d S1 μ1 H1 v ex s1 e1 rv p1 =>
    hg σ H1 μ1 r S1 d v _ s1 e1 rv ((PostS.bind e1 p1).imp fun r' μ2 H2 ⟨S2, ok, ex2, p2⟩ σ' e' => p2.nx ok e')
theorem sem_name (i : Nat) : SemG c W (gName i) (gNm i) := fun σ H μ r S d v Q s e rv p => p μ H .refl s _ (e.set i rv)
end


abbrev TgsM := List D → Env' → M Env'
def gsNil : TgsM := fun ds r S => match ds with | [] => .ok r S | _ => .bad
def gsCons (g : TgM) (gs : TgsM) : TgsM := fun ds r S => match ds with
  | d :: rest => (match g d r S with | .ok r' S' => gs rest r' S' | .exc _ _ => .bad | .bad => .bad)
  | [] => .bad

def gSubM (o i : Env' → M D) (f : D → D → D → M Unit) : TgM := fun v r => mB (o r) fun x => mB (i r) fun y => mB (f x y v) fun _ => mP r
section
variable {c : Gx} {W : WX}
def SemSet (c : Gx) (W : WX) (t : TSet) (f : D → D → D → M Unit) : Prop := ∀ σ H μ S x y z d e u Q, SOk c μ H S → Rp c.K μ H d x → Rp c.K μ H e y → Rp c.K μ H u z → Post c W σ μ H (fun _ _ H' => Q H') (f d e u S) → t x y z H Q
theorem sem_gSub {to ti : TE} {t : TSet} {mo mi : Env' → M D} {f : D → D → D → M Unit} (ho : SemE c W to mo) (hi : SemE c W ti mi) (h : SemSet c W t f) : SemG c W (gSub to ti t) (gSubM mo mi f) :=
  fun σ H μ r S d v Q s e rv p => ho.go s e p fun o S1 μ1 H1 ov ex1 s1 e1 ro p1 => hi.go s1 e1 p1 fun i S2 μ2 H2 iv ex2 s2 e2 ri p2 =>
    h σ H2 μ2 S2 ov iv v o i d _ s2 (ro.mono ex2) ri (rv.mono (ex1.trans ex2)) ((Post.bind p2).imp fun _ μ3 H3 ⟨S3, ok, ex3, p3⟩ => p3 μ3 H3 .refl ok σ (e2.mono ex3))
end


def FU : Nat := 16777300
def afterB (k : Env' → M Fl) : R Fl → R Fl
  | .ok f S => (match f with | .nx r => k r S | .ct r => k r S | .bk r => .ok (.nx r) S | .rt d => .ok (.rt d) S | .xc x r => .ok (.xc x r) S)
  | .exc _ _ => .bad
  | .bad => .bad
abbrev Src := Nat → Store → Option (Option D)
def mFo (src : Src) (g : TgM) (b : Env' → M Fl) : Nat → Nat → Env' → M Fl
  | 0, _ => fun _ _ => .bad
  | n + 1, i => fun r S => match src i S with
    | none => .bad
    | some none => .ok (.nx r) S
    | some (some d) => stE (g d) (fun r1 _ S1 => afterB (mFo src g b n (i + 1)) (b r1 S1)) r S
def mFor (ms : Env' → M Src) (g : TgM) (b : Env' → M Fl) : Env' → M Fl := stE ms fun src => mFo src g b FU 0
structure ItOk (c : Gx) (J : It) (src : Src) (μ0 : List Addr) (H0 : Hp) : Prop where
  stop : ∀ i μ H S, Ex c.K μ0 H0 μ H → SOk c μ H S → src i S = some none → J.stop i H
  go : ∀ i μ H S d, Ex c.K μ0 H0 μ H → SOk c μ H S → src i S = some (some d) → J.go i H ∧ ∀ x H', J.yld i H x H' → SOk c μ H' S ∧ Ex c.K μ H μ H' ∧ Rp c.K μ H' d x
def SemI (c : Gx) (W : WX) (wi : TI) (m : Env' → M Src) : Prop := ∀ σ H μ r S R, SOk c μ H S → EnvR c.K μ H r σ → Post c W σ μ H (fun src μ' H' => ∀ J, ItOk c J src μ' H' → R J H') (m r S) → wi σ H R
section
variable {c : Gx} {W : WX}
theorem PostS.after {μ : List Addr} {H : Hp} {Dn : Ends} {k : Env' → M Fl} {N : L2.St → Hp → Prop} {x : R Fl} (p : PostS c W μ H Dn (afterB k x))
    (hN : ∀ μ' H' r' S' σ', Ex c.K μ H μ' H' → SOk c μ' H' S' → EnvR c.K μ' H' r' σ' → PostS c W μ' H' Dn (k r' S') → N σ' H') : PostS c W μ H { Dn with nx := N, ct := N, bk := Dn.nx } x := by
  cases x with
  | ok f S =>
    intro μ1 H1 ex s1
    cases f with
    | nx r => exact fun σ' e' => hN μ1 H1 r S σ' ex s1 e' (PostS.mono ex p)
    | ct r => exact fun σ' e' => hN μ1 H1 r S σ' ex s1 e' (PostS.mono ex p)
    | bk r => exact p μ1 H1 ex s1
    | rt d => exact p μ1 H1 ex s1
    | xc x r => exact p μ1 H1 ex s1
  | exc x S => exact p.elim
  | bad => exact p.elim
theorem sem_for {wi : TI} {g : TG} {tb : TS} {ms : Env' → M Src} {f : TgM} {mb : Env' → M Fl} (hi : SemI c W wi ms) (hg : SemG c W g f) (hb : SemS c W tb mb) : SemS c W (tFor wi g tb) (mFor ms f mb) := by
  intro σ H μ r S Dn s e p
  refine hi σ H μ r S _ s e ((PostS.bind e p).imp fun src μ1 H1 ⟨S1, s1, ex1, p1⟩ J J1 => ?_)
  refine ⟨fun i n σ H => ∃ μ r S, SOk c μ H S ∧ EnvR c.K μ H r σ ∧ Ex c.K μ1 H1 μ H ∧ PostS c W μ H Dn (mFo src f mb n i r S), ⟨FU, μ1, r, S1, s1, e.mono ex1, .refl, p1⟩, fun i n σ H hW => ?_⟩
  obtain ⟨μ, r, S, s, e, ex, p⟩ := hW
  cases n with
  | zero => exact p.elim
  | succ n =>
    have p' : PostS c W μ H Dn (match src i S with
      | none => .bad
      | some none => .ok (.nx r) S
      | some (some d) => stE (f d) (fun r1 _ S1 => afterB (mFo src f mb n (i + 1)) (mb r1 S1)) r S) := p
    cases q : src i S with
    | none => rw [q] at p'; exact p'.elim
    | some o =>
      rw [q] at p'
      cases o with
      | none => exact .inl ⟨J1.stop i μ H S ex s q, p'.nx s e⟩
      | some d =>
        obtain ⟨go, yl⟩ := J1.go i μ H S d ex s q
        refine .inr ⟨go, fun σ' H' => ∃ μ r S, SOk c μ H' S ∧ EnvR c.K μ H' r σ' ∧ Ex c.K μ1 H1 μ H' ∧ PostS c W μ H' Dn (mFo src f mb n (i + 1) r S), fun σ' H' h => ⟨n, Nat.lt_succ_self n, h⟩, fun x H' hy => ?_⟩
        obtain ⟨s', ex', rx⟩ := yl x H' hy
        refine hg σ H' μ r S d x _ s' (e.mono ex') rx ((PostS.bind (e.mono ex') (PostS.mono ex' p')).imp fun r1 μ2 H2 ⟨S2, s2, ex2, p2⟩ σ2 e2 => ?_)
        exact hb σ2 H2 μ2 r1 S2 _ s2 e2 (PostS.after p2 fun μ' H' r' S' σ' ex3 s e p => ⟨μ', r', S', s, e, ex.trans (ex'.trans (ex2.trans ex3)), p⟩)
end


def srcL (k : Nat) : Src := fun i S => match lsAt S k with | some xs => some xs[i]? | none => none
def srcT (xs : List D) : Src := fun i _ => some xs[i]?
def srcR (lo : Int) (n : Nat) : Src := fun i _ => if i < n then some (some (.int (lo + i))) else some none

def mSrc (m : Env' → M D) : Env' → M Src := fun r => mB (m r) fun d S => match d with
  | .tup xs => .ok (srcT xs) S
  | .ref k => (match lsAt S k with | some _ => .ok (srcL k) S | none => .bad)
  | _ => .bad
def okR (i : Int) : Prop := -(2 ^ 62) ≤ i ∧ i < 2 ^ 62
instance (i : Int) : Decidable (okR i) := inferInstanceAs (Decidable (_ ∧ _))
def mRng1 (a : Env' → M (List D)) : Env' → M Src := fun r => mB (a r) fun ds S => match ds with
  | [.int j] => if okR j then .ok (srcR 0 j.toNat) S else .bad
  | _ => .bad
def mRng2 (a : Env' → M (List D)) : Env' → M Src := fun r => mB (a r) fun ds S => match ds with
  | [.int i, .int j] => if okR i ∧ okR j then .ok (srcR i (j - i).toNat) S else .bad
  | _ => .bad
section
variable {c : Gx} {W : WX}
theorem itOk_list {k : Nat} {a : Addr} {μ0 : List Addr} {H0 : Hp} (ha : μ0[k]? = some a) : ItOk c (Itl c.K a) (srcL k) μ0 H0 := by
  refine ⟨fun i μ H S ex s q => ?_, fun i μ H S d ex s q => ?_⟩
  · unfold srcL at q
    cases h : lsAt S k with
    | none => rw [h] at q; cases q
    | some xs =>
      rw [h] at q
      obtain ⟨vs, h1, h2⟩ := s.ls h (ex.mu _ _ ha)
      refine ⟨vs, h1, ?_⟩
      rw [← h2.length]
      exact List.getElem?_eq_none_iff.mp (Option.some.inj q)
  · unfold srcL at q
    cases h : lsAt S k with
    | none => rw [h] at q; cases q
    | some xs =>
      rw [h] at q
      obtain ⟨vs, h1, h2⟩ := s.ls h (ex.mu _ _ ha)
      obtain ⟨v, h3, h4⟩ := h2.get (Option.some.inj q)
      refine ⟨⟨vs, v, h1, h3⟩, fun x H' hy => ?_⟩
      obtain ⟨rfl, hx⟩ := hy
      have := hx vs h1
      rw [h3] at this
      cases this
      exact ⟨s, .refl, h4⟩
theorem itOk_tup {ds : List D} {vs : List V} {a : Addr} {μ0 : List Addr} {H0 : Hp} (ha : SqT c.K H0 a vs) (r : RpL c.K μ0 H0 ds vs) : ItOk c (Itt c.K a) (srcT ds) μ0 H0 := by
  refine ⟨fun i μ H S ex s q => ⟨vs, ex.tu _ _ ha, ?_⟩, fun i μ H S d ex s q => ?_⟩
  · rw [← r.length]
    exact List.getElem?_eq_none_iff.mp (Option.some.inj q)
  · obtain ⟨v, h3, h4⟩ := r.get (Option.some.inj q)
    refine ⟨⟨vs, v, ex.tu _ _ ha, h3⟩, fun x H' hy => ?_⟩
    obtain ⟨rfl, hx⟩ := hy
    have := hx vs (ex.tu _ _ ha)
    rw [h3] at this
    cases this
    exact ⟨s, .refl, h4.mono ex⟩
theorem itOk_rng {lo : Int} {n : Nat} {μ0 : List Addr} {H0 : Hp} : ItOk c (Itr lo n) (srcR lo n) μ0 H0 := by
  refine ⟨fun i μ H S ex s q => ?_, fun i μ H S d ex s q => ?_⟩
  · unfold srcR at q
    split at q
    · cases q
    · rename_i h; exact Nat.le_of_not_lt h
  · unfold srcR at q
    split at q
    · rename_i h
      cases q
      refine ⟨h, fun x H' hy => ?_⟩
      obtain ⟨rfl, rfl⟩ := hy
      exact ⟨s, .refl, .int _⟩
    · cases q
theorem sem_iSeq {tl : TE} {m : Env' → M D} (h : SemE c W tl m) : SemI c W (fun σ H R => tl σ H fun x H1 => ∃ a, x = .ref a ∧ ((∃ xs, SqL c.K H1 a xs) ∧ R (Itl c.K a) H1 ∨ (∃ xs, SqT c.K H1 a xs) ∧ R (Itt c.K a) H1)) (mSrc m) := by
  intro σ H μ r S R s e p
  refine h.go s e p fun d S1 μ1 H1 v ex s1 e1 rv p1 => ?_
  cases rv with
  | tup sq rl => exact ⟨_, rfl, .inr ⟨⟨_, sq.sq⟩, p1 μ1 H1 .refl s1 _ (itOk_tup sq rl)⟩⟩
  | ref ha =>
    rename_i i a
    have p2 : Post c W σ μ1 H1 (fun src μ' H' => ∀ J, ItOk c J src μ' H' → R J H') (match lsAt S1 i with | some _ => .ok (srcL i) S1 | none => .bad) := p1
    cases q : lsAt S1 i with
    | none => rw [q] at p2; exact p2.elim
    | some xs =>
      rw [q] at p2
      obtain ⟨vs, h1, _⟩ := s1.ls q ha
      exact ⟨a, rfl, .inl ⟨⟨vs, h1⟩, p2 μ1 H1 .refl s1 _ (itOk_list ha)⟩⟩
  | _ => exact p1.elim
theorem rpl1 {μ : List Addr} {H : Hp} {d : D} {vs : List V} (r : RpL c.K μ H [d] vs) : ∃ v, vs = [v] ∧ Rp c.K μ H d v := by
  cases r with
  | cons r t => cases t; exact ⟨_, rfl, r⟩
theorem rpl2 {μ : List Addr} {H : Hp} {d e : D} {vs : List V} (r : RpL c.K μ H [d, e] vs) : ∃ v u, vs = [v, u] ∧ Rp c.K μ H d v ∧ Rp c.K μ H e u := by
  cases r with
  | cons r t => obtain ⟨u, rfl, q⟩ := rpl1 t; exact ⟨_, _, rfl, r, q⟩
theorem rpInt {μ : List Addr} {H : Hp} {i : Int} {v : V} (r : Rp c.K μ H (.int i) v) : v = .int i := by cases r; rfl
theorem sem_rng1 {t : TA} {m : Env' → M (List D)} (h : SemA c W t m) : SemI c W (iRng1 t) (mRng1 m) := by
  intro σ H μ r S R s e p
  refine h.go s e p fun ds S1 μ1 H1 vs ex s1 e1 rv p1 => ?_
  split at p1
  · rename_i j
    obtain ⟨v, rfl, q⟩ := rpl1 rv
    cases rpInt q
    split at p1
    · rename_i hj; exact ⟨j, rfl, hj.1, hj.2, p1 μ1 H1 .refl s1 _ itOk_rng⟩
    · exact p1.elim
  · exact p1.elim
end


def wipeE (r : Env') : List Nat → Env'
  | [] => r
  | v :: vs => (wipeE r vs).set v none
def lcGo (src : Src) (g : TgM) (mt : Env' → M Bool) (me : Env' → M D) (p : Nat) (r : Env') : Nat → Nat → Store → R Unit
  | 0, _, _ => .bad
  | n + 1, i, S => match src i S with
    | none => .bad
    | some none => .ok () S
    | some (some d) => match g d r S with
      | .ok r1 S1 => (match mt r1 S1 with
        | .ok b S2 => if b = true then (match me r1 S2 with
            | .ok y S3 => (match S3[p]? with
              | some (.lst acc) => if acc.length < sizeLine then lcGo src g mt me p r n (i + 1) (S3.set p (.lst (acc ++ [y]))) else .bad
              | _ => .bad)
            | _ => .bad) else lcGo src g mt me p r n (i + 1) S2
        | _ => .bad)
      | _ => .bad
def mLc (ms : Env' → M Src) (g : TgM) (mt : Env' → M Bool) (me : Env' → M D) (vs : List Nat) : Env' → M D := fun r => mB (ms r) fun src S =>
  match lcGo src g mt me S.length (wipeE r vs) FU 0 (S ++ [.lst []]) with
  | .ok _ S' => .ok (.ref S.length) S'
  | _ => .bad
abbrev Wf : WX := fun _ _ _ _ => False
def mYes : Env' → M Bool := fun _ S => .ok true S
def SemGv (c : Gx) (g : TG) (f : TgM) (vs : List Nat) : Prop := ∀ σ H μ r S d v Q, SOk c μ H S → EnvR c.K μ H r (wipe σ vs) → Rp c.K μ H d v →
  Post c Wf σ μ H (fun r' μ' H' => ∀ σ', EnvR c.K μ' H' r' σ' → wipe σ' vs = wipe σ vs → Q σ' H') (f d r S) → g v (wipe σ vs) H Q
section
variable {c : Gx} {W : WX}
theorem sem_yes : SemT c W tYes mYes := fun _ _ _ _ _ _ s _ p => p.finT s
theorem EnvR.wipe {μ : List Addr} {H : Hp} {r : Env'} {σ : L2.St} (e : EnvR c.K μ H r σ) : ∀ vs : List Nat, EnvR c.K μ H (wipeE r vs) (wipe σ vs)
  | [] => e
  | v :: vs => by
    have ih := EnvR.wipe e vs
    refine ⟨?_, fun i d h => ?_⟩
    · show ((wipeE r vs).set v none).length = ((L2.wipe σ vs).set v none).length
      rw [List.length_set, List.length_set, ih.len]
    · have h' : ((wipeE r vs).set v none)[i]? = some (some d) := h
      show ∃ x, ((L2.wipe σ vs).set v none)[i]? = some (some x) ∧ _
      by_cases hv : v = i
      · subst hv
        by_cases hl : v < (wipeE r vs).length
        · rw [List.getElem?_set_self hl] at h'; cases h'
        · rw [List.getElem?_eq_none (by rw [List.length_set]; omega)] at h'; cases h'
      · rw [List.getElem?_set_ne hv] at h' ⊢
        exact ih.at_ i d h'
theorem sem_lcAt {wi : TI} {g : TG} {tt : TT} {te : TE} {vs : List Nat} {ms : Env' → M Src} {f : TgM} {mt : Env' → M Bool} {me : Env' → M D} (hg : SemGv c g f vs) (ht : SemT c Wf tt mt) (he : SemE c Wf te me)
    (σ : L2.St) (H : Hp) (μ : List Addr) (r : Env') (S : Store) (Q : VK) (s : SOk c μ H S) (e : EnvR c.K μ H r σ)
    (hi : ∀ R, Post c W σ μ H (fun src μ' H' => ∀ J, ItOk c J src μ' H' → R J H') (ms r S) → wi σ H R) (p : Post c W σ μ H (ZE c Q) (mLc ms f mt me vs r S)) : tLc wi g tt te vs σ H Q := by
  refine hi _ ((Post.bind p).imp fun src μ1 H1 ⟨S1, s1, ex1, p1⟩ J J1 => ?_)
  intro Dd hD
  have p2 : Post c W σ μ1 H1 (ZE c Q) (match lcGo src f mt me S1.length (wipeE r vs) FU 0 (S1 ++ [.lst []]) with
    | .ok _ S' => .ok (.ref S1.length) S'
    | _ => .bad) := p1
  have exN : Ex c.K μ1 H1 (μ1 ++ [Dd]) (upd H1 Dd (.lst [])) := Ex.new hD
  have sN : SOk c (μ1 ++ [Dd]) (upd H1 Dd (.lst [])) (S1 ++ [.lst []]) := s1.new hD ⟨[], upd_same, .nil⟩
  have hDi : (μ1 ++ [Dd])[S1.length]? = some Dd := by rw [← s1.len]; simp
  refine ⟨fun i n H => ∃ μ S, SOk c μ H S ∧ Ex c.K (μ1 ++ [Dd]) (upd H1 Dd (.lst [])) μ H ∧ Post c W σ μ H (ZE c Q) (match lcGo src f mt me S1.length (wipeE r vs) n i S with
    | .ok _ S' => .ok (.ref S1.length) S'
    | _ => .bad), ⟨FU, _, _, sN, .refl, Post.mono exN p2⟩, fun i n H hW => ?_⟩
  obtain ⟨μ, S, s, ex, p⟩ := hW
  have eW : EnvR c.K μ H (wipeE r vs) (wipe σ vs) := ((e.mono ex1).mono (exN.trans ex)).wipe vs
  cases n with
  | zero => exact p.elim
  | succ n =>
    cases q : src i S with
    | none => simp only [lcGo, q] at p; exact p.elim
    | some o =>
      cases o with
      | none =>
        simp only [lcGo, q] at p
        exact .inl ⟨J1.stop i μ H S (exN.trans ex) s q, p.fin s (.ref (ex.mu _ _ hDi))⟩
      | some d =>
        simp only [lcGo, q] at p
        obtain ⟨go, yl⟩ := J1.go i μ H S d (exN.trans ex) s q
        refine .inr ⟨go, fun H' => ∃ μ S, SOk c μ H' S ∧ Ex c.K (μ1 ++ [Dd]) (upd H1 Dd (.lst [])) μ H' ∧ Post c W σ μ H' (ZE c Q) (match lcGo src f mt me S1.length (wipeE r vs) n (i + 1) S with
          | .ok _ S' => .ok (.ref S1.length) S'
          | _ => .bad), fun H' h => ⟨n, Nat.lt_succ_self n, h⟩, fun x H' hy => ?_⟩
        obtain ⟨s', ex', rx⟩ := yl x H' hy
        refine hg σ H' μ (wipeE r vs) S d x _ s' (eW.mono ex') rx ?_
        cases q1 : f d (wipeE r vs) S with
        | exc x S2 => rw [q1] at p; exact p.elim
        | bad => rw [q1] at p; exact p.elim
        | ok r1 S2 =>
          rw [q1] at p
          simp only [] at p
          intro μ2 H2 ex2 s2 σ2 e2 hw
          refine ⟨hw, ht σ2 H2 μ2 r1 S2 _ s2 e2 ?_⟩
          cases q2 : mt r1 S2 with
          | exc x S2 => rw [q2] at p; exact p.elim
          | bad => rw [q2] at p; exact p.elim
          | ok b S3 =>
            rw [q2] at p
            simp only [] at p
            intro μ3 H3 ex3 s3
            cases b with
            | false =>
              simp only [Bool.false_eq_true, if_false] at p
              unfold ZT
              simp only []
              rw [if_neg Bool.false_ne_true]
              exact ⟨μ3, S3, s3, ex.trans (ex'.trans (ex2.trans ex3)), Post.mono (ex'.trans (ex2.trans ex3)) p⟩
            | true =>
              simp only [if_true] at p
              unfold ZT
              simp only []
              rw [if_pos trivial]
              refine he σ2 H3 μ3 r1 S3 _ s3 (e2.mono ex3) ?_
              cases q3 : me r1 S3 with
              | exc x S2 => rw [q3] at p; exact p.elim
              | bad => rw [q3] at p; exact p.elim
              | ok y S4 =>
                rw [q3] at p
                simp only [] at p
                intro μ4 H4 ex4 s4 v rv
                have exA := ex.trans (ex'.trans (ex2.trans (ex3.trans ex4)))
                have hDm : μ4[S1.length]? = some Dd := exA.mu _ _ hDi
                cases q4 : S4[S1.length]? with
                | none => rw [q4] at p; exact p.elim
                | some o =>
                  rw [q4] at p
                  cases o with
                  | lst acc =>
                    simp only [] at p
                    by_cases hl : acc.length < sizeLine
                    · rw [if_pos hl] at p
                      obtain ⟨xs, h1, h2⟩ := s4.obj _ _ _ q4 hDm
                      refine ⟨xs, h1, by rw [← h2.length]; exact hl, ?_⟩
                      have h5 : ∀ xs', HO.lst xs ≠ .tup xs' := fun _ z => by cases z
                      have h6 : ∀ u w, HO.lst xs ≠ .frz u w := fun _ _ z => by cases z
                      have exP : Ex c.K μ4 H4 μ4 (upd H4 Dd (.lst (xs ++ [v]))) := Ex.put h1 h5 h6
                      refine ⟨μ4, _, s4.put (o' := .lst (acc ++ [y])) q4 hDm rfl h1 h5 h6 ⟨_, upd_same, (h2.mono exP).append (.cons (rv.mono exP) .nil)⟩, exA.trans exP, Post.mono ((ex'.trans (ex2.trans (ex3.trans ex4))).trans exP) p⟩
                    · rw [if_neg hl] at p; exact p.elim
                  | _ => exact p.elim
theorem sem_lc {wi : TI} {g : TG} {tt : TT} {te : TE} {vs : List Nat} {ms : Env' → M Src} {f : TgM} {mt : Env' → M Bool} {me : Env' → M D} (hi : SemI c W wi ms) (hg : SemGv c g f vs) (ht : SemT c Wf tt mt) (he : SemE c Wf te me) :
    SemE c W (tLc wi g tt te vs) (mLc ms f mt me vs) :=
  fun σ H μ r S Q s e p => sem_lcAt hg ht he σ H μ r S Q s e (fun R pr => hi σ H μ r S R s e pr) p
theorem wipe_set {σ : L2.St} {i : Nat} {o : Option V} : ∀ {vs : List Nat}, i ∈ vs → wipe (σ.set i o) vs = wipe σ vs
  | v :: vs, h => by
    show (wipe (σ.set i o) vs).set v none = (wipe σ vs).set v none
    by_cases hv : i ∈ vs
    · rw [wipe_set hv]
    · have e : i = v := by
        rcases List.mem_cons.mp h with h | h
        · exact h
        · exact absurd h hv
      subst e
      apply List.ext_getElem?
      intro j
      by_cases hj : i = j
      · subst hj
        by_cases hl : i < σ.length
        · rw [List.getElem?_set_self (by rw [wipe_length, List.length_set]; exact hl), List.getElem?_set_self (by rw [wipe_length]; exact hl)]
        · rw [List.getElem?_eq_none (by rw [List.length_set, wipe_length, List.length_set]; omega), List.getElem?_eq_none (by rw [List.length_set, wipe_length]; omega)]
      · rw [List.getElem?_set_ne hj, List.getElem?_set_ne hj]
        by_cases hjv : j ∈ vs
        · have z : ∀ (τ : L2.St) (ws : List Nat), j ∈ ws → (wipe τ ws)[j]? = if j < τ.length then some none else none := by
            intro τ ws
            induction ws with
            | nil => intro h; cases h
            | cons w ws ih =>
              intro h
              show ((wipe τ ws).set w none)[j]? = _
              by_cases hw : w = j
              · subst hw
                split
                · rename_i hl; rw [List.getElem?_set_self (by rw [wipe_length]; exact hl)]
                · rename_i hl; rw [List.getElem?_eq_none (by rw [List.length_set, wipe_length]; omega)]
              · rw [List.getElem?_set_ne hw]
                exact ih ((List.mem_cons.mp h).resolve_left fun q => hw q.symm)
          rw [z _ _ hjv, z _ _ hjv, List.length_set]
        · rw [wipe_out hjv, wipe_out hjv, List.getElem?_set_ne hj]
theorem sem_gvName {vs : List Nat} (i : Nat) (h : i ∈ vs) : SemGv c (gName i) (gNm i) vs := fun σ H μ r S d v Q s e rv p => p μ H .refl s _ (e.set i rv) (by
  rw [wipe_set h]
  have z : ∀ (ws : List Nat) (τ : L2.St), wipe (wipe τ ws) ws = wipe τ ws := by
    intro ws τ
    have y : ∀ (us ws : List Nat) (τ : L2.St), (∀ i ∈ us, i ∈ ws) → wipe (wipe τ us) ws = wipe τ ws := by
      intro us
      induction us with
      | nil => intro ws τ _; rfl
      | cons u us ih =>
        intro ws τ h
        show wipe ((wipe τ us).set u none) ws = _
        rw [wipe_set (h u (List.mem_cons_self)), ih ws τ fun i hi => h i (List.mem_cons_of_mem _ hi)]
    exact y ws ws τ fun _ h => h
  exact z vs σ)
end
end CK
end

section
set_option Elab.async false
set_option linter.all false
set_option maxRecDepth 100000
set_option maxHeartbeats 4000000

namespace CK
open PySem PySem.Spec PyProof.Rows L2


abbrev TQ (Q : VK) (H : Hp) (xs : List V) : Prop := ∀ p, H p = none → ∀ ob : Obj, ob.dict = none → Q (.ref p) (upd H p (.frz ob (.tup xs)))
theorem ok_tq {P : Program} {w : World} {G : Hp} {h : Heap} {a : Addr} {xs : List V} {ys : List Value} {ob : Obj} (e : h.get? a = some ob) (c : ob.cls = .type "tuple") (n : Nat) (d : ob.data = .seq ys.toArray n)
    (r : Vals xs ys) (l : xs.length ≤ sizeLine) : ObjOk P w G h a (.frz ob (.tup xs)) := ⟨e, l, ys, r, ob, e, c, n, d⟩
section
variable {X : Cx} {pins : List (Addr × Obj)} {σ : L2.St} {H : Hp} {s : Shared}

theorem ep_tq {Q : VK} {xs : List V} {ys : List Value} (I : L2.Inv X pins σ H s) (r : Vals xs ys) (l : xs.length ≤ sizeLine) (q : TQ Q H xs) {k : Nat} :
    EP X pins σ Q (.ref s.heap.objs.size) { s with heap := s.heap.push ({ cls := .type "tuple", data := .seq ys.toArray } : Obj), toks := k } :=
  ⟨.ref s.heap.objs.size, upd H s.heap.objs.size (.frz { cls := .type "tuple", data := .seq ys.toArray } (.tup xs)),
    I.laid (t' := k) (fun _ _ z => Heap.get?_push_of_some _ z) (Nat.le_refl _) (ok_tq (Heap.get?_push_size _ rfl) rfl 0 rfl r l), rfl, q _ (I.hok.fresh (Nat.le_refl _)) _ rfl⟩
end


def tTup (t : TA) : TE := fun σ H Q => t σ H fun xs G => xs.length ≤ sizeLine ∧ TQ Q G xs
theorem pe_tup {X : Cx} {es : List Expr} {pos : Pos} {t : TA} {x1} (h : PA X es t) : PE X (.Tuple es x1 pos) (tTup t) :=
  ⟨fun pins s σ H Q I hq => wpAny_Tuple_spliced (thn (h.run pos pins s σ H _ I hq) fun _ z ⟨_, _, J, r, l, q⟩ => ⟨by rw [← r.length]; exact l, ep_tq (k := z.toks) J r l q⟩)⟩
def rCatA (K : PySem.W.Frag) : R2 := fun x y H Q => ∃ a b xs ys, x = .ref a ∧ y = .ref b ∧ SqT K H a xs ∧ SqT K H b ys ∧ xs.length + ys.length ≤ sizeLine ∧
  (xs = [] → Q (.ref b) H) ∧ (xs ≠ [] → ys = [] → Q (.ref a) H) ∧ (xs ≠ [] → ys ≠ [] → TQ Q H (xs ++ ys))
theorem op_catA {X : Cx} : OpR X (binaryOp .Add) (rCatA X.K) := by
  intro pins s σ H x y v u Q I rx ry h
  obtain ⟨a, b, xs, ys, rfl, rfl, ha, hb, hz, q0, q1, q2⟩ := h
  by_cases hx : xs = []
  · exact L2.op_catA pins s σ H _ _ v u Q I rx ry ⟨a, b, xs, ys, rfl, rfl, ha, hb, hz, q0, q1, fun z => (z hx).elim⟩
  · cases rx
    cases ry
    obtain ⟨us, r1, p1, _⟩ := I.tuple ha
    obtain ⟨ws, r2, p2, _⟩ := I.tuple hb
    exact HT.cat_tup p1 p2 (fun z => hx (r1.nil_iff.mp z)) (fun z => ⟨.ref a, H, I, rfl, q1 hx (r2.nil_iff.mp z)⟩)
      (fun z => ep_tq (k := s.toks) I (r1.append r2) (by rw [List.length_append]; exact hz) (q2 hx fun w => z (r2.nil_iff.mpr w))) (by rw [← r1.length, ← r2.length]; exact hz)
def rSlA (K : PySem.W.Frag) : V → Option Int → Option Int → Hp → VK → Prop := fun x lo hi H Q => ∃ a xs, x = .ref a ∧ SqT K H a xs ∧
  (HT.sIx xs.length 0 lo = 0 ∧ HT.sIx xs.length xs.length hi = xs.length → Q (.ref a) H) ∧ (¬ (HT.sIx xs.length 0 lo = 0 ∧ HT.sIx xs.length xs.length hi = xs.length) → TQ Q H (cutV xs lo hi))
theorem sl_tupA {X : Cx} : SlR X (rSlA X.K) := by
  intro pins s σ H x v vl vu lo hi sl Q I rx hs pl pu h
  obtain ⟨a, xs, rfl, hx, q1, q2⟩ := h
  by_cases hw : HT.sIx xs.length 0 lo = 0 ∧ HT.sIx xs.length xs.length hi = xs.length
  · exact L2.sl_tupA pins s σ H _ v vl vu lo hi sl Q I rx hs pl pu ⟨a, xs, rfl, hx, q1, fun z => (z hw).elim⟩
  · cases rx
    obtain ⟨us, r, ht, hz⟩ := I.tuple hx
    have n : us.toArray.size = xs.length := by rw [List.size_toArray, r.length]
    refine ⟨"tuple", _, PyProof.Rows.slot_tuple_getitem.lookup, ht.typeIs, HT.getItem_tuple_cut ht hs pl pu (by rw [n]; exact hw) ?_ (by rw [n]; exact hz)⟩
    rw [n]
    exact ep_tq (k := s.toks) I ((r.drop _).take _) (Nat.le_trans (cutV_length xs lo hi) hz) (q2 hw)


def rRepT (K : PySem.W.Frag) : R2 := fun x y H Q => ∃ l k xs, x = .ref l ∧ y = .int k ∧ SqT K H l xs ∧ xs ≠ [] ∧ 2 ≤ k ∧ k ≤ 1000 ∧ xs.length ≤ 1000 ∧ TQ Q H (List.replicate k.toNat xs).flatten
theorem op_repT {X : Cx} : OpR X (binaryOp .Mult) (rRepT X.K) := by
  intro pins s σ H x y v u Q I rx ry h
  obtain ⟨a, k, xs, rfl, rfl, hT, hne, h1, h2, hz, q⟩ := h
  cases rx
  obtain ⟨t, rfl⟩ := ry
  obtain ⟨us, r, ⟨⟨C, dd, dat, sl⟩, ho, hc, n, hd⟩, hs⟩ := I.tuple hT
  simp only at hc hd
  subst hc hd
  have L : us.length = xs.length := r.length.symm
  have Z : us.toArray.size = xs.length := by rw [List.size_toArray, L]
  have E0 : us.toArray.isEmpty = false := by
    cases us with
    | nil => exact absurd (List.eq_nil_of_length_eq_zero L.symm) hne
    | cons _ _ => rfl
  have M1 : ((xs.length : Nat) : Int) * k ≤ 1000 * 1000 := Int.le_trans (Int.mul_le_mul_of_nonneg_right (show ((xs.length : Nat) : Int) ≤ 1000 by omega) (by omega)) (by omega)
  have fl : (List.replicate k.toNat xs).flatten.length ≤ sizeLine := by
    rw [PyProof.Rows.lm_len_rep_flat, sizeLine_eq]
    exact Nat.le_trans (Nat.mul_le_mul (show k.toNat ≤ 1000 by omega) hz) (by omega)
  have fl2 : (List.replicate k.toNat us).flatten.length ≤ sizeLine := by
    rw [PyProof.Rows.lm_len_rep_flat, L, ← PyProof.Rows.lm_len_rep_flat]
    exact fl
  refine wpAny_binaryOp_repeat_ref (T := "tuple") (U := "int") (by decide) ⟨_, ho, rfl⟩ (fun z => typeIs_int z k t) noFill_tuple_mul F.fills_int_mul F.slot_int_rmul repeat_tuple F.slot_int_index.lookup ?_
  refine call_meets F.slot_int_rmul (typeIs_int s k t) F.entry_int_rmul (F.args_int_rmul_2 _ _) (int_rmul_tuple k t a us.toArray n dd sl) ⟨ho, rfl, ⟨_, ho, rfl⟩, ?_⟩
  refine call_meets F.slot_tuple_mul ⟨_, ho, rfl⟩ F.entry_tuple_mul (F.args_tuple_mul_2 _ _) (tuple_mulW a us.toArray n dd sl k t ?_ ?_ ?_ (by rw [Z]; omega) ?_ (by rw [size_rep, List.size_toArray]; exact fl2)) ⟨ho, ?_⟩
  · rw [decide_eq_false (by omega), decide_eq_false (by omega)]; rfl
  · rw [E0, Bool.false_or]; exact beq_eq_false_iff_ne.mpr (by omega)
  · rw [E0, Bool.or_false]; exact decide_eq_false (by omega)
  · unfold Builtin.Tuple.tupleTooMany
    rw [sizeLine_eq, Z]
    exact decide_eq_false (by omega)
  rw [size_rep]
  exact ep_tq (k := s.toks) I (r.rep k.toNat) fl q


theorem call_tuple_of {X : Cx} : CallR X (.type "tuple") (fun xs H Q => ∃ p ys, xs = [.ref p] ∧ ((SqL X.K H p ys ∧ TQ Q H ys) ∨ (SqT X.K H p ys ∧ Q (.ref p) H))) := by
  intro pins s σ H xs us Q I r h
  obtain ⟨p, ys, rfl, ⟨hq, q⟩ | ⟨hq, q⟩⟩ := h
  · obtain ⟨u, rfl, rx⟩ := vals1 r
    cases rx
    obtain ⟨ws, rw_, pl, hz⟩ := I.list hq
    have n := rw_.length
    exact call_tuple_list pl.isList (fun g kp => ep_tq (k := s.toks) (I.kept (t' := s.toks) kp) rw_ hz q) (by simp only [List.size_toArray]; omega)
  · exact L2.call_tuple_of pins s σ H _ us Q I r ⟨p, ys, rfl, .inr ⟨hq, q⟩⟩
section
variable {X : Cx} {pins : List (Addr × Obj)} {σ : L2.St} {H : Hp} {s : Shared}

end

end CK
end

section
set_option Elab.async false
set_option linter.all false
set_option maxRecDepth 100000
set_option maxHeartbeats 4000000
namespace CK
open PySem PySem.Spec PyProof.Rows L2


def PostF (c : Gx) (μ : List Addr) (H : Hp) (Q : VK) (E : XK) : R D → Prop
  | .ok d S' => ∀ μ' H' v, Ex c.K μ H μ' H' → SOk c μ' H' S' → Rp c.K μ' H' d v → Q v H'
  | .exc x S' => ∀ μ' H' cls dd, Ex c.K μ H μ' H' → SOk c μ' H' S' → RpX c μ' H' x cls dd → E cls dd H'
  | .bad => False

def spM (c : Gx) (n : Nat) (f : List D → M D) : Sp := fun vs H Q E => vs.length = n ∧ ∃ μ S ds, SOk c μ H S ∧ RpL c.K μ H ds vs ∧ PostF c μ H Q E (f ds S)
def mCall (n : Nat) (f : List D → M D) (a : Env' → M (List D)) : Env' → M D := fun r => mB (a r) fun ds => if ds.length = n then f ds else mBad
def mFn (n : Nat) (b : Env' → M Fl) : List D → M D := fun ds S => match b (ds.map some ++ List.replicate (n - ds.length) none) S with
  | .ok f S' => (match f with | .rt d => .ok d S' | .nx _ => .ok .non S' | .xc x _ => .exc x S' | _ => .bad)
  | _ => .bad
section
variable {c : Gx} {W : WX}
theorem sem_call {n : Nat} {f : List D → M D} {t : TA} {m : Env' → M (List D)} (h : SemA c W t m) : SemE c W (tCallS (spM c n f) (WE W) t) (mCall n f m) := by
  intro σ H μ r S Q s e p
  refine h.go s e p fun ds S1 μ1 H1 vs ex s1 e1 rv p1 => ?_
  by_cases hl : ds.length = n
  · rw [if_pos hl] at p1
    refine ⟨by rw [← rv.length]; exact hl, μ1, S1, ds, s1, rv, ?_⟩
    cases q : f ds S1 with
    | ok d S2 => rw [q] at p1; exact fun μ' H' v ex s r => p1 μ' H' ex s v r
    | exc x S2 => rw [q] at p1; exact p1
    | bad => rw [q] at p1; exact p1
  · rw [if_neg hl] at p1; exact p1.elim
theorem envR_start {μ : List Addr} {H : Hp} {N : List Str} : ∀ {ds : List D} {vs : List V}, RpL c.K μ H ds vs → EnvR c.K μ H (ds.map some ++ List.replicate (N.length - ds.length) none) (L2.start N vs) := by
  intro ds vs r
  refine ⟨?_, fun i d h => ?_⟩
  · simp [L2.start, r.length]
  · by_cases hi : i < ds.length
    · rw [List.getElem?_append_left (by simpa using hi), List.getElem?_map] at h
      cases q : ds[i]? with
      | none => rw [q] at h; cases h
      | some e =>
        rw [q] at h
        cases h
        obtain ⟨v, h1, h2⟩ := r.get q
        refine ⟨v, ?_, h2⟩
        unfold L2.start
        rw [List.getElem?_append_left (by rw [List.length_map, ← r.length]; exact hi), List.getElem?_map, h1]
        rfl
    · rw [List.getElem?_append_right (by simpa using hi), List.getElem?_replicate] at h
      split at h <;> cases h
theorem sem_fn {N : List Str} {t : TS} {m : Env' → M Fl} {vs : List V} {H : Hp} {Q : VK} {E : XK} {n : Nat} (h : SemS c (fun cls d _ H => E cls d H) t m) (hs : spM c n (mFn N.length m) vs H Q E) :
    t { nx := fun _ H' => Q .non H', rt := Q } (L2.start N vs) H := by
  obtain ⟨hl, μ, S, ds, s, rv, p⟩ := hs
  refine h _ H μ _ S _ s (envR_start rv) ?_
  unfold mFn at p
  cases q : m (ds.map some ++ List.replicate (N.length - ds.length) none) S with
  | ok f S' =>
    rw [q] at p
    intro μ' H' ex s'
    cases f with
    | nx r => exact fun σ' _ => p μ' H' _ ex s' .non
    | rt d => exact fun v rv => p μ' H' v ex s' rv
    | bk r => exact p.elim
    | ct r => exact p.elim
    | xc x r => exact fun σ' cls dd _ rx => p μ' H' cls dd ex s' rx
  | exc x S' => rw [q] at p; exact p.elim
  | bad => rw [q] at p; exact p.elim
end

structure RoomG (k : Nat) (A : Around) : Prop where
  r : Room k A
  g : A.guards = some []
theorem RoomG.mono {j k : Nat} {A : Around} (h : RoomG k A) (hjk : j ≤ k) : RoomG j A := ⟨h.r.mono hjk, h.g⟩

def FnG (P : Program) (w : World) (c : Gx) (base : Heap) (k : Nat) (f : Addr) (fd : FuncData) (ps : List Str) (g : List D → M D) : Prop :=
  ∀ (A : Around) (fs : List Env) (z : Shared) (H : Hp) (as : Args) (us : List Value) (vs : List V) (Q : VK) (E : XK), RoomG k A → Env0 P w c.K c.mg base A fs z H → BindsTo z fd as (ps.zip us) → Vals vs us →
    spM c ps.length g vs H Q E → codeAny (model P w) A (.call (.ref f) as) (CR (L2N.CX P w) fs P w H z Q E) z
section
variable {c : Gx} {P : Program} {w : World} {base : Heap}
theorem FnG.mono {j k : Nat} {f : Addr} {fd : FuncData} {ps : List Str} {g : List D → M D} (F : FnG P w c base j f fd ps g) (h : j ≤ k) : FnG P w c base k f fd ps g :=
  fun A fs z H as us vs Q E hr => F A fs z H as us vs Q E (hr.mono h)

theorem fn_mk {x qual : Str} {st : Stmt} {f : Addr} {fd : FuncData} {N ps : List Str} {k : Nat} {m : Env' → M Fl} (F : Fun c.K x qual st f fd) (S : FnScope N ps (defScope st))
    (hb : ∀ (cdv : Value) (A : Around) (outer : List Env) (s : Shared) (H : Hp) (E : XK), L2N.Takes (cxOf (L2N.CX P w) P w c.K c.mg base N qual (defScope st) f cdv A outer s H E) (fun cls d _ H => E cls d H) →
      PassesOwn (model P w) (A.deeper (envOfC qual (defScope st) s.heap.objs.size f cdv)) (envOfC qual (defScope st) s.heap.objs.size f cdv) (cxOf (L2N.CX P w) P w c.K c.mg base N qual (defScope st) f cdv A outer s H E).xe →
      RoomG k (A.deeper (envOfC qual (defScope st) s.heap.objs.size f cdv)) →
      ∃ t, PSs (cxOf (L2N.CX P w) P w c.K c.mg base N qual (defScope st) f cdv A outer s H E) (defBody st) t ∧ SemS c (fun cls d _ H => E cls d H) t m) :
    FnG P w c base (k + 1) f fd ps (mFn N.length m) := by
  intro A fs z H as us vs Q E hr e0 bs rv hp
  obtain ⟨oc, od, kV, doc, pm, an, cdv, ct, osl, rfl, lk, hcd⟩ := F.ex
  have there : ∀ b o, base.get? b = some o → z.heap.get? b = some o := fun b o q => (e0.bs b o q).1
  have inK := e0.mod.kin.keeps there
  have kinds : ∀ q ∈ ps.zip us, (defScope st).names.lookup q.1 = some .local ∨ ((defScope st).names.lookup q.1 = some .cell ∧ ((cellsFrom (z.heap.objs.size + 1) (defScope st).names []).lookup q.1).isSome = true) := by
    intro q hq
    obtain ⟨y, u⟩ := q
    exact (S.par y (List.of_mem_zip hq).1).imp id fun h => ⟨h, PySem.W.cellsFrom_some _ _ _ (.inl h)⟩
  apply codeAny_call_function hr.r.depth (inK _ _ lk) rfl S.co S.gen rfl (PySem.W.codeRec_of inK hcd)
  apply bs
  apply wpAny_newFunctionEnv_cells S.kind kinds
  intro env he z1 inC
  cases he
  refine ⟨(e0.mod.nolimit.keeps there).keeps inC.toInCall.keep, codeAny_func ?_⟩
  obtain ⟨t, d1, d2⟩ := hb cdv A fs z H E (L2N.takes_of rfl rfl rfl rfl) (passes_of rfl) ⟨hr.r.deeper _, hr.g⟩
  have J0 : L2.Inv (cxOf (L2N.CX P w) P w c.K c.mg base N qual (defScope st) f cdv A fs z H E) [] (L2.start N vs) H z1 := inv_start S hr.r.hd e0 hp.1 rv inC
  refine wpAny_mono (d1.run [] z1 _ H _ J0 (sem_fn d2 hp)) (fun fl z2 h2 => ?_) fun _ _ h2 => h2
  cases fl with
  | ret u => obtain ⟨v, σ2, H2, J, r2, q2⟩ := h2; exact ⟨v, H2, J.os, J.bare, J.base, J.hok, r2, q2⟩
  | next => obtain ⟨σ2, H2, J, q2⟩ := h2; exact ⟨.non, H2, J.os, J.bare, J.base, J.hok, rfl, q2⟩
  | brk => exact h2.choose_spec.choose_spec.2.elim
  | cont => exact h2.choose_spec.choose_spec.2.elim

theorem fn_bad {f : Addr} {fd : FuncData} {ps : List Str} {k : Nat} {g : List D → M D} (h : ∀ ds S, g ds S = .bad) : FnG P w c base k f fd ps g := by
  intro A fs z H as us vs Q E _ _ _ _ hp
  obtain ⟨_, μ, S, ds, _, _, p⟩ := hp
  rw [h] at p
  exact p.elim
end


def tupM (ds : List D) : M D := fun S => if ds.length ≤ sizeLine then .ok (.tup ds) S else .bad
def lstM (ds : List D) : M D := fun S => if ds.length ≤ sizeLine then .ok (.ref S.length) (S ++ [.lst ds]) else .bad
section
variable {c : Gx} {W : WX}
theorem sem_tup {t : TA} {m : Env' → M (List D)} (h : SemA c W t m) : SemE c W (tTup t) (mArgs tupM m) := by
  intro σ H μ r S Q s e p
  refine h.go s e p fun ds S1 μ1 H1 vs ex s1 e1 rv p1 => ?_
  unfold tupM at p1
  split at p1
  · rename_i hl; exact ⟨by rw [← rv.length]; exact hl, fun q hq => p1.finTup s1 hq rv⟩
  · exact p1.elim
theorem sem_lst {t : TA} {m : Env' → M (List D)} (h : SemA c W t m) : SemE c W (tLst t) (mArgs lstM m) := by
  intro σ H μ r S Q s e p
  refine h.go s e p fun ds S1 μ1 H1 vs ex s1 e1 rv p1 => ?_
  unfold lstM at p1
  split at p1
  · rename_i hl; exact ⟨by rw [← rv.length]; exact hl, fun q hq => p1.finNew s1 hq ⟨vs, upd_same, rv.mono (Ex.new hq)⟩⟩
  · exact p1.elim
end


def CPowX (i j : Int) : Prop := 0 ≤ j ∧ (Builtin.Int.intBits i : Int) * j ≤ 2 ^ 27
instance (i j : Int) : Decidable (CPowX i j) := inferInstanceAs (Decidable (_ ∧ _))
instance (i j : Int) : Decidable (CMulX i j) := inferInstanceAs (Decidable (_ ≤ _))
instance (i j : Int) : Decidable (CDivW i j) := inferInstanceAs (Decidable (_ ∧ _))
instance (i j : Int) : Decidable (CShl i j) := inferInstanceAs (Decidable (_ ∧ _))
theorem op_powX {X : Cx} : OpR X (binaryOp .Pow) (rI CPowX fun i j => .int (i ^ j.toNat)) := opI fun _ _ _ _ _ _ _ hc q => pow_int hc.1 hc.2 q
section
variable {c : Gx} {W : WX}
abbrev subM : D → D → M D := iOp0 fun i j => .int (i - j)
abbrev modM : D → D → M D := iOp (fun _ j => 0 < j) fun i j => .int (i % j)
abbrev fdivM : D → D → M D := iOp CDivW fun i j => .int (i / j)
abbrev powM : D → D → M D := iOp CPowX fun i j => .int (i ^ j.toNat)
abbrev ltM : D → D → M D := iOp0 fun i j => .bl (decide (i < j))
abbrev leM : D → D → M D := iOp0 fun i j => .bl (decide (i ≤ j))
abbrev gtM : D → D → M D := iOp0 fun i j => .bl (decide (j < i))
abbrev geM : D → D → M D := iOp0 fun i j => .bl (decide (j ≤ i))
theorem s_sub : Sem2 c W (rI0 fun i j => .int (i - j)) subM := sem_rI0 fun _ _ _ _ => .int _
theorem s_mod : Sem2 c W (rI (fun _ j => 0 < j) fun i j => .int (i % j)) modM := sem_rI fun _ _ _ _ => .int _
theorem s_fdiv : Sem2 c W (rI CDivW fun i j => .int (i / j)) fdivM := sem_rI fun _ _ _ _ => .int _
theorem s_pow : Sem2 c W (rI CPowX fun i j => .int (i ^ j.toNat)) powM := sem_rI fun _ _ _ _ => .int _
theorem s_lt : Sem2 c W (rI0 fun i j => .bl (decide (i < j))) ltM := sem_rI0 fun _ _ _ _ => .bl _
theorem s_gt : Sem2 c W (rI0 fun i j => .bl (decide (j < i))) gtM := sem_rI0 fun _ _ _ _ => .bl _
theorem s_ge : Sem2 c W (rI0 fun i j => .bl (decide (j ≤ i))) geM := sem_rI0 fun _ _ _ _ => .bl _
def negM (d : D) : M D := fun S => match d.asInt with | some i => .ok (.int (-i)) S | none => .bad
end


def rAddB : R2 := fun x y H Q => ∃ (b : Bool) (j : Int), x = .bl b ∧ y = .int j ∧ Q (.int ((if b = true then 1 else 0) + j)) H
theorem op_addB {X : Cx} : OpR X (binaryOp .Add) rAddB := by
  intro pins s σ H x y v u Q I rx ry h
  obtain ⟨b, j, rfl, rfl, q⟩ := h
  cases rx
  obtain ⟨t', rfl⟩ := ry
  exact PySem.IntBool.add_bool_int ⟨.int _, H, I.tok _, ⟨_, rfl⟩, q⟩
def rAddA (K : PySem.W.Frag) : R2 := fun x y H Q => (rI0 (fun i j => .int (i + j))) x y H Q ∨ rCat x y H Q ∨ rCatA K x y H Q ∨ (∃ i j, x = .str i ∧ y = .str j ∧ i.length + j.length ≤ sizeLine ∧ Q (.str (i ++ j)) H) ∨ rAddB x y H Q
theorem op_addA {X : Cx} : OpR X (binaryOp .Add) (rAddA X.K) := OpR.or op_add (OpR.or op_cat (OpR.or op_catA (OpR.or op_add_str op_addB)))
def rMulA (K : PySem.W.Frag) : R2 := fun x y H Q => (rI CMulX (fun i j => .int (i * j))) x y H Q ∨ rRep x y H Q ∨ rRepT K x y H Q
theorem op_mulA {X : Cx} : OpR X (binaryOp .Mult) (rMulA X.K) := OpR.or op_mulX (OpR.or op_rep op_repT)
def lstO : Option O → Option (List D)
  | some (.lst xs) => some xs
  | _ => none
def addM (d e : D) : M D := fun S => match d with
  | .bl b => (match e.asInt with | some j => .ok (.int ((if b = true then 1 else 0) + j)) S | none => .bad)
  | .int i => (match e.asInt with | some j => .ok (.int (i + j)) S | none => .bad)
  | .tup xs => (match e.asTup with | some ys => if xs.length + ys.length ≤ sizeLine then .ok (.tup (xs ++ ys)) S else .bad | none => .bad)
  | .str x => (match e.asStr with | some y => if x.length + y.length ≤ sizeLine then .ok (.str (x ++ y)) S else .bad | none => .bad)
  | .ref i => (match e.asRef with
    | some j => (match lstO S[i]?, lstO S[j]? with
      | some xs, some ys => if xs.length + ys.length ≤ sizeLine then .ok (.ref S.length) (S ++ [.lst (xs ++ ys)]) else .bad
      | _, _ => .bad)
    | none => .bad)
  | _ => .bad
def mulM (d e : D) : M D := fun S => match e.asInt with
  | some j => (match d with
    | .int i => if CMulX i j then .ok (.int (i * j)) S else .bad
    | .ref i => (match lstO S[i]? with
      | some xs => if -(2 ^ 63) ≤ j ∧ j < 2 ^ 63 ∧ xs.length * j.toNat ≤ sizeLine then .ok (.ref S.length) (S ++ [.lst (List.replicate j.toNat xs).flatten]) else .bad
      | none => .bad)
    | .tup xs => if xs ≠ [] ∧ 2 ≤ j ∧ j ≤ 1000 ∧ xs.length ≤ 1000 then .ok (.tup (List.replicate j.toNat xs).flatten) S else .bad
    | _ => .bad)
  | none => .bad
section
variable {c : Gx} {W : WX} {μ : List Addr} {H : Hp} {S : Store}
theorem SOk.lst {i : Nat} {a : Addr} {ds : List D} (s : SOk c μ H S) (h : lstO S[i]? = some ds) (ha : μ[i]? = some a) : S[i]? = some (.lst ds) ∧ ∃ xs, H a = some (.lst xs) ∧ RpL c.K μ H ds xs := by
  cases e : S[i]? with
  | none => rw [e] at h; cases h
  | some o =>
    rw [e] at h
    cases o with
    | lst zs => cases h; exact ⟨rfl, s.obj _ _ _ e ha⟩
    | _ => cases h
theorem RpL.flat {K : PySem.W.Frag} {ds : List D} {vs : List V} (r : RpL K μ H ds vs) : ∀ n : Nat, RpL K μ H (List.replicate n ds).flatten (List.replicate n vs).flatten
  | 0 => .nil
  | n + 1 => by
    rw [List.replicate_succ, List.replicate_succ, List.flatten_cons, List.flatten_cons]
    exact r.append (RpL.flat r n)
theorem s_add : Sem2 c W (rAddA c.K) addM := by
  intro σ H μ S x y d e Q s rx ry p
  unfold addM at p
  cases rx with
  | int i =>
    simp only [] at p
    cases h : e.asInt with
    | none => rw [h] at p; exact p.elim
    | some j => rw [h] at p; obtain ⟨rfl, rfl⟩ := ry.asInt h; exact .inl ⟨i, j, rfl, rfl, p.fin s (.int _)⟩
  | str i =>
    simp only [] at p
    cases h : e.asStr with
    | none => rw [h] at p; exact p.elim
    | some j =>
      rw [h] at p; obtain ⟨rfl, rfl⟩ := ry.asStr h
      simp only [] at p
      split at p
      · rename_i hl; exact .inr (.inr (.inr (.inl ⟨i, j, rfl, rfl, hl, p.fin s (.str _)⟩)))
      · exact p.elim
  | bl b =>
    simp only [] at p
    cases h : e.asInt with
    | none => rw [h] at p; exact p.elim
    | some j => rw [h] at p; obtain ⟨rfl, rfl⟩ := ry.asInt h; exact .inr (.inr (.inr (.inr ⟨b, j, rfl, rfl, p.fin s (.int _)⟩)))
  | tup sq rl =>
    rename_i a xs ds
    simp only [] at p
    cases h : e.asTup with
    | none => rw [h] at p; exact p.elim
    | some es =>
      rw [h] at p
      obtain ⟨rfl, b, ys, rfl, sq2, rl2⟩ := ry.asTup h
      simp only [] at p
      split at p
      · rename_i hl
        refine .inr (.inr (.inl ⟨a, b, xs, ys, rfl, rfl, sq, sq2, by rw [← rl.length, ← rl2.length]; exact hl, fun e => ?_, fun _ e => ?_, fun _ _ q hq => p.finTup s hq (rl.append rl2)⟩))
        · subst e
          cases rl
          exact p.fin s ry
        · subst e
          cases rl2
          rw [List.append_nil] at p
          exact p.fin s (.tup sq rl)
      · exact p.elim
  | ref ha =>
    rename_i i a
    simp only [] at p
    cases h : e.asRef with
    | none => rw [h] at p; exact p.elim
    | some j =>
      rw [h] at p
      obtain ⟨rfl, b, rfl, hb⟩ := ry.asRef h
      simp only [] at p
      cases h1 : lstO S[i]? with
      | none => rw [h1] at p; exact p.elim
      | some xs =>
        cases h2 : lstO S[j]? with
        | none => rw [h1, h2] at p; exact p.elim
        | some ys =>
          rw [h1, h2] at p
          simp only [] at p
          split at p
          · rename_i hl
            obtain ⟨_, us, g1, g2⟩ := s.lst h1 ha
            obtain ⟨_, ws, k1, k2⟩ := s.lst h2 hb
            exact .inr (.inl ⟨a, b, us, ws, rfl, rfl, g1, k1, by rw [← g2.length, ← k2.length]; exact hl, fun q hq => p.finNew s hq ⟨_, upd_same, (g2.append k2).mono (Ex.new hq)⟩⟩)
          · exact p.elim
  | _ => exact p.elim
theorem s_mul : Sem2 c W (rMulA c.K) mulM := by
  intro σ H μ S x y d e Q s rx ry p
  unfold mulM at p
  cases h : e.asInt with
  | none => rw [h] at p; exact p.elim
  | some j =>
    rw [h] at p; obtain ⟨rfl, rfl⟩ := ry.asInt h
    cases rx with
    | int i =>
      simp only [] at p
      split at p
      · rename_i hc; exact .inl ⟨i, j, rfl, rfl, hc, p.fin s (.int _)⟩
      · exact p.elim
    | ref ha =>
      rename_i i a
      simp only [] at p
      cases h1 : lstO S[i]? with
      | none => rw [h1] at p; exact p.elim
      | some xs =>
        rw [h1] at p
        simp only [] at p
        split at p
        · rename_i hc
          obtain ⟨_, us, g1, g2⟩ := s.lst h1 ha
          exact .inr (.inl ⟨a, j, us, rfl, rfl, g1, hc.1, hc.2.1, by rw [← g2.length]; exact hc.2.2, fun q hq => p.finNew s hq ⟨_, upd_same, (g2.flat _).mono (Ex.new hq)⟩⟩)
        · exact p.elim
    | tup sq rl =>
      rename_i a xs ds
      simp only [] at p
      split at p
      · rename_i hc
        exact .inr (.inr ⟨a, j, xs, rfl, rfl, sq, fun e => hc.1 (List.eq_nil_of_length_eq_zero (by rw [rl.length, e]; rfl)), hc.2.1, hc.2.2.1, by rw [← rl.length]; exact hc.2.2.2, fun q hq => p.finTup s hq (rl.flat _)⟩)
      · exact p.elim
    | _ => exact p.elim
end


def optAll {α β : Type} (f : α → Option β) : List α → Option (List β)
  | [] => some []
  | x :: xs => match f x, optAll f xs with
    | some y, some ys => some (y :: ys)
    | _, _ => none
def pyOf (S : Store) : Nat → D → Option PyData
  | 0, _ => none
  | n + 1, d => match d with
    | .non => some .none
    | .bl b => some (.bool b)
    | .int i => some (.int i)
    | .str x => if PyData.canLay0 (.str x) = true then some (.str x) else none
    | .tup xs => (optAll (pyOf S n) xs).map .tuple
    | .ref i => match lsAt S i with
      | some xs => (optAll (pyOf S n) xs).map .list
      | none => none
def pyD (S : Store) (d : D) : Option PyData := pyOf S 199 d
def eqM (d e : D) : M D := fun S => match pyD S d, pyD S e with
  | some x, some y => .ok (.bl (PyData.eqv x y)) S
  | _, _ => .bad
def neM (d e : D) : M D := fun S => match pyD S d, pyD S e with
  | some x, some y => .ok (.bl (!PyData.eqv x y)) S
  | _, _ => .bad
def rEqX (K : PySem.W.Frag) : R2 := fun x y H Q => ∃ d e, Dp K H x d ∧ Dp K H y e ∧ d.canLay0 = true ∧ e.canLay0 = true ∧ min d.depth e.depth ≤ 199 ∧ Q (.bl (PyData.eqv d e)) H
def rNeX (K : PySem.W.Frag) : R2 := fun x y H Q => ∃ d e, Dp K H x d ∧ Dp K H y e ∧ d.canLay0 = true ∧ e.canLay0 = true ∧ min d.depth e.depth ≤ 199 ∧ Q (.bl (!PyData.eqv d e)) H
theorem op_eqX {X : Cx} {k : Nat} (hr : Room k X.A) : OpR X (compareOp .Eq) (rEqX X.K) := by
  intro pins s σ H x y v u Q I rx ry h
  obtain ⟨d, e, hd, he, sd, se, hm, q⟩ := h
  obtain ⟨as, r1⟩ := Dp.reads I d x v hd rx
  obtain ⟨bs, r2⟩ := Dp.reads I e y u he ry
  exact SeqAt.compareEq_reads r1 r2 sd se (by have := hr.un; omega) ⟨.bl _, H, I, rfl, q⟩
theorem op_neX {X : Cx} {k : Nat} (hr : Room k X.A) : OpR X (compareOp .NotEq) (rNeX X.K) := by
  intro pins s σ H x y v u Q I rx ry h
  obtain ⟨d, e, hd, he, sd, se, hm, q⟩ := h
  obtain ⟨as, r1⟩ := Dp.reads I d x v hd rx
  obtain ⟨bs, r2⟩ := Dp.reads I e y u he ry
  exact SeqAt.compareNe_reads r1 r2 sd se (by have := hr.un; omega) ⟨.bl _, H, I, rfl, q⟩
section
variable {c : Gx} {W : WX} {μ : List Addr} {H : Hp} {S : Store}
theorem py_all (s : SOk c μ H S) (f : D → Option PyData) (n : Nat) (hf : ∀ d v pd, f d = some pd → Rp c.K μ H d v → Dp c.K H v pd ∧ pd.canLay0 = true ∧ pd.depth ≤ n) :
    ∀ (ds : List D) (vs : List V) (ps : List PyData), optAll f ds = some ps → RpL c.K μ H ds vs → DpAll c.K H vs ps ∧ PyData.canLayAll0 ps = true ∧ PyData.depthAll ps ≤ n
  | [], _, _, h, .nil => by cases h; exact ⟨.nil, rfl, Nat.zero_le _⟩
  | d :: ds, _, ps, h, .cons r t => by
    unfold optAll at h
    split at h
    · rename_i y ys h1 h2
      cases h
      obtain ⟨a1, a2, a3⟩ := hf d _ y h1 r
      obtain ⟨b1, b2, b3⟩ := py_all s f n hf ds _ ys h2 t
      refine ⟨.cons a1 b1, ?_, ?_⟩
      · simp only [PyData.canLayAll0, a2, b2, Bool.and_self]
      · simp only [PyData.depthAll]; omega
    · cases h
theorem py_ok (s : SOk c μ H S) : ∀ (n : Nat) (d : D) (v : V) (pd : PyData), pyOf S n d = some pd → Rp c.K μ H d v → Dp c.K H v pd ∧ pd.canLay0 = true ∧ pd.depth ≤ n
  | 0, _, _, _, h, _ => by cases h
  | n + 1, d, v, pd, h, r => by
    unfold pyOf at h
    cases r with
    | non => cases h; exact ⟨.non, by simp only [PyData.canLay0], by simp only [PyData.depth]; omega⟩
    | bl b => cases h; exact ⟨.bl b, by simp only [PyData.canLay0], by simp only [PyData.depth]; omega⟩
    | int i => cases h; exact ⟨.int i, by simp only [PyData.canLay0], by simp only [PyData.depth]; omega⟩
    | str x =>
      simp only [] at h
      split at h
      · rename_i hc; cases h; exact ⟨.str x, hc, by simp only [PyData.depth]; omega⟩
      · cases h
    | tup sq rl =>
      rename_i a xs ds
      simp only [] at h
      cases q : optAll (pyOf S n) ds with
      | none => rw [q] at h; cases h
      | some ps =>
        rw [q] at h
        cases h
        obtain ⟨b1, b2, b3⟩ := py_all s (pyOf S n) n (fun d v pd => py_ok s n d v pd) ds xs ps q rl
        exact ⟨.tup sq b1, by simp only [PyData.canLay0]; exact b2, by simp only [PyData.depth]; omega⟩
    | ref ha =>
      rename_i i a
      simp only [] at h
      cases q0 : lsAt S i with
      | none => rw [q0] at h; cases h
      | some ds =>
        rw [q0] at h
        simp only [] at h
        obtain ⟨xs, sq, rl⟩ := s.ls q0 ha
        cases q : optAll (pyOf S n) ds with
        | none => rw [q] at h; cases h
        | some ps =>
          rw [q] at h
          cases h
          obtain ⟨b1, b2, b3⟩ := py_all s (pyOf S n) n (fun d v pd => py_ok s n d v pd) ds xs ps q rl
          exact ⟨.lst sq b1, by simp only [PyData.canLay0]; exact b2, by simp only [PyData.depth]; omega⟩
theorem s_eq : Sem2 c W (rEqX c.K) eqM := by
  intro σ H μ S x y d e Q s rx ry p
  unfold eqM at p
  cases h1 : pyD S d with
  | none => rw [h1] at p; exact p.elim
  | some pd =>
    cases h2 : pyD S e with
    | none => rw [h1, h2] at p; exact p.elim
    | some pe =>
      rw [h1, h2] at p
      obtain ⟨a1, a2, a3⟩ := py_ok s 199 d x pd h1 rx
      obtain ⟨b1, b2, b3⟩ := py_ok s 199 e y pe h2 ry
      exact ⟨pd, pe, a1, b1, a2, b2, by omega, p.fin s (.bl _)⟩
theorem s_ne : Sem2 c W (rNeX c.K) neM := by
  intro σ H μ S x y d e Q s rx ry p
  unfold neM at p
  cases h1 : pyD S d with
  | none => rw [h1] at p; exact p.elim
  | some pd =>
    cases h2 : pyD S e with
    | none => rw [h1, h2] at p; exact p.elim
    | some pe =>
      rw [h1, h2] at p
      obtain ⟨a1, a2, a3⟩ := py_ok s 199 d x pd h1 rx
      obtain ⟨b1, b2, b3⟩ := py_ok s 199 e y pe h2 ry
      exact ⟨pd, pe, a1, b1, a2, b2, by omega, p.fin s (.bl _)⟩
end


def isM (d e : D) : M D := fun S => match e with
  | .non => .ok (.bl (match d with | .non => true | _ => false)) S
  | .bl b => (match d.asBl with | some a => .ok (.bl (decide (a = b))) S | none => .bad)
  | _ => .bad
def notM (d e : D) : M D := fun S => match e with
  | .non => .ok (.bl (match d with | .non => false | _ => true)) S
  | .bl b => (match d.asBl with | some a => .ok (.bl (!decide (a = b))) S | none => .bad)
  | _ => .bad
def rNotA : R2 := fun x y H Q => (y = .non ∧ Q (.bl (!decide (x = .non))) H) ∨ rNotB x y H Q
theorem op_notA {X : Cx} : OpR X (compareOp .IsNot) rNotA := OpR.or op_notN op_notBl
section
variable {c : Gx} {W : WX} {μ : List Addr} {H : Hp} {S : Store}
theorem s_not : Sem2 c W rNotA notM := by
  intro σ H μ S x y d e Q s rx ry p
  unfold notM at p
  cases ry with
  | non =>
    refine .inl ⟨rfl, ?_⟩
    cases rx <;> exact p.fin s (.bl _)
  | bl b =>
    simp only [] at p
    cases h : d.asBl with
    | none => rw [h] at p; exact p.elim
    | some a => rw [h] at p; obtain ⟨rfl, rfl⟩ := rx.asBl h; exact .inr ⟨a, b, rfl, rfl, p.fin s (.bl _)⟩
  | _ => exact p.elim
end
end CK
end

section
set_option Elab.async false
set_option linter.all false
set_option maxRecDepth 100000
set_option maxHeartbeats 4000000
namespace CK
open PySem PySem.Spec PyProof.Rows L2


def ixM (d e : D) : M D := fun S => match e.asInt with
  | some i => (match d with
    | .tup xs => (match atI xs i with | some x => .ok x S | none => .bad)
    | .ref k => (match lsAt S k with
      | some xs => (match atI xs i with | some x => .ok x S | none => .bad)
      | none => .bad)
    | .str z => if z.length ≤ sizeLine then (match atI z.cps.toList i with | some x => .ok (.str ⟨#[x]⟩) S | none => .bad) else .bad
    | _ => .bad)
  | none => .bad
section
variable {c : Gx} {W : WX} {μ : List Addr} {H : Hp} {S : Store}
theorem RpL.atI {ds : List D} {vs : List V} {i : Int} {d : D} (r : RpL c.K μ H ds vs) (h : L2.atI ds i = some d) : ∃ v, L2.atI vs i = some v ∧ Rp c.K μ H d v := by
  unfold L2.atI at h ⊢
  rw [r.length] at h
  cases q : ixN vs.length i with
  | none => rw [q] at h; cases h
  | some j =>
    rw [q] at h
    exact r.get h
theorem s_ix : Sem2 c W (rIx c.K) ixM := by
  intro σ H μ S x y d e Q s rx ry p
  unfold ixM at p
  cases h : e.asInt with
  | none => rw [h] at p; exact p.elim
  | some i =>
    rw [h] at p; obtain ⟨rfl, rfl⟩ := ry.asInt h
    cases rx with
    | tup sq rl =>
      rename_i a xs ds
      simp only [] at p
      cases q : L2.atI ds i with
      | none => rw [q] at p; exact p.elim
      | some z =>
        rw [q] at p
        obtain ⟨v, h1, h2⟩ := rl.atI q
        exact .inr (.inl ⟨a, xs, i, v, rfl, rfl, sq, h1, p.fin s h2⟩)
    | ref ha =>
      rename_i k a
      simp only [] at p
      cases q0 : lsAt S k with
      | none => rw [q0] at p; exact p.elim
      | some ds =>
        rw [q0] at p
        simp only [] at p
        obtain ⟨xs, sq, rl⟩ := s.ls q0 ha
        cases q : L2.atI ds i with
        | none => rw [q] at p; exact p.elim
        | some z =>
          rw [q] at p
          obtain ⟨v, h1, h2⟩ := rl.atI q
          exact .inl ⟨a, xs, i, v, rfl, rfl, sq, h1, p.fin s h2⟩
    | str z =>
      simp only [] at p
      split at p
      · rename_i hz
        cases q : L2.atI z.cps.toList i with
        | none => rw [q] at p; exact p.elim
        | some w =>
          rw [q] at p
          exact .inr (.inr ⟨z, i, w, rfl, rfl, hz, q, p.fin s (.str _)⟩)
      · exact p.elim
    | _ => exact p.elim
end


def cutD {α : Type} (xs : List α) (lo hi : Option Int) : List α := (xs.drop (HT.sIx xs.length 0 lo)).take (HT.sIx xs.length xs.length hi - HT.sIx xs.length 0 lo)
def mPart (m : Env' → M D) : Env' → M (Option Int) := fun r => mB (m r) fun d S => match d.asInt with | some i => .ok (some i) S | none => .bad
def mNoPart : Env' → M (Option Int) := fun _ S => .ok none S
def slM (d : D) (lo hi : Option Int) : M D := fun S => match d with
  | .tup xs => .ok (.tup (cutD xs lo hi)) S
  | .ref k => (match lsAt S k with
    | some xs => .ok (.ref S.length) (S ++ [.lst (cutD xs lo hi)])
    | none => .bad)
  | _ => .bad
def mSlice (o : Env' → M D) (l h : Env' → M (Option Int)) : Env' → M D := fun r => mB (o r) fun d => mB (l r) fun lo => mB (h r) fun hi => slM d lo hi
def rSlice (K : PySem.W.Frag) : V → Option Int → Option Int → Hp → VK → Prop := fun x lo hi H Q => rSlL K x lo hi H Q ∨ rSlA K x lo hi H Q
theorem sl_any {X : Cx} : SlR X (rSlice X.K) := SlR.or sl_list sl_tupA
section
variable {c : Gx} {W : WX}
def SemP (c : Gx) (W : WX) (t : TO) (m : Env' → M (Option Int)) : Prop := ∀ σ H μ r S Q, SOk c μ H S → EnvR c.K μ H r σ → Post c W σ μ H (fun o _ H' => Q o H') (m r S) → t σ H Q
theorem sem_part {t : TE} {m : Env' → M D} (h : SemE c W t m) : SemP c W (tPart t) (mPart m) := by
  intro σ H μ r S Q s e p
  refine h.go s e p fun d S1 μ1 H1 v ex s1 e1 rv p1 => ?_
  cases q : d.asInt with
  | none => rw [q] at p1; exact p1.elim
  | some i => rw [q] at p1; obtain ⟨rfl, rfl⟩ := rv.asInt q; exact ⟨i, rfl, p1 μ1 H1 .refl s1⟩
theorem sem_noPart : SemP c W tNoPart mNoPart := fun σ H μ r S Q s e p => p μ H .refl s
theorem SemP.go {β : Type} {Z : β → List Addr → Hp → Prop} {σ : L2.St} {μ : List Addr} {H : Hp} {r : Env'} {S : Store} {t : TO} {m : Env' → M (Option Int)} {k : Option Int → M β} {Q : Option Int → Hp → Prop} (h : SemP c W t m) (s : SOk c μ H S) (e : EnvR c.K μ H r σ) (p : Post c W σ μ H Z (mB (m r) k S))
    (q : ∀ d S1 μ1 H1, Ex c.K μ H μ1 H1 → SOk c μ1 H1 S1 → EnvR c.K μ1 H1 r σ → Post c W σ μ1 H1 Z (k d S1) → Q d H1) : t σ H Q :=
  h σ H μ r S Q s e ((Post.bind p).imp fun d _ _ ⟨S1, ok, ex, p1⟩ => q d S1 _ _ ex ok (e.mono ex) p1)
theorem RpL.cut {K : PySem.W.Frag} {μ : List Addr} {H : Hp} {ds : List D} {vs : List V} (r : RpL K μ H ds vs) (lo hi : Option Int) : RpL K μ H (cutD ds lo hi) (cutV vs lo hi) := by
  unfold cutD cutV
  rw [r.length]
  exact (r.drop _).take _
theorem sem_slice {to : TE} {tl th : TO} {mo : Env' → M D} {ml mh : Env' → M (Option Int)} (ho : SemE c W to mo) (hl : SemP c W tl ml) (hh : SemP c W th mh) : SemE c W (tSl (rSlice c.K) to tl th) (mSlice mo ml mh) :=
  fun σ H μ r S Q s e p => ho.go s e p fun d S1 μ1 H1 v ex1 s1 e1 rv p1 => hl.go s1 e1 p1 fun lo S2 μ2 H2 ex2 s2 e2 p2 => hh.go s2 e2 p2 fun hi S3 μ3 H3 ex3 s3 e3 p3 => by
    have rv3 := rv.mono (ex2.trans ex3)
    unfold slM at p3
    cases rv3 with
    | tup sq rl =>
      rename_i a xs ds
      simp only [] at p3
      refine .inr ⟨a, xs, rfl, sq, fun hw => ?_, fun _ q hq => p3.finTup s3 hq (rl.cut lo hi)⟩
      have : cutD ds lo hi = ds := by
        unfold cutD
        rw [rl.length, hw.1, hw.2, List.drop_zero, Nat.sub_zero, List.take_of_length_le (by rw [rl.length]; exact Nat.le_refl _)]
      rw [this] at p3
      exact p3.fin s3 (.tup sq rl)
    | ref ha =>
      rename_i k a
      simp only [] at p3
      cases q0 : lsAt S3 k with
      | none => rw [q0] at p3; exact p3.elim
      | some ds =>
        rw [q0] at p3
        obtain ⟨xs, sq, rl⟩ := s3.ls q0 ha
        exact .inl ⟨a, xs, rfl, sq, fun q hq => p3.finNew s3 hq ⟨_, upd_same, (rl.cut lo hi).mono (Ex.new hq)⟩⟩
    | _ => exact p3.elim

def mRevL (o : Env' → M D) : Env' → M D := fun r => mB (o r) fun d S => match d with
  | .ref k => (match lsAt S k with | some xs => .ok (.ref S.length) (S ++ [.lst xs.reverse]) | none => .bad)
  | _ => .bad
end


def setM (d e v : D) : M Unit := fun S => match d.asRef, e.asInt with
  | some k, some i => (match lstO S[k]? with
    | some xs => (match ixN xs.length i with | some j => .ok () (S.set k (.lst (xs.set j v))) | none => .bad)
    | none => .bad)
  | _, _ => .bad
theorem s_set {c : Gx} {W : WX} : SemSet c W rSetL setM := by
  intro σ H μ S x y z d e u Q s rx ry rz p
  unfold setM at p
  cases h1 : d.asRef with
  | none => rw [h1] at p; exact p.elim
  | some k =>
    cases h2 : e.asInt with
    | none => rw [h1, h2] at p; exact p.elim
    | some i =>
      rw [h1, h2] at p
      obtain ⟨rfl, a, rfl, ha⟩ := rx.asRef h1
      obtain ⟨rfl, rfl⟩ := ry.asInt h2
      simp only [] at p
      cases h3 : lstO S[k]? with
      | none => rw [h3] at p; exact p.elim
      | some ds =>
        rw [h3] at p
        simp only [] at p
        obtain ⟨hS, xs, g1, g2⟩ := s.lst h3 ha
        cases h4 : ixN ds.length i with
        | none => rw [h4] at p; exact p.elim
        | some j =>
          rw [h4] at p
          rw [g2.length] at h4
          have n1 : ∀ xs', HO.lst xs ≠ .tup xs' := fun _ z => by cases z
          have n2 : ∀ u w, HO.lst xs ≠ .frz u w := fun _ _ z => by cases z
          have ex : Ex c.K μ H μ (upd H a (.lst (xs.set j z))) := Ex.put g1 n1 n2
          exact ⟨a, xs, i, j, rfl, rfl, g1, h4, p μ _ ex (s.put hS ha rfl g1 n1 n2 ⟨_, upd_same, (g2.set rz j).mono ex⟩)⟩


def lsUpd (d : D) (k : List D → Option (D × List D)) : M D := fun S => match d.asRef with
  | some i => (match lstO S[i]? with
    | some xs => (match k xs with | some (y, ys) => .ok y (S.set i (.lst ys)) | none => .bad)
    | none => .bad)
  | none => .bad
def appendM (d : D) (as : List D) : M D := match as with
  | [y] => lsUpd d fun xs => if xs.length < sizeLine then some (.non, xs ++ [y]) else none
  | _ => mBad
def popM (d : D) (as : List D) : M D := match as with
  | [] => lsUpd d fun xs => match xs[xs.length - 1]? with | some y => some (y, xs.dropLast) | none => none
  | [.int i] => lsUpd d fun xs => if -(2 ^ 63) ≤ i ∧ i < 2 ^ 63 then (match seqIndex? i xs.length with | some k => (match xs[k]? with | some y => some (y, xs.eraseIdx k) | none => none) | none => none) else none
  | _ => mBad
def insertM (d : D) (as : List D) : M D := match as with
  | [.int i, y] => lsUpd d fun xs => if xs.length < sizeLine ∧ 0 ≤ i ∧ i < 2 ^ 63 then some (.non, xs.take i.toNat ++ [y] ++ xs.drop i.toNat) else none
  | _ => mBad
def extendM (d : D) (as : List D) : M D := fun S => match as with
  | [.ref j] => (match lstO S[j]? with
    | some zs => lsUpd d (fun xs => if xs.length + zs.length ≤ sizeLine then some (.non, xs ++ zs) else none) S
    | none => .bad)
  | _ => .bad

def isLs (d : D) (S : Store) : Bool := match d.asRef with | some i => (lsAt S i).isSome | none => false
def mML (f : D → List D → M D) (o : Env' → M D) (a : Env' → M (List D)) : Env' → M D := fun r => mB (o r) fun x S => if isLs x S = true then mB (a r) (fun xs => f x xs) S else .bad
def mML0 (f : D → List D → M D) (o : Env' → M D) : Env' → M D := fun r => mB (o r) fun x S => if isLs x S = true then f x [] S else .bad
theorem isLs_ty {c : Gx} {μ : List Addr} {H : Hp} {S : Store} {d : D} {v : V} (s : SOk c μ H S) (r : Rp c.K μ H d v) (h : isLs d S = true) : tyV c.K "list" v H := by
  unfold isLs at h
  cases q : d.asRef with
  | none => rw [q] at h; cases h
  | some i =>
    rw [q] at h
    obtain ⟨rfl, a, rfl, ha⟩ := r.asRef q
    cases q2 : lsAt S i with
    | none => simp only [q2, Option.isSome_none] at h; cases h
    | some ds =>
      obtain ⟨xs, sq, _⟩ := s.ls q2 ha
      exact .inl ⟨rfl, xs, sq⟩
section
variable {c : Gx} {W : WX}
theorem s_lsUpd {σ : L2.St} {H : Hp} {μ : List Addr} {S : Store} {x : V} {d : D} {k : List D → Option (D × List D)} {Q : VK} (s : SOk c μ H S) (rx : Rp c.K μ H d x) (p : Post c W σ μ H (ZE c Q) (lsUpd d k S)) :
    ∃ i a ds xs y ys, d = .ref i ∧ x = .ref a ∧ H a = some (.lst xs) ∧ RpL c.K μ H ds xs ∧ k ds = some (y, ys) ∧ ∀ v vs, Rp c.K μ H y v → RpL c.K μ H ys vs → Q v (upd H a (.lst vs)) := by
  unfold lsUpd at p
  cases h1 : d.asRef with
  | none => rw [h1] at p; exact p.elim
  | some i =>
    rw [h1] at p
    obtain ⟨rfl, a, rfl, ha⟩ := rx.asRef h1
    simp only [] at p
    cases h3 : lstO S[i]? with
    | none => rw [h3] at p; exact p.elim
    | some ds =>
      rw [h3] at p
      simp only [] at p
      obtain ⟨hS, xs, g1, g2⟩ := s.lst h3 ha
      cases h4 : k ds with
      | none => rw [h4] at p; exact p.elim
      | some yy =>
        obtain ⟨y, ys⟩ := yy
        rw [h4] at p
        refine ⟨i, a, ds, xs, y, ys, rfl, rfl, g1, g2, h4, fun v vs rv rvs => ?_⟩
        have n1 : ∀ xs', HO.lst xs ≠ .tup xs' := fun _ z => by cases z
        have n2 : ∀ u w, HO.lst xs ≠ .frz u w := fun _ _ z => by cases z
        have ex : Ex c.K μ H μ (upd H a (.lst vs)) := Ex.put g1 n1 n2
        exact p.finPut s hS ha rfl g1 n1 n2 ⟨_, upd_same, rvs.mono ex⟩ rv
theorem sem_bm {t : V → List V → Hp → VK → Prop} {f : D → List D → M D} {to : TE} {ta : TA} {mo : Env' → M D} {ma : Env' → M (List D)} (h : SemM c W t f)
    (ho : SemE c W to mo) (ha : SemA c W ta ma) : SemE c W (tBM c.K "list" t to ta) (mML f mo ma) := by
  intro σ H μ r S Q s e p
  refine ho.go s e p fun d S1 μ1 H1 v ex s1 e1 rv p1 => ?_
  split at p1
  · rename_i hl
    refine ⟨isLs_ty s1 rv hl, ha.go s1 e1 p1 fun ds S2 μ2 H2 vs ex2 s2 e2 rvs p2 => h σ H2 μ2 S2 v d vs ds Q s2 (rv.mono ex2) rvs p2⟩
  · exact p1.elim
theorem s_append : SemM c W rAppend appendM := by
  intro σ H μ S x d xs ds Q s rx rxs p
  unfold appendM at p
  split at p
  · rename_i y
    obtain ⟨v, rfl, rv⟩ := rpl1 rxs
    obtain ⟨i, a, es, us, z, zs, rfl, rfl, g1, g2, hk, q⟩ := s_lsUpd s rx p
    split at hk
    · rename_i hl
      cases hk
      exact ⟨a, us, v, rfl, rfl, g1, by rw [← g2.length]; exact hl, q _ _ .non (g2.append (.cons rv .nil))⟩
    · cases hk
  · exact p.elim
theorem s_insert : SemM c W (fun x vs H Q => ∃ (l : Addr) (xs : List V) (i : Int) (y : V), x = .ref l ∧ vs = [.int i, y] ∧ H l = some (.lst xs) ∧ xs.length < sizeLine ∧ 0 ≤ i ∧ i < 2 ^ 63 ∧
    Q .non (upd H l (.lst (xs.take i.toNat ++ [y] ++ xs.drop i.toNat)))) insertM := by
  intro σ H μ S x d xs ds Q s rx rxs p
  unfold insertM at p
  split at p
  · rename_i i0 y0
    obtain ⟨v, u, rfl, rv, ru⟩ := rpl2 rxs
    cases rpInt rv
    obtain ⟨i, a, es, us, z, zs, rfl, rfl, g1, g2, hk, q⟩ := s_lsUpd s rx p
    split at hk
    · rename_i hb
      cases hk
      exact ⟨a, us, i0, u, rfl, rfl, g1, by rw [← g2.length]; exact hb.1, hb.2.1, hb.2.2, q _ _ .non (((g2.take _).append (.cons ru .nil)).append (g2.drop _))⟩
    · cases hk
  · exact p.elim
end


def lenM (as : List D) : M D := fun S => match as with
  | [d] => (match d with
    | .tup xs => .ok (.int xs.length) S
    | .ref k => (match S[k]? with
      | some (.lst xs) => .ok (.int xs.length) S
      | some (.fro xs) => .ok (.int xs.length) S
      | some (.dK xs) => .ok (.int xs.length) S
      | _ => .bad)
    | .str z => if z.length ≤ sizeLine then .ok (.int z.length) S else .bad
    | _ => .bad)
  | _ => .bad
def rLenA (K : PySem.W.Frag) : List V → Hp → VK → Prop := fun xs H Q => (∃ p ys, xs = [.ref p] ∧ (SqL K H p ys ∨ SqT K H p ys) ∧ Q (.int ys.length) H) ∨ (∃ z, xs = [.str z] ∧ z.length ≤ sizeLine ∧ Q (.int z.length) H) ∨ (∃ a kvs, xs = [V.ref a] ∧ H a = some (.dK kvs) ∧ Q (.int kvs.length) H)
theorem call_lenA {X : Cx} : CallR X (.builtin "len") (rLenA X.K) := CallR.or call_len_seq (CallR.or call_len_str call_lenD)
def absM (as : List D) : M D := fun S => match as with | [.int i] => .ok (.int (if i < 0 then -i else i)) S | _ => .bad
def intM (as : List D) : M D := fun S => match as with | [.int i] => .ok (.int i) S | [.bl b] => .ok (.int (if b then 1 else 0)) S | _ => .bad
def listM (as : List D) : M D := fun S => match as with
  | [.tup xs] => .ok (.ref S.length) (S ++ [.lst xs])
  | [.ref k] => (match lsAt S k with | some xs => .ok (.ref S.length) (S ++ [.lst xs]) | none => .bad)
  | _ => .bad
def tupleM (as : List D) : M D := fun S => match as with
  | [.tup xs] => .ok (.tup xs) S
  | [.ref k] => (match lsAt S k with | some xs => .ok (.tup xs) S | none => .bad)
  | _ => .bad
def asInts : List D → Option (List Int) := optAll D.asInt
def asBls : List D → Option (List Bool) := optAll D.asBl
def ofList {α : Type} (f : List D → Option α) (k : α → M D) (as : List D) : M D := fun S => match as with
  | [.ref i] => (match lsAt S i with
    | some xs => (match f xs with | some a => k a S | none => .bad)
    | none => .bad)
  | _ => .bad
def sumM : List D → M D := ofList asInts fun ns => mP (.int ns.sum)
def maxI : List Int → Int → Int := fun l d => l.foldl (fun a b => if b > a then b else a) d
def minI : List Int → Int → Int := fun l d => l.foldl (fun a b => if b < a then b else a) d
def maxM (as : List D) : M D := fun S => match as with
  | [.int i, .int j] => .ok (.int (if j > i then j else i)) S
  | [.tup xs] => (match asInts xs with | some (n :: r) => .ok (.int (maxI r n)) S | _ => .bad)
  | as => ofList asInts (fun ns => match ns with | n :: r => mP (.int (maxI r n)) | [] => mBad) as S
def minM (as : List D) : M D := fun S => match as with
  | [.int i, .int j] => .ok (.int (if j < i then j else i)) S
  | [.tup xs] => (match asInts xs with | some (n :: r) => .ok (.int (minI r n)) S | _ => .bad)
  | as => ofList asInts (fun ns => match ns with | n :: r => mP (.int (minI r n)) | [] => mBad) as S
def allM : List D → M D := ofList asBls fun bs => mP (.bl (bs.all id))
def anyM : List D → M D := ofList asBls fun bs => mP (.bl (bs.any id))
theorem asInts_eq : ∀ {ds : List D} {ns : List Int}, asInts ds = some ns → ds = ns.map D.int
  | [], ns, h => by cases h; rfl
  | d :: ds, ns, h => by
    unfold asInts optAll at h
    split at h
    · rename_i y ys h1 h2
      cases h
      have : d = .int y := by cases d <;> simp only [D.asInt, reduceCtorEq, Option.some.injEq] at h1; rw [h1]
      rw [this, asInts_eq (ns := ys) h2]; rfl
    · cases h
section
variable {c : Gx} {W : WX} {μ : List Addr} {H : Hp}
theorem RpL.ofInts : ∀ {ns : List Int} {vs : List V}, RpL c.K μ H (ns.map D.int) vs → vs = ns.map V.int
  | [], _, .nil => rfl
  | n :: r, _, .cons a b => by cases a; rw [RpL.ofInts b]; rfl
theorem maxI_spec : ∀ (l : List Int) (d : Int), maxI l d ∈ d :: l ∧ ∀ y ∈ d :: l, y ≤ maxI l d
  | [], d => ⟨List.mem_cons_self, fun y h => by simp at h; subst h; exact Int.le_refl _⟩
  | x :: r, d => by
    have ih := maxI_spec r (if x > d then x else d)
    show maxI r (if x > d then x else d) ∈ _ ∧ ∀ y ∈ _, y ≤ maxI r (if x > d then x else d)
    have h0 := ih.2 _ List.mem_cons_self
    have h1 : d ≤ (if x > d then x else d) ∧ x ≤ (if x > d then x else d) := by split <;> omega
    refine ⟨?_, fun y h => ?_⟩
    · rcases List.mem_cons.mp ih.1 with h | h
      · rw [h]; split <;> simp
      · simp [h]
    · rcases List.mem_cons.mp h with h | h
      · rw [h]; exact Int.le_trans h1.1 h0
      · rcases List.mem_cons.mp h with h | h
        · rw [h]; exact Int.le_trans h1.2 h0
        · exact ih.2 y (List.mem_cons_of_mem _ h)
theorem minI_spec : ∀ (l : List Int) (d : Int), minI l d ∈ d :: l ∧ ∀ y ∈ d :: l, minI l d ≤ y
  | [], d => ⟨List.mem_cons_self, fun y h => by simp at h; subst h; exact Int.le_refl _⟩
  | x :: r, d => by
    have ih := minI_spec r (if x < d then x else d)
    show minI r (if x < d then x else d) ∈ _ ∧ ∀ y ∈ _, minI r (if x < d then x else d) ≤ y
    have h0 := ih.2 _ List.mem_cons_self
    have h1 : (if x < d then x else d) ≤ d ∧ (if x < d then x else d) ≤ x := by split <;> omega
    refine ⟨?_, fun y h => ?_⟩
    · rcases List.mem_cons.mp ih.1 with h | h
      · rw [h]; split <;> simp
      · simp [h]
    · rcases List.mem_cons.mp h with h | h
      · rw [h]; exact Int.le_trans h0 h1.1
      · rcases List.mem_cons.mp h with h | h
        · rw [h]; exact Int.le_trans h0 h1.2
        · exact ih.2 y (List.mem_cons_of_mem _ h)
theorem s_len [Nlk c] : SemC c W (rLenA c.K) lenM := by
  intro σ H μ S xs ds Q s r p
  unfold lenM at p
  split at p
  · rename_i d
    obtain ⟨v, rfl, rv⟩ := rpl1 r
    cases rv with
    | tup sq rl => rename_i a us es; exact .inl ⟨a, us, rfl, .inr sq, by rw [← rl.length]; exact p.fin s (.int _)⟩
    | str z =>
      simp only [] at p
      split at p
      · rename_i hz; exact .inr (.inl ⟨z, rfl, hz, p.fin s (.int _)⟩)
      · exact p.elim
    | ref ha =>
      rename_i k a
      simp only [] at p
      cases q : S[k]? with
      | none => rw [q] at p; exact p.elim
      | some o =>
        rw [q] at p
        cases o with
        | lst es => obtain ⟨us, g1, g2⟩ := s.obj _ _ _ q ha; exact .inl ⟨a, us, rfl, .inl (.inl (.inl g1)), by rw [← g2.length]; exact p.fin s (.int _)⟩
        | fro es => obtain ⟨us, g1, g2⟩ := s.obj _ _ _ q ha; exact .inl ⟨a, us, rfl, .inl g1.sq, by rw [← g2.length]; exact p.fin s (.int _)⟩
        | dK es =>
          obtain ⟨us, g1, g2⟩ := s.obj _ _ _ q ha
          have hl : es.length = us.length := by have := congrArg List.length g2.1; simpa using this
          rcases g1 with g1 | ⟨_, h3, _⟩
          · exact .inr (.inr ⟨a, us, rfl, g1, by rw [← hl]; exact p.fin s (.int _)⟩)
          · rw [Nlk.h] at h3; cases h3
        | _ => exact p.elim
    | _ => exact p.elim
  · exact p.elim
theorem s_abs : SemC c W (fun xs H Q => ∃ i, xs = [.int i] ∧ Q (.int (if i < 0 then -i else i)) H) absM := by
  intro σ H μ S xs ds Q s r p
  unfold absM at p
  split at p
  · obtain ⟨v, rfl, rv⟩ := rpl1 r; cases rpInt rv; exact ⟨_, rfl, p.fin s (.int _)⟩
  · exact p.elim
theorem s_int : SemC c W (fun xs H Q => (∃ i, xs = [.int i] ∧ Q (.int i) H) ∨ ∃ k, xs = [.bl k] ∧ Q (.int (if k then 1 else 0)) H) intM := by
  intro σ H μ S xs ds Q s r p
  unfold intM at p
  split at p
  · obtain ⟨v, rfl, rv⟩ := rpl1 r; cases rpInt rv; exact .inl ⟨_, rfl, p.fin s (.int _)⟩
  · obtain ⟨v, rfl, rv⟩ := rpl1 r; cases rv; exact .inr ⟨_, rfl, p.fin s (.int _)⟩
  · exact p.elim
theorem s_list : SemC c W (fun xs H Q => ∃ p ys, xs = [.ref p] ∧ (SqL c.K H p ys ∨ SqT c.K H p ys) ∧ ∀ l, H l = none → Q (.ref l) (upd H l (.lst ys))) listM := by
  intro σ H μ S xs ds Q s r p
  unfold listM at p
  split at p
  · obtain ⟨v, rfl, rv⟩ := rpl1 r
    cases rv with
    | tup sq rl => exact ⟨_, _, rfl, .inr sq, fun l hl => p.finNew s hl ⟨_, upd_same, rl.mono (Ex.new hl)⟩⟩
  · rename_i k
    obtain ⟨v, rfl, rv⟩ := rpl1 r
    cases rv with
    | ref ha =>
      cases q0 : lsAt S k with
      | none => rw [q0] at p; exact p.elim
      | some es =>
        rw [q0] at p
        obtain ⟨us, sq, rl⟩ := s.ls q0 ha
        exact ⟨_, _, rfl, .inl sq, fun l hl => p.finNew s hl ⟨_, upd_same, rl.mono (Ex.new hl)⟩⟩
  · exact p.elim
theorem s_tuple : SemC c W (fun xs H Q => ∃ p ys, xs = [.ref p] ∧ ((SqL c.K H p ys ∧ TQ Q H ys) ∨ (SqT c.K H p ys ∧ Q (.ref p) H))) tupleM := by
  intro σ H μ S xs ds Q s r p
  unfold tupleM at p
  split at p
  · obtain ⟨v, rfl, rv⟩ := rpl1 r
    cases rv with
    | tup sq rl => exact ⟨_, _, rfl, .inr ⟨sq.sq, p.fin s (.tup sq rl)⟩⟩
  · rename_i k
    obtain ⟨v, rfl, rv⟩ := rpl1 r
    cases rv with
    | ref ha =>
      cases q0 : lsAt S k with
      | none => rw [q0] at p; exact p.elim
      | some es =>
        rw [q0] at p
        obtain ⟨us, sq, rl⟩ := s.ls q0 ha
        exact ⟨_, _, rfl, .inl ⟨sq, fun l hl => p.finTup s hl rl⟩⟩
  · exact p.elim
theorem s_ofList {α : Type} {f : List D → Option α} {k : α → M D} {σ : L2.St} {S : Store} {xs : List V} {ds : List D} {Q : VK} (s : SOk c μ H S) (r : RpL c.K μ H ds xs) (p : Post c W σ μ H (ZE c Q) (ofList f k ds S)) :
    ∃ a es us x, xs = [.ref a] ∧ SqL c.K H a us ∧ RpL c.K μ H es us ∧ f es = some x ∧ Post c W σ μ H (ZE c Q) (k x S) := by
  unfold ofList at p
  split at p
  · rename_i i
    obtain ⟨v, rfl, rv⟩ := rpl1 r
    cases rv with
    | ref ha =>
      cases q0 : lsAt S i with
      | none => rw [q0] at p; exact p.elim
      | some es =>
        rw [q0] at p
        obtain ⟨us, sq, rl⟩ := s.ls q0 ha
        simp only [] at p
        cases q1 : f es with
        | none => rw [q1] at p; exact p.elim
        | some x => rw [q1] at p; exact ⟨_, es, us, x, rfl, sq, rl, q1, p⟩
  · exact p.elim
end
def rMaxT (K : PySem.W.Frag) : List V → Hp → VK → Prop := fun xs H Q => ∃ a n ns, xs = [.ref a] ∧ SqT K H a ((n :: ns).map V.int) ∧ Q (.int (maxI ns n)) H
def rMinT (K : PySem.W.Frag) : List V → Hp → VK → Prop := fun xs H Q => ∃ a n ns, xs = [.ref a] ∧ SqT K H a ((n :: ns).map V.int) ∧ Q (.int (minI ns n)) H
theorem maxI_fold : ∀ (ns : List Int) (n : Int), ns.foldl max n = maxI ns n
  | [], _ => rfl
  | k :: r, n => by
    show r.foldl max (max n k) = maxI r (if k > n then k else n)
    rw [maxI_fold r]
    congr 1
    split <;> omega
theorem minI_fold : ∀ (ns : List Int) (n : Int), ns.foldl min n = minI ns n
  | [], _ => rfl
  | k :: r, n => by
    show r.foldl min (min n k) = minI r (if k < n then k else n)
    rw [minI_fold r]
    congr 1
    split <;> omega
theorem dpInts {K : PySem.W.Frag} {H : Hp} : ∀ ns : List Int, DpAll K H (ns.map V.int) (ns.map PyData.int)
  | [] => .nil
  | n :: r => .cons (.int n) (dpInts r)
theorem depthInts : ∀ ns : List Int, PyData.depthAll (ns.map PyData.int) = 0
  | [] => by simp only [List.map_nil, PyData.depthAll]
  | n :: r => by simp only [List.map_cons, PyData.depthAll, PyData.depth, depthInts r]; rfl
theorem alikeInts (ns : List Int) : PySem.W.AlikeAll (ns.map PyData.int) := by
  refine ⟨fun x hx y hy => ?_, fun x hx => ?_⟩
  · obtain ⟨i, _, rfl⟩ := List.mem_map.mp hx
    obtain ⟨j, _, rfl⟩ := List.mem_map.mp hy
    simp only [PySem.W.alike]
  · obtain ⟨i, _, rfl⟩ := List.mem_map.mp hx
    exact fun z => by cases z
theorem cr_maxT {X : Cx} {k : Nat} (hr : Room k X.A) : CallR X (.builtin "max") (rMaxT X.K) := by
  intro pins s σ H vs us Q I r h
  obtain ⟨a, n, ns, rfl, hs, q⟩ := h
  obtain ⟨its, rv, hl, _⟩ := I.tuple hs
  rw [Vals.ref1 r]
  obtain ⟨as, hra⟩ := Dp.readsAll I _ _ its (dpInts (n :: ns)) rv
  rw [List.map_cons] at hra
  have ha := alikeInts (n :: ns)
  have hd := depthInts (n :: ns)
  rw [List.map_cons] at ha hd
  refine PySem.W.max_tuple_data hr.hd hl hra ha (by rw [hd]; have := hr.un; omega) fun i v h' tk bs _ hv hk => ?_
  rw [PySem.W.maxD_ints, maxI_fold] at hv
  cases hv
  exact ⟨.int _, H, I.kept hk, ⟨_, rfl⟩, q⟩
theorem cr_minT {X : Cx} {k : Nat} (hr : Room k X.A) : CallR X (.builtin "min") (rMinT X.K) := by
  intro pins s σ H vs us Q I r h
  obtain ⟨a, n, ns, rfl, hs, q⟩ := h
  obtain ⟨its, rv, hl, _⟩ := I.tuple hs
  rw [Vals.ref1 r]
  obtain ⟨as, hra⟩ := Dp.readsAll I _ _ its (dpInts (n :: ns)) rv
  rw [List.map_cons] at hra
  have ha := alikeInts (n :: ns)
  have hd := depthInts (n :: ns)
  rw [List.map_cons] at ha hd
  refine PySem.W.min_tuple_data hr.hd hl hra ha (by rw [hd]; have := hr.un; omega) fun i v h' tk bs _ hv hk => ?_
  rw [PySem.W.minD_ints, minI_fold] at hv
  cases hv
  exact ⟨.int _, H, I.kept hk, ⟨_, rfl⟩, q⟩
def rMaxA (K : PySem.W.Frag) : List V → Hp → VK → Prop := fun xs H Q => (∃ i j, xs = [.int i, .int j] ∧ Q (.int (if j > i then j else i)) H) ∨ rMaxT K xs H Q ∨ rMax K xs H Q
def rMinA (K : PySem.W.Frag) : List V → Hp → VK → Prop := fun xs H Q => (∃ i j, xs = [.int i, .int j] ∧ Q (.int (if j < i then j else i)) H) ∨ rMinT K xs H Q ∨ rMin K xs H Q
theorem call_maxA {X : Cx} {k : Nat} (hr : Room k X.A) (hc : X.calm = true) : CallR X (.builtin "max") (rMaxA X.K) := CallR.or (call_max2 hc) (CallR.or (cr_maxT hr) (cr_max hc))
theorem call_minA {X : Cx} {k : Nat} (hr : Room k X.A) (hc : X.calm = true) : CallR X (.builtin "min") (rMinA X.K) := CallR.or (call_min2 hc) (CallR.or (cr_minT hr) (cr_min hc))
section
variable {c : Gx} {W : WX} {μ : List Addr} {H : Hp}
theorem s_max : SemC c W (rMaxA c.K) maxM := by
  intro σ H μ S xs ds Q s r p
  unfold maxM at p
  split at p
  · obtain ⟨v, u, rfl, rv, ru⟩ := rpl2 r; cases rpInt rv; cases rpInt ru; exact .inl ⟨_, _, rfl, p.fin s (.int _)⟩
  · rename_i ds
    obtain ⟨v, rfl, rv⟩ := rpl1 r
    split at p
    · rename_i n ns h
      cases rv with
      | tup sq rl =>
        rw [asInts_eq h] at rl
        rw [rl.ofInts] at sq
        exact .inr (.inl ⟨_, n, ns, rfl, sq, p.fin s (.int _)⟩)
    · exact p.elim
  · obtain ⟨a, es, us, ns, rfl, sq, rl, h, p⟩ := s_ofList s r p
    rw [asInts_eq h] at rl
    rw [rl.ofInts] at sq
    cases ns with
    | nil => exact p.elim
    | cons n l =>
      refine .inr (.inr ⟨a, n :: l, rfl, sq, Nat.zero_lt_succ _, fun m h1 h2 => ?_⟩)
      have h3 := maxI_spec l n
      have : m = maxI l n := by
        have a1 := h2 _ h3.1
        have a2 := h3.2 _ h1
        omega
      rw [this]
      exact p.fin s (.int _)
theorem s_min : SemC c W (rMinA c.K) minM := by
  intro σ H μ S xs ds Q s r p
  unfold minM at p
  split at p
  · obtain ⟨v, u, rfl, rv, ru⟩ := rpl2 r; cases rpInt rv; cases rpInt ru; exact .inl ⟨_, _, rfl, p.fin s (.int _)⟩
  · rename_i ds
    obtain ⟨v, rfl, rv⟩ := rpl1 r
    split at p
    · rename_i n ns h
      cases rv with
      | tup sq rl =>
        rw [asInts_eq h] at rl
        rw [rl.ofInts] at sq
        exact .inr (.inl ⟨_, n, ns, rfl, sq, p.fin s (.int _)⟩)
    · exact p.elim
  · obtain ⟨a, es, us, ns, rfl, sq, rl, h, p⟩ := s_ofList s r p
    rw [asInts_eq h] at rl
    rw [rl.ofInts] at sq
    cases ns with
    | nil => exact p.elim
    | cons n l =>
      refine .inr (.inr ⟨a, n :: l, rfl, sq, Nat.zero_lt_succ _, fun m h1 h2 => ?_⟩)
      have h3 := minI_spec l n
      have : m = minI l n := by
        have a1 := h2 _ h3.1
        have a2 := h3.2 _ h1
        omega
      rw [this]
      exact p.fin s (.int _)
end
end CK
end

section
set_option Elab.async false
set_option linter.all false
set_option maxRecDepth 100000
set_option maxHeartbeats 4000000
namespace CK
open PySem PySem.Spec PyProof.Rows L2


end CK
end

section
set_option Elab.async false
set_option linter.all false
set_option maxRecDepth 100000
set_option maxHeartbeats 4000000
namespace CK
open PySem PySem.Spec PyProof.Rows L2


def iSeq (K : PySem.W.Frag) (tl : TE) : TI := fun σ H R => tl σ H fun x H1 => ∃ a, x = .ref a ∧ ((∃ xs, SqL K H1 a xs) ∧ R (Itl K a) H1 ∨ (∃ xs, SqT K H1 a xs) ∧ R (Itt K a) H1)
theorem pi_seq {X : Cx} {tg l : Expr} {tl : TE} (hl : PE X l tl) : PI X tg l (iSeq X.K tl) := by
  refine ⟨fun pins s σ H R I h => ?_⟩
  refine thn (hl.run pins s σ H _ I h) fun v s1 ⟨x, H1, I1, r1, q1⟩ => ?_
  obtain ⟨a, e, ⟨⟨xs, hq⟩, q⟩ | ⟨⟨xs, hq⟩, q⟩⟩ := q1
  · subst e
    cases r1
    obtain ⟨its, rv, p, hz⟩ := I1.list hq
    refine wpAny_pyIter_list p.isList ?_
    refine ⟨s1.heap.objs.size, [s1.heap.objs.size], _, _, H1, rfl, I1.kept (t' := s1.toks) fun b o e => Heap.get?_push_of_some _ e, turn_list a _, ⟨_, Heap.get?_push_size _ rfl, rfl, rfl⟩, fun b hb => ?_, q⟩
    have e : b = s1.heap.objs.size := by simpa using hb
    subst e
    exact I1.fpOk (Nat.le_refl _) (I1.hok.fresh (Nat.le_refl _))
  · subst e
    cases r1
    obtain ⟨its, rv, p, hz⟩ := I1.tuple hq
    refine wpAny_pyIter_tuple (show s1.heap.IsTuple a its.toArray from p) ?_
    refine ⟨s1.heap.objs.size, [s1.heap.objs.size], _, _, H1, rfl, I1.kept (t' := s1.toks) fun b o e => Heap.get?_push_of_some _ e, turn_tuple a _, ⟨_, Heap.get?_push_size _ rfl, rfl, rfl⟩, fun b hb => ?_, q⟩
    have e : b = s1.heap.objs.size := by simpa using hb
    subst e
    exact I1.fpOk (Nat.le_refl _) (I1.hok.fresh (Nat.le_refl _))
theorem sem_seqI {c : Gx} {W : WX} {tl : TE} {m : Env' → M D} (h : SemE c W tl m) : SemI c W (iSeq c.K tl) (mSrc m) := sem_iSeq h


def srcC (lo c : Int) (n : Nat) : Src := fun i _ => if i < n then some (some (.int (lo + (i : Nat) * c))) else some none

def mRng3 (a : Env' → M (List D)) : Env' → M Src := fun r => mB (a r) fun ds S => match ds with
  | [.int i, .int j, .int (-1)] => if okR i ∧ okR j then .ok (srcC i (-1) (i - j).toNat) S else .bad
  | _ => .bad
section
variable {c : Gx} {W : WX}
end


def rIsT (K : PySem.W.Frag) : List V → Hp → VK → Prop := fun xs H Q => ∃ (a : Addr) (cls : Value) (d : Option Addr) (w : V) (cv : Value) (C : Addr) (b : Bool), xs = [.ref a, w] ∧ H a = some (ExT cls d a) ∧ (∀ u, RelV w u → u = cv) ∧ cls = .ref C ∧ XLook K C ∧ dictAt d H ∧ PySem.W.kitOne K cls cv = some b ∧ Q (.bl b) H
theorem inst_T {X : Cx} {pins : List (Addr × Obj)} {σ : L2.St} {H : Hp} {z : Shared} {a C : Addr} {d : Option Addr} (I : L2.Inv X pins σ H z) (hE : H a = some (ExT (.ref C) d a)) (hd : dictAt d H) :
    ∃ oe od, PySem.W.InstAt z.heap a oe C od := by
  obtain ⟨⟨oe, vs, hget, hz, hv⟩, _⟩ := I.hok a _ hE
  have hno : PySem.W.notCls oe = true := by unfold PySem.W.notCls; rw [hv]
  rcases hd with rfl | ⟨dd, fs, rfl, hH⟩
  · exact ⟨oe, none, hget, hz.1, hno, by rw [hz.2]; trivial⟩
  · obtain ⟨mA, hns, _⟩ := (show ObjOk X.prog X.w H z.heap dd (.xd fs) from I.hok dd _ hH)
    obtain ⟨od, ho, _⟩ := lookIn_ns hns
    exact ⟨oe, some od, hget, hz.1, hno, by rw [hz.2]; exact ho⟩
theorem call_isT {X : Cx} : CallR X (.builtin "isinstance") (rIsT X.K) := by
  intro pins z σ H xs us Q I r h
  obtain ⟨a, cls, d, w, cv, C, b, rfl, hE, hcv, rfl, T, hd, e, q⟩ := h
  cases r with
  | cons rx rr =>
    cases rr with
    | cons rt rr =>
      cases rr
      cases rx
      have ec := hcv _ rt
      subst ec
      obtain ⟨oe, od, J⟩ := inst_T I hE hd
      have hcl : (PySem.W.clsIn X.K C).isSome = true := by obtain ⟨cd, hc, _⟩ := PySem.W.any_some T.xf.hdC; rw [hc]; rfl
      exact PySem.W.kia_one (PySem.W.kitx_exc hcl T.xf.ga T.xf.gg T.xf.exC T.ha T.hn T.ht T.hm) I.kIn J e (fun z => nomatch z) fun tk => ⟨.bl b, H, I.kept (t' := tk) fun _ _ z => z, rfl, q⟩
def xdO : Option O → Option (List (Str × D))
  | some (.xd fs) => some fs
  | _ => none
def xdOk (x : Exn) (S : Store) : Bool := match x.dict with
  | none => true
  | some k => (xdO S[k]?).isSome

def tyN (d : D) (S : Store) : Option String := match d with
  | .non => some "NoneType"
  | .bl _ => some "bool"
  | .int _ => some "int"
  | .str _ => some "str"
  | .tup _ => some "tuple"
  | .ref i => match S[i]? with
    | some (.lst _) => some "list"
    | some (.fro _) => some "list"
    | some (.dK _) => some "dict"
    | some (.dT _) => some "dict"
    | some (.exn n j) => if xdOk ⟨n, j⟩ S = true then some "ValueError" else none
    | _ => none
def isEx (d : D) (S : Store) : Bool := match d with
  | .ref i => (match S[i]? with | some (.exn _ _) => true | _ => false)
  | _ => false
def rIsiA (K : PySem.W.Frag) : List V → Hp → VK → Prop := fun xs H Q => rIsi K xs H Q ∨ rIsT K xs H Q
theorem call_isiA {X : Cx} : CallR X (.builtin "isinstance") (rIsiA X.K) := fun pins z σ H xs us Q I r h => h.elim (call_isi pins z σ H xs us Q I r) (call_isT pins z σ H xs us Q I r)
def isiR (t T : String) : Option Bool := kitB t T
def mIsi (T : String) (m : Env' → M D) : Env' → M D := fun r => mB (m r) fun d S => match tyN d S with
  | some t => (match isiR t T with | some b => .ok (.bl b) S | none => .bad)
  | none => .bad
section
variable {c : Gx} {W : WX}
theorem tyX_ok {μ : List Addr} {H : Hp} {S : Store} {d : D} {v : V} {t : String} (s : SOk c μ H S) (r : Rp c.K μ H d v) (h : tyN d S = some t) (hx : isEx d S = false) : TyX c.K H v (.type t) := by
  unfold tyN at h
  cases r with
  | non => cases h; exact .base .non
  | bl b => cases h; exact .base (.bl b)
  | int b => cases h; exact .base (.int b)
  | str b => cases h; exact .base (.str b)
  | tup sq rl =>
    cases h
    rcases sq.sq with (sq | ⟨u, sq⟩) | ⟨o, its, n, h1, h2, h3⟩
    · exact .base (.tup sq)
    · exact .fTuple sq
    · exact .kTuple h1 h2
  | ref ha =>
    rename_i i a
    simp only [] at h
    cases q : S[i]? with
    | none => rw [q] at h; cases h
    | some o =>
      rw [q] at h
      cases o with
      | lst es => cases h; obtain ⟨us, g1, g2⟩ := s.obj _ _ _ q ha; exact .base (.lst g1)
      | fro es =>
        cases h
        obtain ⟨us, g1, g2⟩ := s.obj _ _ _ q ha
        rcases g1 with ⟨u, g1⟩ | ⟨o, its, n, h1, h2, h3⟩
        · exact .base (.frz g1)
        · exact .kList h1 h2
      | dK es =>
        cases h
        obtain ⟨us, g1, g2⟩ := s.obj _ _ _ q ha
        rcases g1 with g1 | ⟨_, _, h4⟩
        · exact .base (.dK g1)
        · exact .fDict h4
      | dT es => cases h; obtain ⟨us, g1, g2⟩ := s.obj _ _ _ q ha; exact .base (.dT g1)
      | exn n j => simp only [isEx, q] at hx; cases hx
      | _ => cases h
theorem xd_of {μ : List Addr} {H : Hp} {S : Store} {i : Nat} {b : Addr} {fs : List (Str × D)} (s : SOk c μ H S) (h : xdO S[i]? = some fs) (hb : μ[i]? = some b) : ∃ vs, H b = some (.xd vs) := by
  cases q : S[i]? with
  | none => rw [q] at h; cases h
  | some o =>
    rw [q] at h
    cases o <;> simp only [xdO, reduceCtorEq, Option.some.injEq] at h
    obtain ⟨vs, g, _⟩ := s.obj i _ b q hb
    exact ⟨vs, g⟩
theorem sem_isi {T : String} {t : TE} {m : Env' → M D} (h : SemE c W t m) (hT : T ∈ (["int", "bool", "str", "tuple", "list", "dict"] : List String) := by decide) : SemE c W (tCB (rIsiA c.K) (tCons t (tCons (tC (.ty T)) tNil))) (mIsi T m) := by
  intro σ H μ r S Q s e p
  refine h.go s e p fun d S1 μ1 H1 v ex s1 e1 rv p1 => ?_
  cases q : tyN d S1 with
  | none => rw [q] at p1; exact p1.elim
  | some ty =>
    rw [q] at p1
    simp only [] at p1
    cases q2 : isiR ty T with
    | none => rw [q2] at p1; exact p1.elim
    | some b =>
      rw [q2] at p1
      cases hx : isEx d S1 with
      | false => exact .inl ⟨v, .ty T, .type ty, .type T, b, rfl, .ty T, tyX_ok s1 rv q hx, kit_ty q2, p1.fin s1 (.bl b)⟩
      | true =>
        right
        cases rv with
        | @ref i a ha =>
          unfold isEx at hx
          cases q3 : S1[i]? with
          | none => simp only [q3] at hx; cases hx
          | some o =>
            cases o with
            | exn n j =>
              simp only [tyN, q3] at q
              split at q
              · rename_i hd
                cases q
                obtain ⟨cls, dd, ⟨hm, C, rfl, XL⟩, hE, hD⟩ := s1.obj i _ a q3 ha
                have hb : b = false := by
                  have : ∀ T ∈ (["int", "bool", "str", "tuple", "list", "dict"] : List String), isiR "ValueError" T = some false := by decide +kernel
                  rw [this T hT] at q2
                  exact (Option.some.inj q2).symm
                subst hb
                have da : dictAt dd H1 := by
                  unfold DiAt at hD
                  unfold xdOk at hd
                  cases j with
                  | none =>
                    cases q4 : dd with
                    | none => exact .inl rfl
                    | some b => rw [q4] at hD; exact hD.elim
                  | some k =>
                    cases q4 : dd with
                    | none => rw [q4] at hD; exact hD.elim
                    | some bb =>
                      rw [q4] at hD
                      obtain ⟨fs, hfs⟩ := Option.isSome_iff_exists.mp hd
                      obtain ⟨vs, g2⟩ := xd_of s1 hfs hD
                      exact .inr ⟨bb, vs, rfl, g2⟩
                exact ⟨a, _, dd, .ty T, .type T, C, false, rfl, hE, fun u hu => hu, rfl, XL, da, XL.kb T hT, p1.fin s1 (.bl false)⟩
              · cases q
            | _ => simp only [q3] at hx; cases hx
        | _ => cases hx
end


section
variable {c : Gx} {W : WX}
end
def gTp (n : Nat) (f : TgsM) : TgM := fun d r S => match d with | .tup ds => if ds.length = n then f ds r S else .bad | _ => .bad
end CK
end

section
set_option Elab.async false
set_option linter.all false
set_option maxRecDepth 100000
set_option maxHeartbeats 4000000
namespace CK
open PySem PySem.Spec PyProof.Rows L2


def FnHas (P : Program) (w : World) (c : Gx) (base : Heap) (k : Nat) (x : Str) (ps : List Str) (f : List D → M D) : Prop :=
  ∃ a fd, c.mg x = some (.ref a) ∧ PySem.W.keepIn c.K (.ref a) = true ∧ Binds c.K fd ps [] ∧ FnG P w c base k a fd ps f
theorem FnHas.mono {P : Program} {w : World} {c : Gx} {base : Heap} {j k : Nat} {x : Str} {ps : List Str} {f : List D → M D} (h : FnHas P w c base j x ps f) (hjk : j ≤ k) : FnHas P w c base k x ps f :=
  let ⟨a, fd, h1, h2, h3, h4⟩ := h; ⟨a, fd, h1, h2, h3, h4.mono hjk⟩

theorem run_fnG {X : Cx} {W : WX} {c : Gx} {j k : Nat} {f : Addr} {fd : FuncData} {ps : List Str} {g : List D → M D} {pins : List (Addr × Obj)} {σ : L2.St} {H : Hp} {z : Shared} {Q : VK} {us : List Value} {vs : List V} (F : FnG X.prog X.w c X.base k f fd ps g) (hr : RoomG j X.A) (hjk : k ≤ j) (hK : c.K = X.K) (hm : c.mg = X.mg)
    (hb : Binds c.K fd ps []) (tk : L2N.Takes X W) (I : L2.Inv X pins σ H z) (r : Vals vs us) (h : spM c ps.length g vs H Q (WE W σ)) : wpAny (model X.prog X.w) X.A (call (.ref f) us) (EP X pins σ Q) X.xe z := by
  have hlen : (us ++ []).length = ps.length := by rw [List.append_nil, ← r.length]; exact h.1
  have bt := hb z us (by rw [hK]; exact I.kIn) hlen
  rw [List.append_nil] at bt
  have e0 : Env0 X.prog X.w c.K c.mg X.base X.A X.stack z H := by rw [hK, hm]; exact I.env0
  apply wpAny_call
  apply codeAny_mono (F X.A X.stack z H ⟨us, []⟩ us vs Q (WE W σ) (hr.mono hjk) e0 bt r h)
  intro res z2 hz
  match res, hz with
  | .error e, hz => exact L2N.passAt tk σ pins H z e z2 I hz
  | .ok (.ret u), hz => exact I.after hz
  | .ok .next, hz => exact False.elim hz
  | .ok .brk, hz => exact False.elim hz
  | .ok .cont, hz => exact False.elim hz
theorem pe_callM {X : Cx} {W : WX} {c : Gx} {j k : Nat} {x : Str} {ps : List Str} {f : List D → M D} {p pos : Pos} {e : Expr} {es : List Expr} {t : TA} (F : FnHas X.prog X.w c X.base k x ps f) (hr : RoomG j X.A) (tk : L2N.Takes X W) (ha : PA X (e :: es) t)
    (hjk : k ≤ j := by decide) (hg : Gl X x := by rfl) (hK : c.K = X.K := by rfl) (hm : c.mg = X.mg := by rfl)
    (hdb : (x == ("__debug__" : Str)) = false := by decide) (he : starEach (e :: es) X.env = (false, eval e X.env) :: starEach es X.env := by rfl) (hpl : (backTo pos (starEach es X.env)).any (·.1) = false := by rfl) :
    PE X (.Call (.Name x p) (e :: es) [] pos) (tCallS (spM c ps.length f) (WE W) t) := by
  obtain ⟨a, fd, h1, h2, h3, h4⟩ := F
  constructor
  intro pins z σ H Q I h
  apply wpAny_Call_Name_kw (ld_glob I hg (by rw [← hm]; exact h1) ?_ hdb)
  apply PySem.W.callWith_K (h₀ := X.base) I.ok.mod.kin (by rw [← hK]; exact h2) (thn (ha.run pos pins z σ H _ I h) fun us z1 ⟨vs, H1, I1, r, q⟩ => ⟨I1.kIn, run_fnG h4 hr hjk hK hm h3 tk I1 r q⟩) he hpl
theorem fn_has {P : Program} {w : World} {c : Gx} {base : Heap} {x qual : Str} {st : Stmt} {f : Addr} {fd : FuncData} {N ps : List Str} {k : Nat} {m : Env' → M Fl} (F : Fun c.K x qual st f fd) (b : Binds c.K fd ps []) (g : c.mg x = some (.ref f)) (S : FnScope N ps (defScope st))
    (hb : ∀ (cdv : Value) (A : Around) (outer : List Env) (s : Shared) (H : Hp) (E : XK), L2N.Takes (cxOf (L2N.CX P w) P w c.K c.mg base N qual (defScope st) f cdv A outer s H E) (fun cls d _ H => E cls d H) →
      PassesOwn (model P w) (A.deeper (envOfC qual (defScope st) s.heap.objs.size f cdv)) (envOfC qual (defScope st) s.heap.objs.size f cdv) (cxOf (L2N.CX P w) P w c.K c.mg base N qual (defScope st) f cdv A outer s H E).xe →
      RoomG k (A.deeper (envOfC qual (defScope st) s.heap.objs.size f cdv)) →
      ∃ t, PSs (cxOf (L2N.CX P w) P w c.K c.mg base N qual (defScope st) f cdv A outer s H E) (defBody st) t ∧ SemS c (fun cls d _ H => E cls d H) t m) :
    FnHas P w c base (k + 1) x ps (mFn N.length m) := ⟨f, fd, g, F.kp, b, fn_mk F S hb⟩

def DefAt (c : Gx) (x : Str) (st : Stmt) (ps : List Str) : Prop := ∃ f fd, Fun c.K x x st f fd ∧ Binds c.K fd ps [] ∧ c.mg x = some (.ref f)
theorem DefAt.has {P : Program} {w : World} {c : Gx} {base : Heap} {x : Str} {st : Stmt} {N ps : List Str} {k : Nat} {m : Env' → M Fl} (h : DefAt c x st ps) (S : FnScope N ps (defScope st))
    (hb : ∀ (f : Addr) (cdv : Value) (A : Around) (outer : List Env) (s : Shared) (H : Hp) (E : XK), L2N.Takes (cxOf (L2N.CX P w) P w c.K c.mg base N x (defScope st) f cdv A outer s H E) (fun cls d _ H => E cls d H) →
      PassesOwn (model P w) (A.deeper (envOfC x (defScope st) s.heap.objs.size f cdv)) (envOfC x (defScope st) s.heap.objs.size f cdv) (cxOf (L2N.CX P w) P w c.K c.mg base N x (defScope st) f cdv A outer s H E).xe →
      RoomG k (A.deeper (envOfC x (defScope st) s.heap.objs.size f cdv)) →
      ∃ t, PSs (cxOf (L2N.CX P w) P w c.K c.mg base N x (defScope st) f cdv A outer s H E) (defBody st) t ∧ SemS c (fun cls d _ H => E cls d H) t m) :
    FnHas P w c base (k + 1) x ps (mFn N.length m) := by
  obtain ⟨f, fd, F, b, g⟩ := h
  exact fn_has F b g S (hb f)
theorem DefAt.bad {P : Program} {w : World} {c : Gx} {base : Heap} {x : Str} {st : Stmt} {ps : List Str} {k : Nat} {g : List D → M D} (h : DefAt c x st ps) (hg : ∀ ds S, g ds S = .bad) : FnHas P w c base k x ps g := by
  obtain ⟨f, fd, F, b, e⟩ := h
  exact ⟨f, fd, e, F.kp, b, fn_bad hg⟩


def mChain (f g : D → D → M D) (a b d : Env' → M D) : Env' → M D := fun r => mB (a r) fun x => mB (b r) fun y => mB (f x y) fun z => match z.asBl with
  | some k => if k = true then mB (d r) fun w => g y w else mP (.bl false)
  | none => mBad
def mPar (i j : Nat) (a : Env' → M (List D)) : Env' → M Fl := stE a fun ds r S => match ds with
  | [v, w] => .ok (.nx ((r.set i (some v)).set j (some w))) S
  | _ => .bad
def mPar3 (i j l : Nat) (a : Env' → M (List D)) : Env' → M Fl := stE a fun ds r S => match ds with
  | [u, v, w] => .ok (.nx (((r.set i (some u)).set j (some v)).set l (some w))) S
  | _ => .bad
section
variable {c : Gx} {W : WX}
theorem SemA.goS {σ : L2.St} {μ : List Addr} {H : Hp} {r : Env'} {S : Store} {Dn : Ends} {t : TA} {m : Env' → M (List D)} {k : List D → Env' → M Fl} {Q : List V → Hp → Prop} (h : SemA c W t m) (s : SOk c μ H S) (e : EnvR c.K μ H r σ) (p : PostS c W μ H Dn (stE m k r S))
    (q : ∀ d S1 μ1 H1 v, Ex c.K μ H μ1 H1 → SOk c μ1 H1 S1 → EnvR c.K μ1 H1 r σ → RpL c.K μ1 H1 d v → PostS c W μ1 H1 Dn (k d r S1) → Q v H1) : t σ H Q :=
  h σ H μ r S Q s e ((PostS.bind e p).imp fun d _ _ ⟨S1, ok, ex, p1⟩ v rv => q d S1 _ _ v ex ok (e.mono ex) rv p1)
end



theorem law_run {P : Program} {w : World} {c : Gx} {mb : Str → Option Value} {k : Nat} {fa a : Addr} {fd : FuncData} {x : Str} {f : List D → M D} {z : Shared} {vs : List Value} {H : Hp}
    (inK : c.K.In z.heap) (gl : z.heap.Ns mainGlobals c.mg) (bl : z.heap.Ns builtinsNs mb) (bb : ∀ x : Str, x ≠ "__name__" → mb x = bootBuiltins x) (lim : z.heap.NoLimit) (gens : z.gens = #[])
    (there : z.heap.get? a = some { cls := .type "list", data := .seq vs.toArray }) (hr : RoomG k callerA) (F : ∀ base, FnG P w c base k fa fd [x] f) (bind : ∀ (z : Shared) (u : Value), BindsTo z fd ⟨[u], []⟩ [(x, u)])
    (on : Only H) (hok : HOk P w H z.heap) (at_ : ∀ b, H b ≠ none → b = a) (nk : H a ≠ none → c.K.lookup a = none) (sp : spM c 1 f [.ref a] H (fun v _ => v = .bl true) fun _ _ _ => False) :
    codeAny (model P w) callerA (.call (.ref fa) ⟨[.ref a], []⟩) (fun r z2 => r = .ok (.ret (.bool true)) ∧ OldK z.heap z2.heap ∧ z2.os = z.os ∧ AllBare z2.gens) z := by
  have free : ∀ b o es ep, z.heap.get? b = some o → o.data = .dict es ep → H b = none := by
    intro b o es ep h1 h2
    refine Classical.byContradiction fun hn => ?_
    rw [at_ b hn, there] at h1
    cases h1
    cases h2
  have ns : ∀ b m, z.heap.Ns b m → (hidT z.heap H).Ns b m := by
    rintro b m ⟨o, es, ep, h1, h2, h3⟩
    exact ⟨o, es, ep, hidT_get h1 (free b o es ep h1 h2), h2, h3⟩
  have kin : c.K.In (hidT z.heap H) := by
    intro b o h1
    refine hidT_get (inK b o h1) ?_
    refine Classical.byContradiction fun hn => ?_
    have := at_ b hn
    subst this
    rw [nk hn] at h1
    cases h1
  have mo : Mod c.K c.mg (hidT z.heap H) := ⟨kin, ns _ _ gl, ⟨mb, ns _ _ bl, bb⟩, lim.imp fun mc h => ⟨ns _ _ h.1, h.2⟩⟩
  have e0 : Env0 P w c.K c.mg (hidT z.heap H) callerA [] z H :=
    { frames := rfl, mod := mo, bs := fun _ _ h => of_hidT h, bsz := by rw [hidT_size]; exact Nat.le_refl _, funs := trivial, frf := (fun b h => (by cases h)), hok := hok, bare := .of_eq gens }
  apply codeAny_mono (F (hidT z.heap H) callerA [] z H ⟨[.ref a], []⟩ [.ref a] [.ref a] _ _ hr e0 (bind z (.ref a)) (.cons rfl .nil) sp)
  intro res z2 h2
  match res, h2 with
  | .error e, h2 =>
    obtain ⟨_, _, _, _, _, _, _, _, _, _, _, _, q⟩ := h2
    exact q.elim
  | .ok .next, h2 => exact False.elim h2
  | .ok .brk, h2 => exact False.elim h2
  | .ok .cont, h2 => exact False.elim h2
  | .ok (.ret u), h2 =>
    obtain ⟨v, H2, hos, bare, un, hok2, rv, rfl⟩ := h2
    cases (show u = Value.bool true from rv)
    refine ⟨rfl, OldK.of_keep ?_, hos, bare⟩
    intro b o h1
    rcases on b with hn | ⟨ob, xs, hs⟩
    · exact un.keep b o h1 hn (fun h => (by cases h)) (fun h => (by cases h))
    · have t1 := (hok b _ hs).1
      have t2 := (hok2 b _ (un.frzs b ob _ hs)).1
      rw [h1] at t1
      cases t1
      exact t2

theorem law_walk {l : PySem.W.OpenLaw} {n k : Nat} {q : Program} {loose : List Str} {XP : (Str → Option Value) → Heap → Prop} {YP : World → Heap → Prop} {d : DefRec} {K : Params → PySem.W.Frag} {x : Str} {f : List D → M D}
    (hn : l.most = some n) (hn2 : n ≤ sizeLine) (hdf : d.params.defaults = []) (hr : RoomG k callerA) (hY : ∀ (w : World) (h : Heap), YP w h → (K w.params).In h)
    (F : ∀ (w : World) (mg : Str → Option Value) (fa : Addr) (h : Heap), (K w.params).In h → h.Ns mainGlobals mg → mg d.name = some (.ref fa) →
      ∃ fd : FuncData, (∀ (z : Shared) (u : Value), BindsTo z fd ⟨[u], []⟩ [(x, u)]) ∧ ∀ base : Heap, FnG l.prog w (gx (K w.params) mg) base k fa fd [x] f)
    (lt : ∀ ns : List Int, ns.length ≤ n → ∃ S', f [.ref 0] [.fro (ns.map D.int)] = .ok (.bl true) S') : PySem.W.WalkO q loose XP YP l.row.toRowW d [] (fun f vs => PySem.call f vs) := by
  apply Att.attach_call hn hdf
  intro w s₀ z mg mb fa o pm cd doc a vs ns G Y _ _ _ hmg hobj hints hlen hg
  have inK := hY w _ Y
  obtain ⟨fd, hb, hF⟩ := F w mg fa _ inK G.T.g hmg
  have rv := vals_ints hints
  have len := hints.length
  have start : ∀ H : Hp, FrL (K w.params) H a (ns.map V.int) → spM (gx (K w.params) mg) 1 f [.ref a] H (fun v _ => v = .bl true) fun _ _ _ => False := by
    intro H fr
    obtain ⟨S', hS⟩ := lt ns hlen
    refine ⟨rfl, [a], [.fro (ns.map D.int)], [.ref 0], ⟨rfl, ?_, ?_, trivial, fun q hq => by cases hq⟩, .cons (.ref rfl) .nil, ?_⟩
    · intro i o b e1 e2
      match i with
      | 0 => cases e1; cases e2; exact ⟨_, fr, RpL.ints ns⟩
      | i + 1 => cases e1
    · intro i j o u b e1 _ _ _ m1 _
      match i with
      | 0 => cases e1; cases m1
      | i + 1 => cases e1
    · rw [hS]
      intro μ' H' v _ _ r
      cases r
      rfl
  cases hk : (K w.params).lookup a with
  | some ob =>
    have e := inK a ob hk
    rw [hobj] at e
    cases e
    apply law_run (c := (gx (K w.params) mg)) (H := fun _ => none) inK G.T.g G.T.b G.T.builtins G.T.nolimit hg hobj hr hF hb (fun _ => .inl rfl) (fun _ _ e => by cases e) (fun _ h => absurd rfl h) (fun h => absurd rfl h)
    exact start _ (.inr ⟨_, vs.toArray, _, hk, rfl, rfl, rfl, by rw [List.size_toArray, len]; omega, by simpa using rv⟩)
  | none =>
    refine law_run (c := (gx (K w.params) mg)) (H := fun b => if b = a then some (.frz { cls := .type "list", data := .seq vs.toArray } (.lst (ns.map V.int))) else none) inK G.T.g G.T.b G.T.builtins G.T.nolimit hg hobj hr hF hb ?_ ?_ ?_ ?_ ?_
    · intro b
      by_cases h : b = a
      · right; exact ⟨_, _, if_pos h⟩
      · left; exact if_neg h
    · intro b u h
      dsimp only at h
      by_cases hb : b = a
      · subst hb
        rw [if_pos rfl] at h
        cases h
        exact ⟨hobj, by rw [List.length_map]; omega, vs, _, rv, hobj⟩
      · rw [if_neg hb] at h
        cases h
    · intro b h
      refine Classical.byContradiction fun hb => ?_
      exact h (if_neg hb)
    · intro _
      exact hk
    · exact start _ (.inl ⟨_, if_pos rfl⟩)
end CK
end

section
set_option Elab.async false
set_option linter.all false
set_option maxRecDepth 100000
set_option maxHeartbeats 4000000
namespace CK
open PySem PySem.Spec PyProof.Rows L2


@[irreducible] def wp {α : Type} (x : R α) (Q : α → Store → Prop) (E : Exn → Store → Prop) : Prop := match x with
  | .ok a S => Q a S
  | .exc e S => E e S
  | .bad => False
abbrev E0' : Exn → Store → Prop := fun _ _ => False
section
variable {α β : Type} {Q Q' : α → Store → Prop} {E E' : Exn → Store → Prop} {S : Store} {r : Env'}
theorem wp_ok {a : α} : wp (.ok a S) Q E = Q a S := by unfold wp; rfl
theorem wp_bad : wp (.bad : R α) Q E = False := by unfold wp; rfl
theorem wp_mB {m : M α} {f : α → M β} {Q : β → Store → Prop} : wp (mB m f S) Q E = wp (m S) (fun a S' => wp (f a S') Q E) E := by
  unfold mB; cases m S <;> with_unfolding_all rfl
theorem wp_ite {c : Prop} [Decidable c] {x y : R α} : wp (if c then x else y) Q E = if c then wp x Q E else wp y Q E := by split <;> with_unfolding_all rfl
theorem wp_mP {a : α} : wp (mP a S) Q E = Q a S := by with_unfolding_all rfl
theorem wp_mBad : wp (mBad S) Q E = False := by with_unfolding_all rfl
end
section
variable {E : Exn → Store → Prop} {S : Store} {r : Env'} {Q : D → Store → Prop} {QL : List D → Store → Prop} {QB : Bool → Store → Prop} {QF : Fl → Store → Prop} {f : D → D → M D} {a b d : Env' → M D} {as : Env' → M (List D)}
theorem wp_var0 {x : D} : wp (mVar 0 (some x :: r) S) Q E = Q x S := by with_unfolding_all rfl
theorem wp_varS {i : Nat} {x : Option D} : wp (mVar (i + 1) (x :: r) S) Q E = wp (mVar i r S) Q E := by with_unfolding_all rfl
theorem wp_mC {x : D} : wp (mC x r S) Q E = Q x S := by with_unfolding_all rfl
theorem wp_m2 : wp (m2 f a b r S) Q E = wp (a r S) (fun x S1 => wp (b r S1) (fun y S2 => wp (f x y S2) Q E) E) E := by
  unfold m2; rw [wp_mB]; congr 1; funext x S1; rw [wp_mB]
theorem wp_m1 {f : D → M D} : wp (m1 f a r S) Q E = wp (a r S) (fun x S1 => wp (f x S1) Q E) E := by unfold m1; rw [wp_mB]
theorem wp_nil : wp (mNil r S) QL E = QL [] S := by with_unfolding_all rfl
theorem wp_cons : wp (mCons a as r S) QL E = wp (a r S) (fun x S1 => wp (as r S1) (fun xs S2 => QL (x :: xs) S2) E) E := by
  unfold mCons; rw [wp_mB]; congr 1; funext x S1; rw [wp_mB]; with_unfolding_all rfl
theorem wp_args {g : List D → M D} : wp (mArgs g as r S) Q E = wp (as r S) (fun xs S1 => wp (g xs S1) Q E) E := by unfold mArgs; rw [wp_mB]
theorem wp_call {n : Nat} {g : List D → M D} : wp (mCall n g as r S) Q E = wp (as r S) (fun ds S1 => if ds.length = n then wp (g ds S1) Q E else False) E := by
  unfold mCall; rw [wp_mB]; congr 1; funext x S1; split <;> with_unfolding_all rfl
theorem wp_tst : wp (mTst a r S) QB E = wp (a r S) (fun x S1 => ∃ k, x.asBl = some k ∧ QB k S1) E := by
  unfold mTst; rw [wp_mB]; congr 1; funext x S1
  cases x.asBl <;> simp [wp_mP, wp_mBad]
theorem asBl_bl {k : Bool} {P : Bool → Prop} : (∃ j, (D.bl k).asBl = some j ∧ P j) = P k := by
  simp [D.asBl]
variable {t u : Env' → M Bool}
theorem wp_and : wp (mAnd t u r S) QB E = wp (t r S) (fun x S1 => if x = true then wp (u r S1) QB E else QB false S1) E := by
  unfold mAnd; rw [wp_mB]; congr 1; funext x S1; split <;> with_unfolding_all rfl
theorem wp_or : wp (mOr t u r S) QB E = wp (t r S) (fun x S1 => if x = true then QB true S1 else wp (u r S1) QB E) E := by
  unfold mOr; rw [wp_mB]; congr 1; funext x S1; split <;> with_unfolding_all rfl
theorem wp_not : wp (mNot t r S) QB E = wp (t r S) (fun x S1 => QB (!x) S1) E := by unfold mNot; rw [wp_mB]; with_unfolding_all rfl
theorem wp_andV : wp (mAndV a b r S) Q E = wp (mTst a r S) (fun x S1 => if x = true then wp (b r S1) Q E else Q (.bl false) S1) E := by
  unfold mAndV; rw [wp_mB]; congr 1; funext x S1; split <;> with_unfolding_all rfl
theorem wp_orV : wp (mOrV a b r S) Q E = wp (mTst a r S) (fun x S1 => if x = true then Q (.bl true) S1 else wp (b r S1) Q E) E := by
  unfold mOrV; rw [wp_mB]; congr 1; funext x S1; split <;> with_unfolding_all rfl
theorem wp_notV : wp (mNotV a r S) Q E = wp (mTst a r S) (fun x S1 => Q (.bl (!x)) S1) E := by unfold mNotV; rw [wp_mB]; with_unfolding_all rfl
theorem wp_ifE : wp (mIfE t a b r S) Q E = wp (t r S) (fun x S1 => if x = true then wp (a r S1) Q E else wp (b r S1) Q E) E := by
  unfold mIfE; rw [wp_mB]; congr 1; funext x S1; split <;> with_unfolding_all rfl
theorem wp_chain {g : D → D → M D} : wp (mChain f g a b d r S) Q E = wp (a r S) (fun x S1 => wp (b r S1) (fun y S2 => wp (f x y S2) (fun z S3 => ∃ k, z.asBl = some k ∧ if k = true then wp (d r S3) (fun w S4 => wp (g y w S4) Q E) E else Q (.bl false) S3) E) E) E := by
  unfold mChain; rw [wp_mB]; congr 1; funext x S1; rw [wp_mB]; congr 1; funext y S2; rw [wp_mB]; congr 1; funext z S3
  cases z.asBl with
  | none => simp [wp_mBad]
  | some k => cases k <;> simp [wp_mB, wp_mP]

theorem wp_stE {α : Type} {m : Env' → M α} {k : α → Env' → M Fl} : wp (stE m k r S) QF E = wp (m r S) (fun x S1 => wp (k x r S1) QF E) (fun x S1 => QF (.xc x r) S1) := by
  unfold stE; cases m r S <;> with_unfolding_all rfl
theorem wp_nx : wp (mNx r S) QF E = QF (.nx r) S := by with_unfolding_all rfl
theorem wp_brk : wp (mBrk r S) QF E = QF (.bk r) S := by with_unfolding_all rfl
theorem wp_cnt : wp (mCnt r S) QF E = QF (.ct r) S := by with_unfolding_all rfl

def aft (b : Env' → M Fl) (QF : Fl → Store → Prop) (E : Exn → Store → Prop) : Fl → Store → Prop := fun f S => match f with
  | .nx r => wp (b r S) QF E
  | .rt d => QF (.rt d) S
  | .bk r => QF (.bk r) S
  | .ct r => QF (.ct r) S
  | .xc x r => QF (.xc x r) S
theorem wp_seq {x y : Env' → M Fl} : wp (mSeq x y r S) QF E = wp (x r S) (aft y QF E) E0' := by
  unfold mSeq
  cases x r S with
  | ok f S1 => cases f <;> with_unfolding_all rfl
  | exc e S1 => with_unfolding_all rfl
  | bad => with_unfolding_all rfl
theorem aft_nx {b : Env' → M Fl} : aft b QF E (.nx r) S = wp (b r S) QF E := by with_unfolding_all rfl
theorem aft_rt {b : Env' → M Fl} {x : D} : aft b QF E (.rt x) S = QF (.rt x) S := by with_unfolding_all rfl
theorem aft_bk {b : Env' → M Fl} : aft b QF E (.bk r) S = QF (.bk r) S := by with_unfolding_all rfl
theorem aft_ct {b : Env' → M Fl} : aft b QF E (.ct r) S = QF (.ct r) S := by with_unfolding_all rfl
theorem aft_xc {b : Env' → M Fl} {x : Exn} : aft b QF E (.xc x r) S = QF (.xc x r) S := by with_unfolding_all rfl
theorem wp_drop : wp (mDrop a r S) QF E = wp (a r S) (fun _ S1 => QF (.nx r) S1) (fun x S1 => QF (.xc x r) S1) := by unfold mDrop stE; cases a r S <;> with_unfolding_all rfl
theorem wp_ret : wp (mRet a r S) QF E = wp (a r S) (fun d S1 => QF (.rt d) S1) (fun x S1 => QF (.xc x r) S1) := by unfold mRet stE; cases a r S <;> with_unfolding_all rfl
theorem wp_retN : wp (mRetN r S) QF E = QF (.rt .non) S := by with_unfolding_all rfl
theorem wp_if {x y : Env' → M Fl} : wp (mIf t x y r S) QF E = wp (t r S) (fun c S1 => if c = true then wp (x r S1) QF E else wp (y r S1) QF E) (fun x S1 => QF (.xc x r) S1) := by
  unfold mIf; rw [wp_stE]; congr 1; funext c S1; split <;> with_unfolding_all rfl
theorem wp_asg {g : TgM} : wp (mAsg a g r S) QF E = wp (a r S) (fun d S1 => wp (g d r S1) (fun r' S2 => QF (.nx r') S2) (fun x S2 => QF (.xc x r) S2)) (fun x S1 => QF (.xc x r) S1) := by
  have h2 : ∀ d S1, wp (stE (g d) (fun r' _ S => (.ok (.nx r') S : R Fl)) r S1) QF E = wp (g d r S1) (fun r' S2 => QF (.nx r') S2) (fun x S2 => QF (.xc x r) S2) := by
    intro d S1; unfold stE; cases g d r S1 <;> with_unfolding_all rfl
  unfold mAsg
  exact wp_stE.trans (by congr 1; funext d S1; exact h2 d S1)
variable {QE : Env' → Store → Prop}
theorem wp_gNm {i : Nat} {x : D} : wp (gNm i x r S) QE E = QE (r.set i (some x)) S := by with_unfolding_all rfl
theorem wp_gTp {n : Nat} {gs : TgsM} {xs : List D} : wp (gTp n gs (.tup xs) r S) QE E = if xs.length = n then wp (gs xs r S) QE E else False := by
  show wp (if xs.length = n then gs xs r S else .bad) QE E = _
  rw [wp_ite]; with_unfolding_all rfl
theorem wp_gsNil : wp (gsNil [] r S) QE E = QE r S := by with_unfolding_all rfl
theorem wp_gsCons {i : Nat} {gs : TgsM} {x : D} {xs : List D} : wp (gsCons (gNm i) gs (x :: xs) r S) QE E = wp (gs xs (r.set i (some x)) S) QE E := by with_unfolding_all rfl
theorem wp_gSub {g : D → D → D → M Unit} {x : D} : wp (gSubM a b g x r S) QE E = wp (a r S) (fun o S1 => wp (b r S1) (fun i S2 => wp (g o i x S2) (fun _ S3 => QE r S3) E) E) E := by
  unfold gSubM; rw [wp_mB]; congr 1; funext o S1; rw [wp_mB]; congr 1; funext i S2; rw [wp_mB]; with_unfolding_all rfl
theorem wp_par {i j : Nat} : wp (mPar i j as r S) QF E = wp (as r S) (fun ds S1 => match ds with | [v, w] => QF (.nx ((r.set i (some v)).set j (some w))) S1 | _ => False) (fun x S1 => QF (.xc x r) S1) := by
  unfold mPar stE
  cases as r S with
  | ok ds S1 =>
    match ds with
    | [] => with_unfolding_all rfl
    | [_] => with_unfolding_all rfl
    | [_, _] => with_unfolding_all rfl
    | _ :: _ :: _ :: _ => with_unfolding_all rfl
  | exc e S1 => with_unfolding_all rfl
  | bad => with_unfolding_all rfl
theorem wp_par3 {i j l : Nat} : wp (mPar3 i j l as r S) QF E = wp (as r S) (fun ds S1 => match ds with | [u, v, w] => QF (.nx (((r.set i (some u)).set j (some v)).set l (some w))) S1 | _ => False) (fun x S1 => QF (.xc x r) S1) := by
  unfold mPar3 stE
  cases as r S with
  | ok ds S1 =>
    match ds with
    | [] => with_unfolding_all rfl
    | [_] => with_unfolding_all rfl
    | [_, _] => with_unfolding_all rfl
    | [_, _, _] => with_unfolding_all rfl
    | _ :: _ :: _ :: _ :: _ => with_unfolding_all rfl
  | exc e S1 => with_unfolding_all rfl
  | bad => with_unfolding_all rfl

def fin (Q : D → Store → Prop) (E : Exn → Store → Prop) : Fl → Store → Prop := fun f S => match f with
  | .rt d => Q d S
  | .nx _ => Q .non S
  | .xc x _ => E x S
  | _ => False
theorem wp_fn {n : Nat} {b : Env' → M Fl} {ds : List D} : wp (mFn n b ds S) Q E = wp (b (ds.map some ++ List.replicate (n - ds.length) none) S) (fin Q E) E0' := by
  unfold mFn
  cases b (ds.map some ++ List.replicate (n - ds.length) none) S with
  | ok f S1 => cases f <;> with_unfolding_all rfl
  | exc e S1 => with_unfolding_all rfl
  | bad => with_unfolding_all rfl
theorem fin_rt {x : D} : fin Q E (.rt x) S = Q x S := by with_unfolding_all rfl
theorem fin_nx : fin Q E (.nx r) S = Q .non S := by with_unfolding_all rfl
theorem fin_xc {x : Exn} : fin Q E (.xc x r) S = E x S := by with_unfolding_all rfl
theorem fin_bk : fin Q E (.bk r) S = False := by with_unfolding_all rfl
theorem fin_ct : fin Q E (.ct r) S = False := by with_unfolding_all rfl

variable {i j : Int} {xs ys : List D}
theorem wp_i0 {g : Int → Int → D} : wp (iOp0 g (.int i) (.int j) S) Q E = Q (g i j) S := by with_unfolding_all rfl
theorem wp_iC {C : Int → Int → Prop} [∀ i j, Decidable (C i j)] {g : Int → Int → D} : wp (iOp C g (.int i) (.int j) S) Q E = (C i j ∧ Q (g i j) S) := by
  show wp (if C i j then .ok (g i j) S else .bad) Q E = _
  by_cases h : C i j <;> simp [h, wp_ok, wp_bad]
theorem wp_addI : wp (addM (.int i) (.int j) S) Q E = Q (.int (i + j)) S := by with_unfolding_all rfl
theorem wp_addT : wp (addM (.tup xs) (.tup ys) S) Q E = (xs.length + ys.length ≤ sizeLine ∧ Q (.tup (xs ++ ys)) S) := by
  show wp (if xs.length + ys.length ≤ sizeLine then .ok (.tup (xs ++ ys)) S else .bad) Q E = _
  by_cases h : xs.length + ys.length ≤ sizeLine <;> simp [h, wp_ok, wp_bad]
theorem wp_mulI : wp (mulM (.int i) (.int j) S) Q E = (CMulX i j ∧ Q (.int (i * j)) S) := by
  show wp (if CMulX i j then .ok (.int (i * j)) S else .bad) Q E = _
  by_cases h : CMulX i j <;> simp [h, wp_ok, wp_bad]
theorem wp_neg : wp (negM (.int i) S) Q E = Q (.int (-i)) S := by with_unfolding_all rfl
theorem wp_tup : wp (tupM xs S) Q E = (xs.length ≤ sizeLine ∧ Q (.tup xs) S) := by
  show wp (if xs.length ≤ sizeLine then .ok (.tup xs) S else .bad) Q E = _
  by_cases h : xs.length ≤ sizeLine <;> simp [h, wp_ok, wp_bad]
theorem wp_lst : wp (lstM xs S) Q E = (xs.length ≤ sizeLine ∧ Q (.ref S.length) (S ++ [.lst xs])) := by
  show wp (if xs.length ≤ sizeLine then .ok (.ref S.length) (S ++ [.lst xs]) else .bad) Q E = _
  by_cases h : xs.length ≤ sizeLine <;> simp [h, wp_ok, wp_bad]
theorem wp_ixT : wp (ixM (.tup xs) (.int i) S) Q E = ∃ x, atI xs i = some x ∧ Q x S := by
  show wp (match atI xs i with | some x => .ok x S | none => .bad) Q E = _
  cases h : atI xs i <;> simp [wp_ok, wp_bad]
theorem wp_ixL {k : Nat} : wp (ixM (.ref k) (.int i) S) Q E = ∃ zs x, lsAt S k = some zs ∧ atI zs i = some x ∧ Q x S := by
  show wp (match lsAt S k with | some zs => (match atI zs i with | some x => .ok x S | none => .bad) | none => .bad) Q E = _
  cases h : lsAt S k with
  | none => simp [wp_bad]
  | some zs => cases h2 : atI zs i <;> simp [wp_ok, wp_bad, h2]
theorem wp_eq {x y : D} : wp (eqM x y S) Q E = ∃ u v, pyD S x = some u ∧ pyD S y = some v ∧ Q (.bl (PyData.eqv u v)) S := by
  unfold eqM
  cases h : pyD S x with
  | none => simp [wp_bad]
  | some u => cases h2 : pyD S y <;> simp [wp_ok, wp_bad]
theorem wp_ne {x y : D} : wp (neM x y S) Q E = ∃ u v, pyD S x = some u ∧ pyD S y = some v ∧ Q (.bl (!PyData.eqv u v)) S := by
  unfold neM
  cases h : pyD S x with
  | none => simp [wp_bad]
  | some u => cases h2 : pyD S y <;> simp [wp_ok, wp_bad]
theorem py_int : pyD S (.int i) = some (.int i) := by with_unfolding_all rfl
theorem py_bl {k : Bool} : pyD S (.bl k) = some (.bool k) := by with_unfolding_all rfl
theorem eq_int : PyData.eqv (.int i) (.int j) = (i == j) := by simp only [PyData.eqv]
theorem eq_bl {k l : Bool} : PyData.eqv (.bool k) (.bool l) = (k == l) := by simp only [PyData.eqv]
theorem wp_eqI : wp (eqM (.int i) (.int j) S) Q E = Q (.bl (i == j)) S := by rw [wp_eq]; simp [py_int, eq_int]
theorem wp_neI : wp (neM (.int i) (.int j) S) Q E = Q (.bl (!(i == j))) S := by rw [wp_ne]; simp [py_int, eq_int]
theorem wp_eqB {k l : Bool} : wp (eqM (.bl k) (.bl l) S) Q E = Q (.bl (k == l)) S := by rw [wp_eq]; simp [py_bl, eq_bl]
theorem wp_neB {k l : Bool} : wp (neM (.bl k) (.bl l) S) Q E = Q (.bl (!(k == l))) S := by rw [wp_ne]; simp [py_bl, eq_bl]
theorem wp_setL {k : Nat} {v : D} {QU : Unit → Store → Prop} : wp (setM (.ref k) (.int i) v S) QU E = ∃ zs j, lstO S[k]? = some zs ∧ ixN zs.length i = some j ∧ QU () (S.set k (.lst (zs.set j v))) := by
  show wp (match lstO S[k]? with | some xs => (match ixN xs.length i with | some j => .ok () (S.set k (.lst (xs.set j v))) | none => .bad) | none => .bad) QU E = _
  cases h : lstO S[k]? with
  | none => simp [wp_bad]
  | some zs => cases h2 : ixN zs.length i <;> simp [wp_ok, wp_bad, h2]
theorem at0 {α : Type} {x : α} {r : List α} : atI (x :: r) 0 = some x := atI_nat (j := 0) rfl
theorem at1 {α : Type} {x y : α} {r : List α} : atI (x :: y :: r) 1 = some y := atI_nat (j := 1) rfl
theorem at2 {α : Type} {x y z : α} {r : List α} : atI (x :: y :: z :: r) 2 = some z := atI_nat (j := 2) rfl
theorem wp_abs : wp (absM [.int i] S) Q E = Q (.int (if i < 0 then -i else i)) S := by with_unfolding_all rfl
theorem wp_intI : wp (intM [.int i] S) Q E = Q (.int i) S := by with_unfolding_all rfl
theorem wp_intB {k : Bool} : wp (intM [.bl k] S) Q E = Q (.int (if k then 1 else 0)) S := by with_unfolding_all rfl
theorem wp_max2 : wp (maxM [.int i, .int j] S) Q E = Q (.int (if j > i then j else i)) S := by with_unfolding_all rfl
theorem wp_min2 : wp (minM [.int i, .int j] S) Q E = Q (.int (if j < i then j else i)) S := by with_unfolding_all rfl
theorem wp_lenT : wp (lenM [.tup xs] S) Q E = Q (.int xs.length) S := by with_unfolding_all rfl
theorem lsO_lst : lsO (some (.lst xs)) = some xs := by with_unfolding_all rfl
theorem lsO_fro : lsO (some (.fro xs)) = some xs := by with_unfolding_all rfl
theorem lstO_lst : lstO (some (.lst xs)) = some xs := by with_unfolding_all rfl
def lenO : Option O → Option Nat
  | some (.lst xs) => some xs.length
  | some (.fro xs) => some xs.length
  | some (.dK xs) => some xs.length
  | _ => none
theorem lenO_lst : lenO (some (.lst xs)) = some xs.length := by with_unfolding_all rfl
theorem lenO_fro : lenO (some (.fro xs)) = some xs.length := by with_unfolding_all rfl
theorem lenO_dK {kvs : List (Key × D)} : lenO (some (.dK kvs)) = some kvs.length := by with_unfolding_all rfl
theorem wp_lenR {k : Nat} : wp (lenM [.ref k] S) Q E = ∃ n, lenO S[k]? = some n ∧ Q (.int (n : Nat)) S := by
  unfold lenM
  cases q : S[k]? with
  | none => simp [q, wp_bad, lenO]
  | some o => cases o <;> simp [q, wp_ok, wp_bad, lenO]
theorem wp_isi {T : String} : wp (mIsi T a r S) Q E = wp (a r S) (fun d S1 => ∃ t k, tyN d S1 = some t ∧ isiR t T = some k ∧ Q (.bl k) S1) E := by
  unfold mIsi; rw [wp_mB]; congr 1; funext d S1
  cases h : tyN d S1 with
  | none => simp [wp_bad]
  | some t =>
    cases h2 : isiR t T with
    | none => simp [wp_bad, h2]
    | some k => cases k <;> simp [wp_ok, h2]
end
theorem isi_ii : isiR "int" "int" = some true := by decide +kernel
theorem isi_ib : isiR "int" "bool" = some false := by decide +kernel
theorem isi_bi : isiR "bool" "int" = some true := by decide +kernel
theorem isi_bb : isiR "bool" "bool" = some true := by decide +kernel
end CK
end

section
set_option Elab.async false
set_option linter.all false
set_option maxRecDepth 100000
set_option maxHeartbeats 4000000
namespace CK
open PySem PySem.Spec PyProof.Rows L2



def lp (QF : Fl → Store → Prop) (I : Env' → Store → Prop) : Fl → Store → Prop := fun f S => match f with
  | .nx r => I r S
  | .ct r => I r S
  | .bk r => QF (.nx r) S
  | .rt d => QF (.rt d) S
  | .xc e r => QF (.xc e r) S
section
variable {QF : Fl → Store → Prop} {E : Exn → Store → Prop} {S : Store} {r : Env'} {I : Env' → Store → Prop} {g : TgM} {b : Env' → M Fl} {t : Env' → M Bool} {src : Src}
theorem lp_nx : lp QF I (.nx r) S = I r S := rfl
theorem lp_ct : lp QF I (.ct r) S = I r S := rfl
theorem lp_bk : lp QF I (.bk r) S = QF (.nx r) S := rfl
theorem lp_rt {d : D} : lp QF I (.rt d) S = QF (.rt d) S := rfl
theorem lp_xc {e : Exn} : lp QF I (.xc e r) S = QF (.xc e r) S := rfl
theorem wp_for {ms : Env' → M Src} : wp (mFor ms g b r S) QF E = wp (ms r S) (fun src S1 => wp (mFo src g b FU 0 r S1) QF E) (fun x S1 => QF (.xc x r) S1) := by
  unfold mFor; rw [wp_stE]
end


section
variable {E : Exn → Store → Prop} {S : Store} {r : Env'} {Q : D → Store → Prop} {as : Env' → M (List D)} {a : Env' → M D} {k : Nat} {y : D}
theorem wp_ML {f : D → List D → M D} : wp (mML f a as r S) Q E = wp (a r S) (fun x S1 => isLs x S1 = true ∧ wp (as r S1) (fun xs S2 => wp (f x xs S2) Q E) E) E := by
  unfold mML; rw [wp_mB]; congr 1; funext x S1
  by_cases h : isLs x S1 = true
  · rw [if_pos h, wp_mB]; simp [h]
  · rw [if_neg h]; simp [h, wp_bad]
theorem wp_ML0 {f : D → List D → M D} : wp (mML0 f a r S) Q E = wp (a r S) (fun x S1 => isLs x S1 = true ∧ wp (f x [] S1) Q E) E := by
  unfold mML0; rw [wp_mB]; congr 1; funext x S1
  by_cases h : isLs x S1 = true
  · rw [if_pos h]; simp [h]
  · rw [if_neg h]; simp [h, wp_bad]
theorem isLs_ref : isLs (.ref k) S = (lsO S[k]?).isSome := rfl
theorem wp_lsUpd {f : List D → Option (D × List D)} : wp (lsUpd (.ref k) f S) Q E = ∃ xs y ys, lstO S[k]? = some xs ∧ f xs = some (y, ys) ∧ Q y (S.set k (.lst ys)) := by
  show wp (match lstO S[k]? with | some xs => (match f xs with | some (y, ys) => .ok y (S.set k (.lst ys)) | none => .bad) | none => .bad) Q E = _
  cases h : lstO S[k]? with
  | none => simp [wp_bad]
  | some xs =>
    cases h2 : f xs with
    | none => simp [wp_bad, h2]
    | some z =>
      obtain ⟨y, ys⟩ := z
      simp only [h2, wp_ok]
      exact propext ⟨fun q => ⟨xs, y, ys, rfl, h2, q⟩, fun ⟨_, _, _, e1, e2, q⟩ => by cases e1; rw [h2] at e2; cases e2; exact q⟩
theorem wp_append : wp (appendM (.ref k) [y] S) Q E = ∃ xs, lstO S[k]? = some xs ∧ xs.length < sizeLine ∧ Q .non (S.set k (.lst (xs ++ [y]))) := by
  show wp (lsUpd (.ref k) _ S) Q E = _
  rw [wp_lsUpd]
  apply propext
  constructor
  · rintro ⟨xs, z, zs, h1, h2, h3⟩
    split at h2
    · rename_i hl; cases h2; exact ⟨xs, h1, hl, h3⟩
    · cases h2
  · rintro ⟨xs, h1, h2, h3⟩
    exact ⟨xs, .non, xs ++ [y], h1, by rw [if_pos h2], h3⟩
theorem wp_pop : wp (popM (.ref k) [] S) Q E = ∃ xs y, lstO S[k]? = some xs ∧ xs[xs.length - 1]? = some y ∧ Q y (S.set k (.lst xs.dropLast)) := by
  show wp (lsUpd (.ref k) _ S) Q E = _
  rw [wp_lsUpd]
  apply propext
  constructor
  · rintro ⟨xs, z, zs, h1, h2, h3⟩
    split at h2
    · rename_i y hy; cases h2; exact ⟨xs, _, h1, hy, h3⟩
    · cases h2
  · rintro ⟨xs, y, h1, h2, h3⟩
    exact ⟨xs, y, xs.dropLast, h1, by rw [h2], h3⟩
theorem wp_tupleR : wp (tupleM [.ref k] S) Q E = ∃ xs, lsO S[k]? = some xs ∧ Q (.tup xs) S := by
  show wp (match lsAt S k with | some xs => .ok (.tup xs) S | none => .bad) Q E = _
  unfold lsAt
  cases h : lsO S[k]? <;> simp [wp_ok, wp_bad]
theorem wp_tupleT {xs : List D} : wp (tupleM [.tup xs] S) Q E = Q (.tup xs) S := by with_unfolding_all rfl
theorem wp_listR : wp (listM [.ref k] S) Q E = ∃ xs, lsO S[k]? = some xs ∧ Q (.ref S.length) (S ++ [.lst xs]) := by
  show wp (match lsAt S k with | some xs => .ok (.ref S.length) (S ++ [.lst xs]) | none => .bad) Q E = _
  unfold lsAt
  cases h : lsO S[k]? <;> simp [wp_ok, wp_bad]
theorem wp_listT {xs : List D} : wp (listM [.tup xs] S) Q E = Q (.ref S.length) (S ++ [.lst xs]) := by with_unfolding_all rfl
theorem wp_ofList {α : Type} {f : List D → Option α} {g : α → M D} : wp (ofList f g [.ref k] S) Q E = ∃ xs a, lsO S[k]? = some xs ∧ f xs = some a ∧ wp (g a S) Q E := by
  show wp (match lsAt S k with | some xs => (match f xs with | some a => g a S | none => .bad) | none => .bad) Q E = _
  unfold lsAt
  cases h : lsO S[k]? with
  | none => simp [wp_bad]
  | some xs => cases h2 : f xs <;> simp [wp_bad, h2]
theorem wp_all : wp (allM [.ref k] S) Q E = ∃ xs bs, lsO S[k]? = some xs ∧ asBls xs = some bs ∧ Q (.bl (bs.all id)) S := by
  unfold allM; rw [wp_ofList]; with_unfolding_all rfl
theorem wp_any : wp (anyM [.ref k] S) Q E = ∃ xs bs, lsO S[k]? = some xs ∧ asBls xs = some bs ∧ Q (.bl (bs.any id)) S := by
  unfold anyM; rw [wp_ofList]; with_unfolding_all rfl
theorem wp_sum : wp (sumM [.ref k] S) Q E = ∃ xs ns, lsO S[k]? = some xs ∧ asInts xs = some ns ∧ Q (.int ns.sum) S := by
  unfold sumM; rw [wp_ofList]; with_unfolding_all rfl
theorem wp_notB {b c : Bool} : wp (notM (.bl b) (.bl c) S) Q E = Q (.bl (!decide (b = c))) S := by with_unfolding_all rfl
theorem wp_isB {b c : Bool} : wp (isM (.bl b) (.bl c) S) Q E = Q (.bl (decide (b = c))) S := by with_unfolding_all rfl
theorem wp_isN : wp (isM y .non S) Q E = Q (.bl (match y with | .non => true | _ => false)) S := by with_unfolding_all rfl
theorem wp_notN : wp (notM y .non S) Q E = Q (.bl (match y with | .non => false | _ => true)) S := by with_unfolding_all rfl
end


section
variable {E : Exn → Store → Prop} {S : Store} {r : Env'} {Q : Src → Store → Prop} {as : Env' → M (List D)} {a : Env' → M D}
theorem wp_rng1 : wp (mRng1 as r S) Q E = wp (as r S) (fun ds S1 => ∃ j, ds = [.int j] ∧ okR j ∧ Q (srcR 0 j.toNat) S1) E := by
  unfold mRng1; rw [wp_mB]; congr 1; funext ds S1
  split
  · rename_i j; by_cases h : okR j <;> simp [h, wp_ok, wp_bad]
  · rename_i h; simp [wp_bad]; intro j e; exact absurd e (h j)
theorem wp_rng2 : wp (mRng2 as r S) Q E = wp (as r S) (fun ds S1 => ∃ i j, ds = [.int i, .int j] ∧ okR i ∧ okR j ∧ Q (srcR i (j - i).toNat) S1) E := by
  unfold mRng2; rw [wp_mB]; congr 1; funext ds S1
  split
  · rename_i i j
    by_cases h : okR i ∧ okR j
    · rw [if_pos h, wp_ok]
      exact propext ⟨fun q => ⟨i, j, rfl, h.1, h.2, q⟩, fun ⟨i', j', e, _, _, q⟩ => by cases e; exact q⟩
    · rw [if_neg h, wp_bad]
      exact propext ⟨fun q => q.elim, fun ⟨i', j', e, h1, h2, _⟩ => by cases e; exact h ⟨h1, h2⟩⟩
  · rename_i h; simp [wp_bad]; intro i j e; exact absurd e (h i j)
theorem wp_rng3 : wp (mRng3 as r S) Q E = wp (as r S) (fun ds S1 => ∃ i j, ds = [.int i, .int j, .int (-1)] ∧ okR i ∧ okR j ∧ Q (srcC i (-1) (i - j).toNat) S1) E := by
  unfold mRng3; rw [wp_mB]; congr 1; funext ds S1
  split
  · rename_i i j
    by_cases h : okR i ∧ okR j
    · rw [if_pos h, wp_ok]
      exact propext ⟨fun q => ⟨i, j, rfl, h.1, h.2, q⟩, fun ⟨i', j', e, _, _, q⟩ => by cases e; exact q⟩
    · rw [if_neg h, wp_bad]
      exact propext ⟨fun q => q.elim, fun ⟨i', j', e, h1, h2, _⟩ => by cases e; exact h ⟨h1, h2⟩⟩
  · rename_i h; simp [wp_bad]; intro i j e; exact absurd e (h i j)
theorem wp_src : wp (mSrc a r S) Q E = wp (a r S) (fun d S1 => (∃ xs, d = .tup xs ∧ Q (srcT xs) S1) ∨ ∃ k xs, d = .ref k ∧ lsAt S1 k = some xs ∧ Q (srcL k) S1) E := by
  unfold mSrc; rw [wp_mB]; congr 1; funext d S1
  cases d with
  | tup xs => simp [wp_ok]
  | ref k => cases h : lsAt S1 k <;> simp [wp_ok, wp_bad, h]
  | _ => simp [wp_bad]
end


section
variable {E : Exn → Store → Prop} {S : Store} {r : Env'} {Q : D → Store → Prop} {QU : Unit → Store → Prop} {ms : Env' → M Src} {g : TgM} {mt : Env' → M Bool} {me : Env' → M D} {vs : List Nat} {src : Src} {p : Nat}
theorem wp_lc : wp (mLc ms g mt me vs r S) Q E = wp (ms r S) (fun src S1 => wp (lcGo src g mt me S1.length (wipeE r vs) FU 0 (S1 ++ [.lst []])) (fun _ S2 => Q (.ref S1.length) S2) E0') E := by
  unfold mLc; rw [wp_mB]; congr 1; funext src S1
  split
  · rename_i h; rw [h]; with_unfolding_all rfl
  · rename_i h
    cases q : lcGo src g mt me S1.length (wipeE r vs) FU 0 (S1 ++ [.lst []]) with
    | ok a S2 => exact absurd q (h a S2)
    | exc e S2 => with_unfolding_all rfl
    | bad => with_unfolding_all rfl
theorem wp_yes {QB : Bool → Store → Prop} : wp (mYes r S) QB E = QB true S := by with_unfolding_all rfl

end
theorem sz0 : (0 ≤ sizeLine) = True := eq_true (by rw [sizeLine_eq]; omega)
theorem sz1 : (1 ≤ sizeLine) = True := eq_true (by rw [sizeLine_eq]; omega)
theorem sz2 : (2 ≤ sizeLine) = True := eq_true (by rw [sizeLine_eq]; omega)
theorem sz3 : (3 ≤ sizeLine) = True := eq_true (by rw [sizeLine_eq]; omega)
theorem sz4 : (4 ≤ sizeLine) = True := eq_true (by rw [sizeLine_eq]; omega)
theorem sz5 : (5 ≤ sizeLine) = True := eq_true (by rw [sizeLine_eq]; omega)
theorem sz6 : (6 ≤ sizeLine) = True := eq_true (by rw [sizeLine_eq]; omega)
theorem sz7 : (7 ≤ sizeLine) = True := eq_true (by rw [sizeLine_eq]; omega)
theorem sz8 : (8 ≤ sizeLine) = True := eq_true (by rw [sizeLine_eq]; omega)
end CK
end

section
set_option Elab.async false
set_option linter.all false
set_option maxRecDepth 100000
set_option maxHeartbeats 4000000
namespace CK
open PySem PySem.Spec PyProof.Rows L2
theorem isi_nb : isiR "NoneType" "bool" = some false := by decide +kernel
theorem isi_ni : isiR "NoneType" "int" = some false := by decide +kernel
theorem isi_ns : isiR "NoneType" "str" = some false := by decide +kernel
theorem isi_nt : isiR "NoneType" "tuple" = some false := by decide +kernel
theorem isi_nl : isiR "NoneType" "list" = some false := by decide +kernel
theorem isi_nd : isiR "NoneType" "dict" = some false := by decide +kernel
theorem isi_bs : isiR "bool" "str" = some false := by decide +kernel
theorem isi_bt : isiR "bool" "tuple" = some false := by decide +kernel
theorem isi_bl : isiR "bool" "list" = some false := by decide +kernel
theorem isi_bd : isiR "bool" "dict" = some false := by decide +kernel
theorem isi_is : isiR "int" "str" = some false := by decide +kernel
theorem isi_it : isiR "int" "tuple" = some false := by decide +kernel
theorem isi_il : isiR "int" "list" = some false := by decide +kernel
theorem isi_id : isiR "int" "dict" = some false := by decide +kernel
theorem isi_sb : isiR "str" "bool" = some false := by decide +kernel
theorem isi_si : isiR "str" "int" = some false := by decide +kernel
theorem isi_ss : isiR "str" "str" = some true := by decide +kernel
theorem isi_st : isiR "str" "tuple" = some false := by decide +kernel
theorem isi_sl : isiR "str" "list" = some false := by decide +kernel
theorem isi_sd : isiR "str" "dict" = some false := by decide +kernel
theorem isi_tb : isiR "tuple" "bool" = some false := by decide +kernel
theorem isi_ti : isiR "tuple" "int" = some false := by decide +kernel
theorem isi_ts : isiR "tuple" "str" = some false := by decide +kernel
theorem isi_tt : isiR "tuple" "tuple" = some true := by decide +kernel
theorem isi_tl : isiR "tuple" "list" = some false := by decide +kernel
theorem isi_td : isiR "tuple" "dict" = some false := by decide +kernel
theorem isi_lb : isiR "list" "bool" = some false := by decide +kernel
theorem isi_li : isiR "list" "int" = some false := by decide +kernel
theorem isi_ls : isiR "list" "str" = some false := by decide +kernel
theorem isi_lt : isiR "list" "tuple" = some false := by decide +kernel
theorem isi_ll : isiR "list" "list" = some true := by decide +kernel
theorem isi_ld : isiR "list" "dict" = some false := by decide +kernel
theorem isi_db : isiR "dict" "bool" = some false := by decide +kernel
theorem isi_di : isiR "dict" "int" = some false := by decide +kernel
theorem isi_ds : isiR "dict" "str" = some false := by decide +kernel
theorem isi_dt : isiR "dict" "tuple" = some false := by decide +kernel
theorem isi_dl : isiR "dict" "list" = some false := by decide +kernel
theorem isi_dd : isiR "dict" "dict" = some true := by decide +kernel
section
variable {E : Exn → Store → Prop} {S : Store} {Q : D → Store → Prop} {xs : List D} {j : Int}
theorem wp_mulT : wp (mulM (.tup xs) (.int j) S) Q E = (xs ≠ [] ∧ 2 ≤ j ∧ j ≤ 1000 ∧ xs.length ≤ 1000 ∧ Q (.tup (List.replicate j.toNat xs).flatten) S) := by
  show wp (if xs ≠ [] ∧ 2 ≤ j ∧ j ≤ 1000 ∧ xs.length ≤ 1000 then .ok (.tup (List.replicate j.toNat xs).flatten) S else .bad) Q E = _
  by_cases h : xs ≠ [] ∧ 2 ≤ j ∧ j ≤ 1000 ∧ xs.length ≤ 1000
  · rw [if_pos h, wp_ok]; exact propext ⟨fun q => ⟨h.1, h.2.1, h.2.2.1, h.2.2.2, q⟩, fun q => q.2.2.2.2⟩
  · rw [if_neg h, wp_bad]; exact propext ⟨fun q => q.elim, fun q => h ⟨q.1, q.2.1, q.2.2.1, q.2.2.2.1⟩⟩
theorem wp_slice {o : Env' → M D} {l h : Env' → M (Option Int)} {r : Env'} : wp (mSlice o l h r S) Q E = wp (o r S) (fun d S1 => wp (l r S1) (fun lo S2 => wp (h r S2) (fun hi S3 => wp (slM d lo hi S3) Q E) E) E) E := by
  unfold mSlice; rw [wp_mB]; congr 1; funext x S1; rw [wp_mB]; congr 1; funext x S1; rw [wp_mB]
theorem wp_noPart {r : Env'} {QO : Option Int → Store → Prop} : wp (mNoPart r S) QO E = QO none S := by with_unfolding_all rfl
end
section
variable {α : Type} {xs : List α}
end
section
variable {E : Exn → Store → Prop} {S : Store} {Q : D → Store → Prop} {xs : List D} {lo hi : Option Int}
theorem wp_slT : wp (slM (.tup xs) lo hi S) Q E = Q (.tup (cutD xs lo hi)) S := by with_unfolding_all rfl
theorem wp_slL {k : Nat} : wp (slM (.ref k) lo hi S) Q E = ∃ xs, lsAt S k = some xs ∧ Q (.ref S.length) (S ++ [.lst (cutD xs lo hi)]) := by
  show wp (match lsAt S k with | some xs => .ok (.ref S.length) (S ++ [.lst (cutD xs lo hi)]) | none => .bad) Q E = _
  cases h : lsAt S k <;> simp [wp_ok, wp_bad]
theorem wp_part {m : Env' → M D} {r : Env'} {QO : Option Int → Store → Prop} : wp (mPart m r S) QO E = wp (m r S) (fun d S1 => ∃ i, d.asInt = some i ∧ QO (some i) S1) E := by
  unfold mPart; rw [wp_mB]; congr 1; funext d S1
  cases h : d.asInt <;> simp [wp_ok, wp_bad]
theorem asInt_int {i : Int} {P : Int → Prop} : (∃ j, (D.int i).asInt = some j ∧ P j) = P i := by simp [D.asInt]
end
section
variable {E : Exn → Store → Prop} {S : Store} {Q : D → Store → Prop} {k j : Nat}
theorem wp_extend : wp (extendM (.ref k) [.ref j] S) Q E = ∃ zs, lstO S[j]? = some zs ∧ ∃ xs, lstO S[k]? = some xs ∧ xs.length + zs.length ≤ sizeLine ∧ Q .non (S.set k (.lst (xs ++ zs))) := by
  show wp (match lstO S[j]? with | some zs => lsUpd (.ref k) (fun xs => if xs.length + zs.length ≤ sizeLine then some (.non, xs ++ zs) else none) S | none => .bad) Q E = _
  cases h : lstO S[j]? with
  | none => simp [wp_bad]
  | some zs =>
    simp only [Option.some.injEq, exists_eq_left', wp_lsUpd]
    apply propext
    constructor
    · rintro ⟨xs, z, zs', h1, h2, h3⟩
      split at h2
      · rename_i hl; cases h2; exact ⟨xs, h1, hl, h3⟩
      · cases h2
    · rintro ⟨xs, h1, h2, h3⟩
      exact ⟨xs, .non, xs ++ zs, h1, by rw [if_pos h2], h3⟩
theorem wp_revL {o : Env' → M D} {r : Env'} : wp (mRevL o r S) Q E = wp (o r S) (fun d S1 => ∃ k, d = .ref k ∧ ∃ xs, lsAt S1 k = some xs ∧ Q (.ref S1.length) (S1 ++ [.lst xs.reverse])) E := by
  unfold mRevL; rw [wp_mB]; congr 1; funext d S1
  cases d with
  | ref k => cases h : lsAt S1 k <;> simp [wp_ok, wp_bad, h]
  | _ => simp [wp_bad]
end
theorem cpt2 : CPowX 10 2 = True := eq_true (by decide +kernel)
theorem cpt3 : CPowX 10 3 = True := eq_true (by decide +kernel)
theorem cpt4 : CPowX 10 4 = True := eq_true (by decide +kernel)
theorem cpt5 : CPowX 10 5 = True := eq_true (by decide +kernel)
theorem cpt6 : CPowX 10 6 = True := eq_true (by decide +kernel)
theorem cpt7 : CPowX 10 7 = True := eq_true (by decide +kernel)
theorem cpt8 : CPowX 10 8 = True := eq_true (by decide +kernel)
theorem cpt9 : CPowX 10 9 = True := eq_true (by decide +kernel)
theorem cpt10 : CPowX 10 10 = True := eq_true (by decide +kernel)
theorem cpt11 : CPowX 10 11 = True := eq_true (by decide +kernel)
theorem cpt12 : CPowX 10 12 = True := eq_true (by decide +kernel)
theorem cpt13 : CPowX 10 13 = True := eq_true (by decide +kernel)
theorem cpt14 : CPowX 10 14 = True := eq_true (by decide +kernel)
theorem cpt15 : CPowX 10 15 = True := eq_true (by decide +kernel)
theorem cpt16 : CPowX 10 16 = True := eq_true (by decide +kernel)
theorem cpt17 : CPowX 10 17 = True := eq_true (by decide +kernel)
theorem cpt18 : CPowX 10 18 = True := eq_true (by decide +kernel)
theorem cpt19 : CPowX 10 19 = True := eq_true (by decide +kernel)
theorem cpt20 : CPowX 10 20 = True := eq_true (by decide +kernel)
theorem cpt24 : CPowX 10 24 = True := eq_true (by decide +kernel)
theorem cpt30 : CPowX 10 30 = True := eq_true (by decide +kernel)
theorem cpt36 : CPowX 10 36 = True := eq_true (by decide +kernel)
theorem cpt40 : CPowX 10 40 = True := eq_true (by decide +kernel)
theorem cpt48 : CPowX 10 48 = True := eq_true (by decide +kernel)
theorem cpt50 : CPowX 10 50 = True := eq_true (by decide +kernel)
theorem cpt58 : CPowX 10 58 = True := eq_true (by decide +kernel)
theorem cpt59 : CPowX 10 59 = True := eq_true (by decide +kernel)
theorem cpt60 : CPowX 10 60 = True := eq_true (by decide +kernel)
end CK
end

section
set_option Elab.async false
set_option linter.all false
set_option maxRecDepth 100000
set_option maxHeartbeats 4000000
namespace CK
open PySem PySem.Spec PyProof.Rows L2


section
variable {κ α : Type} [DecidableEq κ]
def valG (kvs : List (κ × α)) (k : κ) : Option α := (kvs.find? fun kv => decide (kv.1 = k)).map (·.2)
def putG (kvs : List (κ × α)) (k : κ) (v : α) : List (κ × α) :=
  if (kvs.any fun kv => decide (kv.1 = k)) = true then kvs.map (fun kv => if kv.1 = k then (kv.1, v) else kv) else kvs ++ [(k, v)]
def dropG (kvs : List (κ × α)) (k : κ) : List (κ × α) := kvs.filter fun kv => decide (kv.1 ≠ k)
theorem valG_nil {k : κ} : valG ([] : List (κ × α)) k = none := rfl
theorem valG_cons {p : κ × α} {r : List (κ × α)} {k : κ} : valG (p :: r) k = if p.1 = k then some p.2 else valG r k := by
  by_cases e : p.1 = k <;> simp [valG, List.find?_cons, e]
theorem valG_any (k : κ) : ∀ kvs : List (κ × α), (kvs.any fun kv => decide (kv.1 = k)) = (valG kvs k).isSome
  | [] => rfl
  | p :: r => by
    rw [List.any_cons, valG_cons, valG_any k r]
    by_cases e : p.1 = k <;> simp [e]
theorem valG_map (k j : κ) (y : α) : ∀ kvs : List (κ × α), valG (kvs.map fun kv => if kv.1 = k then (kv.1, y) else kv) j = (valG kvs j).map fun x => if j = k then y else x
  | [] => rfl
  | p :: r => by
    rw [List.map_cons, valG_cons, valG_cons, valG_map k j y r]
    by_cases h : p.1 = k
    · rw [if_pos h]
      by_cases e : p.1 = j
      · simp [e, ← h]
      · simp [e]
    · rw [if_neg h]
      by_cases e : p.1 = j
      · rw [if_pos e, if_pos e, Option.map_some, if_neg (fun z => h (e.trans z))]
      · rw [if_neg e, if_neg e]
theorem valG_snoc (k j : κ) (y : α) : ∀ kvs : List (κ × α), valG kvs k = none → valG (kvs ++ [(k, y)]) j = if j = k then some y else valG kvs j
  | [], _ => by
    rw [List.nil_append, valG_cons]
    by_cases e : k = j <;> simp [e, eq_comm]
  | p :: r, hn => by
    rw [valG_cons] at hn
    split at hn
    · cases hn
    · rename_i hk
      rw [List.cons_append, valG_cons, valG_cons, valG_snoc k j y r hn]
      by_cases e : p.1 = j
      · rw [if_pos e, if_pos e, if_neg (fun z => hk (e.trans z))]
      · rw [if_neg e, if_neg e]
theorem valG_put (kvs : List (κ × α)) (k j : κ) (y : α) : valG (putG kvs k y) j = if j = k then some y else valG kvs j := by
  unfold putG
  by_cases a : (kvs.any fun kv => decide (kv.1 = k)) = true
  · rw [if_pos a, valG_map]
    rw [valG_any] at a
    by_cases e : j = k
    · obtain ⟨x, hx⟩ := Option.isSome_iff_exists.mp a
      rw [if_pos e, e, hx, Option.map_some, if_pos rfl]
    · rw [if_neg e]
      cases valG kvs j with
      | none => rfl
      | some x => rw [Option.map_some, if_neg e]
  · rw [if_neg a]
    refine valG_snoc k j y kvs ?_
    rw [valG_any] at a
    cases h : valG kvs k with
    | none => rfl
    | some x => rw [h] at a; exact absurd rfl a
theorem putG_len (kvs : List (κ × α)) (k : κ) (v : α) : (putG kvs k v).length ≤ kvs.length + 1 := by
  unfold putG; split <;> simp
end


def keyD (d : D) : Option Key := match d with | .int i => some (.inl i) | .str x => some (.inr x) | _ => none
theorem keyD_int {i : Int} : keyD (.int i) = some (.inl i) := rfl
theorem keyD_str {i : Str} : keyD (.str i) = some (.inr i) := rfl
section
variable {K : PySem.W.Frag} {μ : List Addr} {H : Hp} {d : D} {v : V}
theorem Rp.key {k : Key} (r : Rp K μ H d v) (h : keyD d = some k) : v = kV k := by
  cases r <;> simp only [keyD, reduceCtorEq, Option.some.injEq] at h <;> subst h <;> rfl
variable {κ : Type} [DecidableEq κ]
theorem RpKV.uncons {p : κ × D} {ds : List (κ × D)} {vs : List (κ × V)} (h : RpKV K μ H (p :: ds) vs) : ∃ q us, vs = q :: us ∧ p.1 = q.1 ∧ Rp K μ H p.2 q.2 ∧ RpKV K μ H ds us := by
  obtain ⟨h1, h2⟩ := h
  cases vs with
  | nil => simp at h1
  | cons q us =>
    simp only [List.map_cons, List.cons.injEq] at h1
    rw [List.map_cons, List.map_cons] at h2
    cases h2 with
    | cons a b => exact ⟨q, us, rfl, h1.1, a, h1.2, b⟩
theorem RpKV.cons {k : κ} {d : D} {v : V} {ds : List (κ × D)} {vs : List (κ × V)} (r : Rp K μ H d v) (h : RpKV K μ H ds vs) : RpKV K μ H ((k, d) :: ds) ((k, v) :: vs) :=
  ⟨by simp [h.1], .cons r h.2⟩
theorem RpKV.nil : RpKV (κ := κ) K μ H [] [] := ⟨rfl, .nil⟩
theorem RpKV.len {ds : List (κ × D)} {vs : List (κ × V)} (h : RpKV K μ H ds vs) : ds.length = vs.length := by
  have := congrArg List.length h.1
  simpa using this
theorem RpKV.val : ∀ {ds : List (κ × D)} {vs : List (κ × V)}, RpKV K μ H ds vs → ∀ k, (valG ds k = none ∧ valV vs k = none) ∨ ∃ d v, valG ds k = some d ∧ valV vs k = some v ∧ Rp K μ H d v
  | [], vs, h, k => by
    cases vs with
    | nil => exact .inl ⟨rfl, rfl⟩
    | cons q us => have := h.1; simp at this
  | p :: ds, vs, h, k => by
    obtain ⟨q, us, rfl, e, r, t⟩ := h.uncons
    rw [valG_cons]
    by_cases z : p.1 = k
    · rw [if_pos z, valV_pos (e.symm.trans z)]
      exact .inr ⟨_, _, rfl, rfl, r⟩
    · rw [if_neg z, valV_neg (fun y => z (e.trans y))]
      exact RpKV.val t k
theorem RpKV.app : ∀ {ds : List (κ × D)} {vs : List (κ × V)} {ds' : List (κ × D)} {vs' : List (κ × V)}, RpKV K μ H ds vs → RpKV K μ H ds' vs' → RpKV K μ H (ds ++ ds') (vs ++ vs') :=
  fun h h' => ⟨by rw [List.map_append, List.map_append, h.1, h'.1], by rw [List.map_append, List.map_append]; exact h.2.append h'.2⟩
theorem RpKV.map {d : D} {v : V} (r : Rp K μ H d v) (k : κ) : ∀ {ds : List (κ × D)} {vs : List (κ × V)}, RpKV K μ H ds vs → RpKV K μ H (ds.map fun kv => if kv.1 = k then (kv.1, d) else kv) (vs.map fun kv => if kv.1 = k then (kv.1, v) else kv)
  | [], vs, h => by
    cases vs with
    | nil => exact .nil
    | cons q us => have := h.1; simp at this
  | p :: ds, vs, h => by
    obtain ⟨q, us, rfl, e, r2, t⟩ := h.uncons
    have ih := RpKV.map r k t
    rw [List.map_cons, List.map_cons]
    obtain ⟨p1, p2⟩ := p
    obtain ⟨q1, q2⟩ := q
    obtain rfl : p1 = q1 := e
    show RpKV K μ H ((if p1 = k then (p1, d) else (p1, p2)) :: _) ((if p1 = k then (p1, v) else (p1, q2)) :: _)
    by_cases z : p1 = k
    · rw [if_pos z, if_pos z]; exact ih.cons r
    · rw [if_neg z, if_neg z]; exact ih.cons r2
theorem RpKV.put {d : D} {v : V} (r : Rp K μ H d v) (k : κ) {ds : List (κ × D)} {vs : List (κ × V)} (h : RpKV K μ H ds vs) : RpKV K μ H (putG ds k d) (putK vs k v) := by
  unfold putG putK
  rw [valG_any, valV_any]
  rcases h.val k with ⟨e1, e2⟩ | ⟨x, y, e1, e2, _⟩
  · rw [e1, e2]; exact h.app (RpKV.nil.cons r)
  · rw [e1, e2]; exact h.map r k
theorem RpKV.drop (k : κ) : ∀ {ds : List (κ × D)} {vs : List (κ × V)}, RpKV K μ H ds vs → RpKV K μ H (dropG ds k) (dropK vs k)
  | [], vs, h => by
    cases vs with
    | nil => exact .nil
    | cons q us => have := h.1; simp at this
  | p :: ds, vs, h => by
    obtain ⟨q, us, rfl, e, r2, t⟩ := h.uncons
    have ih := RpKV.drop k t
    obtain ⟨p1, p2⟩ := p
    obtain ⟨q1, q2⟩ := q
    obtain rfl : p1 = q1 := e
    unfold dropG dropK at ih ⊢
    rw [List.filter_cons, List.filter_cons]
    by_cases z : p1 = k
    · rw [if_neg (by simp [z]), if_neg (by simp [z])]; exact ih
    · rw [if_pos (by simp [z]), if_pos (by simp [z])]; exact ih.cons r2
theorem RpKV.mono {μ' : List Addr} {H' : Hp} (e : Ex K μ H μ' H') {ds : List (κ × D)} {vs : List (κ × V)} (h : RpKV K μ H ds vs) : RpKV K μ' H' ds vs := ⟨h.1, h.2.mono e⟩
end


def dkO : Option O → Option (List (Key × D))
  | some (.dK kvs) => some kvs
  | _ => none
theorem dkO_dK {kvs : List (Key × D)} : dkO (some (.dK kvs)) = some kvs := rfl
def dnewM : Env' → M D := fun _ S => .ok (.ref S.length) (S ++ [.dK []])
def dAsk (d e : D) (k : Option D → M D) : M D := fun S => match d.asRef, keyD e with
  | some i, some y => (match dkO S[i]? with
    | some kvs => k (valG kvs y) S
    | none => .bad)
  | _, _ => .bad
def dgetM (d e : D) : M D := dAsk d e fun o => match o with | some v => mP v | none => mBad
def dinM (e d : D) : M D := dAsk d e fun o => mP (.bl o.isSome)
def dninM (e d : D) : M D := dAsk d e fun o => mP (.bl (!o.isSome))
def dgM (d : D) (as : List D) : M D := match as with
  | [e] => dAsk d e fun o => mP (o.getD .non)
  | [e, z] => dAsk d e fun o => mP (o.getD z)
  | _ => mBad
def dputM (d e v : D) : M Unit := fun S => match d.asRef, keyD e with
  | some i, some y => (match dkO S[i]? with
    | some kvs => if kvs.length < sizeLine then .ok () (S.set i (.dK (putG kvs y v))) else .bad
    | none => .bad)
  | _, _ => .bad
def dpopM (d : D) (as : List D) : M D := fun S => match as with
  | [e] => (match d.asRef, keyD e with
    | some i, some y => (match dkO S[i]? with
      | some kvs => (match valG kvs y with | some v => .ok v (S.set i (.dK (dropG kvs y))) | none => .bad)
      | none => .bad)
    | _, _ => .bad)
  | _ => .bad
def isDk (d : D) (S : Store) : Bool := match d.asRef with | some i => (dkO S[i]?).isSome | none => false
def mMD (f : D → List D → M D) (o : Env' → M D) (a : Env' → M (List D)) : Env' → M D := fun r => mB (o r) fun x S => if isDk x S = true then mB (a r) (fun xs => f x xs) S else .bad
section
variable {c : Gx} {W : WX} {μ : List Addr} {H : Hp} {S : Store}
theorem SOk.dk {i : Nat} {a : Addr} {kvs : List (Key × D)} (s : SOk c μ H S) (h : dkO S[i]? = some kvs) (ha : μ[i]? = some a) : S[i]? = some (.dK kvs) ∧ ∃ vs, Rd H a (.dK vs) ∧ RpKV c.K μ H kvs vs := by
  have hS : S[i]? = some (.dK kvs) := by
    cases q : S[i]? with
    | none => rw [q] at h; cases h
    | some o => rw [q] at h; cases o <;> simp only [dkO, reduceCtorEq, Option.some.injEq] at h; subst h; rfl
  obtain ⟨vs, h1, h2⟩ := s.obj i _ a hS ha
  refine ⟨hS, vs, ?_, h2⟩
  rcases h1 with h1 | ⟨od, _, h1⟩
  · exact .inl h1
  · exact .inr ⟨od, h1⟩
theorem SOk.dkN [Nlk c] {i : Nat} {a : Addr} {kvs : List (Key × D)} (s : SOk c μ H S) (h : dkO S[i]? = some kvs) (ha : μ[i]? = some a) : S[i]? = some (.dK kvs) ∧ ∃ vs, H a = some (.dK vs) ∧ RpKV c.K μ H kvs vs := by
  have hS := (s.dk h ha).1
  obtain ⟨vs, h1, h2⟩ := s.obj i _ a hS ha
  rcases h1 with h1 | ⟨od, h3, _⟩
  · exact ⟨hS, vs, h1, h2⟩
  · rw [Nlk.h] at h3; cases h3
theorem s_dAsk {σ : L2.St} {x y : V} {d e : D} {k : Option D → M D} {Q : VK} (s : SOk c μ H S) (rx : Rp c.K μ H d x) (ry : Rp c.K μ H e y) (p : Post c W σ μ H (ZE c Q) (dAsk d e k S)) :
    ∃ a o o', x = .ref a ∧ IsD H a ∧ DGet H a y o' ∧ ((o = none ∧ o' = none) ∨ ∃ d v, o = some d ∧ o' = some v ∧ Rp c.K μ H d v) ∧ Post c W σ μ H (ZE c Q) (k o S) := by
  unfold dAsk at p
  cases h1 : d.asRef with
  | none => rw [h1] at p; exact p.elim
  | some i =>
    cases h2 : keyD e with
    | none => rw [h1, h2] at p; exact p.elim
    | some j =>
      rw [h1, h2] at p
      obtain ⟨rfl, a, rfl, ha⟩ := rx.asRef h1
      have ey := ry.key h2
      subst ey
      simp only [] at p
      cases h3 : dkO S[i]? with
      | none => rw [h3] at p; exact p.elim
      | some kvs =>
        rw [h3] at p
        obtain ⟨hS, vs, g1, g2⟩ := s.dk h3 ha
        exact ⟨a, valG kvs j, valV vs j, rfl, .inl ⟨vs, g1⟩, .inl ⟨vs, j, g1, rfl, rfl⟩, g2.val j, p⟩
theorem sem_dnew : SemE c W tDNewK dnewM := by
  intro σ H μ r S Q s e p q hq
  have ex : Ex c.K μ H (μ ++ [q]) (upd H q (.dK [])) := Ex.new hq
  refine p (μ ++ [q]) _ ex (s.new hq ⟨[], .inl upd_same, RpKV.nil⟩) _ (.ref ?_)
  rw [← s.len]; simp
def rInDk : R2 := fun y x H Q => ∃ a o, x = .ref a ∧ DGet H a y o ∧ Q (.bl o.isSome) H
theorem op_din {X : Cx} (hu : X.A.units + 1 < cLine) : OpR X (compareOp .In) rInDk := by
  intro pins s σ H x y v u Q I rx ry h
  obtain ⟨a, o, rfl, g, q⟩ := h
  obtain rfl : u = Value.ref a := ry
  exact d_in hu I g rx fun s3 I3 => ⟨.bl o.isSome, H, I3, rfl, q⟩
theorem s_din : Sem2 c W rInDk dinM := by
  intro σ H μ S x y d e Q s rx ry p
  obtain ⟨a, o, o', rfl, _, g, h, p⟩ := s_dAsk s ry rx p
  refine ⟨a, o', rfl, g, ?_⟩
  rcases h with ⟨rfl, rfl⟩ | ⟨d, v, rfl, rfl, r⟩ <;> exact p.fin s (.bl _)
theorem s_dput [Nlk c] : SemSet c W rSetD dputM := by
  intro σ H μ S x y z d e u Q s rx ry rz p
  unfold dputM at p
  cases h1 : d.asRef with
  | none => rw [h1] at p; exact p.elim
  | some i =>
    cases h2 : keyD e with
    | none => rw [h1, h2] at p; exact p.elim
    | some j =>
      rw [h1, h2] at p
      obtain ⟨rfl, a, rfl, ha⟩ := rx.asRef h1
      have ey := ry.key h2
      subst ey
      simp only [] at p
      cases h3 : dkO S[i]? with
      | none => rw [h3] at p; exact p.elim
      | some kvs =>
        rw [h3] at p
        simp only [] at p
        obtain ⟨hS, vs, g1, g2⟩ := s.dkN h3 ha
        split at p
        · rename_i hl
          have n1 : ∀ xs', HO.dK vs ≠ .tup xs' := fun _ z => by cases z
          have n2 : ∀ u w, HO.dK vs ≠ .frz u w := fun _ _ z => by cases z
          have ex : Ex c.K μ H μ (upd H a (.dK (putK vs j z))) := Ex.put g1 n1 n2
          exact ⟨a, _, rfl, DPut.k g1 (by rw [← g2.len]; exact hl), p μ _ ex (s.put hS ha rfl g1 n1 n2 ⟨_, .inl upd_same, (g2.put rz j).mono ex⟩)⟩
        · exact p.elim
end
end CK
end

section
set_option Elab.async false
set_option linter.all false
set_option maxRecDepth 100000
set_option maxHeartbeats 4000000
namespace CK
open PySem PySem.Spec PyProof.Rows L2 PySem.W PySem.Calls
section
variable {prog : Program} {w : World} {A : Around} {E : Value → Shared → Prop} {s : Shared}


end
end CK
end

section
set_option Elab.async false
set_option linter.all false
set_option maxRecDepth 100000
set_option maxHeartbeats 4000000
namespace CK
open PySem PySem.Spec PyProof.Rows L2


def rInX (K : PySem.W.Frag) (neg : Bool) : R2 := fun x y H Q => ∃ d ds, Dp K H x d ∧ (Dp K H y (.list ds) ∨ Dp K H y (.tuple ds)) ∧ d.canLay0 = true ∧ PyData.canLayAll0 ds = true ∧ d.depth ≤ 198 ∧ Q (.bl (if neg then !(ds.any fun z => PyData.eqv z d) else ds.any fun z => PyData.eqv z d)) H
theorem op_inX {X : Cx} {k : Nat} (hr : Room k X.A) : OpR X (compareOp .In) (rInX X.K false) := by
  intro pins s σ H x y v u Q I rx ry h
  obtain ⟨d, ds, hd, he, sd, se, hm, q⟩ := h
  obtain ⟨as, r1⟩ := Dp.reads I d x v hd rx
  have hu : X.A.units + 1 + min (PyData.depthAll ds) d.depth < cLine := by have := hr.un; omega
  rcases he with he | he
  · obtain ⟨bs, r2⟩ := Dp.reads I _ y u he ry
    exact SeqAt.in_list_reads r2 r1 se sd hu ⟨.bl _, H, I, rfl, q⟩
  · obtain ⟨bs, r2⟩ := Dp.reads I _ y u he ry
    exact SeqAt.in_tuple_reads r2 r1 se sd hu ⟨.bl _, H, I, rfl, q⟩
def seqP : PyData → Option (List PyData)
  | .list ys => some ys
  | .tuple ys => some ys
  | _ => none
def inXM (neg : Bool) (d e : D) : M D := fun S => match pyOf S 198 d, (pyD S e).bind seqP with
  | some x, some ys => .ok (.bl (if neg then !(ys.any fun z => PyData.eqv z x) else ys.any fun z => PyData.eqv z x)) S
  | _, _ => .bad
section
variable {c : Gx} {W : WX} {μ : List Addr} {H : Hp} {S : Store}
theorem s_inX {neg : Bool} : Sem2 c W (rInX c.K neg) (inXM neg) := by
  intro σ H μ S x y d e Q s rx ry p
  unfold inXM at p
  cases h1 : pyOf S 198 d with
  | none => rw [h1] at p; exact p.elim
  | some pd =>
    cases h2 : pyD S e with
    | none => rw [h1, h2] at p; exact p.elim
    | some pe =>
      rw [h1, h2] at p
      obtain ⟨a1, a2, a3⟩ := py_ok s 198 d x pd h1 rx
      obtain ⟨b1, b2, b3⟩ := py_ok s 199 e y pe h2 ry
      cases pe with
      | list ys => exact ⟨pd, ys, a1, .inl b1, a2, (by simpa only [PyData.canLay0] using b2), a3, p.fin s (.bl _)⟩
      | tuple ys => exact ⟨pd, ys, a1, .inr b1, a2, (by simpa only [PyData.canLay0] using b2), a3, p.fin s (.bl _)⟩
      | _ => exact p.elim
end


section
variable {c : Gx} {W : WX} {μ : List Addr} {H : Hp} {S : Store}
end
def strXM (as : List D) : M D := fun S => match as with
  | [.int i] => if i.natAbs.log2 < 1920 then .ok (.str (toString i)) S else .bad
  | [d] => (match d with
    | .tup _ => (match pyD S d with | some p => if p.showable = true ∧ p.depth ≤ 190 ∧ p.shown.length ≤ sizeLine then .ok (.str p.shown) S else .bad | none => .bad)
    | .ref _ => (match pyD S d with | some p => if p.showable = true ∧ p.depth ≤ 190 ∧ p.shown.length ≤ sizeLine then .ok (.str p.shown) S else .bad | none => .bad)
    | _ => .bad)
  | _ => .bad
section
variable {c : Gx} {W : WX} {S : Store}
theorem wp_strI {i : Int} {Q : D → Store → Prop} {E : Exn → Store → Prop} : wp (strXM [.int i] S) Q E = (i.natAbs.log2 < 1920 ∧ Q (.str (toString i)) S) := by
  show wp (if i.natAbs.log2 < 1920 then .ok (.str (toString i)) S else .bad) Q E = _
  by_cases h : i.natAbs.log2 < 1920 <;> simp [h, wp_ok, wp_bad]
end


def rgD (a b : Int) : List D := (List.range (b - a).toNat).map fun i => D.int (a + (i : Nat))
instance (a b : Int) : Decidable (RgOk a b) := inferInstanceAs (Decidable (_ ∧ _ ∧ _ ∧ _ ∧ _))
def mLRg1 (t : Bool) (a : Env' → M D) : Env' → M D := fun r => mB (a r) fun x S => match x.asInt with
  | some n => if RgOk 0 n then (if t then .ok (.tup (rgD 0 n)) S else .ok (.ref S.length) (S ++ [.lst (rgD 0 n)])) else .bad
  | none => .bad
section
variable {c : Gx} {W : WX} {S : Store}
variable {Q : D → Store → Prop} {E : Exn → Store → Prop} {r : Env'} {a b : Env' → M D}
theorem wp_lrg1 : wp (mLRg1 false a r S) Q E = wp (a r S) (fun x S1 => ∃ n, x.asInt = some n ∧ RgOk 0 n ∧ Q (.ref S1.length) (S1 ++ [.lst (rgD 0 n)])) E := by
  unfold mLRg1; rw [wp_mB]; congr 1; funext x S1
  cases h : x.asInt with
  | none => simp [wp_bad]
  | some n => by_cases hc : RgOk 0 n <;> simp [hc, wp_ok, wp_bad]
theorem wp_trg1 : wp (mLRg1 true a r S) Q E = wp (a r S) (fun x S1 => ∃ n, x.asInt = some n ∧ RgOk 0 n ∧ Q (.tup (rgD 0 n)) S1) E := by
  unfold mLRg1; rw [wp_mB]; congr 1; funext x S1
  cases h : x.asInt with
  | none => simp [wp_bad]
  | some n => by_cases hc : RgOk 0 n <;> simp [hc, wp_ok, wp_bad]

variable {k : Nat} {y v : D} {kvs : List (Key × D)}
theorem wp_dnew : wp (dnewM r S) Q E = Q (.ref S.length) (S ++ [.dK []]) := by with_unfolding_all rfl
theorem wp_dAsk {f : Option D → M D} : wp (dAsk (.ref k) y f S) Q E = ∃ j, keyD y = some j ∧ ∃ kvs, dkO S[k]? = some kvs ∧ wp (f (valG kvs j) S) Q E := by
  show wp (match (some k : Option Nat), keyD y with | some i, some y => (match dkO S[i]? with | some kvs => f (valG kvs y) S | none => .bad) | _, _ => .bad) Q E = _
  cases h : keyD y with
  | none => simp [wp_bad]
  | some j => cases h2 : dkO S[k]? <;> simp [h2, wp_bad]
theorem wp_dget : wp (dgetM (.ref k) y S) Q E = ∃ j, keyD y = some j ∧ ∃ kvs, dkO S[k]? = some kvs ∧ ∃ v, valG kvs j = some v ∧ Q v S := by
  unfold dgetM
  rw [wp_dAsk]
  congr 1; funext j; congr 1; congr 1; funext kvs; congr 1
  cases h : valG kvs j <;> simp [wp_mBad, wp_mP]
theorem wp_din : wp (dinM y (.ref k) S) Q E = ∃ j, keyD y = some j ∧ ∃ kvs, dkO S[k]? = some kvs ∧ Q (.bl (valG kvs j).isSome) S := by
  unfold dinM
  simp only [wp_dAsk, wp_mP]
theorem wp_dnin : wp (dninM y (.ref k) S) Q E = ∃ j, keyD y = some j ∧ ∃ kvs, dkO S[k]? = some kvs ∧ Q (.bl (!(valG kvs j).isSome)) S := by
  unfold dninM
  simp only [wp_dAsk, wp_mP]
theorem wp_dg1 : wp (dgM (.ref k) [y] S) Q E = ∃ j, keyD y = some j ∧ ∃ kvs, dkO S[k]? = some kvs ∧ Q ((valG kvs j).getD .non) S := by
  unfold dgM
  simp only [wp_dAsk, wp_mP]
theorem wp_dput {QU : Unit → Store → Prop} : wp (dputM (.ref k) y v S) QU E = ∃ j, keyD y = some j ∧ ∃ kvs, dkO S[k]? = some kvs ∧ kvs.length < sizeLine ∧ QU () (S.set k (.dK (putG kvs j v))) := by
  show wp (match (some k : Option Nat), keyD y with | some i, some y => (match dkO S[i]? with | some kvs => if kvs.length < sizeLine then .ok () (S.set i (.dK (putG kvs y v))) else .bad | none => .bad) | _, _ => .bad) QU E = _
  cases h : keyD y with
  | none => simp [wp_bad]
  | some j =>
    cases h2 : dkO S[k]? with
    | none => simp [h2, wp_bad]
    | some kvs => by_cases hl : kvs.length < sizeLine <;> simp [h2, hl, wp_ok, wp_bad]
theorem wp_dpop : wp (dpopM (.ref k) [y] S) Q E = ∃ j, keyD y = some j ∧ ∃ kvs, dkO S[k]? = some kvs ∧ ∃ v, valG kvs j = some v ∧ Q v (S.set k (.dK (dropG kvs j))) := by
  show wp (match (some k : Option Nat), keyD y with | some i, some y => (match dkO S[i]? with | some kvs => (match valG kvs y with | some v => .ok v (S.set i (.dK (dropG kvs y))) | none => .bad) | none => .bad) | _, _ => .bad) Q E = _
  cases h : keyD y with
  | none => simp [wp_bad]
  | some j =>
    cases h2 : dkO S[k]? with
    | none => simp [h2, wp_bad]
    | some kvs => cases h3 : valG kvs j <;> simp [h2, h3, wp_ok, wp_bad]
theorem wp_MD {f : D → List D → M D} {as : Env' → M (List D)} : wp (mMD f a as r S) Q E = wp (a r S) (fun x S1 => isDk x S1 = true ∧ wp (as r S1) (fun xs S2 => wp (f x xs S2) Q E) E) E := by
  unfold mMD; rw [wp_mB]; congr 1; funext x S1
  by_cases h : isDk x S1 = true
  · rw [if_pos h, wp_mB]; simp [h]
  · rw [if_neg h]; simp [h, wp_bad]
theorem isDk_ref : isDk (.ref k) S = (dkO S[k]?).isSome := rfl
end


def eqSM (neg : Bool) (d e : D) : M D := fun S => match d.asStr, e.asStr with
  | some a, some b => .ok (.bl (if neg then !decide (a = b) else decide (a = b))) S
  | _, _ => .bad
section
variable {c : Gx} {W : WX} {S : Store}
theorem wp_eqS {a b : Str} {Q : D → Store → Prop} {E : Exn → Store → Prop} : wp (eqSM false (.str a) (.str b) S) Q E = Q (.bl (decide (a = b))) S := by with_unfolding_all rfl
theorem wp_neS {a b : Str} {Q : D → Store → Prop} {E : Exn → Store → Prop} : wp (eqSM true (.str a) (.str b) S) Q E = Q (.bl (!decide (a = b))) S := by with_unfolding_all rfl
end
end CK
end

section
set_option Elab.async false
set_option linter.all false
set_option maxRecDepth 100000
set_option maxHeartbeats 4000000
namespace CK
open PySem PySem.Spec PyProof.Rows L2


def isStrB (d : D) : Bool := match d with | .str _ => true | _ => false
def mMS (f : D → List D → M D) (o : Env' → M D) (a : Env' → M (List D)) : Env' → M D := fun r => mB (o r) fun x S => if isStrB x = true then mB (a r) (fun xs => f x xs) S else .bad
def sindexM (d : D) (as : List D) : M D := fun S => match d.asStr, as with
  | some a, [.str b] => (match Builtin.Str.occurrences a b 0 a.length 1 with | i :: _ => .ok (.int (i : Nat)) S | [] => .bad)
  | _, _ => .bad
section
variable {c : Gx} {W : WX} {S : Store}
variable {Q : D → Store → Prop} {E : Exn → Store → Prop} {r : Env'} {a : Env' → M D} {as : Env' → M (List D)}
theorem wp_MS {f : D → List D → M D} : wp (mMS f a as r S) Q E = wp (a r S) (fun x S1 => isStrB x = true ∧ wp (as r S1) (fun xs S2 => wp (f x xs S2) Q E) E) E := by
  unfold mMS; rw [wp_mB]; congr 1; funext x S1
  by_cases h : isStrB x = true
  · rw [if_pos h, wp_mB]; simp [h]
  · rw [if_neg h]; simp [h, wp_bad]
theorem isStrB_str {x : Str} : isStrB (.str x) = true := rfl
theorem wp_sindex {x y : Str} : wp (sindexM (.str x) [.str y] S) Q E = ∃ i rest, Builtin.Str.occurrences x y 0 x.length 1 = i :: rest ∧ Q (.int (i : Nat)) S := by
  show wp (match Builtin.Str.occurrences x y 0 x.length 1 with | i :: _ => .ok (.int (i : Nat)) S | [] => .bad) Q E = _
  cases h : Builtin.Str.occurrences x y 0 x.length 1 <;> simp [wp_ok, wp_bad]
end


section
variable {c : Gx} {W : WX} {S : Store}
end


section
variable {c : Gx} {W : WX} {S : Store}
end


def isiT (t : String) : List String → Option Bool
  | [] => some false
  | T :: r => match isiR t T with
    | some true => some true
    | some false => isiT t r
    | none => none
def mIsiT (Ts : List String) (m : Env' → M D) : Env' → M D := fun r => mB (m r) fun d S => if isEx d S = true then .bad else match tyN d S with
  | some t => (match isiT t Ts with | some b => .ok (.bl b) S | none => .bad)
  | none => .bad
section
variable {c : Gx} {W : WX}
theorem wp_isiT {Ts : List String} {a : Env' → M D} {r : Env'} {S : Store} {Q : D → Store → Prop} {E : Exn → Store → Prop} : wp (mIsiT Ts a r S) Q E = wp (a r S) (fun d S1 => isEx d S1 = false ∧ ∃ t k, tyN d S1 = some t ∧ isiT t Ts = some k ∧ Q (.bl k) S1) E := by
  unfold mIsiT; rw [wp_mB]; congr 1; funext d S1
  cases hx : isEx d S1 with
  | true => simp [wp_bad]
  | false =>
  simp only [if_neg (show ¬ (false = true) by decide), true_and]
  cases h : tyN d S1 with
  | none => simp [wp_bad]
  | some t =>
    cases h2 : isiT t Ts with
    | none => simp [wp_bad, h2]
    | some k => cases k <;> simp [wp_ok, h2]
end


section
variable {c : Gx} {W : WX} {μ : List Addr} {H : Hp}
end
end CK
end

section
set_option Elab.async false
set_option linter.all false
set_option maxRecDepth 100000
set_option maxHeartbeats 4000000
namespace CK
open PySem PySem.Spec PyProof.Rows L2


structure BaseC (K : PySem.W.Frag) (B : Addr) : Prop where
  gg : PySem.W.specialIn K (.ref B) "__getattribute__" = some (some (.builtin "type.__getattribute__"))
  rd : PySem.W.readsIn K B (.type "type") = true
  fi : PySem.W.findCls K (.ref B) (.type "type") "__init__" = some (.val (.builtin "ValueError.__init__"))
theorem pe_baseinit {X : Cx} {x : Str} {B : Addr} {e : Expr} {es : List Expr} {ta : TA} {p1 p2 pos : Pos} {pl : Sem Bool} (T : BaseC X.K B) (hg : Gl X x) (hm : X.mg x = some (.ref B)) (ha : PA X (e :: es) ta)
    (hdb : (x == ("__debug__" : Str)) = false := by decide)
    (hc : eval (.Call (.Attribute (.Name x p1) "__init__" p2) (e :: es) [] pos) X.env = (do
      let ov ← eval (.Name x p1) X.env
      standAt p2.atName
      let (f, first) ← holding [ov] (getMethod ov "__init__" pl)
      callWith pos f first (backTo pos (starEach (e :: es) X.env)) (backToKw pos (keywordEach [] X.env))) := by rfl)
    (he : starEach (e :: es) X.env = (false, eval e X.env) :: starEach es X.env := by rfl) (hpl : (backTo pos (starEach es X.env)).any (·.1) = false := by rfl) :
    PE X (.Call (.Attribute (.Name x p1) "__init__" p2) (e :: es) [] pos) (tVeI X.K ta) := by
  constructor
  intro pins z σ H Q I h
  apply PySem.W.methodCall_KW (ld_glob I hg hm ?_ hdb) hc
  apply PySem.W.method_cls I.kIn T.gg
  apply PySem.W.cls_value I.kIn T.rd T.fi (by decide +kernel)
  show wpAny _ _ (callWith pos (Value.builtin "ValueError.__init__") [] (backTo pos (starEach (e :: es) X.env)) []) _ _ _
  apply PyProof.Rows.callWith_method1 (thn (ha.run pos pins _ σ H _ (I.tok _) h) fun us z1 ⟨vs, H1, I1, r1, a, C, ws, ev, hl, O, ea, q⟩ => ?_) he hpl
  subst ev
  cases r1 with
  | @cons _ u0 _ ur ra rr =>
    obtain rfl : u0 = Value.ref a := ra
    refine oinit_ok O I1 ea ?_ fun z2 J => ⟨.non, H1, J, rfl, q⟩
    have := Paired.length rr
    rw [sizeLine_eq]
    omega


def spInit (K : PySem.W.Frag) (f : Str) : Sp := fun vs H Q _ => ∃ (a C : Addr) (y : V), vs = [.ref a, y] ∧ OexC K C ∧ PySem.W.findIn K (.ref C) f = some none ∧ H a = some (exo a C none) ∧
  ∀ dx, H dx = none → dx ≠ a → Q .non (upd (upd H dx (exd dx [(f, y)])) a (exo a C (some dx)))
theorem init_ok {P : Program} {w : World} {K : PySem.W.Frag} {mg : Str → Option Value} {base : Heap} {qual f : Str} {st : Stmt} {fI : Addr} {fd : FuncData} {t : TA} (F : Fun K "__init__" qual st fI fd) (S : FnScope [("self" : Str), f] [("self" : Str), f] (defScope st))
    (hb : ∀ (cdv : Value) (A : Around) (outer : List Env) (s : Shared) (H : Hp) (E : XK), ∃ msg : Str, PSs (cxOf CX0 P w K mg base [("self" : Str), f] qual (defScope st) fI cdv A outer s H E).nox (defBody st) (tSeq (tDrop (tVeI K (tCons (tVar 0) (tCons (tC (.str msg)) tNil)))) (tOst K f (tVar 0) (tVar 1)))) :
    FnOk P w K mg base CX0 1 fI fd [("self" : Str), f] (spInit K f) := by
  refine F.ok S (fun _ _ _ _ h => ?_) fun cdv A outer s H vs Q E hr h => ?_
  · obtain ⟨a, C, y, rfl, _⟩ := h; rfl
  · obtain ⟨msg, d⟩ := hb cdv A outer s H E
    refine ⟨_, d, ?_⟩
    obtain ⟨a, C, y, rfl, O, hno, ea, q⟩ := h
    refine ⟨.ref a, rfl, a, C, [.str msg], rfl, (by show 1 ≤ 1000; decide), O, ea, y, rfl, .ref a, rfl, a, C, rfl, O, hno, .inl ⟨ea, fun dx h1 h2 => q dx h1 h2⟩⟩

structure XMade (P : Program) (w : World) (c : Gx) (base : Heap) (x f : Str) (C : Addr) : Prop where
  gC : c.mg x = some (.ref C)
  O : OexC c.K C
  no : PySem.W.findIn c.K (.ref C) f = some none
  fI : ∃ (fI : Addr) (fd : FuncData), PySem.W.findIn c.K (.ref C) "__init__" = some (some (.ref fI)) ∧ PySem.W.typeIn c.K (.ref fI) = some (.type "function") ∧ Binds c.K fd [("self" : Str), f] [] ∧ FnOk P w c.K c.mg base CX0 1 fI fd [("self" : Str), f] (spInit c.K f)
theorem heap_back {H1 : Hp} {a dx C : Addr} {f : Str} {y : V} (ha : H1 a = none) (hd : dx ≠ a) : upd (del (upd (upd (upd H1 a (exo a C none)) dx (exd dx [(f, y)])) a (exo a C (some dx))) a) dx (.xd [(f, y)]) = upd H1 dx (.xd [(f, y)]) := by
  funext b
  by_cases h1 : b = dx
  · rw [h1, upd_same, upd_same]
  · rw [upd_ne h1, upd_ne h1]
    by_cases h2 : b = a
    · rw [h2, del_same, ha]
    · rw [del_ne h2, upd_ne h2, upd_ne h1, upd_ne h2]

theorem pmk_oexN {X : Cx} {x : Str} {C fI : Addr} {k : Nat} {fd : FuncData} {ps : List Str} {sp : Sp} {e : Expr} {es : List Expr} {ta : TA} {p pos : Pos} (T : OexC X.K C) (iC : PySem.W.findIn X.K (.ref C) "__init__" = some (some (.ref fI)))
    (tI : PySem.W.typeIn X.K (.ref fI) = some (.type "function")) (F1 : FnOk X.prog X.w X.K X.mg X.base CX0 k fI fd ps sp) (hr : Room (k + 1) X.A) (hb : Binds X.K fd ps []) (hx : Passes CX0 X (fun _ _ _ => False)) (hg : Gl X x) (hm : X.mg x = some (.ref C))
    (ha : PA X (e :: es) ta) (hdb : (x == ("__debug__" : Str)) = false := by decide) (he : starEach (e :: es) X.env = (false, eval e X.env) :: starEach es X.env := by rfl) (hpl : (backTo pos (starEach es X.env)).any (·.1) = false := by rfl) :
    L2N.PMk X (.Call (.Name x p) (e :: es) [] pos) (tMkO C sp [] ta) := by
  intro pins s σ H Q I h; obtain ⟨nm, qn, N, bs, bm, sn, sub, ab, col, dd, k0, k1, k2, k3, k5, hC, hbm⟩ := T.cls
  apply wpAny_Call_Name_kw (ld_glob I hg hm ?_ hdb)
  apply PySem.W.callWith_K (h₀ := X.base) I.ok.mod.kin T.kC (thn (ha.run pos pins s σ H _ I h) fun us s1 hA => ?_) he hpl
  obtain ⟨vs, H1, J, r1, hz, q1⟩ := hA; refine ⟨J.kIn, ?_⟩; show wpAny _ _ (call (.ref C) us) _ _ _
  obtain ⟨hp, g, dr, tk, os⟩ := s1
  obtain ⟨h2p, e2p⟩ : ∃ h2p, (hp.push (PySem.W.kdv_tup us)).push (PySem.HandSPX.excO C hp.objs.size) = h2p := ⟨_, rfl⟩
  have le : hp.objs.size ≤ hp.objs.size + 1 := Nat.le_succ _; have fresh : H1 (hp.objs.size + 1) = none := J.hok.fresh le
  have want := q1 (hp.objs.size + 1) fresh; rw [List.append_nil] at want
  have up : ∀ b o, hp.get? b = some o → h2p.get? b = some o := fun b o e => by rw [← e2p]; exact Heap.get?_push_of_some _ (Heap.get?_push_of_some _ e)
  have there : h2p.get? (hp.objs.size + 1) = some (PySem.HandSPX.excO C hp.objs.size) := by rw [← e2p]; heap_get
  have J2 : L2.Inv X pins σ (upd H1 (hp.objs.size + 1) (exo (hp.objs.size + 1) C none)) ⟨h2p, g, dr, tk, os⟩ := J.laid (t' := tk) up le (exo_ok there)
  have r2 : Vals (V.ref (hp.objs.size + 1) :: vs) (Value.ref (hp.objs.size + 1) :: us) := .cons rfl r1
  have many : (Value.ref (hp.objs.size + 1) :: us ++ []).length = ps.length := by rw [List.append_nil, ← r2.length]; exact F1.len _ _ _ _ want
  have few : us.length ≤ sizeLine := by rw [← Paired.length r1, sizeLine_eq]; omega
  have bd := hb _ (Value.ref (hp.objs.size + 1) :: us) J2.kIn many; rw [List.append_nil] at bd
  have go := F1.run _ X.stack _ _ ⟨Value.ref (hp.objs.size + 1) :: us, []⟩ (Value.ref (hp.objs.size + 1) :: us) _ _ (fun _ _ _ => False) (hr.make C us []) (J2.env0.make C us []) bd r2 want
  subst e2p
  refine wpAny_call (PySem.HandSPX.call_own F.excBase_ValueError (fun Y => PySem.HandSPX.refsVE_contains Y bm hbm) (J.kIn _ _ hC) (PySem.W.looks_findIn J.kIn iC) (fun self => PySem.W.bind_fn J.kIn self tI) few (codeAny_mono go fun r s' hq => ?_))
  match r, hq with
  | .error er, hq => exact hx pins σ _ _ er s' J2 hq
  | .ok .next, hq => exact hq.elim
  | .ok .brk, hq => exact hq.elim
  | .ok .cont, hq => exact hq.elim
  | .ok (.ret u), hq =>
    obtain ⟨v, H2, os2, bare2, un2, hok2, rv, ev, d, fs, ea, ed, hd1, q2⟩ := hq
    subst ev; obtain ⟨h2, g2, d2, t2, os'⟩ := s'; refine ⟨rv, ?_⟩
    obtain ⟨t0, G, J3, kG, ge, hoe, na⟩ := mk_end0 (d2 := d2) (t2 := t2) J le up un2 hok2 os2 bare2 ea ed hd1
    exact ⟨hp.objs.size + 1, _, _, ⟨G, g2, d2, t2, os'⟩, _, .ref C, some d, rfl, J3, kG, ge, hoe, ⟨rfl, rfl, fun vs hv => by cases hv; rfl⟩, rfl, rfl, na, rfl, bare2, raises_own T.exC T.tyC, q2⟩
theorem ps_raise1 {X : Cx} {W : WX} {c : Gx} {x f : Str} {C : Addr} {k : Nat} {p pos pos' : Pos} {e : Expr} {ta : TA} (T : XMade X.prog X.w c X.base x f C) (hr : Room k X.A) (tk : L2N.Takes X W) (ha : PA X [e] ta) (hcalm : X.calm = true := by rfl) (hk : 2 ≤ k := by decide) (hK : c.K = X.K := by rfl) (hmg : c.mg = X.mg := by rfl) (hg : Gl X x := by rfl)
    (hdb : (x == ("__debug__" : Str)) = false := by decide) (he : starEach [e] X.env = (false, eval e X.env) :: starEach [] X.env := by rfl) (hpl : (backTo pos (starEach [] X.env)).any (·.1) = false := by rfl) :
    PS X (.Raise (some (.Call (.Name x p) [e] [] pos)) none pos') (fun _ σ H => tMkO C (spInit c.K f) [] ta σ H fun cls d H' => W cls d σ H') := by
  obtain ⟨gC, O, no, fI, fd, h1, h2, h3, h4⟩ := T
  rw [hK] at O no h1 h2 h3
  rw [hK, hmg] at h4
  rw [hmg] at gC
  rw [hK]
  exact L2N.ps_raise hcalm tk (pmk_oexN (X := X) (p := p) (pos := pos) (ta := ta) O h1 h2 h4 (hr.mono hk) h3 (fun _ _ _ _ _ _ _ h => h.elim) hg gC ha hdb he hpl)

def mRaise (x f : Str) (a : Env' → M (List D)) : Env' → M Fl := stE a fun ds r S => match ds with
  | [d] => .ok (.xc ⟨x, some S.length⟩ r) (S ++ [.xd [(f, d)]])
  | _ => .bad
section
variable {c : Gx} {W : WX} {P : Program} {w : World} {base : Heap}
theorem sem_raise1 {x f : Str} {C : Addr} {t : TA} {m : Env' → M (List D)} (T : XMade P w c base x f C) (h : SemA c W t m) : SemS c W (fun _ σ H => tMkO C (spInit c.K f) [] t σ H fun cls d H' => W cls d σ H') (mRaise x f m) := by
  intro σ H μ r S Dn s e p
  refine h.goS s e p fun ds S1 μ1 H1 vs ex s1 e1 rv p1 => ?_
  split at p1
  · rename_i d
    obtain ⟨y, rfl, ry⟩ := rpl1 rv
    refine ⟨by show 1 ≤ 1000; decide, fun a hn => ⟨a, C, y, rfl, T.O, T.no, upd_same, fun dx hd hne => ⟨rfl, dx, [(f, y)], upd_same, ?_, ?_, ?_⟩⟩⟩
    · rw [upd_ne hne, upd_same]
    · rw [upd_ne hne] at hd; exact hd
    · rw [heap_back hn hne]
      have hd' : H1 dx = none := by rw [upd_ne hne] at hd; exact hd
      have ex2 : Ex c.K μ1 H1 (μ1 ++ [dx]) (upd H1 dx (.xd [(f, y)])) := Ex.new hd'
      refine p1 (μ1 ++ [dx]) _ ex2 (s1.new hd' ⟨_, upd_same, ?_⟩) σ (.ref C) (some dx) (e1.mono ex2) ⟨T.gC, ?_⟩
      · exact RpKV.mono ex2 (RpKV.nil.cons ry)
      · show (μ1 ++ [dx])[S1.length]? = some dx
        rw [← s1.len]; simp
  · exact p1.elim
end



def exS (a b : Str) : Bool := decide (a = b) || decide (b = "CrestError") || decide (b = "ValueError")

structure XTakes (c : Gx) (L : List Str) (h : Str) (v : Value) : Prop where
  ex : ∀ x ∈ L, ∀ cls, c.mg x = some cls → PySem.W.exmOne c.K cls v = some (exS x h)
def cxE (c : Gx) (j : Nat) (a : Addr) (x : Exn) (d : Option Addr) : Gx := { c with
  J := fun μ H => c.J μ H ∧ μ[j]? = some a ∧ (match x.dict, d with | none, none => True | some i, some b => μ[i]? = some b | _, _ => False)
  jm := fun {μ H μ' H'} e st h => ⟨c.jm e st h.1, e.mu _ _ h.2.1, by
    have h3 := h.2.2
    cases q : x.dict with
    | none =>
      cases q2 : d with
      | none => trivial
      | some b => rw [q, q2] at h3; exact h3.elim
    | some i =>
      cases q2 : d with
      | none => rw [q, q2] at h3; exact h3.elim
      | some b => rw [q, q2] at h3; exact e.mu _ _ h3⟩ }
instance {c : Gx} [h : Nlk c] {j : Nat} {a : Addr} {x : Exn} {d : Option Addr} : Nlk (cxE c j a x d) := ⟨h.h⟩
theorem rpo_cx {c : Gx} {j : Nat} {a b : Addr} {x : Exn} {d : Option Addr} {μ : List Addr} {H : Hp} {o : O} : RpO (cxE c j a x d) μ H o b ↔ RpO c μ H o b := by cases o <;> exact Iff.rfl
theorem SOk.ofCx {c : Gx} {j : Nat} {a : Addr} {x : Exn} {d : Option Addr} {μ : List Addr} {H : Hp} {S : Store} (s : SOk (cxE c j a x d) μ H S) : SOk c μ H S :=
  ⟨s.len, fun i o b h1 h2 => rpo_cx.mp (s.obj i o b h1 h2), s.inj, s.j.1, fun q hq => s.lkd q hq⟩
theorem EnvR.unset {K : PySem.W.Frag} {μ : List Addr} {H : Hp} {r : Env'} {σ : L2.St} (h : EnvR K μ H r σ) (i : Nat) : EnvR K μ H (r.set i none) (σ.set i none) := by
  refine ⟨by simp [h.len], fun j d e => ?_⟩
  by_cases hj : i = j
  · subst hj
    by_cases hl : i < r.length
    · rw [List.getElem?_set_self hl] at e; cases e
    · rw [List.getElem?_eq_none (by simpa using hl)] at e; cases e
  · rw [List.getElem?_set_ne hj] at e
    rw [List.getElem?_set_ne hj]
    exact h.at_ j d e

def SemX (c : Gx) (ts : Addr → Value → Option Addr → TS) (su : Exn → Nat → Env' → M Fl) : Prop := ∀ (a : Addr) (cls : Value) (d : Option Addr) (x : Exn) (j : Nat), c.mg x.cls = some cls → SemS (cxE c j a x d) Wf (ts a cls d) (su x j)
section
variable {c : Gx} {W : WX}
end


structure XIs (c : Gx) (L : List Str) (h : Str) (v : Value) : Prop where
  ex : ∀ x ∈ L, ∀ cls, c.mg x = some cls → PySem.W.kitOne c.K cls v = some (exS x h)
structure XAll (c : Gx) (L : List Str) : Prop where
  ex : ∀ x ∈ L, ∃ C, c.mg x = some (.ref C) ∧ XLook c.K C
structure XFld (c : Gx) (L : List Str) (f : Str) : Prop where
  ex : ∀ x ∈ L, ∀ C, c.mg x = some (.ref C) → PySem.W.findIn c.K (.ref C) f = some none
section
variable {c : Gx} {a : Addr} {cls : Value} {d : Option Addr} {x : Exn} {j : Nat} {L : List Str}
theorem SOk.xd {μ : List Addr} {H : Hp} {S : Store} {i : Nat} {b : Addr} {fs : List (Str × D)} (s : SOk c μ H S) (h : xdO S[i]? = some fs) (hb : μ[i]? = some b) : ∃ vs, H b = some (.xd vs) ∧ RpKV c.K μ H fs vs := by
  cases q : S[i]? with
  | none => rw [q] at h; cases h
  | some o => rw [q] at h; cases o <;> simp only [xdO, reduceCtorEq, Option.some.injEq] at h; subst h; exact s.obj i _ b q hb
theorem RpKV.look {K : PySem.W.Frag} {μ : List Addr} {H : Hp} (f : Str) : ∀ {fs : List (Str × D)} {vs : List (Str × V)} {v : D}, RpKV K μ H fs vs → fs.lookup f = some v → ∃ u, vs.lookup f = some u ∧ Rp K μ H v u
  | [], _, _, _, h => by cases h
  | p :: fs, vs, v, r, h => by
    obtain ⟨q, us, rfl, e, rp, t⟩ := r.uncons
    obtain ⟨p1, p2⟩ := p
    obtain ⟨q1, q2⟩ := q
    obtain rfl : p1 = q1 := e
    rw [List.lookup_cons] at h ⊢
    cases hb : f == p1 with
    | true => rw [hb] at h; cases h; exact ⟨q2, rfl, rp⟩
    | false => rw [hb] at h; exact RpKV.look f t h
end
end CK
end

section
set_option Elab.async false
set_option linter.all false
set_option maxRecDepth 100000
set_option maxHeartbeats 4000000
namespace CK
open PySem PySem.Spec PyProof.Rows L2 LamX


inductive KI where | ix (i : Nat) | lit (n : Int) | sub (a b : KI)
inductive KK where | one (a : KI) | two (a b : KI)
def KI.ev (g : Nat → Option Int) : KI → Option Int
  | .ix i => g i
  | .lit n => some n
  | .sub a b => match a.ev g, b.ev g with | some x, some y => some (x - y) | _, _ => none
def KK.ev (g : Nat → Option Int) : KK → Option PyData
  | .one a => (a.ev g).map .int
  | .two a b => match a.ev g, b.ev g with | some x, some y => some (.tuple [.int x, .int y]) | _, _ => none
theorem KK.ev_one {g : Nat → Option Int} {a : KI} : (KK.one a).ev g = (a.ev g).map .int := rfl
theorem KK.ev_two {g : Nat → Option Int} {a b : KI} : (KK.two a b).ev g = (match a.ev g, b.ev g with | some x, some y => some (.tuple [.int x, .int y]) | _, _ => none) := rfl
theorem KI.mono {g h : Nat → Option Int} (gh : ∀ i n, g i = some n → h i = some n) : ∀ {a : KI} {n : Int}, a.ev g = some n → a.ev h = some n
  | .ix i, n, e => gh i n e
  | .lit m, n, e => e
  | .sub a b, n, e => by
    unfold KI.ev at e ⊢
    split at e
    · rename_i h1 h2
      rw [KI.mono gh h1, KI.mono gh h2]
      exact e
    · cases e
theorem KK.mono {g h : Nat → Option Int} (gh : ∀ i n, g i = some n → h i = some n) {κ : KK} {k : PyData} (e : κ.ev g = some k) : κ.ev h = some k := by
  cases κ with
  | one a =>
    rw [KK.ev_one] at e ⊢
    cases q : a.ev g with
    | none => rw [q] at e; cases e
    | some x => rw [q] at e; rw [KI.mono gh q]; exact e
  | two a b =>
    rw [KK.ev_two] at e ⊢
    split at e
    · rename_i h1 h2
      rw [KI.mono gh h1, KI.mono gh h2]
      exact e
    · cases e
structure LamAt (env : Env) (x : Str) (h : Heap) (a : Addr) (us : List Value) : Prop where
  kind : env.scope.kind = .function
  loc : env.scope.names.lookup x = some .local
  ns : ∃ m, h.Ns env.locals m ∧ m x = some (.ref a)
  tup : IsTup h a us.toArray
  sz : us.length ≤ sizeLine
theorem LamAt.keeps {env : Env} {x : Str} {h h' : Heap} {a : Addr} {us : List Value} (L : LamAt env x h a us) (k : ∀ b o, h.get? b = some o → h'.get? b = some o) : LamAt env x h' a us :=
  ⟨L.kind, L.loc, let ⟨m, h1, h2⟩ := L.ns; ⟨m, h1.keeps k, h2⟩, L.tup.keeps k, L.sz⟩
structure LamP (scope : Scope) (x : Str) : Prop where
  kind : scope.kind = .function
  co : scope.isCoroutine = false
  gen : scope.isGenerator = false
  cell : ∀ y ∈ scope.names, y.2 ≠ .cell
  free : ∀ y ∈ scope.names, y.2 ≠ .free
  loc : scope.names.lookup x = some .local
section
variable {prog : Program} {w : World} {A : Around} {E : Value → Shared → Prop} {s : Shared}
end
theorem sqS_ext {K : PySem.W.Frag} {H H2 : Hp} {a : Addr} {xs : List V} (e : ExtN H H2) (h : SqS K H a xs) : SqS K H2 a xs := by
  rcases h with ⟨ob, d, h⟩ | h
  · exact .inl ⟨ob, d, e _ _ h (fun ps z => by cases z)⟩
  · exact .inr h
theorem sqT_ext {K : PySem.W.Frag} {H H2 : Hp} {a : Addr} {xs : List V} (e : ExtN H H2) (h : SqT K H a xs) : SqT K H2 a xs := by
  rcases h with (h | ⟨o, h⟩) | h
  · exact .inl (.inl (e _ _ h fun ps z => by cases z))
  · exact .inl (.inr ⟨o, e _ _ h fun ps z => by cases z⟩)
  · exact .inr h
section
variable {X : Cx}
end


structure TabC (c : Gx) (T : List (Addr × Str)) : Prop where
  to : ∀ μ H, c.J μ H → Tabs T H
  of : ∀ μ H μ' H', c.J μ H → Tabs T H' → c.J μ' H'
abbrev gxT (K : PySem.W.Frag) (mg : Str → Option Value) (T : List (Addr × Str)) : Gx :=
  { K := K, mg := mg, J := fun _ H => Tabs T H, jm := fun _ st h p hp => by
      obtain ⟨ps, h1, h2, h3⟩ := h p hp
      refine ⟨ps, st _ _ h1 (.inl ⟨_, rfl⟩), h2, fun pos cv hc => ?_⟩
      obtain ⟨c, e1, e2⟩ := h3 pos cv hc
      exact ⟨c, e1, st _ _ e2 (.inr ⟨_, rfl⟩)⟩ }
instance {K : PySem.W.Frag} {mg : Str → Option Value} {T : List (Addr × Str)} : Nlk (gxT K mg T) := ⟨rfl⟩
section
variable {c : Gx} {W : WX} {T : List (Addr × Str)} {κ : KK}
theorem ex_ext {μ : List Addr} {H H2 : Hp} (e : ExtN H H2) : Ex c.K μ H μ H2 := ⟨fun _ _ h => h, fun _ _ h => sqT_ext e h, fun _ _ h => sqS_ext e h⟩
theorem SOk.ext {μ : List Addr} {H H2 : Hp} {S : Store} (s : SOk c μ H S) (e : ExtN H H2) (hj : c.J μ H2) : SOk c μ H2 S := by
  have ex : Ex c.K μ H μ H2 := ex_ext e
  refine ⟨s.len, fun i o a h1 h2 => ?_, s.inj, hj, fun q hq => e _ _ (s.lkd q hq) fun ps z => by cases z⟩
  have r := s.obj i o a h1 h2
  cases o with
  | lst ds => obtain ⟨xs, h, q⟩ := r; exact ⟨xs, (e _ _ h fun ps z => by cases z), q.mono ex⟩
  | fro ds =>
    obtain ⟨xs, h, q⟩ := r
    refine ⟨xs, ?_, q.mono ex⟩
    rcases h with ⟨u, h⟩ | h
    · exact .inl ⟨u, e _ _ h fun ps z => by cases z⟩
    · exact .inr h
  | dK ds =>
    obtain ⟨xs, h, q⟩ := r
    refine ⟨xs, ?_, q.1, q.2.mono ex⟩
    rcases h with h | ⟨od, h, h2⟩
    · exact .inl (e _ _ h fun ps z => by cases z)
    · exact .inr ⟨od, h, e _ _ h2 fun ps z => by cases z⟩
  | dT ds => obtain ⟨xs, h, q⟩ := r; exact ⟨xs, (e _ _ h fun ps z => by cases z), q.1, q.2.mono ex⟩
  | xd ds => obtain ⟨xs, h, q⟩ := r; exact ⟨xs, (e _ _ h fun ps z => by cases z), q.1, q.2.mono ex⟩
  | ins C ds => obtain ⟨A, dx, xs, g, h, q⟩ := r; exact ⟨A, dx, xs, g, (e _ _ h fun ps z => by cases z), q.1, q.2.mono ex⟩
  | hid => obtain ⟨o, h, q1, q2⟩ := r; exact ⟨o, (e _ _ h fun ps z => q2 (.inl ⟨ps, z⟩)), q1, q2⟩
  | opq => trivial
  | exn x i => obtain ⟨cls, d, g, h, q⟩ := r; exact ⟨cls, d, g, (e _ _ h fun ps z => by cases z), q.mono ex.mu⟩
end


section
variable {c : Gx} {P : Program} {w : World} {base : Heap}
theorem fn_mkL {x qual : Str} {st : Stmt} {f : Addr} {fd : FuncData} {N ps : List Str} {k : Nat} {m : Env' → M Fl} (F : Fun c.K x qual st f fd) {cA : Addr} (hcA : fd.code = .ref cA) (S : FnScope N ps (defScope st))
    (hb : ∀ (A : Around) (outer : List Env) (s : Shared) (H : Hp) (E : XK), L2N.Takes (cxOf (L2N.CX P w) P w c.K c.mg base N qual (defScope st) f (.ref cA) A outer s H E) (fun cls d _ H => E cls d H) →
      PassesOwn (model P w) (A.deeper (envOfC qual (defScope st) s.heap.objs.size f (.ref cA))) (envOfC qual (defScope st) s.heap.objs.size f (.ref cA)) (cxOf (L2N.CX P w) P w c.K c.mg base N qual (defScope st) f (.ref cA) A outer s H E).xe →
      RoomG k (A.deeper (envOfC qual (defScope st) s.heap.objs.size f (.ref cA))) →
      ∃ t, PSs (cxOf (L2N.CX P w) P w c.K c.mg base N qual (defScope st) f (.ref cA) A outer s H E) (defBody st) t ∧ SemS c (fun cls d _ H => E cls d H) t m) :
    FnG P w c base (k + 1) f fd ps (mFn N.length m) := by
  intro A fs z H as us vs Q E hr e0 bs rv hp
  obtain ⟨oc, od, kV, doc, pm, an, cdv, ct, osl, rfl, lk, hcd⟩ := F.ex
  have hcdv : cdv = .ref cA := hcA
  subst hcdv
  have there : ∀ b o, base.get? b = some o → z.heap.get? b = some o := fun b o q => (e0.bs b o q).1
  have inK := e0.mod.kin.keeps there
  have kinds : ∀ q ∈ ps.zip us, (defScope st).names.lookup q.1 = some .local ∨ ((defScope st).names.lookup q.1 = some .cell ∧ ((cellsFrom (z.heap.objs.size + 1) (defScope st).names []).lookup q.1).isSome = true) := by
    intro q hq
    obtain ⟨y, u⟩ := q
    exact (S.par y (List.of_mem_zip hq).1).imp id fun h => ⟨h, PySem.W.cellsFrom_some _ _ _ (.inl h)⟩
  apply codeAny_call_function hr.r.depth (inK _ _ lk) rfl S.co S.gen rfl (PySem.W.codeRec_of inK hcd)
  apply bs
  apply wpAny_newFunctionEnv_cells S.kind kinds
  intro env he z1 inC
  cases he
  refine ⟨(e0.mod.nolimit.keeps there).keeps inC.toInCall.keep, codeAny_func ?_⟩
  obtain ⟨t, d1, d2⟩ := hb A fs z H E (L2N.takes_of rfl rfl rfl rfl) (passes_of rfl) ⟨hr.r.deeper _, hr.g⟩
  have J0 : L2.Inv (cxOf (L2N.CX P w) P w c.K c.mg base N qual (defScope st) f (.ref cA) A fs z H E) [] (L2.start N vs) H z1 := inv_start S hr.r.hd e0 hp.1 rv inC
  refine wpAny_mono (d1.run [] z1 _ H _ J0 (sem_fn d2 hp)) (fun fl z2 h2 => ?_) fun _ _ h2 => h2
  cases fl with
  | ret u => obtain ⟨v, σ2, H2, J, r2, q2⟩ := h2; exact ⟨v, H2, J.os, J.bare, J.base, J.hok, r2, q2⟩
  | next => obtain ⟨σ2, H2, J, q2⟩ := h2; exact ⟨.non, H2, J.os, J.bare, J.base, J.hok, rfl, q2⟩
  | brk => exact h2.choose_spec.choose_spec.2.elim
  | cont => exact h2.choose_spec.choose_spec.2.elim
end
def DefAtL (c : Gx) (x : Str) (st : Stmt) (ps : List Str) (cA : Addr) : Prop := ∃ f fd, Fun c.K x x st f fd ∧ Binds c.K fd ps [] ∧ c.mg x = some (.ref f) ∧ fd.code = .ref cA
theorem DefAtL.has {P : Program} {w : World} {c : Gx} {base : Heap} {x : Str} {st : Stmt} {N ps : List Str} {k : Nat} {m : Env' → M Fl} {cA : Addr} (h : DefAtL c x st ps cA) (S : FnScope N ps (defScope st))
    (hb : ∀ (f : Addr) (A : Around) (outer : List Env) (s : Shared) (H : Hp) (E : XK), L2N.Takes (cxOf (L2N.CX P w) P w c.K c.mg base N x (defScope st) f (.ref cA) A outer s H E) (fun cls d _ H => E cls d H) →
      PassesOwn (model P w) (A.deeper (envOfC x (defScope st) s.heap.objs.size f (.ref cA))) (envOfC x (defScope st) s.heap.objs.size f (.ref cA)) (cxOf (L2N.CX P w) P w c.K c.mg base N x (defScope st) f (.ref cA) A outer s H E).xe →
      RoomG k (A.deeper (envOfC x (defScope st) s.heap.objs.size f (.ref cA))) →
      ∃ t, PSs (cxOf (L2N.CX P w) P w c.K c.mg base N x (defScope st) f (.ref cA) A outer s H E) (defBody st) t ∧ SemS c (fun cls d _ H => E cls d H) t m) :
    FnHas P w c base (k + 1) x ps (mFn N.length m) := by
  obtain ⟨f, fd, F, b, g, hcA⟩ := h
  exact ⟨f, fd, g, F.kp, b, fn_mkL F hcA S (hb f)⟩
theorem DefAtL.bad {P : Program} {w : World} {c : Gx} {base : Heap} {x : Str} {st : Stmt} {ps : List Str} {k : Nat} {g : List D → M D} {cA : Addr} (h : DefAtL c x st ps cA) (hg : ∀ ds S, g ds S = .bad) : FnHas P w c base k x ps g := by
  obtain ⟨f, fd, F, b, e, _⟩ := h
  exact ⟨f, fd, e, F.kp, b, fn_bad hg⟩

abbrev lamQ (x : Str) : Str := (x ++ ".<locals>.") ++ "<lambda>"
def LamD (c : Gx) (base : Heap) (x : Str) (st : Stmt) (ps : List Str) (T : List (Addr × Str)) : Prop :=
  ∃ cA tA, DefAtL c x st ps cA ∧ TabB base c.mg cA tA ∧ (tA, lamQ x) ∈ T ∧ (∀ p ∈ T, p.1 = tA → p.2 = lamQ x) ∧ TabC c T
theorem LamD.has {P : Program} {w : World} {c : Gx} {base : Heap} {x : Str} {st : Stmt} {N ps : List Str} {k : Nat} {m : Env' → M Fl} {T : List (Addr × Str)} (h : LamD c base x st ps T) (S : FnScope N ps (defScope st))
    (hb : ∀ (cA tA : Addr), TabB base c.mg cA tA → (tA, lamQ x) ∈ T → (∀ p ∈ T, p.1 = tA → p.2 = lamQ x) → TabC c T → ∀ (f : Addr) (A : Around) (outer : List Env) (s : Shared) (H : Hp) (E : XK), L2N.Takes (cxOf (L2N.CX P w) P w c.K c.mg base N x (defScope st) f (.ref cA) A outer s H E) (fun cls d _ H => E cls d H) →
      PassesOwn (model P w) (A.deeper (envOfC x (defScope st) s.heap.objs.size f (.ref cA))) (envOfC x (defScope st) s.heap.objs.size f (.ref cA)) (cxOf (L2N.CX P w) P w c.K c.mg base N x (defScope st) f (.ref cA) A outer s H E).xe →
      RoomG k (A.deeper (envOfC x (defScope st) s.heap.objs.size f (.ref cA))) →
      ∃ t, PSs (cxOf (L2N.CX P w) P w c.K c.mg base N x (defScope st) f (.ref cA) A outer s H E) (defBody st) t ∧ SemS c (fun cls d _ H => E cls d H) t m) :
    FnHas P w c base (k + 1) x ps (mFn N.length m) := by
  obtain ⟨cA, tA, D, TB, h1, h2, h3⟩ := h
  exact D.has S (hb cA tA TB h1 h2 h3)
end CK
end

section
set_option Elab.async false
set_option linter.all false
set_option maxRecDepth 100000
set_option maxHeartbeats 4000000
namespace CK
namespace Ht
open PySem PySem.Spec PyProof.Rows L2 HotX


section
variable {prog : Program} {w : World} {A : Around} {E : Value → Shared → Prop} {s : Shared}

end

section
variable {P : Program} {w : World} {K : PySem.W.Frag} {tg : Expr}
end
end Ht
end CK
end

section
set_option Elab.async false
set_option linter.all false
set_option maxRecDepth 100000
set_option maxHeartbeats 4000000
namespace CK
namespace Ht
open PySem PySem.Spec PyProof.Rows L2 HotX

section
variable {X : Cx} {pins : List (Addr × Obj)} {σ : L2.St} {H : Hp} {z : Shared}
end
end Ht
end CK
end

section
set_option Elab.async false
set_option linter.all false
set_option maxRecDepth 100000
set_option maxHeartbeats 4000000
namespace CK
open PySem PySem.Spec PyProof.Rows L2


def clsDef (s : Stmt) : Stmt := match s with
  | .ClassDef _ _ _ b _ _ _ _ _ _ _ => b.getD 0 (.Pass ⟨0, 0, 0, 0⟩)
  | _ => .Pass ⟨0, 0, 0, 0⟩
structure XcP (K : PySem.W.Frag) (C : Addr) : Prop where
  sa : PySem.W.findIn K (.ref C) "__setattr__" = some (some (.builtin "object.__setattr__"))
  ga : PySem.W.findIn K (.ref C) "__getattribute__" = some (some (.builtin "BaseException.__getattribute__"))
  gg : PySem.W.findIn K (.ref C) "__getattr__" = some none
  ex : PySem.W.subIn K (.ref C) (.type "BaseException") = some true
  hd : PySem.W.hasDictIn K C = true
  ty : PySem.W.typeIn K (.ref C) = some (.type "type")
  kp : PySem.W.keepIn K (.ref C) = true
  cl : PySem.W.findIn K (.ref C) "__class__" = some (some (.builtin "object.__class__"))
  sp : PySem.W.specialIn K (.builtin "object.__class__") "__get__" = some (some (.builtin "getset_descriptor.__get__"))
  tk : PySem.W.takesIn K (.builtin "object.__class__") = some true
  mr : PySem.W.mroIn K C (.type "object") = some true
  b0 : PySem.W.subIn K (.ref C) (.type "int") = some false
  b1 : PySem.W.subIn K (.ref C) (.type "bool") = some false
  b2 : PySem.W.subIn K (.ref C) (.type "str") = some false
  b3 : PySem.W.subIn K (.ref C) (.type "tuple") = some false
  b4 : PySem.W.subIn K (.ref C) (.type "list") = some false
  b5 : PySem.W.subIn K (.ref C) (.type "dict") = some false

structure XCls (c : Gx) (x : Str) (C : Addr) : Prop where
  gC : c.mg x = some (.ref C)
  O : OexC c.K C
  L : XLook c.K C
theorem kitV_at {K : PySem.W.Frag} {C : Addr} {T : String} {b : Bool} (hb : PySem.W.subIn K (.ref C) (.type T) = some b) (hm : PySem.W.kitMeta T = true := by decide +kernel) : PySem.W.kitOne K (.ref C) (.type T) = some b := by
  show (if ((Value.ref C) == (Value.type T)) = true then some true else (if PySem.W.kitMeta T = true then PySem.W.subIn K (.ref C) (.type T) else none)) = some b
  rw [if_neg (by simp), if_pos hm]; exact hb
theorem kb_six {K : PySem.W.Frag} {C : Addr} (b0 : PySem.W.subIn K (.ref C) (.type "int") = some false) (b1 : PySem.W.subIn K (.ref C) (.type "bool") = some false) (b2 : PySem.W.subIn K (.ref C) (.type "str") = some false) (b3 : PySem.W.subIn K (.ref C) (.type "tuple") = some false) (b4 : PySem.W.subIn K (.ref C) (.type "list") = some false) (b5 : PySem.W.subIn K (.ref C) (.type "dict") = some false) :
    ∀ T, T ∈ (["int", "bool", "str", "tuple", "list", "dict"] : List String) → PySem.W.kitOne K (.ref C) (.type T) = some false := by
  intro T hT
  simp only [List.mem_cons, List.not_mem_nil, or_false] at hT
  rcases hT with rfl | rfl | rfl | rfl | rfl | rfl
  · exact kitV_at b0
  · exact kitV_at b1
  · exact kitV_at b2
  · exact kitV_at b3
  · exact kitV_at b4
  · exact kitV_at b5
theorem xcls_mk {c : Gx} {x : Str} {C : Addr} {nm q N bs bm sn sub ab col dd k0 k1 k2 k3 k5} (gC : c.mg x = some (.ref C)) (xL : c.K.lookup C = some (excClassObj nm q C N bs bm true sn sub ab col dd k0 k1 k2 k3 k5 "ValueError.__new__")) (xB : XcP c.K C) (xR : PySem.HandSPX.refsVE bm = true := by decide +kernel) : XCls c x C :=
  ⟨gC, ⟨⟨_, _, _, _, _, _, _, _, _, _, _, _, _, _, _, xL, xR⟩, xB.sa, xB.ex, xB.ty, xB.kp⟩, ⟨xB.ga, xB.gg, xB.ex, xB.hd⟩, xB.cl, xB.sp, xB.tk, xB.mr, kb_six xB.b0 xB.b1 xB.b2 xB.b3 xB.b4 xB.b5⟩

structure HoP (K : PySem.W.Frag) (C : Addr) : Prop where
  ex : PySem.W.subIn K (.ref C) (.type "BaseException") = some true
  ic : PySem.W.isClsIn K C = true
  ty : PySem.W.typeIn K (.ref C) = some (.type "type")
def RlP (K : PySem.W.Frag) (C : Addr) : List (Value × Bool) → Prop
  | [] => True
  | (v, b) :: r => PySem.W.subIn K (.ref C) v = some b ∧ RlP K C r
def FdP (K : PySem.W.Frag) (C : Addr) : List Str → Prop
  | [] => True
  | f :: r => PySem.W.findIn K (.ref C) f = some none ∧ FdP K C r
theorem FdP.at {K : PySem.W.Frag} {C : Addr} {f : Str} : ∀ {fs : List Str}, FdP K C fs → f ∈ fs → PySem.W.findIn K (.ref C) f = some none
  | g :: r, ⟨h, t⟩, m => by
    rcases List.mem_cons.mp m with rfl | m
    · exact h
    · exact FdP.at t m
theorem RlP.at {K : PySem.W.Frag} {C : Addr} {v : Value} {b : Bool} : ∀ {hs : List (Value × Bool)} {n : Nat}, RlP K C hs → hs[n]? = some (v, b) → PySem.W.subIn K (.ref C) v = some b
  | (w, d) :: r, 0, ⟨h, t⟩, m => by simp at m; obtain ⟨rfl, rfl⟩ := m; exact h
  | (w, d) :: r, n + 1, ⟨h, t⟩, m => RlP.at (n := n) t (by simpa using m)
theorem kit_at {K : PySem.W.Frag} {t : Value} {S : Addr} {b : Bool} (h : HoP K S) (hb : PySem.W.subIn K t (.ref S) = some b) : PySem.W.kitCls K t (.ref S) = some b := by
  have e2 : ((PySem.W.clsIn K S).isSome && PySem.W.typeIn K (.ref S) == some (.type "type")) = true := by
    have h2' : (PySem.W.clsIn K S).isSome = true := h.ic
    rw [h2', h.ty] <;> rfl
  show (if ((PySem.W.clsIn K S).isSome && PySem.W.typeIn K (.ref S) == some (.type "type")) = true then PySem.W.subIn K t (.ref S) else none) = some b
  rw [if_pos e2]; exact hb
theorem exm_at {K : PySem.W.Frag} {t : Value} {S : Addr} {b : Bool} (h : HoP K S) (hb : PySem.W.subIn K t (.ref S) = some b) : PySem.W.exmOne K t (.ref S) = some b := by
  have e1 : (PySem.W.subIn K (.ref S) (.type "BaseException") == some true) = true := by rw [h.ex] <;> rfl
  show (if (PySem.W.subIn K (.ref S) (.type "BaseException") == some true) = true then PySem.W.kitCls K t (.ref S) else none) = some b
  rw [if_pos e1]; exact kit_at h hb
theorem kitO_at {K : PySem.W.Frag} {C S : Addr} {b : Bool} (h : HoP K S) (hb : PySem.W.subIn K (.ref C) (.ref S) = some b) (hs : PySem.W.subIn K (.ref C) (.ref C) = some true) : PySem.W.kitOne K (.ref C) (.ref S) = some b := by
  show (if ((Value.ref C) == (Value.ref S)) = true then some true else PySem.W.kitCls K (.ref C) (.ref S)) = some b
  split
  · rename_i e
    have : C = S := by simpa using e
    subst this
    rw [← hb, hs]
  · exact kit_at h hb
section
variable {c : Gx} {L : List Str} {h x : Str} {v : Value} {C : Addr} {hs : List (Value × Bool)} {b : Bool}
theorem xtk_nil : XTakes c [] h v := ⟨fun _ hx => by cases hx⟩
theorem xtk_cons {S : Addr} (T : XCls c x C) (e : RlP c.K C hs) (n : Nat) (o : HoP c.K S) (t : XTakes c L h (.ref S)) (m : hs[n]? = some (.ref S, b) := by rfl) (hb : exS x h = b := by decide) : XTakes c (x :: L) h (.ref S) := ⟨fun y hy cls hc => by
  rcases List.mem_cons.mp hy with rfl | hy
  · cases T.gC.symm.trans hc; rw [hb]; exact exm_at o (e.at m)
  · exact t.ex y hy cls hc⟩
theorem xis_nil : XIs c [] h v := ⟨fun _ hx => by cases hx⟩
theorem xis_cons {S : Addr} (T : XCls c x C) (e : RlP c.K C hs) (n : Nat) (o : HoP c.K S) (hs' : PySem.W.subIn c.K (.ref C) (.ref C) = some true) (t : XIs c L h (.ref S)) (m : hs[n]? = some (.ref S, b) := by rfl) (hb : exS x h = b := by decide) : XIs c (x :: L) h (.ref S) := ⟨fun y hy cls hc => by
  rcases List.mem_cons.mp hy with rfl | hy
  · cases T.gC.symm.trans hc; rw [hb]; exact kitO_at o (e.at m) hs'
  · exact t.ex y hy cls hc⟩
theorem xiv_cons {V : String} (T : XCls c x C) (e : RlP c.K C hs) (n : Nat) (t : XIs c L h (.type V)) (m : hs[n]? = some (.type V, b) := by rfl) (hb : exS x h = b := by decide) (hm : PySem.W.kitMeta V = true := by decide +kernel) : XIs c (x :: L) h (.type V) := ⟨fun y hy cls hc => by
  rcases List.mem_cons.mp hy with rfl | hy
  · cases T.gC.symm.trans hc; rw [hb]; exact kitV_at (e.at m) hm
  · exact t.ex y hy cls hc⟩
theorem xal_nil : XAll c [] := ⟨fun _ hx => by cases hx⟩
theorem xal_cons (T : XCls c x C) (t : XAll c L) : XAll c (x :: L) := ⟨fun y hy => by
  rcases List.mem_cons.mp hy with rfl | hy
  · exact ⟨C, T.gC, T.L⟩
  · exact t.ex y hy⟩
theorem xfd_nil : XFld c [] h := ⟨fun _ hx => by cases hx⟩
theorem xfd_cons {fs : List Str} (T : XCls c x C) (e : FdP c.K C fs) (t : XFld c L h) (m : h ∈ fs := by decide) : XFld c (x :: L) h := ⟨fun y hy D hD => by
  rcases List.mem_cons.mp hy with rfl | hy
  · cases T.gC.symm.trans hD; exact e.at m
  · exact t.ex y hy D hD⟩
end
theorem xmade_mk {P : Program} {w : World} {c : Gx} {base : Heap} {x f qual : Str} {C fI : Addr} {fd : FuncData} {st : Stmt} {fs : List Str} (T : XCls c x C) (e : FdP c.K C fs) (iC : PySem.W.findIn c.K (.ref C) "__init__" = some (some (.ref fI))) (tI : PySem.W.typeIn c.K (.ref fI) = some (.type "function"))
    (F : Fun c.K "__init__" qual st fI fd) (S : FnScope [("self" : Str), f] [("self" : Str), f] (defScope st))
    (hb : ∀ (cdv : Value) (A : Around) (outer : List Env) (s : Shared) (H : Hp) (E : XK), ∃ msg : Str, PSs (cxOf CX0 P w c.K c.mg base [("self" : Str), f] qual (defScope st) fI cdv A outer s H E).nox (defBody st) (tSeq (tDrop (tVeI c.K (tCons (tVar 0) (tCons (tC (.str msg)) tNil)))) (tOst c.K f (tVar 0) (tVar 1))))
    (hbi : Binds c.K fd [("self" : Str), f] []) (m : f ∈ fs := by decide) : XMade P w c base x f C :=
  ⟨T.gC, T.O, e.at m, fI, fd, iC, tI, hbi, init_ok (t := tNil) F S hb⟩

inductive All2' : List V → List Value → Prop
  | nil : All2' [] []
  | cons {w : V} {v : Value} {ws : List V} {vs : List Value} : (∀ u, RelV w u → u = v) → All2' ws vs → All2' (w :: ws) (v :: vs)
def spInit0 (K : PySem.W.Frag) : Sp := fun vs H Q _ => ∃ (a C : Addr), vs = [.ref a] ∧ OexC K C ∧ H a = some (exo a C none) ∧ Q .non H
structure XMade0 (P : Program) (w : World) (c : Gx) (base : Heap) (x : Str) (C : Addr) : Prop where
  gC : c.mg x = some (.ref C)
  O : OexC c.K C
  fI : ∃ (fI : Addr) (fd : FuncData), PySem.W.findIn c.K (.ref C) "__init__" = some (some (.ref fI)) ∧ PySem.W.typeIn c.K (.ref fI) = some (.type "function") ∧ Binds c.K fd [("self" : Str)] [] ∧ FnOk P w c.K c.mg base CX0 1 fI fd [("self" : Str)] (spInit0 c.K)
section
variable {X : Cx}
end
section
variable {c : Gx} {W : WX} {P : Program} {w : World} {base : Heap}
end


structure TupK (K : PySem.W.Frag) (a : Addr) (ns : List Int) : Prop where
  ex : ∃ (its : Array Value) (n : Nat) (sl : Array (Option Value)), K.lookup a = some ⟨.type "tuple", Option.none, .seq its n, sl⟩ ∧ its.size ≤ sizeLine ∧ Vals (ns.map V.int) its.toList
end CK
end

section
set_option Elab.async false
set_option linter.all false
set_option maxRecDepth 100000
set_option maxHeartbeats 4000000
namespace CK
open PySem PySem.Spec PyProof.Rows L2

structure RoomX (k : Nat) (A : Around) : Prop where
  r : L2H.RoomH k A
  g : A.guards = some []
theorem RoomX.mono {j k : Nat} {A : Around} (h : RoomX k A) (hjk : j ≤ k) : RoomX j A := ⟨h.r.mono hjk, h.g⟩
def FnX (P : Program) (w : World) (c : Gx) (base : Heap) (k : Nat) (f : Addr) (fd : FuncData) (ps : List Str) (g : Exn → Nat → List D → M D) : Prop :=
  ∀ (A : Around) (fs : List Env) (z : Shared) (H : Hp) (as : Args) (us : List Value) (vs : List V) (Q : VK) (a : Addr) (oe : Obj) (cls : Value) (d : Option Addr) (x : Exn) (j : Nat), RoomX k A → L2H.Hot1 A (a, oe) → L2H.PinOk fs H z (a, oe) →
    Zc cls d oe → (∃ vs, oe.data = .fields vs) → c.mg x.cls = some cls → Env0 P w c.K c.mg base A fs z H → BindsTo z fd as (ps.zip us) → Vals vs us → spM (cxE c j a x d) ps.length (g x j) vs H Q (fun _ _ _ => False) →
    codeAny (model P w) A (.call (.ref f) as) (CR (L2N.CX P w) fs P w H z Q (fun _ _ _ => False)) z
theorem FnX.mono {P : Program} {w : World} {c : Gx} {base : Heap} {j k : Nat} {f : Addr} {fd : FuncData} {ps : List Str} {g : Exn → Nat → List D → M D} (F : FnX P w c base j f fd ps g) (h : j ≤ k) : FnX P w c base k f fd ps g :=
  fun A fs z H as us vs Q a oe cls d x i hr => F A fs z H as us vs Q a oe cls d x i (hr.mono h)

section
variable {X : Cx} {a : Addr} {oe : Obj} {cls : Value} {d : Option Addr}
end
end CK
namespace CK
open PySem PySem.Spec PyProof.Rows L2

section
variable {X : Cx}
section
variable {k : Nat} {a : Addr} {oe : Obj} {pn : List (Addr × Obj)}
end
end
end CK
end

section
set_option Elab.async false
set_option linter.all false
set_option maxRecDepth 100000
set_option maxHeartbeats 4000000
namespace CK
open PySem PySem.Spec PyProof.Rows L2


end CK
end

section
set_option Elab.async false
set_option linter.all false
set_option maxRecDepth 100000

namespace CK
open PySem PySem.Spec PyProof.Rows L2

section
variable {X : Cx}
end
section
variable {c : Gx} {W : WX}
end
end CK
end

section
set_option Elab.async false
set_option linter.all false
set_option maxRecDepth 100000

namespace CK
open PySem PySem.Spec PyProof.Rows L2
section
variable {c : Gx} {W : WX}
end
end CK
end

section
set_option Elab.async false
set_option linter.all false
set_option maxRecDepth 100000
set_option maxHeartbeats 4000000

namespace CK
open PySem PySem.Spec PyProof.Rows L2

section
variable {c : Gx} {W : WX} {μ : List Addr} {H : Hp} {S : Store}
end

section
variable {c : Gx} {W : WX} {μ : List Addr} {H : Hp} {S : Store}
end

inductive DKV (K : PySem.W.Frag) (H : Hp) : List (Key × V) → List (Key × PyData) → Prop
  | nil : DKV K H [] []
  | cons {k : Key} {v : V} {d : PyData} {r : List (Key × V)} {ds : List (Key × PyData)} : Dp K H v d → d.canLay0 = true → d.depth ≤ 199 → DKV K H r ds → DKV K H ((k, v) :: r) ((k, d) :: ds)
theorem DKV.len {K : PySem.W.Frag} {H : Hp} {va : List (Key × V)} {da : List (Key × PyData)} (h : DKV K H va da) : va.length = da.length := by
  induction h with
  | nil => rfl
  | cons _ _ _ _ ih => simp [ih]
theorem DKV.val {K : PySem.W.Frag} {H : Hp} {va : List (Key × V)} {da : List (Key × PyData)} (h : DKV K H va da) (k : Key) :
    (valV va k = none ∧ valG da k = none) ∨ ∃ v d, valV va k = some v ∧ valG da k = some d ∧ Dp K H v d ∧ d.canLay0 = true ∧ d.depth ≤ 199 := by
  induction h with
  | nil => exact .inl ⟨rfl, rfl⟩
  | @cons j v d r ds h1 h2 h3 h4 ih =>
    rw [valG_cons]
    by_cases z : j = k
    · rw [if_pos z, valV_pos z]
      exact .inr ⟨_, _, rfl, rfl, h1, h2, h3⟩
    · rw [if_neg z, valV_neg z]
      exact ih
section
variable {c : Gx} {W : WX} {μ : List Addr} {H : Hp} {S : Store}
end

section
variable {c : Gx} {W : WX} {a : Addr} {od : Obj} {u : HO}
end

def max3M (as : List D) : M D := fun S => match as with
  | [.int i, .int j, .int k] => .ok (.int (if j > i then (if k > j then k else j) else (if k > i then k else i))) S
  | _ => .bad
end CK
end

section
set_option Elab.async false
set_option linter.all false
set_option maxRecDepth 100000
set_option maxHeartbeats 4000000

namespace CK
namespace RevL
open PySem PySem.Calls PyProof.Rows PyProof.V PySem.Spec RT
section
variable {prog : Program} {w : World} {A : Around} {E : Value → Shared → Prop} {s : Shared} {T : String} {it d : Addr} {n : Nat} {P : Nat → Value → Prop} {St : Nat → Heap → Prop}
theorem Walks.rt (hh : A.handled = none) (I t : Addr) (hne : t ≠ I) (items : Array Value) (hsz : items.size ≤ sizeLine) :
    Walks prog w A I [I, t] [I] items.size (fun i v => items[items.size - 1 - i]? = some v) (fun i h => i ≤ items.size ∧ IsRt h I t ((items.size : Int) - 1 - (i : Int)) ∧ IsTup h t items) where
  sub := fun b hb => by simp at hb; simp [hb]
  frame := fun _ _ _ x hk => ⟨x.1, x.2.1.at fun o e => hk I (by simp) o e, let ⟨o, ho, r⟩ := x.2.2; ⟨o, hk t (by simp) o ho, r⟩⟩
  item := fun i s Q E hi x hQ => by
    have e : (items.size : Int) - 1 - (i : Int) = ((items.size - 1 - i : Nat) : Int) := by omega
    have hit := x.2.1
    rw [e] at hit
    have hx : items[items.size - 1 - i]? = some (items[items.size - 1 - i]'(by omega)) := Array.getElem?_eq_getElem (by omega)
    refine next_rt_item hit x.2.2 hx hsz fun h' hit' hs' => ?_
    have e2 : ((items.size - 1 - i : Nat) : Int) - 1 = (items.size : Int) - 1 - ((i + 1 : Nat) : Int) := by omega
    rw [e2] at hit'
    exact hQ _ h' (s.toks + 1) hx ⟨hi, hit', let ⟨o, ho, r⟩ := x.2.2; ⟨o, (hs'.2 t hne).trans ho, r⟩⟩ fun b o hb eo => hs'.extBut b o (fun h => hb (by simp [h])) eo
  done := fun s Q E x hQ => by
    have e : (items.size : Int) - 1 - (items.size : Int) = -1 := by omega
    have hit := x.2.1
    rw [e] at hit
    exact next_rt_end hh hit fun h' he' => hQ h' s.toks fun b o hb eo => he' b o (fun h => hb (by simp [h])) eo
  self := fun _ _ _ _ x hQ => iter_rt x.2.1 hQ
end
end RevL
open PySem PySem.Spec PyProof.Rows L2

section
variable {X : Cx}
end
section
variable {c : Gx} {W : WX}
end
end CK
end

section
set_option Elab.async false
set_option linter.all false
set_option maxRecDepth 100000
set_option maxHeartbeats 4000000

namespace CK
open PySem PySem.Spec PyProof.Rows L2
section
variable {c : Gx} {W : WX}
end
end CK
namespace CK
open PySem PySem.Spec PyProof.Rows L2
end CK
end

section
set_option Elab.async false
set_option linter.all false
set_option maxRecDepth 100000
set_option maxHeartbeats 4000000

namespace CK
open PySem PySem.Spec PyProof.Rows L2



def insO (C : Str) (o : Option O) : Option (List (Str × D)) := match o with
  | some (.ins C' fs) => if C' = C then some fs else none
  | _ => none
theorem insO_eq {C : Str} {o : Option O} {fs : List (Str × D)} (h : insO C o = some fs) : o = some (.ins C fs) := by
  unfold insO at h
  split at h
  · split at h
    · rename_i e; subst e; cases h; rfl
    · cases h
  · cases h
section
variable {c : Gx} {W : WX}
theorem SOk.ins {μ : List Addr} {H : Hp} {S : Store} {i : Nat} {a : Addr} {C : Str} {fs : List (Str × D)} (s : SOk c μ H S) (h : insO C S[i]? = some fs) (ha : μ[i]? = some a) :
    S[i]? = some (.ins C fs) ∧ ∃ A dx xs, c.mg C = some (.ref A) ∧ H a = some (.ins A dx xs) ∧ RpKV c.K μ H fs xs := by
  have h1 := insO_eq h
  exact ⟨h1, s.obj _ _ _ h1 ha⟩
end



def MtHas (P : Program) (w : World) (c : Gx) (base : Heap) (k : Nat) (C m : Str) (ps : List Str) (f : List D → M D) : Prop :=
  ∃ A a fd, c.mg C = some (.ref A) ∧ Cls c.K A ∧ Meth c.K A m a ∧ Binds c.K fd ps [] ∧ FnG P w c base k a fd ps f
theorem MtHas.mono {P : Program} {w : World} {c : Gx} {base : Heap} {j k : Nat} {C m : Str} {ps : List Str} {f : List D → M D} (h : MtHas P w c base j C m ps f) (hjk : j ≤ k) : MtHas P w c base k C m ps f :=
  let ⟨A, a, fd, h0, h1, h2, h3, h4⟩ := h; ⟨A, a, fd, h0, h1, h2, h3, h4.mono hjk⟩
section
variable {X : Cx} {W : WX} {c : Gx} {j k : Nat} {C m : Str} {ps : List Str} {f : List D → M D} {o : Expr} {apos pos : Pos} {e : Expr} {es : List Expr} {ta : TE} {t : TA}
end
section
variable {c : Gx} {W : WX}
end


def MkHas (P : Program) (w : World) (c : Gx) (base : Heap) (k : Nat) (C : Str) (ps : List Str) (f : List D → M D) : Prop :=
  ∃ A a fd, c.mg C = some (.ref A) ∧ Mk c.K A a ∧ Binds c.K fd ps [] ∧ FnG P w c base k a fd ps f
theorem MkHas.mono {P : Program} {w : World} {c : Gx} {base : Heap} {j k : Nat} {C : Str} {ps : List Str} {f : List D → M D} (h : MkHas P w c base j C ps f) (hjk : j ≤ k) : MkHas P w c base k C ps f :=
  let ⟨A, a, fd, h0, h1, h3, h4⟩ := h; ⟨A, a, fd, h0, h1, h3, h4.mono hjk⟩
theorem MkHas.cls {P : Program} {w : World} {c : Gx} {base : Heap} {k : Nat} {C : Str} {ps : List Str} {f : List D → M D} (h : MkHas P w c base k C ps f) : ∃ A, c.mg C = some (.ref A) := let ⟨A, _, _, g, _⟩ := h; ⟨A, g⟩
section
variable {X : Cx} {W : WX} {c : Gx} {j k : Nat} {C : Str} {ps : List Str} {f : List D → M D} {p pos : Pos} {e : Expr} {es : List Expr} {t : TA}
end
section
variable {c : Gx} {W : WX}
end


def MtAt (c : Gx) (C m qual : Str) (st : Stmt) (ps : List Str) : Prop := ∃ A f fd, c.mg C = some (.ref A) ∧ Cls c.K A ∧ Meth c.K A m f ∧ Fun c.K m qual st f fd ∧ Binds c.K fd ps []
def MkAt (c : Gx) (C qual : Str) (st : Stmt) (ps : List Str) : Prop := ∃ A f fd, c.mg C = some (.ref A) ∧ Mk c.K A f ∧ Fun c.K "__init__" qual st f fd ∧ Binds c.K fd ps []
theorem MtAt.has {P : Program} {w : World} {c : Gx} {base : Heap} {C x qual : Str} {st : Stmt} {N ps : List Str} {k : Nat} {m : Env' → M Fl} (h : MtAt c C x qual st ps) (S : FnScope N ps (defScope st))
    (hb : ∀ (f : Addr) (cdv : Value) (A : Around) (outer : List Env) (s : Shared) (H : Hp) (E : XK), L2N.Takes (cxOf (L2N.CX P w) P w c.K c.mg base N qual (defScope st) f cdv A outer s H E) (fun cls d _ H => E cls d H) →
      PassesOwn (model P w) (A.deeper (envOfC qual (defScope st) s.heap.objs.size f cdv)) (envOfC qual (defScope st) s.heap.objs.size f cdv) (cxOf (L2N.CX P w) P w c.K c.mg base N qual (defScope st) f cdv A outer s H E).xe →
      RoomG k (A.deeper (envOfC qual (defScope st) s.heap.objs.size f cdv)) →
      ∃ t, PSs (cxOf (L2N.CX P w) P w c.K c.mg base N qual (defScope st) f cdv A outer s H E) (defBody st) t ∧ SemS c (fun cls d _ H => E cls d H) t m) :
    MtHas P w c base (k + 1) C x ps (mFn N.length m) := by
  obtain ⟨A, f, fd, g, hc, hm, F, b⟩ := h
  exact ⟨A, f, fd, g, hc, hm, b, fn_mk F S (hb f)⟩
theorem MkAt.has {P : Program} {w : World} {c : Gx} {base : Heap} {C qual : Str} {st : Stmt} {N ps : List Str} {k : Nat} {m : Env' → M Fl} (h : MkAt c C qual st ps) (S : FnScope N ps (defScope st))
    (hb : ∀ (f : Addr) (cdv : Value) (A : Around) (outer : List Env) (s : Shared) (H : Hp) (E : XK), L2N.Takes (cxOf (L2N.CX P w) P w c.K c.mg base N qual (defScope st) f cdv A outer s H E) (fun cls d _ H => E cls d H) →
      PassesOwn (model P w) (A.deeper (envOfC qual (defScope st) s.heap.objs.size f cdv)) (envOfC qual (defScope st) s.heap.objs.size f cdv) (cxOf (L2N.CX P w) P w c.K c.mg base N qual (defScope st) f cdv A outer s H E).xe →
      RoomG k (A.deeper (envOfC qual (defScope st) s.heap.objs.size f cdv)) →
      ∃ t, PSs (cxOf (L2N.CX P w) P w c.K c.mg base N qual (defScope st) f cdv A outer s H E) (defBody st) t ∧ SemS c (fun cls d _ H => E cls d H) t m) :
    MkHas P w c base (k + 1) C ps (mFn N.length m) := by
  obtain ⟨A, f, fd, g, hm, F, b⟩ := h
  exact ⟨A, f, fd, g, hm, b, fn_mk F S (hb f)⟩
theorem MkAt.cls {c : Gx} {C qual : Str} {st : Stmt} {ps : List Str} (h : MkAt c C qual st ps) : ∃ A, c.mg C = some (.ref A) := let ⟨A, _, _, g, _⟩ := h; ⟨A, g⟩
end CK
end

section
set_option Elab.async false
set_option linter.all false
set_option maxRecDepth 100000
namespace CK
open PySem PySem.Spec PyProof.Rows L2
section
variable {prog : Program} {w : World} {A : Around} {E : Value → Shared → Prop} {s : Shared}
theorem PlainL.isList {h : Heap} {a : Addr} {its : Array Value} (x : PlainL h a its) : h.IsList a its := let ⟨o, n, e, hc, _, hd⟩ := x; ⟨o, e, hc, n, hd⟩
end
section
variable {X : Cx} {pos : Pos}
end
section
variable {c : Gx} {W : WX}
end
section
variable {E : Exn → Store → Prop} {S : Store} {QE : Env' → Store → Prop} {r : Env'}
end
end CK
end

section
set_option Elab.async false
set_option linter.all false
set_option maxRecDepth 100000
set_option maxHeartbeats 4000000

namespace CK
open PySem PySem.Spec PyProof.Rows L2
section
variable {Q : D → Store → Prop} {QF : Fl → Store → Prop} {E : Exn → Store → Prop} {S : Store} {r : Env'} {C f m : Str} {o v : Env' → M D} {as : Env' → M (List D)} {n k : Nat} {y d : D}
end
end CK
end

section
set_option Elab.async false
set_option linter.all false
set_option maxRecDepth 100000
set_option maxHeartbeats 4000000

namespace CK
namespace RevL
open PySem PySem.Calls PyProof.Rows PyProof.V PySem.Spec RT
section
variable {prog : Program} {w : World} {A : Around} {E : Value → Shared → Prop} {s : Shared} {T : String} {it d : Addr} {n : Nat} {P : Nat → Value → Prop} {St : Nat → Heap → Prop}
end
end RevL
open PySem PySem.Spec PyProof.Rows L2

section
variable {c : Gx} {W : WX}
end
end CK
end

section

end

section
set_option Elab.async false
set_option linter.all false
set_option maxRecDepth 100000
set_option maxHeartbeats 4000000

namespace CK
open PySem PySem.Spec PyProof.Rows L2
end CK
end

section
set_option Elab.async false
set_option linter.all false
set_option maxRecDepth 100000
set_option maxHeartbeats 4000000

namespace CK
namespace SetL
open PySem PySem.Spec PyProof.Rows L2
section
variable {P : Program} {w : World} {A : Around} {E : Value → Shared → Prop} {s : Shared}
set_option maxHeartbeats 3200000 in
end
def rSetL (K : PySem.W.Frag) (w : World) : List V → Hp → VK → Prop := fun xs H Q => ∃ (a : Addr) (ns : List Int), xs = [.ref a] ∧ (SqL K H a (ns.map V.int) ∨ SqT K H a (ns.map V.int)) ∧ ns.length + 1 < scanBound ∧ ∀ q n, H q = none → n ≤ ns.length → Q (.ref q) (upd H q (SetO w q (fun j => decide (j ∈ ns)) n))
section
variable {X : Cx}
end
end SetL
open PySem PySem.Spec PyProof.Rows L2
section
variable {c : Gx} {W : WX} {w : World}
end
end CK
end

section
set_option Elab.async false
set_option linter.all false
set_option maxRecDepth 100000
set_option maxHeartbeats 4000000

namespace CK
open PySem PySem.Spec PyProof.Rows L2
section
variable {X : Cx}
end
section
variable {c : Gx} {W : WX}
end
end CK
end

section
set_option Elab.async false
set_option linter.all false
set_option maxRecDepth 100000
set_option maxHeartbeats 4000000

namespace CK
open PySem PySem.Spec PyProof.Rows L2
section
variable {c : Gx} {W : WX}
def invM (d : D) : M D := fun S => match d.asInt with | some i => .ok (.int (Builtin.bitNot i)) S | none => .bad
end
end CK
end

section
set_option Elab.async false
set_option linter.all false
set_option maxRecDepth 100000
set_option maxHeartbeats 4000000

namespace CK
open PySem PySem.Spec PyProof.Rows L2

abbrev hidI (c : Gx) (i : Nat) (a : Addr) (od : Obj) (u : HO) : Gx := { c with
  lk := (a, od, u) :: c.lk
  J := fun μ H => c.J μ H ∧ μ[i]? = some a
  jm := fun e st h => ⟨c.jm e st h.1, e.mu _ _ h.2⟩ }
instance nlk_hid {c : Gx} [h : Nlk c] {i : Nat} {a : Addr} {od : Obj} {u : HO} : Nlk (hidI c i a od u) := ⟨h.h⟩
section
variable {c : Gx} {W : WX}
section
variable {i : Nat} {a : Addr} {od : Obj} {u : HO}
end

section
variable {P : Program} {w : World} {base : Heap} {i : Nat} {a : Addr} {od : Obj} {u : HO} {x f h : Str} {C : Addr} {L : List Str} {v : Value}
theorem XMade.hid (T : XMade P w c base x f C) : XMade P w (hidI c i a od u) base x f C := ⟨T.gC, T.O, T.no, T.fI⟩
theorem XMade0.hid (T : XMade0 P w c base x C) : XMade0 P w (hidI c i a od u) base x C := ⟨T.gC, T.O, T.fI⟩
theorem XAll.hid (T : XAll c L) : XAll (hidI c i a od u) L := ⟨T.ex⟩
theorem XTakes.hid (T : XTakes c L h v) : XTakes (hidI c i a od u) L h v := ⟨T.ex⟩
theorem XIs.hid (T : XIs c L h v) : XIs (hidI c i a od u) L h v := ⟨T.ex⟩
theorem XFld.hid (T : XFld c L f) : XFld (hidI c i a od u) L f := ⟨T.ex⟩
end

end
end CK
end

section
set_option Elab.async false
set_option linter.all false
set_option maxRecDepth 100000
set_option maxHeartbeats 4000000

namespace CK
open PySem PySem.Spec PyProof.Rows L2
theorem Inv.track {X : Cx} {pins : List (Addr × Obj)} {σ : L2.St} {H : Hp} {s : Shared} {a : Addr} {cls : Value} {d : Option Addr} {oe : Obj} {vs : Array Value} (I : L2.Inv X pins σ H s)
    (hg : s.heap.get? a = some oe) (hz : Zc cls d oe) (hf : oe.data = .fields vs) (hn : H a = none) (hL : a ≠ X.env.locals) (h0 : X.s_0.heap.get? a = none) (hp : ∀ p ∈ X.pn ++ pins, p.1 ≠ a) :
    L2.Inv X pins σ (upd H a (ExT cls d a)) s := by
  have neC : ∀ x c, X.env.cells.lookup x = some c → c ≠ a := fun x c e z => by
    obtain ⟨v, o, ho, hd⟩ := I.cell x c e
    rw [z, hg] at ho
    cases ho
    rw [hf] at hd
    cases hd
  refine ⟨I.ok, I.os, I.bare, ⟨I.base.keep, I.base.slot, fun b u q n hx => ?_, I.base.there, fun b xs q => ?_, fun b u xs q => ?_, fun b ps q => ?_⟩, I.loc, I.cell, ?_, fun x c e => ?_, fun p h => ?_, fun b u e => ?_, I.len⟩
  · rw [upd_ne (fun z => by rw [z, h0] at q; cases q)]; exact I.base.free b u q n hx
  · have q' := I.base.tups b xs q; rw [upd_ne (ne_of_none q' hn)]; exact q'
  · have q' := I.base.frzs b u xs q; rw [upd_ne (ne_of_none q' hn)]; exact q'
  · obtain ⟨m, q'⟩ := I.base.tbls b ps q; exact ⟨m, by rw [upd_ne (ne_of_none q' hn)]; exact q'⟩
  · rw [upd_ne (fun z => hL z.symm)]; exact I.free
  · rw [upd_ne (neC x c e)]; exact I.freeC x c e
  · obtain ⟨h1, h2, h3⟩ := I.pin p h
    exact ⟨h1, by rw [upd_ne (hp p h)]; exact h2, h3⟩
  · by_cases hb : b = a
    · subst hb
      rw [upd_same] at e
      cases e
      exact exT_ok hg hz hf
    · rw [upd_ne hb] at e
      exact (I.hok b u e).stay (fun c v _ q => q) (fun c q => by rw [upd_ne (ne_of_none q hn)]; exact q) fun c xs q => by rw [upd_ne (ne_of_none q hn)]; exact q

def wAsT (K : PySem.W.Frag) (c : Value) (i : Nat) (ts : Addr → Value → Option Addr → TS) (Wout : WX) (D : Ends) : WX := fun cls d σ H =>
  ∃ b, PySem.W.exmOne K cls c = some b ∧ (b = true → ∀ a, H a = none → ts a cls d { nx := fun σ' H' => H' a = none → D.nx (σ'.set i none) (upd H' a (ExT cls d a)), rt := fun v H' => H' a = none → D.rt v (upd H' a (ExT cls d a)), bk := fun σ' H' => H' a = none → D.bk (σ'.set i none) (upd H' a (ExT cls d a)), ct := fun σ' H' => H' a = none → D.ct (σ'.set i none) (upd H' a (ExT cls d a)) } (σ.set i (some (.ref a))) H) ∧
    (b = false → Wout cls d σ H)
theorem sky_none {B : Heap} {l : List Env} {a L : Addr} {Z : Obj → Prop} {h : Heap} (k : Sky B l a Z L h) : B.get? a = none := by
  rcases k with k | k | k <;> exact k.2.1
section
variable {X : Cx} {x n : Str} {c : Value} {i : Nat} {body suite : List Stmt} {b₀ : Stmt} {np pos pos' : Pos} {tb : WX → TS} {ts : Addr → Value → Option Addr → TS} {Wout : WX}
theorem ps_try_asT (hx0 : X.ex = []) (hs : X.stack = X.env :: X.outer) (hf : X.env.frame = some X.env.locals) (hN : X.N.Nodup) (hi : X.N[i]? = some n) (hln : X.env.kindOf n = some .local) (hc : Names X x c) (tk : L2N.Takes X Wout)
    (hb : ∀ (W : WX) (pn : List (Addr × Obj)) (xe : Value → Shared → Prop), L2N.Takes (X.tr pn xe) W → PassesOwn (model X.prog X.w) X.A X.env xe → PSs (X.tr pn xe) body (tb W))
    (hsu : ∀ (a : Addr) (oe : Obj) (cls : Value) (d : Option Addr) (pn : List (Addr × Obj)), L2N.Zn cls d oe → (∃ vs, oe.data = .fields vs) → PSs (X.suite a ((a, oe) :: pn)) (b₀ :: suite) (ts a cls d)) :
    PS X (.Try body [.ExceptHandler (some (.Name x np)) (some n) (b₀ :: suite) pos'] [] [] pos) (fun D σ H => tb (wAsT X.K c i ts Wout D) D σ H) := by
  constructor
  intro pins s σ H D I h
  have ok := I.ok
  have fr0 : X.A.frames = some (X.env :: X.outer) := by rw [ok.frames, hs]
  apply wpAny_Try_except
  refine wpAny_mono ((hb (wAsT X.K c i ts Wout D) (X.pn ++ pins) _ (fun u s' hu => ?_) PassesOwn.looking).run [] s σ H D (I.toTry _) h) (fun f s1 hsp => ?_) (fun e s1 he => he)
  · obtain ⟨a, B, sI, pins', σ', H', cls, d, rfl, J0, nb, up, sky, na, os, ag, b, hb1, hyes, hno⟩ := hu
    have J : L2.Inv X pins σ' H' sI := J0.ofTry ok
    have sky1 : Sky B (X.env :: X.outer) a (L2N.Zn cls d) X.env.locals s'.heap := by rw [← hs]; exact sky
    show wpAny (model X.prog X.w) X.A (noteFrame (.ref a) X.env) _ _ _
    refine L2N.Sky.land L2N.Zn.steady fr0 hf sky1 fun h3 fl3 up3 => ?_
    have J3 : L2.Inv X pins σ' H' { s' with heap := h3 } := J.landed nb fl3.1 (up.trans up3) os ag
    obtain ⟨oe3, vs3, he3, hz3, hd3⟩ := fl3.there
    have nfr : a ∉ frs (X.env :: X.outer) := fun hm => by
      obtain ⟨_, o', e', hnf⟩ := fl3.2.2.1.mem hm
      rw [he3] at e'; cases e'
      exact hnf _ hd3
    have nL : a ≠ X.env.locals := fun z => nfr (List.mem_filterMap.mpr ⟨X.env, List.mem_cons_self, by rw [hf, z]⟩)
    have nF : a ∉ X.fs := fun hm => by
      obtain ⟨e, he, q⟩ := List.mem_filterMap.mp hm
      exact nfr (List.mem_filterMap.mpr ⟨e, List.mem_cons_of_mem _ he, q⟩)
    have hI : sI.heap.get? a = none := by
      cases e : sI.heap.get? a with
      | none => rfl
      | some o =>
        have := nb a o e (by rw [hs]; exact nfr)
        rw [sky_none sky1] at this
        cases this
    have h0 : X.s_0.heap.get? a = none := by
      cases e : X.s_0.heap.get? a with
      | none => rfl
      | some o =>
        obtain ⟨o', e'⟩ := J.base.there a o e (by rw [hx0]; exact fun z => nomatch z)
        rw [hI] at e'
        cases e'
    have hp : ∀ p ∈ X.pn ++ pins, p.1 ≠ a := fun p hm z => by
      have := (J.pin p hm).1
      rw [z, hI] at this
      cases this
    have S3 := J3.suite he3 hd3 na nL nF
    refine wpAny_handleBy_cons (codeAny_handlers_test ?_) (by intro q; cases q)
    have LT : PySem.W.Looks (model X.prog X.w) h3 (typeOf (.ref a)) cls := fun A Q E s k q => wpAny_typeOf_ref (k _ _ he3) (by rw [hz3.1]; exact q)
    have LM := PySem.W.exm_one (M := model X.prog X.w) (J3.kIn) LT hb1
    have test : ∀ {Q : Value → Shared → Prop} {E : Value → Shared → Prop}, Q c { s' with heap := h3 } → wpAny (model X.prog X.w) (X.A.mark (some (.ref a))) (eval (.Name x np) X.env) Q E { s' with heap := h3 } := fun {Q E} q => by
      obtain ⟨hg, hdbg, hm | ⟨hm, hv, hnn⟩⟩ := hc
      · exact ld_glob (X := X.suite a ((a, oe3) :: (X.pn ++ pins))) S3 hg hm q hdbg
      · exact ld_blt (X := X.suite a ((a, oe3) :: (X.pn ++ pins))) S3 hg hm hv q hnn hdbg
    refine test (LM.here ?_)
    cases b with
    | true =>
      refine codeAny_handlers_suite_as ?_
      refine HandSPX.lands_againZ fl3 fun h4 fl4 up4 => ?_
      have J4 : L2.Inv X pins σ' H' { s' with heap := h4 } := J.landed nb fl4.1 ((up.trans up3).trans up4) os ag
      obtain ⟨oe4, vs4, he4, hz4, hd4⟩ := fl4.there
      have S4 := J4.suite he4 hd4 na nL nF
      refine store_ok (X := X.suite a ((a, oe4) :: (X.pn ++ pins))) (v := .ref a) S4 hN hi (.inl hln) rfl (fun s5 S5 => ?_) (.inr hln)
      refine wpAny_mono ((hsu a oe4 cls d (X.pn ++ pins) hz4 ⟨_, hd4⟩).run [] s5 _ H' _ S5 (hyes rfl a na)) (fun f s6 hsp => ?_) (fun _ _ z => False.elim z)
      have fin : ∀ {σ6 : L2.St} {H6 : Hp} {Q : Shared → Prop}, L2.Inv (X.suite a ((a, oe4) :: (X.pn ++ pins))) [] σ6 H6 s6 → (H6 a = none → ∀ s7, L2.Inv X pins (σ6.set i none) (upd H6 a (ExT cls d a)) s7 → Q s7) →
          wpAny (model X.prog X.w) X.A (do bindName X.env n .none; unbindBehindTheSuite X.env n pos') (fun _ s7 => Q s7) X.xe s6 := fun {σ6 H6 Q} S6 hq => by
        obtain ⟨g1, g2, _⟩ := S6.pin (a, oe4) (List.mem_append.mpr (.inl List.mem_cons_self))
        exact gone_ok (Inv.track (S6.unsuite ok) g1 hz4.zc hd4 g2 nL h0 hp) hN hi hln (hq g2)
      cases f with
      | next => obtain ⟨σ6, H6, S6, q6⟩ := hsp; exact fin S6 fun g s7 J7 => ⟨_, _, J7, q6 g⟩
      | brk => obtain ⟨σ6, H6, S6, q6⟩ := hsp; exact fin S6 fun g s7 J7 => ⟨_, _, J7, q6 g⟩
      | cont => obtain ⟨σ6, H6, S6, q6⟩ := hsp; exact fin S6 fun g s7 J7 => ⟨_, _, J7, q6 g⟩
      | ret u => obtain ⟨v6, σ6, H6, S6, r6, q6⟩ := hsp; exact fin S6 fun g s7 J7 => ⟨_, _, _, J7, r6, q6 g⟩
    | false =>
      show wpAny _ X.A (handleBy (.ref a) X.env []) _ _ _
      refine wpAny_handleBy_nil ?_
      obtain ⟨k1, k2, k3, oe, vs, T, oT, ts', he, hz, hd, h1, hr⟩ := id fl3
      unfold PySem.passOn
      refine wpAny_bind (wpAny_field he hd h1 ?_)
      rw [if_neg (show ¬ ((Value.ref T == Value.none) = true) from by simp)]
      have fin : wpAny (model X.prog X.w) X.A (setFlight (.ref a) X.env.frame) (fun _ s4 => wpAny (model X.prog X.w) X.A (throw (.ref a) : Sem Flow) (SP X pins D) X.xe s4) X.xe { s' with heap := h3 } := by
        rw [hf]
        refine HandSPX.setFlight_upZ fl3 fun h4 hh4 up4 => wpAny_throw (tk _ _ ?_)
        exact ⟨a, B, sI, pins, σ', H', cls, d, rfl, J, nb, (up.trans up3).trans up4, .inr (.inr (by rw [hs]; exact hh4)), na, os, ag, hno rfl⟩
      first
        | exact wpAny_bind (wpAny_pure (wpAny_bind fin))
        | exact wpAny_bind fin
  · cases f with
    | next => obtain ⟨σ', H', J', q⟩ := hsp; exact wpAny_execs_nil ⟨σ', H', J'.ofTry ok, q⟩
    | brk => obtain ⟨σ', H', J', q⟩ := hsp; exact ⟨σ', H', J'.ofTry ok, q⟩
    | cont => obtain ⟨σ', H', J', q⟩ := hsp; exact ⟨σ', H', J'.ofTry ok, q⟩
    | ret u => obtain ⟨v, σ', H', J', r, q⟩ := hsp; exact ⟨v, σ', H', J'.ofTry ok, r, q⟩
end

def tXfT (K : PySem.W.Frag) (f : Str) (te : TE) : TE := fun σ H Q => te σ H fun x H1 => ∃ (a C dd : Addr) (fs : List (Str × V)) (v : V), x = .ref a ∧ H1 a = some (ExT (.ref C) (some dd) a) ∧ XfC K C ∧ PySem.W.findIn K (.ref C) f = some none ∧ H1 dd = some (.xd fs) ∧ fs.lookup f = some v ∧ Q v H1
theorem pe_xfT {X : Cx} {e : Expr} {te : TE} {pos : Pos} {f : Str} (he : PE X e te) (hb : attributeBase e f X.env (eval e X.env) = eval e X.env := by rfl) : PE X (.Attribute e f pos) (tXfT X.K f te) := by
  constructor
  intro pins z σ H Q I h
  refine attr_of hb (thn (he.run pins z σ H _ I h) fun u s1 hh => ?_)
  obtain ⟨x, H1, I1, rx, a, C, dd, fs, v, ex, hE, T, hno, ea, l, q⟩ := hh
  subst ex
  obtain rfl : u = Value.ref a := rx
  obtain ⟨⟨oe, vs, ha, hz, hd⟩, _⟩ := I1.hok a _ hE
  have hx : ObjOk X.prog X.w H1 s1.heap dd (.xd fs) := I1.hok dd _ ea
  obtain ⟨mA, hns, hr⟩ := hx
  obtain ⟨od, ho, hl⟩ := lookIn_ns hns
  obtain ⟨u, hu, ru⟩ := RelO.some_of (v := v) (o := mA f) (by rw [← l]; exact hr f)
  have J : PySem.W.InstAt s1.heap a oe C (some od) := ⟨ha, hz.1, by unfold PySem.W.notCls; rw [hd] <;> rfl, by rw [hz.2]; exact ho⟩
  exact HandSPX.exc_get I1.kIn J T.ga T.gg T.exC (PySem.W.findObj_own T.hdC hno rfl (by rw [hl, hu])) (handed_of ru) ⟨v, H1, I1.tok _, ru, q⟩


def keepS (j : Nat) (x : Exn) (i : Nat) : R Fl → R Fl
  | .ok f S => (match S[j]? with
    | some .opq => (match f with
      | .nx r => .ok (.nx (r.set i none)) (S.set j (.exn x.cls x.dict))
      | .rt d => .ok (.rt d) (S.set j (.exn x.cls x.dict))
      | .bk r => .ok (.bk (r.set i none)) (S.set j (.exn x.cls x.dict))
      | .ct r => .ok (.ct (r.set i none)) (S.set j (.exn x.cls x.dict))
      | .xc _ _ => .bad)
    | _ => .bad)
  | _ => .bad
def mTryAsK (L : List Str) (h : Str) (i : Nat) (b : Env' → M Fl) (su : Exn → Nat → Env' → M Fl) : Env' → M Fl := fun r S => match b r S with
  | .ok f S1 => (match f with
    | .xc x r1 => if x.cls ∈ L then (if exS x.cls h = true then keepS S1.length x i (su x S1.length (r1.set i (some (.ref S1.length))) (S1 ++ [.opq])) else .ok (.xc x r1) S1) else .bad
    | f => .ok f S1)
  | _ => .bad
section
variable {c : Gx}

theorem SOk.keepX {μ : List Addr} {H : Hp} {S : Store} {j : Nat} {a : Addr} {x : Exn} {cls : Value} {d : Option Addr} (s : SOk (cxE c j a x d) μ H S) (hg : c.mg x.cls = some cls ∧ ∃ C, cls = .ref C ∧ XLook c.K C) (hj : S[j]? = some .opq) (hn : H a = none) :
    Ex c.K μ H μ (upd H a (ExT cls d a)) ∧ SOk c μ (upd H a (ExT cls d a)) (S.set j (.exn x.cls x.dict)) := by
  have ex : Ex c.K μ H μ (upd H a (ExT cls d a)) := ⟨fun _ _ h => h, fun b xs q => sqT_upd (fun _ z => by rw [hn] at z; cases z) (fun _ _ z => by rw [hn] at z; cases z) q, fun b xs q => sqS_upd (fun _ _ z => by rw [hn] at z; cases z) q⟩
  refine ⟨ex, ?_⟩
  have hl : j < S.length := (List.getElem?_eq_some_iff.mp hj).1
  have s0 := s.ofCx
  have old : ∀ (k : Nat) (o : O), (S.set j (.exn x.cls x.dict))[k]? = some o → (k = j ∧ o = .exn x.cls x.dict) ∨ (k ≠ j ∧ S[k]? = some o) := fun k o h => by
    by_cases e : j = k
    · subst e; rw [List.getElem?_set_self hl] at h; exact .inl ⟨rfl, (Option.some.inj h).symm⟩
    · rw [List.getElem?_set_ne e] at h; exact .inr ⟨fun z => e z.symm, h⟩
  refine ⟨by rw [List.length_set]; exact s.len, fun k o b h1 h2 => ?_, fun k l o w b h1 h2 h3 h4 m1 m2 => ?_, c.jm ex (StayH.new hn) s.j.1, fun q hq => by rw [upd_ne (ne_of_none (s0.lkd q hq) hn)]; exact s0.lkd q hq⟩
  · rcases old k o h1 with ⟨rfl, rfl⟩ | ⟨_, h1⟩
    · have ea : μ[k]? = some a := s.j.2.1
      rw [ea] at h2
      cases h2
      refine ⟨cls, d, hg, upd_same, ?_⟩
      have h3 := s.j.2.2
      unfold DiAt
      cases e1 : x.dict <;> cases e2 : d <;> rw [e1, e2] at h3 <;> exact h3
    · exact (s0.obj k o b h1 h2).new hn ex
  · rcases old k o h1 with ⟨rfl, rfl⟩ | ⟨_, h1⟩
    · cases m1
    · rcases old l w h2 with ⟨rfl, rfl⟩ | ⟨_, h2⟩
      · cases m2
      · exact s0.inj k l o w b h1 h2 h3 h4 m1 m2
theorem sem_tryAsK {W : WX} {L : List Str} {h : Str} {v : Value} {i : Nat} {tb : WX → TS} {ts : Addr → Value → Option Addr → TS} {mb : Env' → M Fl} {su : Exn → Nat → Env' → M Fl} (A : XAll c L) (T : XTakes c L h v) (hb : ∀ W, SemS c W (tb W) mb) (hs : SemX c ts su) :
    SemS c W (fun Dn σ H => tb (wAsT c.K v i ts W Dn) Dn σ H) (mTryAsK L h i mb su) := by
  intro σ H μ r S Dn s e p
  refine hb _ σ H μ r S Dn s e ?_
  unfold mTryAsK at p
  cases q : mb r S with
  | exc x S1 => rw [q] at p; exact p.elim
  | bad => rw [q] at p; exact p.elim
  | ok f S1 =>
    rw [q] at p
    cases f with
    | nx r1 => exact p
    | rt d => exact p
    | bk r1 => exact p
    | ct r1 => exact p
    | xc x r1 =>
      simp only [] at p
      intro μ1 H1 ex1 s1 σ1 cls dd e1 rx
      by_cases hL : x.cls ∈ L
      · rw [if_pos hL] at p
        refine ⟨exS x.cls h, T.ex x.cls hL cls rx.cl, fun hy a na => ?_, fun hn => ?_⟩
        · rw [if_pos hy] at p
          have exA : Ex c.K μ1 H1 (μ1 ++ [a]) H1 := ⟨fun k b hk => by rw [List.getElem?_append_left (List.getElem?_eq_some_iff.mp hk).1]; exact hk, fun _ _ z => z, fun _ _ z => z⟩
          have hj : (μ1 ++ [a])[S1.length]? = some a := by rw [← s1.len]; simp
          have s2 : SOk (cxE c S1.length a x dd) (μ1 ++ [a]) H1 (S1 ++ [.opq]) := by
            refine ⟨by simp [s1.len], fun k o b h1 h2 => rpo_cx.mpr ?_, fun k l o u b h1 h2 h3 h4 m1 m2 => ?_, ⟨c.jm exA (StayH.refl _) s1.j, hj, ?_⟩, fun q hq => s1.lkd q hq⟩
            · rcases get_snoc h1 with h1 | ⟨e1, e2⟩
              · rcases get_snoc h2 with h2 | ⟨e2, _⟩
                · have := s1.obj k o b h1 h2
                  cases o with
                  | lst ds => obtain ⟨xs, g, q⟩ := this; exact ⟨xs, g, q.mono exA⟩
                  | fro ds => obtain ⟨xs, g, q⟩ := this; exact ⟨xs, g, q.mono exA⟩
                  | dK ds => obtain ⟨xs, g, q⟩ := this; exact ⟨xs, g, q.1, q.2.mono exA⟩
                  | dT ds => obtain ⟨xs, g, q⟩ := this; exact ⟨xs, g, q.1, q.2.mono exA⟩
                  | xd ds => obtain ⟨xs, g, q⟩ := this; exact ⟨xs, g, q.1, q.2.mono exA⟩
                  | ins C ds => obtain ⟨A, dx, xs, g0, g, q⟩ := this; exact ⟨A, dx, xs, g0, g, q.1, q.2.mono exA⟩
                  | hid => exact this
                  | opq => trivial
                  | exn y i => obtain ⟨cls, d, g, h, q⟩ := this; exact ⟨cls, d, g, h, q.mono exA.mu⟩
                · exact absurd (List.getElem?_eq_some_iff.mp h1).1 (by rw [e2, s1.len]; exact Nat.lt_irrefl _)
              · rw [e2]; trivial
            · rcases get_snoc h1 with h1 | ⟨_, e2⟩
              · rcases get_snoc h2 with h2 | ⟨_, e2⟩
                · rcases get_snoc h3 with h3 | ⟨e3, _⟩
                  · rcases get_snoc h4 with h4 | ⟨e4, _⟩
                    · exact s1.inj k l o u b h1 h2 h3 h4 m1 m2
                    · exact absurd (List.getElem?_eq_some_iff.mp h2).1 (by rw [e4, s1.len]; exact Nat.lt_irrefl _)
                  · exact absurd (List.getElem?_eq_some_iff.mp h1).1 (by rw [e3, s1.len]; exact Nat.lt_irrefl _)
                · rw [e2] at m2; cases m2
              · rw [e2] at m1; cases m1
            · have := rx.di
              cases q1 : x.dict with
              | none =>
                cases q2 : dd with
                | none => trivial
                | some b => rw [q1, q2] at this; exact this.elim
              | some k =>
                cases q2 : dd with
                | none => rw [q1, q2] at this; exact this.elim
                | some b => rw [q1, q2] at this; exact exA.mu _ _ this
          refine hs a cls dd x S1.length rx.cl (σ1.set i (some (.ref a))) H1 (μ1 ++ [a]) (r1.set i (some (.ref S1.length))) (S1 ++ [.opq]) _ s2 ((e1.mono exA).set i (.ref hj)) ?_
          cases q3 : su x S1.length (r1.set i (some (.ref S1.length))) (S1 ++ [.opq]) with
          | exc y S2 => rw [q3] at p; exact p.elim
          | bad => rw [q3] at p; exact p.elim
          | ok f S2 =>
            rw [q3] at p
            unfold keepS at p
            cases hS : S2[S1.length]? with
            | none => simp only [hS] at p; exact p.elim
            | some o =>
              cases o with
              | opq =>
                simp only [hS] at p
                intro μ2 H2 ex2 s3
                have kp : H2 a = none → Ex c.K μ H μ2 (upd H2 a (ExT cls dd a)) ∧ SOk c μ2 (upd H2 a (ExT cls dd a)) (S2.set S1.length (.exn x.cls x.dict)) ∧ Ex c.K μ2 H2 μ2 (upd H2 a (ExT cls dd a)) := fun hn => by
                  obtain ⟨C0, hC0, XL0⟩ := A.ex x.cls hL
                  obtain ⟨k1, k2⟩ := s3.keepX ⟨rx.cl, C0, Option.some.inj (rx.cl.symm.trans hC0), XL0⟩ hS hn
                  exact ⟨((ex1.trans exA).trans ex2).trans k1, k2, k1⟩
                cases f with
                | nx r2 => exact fun σ2 e2 hn => let ⟨k1, k2, k3⟩ := kp hn; p μ2 _ k1 k2 _ ((e2.mono k3).unset i)
                | rt d => exact fun v rv hn => let ⟨k1, k2, k3⟩ := kp hn; p μ2 _ k1 k2 v (rv.mono k3)
                | bk r2 => exact fun σ2 e2 hn => let ⟨k1, k2, k3⟩ := kp hn; p μ2 _ k1 k2 _ ((e2.mono k3).unset i)
                | ct r2 => exact fun σ2 e2 hn => let ⟨k1, k2, k3⟩ := kp hn; p μ2 _ k1 k2 _ ((e2.mono k3).unset i)
                | xc y r2 => exact p.elim
              | _ => simp only [hS] at p; exact p.elim
        · rw [if_neg (by rw [hn]; decide)] at p
          exact p μ1 H1 ex1 s1 σ1 cls dd e1 rx
      · rw [if_neg hL] at p; exact p.elim

def exnO : Option O → Option Exn
  | some (.exn x i) => some ⟨x, i⟩
  | _ => none
def isXM (L : List Str) (h : Str) (m : Env' → M D) : Env' → M D := fun r => mB (m r) fun d S => match d.asRef with
  | some k => (match exnO S[k]? with
    | some x => if x.cls ∈ L ∧ xdOk x S = true then .ok (.bl (exS x.cls h)) S else .bad
    | none => .bad)
  | none => .bad
def fldXM (L : List Str) (f : Str) (m : Env' → M D) : Env' → M D := fun r => mB (m r) fun d S => match d.asRef with
  | some k => (match exnO S[k]? with
    | some x => (match x.dict with
      | some i => if x.cls ∈ L then (match xdO S[i]? with | some fs => (match fs.lookup f with | some v => .ok v S | none => .bad) | none => .bad) else .bad
      | none => .bad)
    | none => .bad)
  | none => .bad
theorem SOk.exn {μ : List Addr} {H : Hp} {S : Store} {k : Nat} {a : Addr} {x : Exn} (s : SOk c μ H S) (h : exnO S[k]? = some x) (ha : μ[k]? = some a) : ∃ cls d, c.mg x.cls = some cls ∧ H a = some (ExT cls d a) ∧ DiAt μ x.dict d := by
  cases q : S[k]? with
  | none => rw [q] at h; cases h
  | some o =>
    rw [q] at h
    cases o <;> simp only [exnO, reduceCtorEq, Option.some.injEq] at h
    subst h
    obtain ⟨cls, d, g, r⟩ := s.obj k _ a q ha
    exact ⟨cls, d, g.1, r⟩
theorem sem_isX {W : WX} {L : List Str} {h : Str} {w : V} {cv : Value} {t : TE} {m : Env' → M D} (A : XAll c L) (T : XIs c L h cv) (hw : ∀ u, RelV w u → u = cv) (hm : SemE c W t m) :
    SemE c W (tCB (rIsT c.K) (tCons t (tCons (tC w) tNil))) (isXM L h m) := by
  intro σ H μ r S Q s e p
  refine hm.go s e p fun dd S1 μ1 H1 v ex s1 e1 rv p1 => ?_
  cases q : dd.asRef with
  | none => rw [q] at p1; exact p1.elim
  | some k =>
    rw [q] at p1
    simp only [] at p1
    cases q2 : exnO S1[k]? with
    | none => rw [q2] at p1; exact p1.elim
    | some x =>
      rw [q2] at p1
      simp only [] at p1
      split at p1
      · rename_i hc
        obtain ⟨hL, hd⟩ := hc
        obtain ⟨rfl, b, rfl, hb⟩ := rv.asRef q
        obtain ⟨cls, d, g, hE, hD⟩ := s1.exn q2 hb
        obtain ⟨C, hC, XL⟩ := A.ex x.cls hL
        have hg := g
        rw [hC] at g
        cases g
        have da : dictAt d H1 := by
          unfold DiAt at hD
          unfold xdOk at hd
          cases q3 : x.dict with
          | none =>
            cases q4 : d with
            | none => exact .inl rfl
            | some b => rw [q3, q4] at hD; exact hD.elim
          | some i =>
            cases q4 : d with
            | none => rw [q3, q4] at hD; exact hD.elim
            | some bb =>
              rw [q3, q4] at hD
              rw [q3] at hd
              obtain ⟨fs, hfs⟩ := Option.isSome_iff_exists.mp hd
              obtain ⟨vs, g2, _⟩ := s1.xd hfs hD
              exact .inr ⟨bb, vs, rfl, g2⟩
        exact ⟨b, _, d, w, cv, C, _, rfl, hE, hw, rfl, XL, da, T.ex x.cls hL _ hg, p1.fin s1 (.bl _)⟩
      · exact p1.elim
theorem sem_fldX {W : WX} {L : List Str} {f : Str} {t : TE} {m : Env' → M D} (A : XAll c L) (T : XFld c L f) (hm : SemE c W t m) : SemE c W (tXfT c.K f t) (fldXM L f m) := by
  intro σ H μ r S Q s e p
  refine hm.go s e p fun dd S1 μ1 H1 v ex s1 e1 rv p1 => ?_
  cases q : dd.asRef with
  | none => rw [q] at p1; exact p1.elim
  | some k =>
    rw [q] at p1
    simp only [] at p1
    cases q2 : exnO S1[k]? with
    | none => rw [q2] at p1; exact p1.elim
    | some x =>
      rw [q2] at p1
      simp only [] at p1
      cases q0 : x.dict with
      | none => rw [q0] at p1; exact p1.elim
      | some i =>
        rw [q0] at p1
        simp only [] at p1
        split at p1
        · rename_i hL
          obtain ⟨rfl, b, rfl, hb⟩ := rv.asRef q
          obtain ⟨cls, d, g, hE, hD⟩ := s1.exn q2 hb
          obtain ⟨C, hC, XL⟩ := A.ex x.cls hL
          rw [hC] at g
          cases g
          cases q3 : xdO S1[i]? with
          | none => rw [q3] at p1; exact p1.elim
          | some fs =>
            rw [q3] at p1
            simp only [] at p1
            cases q4 : fs.lookup f with
            | none => rw [q4] at p1; exact p1.elim
            | some w =>
              rw [q4] at p1
              unfold DiAt at hD
              rw [q0] at hD
              cases q5 : d with
              | none => rw [q5] at hD; exact hD.elim
              | some bb =>
                rw [q5] at hD hE
                obtain ⟨vs, g2, rk⟩ := s1.xd q3 hD
                obtain ⟨u, hu, ru⟩ := rk.look f q4
                exact ⟨b, C, bb, vs, u, rfl, hE, XL.xf, T.ex x.cls hL C hC, g2, hu, p1.fin s1 ru⟩
        · exact p1.elim
end
end CK
end

section
set_option Elab.async false
set_option linter.all false
set_option maxRecDepth 100000
set_option maxHeartbeats 4000000

namespace CK
open PySem PySem.Spec PyProof.Rows L2
def rCountD (K : PySem.W.Frag) : V → List V → Hp → VK → Prop := fun x xs H Q => ∃ (a : Addr) (y : V) (d : PyData) (ds : List PyData), x = V.ref a ∧ xs = [y] ∧ Dp K H (V.ref a) (.list ds) ∧ Dp K H y d ∧
  SeqAt.shaped (.list ds) = true ∧ SeqAt.shaped d = true ∧ Q (.int ((ds.countP fun z => PyData.eqv z d : Nat) : Int)) H
theorem mt_countD {X : Cx} (hu : X.A.units + 65 < cLine) : MtR X "list.count" (rCountD X.K) := by
  intro pins s σ H x xs v us Q I rx rxs h
  obtain ⟨a, y, d, ds, rfl, rfl, hl, hy, sl, sd, q⟩ := h
  cases rx
  cases rxs with
  | cons ry rt =>
    rename_i uy ut
    cases rt
    obtain ⟨bs, r1⟩ := Dp.reads I d y uy hy ry
    have hxs : PyData.canLayAll0 ds = true := SeqAt.canLay_of_shaped sl
    have hroom : X.A.units + 1 + min (PyData.depthAll ds) d.depth < cLine := room_in_shaped sd hu
    cases hl with
    | lst hs ha =>
      obtain ⟨its, rv, ⟨⟨cls, dd, data, sls⟩, n, ho, hc, hdn, hdt⟩, hlen⟩ := I.list hs
      simp only at hc hdt
      subst hc hdt
      obtain ⟨as, h4⟩ := Dp.readsAll I ds _ its ha rv
      have hmap : its.map (SeqAt.readOf s.heap) = ds := SeqAt.readsAll_map ds its as hxs h4
      refine call_meets PySem.F.slot_list_count ⟨_, ho, rfl⟩ PySem.F.entry_list_count (PySem.F.args_list_count_2 _ _)
        (SeqAt.list_countAt a its.toArray n dd sls uy (fun u => PyData.eqv (SeqAt.readOf s.heap u) d)) ⟨ho, SeqAt.items_eqAt (vs := its.toArray) (show ReadsAll s.heap its.toArray.toList ds as from h4) r1 hxs (SeqAt.canLay_of_shaped sd) hroom, ?_⟩
      have ec : its.toArray.toList.countP (fun u => PyData.eqv (SeqAt.readOf s.heap u) d) = ds.countP fun z => PyData.eqv z d := by
        rw [← hmap, List.countP_map]; rfl
      refine ⟨.int ((ds.countP fun z => PyData.eqv z d : Nat) : Int), H, I.tok _, ⟨s.toks, ?_⟩, q⟩
      show Value.int ((its.toArray.toList.countP (fun u => PyData.eqv (SeqAt.readOf s.heap u) d) : Nat) : Int) s.toks = Value.int ((ds.countP fun z => PyData.eqv z d : Nat) : Int) s.toks
      rw [ec]
theorem mt_countX {X : Cx} {k : Nat} (hr : Room k X.A) : MtR X "list.count" (rCountD X.K) := mt_countD (by have := hr.un; omega)
def countDM (d : D) (as : List D) : M D := fun S => match as with
  | [y] => (match d.asRef, pyD S d, pyD S y with
    | some _, some (.list ds), some p => if SeqAt.shaped (.list ds) = true ∧ SeqAt.shaped p = true then .ok (.int ((ds.countP fun z => PyData.eqv z p : Nat) : Int)) S else .bad
    | _, _, _ => .bad)
  | _ => .bad
section
variable {c : Gx} {W : WX} {S : Store}
theorem s_countD : SemM c W (rCountD c.K) countDM := by
  intro σ H μ S x d xs ds Q s rx rxs p
  unfold countDM at p
  split at p
  · rename_i y
    obtain ⟨v, rfl, rv⟩ := rpl1 rxs
    split at p
    · rename_i k ds' pp h1 h2 h3
      obtain ⟨rfl, a, rfl, ha⟩ := rx.asRef h1
      obtain ⟨a1, a2, a3⟩ := py_ok s 199 _ _ _ h2 rx
      obtain ⟨b1, b2, b3⟩ := py_ok s 199 _ _ _ h3 rv
      split at p
      · rename_i hsh
        exact ⟨a, v, pp, ds', rfl, rfl, a1, b1, hsh.1, hsh.2, p.fin s (.int _)⟩
      · exact p.elim
    · exact p.elim
  · exact p.elim
end
end CK
end

section
set_option Elab.async false
set_option linter.all false
set_option maxRecDepth 100000
set_option maxHeartbeats 4000000
namespace CK
open PySem PySem.Spec PyProof.Rows L2


section
variable {X : Cx} {k : Nat}
end
section
variable {c : Gx} {W : WX}
end
end CK
end

section
set_option Elab.async false
set_option linter.all false
set_option maxRecDepth 100000
set_option maxHeartbeats 4000000
namespace CK
open PySem PySem.Spec PyProof.Rows L2


section
variable {prog : Program} {w : World} {A : Around} {E : Value → Shared → Prop} {s : Shared}
end
section
variable {c : Gx} {W : WX}
end
end CK
end

section
set_option Elab.async false
set_option linter.all false
set_option maxRecDepth 100000
set_option maxHeartbeats 4000000
namespace CK
open PySem PySem.Spec PyProof.Rows L2

section
variable {c : Gx} {W : WX} {μ : List Addr} {H : Hp}
end
end CK
end

section
set_option Elab.async false
set_option linter.all false
set_option maxRecDepth 100000
set_option maxHeartbeats 4000000
namespace CK
open PySem PySem.Spec PyProof.Rows L2

section
variable {c : Gx} {W : WX}
end
end CK
namespace CK
open PySem PySem.Spec PyProof.Rows L2
end CK
namespace CK
open PySem PySem.Spec PyProof.Rows L2
section
variable {c : Gx} {W : WX}
end
end CK
end

section
set_option Elab.async false
set_option linter.all false
set_option maxRecDepth 100000
set_option maxHeartbeats 4000000
namespace CK
open PySem PySem.Spec PyProof.Rows L2

section
variable {c : Gx} {W : WX} {μ : List Addr} {H : Hp}
end
end CK
end

section
set_option Elab.async false
set_option linter.all false
set_option maxRecDepth 100000
set_option maxHeartbeats 4000000
namespace CK
open PySem PySem.Spec PyProof.Rows L2

end CK
end

section
set_option Elab.async false
set_option linter.all false
set_option maxRecDepth 100000
set_option maxHeartbeats 4000000
namespace CK
open PySem PySem.Spec PyProof.Rows L2

section
variable {c : Gx} {W : WX} {μ : List Addr} {H : Hp}
end
end CK
end

section
set_option Elab.async false
set_option linter.all false
set_option exponentiation.threshold 100000
set_option maxRecDepth 100000
set_option maxHeartbeats 4000000
namespace CK
namespace Lib
open PySem PySem.Spec PyProof.Rows L2
local macro_rules | `(tactic| walk_at "ck") => `(tactic| try simp only [wp_seq, wp_asg, wp_if, wp_ret, wp_retN, wp_drop, wp_fn, wp_var0, wp_varS, wp_mC, wp_m2, wp_m1, wp_nil, wp_cons, wp_args, wp_call, wp_tst, wp_and, wp_or, wp_not, wp_andV, wp_orV, wp_notV, wp_ifE, wp_chain, wp_nx, wp_brk, wp_cnt, aft_nx, aft_rt, aft_bk, aft_ct, aft_xc, fin_rt, fin_nx, fin_xc, fin_bk, fin_ct, wp_gNm, wp_gTp, wp_gsNil, wp_gsCons, wp_gSub, wp_par, wp_par3, wp_i0, wp_iC, wp_addI, wp_addT, wp_mulI, wp_neg, wp_tup, wp_lst, sz0, sz1, sz2, sz3, sz4, sz5, sz6, sz7, sz8, wp_yes, wp_ixT, wp_ixL, wp_setL, wp_isi, tyN, isi_ii, isi_ib, isi_bi, isi_bb, exists_and_left, wp_ML, wp_ML0, isLs_ref, wp_append, wp_pop, wp_tupleR, wp_tupleT, wp_listR, wp_listT, wp_all, wp_any, wp_sum, wp_notB, wp_isB, wp_isN, wp_notN, Option.isSome_some, wp_rng1, wp_rng2, wp_rng3, lsAt, lsO_lst, lsO_fro, lstO_lst, wp_lenR, lenO_lst, lenO_fro, lenO_dK, List.length_map, List.getElem?_cons_zero, List.getElem?_cons_succ, wp_eqI, wp_neI, wp_eqB, wp_neB, wp_abs, wp_intI, wp_intB, wp_max2, wp_min2, wp_lenT, wp_for, wp_ok, wp_bad, lp_nx, lp_ct, lp_bk, lp_rt, lp_xc, asBl_bl, at0, at1, at2, List.map_cons, List.map_nil, List.cons_append, List.nil_append, List.length_cons, List.length_nil, List.replicate, List.set_cons_zero, List.set_cons_succ, Nat.reduceAdd, Int.reduceToNat, Int.reducePow, Int.reduceNeg, Int.reduceMul, Int.reduceAdd, Int.reduceSub, Int.reduceMod, Int.reduceDiv, Int.reduceLT, Int.reduceLE, Int.zero_mul, Int.zero_add, true_and, and_true, Nat.reduceSub, if_true, Option.some.injEq, exists_eq_left', Bool.not_true, Bool.not_false, decide_eq_true_eq, Bool.false_eq_true, if_false])
local macro_rules | `(tactic| walk_at "cks") => `(tactic| try simp only [wp_seq, wp_asg, wp_if, wp_ret, wp_retN, wp_drop, wp_fn, wp_var0, wp_varS, wp_mC, wp_m2, wp_m1, wp_nil, wp_cons, wp_args, wp_call, wp_tst, wp_and, wp_or, wp_not, wp_andV, wp_orV, wp_notV, wp_ifE, wp_chain, wp_nx, wp_brk, wp_cnt, aft_nx, aft_rt, aft_bk, aft_ct, aft_xc, fin_rt, fin_nx, fin_xc, fin_bk, fin_ct, wp_gNm, wp_gTp, wp_gsNil, wp_gsCons, wp_gSub, wp_par, wp_par3, wp_i0, wp_iC, wp_addI, wp_addT, wp_mulI, wp_neg, wp_tup, wp_lst, sz0, sz1, sz2, sz3, sz4, sz5, sz6, sz7, sz8, wp_yes, wp_ixT, wp_ixL, wp_setL, wp_isi, tyN, isi_ii, isi_ib, isi_bi, isi_bb, exists_and_left, wp_ML, wp_ML0, isLs_ref, wp_append, wp_pop, wp_tupleR, wp_tupleT, wp_listR, wp_listT, wp_all, wp_any, wp_sum, wp_notB, wp_isB, wp_isN, wp_notN, Option.isSome_some, wp_rng1, wp_rng2, wp_rng3, lsAt, lsO_lst, lsO_fro, lstO_lst, wp_lenR, lenO_lst, lenO_fro, lenO_dK, List.length_map, List.getElem?_cons_zero, List.getElem?_cons_succ, wp_eqI, wp_neI, wp_eqB, wp_neB, wp_abs, wp_intI, wp_intB, wp_max2, wp_min2, wp_lenT, wp_for, wp_ok, wp_bad, lp_nx, lp_ct, lp_bk, lp_rt, lp_xc, asBl_bl, at0, at1, at2, List.map_cons, List.map_nil, List.cons_append, List.nil_append, List.length_cons, List.length_nil, List.replicate, List.set_cons_zero, List.set_cons_succ, Nat.reduceAdd, Int.reduceToNat, Int.reducePow, Int.reduceNeg, Int.reduceMul, Int.reduceAdd, Int.reduceSub, Int.reduceMod, Int.reduceDiv, Int.reduceLT, Int.reduceLE, Int.zero_mul, Int.zero_add, true_and, and_true, Nat.reduceSub, if_true, Option.some.injEq, exists_eq_left', Bool.not_true, Bool.not_false, decide_eq_true_eq, Bool.false_eq_true, if_false, *])
local macro_rules | `(tactic| walk_at "ck1") => `(tactic| try simp only [wp_seq, wp_asg, wp_if, wp_ret, wp_retN, wp_drop, wp_fn, wp_var0, wp_varS, wp_mC, wp_m2, wp_m1, wp_nil, wp_cons, wp_args, wp_call, wp_tst, wp_and, wp_or, wp_not, wp_andV, wp_orV, wp_notV, wp_ifE, wp_chain, wp_nx, wp_brk, wp_cnt, aft_rt, aft_bk, aft_ct, aft_xc, fin_rt, fin_nx, fin_xc, fin_bk, fin_ct, wp_gNm, wp_gTp, wp_gsNil, wp_gsCons, wp_gSub, wp_par, wp_par3, wp_i0, wp_iC, wp_addI, wp_addT, wp_mulI, wp_neg, wp_tup, wp_lst, sz0, sz1, sz2, sz3, sz4, sz5, sz6, sz7, sz8, wp_yes, wp_ixT, wp_ixL, wp_setL, wp_isi, tyN, isi_ii, isi_ib, isi_bi, isi_bb, exists_and_left, wp_ML, wp_ML0, isLs_ref, wp_append, wp_pop, wp_tupleR, wp_tupleT, wp_listR, wp_listT, wp_all, wp_any, wp_sum, wp_notB, wp_isB, wp_isN, wp_notN, Option.isSome_some, wp_rng1, wp_rng2, wp_rng3, lsAt, lsO_lst, lsO_fro, lstO_lst, wp_lenR, lenO_lst, lenO_fro, lenO_dK, List.length_map, List.getElem?_cons_zero, List.getElem?_cons_succ, wp_eqI, wp_neI, wp_eqB, wp_neB, wp_abs, wp_intI, wp_intB, wp_max2, wp_min2, wp_lenT, wp_for, wp_ok, wp_bad, lp_nx, lp_ct, lp_bk, lp_rt, lp_xc, asBl_bl, at0, at1, at2, List.map_cons, List.map_nil, List.cons_append, List.nil_append, List.length_cons, List.length_nil, List.replicate, List.set_cons_zero, List.set_cons_succ, Nat.reduceAdd, Int.reduceToNat, Int.reducePow, Int.reduceNeg, Int.reduceMul, Int.reduceAdd, Int.reduceSub, Int.reduceMod, Int.reduceDiv, Int.reduceLT, Int.reduceLE, Int.zero_mul, Int.zero_add, true_and, and_true, Nat.reduceSub, if_true, Option.some.injEq, exists_eq_left', Bool.not_true, Bool.not_false, decide_eq_true_eq, Bool.false_eq_true, if_false])
def law_pot_M : List D → M D := mFn 3
 (mSeq (mAsg (mC (.int 0)) (gNm 2))
 (mSeq (mIf (mTst (m2 ltM (mVar 1) (mArgs lenM (mCons (mVar 0) mNil))))
 (mAsg (m2 modM (mArgs absM (mCons (m2 ixM (mVar 0) (mVar 1)) mNil)) (m2 powM (m2 powM (mC (.int 10)) (mC (.int 60))) (mC (.int 4)))) (gNm 2))
 mNx)
 (mRet (mArgs lstM (mCons (m2 mulM (mVar 2) (mArgs intM (mCons (m2 geM (mVar 2) (m2 powM (mC (.int 10)) (mC (.int 18)))) mNil))) (mCons (m2 modM (m2 powM (m2 addM (m2 addM (m2 modM (mVar 2) (mC (.int 2147483629))) (m2 mulM (mC (.int 7919)) (mVar 1))) (mC (.int 1))) (mC (.int 5))) (mC (.int 2147483647))) mNil))))))
def law_take_M : List D → M D := mFn 3
 (mSeq (mIf (mTst (m2 gtM (m2 ixM (mVar 0) (mC (.int 0))) (mC (.int 0))))
 (mSeq (mAsg (m2 modM (m2 ixM (mVar 0) (mC (.int 0))) (mVar 1)) (gNm 2))
 (mSeq (mAsg (m2 fdivM (m2 ixM (mVar 0) (mC (.int 0))) (mVar 1)) (gSubM (mVar 0) (mC (.int 0)) setM))
 (mRet (mVar 2))))
 mNx)
 (mSeq (mAsg (m2 modM (m2 addM (m2 mulM (m2 ixM (mVar 0) (mC (.int 1))) (mC (.int 69621))) (mC (.int 12345))) (mC (.int 2147483647))) (gSubM (mVar 0) (mC (.int 1)) setM))
 (mRet (m2 modM (m2 fdivM (m2 modM (m2 mulM (m2 ixM (mVar 0) (mC (.int 1))) (m2 ixM (mVar 0) (mC (.int 1)))) (mC (.int 2147483629))) (mC (.int 64))) (mVar 1)))))
def law_great_M : List D → M D := mFn 1
 (mRet (m2 addM (m2 mulM (m2 addM (m2 mulM (mCall 2 law_take_M (mCons (mVar 0) (mCons (m2 powM (mC (.int 10)) (mC (.int 6))) mNil))) (m2 powM (mC (.int 10)) (mC (.int 6)))) (mCall 2 law_take_M (mCons (mVar 0) (mCons (m2 powM (mC (.int 10)) (mC (.int 6))) mNil)))) (m2 powM (mC (.int 10)) (mC (.int 6)))) (mCall 2 law_take_M (mCons (mVar 0) (mCons (m2 powM (mC (.int 10)) (mC (.int 6))) mNil)))))
def law_great2_M : List D → M D := mFn 3
 (mSeq (mAsg (mCall 2 law_take_M (mCons (mVar 0) (mCons (m2 powM (mC (.int 10)) (mC (.int 6))) mNil))) (gNm 1))
 (mSeq (mAsg (mCall 2 law_take_M (mCons (mVar 0) (mCons (m2 powM (mC (.int 10)) (mC (.int 6))) mNil))) (gNm 2))
 (mRet (mArgs minM (mCons (m2 powM (mC (.int 10)) (mC (.int 18))) (mCons (m2 addM (m2 mulM (m2 addM (m2 mulM (mCall 2 law_take_M (mCons (mVar 0) (mCons (m2 addM (m2 powM (mC (.int 10)) (mC (.int 6))) (mC (.int 1))) mNil))) (m2 powM (mC (.int 10)) (mC (.int 6)))) (mVar 2)) (m2 powM (mC (.int 10)) (mC (.int 6)))) (mVar 1)) mNil))))))

def pot (a b : Int) : O := .lst [.int a, .int b]
structure PotOk (a b : Int) : Prop where
  a0 : 0 ≤ a
  a1 : a < 2 ^ 1300
  b0 : 0 ≤ b
  b1 : b < 2147483647
def PotAt (S : Store) (p : Nat) : Prop := ∃ a b, S[p]? = some (pot a b) ∧ PotOk a b
theorem cmul_of {i j : Int} (h1 : -(2 ^ 4000) < i) (h2 : i < 2 ^ 4000) (h3 : -(2 ^ 4000) < j) (h4 : j < 2 ^ 4000) : CMulX i j :=
  mulx_ok (a := 4000) (b := 4000) (by omega) (by omega) (by decide)
theorem big200 : (2 : Int) ^ 200 < 2 ^ 4000 := by decide +kernel
theorem cmul_s {i j : Int} (h1 : -(2 ^ 200) < i) (h2 : i < 2 ^ 200) (h3 : -(2 ^ 200) < j) (h4 : j < 2 ^ 200) : CMulX i j :=
  mulx_ok (a := 200) (b := 200) (by omega) (by omega) (by decide)
theorem cdiv_s {i j : Int} (h1 : 0 < j) (h2 : j < 2 ^ 200) : CDivW i j := wide_div (b := 200) h1 (by omega) (by decide) (by decide)
theorem cdiv_of {i j : Int} (h1 : 0 < j) (h2 : j < 2 ^ 4000) : CDivW i j := wide_div (b := 4000) h1 (by omega) (by decide) (by decide)
theorem PotAt.set {S : Store} {p : Nat} {a b : Int} (h : PotAt S p) (ok : PotOk a b) : PotAt (S.set p (pot a b)) p := by
  obtain ⟨a', b', h1, _⟩ := h
  exact ⟨a, b, List.getElem?_set_self (List.getElem?_eq_some_iff.mp h1).1, ok⟩

structure Kp (p : Nat) (S S' : Store) : Prop where
  pt : PotAt S' p
  kp : ∀ (i : Nat) (o : O), i ≠ p → S[i]? = some o → S'[i]? = some o
  ln : S.length ≤ S'.length
theorem Kp.refl {p : Nat} {S : Store} (h : PotAt S p) : Kp p S S := ⟨h, fun _ _ _ h => h, Nat.le_refl _⟩
theorem Kp.trans {p : Nat} {S S1 S2 : Store} (a : Kp p S S1) (b : Kp p S1 S2) : Kp p S S2 := ⟨b.pt, fun i o hi h => b.kp i o hi (a.kp i o hi h), Nat.le_trans a.ln b.ln⟩

theorem cp6 : CPowX 10 6 := by decide +kernel
theorem cp18 : CPowX 10 18 := by decide +kernel
theorem cp60 : CPowX 10 60 := by decide +kernel
theorem get_old {S T : Store} {k : Nat} {o : O} (h : S[k]? = some o) : (S ++ T)[k]? = some o := by
  rw [List.getElem?_append_left (List.getElem?_eq_some_iff.mp h).1]; exact h
theorem get_lt {α : Type} {l : List α} {i : Nat} {x : α} (h : l[i]? = some x) : i < l.length := (List.getElem?_eq_some_iff.mp h).1
theorem PotAt.app {S T : Store} {p : Nat} (h : PotAt S p) : PotAt (S ++ T) p := let ⟨a, b, h1, h2⟩ := h; ⟨a, b, get_old h1, h2⟩
theorem PotAt.lt {S : Store} {p : Nat} (h : PotAt S p) : p < S.length := let ⟨_, _, h1, _⟩ := h; get_lt h1
theorem Kp.app {p : Nat} {S S' T : Store} (h : Kp p S S') : Kp p S (S' ++ T) := ⟨h.pt.app, fun i o hi e => get_old (h.kp i o hi e), by rw [List.length_append]; have := h.ln; omega⟩

end Lib
end CK
end

section
set_option Elab.async false
set_option linter.all false
set_option exponentiation.threshold 100000
set_option maxRecDepth 100000
set_option maxHeartbeats 4000000
namespace CK
namespace Lib
open PySem PySem.Spec PyProof.Rows L2
local macro_rules | `(tactic| walk_at "ck") => `(tactic| try simp only [wp_seq, wp_asg, wp_if, wp_ret, wp_retN, wp_drop, wp_fn, wp_var0, wp_varS, wp_mC, wp_m2, wp_m1, wp_nil, wp_cons, wp_args, wp_call, wp_tst, wp_and, wp_or, wp_not, wp_andV, wp_orV, wp_notV, wp_ifE, wp_chain, wp_nx, wp_brk, wp_cnt, aft_nx, aft_rt, aft_bk, aft_ct, aft_xc, fin_rt, fin_nx, fin_xc, fin_bk, fin_ct, wp_gNm, wp_gTp, wp_gsNil, wp_gsCons, wp_gSub, wp_par, wp_par3, wp_i0, wp_iC, wp_addI, wp_addT, wp_mulI, wp_neg, wp_tup, wp_lst, sz0, sz1, sz2, sz3, sz4, sz5, sz6, sz7, sz8, wp_yes, wp_ixT, wp_ixL, wp_setL, wp_isi, tyN, isi_ii, isi_ib, isi_bi, isi_bb, isi_nb, isi_ni, isi_ns, isi_nt, isi_nl, isi_nd, isi_bs, isi_bt, isi_bl, isi_bd, isi_is, isi_it, isi_il, isi_id, isi_sb, isi_si, isi_ss, isi_st, isi_sl, isi_sd, isi_tb, isi_ti, isi_ts, isi_tt, isi_tl, isi_td, isi_lb, isi_li, isi_ls, isi_lt, isi_ll, isi_ld, isi_db, isi_di, isi_ds, isi_dt, isi_dl, isi_dd, wp_slice, wp_noPart, wp_part, asInt_int, wp_slT, wp_slL, wp_mulT, wp_extend, wp_revL, exists_and_left, wp_ML, wp_ML0, isLs_ref, wp_append, wp_pop, wp_tupleR, wp_tupleT, wp_listR, wp_listT, wp_all, wp_any, wp_sum, wp_notB, wp_isB, wp_isN, wp_notN, Option.isSome_some, wp_rng1, wp_rng2, wp_rng3, lsAt, lsO_lst, lsO_fro, lstO_lst, wp_lenR, lenO_lst, lenO_fro, lenO_dK, List.length_map, List.getElem?_cons_zero, List.getElem?_cons_succ, wp_eqI, wp_neI, wp_eqB, wp_neB, wp_abs, wp_intI, wp_intB, wp_max2, wp_min2, wp_lenT, wp_for, wp_ok, wp_bad, lp_nx, lp_ct, lp_bk, lp_rt, lp_xc, asBl_bl, at0, at1, at2, List.map_cons, List.map_nil, List.cons_append, List.nil_append, List.length_cons, List.length_nil, List.replicate, List.set_cons_zero, List.set_cons_succ, Nat.reduceAdd, Int.reduceToNat, Int.reducePow, Int.reduceNeg, Int.reduceMul, Int.reduceAdd, Int.reduceSub, Int.reduceMod, Int.reduceDiv, Int.reduceLT, Int.reduceLE, Int.zero_mul, Int.zero_add, Int.cast_ofNat_Int, Int.reduceBEq, Nat.reduceLeDiff, Nat.reduceEqDiff, true_and, and_true, Nat.reduceSub, if_true, Option.some.injEq, exists_eq_left', Bool.not_true, Bool.not_false, decide_eq_true_eq, Bool.false_eq_true, if_false])
local macro_rules | `(tactic| walk_at "cks") => `(tactic| try simp only [wp_seq, wp_asg, wp_if, wp_ret, wp_retN, wp_drop, wp_fn, wp_var0, wp_varS, wp_mC, wp_m2, wp_m1, wp_nil, wp_cons, wp_args, wp_call, wp_tst, wp_and, wp_or, wp_not, wp_andV, wp_orV, wp_notV, wp_ifE, wp_chain, wp_nx, wp_brk, wp_cnt, aft_nx, aft_rt, aft_bk, aft_ct, aft_xc, fin_rt, fin_nx, fin_xc, fin_bk, fin_ct, wp_gNm, wp_gTp, wp_gsNil, wp_gsCons, wp_gSub, wp_par, wp_par3, wp_i0, wp_iC, wp_addI, wp_addT, wp_mulI, wp_neg, wp_tup, wp_lst, sz0, sz1, sz2, sz3, sz4, sz5, sz6, sz7, sz8, wp_yes, wp_ixT, wp_ixL, wp_setL, wp_isi, tyN, isi_ii, isi_ib, isi_bi, isi_bb, isi_nb, isi_ni, isi_ns, isi_nt, isi_nl, isi_nd, isi_bs, isi_bt, isi_bl, isi_bd, isi_is, isi_it, isi_il, isi_id, isi_sb, isi_si, isi_ss, isi_st, isi_sl, isi_sd, isi_tb, isi_ti, isi_ts, isi_tt, isi_tl, isi_td, isi_lb, isi_li, isi_ls, isi_lt, isi_ll, isi_ld, isi_db, isi_di, isi_ds, isi_dt, isi_dl, isi_dd, wp_slice, wp_noPart, wp_part, asInt_int, wp_slT, wp_slL, wp_mulT, wp_extend, wp_revL, exists_and_left, wp_ML, wp_ML0, isLs_ref, wp_append, wp_pop, wp_tupleR, wp_tupleT, wp_listR, wp_listT, wp_all, wp_any, wp_sum, wp_notB, wp_isB, wp_isN, wp_notN, Option.isSome_some, wp_rng1, wp_rng2, wp_rng3, lsAt, lsO_lst, lsO_fro, lstO_lst, wp_lenR, lenO_lst, lenO_fro, lenO_dK, List.length_map, List.getElem?_cons_zero, List.getElem?_cons_succ, wp_eqI, wp_neI, wp_eqB, wp_neB, wp_abs, wp_intI, wp_intB, wp_max2, wp_min2, wp_lenT, wp_for, wp_ok, wp_bad, lp_nx, lp_ct, lp_bk, lp_rt, lp_xc, asBl_bl, at0, at1, at2, List.map_cons, List.map_nil, List.cons_append, List.nil_append, List.length_cons, List.length_nil, List.replicate, List.set_cons_zero, List.set_cons_succ, Nat.reduceAdd, Int.reduceToNat, Int.reducePow, Int.reduceNeg, Int.reduceMul, Int.reduceAdd, Int.reduceSub, Int.reduceMod, Int.reduceDiv, Int.reduceLT, Int.reduceLE, Int.zero_mul, Int.zero_add, Int.cast_ofNat_Int, Int.reduceBEq, Nat.reduceLeDiff, Nat.reduceEqDiff, true_and, and_true, Nat.reduceSub, if_true, Option.some.injEq, exists_eq_left', Bool.not_true, Bool.not_false, decide_eq_true_eq, Bool.false_eq_true, if_false, *])
local macro_rules | `(tactic| walk_at "ck1") => `(tactic| try simp only [wp_seq, wp_asg, wp_if, wp_ret, wp_retN, wp_drop, wp_fn, wp_var0, wp_varS, wp_mC, wp_m2, wp_m1, wp_nil, wp_cons, wp_args, wp_call, wp_tst, wp_and, wp_or, wp_not, wp_andV, wp_orV, wp_notV, wp_ifE, wp_chain, wp_nx, wp_brk, wp_cnt, aft_rt, aft_bk, aft_ct, aft_xc, fin_rt, fin_nx, fin_xc, fin_bk, fin_ct, wp_gNm, wp_gTp, wp_gsNil, wp_gsCons, wp_gSub, wp_par, wp_par3, wp_i0, wp_iC, wp_addI, wp_addT, wp_mulI, wp_neg, wp_tup, wp_lst, sz0, sz1, sz2, sz3, sz4, sz5, sz6, sz7, sz8, wp_yes, wp_ixT, wp_ixL, wp_setL, wp_isi, tyN, isi_ii, isi_ib, isi_bi, isi_bb, isi_nb, isi_ni, isi_ns, isi_nt, isi_nl, isi_nd, isi_bs, isi_bt, isi_bl, isi_bd, isi_is, isi_it, isi_il, isi_id, isi_sb, isi_si, isi_ss, isi_st, isi_sl, isi_sd, isi_tb, isi_ti, isi_ts, isi_tt, isi_tl, isi_td, isi_lb, isi_li, isi_ls, isi_lt, isi_ll, isi_ld, isi_db, isi_di, isi_ds, isi_dt, isi_dl, isi_dd, wp_slice, wp_noPart, wp_part, asInt_int, wp_slT, wp_slL, wp_mulT, wp_extend, wp_revL, exists_and_left, wp_ML, wp_ML0, isLs_ref, wp_append, wp_pop, wp_tupleR, wp_tupleT, wp_listR, wp_listT, wp_all, wp_any, wp_sum, wp_notB, wp_isB, wp_isN, wp_notN, Option.isSome_some, wp_rng1, wp_rng2, wp_rng3, lsAt, lsO_lst, lsO_fro, lstO_lst, wp_lenR, lenO_lst, lenO_fro, lenO_dK, List.length_map, List.getElem?_cons_zero, List.getElem?_cons_succ, wp_eqI, wp_neI, wp_eqB, wp_neB, wp_abs, wp_intI, wp_intB, wp_max2, wp_min2, wp_lenT, wp_for, wp_ok, wp_bad, lp_nx, lp_ct, lp_bk, lp_rt, lp_xc, asBl_bl, at0, at1, at2, List.map_cons, List.map_nil, List.cons_append, List.nil_append, List.length_cons, List.length_nil, List.replicate, List.set_cons_zero, List.set_cons_succ, Nat.reduceAdd, Int.reduceToNat, Int.reducePow, Int.reduceNeg, Int.reduceMul, Int.reduceAdd, Int.reduceSub, Int.reduceMod, Int.reduceDiv, Int.reduceLT, Int.reduceLE, Int.zero_mul, Int.zero_add, Int.cast_ofNat_Int, Int.reduceBEq, Nat.reduceLeDiff, Nat.reduceEqDiff, true_and, and_true, Nat.reduceSub, if_true, Option.some.injEq, exists_eq_left', Bool.not_true, Bool.not_false, decide_eq_true_eq, Bool.false_eq_true, if_false])
end Lib
end CK
end

section
set_option Elab.async false
set_option linter.all false
set_option exponentiation.threshold 100000
set_option maxRecDepth 100000
set_option maxHeartbeats 4000000
namespace CK
namespace Lib
open PySem PySem.Spec PyProof.Rows L2
local macro_rules | `(tactic| walk_at "ck") => `(tactic| try simp only [wp_seq, wp_asg, wp_if, wp_ret, wp_retN, wp_drop, wp_fn, wp_var0, wp_varS, wp_mC, wp_m2, wp_m1, wp_nil, wp_cons, wp_args, wp_call, wp_tst, wp_and, wp_or, wp_not, wp_andV, wp_orV, wp_notV, wp_ifE, wp_chain, wp_nx, wp_brk, wp_cnt, aft_nx, aft_rt, aft_bk, aft_ct, aft_xc, fin_rt, fin_nx, fin_xc, fin_bk, fin_ct, wp_gNm, wp_gTp, wp_gsNil, wp_gsCons, wp_gSub, wp_par, wp_par3, wp_i0, wp_iC, wp_addI, wp_addT, wp_mulI, wp_neg, wp_tup, wp_lst, sz0, sz1, sz2, sz3, sz4, sz5, sz6, sz7, sz8, wp_yes, wp_ixT, wp_ixL, wp_setL, wp_isi, tyN, isi_ii, isi_ib, isi_bi, isi_bb, isi_nb, isi_ni, isi_ns, isi_nt, isi_nl, isi_nd, isi_bs, isi_bt, isi_bl, isi_bd, isi_is, isi_it, isi_il, isi_id, isi_sb, isi_si, isi_ss, isi_st, isi_sl, isi_sd, isi_tb, isi_ti, isi_ts, isi_tt, isi_tl, isi_td, isi_lb, isi_li, isi_ls, isi_lt, isi_ll, isi_ld, isi_db, isi_di, isi_ds, isi_dt, isi_dl, isi_dd, wp_slice, wp_noPart, wp_part, asInt_int, wp_slT, wp_slL, wp_mulT, wp_src, wp_lc, wipeE, D.ref.injEq, D.tup.injEq, reduceCtorEq, false_and, exists_false, false_or, or_false, cpt2, cpt3, cpt4, cpt5, cpt6, cpt7, cpt8, cpt9, cpt10, cpt11, cpt12, cpt13, cpt14, cpt15, cpt16, cpt17, cpt18, cpt19, cpt20, cpt24, cpt30, cpt36, cpt40, cpt48, cpt50, cpt58, cpt59, cpt60, wp_extend, wp_revL, exists_and_left, wp_ML, wp_ML0, isLs_ref, wp_append, wp_pop, wp_tupleR, wp_tupleT, wp_listR, wp_listT, wp_all, wp_any, wp_sum, wp_notB, wp_isB, wp_isN, wp_notN, Option.isSome_some, wp_rng1, wp_rng2, wp_rng3, lsAt, lsO_lst, lsO_fro, lstO_lst, wp_lenR, lenO_lst, lenO_fro, lenO_dK, List.length_map, List.getElem?_cons_zero, List.getElem?_cons_succ, wp_eqI, wp_neI, wp_eqB, wp_neB, wp_abs, wp_intI, wp_intB, wp_max2, wp_min2, wp_lenT, wp_for, wp_ok, wp_bad, lp_nx, lp_ct, lp_bk, lp_rt, lp_xc, asBl_bl, at0, at1, at2, List.map_cons, List.map_nil, List.cons_append, List.nil_append, List.length_cons, List.length_nil, List.replicate, List.set_cons_zero, List.set_cons_succ, Nat.reduceAdd, Int.reduceToNat, Int.reducePow, Int.reduceNeg, Int.reduceMul, Int.reduceAdd, Int.reduceSub, Int.reduceMod, Int.reduceDiv, Int.reduceLT, Int.reduceLE, Int.zero_mul, Int.zero_add, Int.cast_ofNat_Int, Int.reduceBEq, Nat.reduceLeDiff, Nat.reduceEqDiff, true_and, and_true, Nat.reduceSub, if_true, Option.some.injEq, exists_eq_left', Bool.not_true, Bool.not_false, decide_eq_true_eq, Bool.false_eq_true, if_false])
local macro_rules | `(tactic| walk_at "cks") => `(tactic| try simp only [wp_seq, wp_asg, wp_if, wp_ret, wp_retN, wp_drop, wp_fn, wp_var0, wp_varS, wp_mC, wp_m2, wp_m1, wp_nil, wp_cons, wp_args, wp_call, wp_tst, wp_and, wp_or, wp_not, wp_andV, wp_orV, wp_notV, wp_ifE, wp_chain, wp_nx, wp_brk, wp_cnt, aft_nx, aft_rt, aft_bk, aft_ct, aft_xc, fin_rt, fin_nx, fin_xc, fin_bk, fin_ct, wp_gNm, wp_gTp, wp_gsNil, wp_gsCons, wp_gSub, wp_par, wp_par3, wp_i0, wp_iC, wp_addI, wp_addT, wp_mulI, wp_neg, wp_tup, wp_lst, sz0, sz1, sz2, sz3, sz4, sz5, sz6, sz7, sz8, wp_yes, wp_ixT, wp_ixL, wp_setL, wp_isi, tyN, isi_ii, isi_ib, isi_bi, isi_bb, isi_nb, isi_ni, isi_ns, isi_nt, isi_nl, isi_nd, isi_bs, isi_bt, isi_bl, isi_bd, isi_is, isi_it, isi_il, isi_id, isi_sb, isi_si, isi_ss, isi_st, isi_sl, isi_sd, isi_tb, isi_ti, isi_ts, isi_tt, isi_tl, isi_td, isi_lb, isi_li, isi_ls, isi_lt, isi_ll, isi_ld, isi_db, isi_di, isi_ds, isi_dt, isi_dl, isi_dd, wp_slice, wp_noPart, wp_part, asInt_int, wp_slT, wp_slL, wp_mulT, wp_src, wp_lc, wipeE, D.ref.injEq, D.tup.injEq, reduceCtorEq, false_and, exists_false, false_or, or_false, cpt2, cpt3, cpt4, cpt5, cpt6, cpt7, cpt8, cpt9, cpt10, cpt11, cpt12, cpt13, cpt14, cpt15, cpt16, cpt17, cpt18, cpt19, cpt20, cpt24, cpt30, cpt36, cpt40, cpt48, cpt50, cpt58, cpt59, cpt60, wp_extend, wp_revL, exists_and_left, wp_ML, wp_ML0, isLs_ref, wp_append, wp_pop, wp_tupleR, wp_tupleT, wp_listR, wp_listT, wp_all, wp_any, wp_sum, wp_notB, wp_isB, wp_isN, wp_notN, Option.isSome_some, wp_rng1, wp_rng2, wp_rng3, lsAt, lsO_lst, lsO_fro, lstO_lst, wp_lenR, lenO_lst, lenO_fro, lenO_dK, List.length_map, List.getElem?_cons_zero, List.getElem?_cons_succ, wp_eqI, wp_neI, wp_eqB, wp_neB, wp_abs, wp_intI, wp_intB, wp_max2, wp_min2, wp_lenT, wp_for, wp_ok, wp_bad, lp_nx, lp_ct, lp_bk, lp_rt, lp_xc, asBl_bl, at0, at1, at2, List.map_cons, List.map_nil, List.cons_append, List.nil_append, List.length_cons, List.length_nil, List.replicate, List.set_cons_zero, List.set_cons_succ, Nat.reduceAdd, Int.reduceToNat, Int.reducePow, Int.reduceNeg, Int.reduceMul, Int.reduceAdd, Int.reduceSub, Int.reduceMod, Int.reduceDiv, Int.reduceLT, Int.reduceLE, Int.zero_mul, Int.zero_add, Int.cast_ofNat_Int, Int.reduceBEq, Nat.reduceLeDiff, Nat.reduceEqDiff, true_and, and_true, Nat.reduceSub, if_true, Option.some.injEq, exists_eq_left', Bool.not_true, Bool.not_false, decide_eq_true_eq, Bool.false_eq_true, if_false, *])
local macro_rules | `(tactic| walk_at "ck1") => `(tactic| try simp only [wp_seq, wp_asg, wp_if, wp_ret, wp_retN, wp_drop, wp_fn, wp_var0, wp_varS, wp_mC, wp_m2, wp_m1, wp_nil, wp_cons, wp_args, wp_call, wp_tst, wp_and, wp_or, wp_not, wp_andV, wp_orV, wp_notV, wp_ifE, wp_chain, wp_nx, wp_brk, wp_cnt, aft_rt, aft_bk, aft_ct, aft_xc, fin_rt, fin_nx, fin_xc, fin_bk, fin_ct, wp_gNm, wp_gTp, wp_gsNil, wp_gsCons, wp_gSub, wp_par, wp_par3, wp_i0, wp_iC, wp_addI, wp_addT, wp_mulI, wp_neg, wp_tup, wp_lst, sz0, sz1, sz2, sz3, sz4, sz5, sz6, sz7, sz8, wp_yes, wp_ixT, wp_ixL, wp_setL, wp_isi, tyN, isi_ii, isi_ib, isi_bi, isi_bb, isi_nb, isi_ni, isi_ns, isi_nt, isi_nl, isi_nd, isi_bs, isi_bt, isi_bl, isi_bd, isi_is, isi_it, isi_il, isi_id, isi_sb, isi_si, isi_ss, isi_st, isi_sl, isi_sd, isi_tb, isi_ti, isi_ts, isi_tt, isi_tl, isi_td, isi_lb, isi_li, isi_ls, isi_lt, isi_ll, isi_ld, isi_db, isi_di, isi_ds, isi_dt, isi_dl, isi_dd, wp_slice, wp_noPart, wp_part, asInt_int, wp_slT, wp_slL, wp_mulT, wp_src, wp_lc, wipeE, D.ref.injEq, D.tup.injEq, reduceCtorEq, false_and, exists_false, false_or, or_false, cpt2, cpt3, cpt4, cpt5, cpt6, cpt7, cpt8, cpt9, cpt10, cpt11, cpt12, cpt13, cpt14, cpt15, cpt16, cpt17, cpt18, cpt19, cpt20, cpt24, cpt30, cpt36, cpt40, cpt48, cpt50, cpt58, cpt59, cpt60, wp_extend, wp_revL, exists_and_left, wp_ML, wp_ML0, isLs_ref, wp_append, wp_pop, wp_tupleR, wp_tupleT, wp_listR, wp_listT, wp_all, wp_any, wp_sum, wp_notB, wp_isB, wp_isN, wp_notN, Option.isSome_some, wp_rng1, wp_rng2, wp_rng3, lsAt, lsO_lst, lsO_fro, lstO_lst, wp_lenR, lenO_lst, lenO_fro, lenO_dK, List.length_map, List.getElem?_cons_zero, List.getElem?_cons_succ, wp_eqI, wp_neI, wp_eqB, wp_neB, wp_abs, wp_intI, wp_intB, wp_max2, wp_min2, wp_lenT, wp_for, wp_ok, wp_bad, lp_nx, lp_ct, lp_bk, lp_rt, lp_xc, asBl_bl, at0, at1, at2, List.map_cons, List.map_nil, List.cons_append, List.nil_append, List.length_cons, List.length_nil, List.replicate, List.set_cons_zero, List.set_cons_succ, Nat.reduceAdd, Int.reduceToNat, Int.reducePow, Int.reduceNeg, Int.reduceMul, Int.reduceAdd, Int.reduceSub, Int.reduceMod, Int.reduceDiv, Int.reduceLT, Int.reduceLE, Int.zero_mul, Int.zero_add, Int.cast_ofNat_Int, Int.reduceBEq, Nat.reduceLeDiff, Nat.reduceEqDiff, true_and, and_true, Nat.reduceSub, if_true, Option.some.injEq, exists_eq_left', Bool.not_true, Bool.not_false, decide_eq_true_eq, Bool.false_eq_true, if_false])

abbrev Card := Int × Int × Int
def cd (c : Card) : D := .tup [.int c.1, .int c.2.1, .int c.2.2]
inductive Tr where
  | e : Tr
  | n (l : Tr) (c : Card) (r : Tr) : Tr
def Tr.d : Tr → D
  | .e => .tup []
  | .n l c r => .tup [l.d, cd c, r.d]
def Tr.cards : Tr → List Card
  | .e => []
  | .n l c r => l.cards ++ c :: r.cards
def Tr.ht : Tr → Nat
  | .e => 0
  | .n l _ r => max l.ht r.ht + 1
def cpy (c : Card) : PyData := .tuple [.int c.1, .int c.2.1, .int c.2.2]
def Tr.py : Tr → PyData
  | .e => .tuple []
  | .n l c r => .tuple [l.py, cpy c, r.py]
section
variable {E : Exn → Store → Prop} {S : Store} {Q : D → Store → Prop}
end
theorem Kp.lt {w : Nat} {S T : Store} (h : Kp w S T) : w < T.length := h.pt.lt
theorem Kp.ls {w k : Nat} {S T : Store} {xs : List D} (h : Kp w S T) (hk : k ≠ w) (e : lsAt S k = some xs) : lsAt T k = some xs := by
  unfold lsAt at e ⊢
  cases q : S[k]? with
  | none => rw [q] at e; cases e
  | some o => rw [h.kp k o hk q]; rw [q] at e; exact e
theorem set_same {S : Store} {k : Nat} {o : O} (h : S[k]? = some o) : S.set k o = S := by
  apply List.ext_getElem?
  intro i
  by_cases hi : k = i
  · subst hi; rw [List.getElem?_set_self (get_lt h), h]
  · rw [List.getElem?_set_ne hi]
end Lib
end CK
end

section
set_option Elab.async false
set_option linter.all false
set_option exponentiation.threshold 100000
set_option maxRecDepth 100000
set_option maxHeartbeats 4000000
namespace CK
namespace Lib
open PySem PySem.Spec PyProof.Rows L2
local macro_rules | `(tactic| walk_at "ck") => `(tactic| try simp only [wp_seq, wp_asg, wp_if, wp_ret, wp_retN, wp_drop, wp_fn, wp_var0, wp_varS, wp_mC, wp_m2, wp_m1, wp_nil, wp_cons, wp_args, wp_call, wp_tst, wp_and, wp_or, wp_not, wp_andV, wp_orV, wp_notV, wp_ifE, wp_chain, wp_nx, wp_brk, wp_cnt, aft_nx, aft_rt, aft_bk, aft_ct, aft_xc, fin_rt, fin_nx, fin_xc, fin_bk, fin_ct, wp_gNm, wp_gTp, wp_gsNil, wp_gsCons, wp_gSub, wp_par, wp_par3, wp_i0, wp_iC, wp_addI, wp_addT, wp_mulI, wp_neg, wp_tup, wp_lst, sz0, sz1, sz2, sz3, sz4, sz5, sz6, sz7, sz8, wp_yes, wp_ixT, wp_ixL, wp_setL, wp_isi, tyN, isi_ii, isi_ib, isi_bi, isi_bb, isi_nb, isi_ni, isi_ns, isi_nt, isi_nl, isi_nd, isi_bs, isi_bt, isi_bl, isi_bd, isi_is, isi_it, isi_il, isi_id, isi_sb, isi_si, isi_ss, isi_st, isi_sl, isi_sd, isi_tb, isi_ti, isi_ts, isi_tt, isi_tl, isi_td, isi_lb, isi_li, isi_ls, isi_lt, isi_ll, isi_ld, isi_db, isi_di, isi_ds, isi_dt, isi_dl, isi_dd, wp_slice, wp_noPart, wp_part, asInt_int, wp_slT, wp_slL, wp_mulT, wp_src, wp_lc, wipeE, D.ref.injEq, D.tup.injEq, reduceCtorEq, false_and, exists_false, false_or, or_false, cpt2, cpt3, cpt4, cpt5, cpt6, cpt7, cpt8, cpt9, cpt10, cpt11, cpt12, cpt13, cpt14, cpt15, cpt16, cpt17, cpt18, cpt19, cpt20, cpt24, cpt30, cpt36, cpt40, cpt48, cpt50, cpt58, cpt59, cpt60, wp_extend, wp_revL, exists_and_left, wp_ML, wp_ML0, isLs_ref, wp_append, wp_pop, wp_tupleR, wp_tupleT, wp_listR, wp_listT, wp_all, wp_any, wp_sum, wp_notB, wp_isB, wp_isN, wp_notN, Option.isSome_some, wp_rng1, wp_rng2, wp_rng3, lsAt, lsO_lst, lsO_fro, lstO_lst, wp_lenR, lenO_lst, lenO_fro, lenO_dK, List.length_map, List.getElem?_cons_zero, List.getElem?_cons_succ, wp_eqI, wp_neI, wp_eqB, wp_neB, wp_abs, wp_intI, wp_intB, wp_max2, wp_min2, wp_lenT, wp_for, wp_ok, wp_bad, lp_nx, lp_ct, lp_bk, lp_rt, lp_xc, asBl_bl, at0, at1, at2, List.map_cons, List.map_nil, List.cons_append, List.nil_append, List.length_cons, List.length_nil, List.replicate, List.set_cons_zero, List.set_cons_succ, Nat.reduceAdd, Int.reduceToNat, Int.reducePow, Int.reduceNeg, Int.reduceMul, Int.reduceAdd, Int.reduceSub, Int.reduceMod, Int.reduceDiv, Int.reduceLT, Int.reduceLE, Int.zero_mul, Int.zero_add, Int.cast_ofNat_Int, Int.reduceBEq, Nat.reduceLeDiff, Nat.reduceEqDiff, true_and, and_true, Nat.reduceSub, if_true, Option.some.injEq, exists_eq_left', Bool.not_true, Bool.not_false, decide_eq_true_eq, Bool.false_eq_true, if_false])
local macro_rules | `(tactic| walk_at "cks") => `(tactic| try simp only [wp_seq, wp_asg, wp_if, wp_ret, wp_retN, wp_drop, wp_fn, wp_var0, wp_varS, wp_mC, wp_m2, wp_m1, wp_nil, wp_cons, wp_args, wp_call, wp_tst, wp_and, wp_or, wp_not, wp_andV, wp_orV, wp_notV, wp_ifE, wp_chain, wp_nx, wp_brk, wp_cnt, aft_nx, aft_rt, aft_bk, aft_ct, aft_xc, fin_rt, fin_nx, fin_xc, fin_bk, fin_ct, wp_gNm, wp_gTp, wp_gsNil, wp_gsCons, wp_gSub, wp_par, wp_par3, wp_i0, wp_iC, wp_addI, wp_addT, wp_mulI, wp_neg, wp_tup, wp_lst, sz0, sz1, sz2, sz3, sz4, sz5, sz6, sz7, sz8, wp_yes, wp_ixT, wp_ixL, wp_setL, wp_isi, tyN, isi_ii, isi_ib, isi_bi, isi_bb, isi_nb, isi_ni, isi_ns, isi_nt, isi_nl, isi_nd, isi_bs, isi_bt, isi_bl, isi_bd, isi_is, isi_it, isi_il, isi_id, isi_sb, isi_si, isi_ss, isi_st, isi_sl, isi_sd, isi_tb, isi_ti, isi_ts, isi_tt, isi_tl, isi_td, isi_lb, isi_li, isi_ls, isi_lt, isi_ll, isi_ld, isi_db, isi_di, isi_ds, isi_dt, isi_dl, isi_dd, wp_slice, wp_noPart, wp_part, asInt_int, wp_slT, wp_slL, wp_mulT, wp_src, wp_lc, wipeE, D.ref.injEq, D.tup.injEq, reduceCtorEq, false_and, exists_false, false_or, or_false, cpt2, cpt3, cpt4, cpt5, cpt6, cpt7, cpt8, cpt9, cpt10, cpt11, cpt12, cpt13, cpt14, cpt15, cpt16, cpt17, cpt18, cpt19, cpt20, cpt24, cpt30, cpt36, cpt40, cpt48, cpt50, cpt58, cpt59, cpt60, wp_extend, wp_revL, exists_and_left, wp_ML, wp_ML0, isLs_ref, wp_append, wp_pop, wp_tupleR, wp_tupleT, wp_listR, wp_listT, wp_all, wp_any, wp_sum, wp_notB, wp_isB, wp_isN, wp_notN, Option.isSome_some, wp_rng1, wp_rng2, wp_rng3, lsAt, lsO_lst, lsO_fro, lstO_lst, wp_lenR, lenO_lst, lenO_fro, lenO_dK, List.length_map, List.getElem?_cons_zero, List.getElem?_cons_succ, wp_eqI, wp_neI, wp_eqB, wp_neB, wp_abs, wp_intI, wp_intB, wp_max2, wp_min2, wp_lenT, wp_for, wp_ok, wp_bad, lp_nx, lp_ct, lp_bk, lp_rt, lp_xc, asBl_bl, at0, at1, at2, List.map_cons, List.map_nil, List.cons_append, List.nil_append, List.length_cons, List.length_nil, List.replicate, List.set_cons_zero, List.set_cons_succ, Nat.reduceAdd, Int.reduceToNat, Int.reducePow, Int.reduceNeg, Int.reduceMul, Int.reduceAdd, Int.reduceSub, Int.reduceMod, Int.reduceDiv, Int.reduceLT, Int.reduceLE, Int.zero_mul, Int.zero_add, Int.cast_ofNat_Int, Int.reduceBEq, Nat.reduceLeDiff, Nat.reduceEqDiff, true_and, and_true, Nat.reduceSub, if_true, Option.some.injEq, exists_eq_left', Bool.not_true, Bool.not_false, decide_eq_true_eq, Bool.false_eq_true, if_false, *])
local macro_rules | `(tactic| walk_at "ck1") => `(tactic| try simp only [wp_seq, wp_asg, wp_if, wp_ret, wp_retN, wp_drop, wp_fn, wp_var0, wp_varS, wp_mC, wp_m2, wp_m1, wp_nil, wp_cons, wp_args, wp_call, wp_tst, wp_and, wp_or, wp_not, wp_andV, wp_orV, wp_notV, wp_ifE, wp_chain, wp_nx, wp_brk, wp_cnt, aft_rt, aft_bk, aft_ct, aft_xc, fin_rt, fin_nx, fin_xc, fin_bk, fin_ct, wp_gNm, wp_gTp, wp_gsNil, wp_gsCons, wp_gSub, wp_par, wp_par3, wp_i0, wp_iC, wp_addI, wp_addT, wp_mulI, wp_neg, wp_tup, wp_lst, sz0, sz1, sz2, sz3, sz4, sz5, sz6, sz7, sz8, wp_yes, wp_ixT, wp_ixL, wp_setL, wp_isi, tyN, isi_ii, isi_ib, isi_bi, isi_bb, isi_nb, isi_ni, isi_ns, isi_nt, isi_nl, isi_nd, isi_bs, isi_bt, isi_bl, isi_bd, isi_is, isi_it, isi_il, isi_id, isi_sb, isi_si, isi_ss, isi_st, isi_sl, isi_sd, isi_tb, isi_ti, isi_ts, isi_tt, isi_tl, isi_td, isi_lb, isi_li, isi_ls, isi_lt, isi_ll, isi_ld, isi_db, isi_di, isi_ds, isi_dt, isi_dl, isi_dd, wp_slice, wp_noPart, wp_part, asInt_int, wp_slT, wp_slL, wp_mulT, wp_src, wp_lc, wipeE, D.ref.injEq, D.tup.injEq, reduceCtorEq, false_and, exists_false, false_or, or_false, cpt2, cpt3, cpt4, cpt5, cpt6, cpt7, cpt8, cpt9, cpt10, cpt11, cpt12, cpt13, cpt14, cpt15, cpt16, cpt17, cpt18, cpt19, cpt20, cpt24, cpt30, cpt36, cpt40, cpt48, cpt50, cpt58, cpt59, cpt60, wp_extend, wp_revL, exists_and_left, wp_ML, wp_ML0, isLs_ref, wp_append, wp_pop, wp_tupleR, wp_tupleT, wp_listR, wp_listT, wp_all, wp_any, wp_sum, wp_notB, wp_isB, wp_isN, wp_notN, Option.isSome_some, wp_rng1, wp_rng2, wp_rng3, lsAt, lsO_lst, lsO_fro, lstO_lst, wp_lenR, lenO_lst, lenO_fro, lenO_dK, List.length_map, List.getElem?_cons_zero, List.getElem?_cons_succ, wp_eqI, wp_neI, wp_eqB, wp_neB, wp_abs, wp_intI, wp_intB, wp_max2, wp_min2, wp_lenT, wp_for, wp_ok, wp_bad, lp_nx, lp_ct, lp_bk, lp_rt, lp_xc, asBl_bl, at0, at1, at2, List.map_cons, List.map_nil, List.cons_append, List.nil_append, List.length_cons, List.length_nil, List.replicate, List.set_cons_zero, List.set_cons_succ, Nat.reduceAdd, Int.reduceToNat, Int.reducePow, Int.reduceNeg, Int.reduceMul, Int.reduceAdd, Int.reduceSub, Int.reduceMod, Int.reduceDiv, Int.reduceLT, Int.reduceLE, Int.zero_mul, Int.zero_add, Int.cast_ofNat_Int, Int.reduceBEq, Nat.reduceLeDiff, Nat.reduceEqDiff, true_and, and_true, Nat.reduceSub, if_true, Option.some.injEq, exists_eq_left', Bool.not_true, Bool.not_false, decide_eq_true_eq, Bool.false_eq_true, if_false])
def law_cards_M : List D → M D := mFn 8
 (mSeq (mAsg (mCall 2 law_take_M (mCons (mVar 0) (mCons (mC (.int 6)) mNil))) (gNm 2))
 (mSeq (mAsg (mCall 2 law_take_M (mCons (mVar 0) (mCons (mC (.int 5)) mNil))) (gNm 3))
 (mSeq (mAsg (mArgs lstM mNil) (gNm 4))
 (mSeq (mFor (mRng1 (mCons (mArgs lenM (mCons (mVar 1) mNil)) mNil)) (gNm 5)
 (mSeq (mAsg (m2 mulM (mCall 2 law_take_M (mCons (mVar 0) (mCons (m2 ixM (mArgs tupM (mCons (mC (.int 3)) (mCons (mC (.int 200)) (mCons (m2 powM (mC (.int 10)) (mC (.int 6))) (mCons (mC (.int 2)) (mCons (mC (.int 1)) (mCons (mC (.int 1)) mNil))))))) (mVar 2)) mNil))) (m2 ixM (mArgs tupM (mCons (mC (.int 1)) (mCons (mC (.int 1)) (mCons (m2 powM (mC (.int 10)) (mC (.int 12))) (mCons (m2 powM (mC (.int 10)) (mC (.int 18))) (mCons (mC (.int 1)) (mCons (mC (.int 1)) mNil))))))) (mVar 2))) (gNm 6))
 (mSeq (mAsg (m2 addM (mVar 6) (m2 ixM (mArgs tupM (mCons (mC (.int 0)) (mCons (mC (.int 0)) (mCons (mC (.int 0)) (mCons (mC (.int 0)) (mCons (mVar 5) (mCons (m2 subM (mArgs lenM (mCons (mVar 1) mNil)) (mVar 5)) mNil))))))) (mVar 2))) (gNm 6))
 (mSeq (mAsg (m2 subM (mCall 2 law_take_M (mCons (mVar 0) (mCons (m2 ixM (mArgs tupM (mCons (mC (.int 11)) (mCons (mC (.int 3)) (mCons (m2 powM (mC (.int 10)) (mC (.int 6))) (mCons (mC (.int 1)) (mCons (mC (.int 201)) mNil)))))) (mVar 3)) mNil))) (m2 ixM (mArgs tupM (mCons (mC (.int 5)) (mCons (mC (.int 1)) (mCons (mC (.int 0)) (mCons (mC (.int 0)) (mCons (mC (.int 100)) mNil)))))) (mVar 3))) (gNm 7))
 (mDrop (mML appendM (mVar 4) (mCons (mArgs tupM (mCons (m2 ixM (mVar 1) (mVar 5)) (mCons (mVar 6) (mCons (m2 mulM (mVar 7) (m2 ixM (mArgs tupM (mCons (mC (.int 1)) (mCons (m2 powM (mC (.int 10)) (mC (.int 18))) (mCons (m2 powM (mC (.int 10)) (mC (.int 12))) (mCons (mC (.int 1)) (mCons (mC (.int 1)) mNil)))))) (mVar 3))) mNil)))) mNil)))))))
 (mRet (mVar 4))))))
inductive Cr : Tr → Prop where
  | e : Cr .e
  | n {l r : Tr} {c : Card} (hl : Cr l) (hr : Cr r) (h1 : ∀ x ∈ l.cards, x.2.1 < c.2.1) (h2 : ∀ x ∈ r.cards, x.2.1 ≤ c.2.1) : Cr (.n l c r)
end Lib
end CK
end

section
set_option Elab.async false
set_option linter.all false
set_option exponentiation.threshold 100000
set_option maxRecDepth 100000
set_option maxHeartbeats 4000000
namespace CK
namespace Lib
open PySem PySem.Spec PyProof.Rows L2
local macro_rules | `(tactic| walk_at "ck") => `(tactic| try simp only [wp_seq, wp_asg, wp_if, wp_ret, wp_retN, wp_drop, wp_fn, wp_var0, wp_varS, wp_mC, wp_m2, wp_m1, wp_nil, wp_cons, wp_args, wp_call, wp_tst, wp_and, wp_or, wp_not, wp_andV, wp_orV, wp_notV, wp_ifE, wp_chain, wp_nx, wp_brk, wp_cnt, aft_nx, aft_rt, aft_bk, aft_ct, aft_xc, fin_rt, fin_nx, fin_xc, fin_bk, fin_ct, wp_gNm, wp_gTp, wp_gsNil, wp_gsCons, wp_gSub, wp_par, wp_par3, wp_i0, wp_iC, wp_addI, wp_addT, wp_mulI, wp_neg, wp_tup, wp_lst, sz0, sz1, sz2, sz3, sz4, sz5, sz6, sz7, sz8, wp_yes, wp_ixT, wp_ixL, wp_setL, wp_isi, tyN, isi_ii, isi_ib, isi_bi, isi_bb, isi_nb, isi_ni, isi_ns, isi_nt, isi_nl, isi_nd, isi_bs, isi_bt, isi_bl, isi_bd, isi_is, isi_it, isi_il, isi_id, isi_sb, isi_si, isi_ss, isi_st, isi_sl, isi_sd, isi_tb, isi_ti, isi_ts, isi_tt, isi_tl, isi_td, isi_lb, isi_li, isi_ls, isi_lt, isi_ll, isi_ld, isi_db, isi_di, isi_ds, isi_dt, isi_dl, isi_dd, wp_slice, wp_noPart, wp_part, asInt_int, wp_slT, wp_slL, wp_mulT, wp_src, wp_lc, wipeE, D.ref.injEq, D.tup.injEq, reduceCtorEq, false_and, exists_false, false_or, or_false, cpt2, cpt3, cpt4, cpt5, cpt6, cpt7, cpt8, cpt9, cpt10, cpt11, cpt12, cpt13, cpt14, cpt15, cpt16, cpt17, cpt18, cpt19, cpt20, cpt24, cpt30, cpt36, cpt40, cpt48, cpt50, cpt58, cpt59, cpt60, wp_extend, wp_revL, exists_and_left, wp_ML, wp_ML0, isLs_ref, wp_append, wp_pop, wp_tupleR, wp_tupleT, wp_listR, wp_listT, wp_all, wp_any, wp_sum, wp_notB, wp_isB, wp_isN, wp_notN, Option.isSome_some, wp_rng1, wp_rng2, wp_rng3, lsAt, lsO_lst, lsO_fro, lstO_lst, wp_lenR, lenO_lst, lenO_fro, lenO_dK, List.length_map, List.getElem?_cons_zero, List.getElem?_cons_succ, wp_dnew, wp_dget, wp_din, wp_dnin, wp_dg1, wp_dput, wp_dpop, wp_MD, isDk_ref, dkO_dK, keyD_int, keyD_str, wp_lrg1, wp_trg1, wp_MS, isStrB_str, wp_sindex, wp_isiT, wp_strI, wp_eqS, wp_neS, wp_eqI, wp_neI, wp_eqB, wp_neB, wp_abs, wp_intI, wp_intB, wp_max2, wp_min2, wp_lenT, wp_for, wp_ok, wp_bad, lp_nx, lp_ct, lp_bk, lp_rt, lp_xc, asBl_bl, at0, at1, at2, List.map_cons, List.map_nil, List.cons_append, List.nil_append, List.length_cons, List.length_nil, List.replicate, List.set_cons_zero, List.set_cons_succ, Nat.reduceAdd, Int.reduceToNat, Int.reducePow, Int.reduceNeg, Int.reduceMul, Int.reduceAdd, Int.reduceSub, Int.reduceMod, Int.reduceDiv, Int.reduceLT, Int.reduceLE, Int.zero_mul, Int.zero_add, Int.cast_ofNat_Int, Int.reduceBEq, Nat.reduceLeDiff, Nat.reduceEqDiff, true_and, and_true, Nat.reduceSub, if_true, Option.some.injEq, exists_eq_left', Bool.not_true, Bool.not_false, decide_eq_true_eq, Bool.false_eq_true, if_false])
local macro_rules | `(tactic| walk_at "cks") => `(tactic| try simp only [wp_seq, wp_asg, wp_if, wp_ret, wp_retN, wp_drop, wp_fn, wp_var0, wp_varS, wp_mC, wp_m2, wp_m1, wp_nil, wp_cons, wp_args, wp_call, wp_tst, wp_and, wp_or, wp_not, wp_andV, wp_orV, wp_notV, wp_ifE, wp_chain, wp_nx, wp_brk, wp_cnt, aft_nx, aft_rt, aft_bk, aft_ct, aft_xc, fin_rt, fin_nx, fin_xc, fin_bk, fin_ct, wp_gNm, wp_gTp, wp_gsNil, wp_gsCons, wp_gSub, wp_par, wp_par3, wp_i0, wp_iC, wp_addI, wp_addT, wp_mulI, wp_neg, wp_tup, wp_lst, sz0, sz1, sz2, sz3, sz4, sz5, sz6, sz7, sz8, wp_yes, wp_ixT, wp_ixL, wp_setL, wp_isi, tyN, isi_ii, isi_ib, isi_bi, isi_bb, isi_nb, isi_ni, isi_ns, isi_nt, isi_nl, isi_nd, isi_bs, isi_bt, isi_bl, isi_bd, isi_is, isi_it, isi_il, isi_id, isi_sb, isi_si, isi_ss, isi_st, isi_sl, isi_sd, isi_tb, isi_ti, isi_ts, isi_tt, isi_tl, isi_td, isi_lb, isi_li, isi_ls, isi_lt, isi_ll, isi_ld, isi_db, isi_di, isi_ds, isi_dt, isi_dl, isi_dd, wp_slice, wp_noPart, wp_part, asInt_int, wp_slT, wp_slL, wp_mulT, wp_src, wp_lc, wipeE, D.ref.injEq, D.tup.injEq, reduceCtorEq, false_and, exists_false, false_or, or_false, cpt2, cpt3, cpt4, cpt5, cpt6, cpt7, cpt8, cpt9, cpt10, cpt11, cpt12, cpt13, cpt14, cpt15, cpt16, cpt17, cpt18, cpt19, cpt20, cpt24, cpt30, cpt36, cpt40, cpt48, cpt50, cpt58, cpt59, cpt60, wp_extend, wp_revL, exists_and_left, wp_ML, wp_ML0, isLs_ref, wp_append, wp_pop, wp_tupleR, wp_tupleT, wp_listR, wp_listT, wp_all, wp_any, wp_sum, wp_notB, wp_isB, wp_isN, wp_notN, Option.isSome_some, wp_rng1, wp_rng2, wp_rng3, lsAt, lsO_lst, lsO_fro, lstO_lst, wp_lenR, lenO_lst, lenO_fro, lenO_dK, List.length_map, List.getElem?_cons_zero, List.getElem?_cons_succ, wp_dnew, wp_dget, wp_din, wp_dnin, wp_dg1, wp_dput, wp_dpop, wp_MD, isDk_ref, dkO_dK, keyD_int, keyD_str, wp_lrg1, wp_trg1, wp_MS, isStrB_str, wp_sindex, wp_isiT, wp_strI, wp_eqS, wp_neS, wp_eqI, wp_neI, wp_eqB, wp_neB, wp_abs, wp_intI, wp_intB, wp_max2, wp_min2, wp_lenT, wp_for, wp_ok, wp_bad, lp_nx, lp_ct, lp_bk, lp_rt, lp_xc, asBl_bl, at0, at1, at2, List.map_cons, List.map_nil, List.cons_append, List.nil_append, List.length_cons, List.length_nil, List.replicate, List.set_cons_zero, List.set_cons_succ, Nat.reduceAdd, Int.reduceToNat, Int.reducePow, Int.reduceNeg, Int.reduceMul, Int.reduceAdd, Int.reduceSub, Int.reduceMod, Int.reduceDiv, Int.reduceLT, Int.reduceLE, Int.zero_mul, Int.zero_add, Int.cast_ofNat_Int, Int.reduceBEq, Nat.reduceLeDiff, Nat.reduceEqDiff, true_and, and_true, Nat.reduceSub, if_true, Option.some.injEq, exists_eq_left', Bool.not_true, Bool.not_false, decide_eq_true_eq, Bool.false_eq_true, if_false, *])
local macro_rules | `(tactic| walk_at "ck1") => `(tactic| try simp only [wp_seq, wp_asg, wp_if, wp_ret, wp_retN, wp_drop, wp_fn, wp_var0, wp_varS, wp_mC, wp_m2, wp_m1, wp_nil, wp_cons, wp_args, wp_call, wp_tst, wp_and, wp_or, wp_not, wp_andV, wp_orV, wp_notV, wp_ifE, wp_chain, wp_nx, wp_brk, wp_cnt, aft_rt, aft_bk, aft_ct, aft_xc, fin_rt, fin_nx, fin_xc, fin_bk, fin_ct, wp_gNm, wp_gTp, wp_gsNil, wp_gsCons, wp_gSub, wp_par, wp_par3, wp_i0, wp_iC, wp_addI, wp_addT, wp_mulI, wp_neg, wp_tup, wp_lst, sz0, sz1, sz2, sz3, sz4, sz5, sz6, sz7, sz8, wp_yes, wp_ixT, wp_ixL, wp_setL, wp_isi, tyN, isi_ii, isi_ib, isi_bi, isi_bb, isi_nb, isi_ni, isi_ns, isi_nt, isi_nl, isi_nd, isi_bs, isi_bt, isi_bl, isi_bd, isi_is, isi_it, isi_il, isi_id, isi_sb, isi_si, isi_ss, isi_st, isi_sl, isi_sd, isi_tb, isi_ti, isi_ts, isi_tt, isi_tl, isi_td, isi_lb, isi_li, isi_ls, isi_lt, isi_ll, isi_ld, isi_db, isi_di, isi_ds, isi_dt, isi_dl, isi_dd, wp_slice, wp_noPart, wp_part, asInt_int, wp_slT, wp_slL, wp_mulT, wp_src, wp_lc, wipeE, D.ref.injEq, D.tup.injEq, reduceCtorEq, false_and, exists_false, false_or, or_false, cpt2, cpt3, cpt4, cpt5, cpt6, cpt7, cpt8, cpt9, cpt10, cpt11, cpt12, cpt13, cpt14, cpt15, cpt16, cpt17, cpt18, cpt19, cpt20, cpt24, cpt30, cpt36, cpt40, cpt48, cpt50, cpt58, cpt59, cpt60, wp_extend, wp_revL, exists_and_left, wp_ML, wp_ML0, isLs_ref, wp_append, wp_pop, wp_tupleR, wp_tupleT, wp_listR, wp_listT, wp_all, wp_any, wp_sum, wp_notB, wp_isB, wp_isN, wp_notN, Option.isSome_some, wp_rng1, wp_rng2, wp_rng3, lsAt, lsO_lst, lsO_fro, lstO_lst, wp_lenR, lenO_lst, lenO_fro, lenO_dK, List.length_map, List.getElem?_cons_zero, List.getElem?_cons_succ, wp_dnew, wp_dget, wp_din, wp_dnin, wp_dg1, wp_dput, wp_dpop, wp_MD, isDk_ref, dkO_dK, keyD_int, keyD_str, wp_lrg1, wp_trg1, wp_MS, isStrB_str, wp_sindex, wp_isiT, wp_strI, wp_eqS, wp_neS, wp_eqI, wp_neI, wp_eqB, wp_neB, wp_abs, wp_intI, wp_intB, wp_max2, wp_min2, wp_lenT, wp_for, wp_ok, wp_bad, lp_nx, lp_ct, lp_bk, lp_rt, lp_xc, asBl_bl, at0, at1, at2, List.map_cons, List.map_nil, List.cons_append, List.nil_append, List.length_cons, List.length_nil, List.replicate, List.set_cons_zero, List.set_cons_succ, Nat.reduceAdd, Int.reduceToNat, Int.reducePow, Int.reduceNeg, Int.reduceMul, Int.reduceAdd, Int.reduceSub, Int.reduceMod, Int.reduceDiv, Int.reduceLT, Int.reduceLE, Int.zero_mul, Int.zero_add, Int.cast_ofNat_Int, Int.reduceBEq, Nat.reduceLeDiff, Nat.reduceEqDiff, true_and, and_true, Nat.reduceSub, if_true, Option.some.injEq, exists_eq_left', Bool.not_true, Bool.not_false, decide_eq_true_eq, Bool.false_eq_true, if_false])
section
variable {E : Exn → Store → Prop} {S : Store} {Q : D → Store → Prop}
end

def Or (a b : Card) : Prop := b.2.1 < a.2.1 ∨ (b.2.1 = a.2.1 ∧ a.1 < b.1)
instance (a b : Card) : Decidable (Or a b) := inferInstanceAs (Decidable (_ ∨ _))
theorem Or.trans {a b c : Card} (h : Or a b) (h2 : Or b c) : Or a c := by unfold Or at *; omega
theorem Or.total {a b : Card} (h : a.1 ≠ b.1) : Or a b ∨ Or b a := by unfold Or; omega
theorem Or.neg {a b : Card} (h : ¬ Or a b) (hk : a.1 ≠ b.1) : Or b a := (Or.total hk).resolve_left h
def Srt (cs : List Card) : Prop := cs.Pairwise fun a b => a.1 < b.1
theorem Srt.filter {cs : List Card} (h : Srt cs) (p : Card → Bool) : Srt (cs.filter p) := List.Pairwise.filter p h
theorem Srt.inj {cs : List Card} (h : Srt cs) {a b : Card} (ha : a ∈ cs) (hb : b ∈ cs) (e : a.1 = b.1) : a = b := by
  induction cs with
  | nil => cases ha
  | cons c cs ih =>
    have h := List.pairwise_cons.mp h
    rcases List.mem_cons.mp ha with rfl | ha'
    · rcases List.mem_cons.mp hb with rfl | hb'
      · rfl
      · have := h.1 b hb'; omega
    · rcases List.mem_cons.mp hb with rfl | hb'
      · have := h.1 a ha'; omega
      · exact ih h.2 ha' hb'
theorem Srt.ext : ∀ {cs ds : List Card}, Srt cs → Srt ds → (∀ c, c ∈ cs ↔ c ∈ ds) → cs = ds
  | [], [], _, _, _ => rfl
  | [], d :: ds, _, _, h => by have := (h d).mpr List.mem_cons_self; cases this
  | c :: cs, [], _, _, h => by have := (h c).mp List.mem_cons_self; cases this
  | c :: cs, d :: ds, h1, h2, h => by
    have a1 := List.pairwise_cons.mp h1
    have a2 := List.pairwise_cons.mp h2
    have e : c = d := by
      rcases List.mem_cons.mp ((h c).mp List.mem_cons_self) with e | hc
      · exact e
      · rcases List.mem_cons.mp ((h d).mpr List.mem_cons_self) with e | hd
        · exact e.symm
        · have := a2.1 c hc; have := a1.1 d hd; omega
    subst e
    rw [Srt.ext a1.2 a2.2 fun x => ?_]
    have hx := h x
    constructor
    · intro m
      rcases List.mem_cons.mp (hx.mp (List.mem_cons_of_mem _ m)) with e | m2
      · subst e; have := a1.1 _ m; omega
      · exact m2
    · intro m
      rcases List.mem_cons.mp (hx.mpr (List.mem_cons_of_mem _ m)) with e | m2
      · subst e; have := a2.1 _ m; omega
      · exact m2
def hungL : Tr → D → List (Card × D)
  | .e, _ => []
  | .n l c r, ab => hungL l (cd c) ++ (c, ab) :: hungL r (cd c)
def hd (p : Card × D) : D := .tup [cd p.1, p.2]
end Lib
end CK
end

section
set_option Elab.async false
set_option linter.all false
set_option exponentiation.threshold 100000
set_option maxRecDepth 100000
set_option maxHeartbeats 4000000
namespace CK
namespace Lib
open PySem PySem.Spec PyProof.Rows L2
local macro_rules | `(tactic| walk_at "ck") => `(tactic| try simp only [wp_seq, wp_asg, wp_if, wp_ret, wp_retN, wp_drop, wp_fn, wp_var0, wp_varS, wp_mC, wp_m2, wp_m1, wp_nil, wp_cons, wp_args, wp_call, wp_tst, wp_and, wp_or, wp_not, wp_andV, wp_orV, wp_notV, wp_ifE, wp_chain, wp_nx, wp_brk, wp_cnt, aft_nx, aft_rt, aft_bk, aft_ct, aft_xc, fin_rt, fin_nx, fin_xc, fin_bk, fin_ct, wp_gNm, wp_gTp, wp_gsNil, wp_gsCons, wp_gSub, wp_par, wp_par3, wp_i0, wp_iC, wp_addI, wp_addT, wp_mulI, wp_neg, wp_tup, wp_lst, sz0, sz1, sz2, sz3, sz4, sz5, sz6, sz7, sz8, wp_yes, wp_ixT, wp_ixL, wp_setL, wp_isi, tyN, isi_ii, isi_ib, isi_bi, isi_bb, isi_nb, isi_ni, isi_ns, isi_nt, isi_nl, isi_nd, isi_bs, isi_bt, isi_bl, isi_bd, isi_is, isi_it, isi_il, isi_id, isi_sb, isi_si, isi_ss, isi_st, isi_sl, isi_sd, isi_tb, isi_ti, isi_ts, isi_tt, isi_tl, isi_td, isi_lb, isi_li, isi_ls, isi_lt, isi_ll, isi_ld, isi_db, isi_di, isi_ds, isi_dt, isi_dl, isi_dd, wp_slice, wp_noPart, wp_part, asInt_int, wp_slT, wp_slL, wp_mulT, wp_src, wp_lc, wipeE, D.ref.injEq, D.tup.injEq, reduceCtorEq, false_and, exists_false, false_or, or_false, cpt2, cpt3, cpt4, cpt5, cpt6, cpt7, cpt8, cpt9, cpt10, cpt11, cpt12, cpt13, cpt14, cpt15, cpt16, cpt17, cpt18, cpt19, cpt20, cpt24, cpt30, cpt36, cpt40, cpt48, cpt50, cpt58, cpt59, cpt60, wp_extend, wp_revL, exists_and_left, wp_ML, wp_ML0, isLs_ref, wp_append, wp_pop, wp_tupleR, wp_tupleT, wp_listR, wp_listT, wp_all, wp_any, wp_sum, wp_notB, wp_isB, wp_isN, wp_notN, Option.isSome_some, wp_rng1, wp_rng2, wp_rng3, lsAt, lsO_lst, lsO_fro, lstO_lst, wp_lenR, lenO_lst, lenO_fro, lenO_dK, List.length_map, List.getElem?_cons_zero, List.getElem?_cons_succ, wp_dnew, wp_dget, wp_din, wp_dnin, wp_dg1, wp_dput, wp_dpop, wp_MD, isDk_ref, dkO_dK, keyD_int, keyD_str, wp_lrg1, wp_trg1, wp_MS, isStrB_str, wp_sindex, wp_isiT, wp_strI, wp_eqS, wp_neS, wp_eqI, wp_neI, wp_eqB, wp_neB, wp_abs, wp_intI, wp_intB, wp_max2, wp_min2, wp_lenT, wp_for, wp_ok, wp_bad, lp_nx, lp_ct, lp_bk, lp_rt, lp_xc, asBl_bl, at0, at1, at2, List.map_cons, List.map_nil, List.cons_append, List.nil_append, List.length_cons, List.length_nil, List.replicate, List.set_cons_zero, List.set_cons_succ, Nat.reduceAdd, Int.reduceToNat, Int.reducePow, Int.reduceNeg, Int.reduceMul, Int.reduceAdd, Int.reduceSub, Int.reduceMod, Int.reduceDiv, Int.reduceLT, Int.reduceLE, Int.zero_mul, Int.zero_add, Int.cast_ofNat_Int, Int.reduceBEq, Nat.reduceLeDiff, Nat.reduceEqDiff, true_and, and_true, Nat.reduceSub, if_true, Option.some.injEq, exists_eq_left', Bool.not_true, Bool.not_false, decide_eq_true_eq, Bool.false_eq_true, if_false])
local macro_rules | `(tactic| walk_at "cks") => `(tactic| try simp only [wp_seq, wp_asg, wp_if, wp_ret, wp_retN, wp_drop, wp_fn, wp_var0, wp_varS, wp_mC, wp_m2, wp_m1, wp_nil, wp_cons, wp_args, wp_call, wp_tst, wp_and, wp_or, wp_not, wp_andV, wp_orV, wp_notV, wp_ifE, wp_chain, wp_nx, wp_brk, wp_cnt, aft_nx, aft_rt, aft_bk, aft_ct, aft_xc, fin_rt, fin_nx, fin_xc, fin_bk, fin_ct, wp_gNm, wp_gTp, wp_gsNil, wp_gsCons, wp_gSub, wp_par, wp_par3, wp_i0, wp_iC, wp_addI, wp_addT, wp_mulI, wp_neg, wp_tup, wp_lst, sz0, sz1, sz2, sz3, sz4, sz5, sz6, sz7, sz8, wp_yes, wp_ixT, wp_ixL, wp_setL, wp_isi, tyN, isi_ii, isi_ib, isi_bi, isi_bb, isi_nb, isi_ni, isi_ns, isi_nt, isi_nl, isi_nd, isi_bs, isi_bt, isi_bl, isi_bd, isi_is, isi_it, isi_il, isi_id, isi_sb, isi_si, isi_ss, isi_st, isi_sl, isi_sd, isi_tb, isi_ti, isi_ts, isi_tt, isi_tl, isi_td, isi_lb, isi_li, isi_ls, isi_lt, isi_ll, isi_ld, isi_db, isi_di, isi_ds, isi_dt, isi_dl, isi_dd, wp_slice, wp_noPart, wp_part, asInt_int, wp_slT, wp_slL, wp_mulT, wp_src, wp_lc, wipeE, D.ref.injEq, D.tup.injEq, reduceCtorEq, false_and, exists_false, false_or, or_false, cpt2, cpt3, cpt4, cpt5, cpt6, cpt7, cpt8, cpt9, cpt10, cpt11, cpt12, cpt13, cpt14, cpt15, cpt16, cpt17, cpt18, cpt19, cpt20, cpt24, cpt30, cpt36, cpt40, cpt48, cpt50, cpt58, cpt59, cpt60, wp_extend, wp_revL, exists_and_left, wp_ML, wp_ML0, isLs_ref, wp_append, wp_pop, wp_tupleR, wp_tupleT, wp_listR, wp_listT, wp_all, wp_any, wp_sum, wp_notB, wp_isB, wp_isN, wp_notN, Option.isSome_some, wp_rng1, wp_rng2, wp_rng3, lsAt, lsO_lst, lsO_fro, lstO_lst, wp_lenR, lenO_lst, lenO_fro, lenO_dK, List.length_map, List.getElem?_cons_zero, List.getElem?_cons_succ, wp_dnew, wp_dget, wp_din, wp_dnin, wp_dg1, wp_dput, wp_dpop, wp_MD, isDk_ref, dkO_dK, keyD_int, keyD_str, wp_lrg1, wp_trg1, wp_MS, isStrB_str, wp_sindex, wp_isiT, wp_strI, wp_eqS, wp_neS, wp_eqI, wp_neI, wp_eqB, wp_neB, wp_abs, wp_intI, wp_intB, wp_max2, wp_min2, wp_lenT, wp_for, wp_ok, wp_bad, lp_nx, lp_ct, lp_bk, lp_rt, lp_xc, asBl_bl, at0, at1, at2, List.map_cons, List.map_nil, List.cons_append, List.nil_append, List.length_cons, List.length_nil, List.replicate, List.set_cons_zero, List.set_cons_succ, Nat.reduceAdd, Int.reduceToNat, Int.reducePow, Int.reduceNeg, Int.reduceMul, Int.reduceAdd, Int.reduceSub, Int.reduceMod, Int.reduceDiv, Int.reduceLT, Int.reduceLE, Int.zero_mul, Int.zero_add, Int.cast_ofNat_Int, Int.reduceBEq, Nat.reduceLeDiff, Nat.reduceEqDiff, true_and, and_true, Nat.reduceSub, if_true, Option.some.injEq, exists_eq_left', Bool.not_true, Bool.not_false, decide_eq_true_eq, Bool.false_eq_true, if_false, *])
local macro_rules | `(tactic| walk_at "ck1") => `(tactic| try simp only [wp_seq, wp_asg, wp_if, wp_ret, wp_retN, wp_drop, wp_fn, wp_var0, wp_varS, wp_mC, wp_m2, wp_m1, wp_nil, wp_cons, wp_args, wp_call, wp_tst, wp_and, wp_or, wp_not, wp_andV, wp_orV, wp_notV, wp_ifE, wp_chain, wp_nx, wp_brk, wp_cnt, aft_rt, aft_bk, aft_ct, aft_xc, fin_rt, fin_nx, fin_xc, fin_bk, fin_ct, wp_gNm, wp_gTp, wp_gsNil, wp_gsCons, wp_gSub, wp_par, wp_par3, wp_i0, wp_iC, wp_addI, wp_addT, wp_mulI, wp_neg, wp_tup, wp_lst, sz0, sz1, sz2, sz3, sz4, sz5, sz6, sz7, sz8, wp_yes, wp_ixT, wp_ixL, wp_setL, wp_isi, tyN, isi_ii, isi_ib, isi_bi, isi_bb, isi_nb, isi_ni, isi_ns, isi_nt, isi_nl, isi_nd, isi_bs, isi_bt, isi_bl, isi_bd, isi_is, isi_it, isi_il, isi_id, isi_sb, isi_si, isi_ss, isi_st, isi_sl, isi_sd, isi_tb, isi_ti, isi_ts, isi_tt, isi_tl, isi_td, isi_lb, isi_li, isi_ls, isi_lt, isi_ll, isi_ld, isi_db, isi_di, isi_ds, isi_dt, isi_dl, isi_dd, wp_slice, wp_noPart, wp_part, asInt_int, wp_slT, wp_slL, wp_mulT, wp_src, wp_lc, wipeE, D.ref.injEq, D.tup.injEq, reduceCtorEq, false_and, exists_false, false_or, or_false, cpt2, cpt3, cpt4, cpt5, cpt6, cpt7, cpt8, cpt9, cpt10, cpt11, cpt12, cpt13, cpt14, cpt15, cpt16, cpt17, cpt18, cpt19, cpt20, cpt24, cpt30, cpt36, cpt40, cpt48, cpt50, cpt58, cpt59, cpt60, wp_extend, wp_revL, exists_and_left, wp_ML, wp_ML0, isLs_ref, wp_append, wp_pop, wp_tupleR, wp_tupleT, wp_listR, wp_listT, wp_all, wp_any, wp_sum, wp_notB, wp_isB, wp_isN, wp_notN, Option.isSome_some, wp_rng1, wp_rng2, wp_rng3, lsAt, lsO_lst, lsO_fro, lstO_lst, wp_lenR, lenO_lst, lenO_fro, lenO_dK, List.length_map, List.getElem?_cons_zero, List.getElem?_cons_succ, wp_dnew, wp_dget, wp_din, wp_dnin, wp_dg1, wp_dput, wp_dpop, wp_MD, isDk_ref, dkO_dK, keyD_int, keyD_str, wp_lrg1, wp_trg1, wp_MS, isStrB_str, wp_sindex, wp_isiT, wp_strI, wp_eqS, wp_neS, wp_eqI, wp_neI, wp_eqB, wp_neB, wp_abs, wp_intI, wp_intB, wp_max2, wp_min2, wp_lenT, wp_for, wp_ok, wp_bad, lp_nx, lp_ct, lp_bk, lp_rt, lp_xc, asBl_bl, at0, at1, at2, List.map_cons, List.map_nil, List.cons_append, List.nil_append, List.length_cons, List.length_nil, List.replicate, List.set_cons_zero, List.set_cons_succ, Nat.reduceAdd, Int.reduceToNat, Int.reducePow, Int.reduceNeg, Int.reduceMul, Int.reduceAdd, Int.reduceSub, Int.reduceMod, Int.reduceDiv, Int.reduceLT, Int.reduceLE, Int.zero_mul, Int.zero_add, Int.cast_ofNat_Int, Int.reduceBEq, Nat.reduceLeDiff, Nat.reduceEqDiff, true_and, and_true, Nat.reduceSub, if_true, Option.some.injEq, exists_eq_left', Bool.not_true, Bool.not_false, decide_eq_true_eq, Bool.false_eq_true, if_false])

structure Shw (p : PyData) (w d : Nat) : Prop where
  sh : p.showable = true
  ls : p.leavesShort 62 = true
  wt : p.weight ≤ w
  dp : p.depth ≤ d
theorem Shw.mono {p : PyData} {w d w' d' : Nat} (h : Shw p w d) (h1 : w ≤ w') (h2 : d ≤ d') : Shw p w' d' := ⟨h.sh, h.ls, Nat.le_trans h.wt h1, Nat.le_trans h.dp h2⟩
section
variable {E : Exn → Store → Prop} {S : Store} {Q : D → Store → Prop}
end
end Lib
end CK
end

section
set_option Elab.async false
set_option linter.all false
set_option exponentiation.threshold 100000
set_option maxRecDepth 100000
set_option maxHeartbeats 4000000
namespace CK
namespace Lib
open PySem PySem.Spec PyProof.Rows L2
local macro_rules | `(tactic| walk_at "ck") => `(tactic| try simp only [wp_seq, wp_asg, wp_if, wp_ret, wp_retN, wp_drop, wp_fn, wp_var0, wp_varS, wp_mC, wp_m2, wp_m1, wp_nil, wp_cons, wp_args, wp_call, wp_tst, wp_and, wp_or, wp_not, wp_andV, wp_orV, wp_notV, wp_ifE, wp_chain, wp_nx, wp_brk, wp_cnt, aft_nx, aft_rt, aft_bk, aft_ct, aft_xc, fin_rt, fin_nx, fin_xc, fin_bk, fin_ct, wp_gNm, wp_gTp, wp_gsNil, wp_gsCons, wp_gSub, wp_par, wp_par3, wp_i0, wp_iC, wp_addI, wp_addT, wp_mulI, wp_neg, wp_tup, wp_lst, sz0, sz1, sz2, sz3, sz4, sz5, sz6, sz7, sz8, wp_yes, wp_ixT, wp_ixL, wp_setL, wp_isi, tyN, isi_ii, isi_ib, isi_bi, isi_bb, isi_nb, isi_ni, isi_ns, isi_nt, isi_nl, isi_nd, isi_bs, isi_bt, isi_bl, isi_bd, isi_is, isi_it, isi_il, isi_id, isi_sb, isi_si, isi_ss, isi_st, isi_sl, isi_sd, isi_tb, isi_ti, isi_ts, isi_tt, isi_tl, isi_td, isi_lb, isi_li, isi_ls, isi_lt, isi_ll, isi_ld, isi_db, isi_di, isi_ds, isi_dt, isi_dl, isi_dd, wp_slice, wp_noPart, wp_part, asInt_int, wp_slT, wp_slL, wp_mulT, wp_src, wp_lc, wipeE, D.ref.injEq, D.tup.injEq, reduceCtorEq, false_and, exists_false, false_or, or_false, cpt2, cpt3, cpt4, cpt5, cpt6, cpt7, cpt8, cpt9, cpt10, cpt11, cpt12, cpt13, cpt14, cpt15, cpt16, cpt17, cpt18, cpt19, cpt20, cpt24, cpt30, cpt36, cpt40, cpt48, cpt50, cpt58, cpt59, cpt60, wp_extend, wp_revL, exists_and_left, wp_ML, wp_ML0, isLs_ref, wp_append, wp_pop, wp_tupleR, wp_tupleT, wp_listR, wp_listT, wp_all, wp_any, wp_sum, wp_notB, wp_isB, wp_isN, wp_notN, Option.isSome_some, wp_rng1, wp_rng2, wp_rng3, lsAt, lsO_lst, lsO_fro, lstO_lst, wp_lenR, lenO_lst, lenO_fro, lenO_dK, List.length_map, List.getElem?_cons_zero, List.getElem?_cons_succ, wp_dnew, wp_dget, wp_din, wp_dnin, wp_dg1, wp_dput, wp_dpop, wp_MD, isDk_ref, dkO_dK, keyD_int, keyD_str, wp_lrg1, wp_trg1, wp_MS, isStrB_str, wp_sindex, wp_isiT, wp_strI, wp_eqS, wp_neS, wp_eqI, wp_neI, wp_eqB, wp_neB, wp_abs, wp_intI, wp_intB, wp_max2, wp_min2, wp_lenT, wp_for, wp_ok, wp_bad, lp_nx, lp_ct, lp_bk, lp_rt, lp_xc, asBl_bl, at0, at1, at2, List.map_cons, List.map_nil, List.cons_append, List.nil_append, List.length_cons, List.length_nil, List.replicate, List.set_cons_zero, List.set_cons_succ, Nat.reduceAdd, Int.reduceToNat, Int.reducePow, Int.reduceNeg, Int.reduceMul, Int.reduceAdd, Int.reduceSub, Int.reduceMod, Int.reduceDiv, Int.reduceLT, Int.reduceLE, Int.zero_mul, Int.zero_add, Int.cast_ofNat_Int, Int.reduceBEq, Nat.reduceLeDiff, Nat.reduceEqDiff, true_and, and_true, Nat.reduceSub, if_true, Option.some.injEq, exists_eq_left', Bool.not_true, Bool.not_false, decide_eq_true_eq, Bool.false_eq_true, if_false])
local macro_rules | `(tactic| walk_at "cks") => `(tactic| try simp only [wp_seq, wp_asg, wp_if, wp_ret, wp_retN, wp_drop, wp_fn, wp_var0, wp_varS, wp_mC, wp_m2, wp_m1, wp_nil, wp_cons, wp_args, wp_call, wp_tst, wp_and, wp_or, wp_not, wp_andV, wp_orV, wp_notV, wp_ifE, wp_chain, wp_nx, wp_brk, wp_cnt, aft_nx, aft_rt, aft_bk, aft_ct, aft_xc, fin_rt, fin_nx, fin_xc, fin_bk, fin_ct, wp_gNm, wp_gTp, wp_gsNil, wp_gsCons, wp_gSub, wp_par, wp_par3, wp_i0, wp_iC, wp_addI, wp_addT, wp_mulI, wp_neg, wp_tup, wp_lst, sz0, sz1, sz2, sz3, sz4, sz5, sz6, sz7, sz8, wp_yes, wp_ixT, wp_ixL, wp_setL, wp_isi, tyN, isi_ii, isi_ib, isi_bi, isi_bb, isi_nb, isi_ni, isi_ns, isi_nt, isi_nl, isi_nd, isi_bs, isi_bt, isi_bl, isi_bd, isi_is, isi_it, isi_il, isi_id, isi_sb, isi_si, isi_ss, isi_st, isi_sl, isi_sd, isi_tb, isi_ti, isi_ts, isi_tt, isi_tl, isi_td, isi_lb, isi_li, isi_ls, isi_lt, isi_ll, isi_ld, isi_db, isi_di, isi_ds, isi_dt, isi_dl, isi_dd, wp_slice, wp_noPart, wp_part, asInt_int, wp_slT, wp_slL, wp_mulT, wp_src, wp_lc, wipeE, D.ref.injEq, D.tup.injEq, reduceCtorEq, false_and, exists_false, false_or, or_false, cpt2, cpt3, cpt4, cpt5, cpt6, cpt7, cpt8, cpt9, cpt10, cpt11, cpt12, cpt13, cpt14, cpt15, cpt16, cpt17, cpt18, cpt19, cpt20, cpt24, cpt30, cpt36, cpt40, cpt48, cpt50, cpt58, cpt59, cpt60, wp_extend, wp_revL, exists_and_left, wp_ML, wp_ML0, isLs_ref, wp_append, wp_pop, wp_tupleR, wp_tupleT, wp_listR, wp_listT, wp_all, wp_any, wp_sum, wp_notB, wp_isB, wp_isN, wp_notN, Option.isSome_some, wp_rng1, wp_rng2, wp_rng3, lsAt, lsO_lst, lsO_fro, lstO_lst, wp_lenR, lenO_lst, lenO_fro, lenO_dK, List.length_map, List.getElem?_cons_zero, List.getElem?_cons_succ, wp_dnew, wp_dget, wp_din, wp_dnin, wp_dg1, wp_dput, wp_dpop, wp_MD, isDk_ref, dkO_dK, keyD_int, keyD_str, wp_lrg1, wp_trg1, wp_MS, isStrB_str, wp_sindex, wp_isiT, wp_strI, wp_eqS, wp_neS, wp_eqI, wp_neI, wp_eqB, wp_neB, wp_abs, wp_intI, wp_intB, wp_max2, wp_min2, wp_lenT, wp_for, wp_ok, wp_bad, lp_nx, lp_ct, lp_bk, lp_rt, lp_xc, asBl_bl, at0, at1, at2, List.map_cons, List.map_nil, List.cons_append, List.nil_append, List.length_cons, List.length_nil, List.replicate, List.set_cons_zero, List.set_cons_succ, Nat.reduceAdd, Int.reduceToNat, Int.reducePow, Int.reduceNeg, Int.reduceMul, Int.reduceAdd, Int.reduceSub, Int.reduceMod, Int.reduceDiv, Int.reduceLT, Int.reduceLE, Int.zero_mul, Int.zero_add, Int.cast_ofNat_Int, Int.reduceBEq, Nat.reduceLeDiff, Nat.reduceEqDiff, true_and, and_true, Nat.reduceSub, if_true, Option.some.injEq, exists_eq_left', Bool.not_true, Bool.not_false, decide_eq_true_eq, Bool.false_eq_true, if_false, *])
local macro_rules | `(tactic| walk_at "ck1") => `(tactic| try simp only [wp_seq, wp_asg, wp_if, wp_ret, wp_retN, wp_drop, wp_fn, wp_var0, wp_varS, wp_mC, wp_m2, wp_m1, wp_nil, wp_cons, wp_args, wp_call, wp_tst, wp_and, wp_or, wp_not, wp_andV, wp_orV, wp_notV, wp_ifE, wp_chain, wp_nx, wp_brk, wp_cnt, aft_rt, aft_bk, aft_ct, aft_xc, fin_rt, fin_nx, fin_xc, fin_bk, fin_ct, wp_gNm, wp_gTp, wp_gsNil, wp_gsCons, wp_gSub, wp_par, wp_par3, wp_i0, wp_iC, wp_addI, wp_addT, wp_mulI, wp_neg, wp_tup, wp_lst, sz0, sz1, sz2, sz3, sz4, sz5, sz6, sz7, sz8, wp_yes, wp_ixT, wp_ixL, wp_setL, wp_isi, tyN, isi_ii, isi_ib, isi_bi, isi_bb, isi_nb, isi_ni, isi_ns, isi_nt, isi_nl, isi_nd, isi_bs, isi_bt, isi_bl, isi_bd, isi_is, isi_it, isi_il, isi_id, isi_sb, isi_si, isi_ss, isi_st, isi_sl, isi_sd, isi_tb, isi_ti, isi_ts, isi_tt, isi_tl, isi_td, isi_lb, isi_li, isi_ls, isi_lt, isi_ll, isi_ld, isi_db, isi_di, isi_ds, isi_dt, isi_dl, isi_dd, wp_slice, wp_noPart, wp_part, asInt_int, wp_slT, wp_slL, wp_mulT, wp_src, wp_lc, wipeE, D.ref.injEq, D.tup.injEq, reduceCtorEq, false_and, exists_false, false_or, or_false, cpt2, cpt3, cpt4, cpt5, cpt6, cpt7, cpt8, cpt9, cpt10, cpt11, cpt12, cpt13, cpt14, cpt15, cpt16, cpt17, cpt18, cpt19, cpt20, cpt24, cpt30, cpt36, cpt40, cpt48, cpt50, cpt58, cpt59, cpt60, wp_extend, wp_revL, exists_and_left, wp_ML, wp_ML0, isLs_ref, wp_append, wp_pop, wp_tupleR, wp_tupleT, wp_listR, wp_listT, wp_all, wp_any, wp_sum, wp_notB, wp_isB, wp_isN, wp_notN, Option.isSome_some, wp_rng1, wp_rng2, wp_rng3, lsAt, lsO_lst, lsO_fro, lstO_lst, wp_lenR, lenO_lst, lenO_fro, lenO_dK, List.length_map, List.getElem?_cons_zero, List.getElem?_cons_succ, wp_dnew, wp_dget, wp_din, wp_dnin, wp_dg1, wp_dput, wp_dpop, wp_MD, isDk_ref, dkO_dK, keyD_int, keyD_str, wp_lrg1, wp_trg1, wp_MS, isStrB_str, wp_sindex, wp_isiT, wp_strI, wp_eqS, wp_neS, wp_eqI, wp_neI, wp_eqB, wp_neB, wp_abs, wp_intI, wp_intB, wp_max2, wp_min2, wp_lenT, wp_for, wp_ok, wp_bad, lp_nx, lp_ct, lp_bk, lp_rt, lp_xc, asBl_bl, at0, at1, at2, List.map_cons, List.map_nil, List.cons_append, List.nil_append, List.length_cons, List.length_nil, List.replicate, List.set_cons_zero, List.set_cons_succ, Nat.reduceAdd, Int.reduceToNat, Int.reducePow, Int.reduceNeg, Int.reduceMul, Int.reduceAdd, Int.reduceSub, Int.reduceMod, Int.reduceDiv, Int.reduceLT, Int.reduceLE, Int.zero_mul, Int.zero_add, Int.cast_ofNat_Int, Int.reduceBEq, Nat.reduceLeDiff, Nat.reduceEqDiff, true_and, and_true, Nat.reduceSub, if_true, Option.some.injEq, exists_eq_left', Bool.not_true, Bool.not_false, decide_eq_true_eq, Bool.false_eq_true, if_false])
def SgOk (n : Nat) : Prop := n = 97 ∨ n = 98 ∨ n = 99
section
variable {E : Exn → Store → Prop} {S : Store} {Q : D → Store → Prop}
end
abbrev Rw := Nat × Card × Card
def CardB (c : Card) : Prop := (0 ≤ c.1 ∧ c.1 ≤ 10 ^ 18) ∧ (0 ≤ c.2.1 ∧ c.2.1 ≤ 2 * 10 ^ 18) ∧ (-(10 ^ 59) ≤ c.2.2 ∧ c.2.2 ≤ 10 ^ 59)
structure RowsOk (rs : List Rw) : Prop where
  sg : ∀ r ∈ rs, SgOk r.1
  ky : ∀ r ∈ rs, r.2.1.1 = r.2.2.1
  so : Srt (rs.map (·.2.1))
  ln : rs.length ≤ 64
  b1 : ∀ r ∈ rs, CardB r.2.1
  b2 : ∀ r ∈ rs, CardB r.2.2
def far (f : Int) (c : Card) : Card := (c.1, c.2.1, c.2.2 * f)
theorem py_ints {S : Store} {n : Nat} : ∀ ns : List Int, optAll (pyOf S (n + 1)) (ns.map D.int) = some (ns.map PyData.int)
  | [] => rfl
  | i :: ns => by simp only [List.map_cons, optAll, py_ints ns]; rfl
end Lib
end CK
end

section
set_option Elab.async false
set_option linter.all false
set_option exponentiation.threshold 100000
set_option maxRecDepth 100000
set_option maxHeartbeats 4000000
namespace CK
namespace Lib
open PySem PySem.Spec PyProof.Rows L2
local macro_rules | `(tactic| walk_at "ck") => `(tactic| try simp only [wp_seq, wp_asg, wp_if, wp_ret, wp_retN, wp_drop, wp_fn, wp_var0, wp_varS, wp_mC, wp_m2, wp_m1, wp_nil, wp_cons, wp_args, wp_call, wp_tst, wp_and, wp_or, wp_not, wp_andV, wp_orV, wp_notV, wp_ifE, wp_chain, wp_nx, wp_brk, wp_cnt, aft_nx, aft_rt, aft_bk, aft_ct, aft_xc, fin_rt, fin_nx, fin_xc, fin_bk, fin_ct, wp_gNm, wp_gTp, wp_gsNil, wp_gsCons, wp_gSub, wp_par, wp_par3, wp_i0, wp_iC, wp_addI, wp_addT, wp_mulI, wp_neg, wp_tup, wp_lst, sz0, sz1, sz2, sz3, sz4, sz5, sz6, sz7, sz8, wp_yes, wp_ixT, wp_ixL, wp_setL, wp_isi, tyN, isi_ii, isi_ib, isi_bi, isi_bb, isi_nb, isi_ni, isi_ns, isi_nt, isi_nl, isi_nd, isi_bs, isi_bt, isi_bl, isi_bd, isi_is, isi_it, isi_il, isi_id, isi_sb, isi_si, isi_ss, isi_st, isi_sl, isi_sd, isi_tb, isi_ti, isi_ts, isi_tt, isi_tl, isi_td, isi_lb, isi_li, isi_ls, isi_lt, isi_ll, isi_ld, isi_db, isi_di, isi_ds, isi_dt, isi_dl, isi_dd, wp_slice, wp_noPart, wp_part, asInt_int, wp_slT, wp_slL, wp_mulT, wp_src, wp_lc, wipeE, D.ref.injEq, D.tup.injEq, reduceCtorEq, false_and, exists_false, false_or, or_false, cpt2, cpt3, cpt4, cpt5, cpt6, cpt7, cpt8, cpt9, cpt10, cpt11, cpt12, cpt13, cpt14, cpt15, cpt16, cpt17, cpt18, cpt19, cpt20, cpt24, cpt30, cpt36, cpt40, cpt48, cpt50, cpt58, cpt59, cpt60, wp_extend, wp_revL, exists_and_left, wp_ML, wp_ML0, isLs_ref, wp_append, wp_pop, wp_tupleR, wp_tupleT, wp_listR, wp_listT, wp_all, wp_any, wp_sum, wp_notB, wp_isB, wp_isN, wp_notN, Option.isSome_some, wp_rng1, wp_rng2, wp_rng3, lsAt, lsO_lst, lsO_fro, lstO_lst, wp_lenR, lenO_lst, lenO_fro, lenO_dK, List.length_map, List.getElem?_cons_zero, List.getElem?_cons_succ, wp_dnew, wp_dget, wp_din, wp_dnin, wp_dg1, wp_dput, wp_dpop, wp_MD, isDk_ref, dkO_dK, keyD_int, keyD_str, wp_lrg1, wp_trg1, wp_MS, isStrB_str, wp_sindex, wp_isiT, wp_strI, wp_eqS, wp_neS, wp_eqI, wp_neI, wp_eqB, wp_neB, wp_abs, wp_intI, wp_intB, wp_max2, wp_min2, wp_lenT, wp_for, wp_ok, wp_bad, lp_nx, lp_ct, lp_bk, lp_rt, lp_xc, asBl_bl, at0, at1, at2, List.map_cons, List.map_nil, List.cons_append, List.nil_append, List.length_cons, List.length_nil, List.replicate, List.set_cons_zero, List.set_cons_succ, Nat.reduceAdd, Int.reduceToNat, Int.reducePow, Int.reduceNeg, Int.reduceMul, Int.reduceAdd, Int.reduceSub, Int.reduceMod, Int.reduceDiv, Int.reduceLT, Int.reduceLE, Int.zero_mul, Int.zero_add, Int.cast_ofNat_Int, Int.reduceBEq, Nat.reduceLeDiff, Nat.reduceEqDiff, true_and, and_true, Nat.reduceSub, if_true, Option.some.injEq, exists_eq_left', Bool.not_true, Bool.not_false, decide_eq_true_eq, Bool.false_eq_true, if_false])
local macro_rules | `(tactic| walk_at "cks") => `(tactic| try simp only [wp_seq, wp_asg, wp_if, wp_ret, wp_retN, wp_drop, wp_fn, wp_var0, wp_varS, wp_mC, wp_m2, wp_m1, wp_nil, wp_cons, wp_args, wp_call, wp_tst, wp_and, wp_or, wp_not, wp_andV, wp_orV, wp_notV, wp_ifE, wp_chain, wp_nx, wp_brk, wp_cnt, aft_nx, aft_rt, aft_bk, aft_ct, aft_xc, fin_rt, fin_nx, fin_xc, fin_bk, fin_ct, wp_gNm, wp_gTp, wp_gsNil, wp_gsCons, wp_gSub, wp_par, wp_par3, wp_i0, wp_iC, wp_addI, wp_addT, wp_mulI, wp_neg, wp_tup, wp_lst, sz0, sz1, sz2, sz3, sz4, sz5, sz6, sz7, sz8, wp_yes, wp_ixT, wp_ixL, wp_setL, wp_isi, tyN, isi_ii, isi_ib, isi_bi, isi_bb, isi_nb, isi_ni, isi_ns, isi_nt, isi_nl, isi_nd, isi_bs, isi_bt, isi_bl, isi_bd, isi_is, isi_it, isi_il, isi_id, isi_sb, isi_si, isi_ss, isi_st, isi_sl, isi_sd, isi_tb, isi_ti, isi_ts, isi_tt, isi_tl, isi_td, isi_lb, isi_li, isi_ls, isi_lt, isi_ll, isi_ld, isi_db, isi_di, isi_ds, isi_dt, isi_dl, isi_dd, wp_slice, wp_noPart, wp_part, asInt_int, wp_slT, wp_slL, wp_mulT, wp_src, wp_lc, wipeE, D.ref.injEq, D.tup.injEq, reduceCtorEq, false_and, exists_false, false_or, or_false, cpt2, cpt3, cpt4, cpt5, cpt6, cpt7, cpt8, cpt9, cpt10, cpt11, cpt12, cpt13, cpt14, cpt15, cpt16, cpt17, cpt18, cpt19, cpt20, cpt24, cpt30, cpt36, cpt40, cpt48, cpt50, cpt58, cpt59, cpt60, wp_extend, wp_revL, exists_and_left, wp_ML, wp_ML0, isLs_ref, wp_append, wp_pop, wp_tupleR, wp_tupleT, wp_listR, wp_listT, wp_all, wp_any, wp_sum, wp_notB, wp_isB, wp_isN, wp_notN, Option.isSome_some, wp_rng1, wp_rng2, wp_rng3, lsAt, lsO_lst, lsO_fro, lstO_lst, wp_lenR, lenO_lst, lenO_fro, lenO_dK, List.length_map, List.getElem?_cons_zero, List.getElem?_cons_succ, wp_dnew, wp_dget, wp_din, wp_dnin, wp_dg1, wp_dput, wp_dpop, wp_MD, isDk_ref, dkO_dK, keyD_int, keyD_str, wp_lrg1, wp_trg1, wp_MS, isStrB_str, wp_sindex, wp_isiT, wp_strI, wp_eqS, wp_neS, wp_eqI, wp_neI, wp_eqB, wp_neB, wp_abs, wp_intI, wp_intB, wp_max2, wp_min2, wp_lenT, wp_for, wp_ok, wp_bad, lp_nx, lp_ct, lp_bk, lp_rt, lp_xc, asBl_bl, at0, at1, at2, List.map_cons, List.map_nil, List.cons_append, List.nil_append, List.length_cons, List.length_nil, List.replicate, List.set_cons_zero, List.set_cons_succ, Nat.reduceAdd, Int.reduceToNat, Int.reducePow, Int.reduceNeg, Int.reduceMul, Int.reduceAdd, Int.reduceSub, Int.reduceMod, Int.reduceDiv, Int.reduceLT, Int.reduceLE, Int.zero_mul, Int.zero_add, Int.cast_ofNat_Int, Int.reduceBEq, Nat.reduceLeDiff, Nat.reduceEqDiff, true_and, and_true, Nat.reduceSub, if_true, Option.some.injEq, exists_eq_left', Bool.not_true, Bool.not_false, decide_eq_true_eq, Bool.false_eq_true, if_false, *])
local macro_rules | `(tactic| walk_at "ck1") => `(tactic| try simp only [wp_seq, wp_asg, wp_if, wp_ret, wp_retN, wp_drop, wp_fn, wp_var0, wp_varS, wp_mC, wp_m2, wp_m1, wp_nil, wp_cons, wp_args, wp_call, wp_tst, wp_and, wp_or, wp_not, wp_andV, wp_orV, wp_notV, wp_ifE, wp_chain, wp_nx, wp_brk, wp_cnt, aft_rt, aft_bk, aft_ct, aft_xc, fin_rt, fin_nx, fin_xc, fin_bk, fin_ct, wp_gNm, wp_gTp, wp_gsNil, wp_gsCons, wp_gSub, wp_par, wp_par3, wp_i0, wp_iC, wp_addI, wp_addT, wp_mulI, wp_neg, wp_tup, wp_lst, sz0, sz1, sz2, sz3, sz4, sz5, sz6, sz7, sz8, wp_yes, wp_ixT, wp_ixL, wp_setL, wp_isi, tyN, isi_ii, isi_ib, isi_bi, isi_bb, isi_nb, isi_ni, isi_ns, isi_nt, isi_nl, isi_nd, isi_bs, isi_bt, isi_bl, isi_bd, isi_is, isi_it, isi_il, isi_id, isi_sb, isi_si, isi_ss, isi_st, isi_sl, isi_sd, isi_tb, isi_ti, isi_ts, isi_tt, isi_tl, isi_td, isi_lb, isi_li, isi_ls, isi_lt, isi_ll, isi_ld, isi_db, isi_di, isi_ds, isi_dt, isi_dl, isi_dd, wp_slice, wp_noPart, wp_part, asInt_int, wp_slT, wp_slL, wp_mulT, wp_src, wp_lc, wipeE, D.ref.injEq, D.tup.injEq, reduceCtorEq, false_and, exists_false, false_or, or_false, cpt2, cpt3, cpt4, cpt5, cpt6, cpt7, cpt8, cpt9, cpt10, cpt11, cpt12, cpt13, cpt14, cpt15, cpt16, cpt17, cpt18, cpt19, cpt20, cpt24, cpt30, cpt36, cpt40, cpt48, cpt50, cpt58, cpt59, cpt60, wp_extend, wp_revL, exists_and_left, wp_ML, wp_ML0, isLs_ref, wp_append, wp_pop, wp_tupleR, wp_tupleT, wp_listR, wp_listT, wp_all, wp_any, wp_sum, wp_notB, wp_isB, wp_isN, wp_notN, Option.isSome_some, wp_rng1, wp_rng2, wp_rng3, lsAt, lsO_lst, lsO_fro, lstO_lst, wp_lenR, lenO_lst, lenO_fro, lenO_dK, List.length_map, List.getElem?_cons_zero, List.getElem?_cons_succ, wp_dnew, wp_dget, wp_din, wp_dnin, wp_dg1, wp_dput, wp_dpop, wp_MD, isDk_ref, dkO_dK, keyD_int, keyD_str, wp_lrg1, wp_trg1, wp_MS, isStrB_str, wp_sindex, wp_isiT, wp_strI, wp_eqS, wp_neS, wp_eqI, wp_neI, wp_eqB, wp_neB, wp_abs, wp_intI, wp_intB, wp_max2, wp_min2, wp_lenT, wp_for, wp_ok, wp_bad, lp_nx, lp_ct, lp_bk, lp_rt, lp_xc, asBl_bl, at0, at1, at2, List.map_cons, List.map_nil, List.cons_append, List.nil_append, List.length_cons, List.length_nil, List.replicate, List.set_cons_zero, List.set_cons_succ, Nat.reduceAdd, Int.reduceToNat, Int.reducePow, Int.reduceNeg, Int.reduceMul, Int.reduceAdd, Int.reduceSub, Int.reduceMod, Int.reduceDiv, Int.reduceLT, Int.reduceLE, Int.zero_mul, Int.zero_add, Int.cast_ofNat_Int, Int.reduceBEq, Nat.reduceLeDiff, Nat.reduceEqDiff, true_and, and_true, Nat.reduceSub, if_true, Option.some.injEq, exists_eq_left', Bool.not_true, Bool.not_false, decide_eq_true_eq, Bool.false_eq_true, if_false])
def law_keys_M : List D → M D := mFn 7
 (mSeq (mAsg (mCall 2 law_take_M (mCons (mVar 0) (mCons (mC (.int 4)) mNil))) (gNm 2))
 (mSeq (mAsg (m2 ixM (mArgs tupM (mCons (mC (.int 0)) (mCons (mC (.int 5)) (mCons (mC (.int 7)) (mCons (mC (.int 0)) mNil))))) (mVar 2)) (gNm 3))
 (mSeq (mAsg (mArgs lstM mNil) (gNm 4))
 (mSeq (mFor (mRng1 (mCons (mVar 1) mNil)) (gNm 5)
 (mSeq (mDrop (mML appendM (mVar 4) (mCons (mVar 3) mNil)))
 (mAsg (m2 addM (m2 addM (mVar 3) (mC (.int 1))) (m2 mulM (mCall 2 law_take_M (mCons (mVar 0) (mCons (m2 ixM (mArgs tupM (mCons (mC (.int 1)) (mCons (mC (.int 3)) (mCons (m2 powM (mC (.int 10)) (mC (.int 6))) (mCons (mC (.int 3)) mNil))))) (mVar 2)) mNil))) (m2 ixM (mArgs tupM (mCons (mC (.int 1)) (mCons (mC (.int 1)) (mCons (m2 powM (mC (.int 10)) (mC (.int 10))) (mCons (mC (.int 1)) mNil))))) (mVar 2)))) (gNm 3))))
 (mSeq (mIf (mTst (m2 eqM (mVar 2) (mC (.int 3))))
 (mAsg (mLc (mSrc (mVar 4)) (gNm 6) mYes (m2 addM (m2 subM (m2 powM (mC (.int 10)) (mC (.int 18))) (m2 ixM (mVar 4) (m1 negM (mC (.int 1))))) (mVar 6)) [6]) (gNm 4))
 mNx)
 (mRet (mVar 4)))))))
def law_rank_M : List D → M D := mFn 2
 (mSeq (mIf (mTst (m2 ltM (mVar 1) (mC (.int 3))))
 (mRet (m2 ixM (mArgs tupM (mCons (mC (.int 7)) (mCons (m2 addM (mC (.int 7)) (mCall 2 law_take_M (mCons (mVar 0) (mCons (mC (.int 3)) mNil)))) (mCons (m2 mulM (m2 powM (mC (.int 10)) (mC (.int 18))) (mCall 2 law_take_M (mCons (mVar 0) (mCons (mC (.int 2)) mNil)))) mNil)))) (mVar 1)))
 mNx)
 (mRet (mCall 1 law_great_M (mCons (mVar 0) mNil))))
def law_cards2_M : List D → M D := mFn 7
 (mSeq (mAsg (mCall 2 law_take_M (mCons (mVar 0) (mCons (mC (.int 5)) mNil))) (gNm 2))
 (mSeq (mAsg (mArgs tupM (mCons (mC (.int 0)) (mCons (mC (.int 1)) (mCons (m1 negM (mC (.int 1))) (mCons (m2 powM (mC (.int 10)) (mC (.int 18))) (mCons (m1 negM (m2 powM (mC (.int 10)) (mC (.int 18)))) (mCons (m2 mulM (mC (.int 3)) (m2 powM (mC (.int 10)) (mC (.int 18)))) mNil))))))) (gNm 3))
 (mSeq (mAsg (mArgs lstM mNil) (gNm 4))
 (mSeq (mFor (mSrc (mCall 2 law_keys_M (mCons (mVar 0) (mCons (mVar 1) mNil)))) (gNm 5)
 (mSeq (mAsg (m2 addM (mC (.int 7)) (mArgs lenM (mCons (mVar 4) mNil))) (gNm 6))
 (mSeq (mIf (mTst (m2 ltM (mVar 2) (mC (.int 4))))
 (mAsg (mCall 2 law_rank_M (mCons (mVar 0) (mCons (mVar 2) mNil))) (gNm 6))
 mNx)
 (mDrop (mML appendM (mVar 4) (mCons (mArgs tupM (mCons (mVar 5) (mCons (mVar 6) (mCons (m2 ixM (mVar 3) (mCall 2 law_take_M (mCons (mVar 0) (mCons (mC (.int 6)) mNil)))) mNil)))) mNil))))))
 (mRet (mVar 4))))))
structure LeafB (c : Card) : Prop where
  a : 0 ≤ c.1 ∧ c.1 ≤ 10 ^ 18
  b : 0 ≤ c.2.1 ∧ c.2.1 ≤ 10 ^ 18
  c : -(10 ^ 18) ≤ c.2.2 ∧ c.2.2 ≤ 3 * 10 ^ 18
end Lib
end CK
end

section
set_option Elab.async false
set_option linter.all false
set_option exponentiation.threshold 100000
set_option maxRecDepth 100000
set_option maxHeartbeats 4000000
namespace CK
namespace Lib
open PySem PySem.Spec PyProof.Rows L2
local macro_rules | `(tactic| walk_at "ck") => `(tactic| try simp only [wp_seq, wp_asg, wp_if, wp_ret, wp_retN, wp_drop, wp_fn, wp_var0, wp_varS, wp_mC, wp_m2, wp_m1, wp_nil, wp_cons, wp_args, wp_call, wp_tst, wp_and, wp_or, wp_not, wp_andV, wp_orV, wp_notV, wp_ifE, wp_chain, wp_nx, wp_brk, wp_cnt, aft_nx, aft_rt, aft_bk, aft_ct, aft_xc, fin_rt, fin_nx, fin_xc, fin_bk, fin_ct, wp_gNm, wp_gTp, wp_gsNil, wp_gsCons, wp_gSub, wp_par, wp_par3, wp_i0, wp_iC, wp_addI, wp_addT, wp_mulI, wp_neg, wp_tup, wp_lst, sz0, sz1, sz2, sz3, sz4, sz5, sz6, sz7, sz8, wp_yes, wp_ixT, wp_ixL, wp_setL, wp_isi, tyN, isi_ii, isi_ib, isi_bi, isi_bb, isi_nb, isi_ni, isi_ns, isi_nt, isi_nl, isi_nd, isi_bs, isi_bt, isi_bl, isi_bd, isi_is, isi_it, isi_il, isi_id, isi_sb, isi_si, isi_ss, isi_st, isi_sl, isi_sd, isi_tb, isi_ti, isi_ts, isi_tt, isi_tl, isi_td, isi_lb, isi_li, isi_ls, isi_lt, isi_ll, isi_ld, isi_db, isi_di, isi_ds, isi_dt, isi_dl, isi_dd, wp_slice, wp_noPart, wp_part, asInt_int, wp_slT, wp_slL, wp_mulT, wp_src, wp_lc, wipeE, D.ref.injEq, D.tup.injEq, reduceCtorEq, false_and, exists_false, false_or, or_false, cpt2, cpt3, cpt4, cpt5, cpt6, cpt7, cpt8, cpt9, cpt10, cpt11, cpt12, cpt13, cpt14, cpt15, cpt16, cpt17, cpt18, cpt19, cpt20, cpt24, cpt30, cpt36, cpt40, cpt48, cpt50, cpt58, cpt59, cpt60, wp_extend, wp_revL, exists_and_left, wp_ML, wp_ML0, isLs_ref, wp_append, wp_pop, wp_tupleR, wp_tupleT, wp_listR, wp_listT, wp_all, wp_any, wp_sum, wp_notB, wp_isB, wp_isN, wp_notN, Option.isSome_some, wp_rng1, wp_rng2, wp_rng3, lsAt, lsO_lst, lsO_fro, lstO_lst, wp_lenR, lenO_lst, lenO_fro, lenO_dK, List.length_map, List.getElem?_cons_zero, List.getElem?_cons_succ, wp_dnew, wp_dget, wp_din, wp_dnin, wp_dg1, wp_dput, wp_dpop, wp_MD, isDk_ref, dkO_dK, keyD_int, keyD_str, wp_lrg1, wp_trg1, wp_MS, isStrB_str, wp_sindex, wp_isiT, wp_strI, wp_eqS, wp_neS, wp_eqI, wp_neI, wp_eqB, wp_neB, wp_abs, wp_intI, wp_intB, wp_max2, wp_min2, wp_lenT, wp_for, wp_ok, wp_bad, lp_nx, lp_ct, lp_bk, lp_rt, lp_xc, asBl_bl, at0, at1, at2, List.map_cons, List.map_nil, List.cons_append, List.nil_append, List.length_cons, List.length_nil, List.replicate, List.set_cons_zero, List.set_cons_succ, Nat.reduceAdd, Int.reduceToNat, Int.reducePow, Int.reduceNeg, Int.reduceMul, Int.reduceAdd, Int.reduceSub, Int.reduceMod, Int.reduceDiv, Int.reduceLT, Int.reduceLE, Int.zero_mul, Int.zero_add, Int.cast_ofNat_Int, Int.reduceBEq, Nat.reduceLeDiff, Nat.reduceEqDiff, true_and, and_true, Nat.reduceSub, if_true, Option.some.injEq, exists_eq_left', Bool.not_true, Bool.not_false, decide_eq_true_eq, Bool.false_eq_true, if_false])
local macro_rules | `(tactic| walk_at "cks") => `(tactic| try simp only [wp_seq, wp_asg, wp_if, wp_ret, wp_retN, wp_drop, wp_fn, wp_var0, wp_varS, wp_mC, wp_m2, wp_m1, wp_nil, wp_cons, wp_args, wp_call, wp_tst, wp_and, wp_or, wp_not, wp_andV, wp_orV, wp_notV, wp_ifE, wp_chain, wp_nx, wp_brk, wp_cnt, aft_nx, aft_rt, aft_bk, aft_ct, aft_xc, fin_rt, fin_nx, fin_xc, fin_bk, fin_ct, wp_gNm, wp_gTp, wp_gsNil, wp_gsCons, wp_gSub, wp_par, wp_par3, wp_i0, wp_iC, wp_addI, wp_addT, wp_mulI, wp_neg, wp_tup, wp_lst, sz0, sz1, sz2, sz3, sz4, sz5, sz6, sz7, sz8, wp_yes, wp_ixT, wp_ixL, wp_setL, wp_isi, tyN, isi_ii, isi_ib, isi_bi, isi_bb, isi_nb, isi_ni, isi_ns, isi_nt, isi_nl, isi_nd, isi_bs, isi_bt, isi_bl, isi_bd, isi_is, isi_it, isi_il, isi_id, isi_sb, isi_si, isi_ss, isi_st, isi_sl, isi_sd, isi_tb, isi_ti, isi_ts, isi_tt, isi_tl, isi_td, isi_lb, isi_li, isi_ls, isi_lt, isi_ll, isi_ld, isi_db, isi_di, isi_ds, isi_dt, isi_dl, isi_dd, wp_slice, wp_noPart, wp_part, asInt_int, wp_slT, wp_slL, wp_mulT, wp_src, wp_lc, wipeE, D.ref.injEq, D.tup.injEq, reduceCtorEq, false_and, exists_false, false_or, or_false, cpt2, cpt3, cpt4, cpt5, cpt6, cpt7, cpt8, cpt9, cpt10, cpt11, cpt12, cpt13, cpt14, cpt15, cpt16, cpt17, cpt18, cpt19, cpt20, cpt24, cpt30, cpt36, cpt40, cpt48, cpt50, cpt58, cpt59, cpt60, wp_extend, wp_revL, exists_and_left, wp_ML, wp_ML0, isLs_ref, wp_append, wp_pop, wp_tupleR, wp_tupleT, wp_listR, wp_listT, wp_all, wp_any, wp_sum, wp_notB, wp_isB, wp_isN, wp_notN, Option.isSome_some, wp_rng1, wp_rng2, wp_rng3, lsAt, lsO_lst, lsO_fro, lstO_lst, wp_lenR, lenO_lst, lenO_fro, lenO_dK, List.length_map, List.getElem?_cons_zero, List.getElem?_cons_succ, wp_dnew, wp_dget, wp_din, wp_dnin, wp_dg1, wp_dput, wp_dpop, wp_MD, isDk_ref, dkO_dK, keyD_int, keyD_str, wp_lrg1, wp_trg1, wp_MS, isStrB_str, wp_sindex, wp_isiT, wp_strI, wp_eqS, wp_neS, wp_eqI, wp_neI, wp_eqB, wp_neB, wp_abs, wp_intI, wp_intB, wp_max2, wp_min2, wp_lenT, wp_for, wp_ok, wp_bad, lp_nx, lp_ct, lp_bk, lp_rt, lp_xc, asBl_bl, at0, at1, at2, List.map_cons, List.map_nil, List.cons_append, List.nil_append, List.length_cons, List.length_nil, List.replicate, List.set_cons_zero, List.set_cons_succ, Nat.reduceAdd, Int.reduceToNat, Int.reducePow, Int.reduceNeg, Int.reduceMul, Int.reduceAdd, Int.reduceSub, Int.reduceMod, Int.reduceDiv, Int.reduceLT, Int.reduceLE, Int.zero_mul, Int.zero_add, Int.cast_ofNat_Int, Int.reduceBEq, Nat.reduceLeDiff, Nat.reduceEqDiff, true_and, and_true, Nat.reduceSub, if_true, Option.some.injEq, exists_eq_left', Bool.not_true, Bool.not_false, decide_eq_true_eq, Bool.false_eq_true, if_false, *])
local macro_rules | `(tactic| walk_at "ck1") => `(tactic| try simp only [wp_seq, wp_asg, wp_if, wp_ret, wp_retN, wp_drop, wp_fn, wp_var0, wp_varS, wp_mC, wp_m2, wp_m1, wp_nil, wp_cons, wp_args, wp_call, wp_tst, wp_and, wp_or, wp_not, wp_andV, wp_orV, wp_notV, wp_ifE, wp_chain, wp_nx, wp_brk, wp_cnt, aft_rt, aft_bk, aft_ct, aft_xc, fin_rt, fin_nx, fin_xc, fin_bk, fin_ct, wp_gNm, wp_gTp, wp_gsNil, wp_gsCons, wp_gSub, wp_par, wp_par3, wp_i0, wp_iC, wp_addI, wp_addT, wp_mulI, wp_neg, wp_tup, wp_lst, sz0, sz1, sz2, sz3, sz4, sz5, sz6, sz7, sz8, wp_yes, wp_ixT, wp_ixL, wp_setL, wp_isi, tyN, isi_ii, isi_ib, isi_bi, isi_bb, isi_nb, isi_ni, isi_ns, isi_nt, isi_nl, isi_nd, isi_bs, isi_bt, isi_bl, isi_bd, isi_is, isi_it, isi_il, isi_id, isi_sb, isi_si, isi_ss, isi_st, isi_sl, isi_sd, isi_tb, isi_ti, isi_ts, isi_tt, isi_tl, isi_td, isi_lb, isi_li, isi_ls, isi_lt, isi_ll, isi_ld, isi_db, isi_di, isi_ds, isi_dt, isi_dl, isi_dd, wp_slice, wp_noPart, wp_part, asInt_int, wp_slT, wp_slL, wp_mulT, wp_src, wp_lc, wipeE, D.ref.injEq, D.tup.injEq, reduceCtorEq, false_and, exists_false, false_or, or_false, cpt2, cpt3, cpt4, cpt5, cpt6, cpt7, cpt8, cpt9, cpt10, cpt11, cpt12, cpt13, cpt14, cpt15, cpt16, cpt17, cpt18, cpt19, cpt20, cpt24, cpt30, cpt36, cpt40, cpt48, cpt50, cpt58, cpt59, cpt60, wp_extend, wp_revL, exists_and_left, wp_ML, wp_ML0, isLs_ref, wp_append, wp_pop, wp_tupleR, wp_tupleT, wp_listR, wp_listT, wp_all, wp_any, wp_sum, wp_notB, wp_isB, wp_isN, wp_notN, Option.isSome_some, wp_rng1, wp_rng2, wp_rng3, lsAt, lsO_lst, lsO_fro, lstO_lst, wp_lenR, lenO_lst, lenO_fro, lenO_dK, List.length_map, List.getElem?_cons_zero, List.getElem?_cons_succ, wp_dnew, wp_dget, wp_din, wp_dnin, wp_dg1, wp_dput, wp_dpop, wp_MD, isDk_ref, dkO_dK, keyD_int, keyD_str, wp_lrg1, wp_trg1, wp_MS, isStrB_str, wp_sindex, wp_isiT, wp_strI, wp_eqS, wp_neS, wp_eqI, wp_neI, wp_eqB, wp_neB, wp_abs, wp_intI, wp_intB, wp_max2, wp_min2, wp_lenT, wp_for, wp_ok, wp_bad, lp_nx, lp_ct, lp_bk, lp_rt, lp_xc, asBl_bl, at0, at1, at2, List.map_cons, List.map_nil, List.cons_append, List.nil_append, List.length_cons, List.length_nil, List.replicate, List.set_cons_zero, List.set_cons_succ, Nat.reduceAdd, Int.reduceToNat, Int.reducePow, Int.reduceNeg, Int.reduceMul, Int.reduceAdd, Int.reduceSub, Int.reduceMod, Int.reduceDiv, Int.reduceLT, Int.reduceLE, Int.zero_mul, Int.zero_add, Int.cast_ofNat_Int, Int.reduceBEq, Nat.reduceLeDiff, Nat.reduceEqDiff, true_and, and_true, Nat.reduceSub, if_true, Option.some.injEq, exists_eq_left', Bool.not_true, Bool.not_false, decide_eq_true_eq, Bool.false_eq_true, if_false])
abbrev Pr := Int × Int
def pd (p : Pr) : D := .tup [.int p.1, .int p.2]
def tops : Tr → List Int
  | .e => []
  | .n _ c _ => [c.1]
def lk : Tr → List Pr
  | .e => []
  | .n l c r => (tops l ++ tops r).map (fun k => (c.1, k)) ++ (lk l ++ lk r)
def busy (ts : List Tr) : Nat := (ts.map fun t => 2 * t.cards.length + 1).sum
theorem busy_app {ts us : List Tr} : busy (ts ++ us) = busy ts + busy us := by unfold busy; rw [List.map_append, List.sum_append]
structure Gath (t : Tr) (fs : List Pr) (ts : List Tr) : Prop where
  pm : (fs ++ ts.flatMap lk).Perm (lk t)
  ht : ∀ u ∈ ts, u.ht ≤ 150
  bs : busy ts ≤ 2 * t.cards.length + 1
theorem Gath.drop {t : Tr} {fs : List Pr} {ts : List Tr} (h : Gath t fs (ts ++ [.e])) : Gath t fs ts := by
  refine ⟨?_, fun u hu => h.ht u (by simp [hu]), ?_⟩
  · have := h.pm
    rw [List.flatMap_append] at this
    simpa [lk] using this
  · have := h.bs
    rw [busy_app] at this
    omega
inductive Turn : Tr → Tr → Prop where
  | up {a b r : Tr} {x c : Card} : Turn (.n (.n a x b) c r) (.n a x (.n b c r))
  | dn {l a b : Tr} {x c : Card} : Turn (.n l c (.n a x b)) (.n (.n l c a) x b)
  | inl {l l' r : Tr} {c : Card} (h : Turn l l') : Turn (.n l c r) (.n l' c r)
  | inr {l r r' : Tr} {c : Card} (h : Turn r r') : Turn (.n l c r) (.n l c r')
theorem Turn.cards {t u : Tr} (h : Turn t u) : u.cards = t.cards := by
  induction h with
  | up => simp [Tr.cards]
  | dn => simp [Tr.cards]
  | inl h ih => simp [Tr.cards, ih]
  | inr h ih => simp [Tr.cards, ih]
abbrev Rd := Int × Bool
def rd : Tr → Int → List Rd
  | .e, _ => []
  | .n l c r, key => if c.1 < key then (c.1, true) :: rd r key else (c.1, false) :: rd l key
end Lib
end CK
end

section
set_option Elab.async false
set_option linter.all false
set_option exponentiation.threshold 100000
set_option maxRecDepth 100000
set_option maxHeartbeats 4000000
namespace CK
namespace Lib
open PySem PySem.Spec PyProof.Rows L2
local macro_rules | `(tactic| walk_at "ck") => `(tactic| try simp only [wp_seq, wp_asg, wp_if, wp_ret, wp_retN, wp_drop, wp_fn, wp_var0, wp_varS, wp_mC, wp_m2, wp_m1, wp_nil, wp_cons, wp_args, wp_call, wp_tst, wp_and, wp_or, wp_not, wp_andV, wp_orV, wp_notV, wp_ifE, wp_chain, wp_nx, wp_brk, wp_cnt, aft_nx, aft_rt, aft_bk, aft_ct, aft_xc, fin_rt, fin_nx, fin_xc, fin_bk, fin_ct, wp_gNm, wp_gTp, wp_gsNil, wp_gsCons, wp_gSub, wp_par, wp_par3, wp_i0, wp_iC, wp_addI, wp_addT, wp_mulI, wp_neg, wp_tup, wp_lst, sz0, sz1, sz2, sz3, sz4, sz5, sz6, sz7, sz8, wp_yes, wp_ixT, wp_ixL, wp_setL, wp_isi, tyN, isi_ii, isi_ib, isi_bi, isi_bb, isi_nb, isi_ni, isi_ns, isi_nt, isi_nl, isi_nd, isi_bs, isi_bt, isi_bl, isi_bd, isi_is, isi_it, isi_il, isi_id, isi_sb, isi_si, isi_ss, isi_st, isi_sl, isi_sd, isi_tb, isi_ti, isi_ts, isi_tt, isi_tl, isi_td, isi_lb, isi_li, isi_ls, isi_lt, isi_ll, isi_ld, isi_db, isi_di, isi_ds, isi_dt, isi_dl, isi_dd, wp_slice, wp_noPart, wp_part, asInt_int, wp_slT, wp_slL, wp_mulT, wp_src, wp_lc, wipeE, D.ref.injEq, D.tup.injEq, reduceCtorEq, false_and, exists_false, false_or, or_false, cpt2, cpt3, cpt4, cpt5, cpt6, cpt7, cpt8, cpt9, cpt10, cpt11, cpt12, cpt13, cpt14, cpt15, cpt16, cpt17, cpt18, cpt19, cpt20, cpt24, cpt30, cpt36, cpt40, cpt48, cpt50, cpt58, cpt59, cpt60, wp_extend, wp_revL, exists_and_left, wp_ML, wp_ML0, isLs_ref, wp_append, wp_pop, wp_tupleR, wp_tupleT, wp_listR, wp_listT, wp_all, wp_any, wp_sum, wp_notB, wp_isB, wp_isN, wp_notN, Option.isSome_some, wp_rng1, wp_rng2, wp_rng3, lsAt, lsO_lst, lsO_fro, lstO_lst, wp_lenR, lenO_lst, lenO_fro, lenO_dK, List.length_map, List.getElem?_cons_zero, List.getElem?_cons_succ, wp_dnew, wp_dget, wp_din, wp_dnin, wp_dg1, wp_dput, wp_dpop, wp_MD, isDk_ref, dkO_dK, keyD_int, keyD_str, wp_lrg1, wp_trg1, wp_MS, isStrB_str, wp_sindex, wp_isiT, wp_strI, wp_eqS, wp_neS, wp_eqI, wp_neI, wp_eqB, wp_neB, wp_abs, wp_intI, wp_intB, wp_max2, wp_min2, wp_lenT, wp_for, wp_ok, wp_bad, lp_nx, lp_ct, lp_bk, lp_rt, lp_xc, asBl_bl, at0, at1, at2, List.map_cons, List.map_nil, List.cons_append, List.nil_append, List.length_cons, List.length_nil, List.replicate, List.set_cons_zero, List.set_cons_succ, Nat.reduceAdd, Int.reduceToNat, Int.reducePow, Int.reduceNeg, Int.reduceMul, Int.reduceAdd, Int.reduceSub, Int.reduceMod, Int.reduceDiv, Int.reduceLT, Int.reduceLE, Int.zero_mul, Int.zero_add, Int.cast_ofNat_Int, Int.reduceBEq, Nat.reduceLeDiff, Nat.reduceEqDiff, true_and, and_true, Nat.reduceSub, if_true, Option.some.injEq, exists_eq_left', Bool.not_true, Bool.not_false, decide_eq_true_eq, Bool.false_eq_true, if_false])
local macro_rules | `(tactic| walk_at "cks") => `(tactic| try simp only [wp_seq, wp_asg, wp_if, wp_ret, wp_retN, wp_drop, wp_fn, wp_var0, wp_varS, wp_mC, wp_m2, wp_m1, wp_nil, wp_cons, wp_args, wp_call, wp_tst, wp_and, wp_or, wp_not, wp_andV, wp_orV, wp_notV, wp_ifE, wp_chain, wp_nx, wp_brk, wp_cnt, aft_nx, aft_rt, aft_bk, aft_ct, aft_xc, fin_rt, fin_nx, fin_xc, fin_bk, fin_ct, wp_gNm, wp_gTp, wp_gsNil, wp_gsCons, wp_gSub, wp_par, wp_par3, wp_i0, wp_iC, wp_addI, wp_addT, wp_mulI, wp_neg, wp_tup, wp_lst, sz0, sz1, sz2, sz3, sz4, sz5, sz6, sz7, sz8, wp_yes, wp_ixT, wp_ixL, wp_setL, wp_isi, tyN, isi_ii, isi_ib, isi_bi, isi_bb, isi_nb, isi_ni, isi_ns, isi_nt, isi_nl, isi_nd, isi_bs, isi_bt, isi_bl, isi_bd, isi_is, isi_it, isi_il, isi_id, isi_sb, isi_si, isi_ss, isi_st, isi_sl, isi_sd, isi_tb, isi_ti, isi_ts, isi_tt, isi_tl, isi_td, isi_lb, isi_li, isi_ls, isi_lt, isi_ll, isi_ld, isi_db, isi_di, isi_ds, isi_dt, isi_dl, isi_dd, wp_slice, wp_noPart, wp_part, asInt_int, wp_slT, wp_slL, wp_mulT, wp_src, wp_lc, wipeE, D.ref.injEq, D.tup.injEq, reduceCtorEq, false_and, exists_false, false_or, or_false, cpt2, cpt3, cpt4, cpt5, cpt6, cpt7, cpt8, cpt9, cpt10, cpt11, cpt12, cpt13, cpt14, cpt15, cpt16, cpt17, cpt18, cpt19, cpt20, cpt24, cpt30, cpt36, cpt40, cpt48, cpt50, cpt58, cpt59, cpt60, wp_extend, wp_revL, exists_and_left, wp_ML, wp_ML0, isLs_ref, wp_append, wp_pop, wp_tupleR, wp_tupleT, wp_listR, wp_listT, wp_all, wp_any, wp_sum, wp_notB, wp_isB, wp_isN, wp_notN, Option.isSome_some, wp_rng1, wp_rng2, wp_rng3, lsAt, lsO_lst, lsO_fro, lstO_lst, wp_lenR, lenO_lst, lenO_fro, lenO_dK, List.length_map, List.getElem?_cons_zero, List.getElem?_cons_succ, wp_dnew, wp_dget, wp_din, wp_dnin, wp_dg1, wp_dput, wp_dpop, wp_MD, isDk_ref, dkO_dK, keyD_int, keyD_str, wp_lrg1, wp_trg1, wp_MS, isStrB_str, wp_sindex, wp_isiT, wp_strI, wp_eqS, wp_neS, wp_eqI, wp_neI, wp_eqB, wp_neB, wp_abs, wp_intI, wp_intB, wp_max2, wp_min2, wp_lenT, wp_for, wp_ok, wp_bad, lp_nx, lp_ct, lp_bk, lp_rt, lp_xc, asBl_bl, at0, at1, at2, List.map_cons, List.map_nil, List.cons_append, List.nil_append, List.length_cons, List.length_nil, List.replicate, List.set_cons_zero, List.set_cons_succ, Nat.reduceAdd, Int.reduceToNat, Int.reducePow, Int.reduceNeg, Int.reduceMul, Int.reduceAdd, Int.reduceSub, Int.reduceMod, Int.reduceDiv, Int.reduceLT, Int.reduceLE, Int.zero_mul, Int.zero_add, Int.cast_ofNat_Int, Int.reduceBEq, Nat.reduceLeDiff, Nat.reduceEqDiff, true_and, and_true, Nat.reduceSub, if_true, Option.some.injEq, exists_eq_left', Bool.not_true, Bool.not_false, decide_eq_true_eq, Bool.false_eq_true, if_false, *])
local macro_rules | `(tactic| walk_at "ck1") => `(tactic| try simp only [wp_seq, wp_asg, wp_if, wp_ret, wp_retN, wp_drop, wp_fn, wp_var0, wp_varS, wp_mC, wp_m2, wp_m1, wp_nil, wp_cons, wp_args, wp_call, wp_tst, wp_and, wp_or, wp_not, wp_andV, wp_orV, wp_notV, wp_ifE, wp_chain, wp_nx, wp_brk, wp_cnt, aft_rt, aft_bk, aft_ct, aft_xc, fin_rt, fin_nx, fin_xc, fin_bk, fin_ct, wp_gNm, wp_gTp, wp_gsNil, wp_gsCons, wp_gSub, wp_par, wp_par3, wp_i0, wp_iC, wp_addI, wp_addT, wp_mulI, wp_neg, wp_tup, wp_lst, sz0, sz1, sz2, sz3, sz4, sz5, sz6, sz7, sz8, wp_yes, wp_ixT, wp_ixL, wp_setL, wp_isi, tyN, isi_ii, isi_ib, isi_bi, isi_bb, isi_nb, isi_ni, isi_ns, isi_nt, isi_nl, isi_nd, isi_bs, isi_bt, isi_bl, isi_bd, isi_is, isi_it, isi_il, isi_id, isi_sb, isi_si, isi_ss, isi_st, isi_sl, isi_sd, isi_tb, isi_ti, isi_ts, isi_tt, isi_tl, isi_td, isi_lb, isi_li, isi_ls, isi_lt, isi_ll, isi_ld, isi_db, isi_di, isi_ds, isi_dt, isi_dl, isi_dd, wp_slice, wp_noPart, wp_part, asInt_int, wp_slT, wp_slL, wp_mulT, wp_src, wp_lc, wipeE, D.ref.injEq, D.tup.injEq, reduceCtorEq, false_and, exists_false, false_or, or_false, cpt2, cpt3, cpt4, cpt5, cpt6, cpt7, cpt8, cpt9, cpt10, cpt11, cpt12, cpt13, cpt14, cpt15, cpt16, cpt17, cpt18, cpt19, cpt20, cpt24, cpt30, cpt36, cpt40, cpt48, cpt50, cpt58, cpt59, cpt60, wp_extend, wp_revL, exists_and_left, wp_ML, wp_ML0, isLs_ref, wp_append, wp_pop, wp_tupleR, wp_tupleT, wp_listR, wp_listT, wp_all, wp_any, wp_sum, wp_notB, wp_isB, wp_isN, wp_notN, Option.isSome_some, wp_rng1, wp_rng2, wp_rng3, lsAt, lsO_lst, lsO_fro, lstO_lst, wp_lenR, lenO_lst, lenO_fro, lenO_dK, List.length_map, List.getElem?_cons_zero, List.getElem?_cons_succ, wp_dnew, wp_dget, wp_din, wp_dnin, wp_dg1, wp_dput, wp_dpop, wp_MD, isDk_ref, dkO_dK, keyD_int, keyD_str, wp_lrg1, wp_trg1, wp_MS, isStrB_str, wp_sindex, wp_isiT, wp_strI, wp_eqS, wp_neS, wp_eqI, wp_neI, wp_eqB, wp_neB, wp_abs, wp_intI, wp_intB, wp_max2, wp_min2, wp_lenT, wp_for, wp_ok, wp_bad, lp_nx, lp_ct, lp_bk, lp_rt, lp_xc, asBl_bl, at0, at1, at2, List.map_cons, List.map_nil, List.cons_append, List.nil_append, List.length_cons, List.length_nil, List.replicate, List.set_cons_zero, List.set_cons_succ, Nat.reduceAdd, Int.reduceToNat, Int.reducePow, Int.reduceNeg, Int.reduceMul, Int.reduceAdd, Int.reduceSub, Int.reduceMod, Int.reduceDiv, Int.reduceLT, Int.reduceLE, Int.zero_mul, Int.zero_add, Int.cast_ofNat_Int, Int.reduceBEq, Nat.reduceLeDiff, Nat.reduceEqDiff, true_and, and_true, Nat.reduceSub, if_true, Option.some.injEq, exists_eq_left', Bool.not_true, Bool.not_false, decide_eq_true_eq, Bool.false_eq_true, if_false])
def law_number_M : List D → M D := mFn 5
 (mSeq (mAsg (mCall 2 law_take_M (mCons (mVar 0) (mCons (mC (.int 5)) mNil))) (gNm 2))
 (mSeq (mAsg (mCall 2 law_take_M (mCons (mVar 0) (mCons (mC (.int 12)) mNil))) (gNm 3))
 (mSeq (mAsg (m2 ixM (mArgs lstM (mCons (m2 addM (mVar 1) (mVar 3)) (mCons (m2 fdivM (mVar 3) (mC (.int 4))) (mCons (m2 subM (m2 powM (mC (.int 10)) (mC (.int 18))) (m2 fdivM (mVar 3) (mC (.int 4)))) (mCons (m2 addM (mVar 1) (mVar 3)) mNil))))) (mArgs minM (mCons (mVar 2) (mCons (mC (.int 3)) mNil)))) (gNm 4))
 (mSeq (mIf (mTst (m2 eqM (mVar 2) (mC (.int 4))))
 (mAsg (mCall 1 law_great2_M (mCons (mVar 0) mNil)) (gNm 4))
 mNx)
 (mRet (mArgs minM (mCons (mVar 4) (mCons (m2 powM (mC (.int 10)) (mC (.int 18))) mNil))))))))
def law_card_M : List D → M D := mFn 6
 (mSeq (mAsg (mCall 2 law_number_M (mCons (mVar 0) (mCons (mVar 1) mNil))) (gNm 3))
 (mSeq (mAsg (m2 ixM (mArgs lstM (mCons (mC (.int 7)) (mCons (mCall 2 law_take_M (mCons (mVar 0) (mCons (mC (.int 3)) mNil))) (mCons (mCall 2 law_number_M (mCons (mVar 0) (mCons (mVar 1) mNil))) mNil)))) (mVar 2)) (gNm 4))
 (mSeq (mAsg (m2 subM (mCall 2 law_take_M (mCons (mVar 0) (mCons (mC (.int 19)) mNil))) (mC (.int 9))) (gNm 5))
 (mSeq (mIf (mTst (m2 eqM (mCall 2 law_take_M (mCons (mVar 0) (mCons (mC (.int 4)) mNil))) (mC (.int 0))))
 (mAsg (m2 mulM (mCall 1 law_great2_M (mCons (mVar 0) mNil)) (m2 ixM (mArgs lstM (mCons (mC (.int 1)) (mCons (m2 subM (mC (.int 0)) (mC (.int 1))) mNil))) (mCall 2 law_take_M (mCons (mVar 0) (mCons (mC (.int 2)) mNil))))) (gNm 5))
 mNx)
 (mRet (mArgs tupM (mCons (mVar 3) (mCons (mVar 4) (mCons (mArgs maxM (mCons (m2 subM (mC (.int 0)) (m2 powM (mC (.int 10)) (mC (.int 18)))) (mCons (mArgs minM (mCons (m2 powM (mC (.int 10)) (mC (.int 18))) (mCons (mVar 5) mNil))) mNil))) mNil)))))))))
structure PackB (c : Card) : Prop where
  a : 0 ≤ c.1 ∧ c.1 ≤ 10 ^ 18
  b : 0 ≤ c.2.1 ∧ c.2.1 ≤ 10 ^ 18
  c : -(10 ^ 18) ≤ c.2.2 ∧ c.2.2 ≤ 10 ^ 18
end Lib
end CK
end

section
set_option Elab.async false
set_option linter.all false
set_option maxRecDepth 100000
set_option maxHeartbeats 4000000
namespace CK
namespace Lk02
open PySem PySem.Spec PyProof.Rows L2

open CK.Lib
def LX : List Str := ["TooMany", "Twice"]
def law_cards_M : List D → M D := mFn 8
 (mSeq (mAsg (mCall 2 law_take_M (mCons (mVar 0) (mCons (mC (.int 3)) mNil))) (gNm 1))
 (mSeq (mAsg (mCall 2 law_take_M (mCons (mVar 0) (mCons (mC (.int 3)) mNil))) (gNm 2))
 (mSeq (mAsg (m2 ixM (mArgs lstM (mCons (mCall 2 law_take_M (mCons (mVar 0) (mCons (mC (.int 12)) mNil))) (mCons (mCall 2 law_take_M (mCons (mVar 0) (mCons (mC (.int 71)) mNil))) (mCons (m2 addM (mC (.int 64)) (mCall 2 law_take_M (mCons (mVar 0) (mCons (mC (.int 3)) mNil)))) mNil)))) (mVar 1)) (gNm 3))
 (mSeq (mAsg (m2 mulM (mCall 1 law_great2_M (mCons (mVar 0) mNil)) (mCall 2 law_take_M (mCons (mVar 0) (mCons (mC (.int 2)) mNil)))) (gNm 4))
 (mSeq (mAsg (mArgs lstM mNil) (gNm 5))
 (mSeq (mFor (mRng1 (mCons (mVar 3) mNil)) (gNm 6)
 (mSeq (mAsg (mCall 3 law_card_M (mCons (mVar 0) (mCons (mVar 4) (mCons (mC (.int 2)) mNil)))) (gNm 7))
 (mSeq (mIf (mTst (m2 gtM (mVar 1) (mC (.int 0))))
 (mAsg (mArgs tupM (mCons (m2 addM (mArgs minM (mCons (mVar 4) (mCons (m2 subM (m2 powM (mC (.int 10)) (mC (.int 18))) (mC (.int 100))) mNil))) (mVar 6)) (mCons (m2 ixM (mVar 7) (mC (.int 1))) (mCons (m2 ixM (mVar 7) (mC (.int 2))) mNil)))) (gNm 7))
 mNx)
 (mDrop (mML insertM (mVar 5) (mCons (mCall 2 law_take_M (mCons (mVar 0) (mCons (m2 addM (mArgs lenM (mCons (mVar 5) mNil)) (mC (.int 1))) mNil))) (mCons (mVar 7) mNil)))))))
 (mSeq (mFor (mRng1 (mCons (m2 mulM (mVar 2) (mArgs intM (mCons (m2 neM (mVar 5) (mArgs lstM mNil)) mNil))) mNil)) (gNm 6)
 (mSeq (mAsg (m2 ixM (mVar 5) (mCall 2 law_take_M (mCons (mVar 0) (mCons (mArgs lenM (mCons (mVar 5) mNil)) mNil)))) (gNm 7))
 (mDrop (mML insertM (mVar 5) (mCons (mCall 2 law_take_M (mCons (mVar 0) (mCons (m2 addM (mArgs lenM (mCons (mVar 5) mNil)) (mC (.int 1))) mNil))) (mCons (mArgs tupM (mCons (m2 ixM (mVar 7) (mC (.int 0))) (mCons (mCall 2 law_take_M (mCons (mVar 0) (mCons (mC (.int 5)) mNil))) (mCons (m2 ixM (mVar 7) (mC (.int 2))) mNil)))) mNil))))))
 (mRet (mVar 5)))))))))
def checked_M : List D → M D := mFn 3
 (mSeq (mAsg dnewM (gNm 1))
 (mSeq (mFor (mSrc (mVar 0)) (gNm 2)
 (mSeq (mIf (mTst (m2 dinM (m2 ixM (mVar 2) (mC (.int 0))) (mVar 1)))
 (mRaise "Twice" "key" (mCons (m2 ixM (mVar 2) (mC (.int 0))) mNil))
 mNx)
 (mAsg (mC (.bl true)) (gSubM (mVar 1) (m2 ixM (mVar 2) (mC (.int 0))) dputM))))
 (mSeq (mIf (mTst (m2 gtM (mArgs lenM (mCons (mVar 0) mNil)) (mC (.int 64))))
 (mRaise "TooMany" "most" (mCons (mC (.int 64)) mNil))
 mNx)
 (mRet (mArgs listM (mCons (mVar 0) mNil))))))
def law_refusal_M : List D → M D := mFn 3
 (mSeq (mAsg (mC .non) (gNm 1))
 (mSeq (mTryAsK LX "CrestError" 2 (mAsg (mCall 1 checked_M (mCons (mVar 0) mNil)) (gNm 1)) (fun x j => (mAsg (mVar 2) (gNm 1))))
 (mRet (mVar 1))))
def law_twice_M : List D → M D := mFn 3
 (mSeq (mFor (mRng1 (mCons (mArgs lenM (mCons (mVar 0) mNil)) mNil)) (gNm 1)
 (mIf (mTst (m2 (inXM false) (m2 ixM (m2 ixM (mVar 0) (mVar 1)) (mC (.int 0))) (mLc (mSrc (mSlice (mVar 0) mNoPart (mPart (mVar 1)))) (gNm 2) mYes (m2 ixM (mVar 2) (mC (.int 0))) [2])))
 (mRet (m2 ixM (m2 ixM (mVar 0) (mVar 1)) (mC (.int 0))))
 mNx))
 (mRet (mC .non)))
def law_alone_M : List D → M D := mFn 3
 (mSeq (mAsg (mArgs lstM (mCons (isXM LX "Twice" (mVar 0)) (mCons (isXM LX "TooMany" (mVar 0)) (mCons (isXM LX "NoKey" (mVar 0)) (mCons (isXM LX "NoTurn" (mVar 0)) (mCons (isXM LX "Mingled" (mVar 0)) mNil)))))) (gNm 2))
 (mRet (mAndV (isXM LX "ValueError" (mVar 0)) (mAndV (m2 eqM (mML countDM (mVar 2) (mCons (mC (.bl true)) mNil)) (mC (.int 1))) (m2 ixM (mVar 2) (mVar 1))))))
def law_M : List D → M D := mFn 8
 (mSeq (mFor (mRng1 (mCons (mArgs maxM (mCons (mC (.int 2)) (mCons (mArgs minM (mCons (mArgs lenM (mCons (mVar 0) mNil)) (mCons (mC (.int 8)) mNil))) mNil))) mNil)) (gNm 1)
 (mSeq (mAsg (mCall 2 law_pot_M (mCons (mVar 0) (mCons (mVar 1) mNil))) (gNm 2))
 (mSeq (mAsg (mCall 2 law_take_M (mCons (mVar 2) (mCons (mC (.int 2)) mNil))) (gNm 3))
 (mSeq (mAsg (mCall 1 law_cards_M (mCons (mVar 2) mNil)) (gNm 4))
 (mSeq (mAsg (m2 ixM (mArgs lstM (mCons (mArgs listM (mCons (mVar 4) mNil)) (mCons (mArgs tupleM (mCons (mVar 4) mNil)) mNil))) (mVar 3)) (gNm 5))
 (mSeq (mAsg (mCall 1 law_refusal_M (mCons (mVar 5) mNil)) (gNm 6))
 (mSeq (mAsg (mCall 1 law_twice_M (mCons (mVar 4) mNil)) (gNm 7))
 (mSeq (mIf (mTst (m2 notM (mVar 7) (mC .non)))
 (mIf (mOr (mNot (mTst (mCall 2 law_alone_M (mCons (mVar 6) (mCons (mC (.int 0)) mNil))))) (mTst (m2 neM (fldXM LX "key" (mVar 6)) (mVar 7))))
 (mRet (mC (.bl false)))
 mNx)
 (mIf (mTst (m2 gtM (mArgs lenM (mCons (mVar 4) mNil)) (mC (.int 64))))
 (mIf (mOr (mNot (mTst (mCall 2 law_alone_M (mCons (mVar 6) (mCons (mC (.int 1)) mNil))))) (mTst (m2 neM (fldXM LX "most" (mVar 6)) (mC (.int 64)))))
 (mRet (mC (.bl false)))
 mNx)
 (mSeq (mIf (mOr (mNot (mTst (mIsi "list" (mVar 6)))) (mTst (m2 neM (mVar 6) (mVar 4))))
 (mRet (mC (.bl false)))
 mNx)
 (mSeq (mDrop (mML appendM (mVar 6) (mCons (mArgs tupM (mCons (mC (.int 1)) (mCons (mC (.int 1)) (mCons (mC (.int 1)) mNil)))) mNil)))
 (mIf (mTst (m2 neM (mCall 1 checked_M (mCons (mVar 5) mNil)) (mVar 4)))
 (mRet (mC (.bl false)))
 mNx)))))
 (mIf (mTst (m2 neM (mArgs listM (mCons (mVar 5) mNil)) (mVar 4)))
 (mRet (mC (.bl false)))
 mNx)))))))))
 (mRet (m2 eqM (mCall 1 checked_M (mCons (mArgs lstM mNil) mNil)) (mArgs lstM mNil))))
end Lk02
end CK
end

section
set_option Elab.async false
set_option linter.all false
set_option maxRecDepth 100000
set_option maxHeartbeats 4000000
namespace CK
namespace Pv
open PySem PySem.Spec PyProof.Rows L2


inductive PR (ε α : Type) where
  | ok (a : α) (s : ε) | ex (n : Str) (fs : List (Str × D)) (s : ε) | bad
abbrev PM (ε α : Type) := ε → PR ε α
section
variable {ε α β γ : Type}
def ret (a : α) : PM ε α := fun s => .ok a s
def pbad : PM ε α := fun _ => .bad
def bnd (x : PM ε α) (k : α → PM ε β) : PM ε β := fun s => match x s with
  | .ok a s' => k a s'
  | .ex n f s' => .ex n f s'
  | .bad => .bad
def getS : PM ε ε := fun s => .ok s s
def putS (s : ε) : PM ε Unit := fun _ => .ok () s
def lft (x : PM Unit α) : PM ε α := fun s => match x () with
  | .ok a _ => .ok a s
  | .ex n f _ => .ex n f s
  | .bad => .bad
def pthrow (n : Str) (fs : List (Str × D)) : PM ε α := fun s => .ex n fs s

def nox (x : PM ε α) : PM ε α := fun s => match x s with
  | .ok a s' => .ok a s'
  | _ => .bad
end
inductive Out (σ l ρ : Type) where
  | nx (v : σ) | rt (v : ρ) | bk (v : l) | ct (v : l)
section
variable {ε α β γ σ τ l l' ρ : Type}
def bndO (x : PM ε (Out σ l ρ)) (k : σ → PM ε (Out τ l ρ)) : PM ε (Out τ l ρ) := bnd x fun o => match o with
  | .nx v => k v
  | .rt v => ret (.rt v)
  | .bk v => ret (.bk v)
  | .ct v => ret (.ct v)

def bndI (x : PM ε (Out σ l ρ)) (k : σ → PM ε (Out τ l ρ)) : PM ε (Out τ l ρ) := bndO x k

def aftO (k : σ → PM ε (Out σ l ρ)) : Out σ σ ρ → PM ε (Out σ l ρ)
  | .nx w => k w
  | .ct w => k w
  | .bk w => ret (.nx w)
  | .rt r => ret (.rt r)
def forG (f : α → σ → PM ε (Out σ σ ρ)) : List α → σ → PM ε (Out σ l ρ)
  | [], v => ret (.nx v)
  | x :: xs, v => bnd (f x v) (aftO fun w => forG f xs w)
@[irreducible] def FV : Nat := FU
theorem FV_eq : FV = FU := by unfold FV; rfl
def forP (xs : List α) (v : σ) (f : α → σ → PM ε (Out σ σ ρ)) : PM ε (Out σ l ρ) := if xs.length < FV then forG f xs v else pbad
theorem forP_eq {xs : List α} {v : σ} {f : α → σ → PM ε (Out σ σ ρ)} : (forP xs v f : PM ε (Out σ l ρ)) = if xs.length < FU then forG f xs v else pbad := by unfold forP; rw [FV_eq]
def lcG (f : α → PM ε (Option β)) : List α → PM ε (List β)
  | [] => ret []
  | x :: xs => bnd (nox (f x)) fun o => bnd (lcG f xs) fun ys => match o with
    | some y => ret (y :: ys)
    | none => ret ys
def lcP (xs : List α) (f : α → PM ε (Option β)) : PM ε (List β) := if xs.length < sizeLine then lcG f xs else pbad

def fnP (x : PM ε (Out Unit Unit ρ)) : PM ε ρ := bnd x fun o => match o with
  | .rt v => ret v
  | _ => pbad
end


def Kx (X : List Nat) (S S' : Store) : Prop := S.length ≤ S'.length ∧ ∀ j o, j ∉ X → S[j]? = some o → S'[j]? = some o
def Xm (X X' : List Nat) (n : Nat) : Prop := ∀ k ∈ X', k ∈ X ∨ n ≤ k
theorem Kx.refl {X : List Nat} {S : Store} : Kx X S S := ⟨Nat.le_refl _, fun _ _ _ h => h⟩
theorem Kx.trans {X : List Nat} {S S1 S2 : Store} (a : Kx X S S1) (b : Kx X S1 S2) : Kx X S S2 := ⟨Nat.le_trans a.1 b.1, fun j o h e => b.2 j o h (a.2 j o h e)⟩
theorem get_lt' {S : Store} {j : Nat} {o : O} (h : S[j]? = some o) : j < S.length := (List.getElem?_eq_some_iff.mp h).1
theorem Kx.step {X X' : List Nat} {S S1 S2 : Store} (a : Kx X S S1) (m : Xm X X' S.length) (b : Kx X' S1 S2) : Kx X S S2 :=
  ⟨Nat.le_trans a.1 b.1, fun j o h e => b.2 j o (fun h' => (m j h').elim h fun hn => by have := get_lt' e; omega) (a.2 j o h e)⟩
theorem Xm.refl {X : List Nat} {n : Nat} : Xm X X n := fun _ h => .inl h
theorem Xm.trans {X X1 X2 : List Nat} {n n1 : Nat} (a : Xm X X1 n) (b : Xm X1 X2 n1) (h : n ≤ n1) : Xm X X2 n := fun k hk => (b k hk).elim (fun h1 => a k h1) fun h1 => .inr (Nat.le_trans h h1)
theorem Kx.app {X : List Nat} {S T : Store} : Kx X S (S ++ T) := ⟨by simp, fun j o _ e => by rw [List.getElem?_append_left (get_lt' e)]; exact e⟩
theorem Kx.more {X X' : List Nat} {S S' : Store} (a : Kx X S S') (h : ∀ k ∈ X, k ∈ X' ∨ S.length ≤ k) : Kx X' S S' := ⟨a.1, fun j o hj e => a.2 j o (fun h' => (h j h').elim hj fun hn => by have := get_lt' e; omega) e⟩
structure Ag where
  p : List Nat → Store → D → Prop
  mono : ∀ {X : List Nat} {S S' : Store} {d : D}, p X S d → Kx X S S' → p X S' d
  more : ∀ {X X' : List Nat} {S : Store} {d : D}, p X S d → Xm X X' S.length → p X' S d
structure Ao where
  p : List Nat → Store → O → Prop
  mono : ∀ {X : List Nat} {S S' : Store} {d : O}, p X S d → Kx X S S' → p X S' d
  more : ∀ {X X' : List Nat} {S : Store} {d : O}, p X S d → Xm X X' S.length → p X' S d
theorem Kx.wk {X X' : List Nat} {S S' : Store} (a : Kx X S S') : Kx (X ++ X') S S' := ⟨a.1, fun j o hj e => a.2 j o (fun h => hj (List.mem_append_left _ h)) e⟩
theorem Xm.app {X X' : List Nat} {n : Nat} (m : Xm X X' n) : Xm X (X ++ X') n := fun k hk => (List.mem_append.mp hk).elim .inl (m k)
theorem Xm.right {X X' : List Nat} {n : Nat} : Xm (X ++ X') X' n := fun k hk => .inl (List.mem_append_right _ hk)
theorem Ag.step {a : Ag} {X X' : List Nat} {S S' : Store} {d : D} (h : a.p X S d) (k : Kx X S S') (m : Xm X X' S.length) : a.p X' S' d := a.more (a.mono (a.more h m.app) k.wk) Xm.right
theorem Ao.step {a : Ao} {X X' : List Nat} {S S' : Store} {d : O} (h : a.p X S d) (k : Kx X S S') (m : Xm X X' S.length) : a.p X' S' d := a.more (a.mono (a.more h m.app) k.wk) Xm.right
inductive All2 {α β : Type} (R : α → β → Prop) : List α → List β → Prop
  | nil : All2 R [] []
  | cons {x : α} {y : β} {xs : List α} {ys : List β} : R x y → All2 R xs ys → All2 R (x :: xs) (y :: ys)
section
variable {α β : Type} {R R' : α → β → Prop}
theorem All2.imp (f : ∀ x y, R x y → R' x y) : ∀ {xs : List α} {ys : List β}, All2 R xs ys → All2 R' xs ys
  | _, _, .nil => .nil
  | _, _, .cons h t => .cons (f _ _ h) (All2.imp f t)
theorem All2.len : ∀ {xs : List α} {ys : List β}, All2 R xs ys → xs.length = ys.length
  | _, _, .nil => rfl
  | _, _, .cons _ t => by simp [t.len]
theorem All2.get : ∀ {xs : List α} {ys : List β} {j : Nat} {y : β}, All2 R xs ys → ys[j]? = some y → ∃ x, xs[j]? = some x ∧ R x y
  | _, _, _, _, .nil, h => by simp at h
  | _, _, 0, _, .cons r t, h => by simp at h; subst h; exact ⟨_, rfl, r⟩
  | _, _, j + 1, y, .cons r t, h => by
    obtain ⟨x, h1, h2⟩ := All2.get (j := j) (y := y) t (by simpa using h)
    exact ⟨x, by simpa using h1, h2⟩
theorem All2.app : ∀ {xs xs' : List α} {ys ys' : List β}, All2 R xs ys → All2 R xs' ys' → All2 R (xs ++ xs') (ys ++ ys')
  | _, _, _, _, .nil, s => s
  | _, _, _, _, .cons r t, s => .cons r (All2.app t s)
theorem All2.take : ∀ {xs : List α} {ys : List β} (n : Nat), All2 R xs ys → All2 R (xs.take n) (ys.take n)
  | _, _, 0, _ => .nil
  | _, _, _ + 1, .nil => .nil
  | _, _, n + 1, .cons r t => .cons r (All2.take n t)
theorem All2.drop : ∀ {xs : List α} {ys : List β} (n : Nat), All2 R xs ys → All2 R (xs.drop n) (ys.drop n)
  | _, _, 0, r => r
  | _, _, _ + 1, .nil => .nil
  | _, _, n + 1, .cons _ t => All2.drop n t
theorem All2.set {x : α} {y : β} (h : R x y) : ∀ {xs : List α} {ys : List β} (j : Nat), All2 R xs ys → All2 R (xs.set j x) (ys.set j y)
  | _, _, _, .nil => .nil
  | _, _, 0, .cons _ t => .cons h t
  | _, _, j + 1, .cons r t => .cons r (All2.set h j t)
end

inductive U where
  | non | bl (b : Bool) | int (i : Int) | str (x : Str) | tup (xs : List U) | lst (xs : List U) | fz (xs : List U) | dk (kv : List (Key × U)) | exn (n : Str) (fs : List (Str × D))

def Xq (X : List Nat) (S : Store) (i : Option Nat) (fs : List (Str × D)) : Prop := (i = none ∧ fs = []) ∨ ∃ j, i = some j ∧ j ∉ X ∧ S[j]? = some (.xd fs)
theorem Xq.mono {X : List Nat} {S S' : Store} {i : Option Nat} {fs : List (Str × D)} (h : Xq X S i fs) (k : Kx X S S') : Xq X S' i fs := h.imp id fun ⟨j, e, hx, hs⟩ => ⟨j, e, hx, k.2 _ _ hx hs⟩
theorem Xq.more {X X' : List Nat} {S : Store} {i : Option Nat} {fs : List (Str × D)} (h : Xq X S i fs) (m : Xm X X' S.length) : Xq X' S i fs := h.imp id fun ⟨j, e, hx, hs⟩ => ⟨j, e, fun h' => (m j h').elim hx fun hn => by have := get_lt' hs; omega, hs⟩
mutual
inductive Rv (X : List Nat) (S : Store) : D → U → Prop
  | non : Rv X S .non .non
  | bl (b : Bool) : Rv X S (.bl b) (.bl b)
  | int (i : Int) : Rv X S (.int i) (.int i)
  | str (x : Str) : Rv X S (.str x) (.str x)
  | tup {ds : List D} {vs : List U} : RvL X S ds vs → Rv X S (.tup ds) (.tup vs)
  | lst {k : Nat} {ds : List D} {vs : List U} : k ∉ X → S[k]? = some (.lst ds) → RvL X S ds vs → Rv X S (.ref k) (.lst vs)
  | fz {k : Nat} {ds : List D} {vs : List U} : k ∉ X → S[k]? = some (.fro ds) → RvL X S ds vs → Rv X S (.ref k) (.fz vs)
  | dk {k : Nat} {ds : List (Key × D)} {vs : List (Key × U)} : k ∉ X → S[k]? = some (.dK ds) → RvK X S ds vs → Rv X S (.ref k) (.dk vs)
  | exn {k : Nat} {i : Option Nat} {n : Str} {fs : List (Str × D)} : k ∉ X → S[k]? = some (.exn n i) → Xq X S i fs → Rv X S (.ref k) (.exn n fs)
inductive RvL (X : List Nat) (S : Store) : List D → List U → Prop
  | nil : RvL X S [] []
  | cons {d : D} {v : U} {ds : List D} {vs : List U} : Rv X S d v → RvL X S ds vs → RvL X S (d :: ds) (v :: vs)
inductive RvK (X : List Nat) (S : Store) : List (Key × D) → List (Key × U) → Prop
  | nil : RvK X S [] []
  | cons {k : Key} {d : D} {v : U} {ds : List (Key × D)} {vs : List (Key × U)} : Rv X S d v → RvK X S ds vs → RvK X S ((k, d) :: ds) ((k, v) :: vs)
end
mutual
theorem Rv.mono {X : List Nat} {S S' : Store} (kx : Kx X S S') : ∀ {d : D} {v : U}, Rv X S d v → Rv X S' d v
  | _, _, .non => .non
  | _, _, .bl b => .bl b
  | _, _, .int b => .int b
  | _, _, .str b => .str b
  | _, _, .tup h => .tup (RvL.mono kx h)
  | _, _, .lst hx e h => .lst hx (kx.2 _ _ hx e) (RvL.mono kx h)
  | _, _, .fz hx e h => .fz hx (kx.2 _ _ hx e) (RvL.mono kx h)
  | _, _, .dk hx e h => .dk hx (kx.2 _ _ hx e) (RvK.mono kx h)
  | _, _, .exn hx e h => .exn hx (kx.2 _ _ hx e) (h.mono kx)
theorem RvL.mono {X : List Nat} {S S' : Store} (kx : Kx X S S') : ∀ {d : List D} {v : List U}, RvL X S d v → RvL X S' d v
  | _, _, .nil => .nil
  | _, _, .cons h t => .cons (Rv.mono kx h) (RvL.mono kx t)
theorem RvK.mono {X : List Nat} {S S' : Store} (kx : Kx X S S') : ∀ {d : List (Key × D)} {v : List (Key × U)}, RvK X S d v → RvK X S' d v
  | _, _, .nil => .nil
  | _, _, .cons h t => .cons (Rv.mono kx h) (RvK.mono kx t)
end
theorem nox_more {X X' : List Nat} {S : Store} {k : Nat} {o : O} (m : Xm X X' S.length) (hx : k ∉ X) (e : S[k]? = some o) : k ∉ X' := fun h' => (m k h').elim hx fun hn => by have := get_lt' e; omega
mutual
theorem Rv.more {X X' : List Nat} {S : Store} (m : Xm X X' S.length) : ∀ {d : D} {v : U}, Rv X S d v → Rv X' S d v
  | _, _, .non => .non
  | _, _, .bl b => .bl b
  | _, _, .int b => .int b
  | _, _, .str b => .str b
  | _, _, .tup h => .tup (RvL.more m h)
  | _, _, .lst hx e h => .lst (nox_more m hx e) e (RvL.more m h)
  | _, _, .fz hx e h => .fz (nox_more m hx e) e (RvL.more m h)
  | _, _, .dk hx e h => .dk (nox_more m hx e) e (RvK.more m h)
  | _, _, .exn hx e h => .exn (nox_more m hx e) e (h.more m)
theorem RvL.more {X X' : List Nat} {S : Store} (m : Xm X X' S.length) : ∀ {d : List D} {v : List U}, RvL X S d v → RvL X' S d v
  | _, _, .nil => .nil
  | _, _, .cons h t => .cons (Rv.more m h) (RvL.more m t)
theorem RvK.more {X X' : List Nat} {S : Store} (m : Xm X X' S.length) : ∀ {d : List (Key × D)} {v : List (Key × U)}, RvK X S d v → RvK X' S d v
  | _, _, .nil => .nil
  | _, _, .cons h t => .cons (Rv.more m h) (RvK.more m t)
end
theorem RvL.a2 {X : List Nat} {S : Store} : ∀ {ds : List D} {vs : List U}, RvL X S ds vs → All2 (Rv X S) ds vs
  | _, _, .nil => .nil
  | _, _, .cons h t => .cons h t.a2
theorem RvL.of {X : List Nat} {S : Store} : ∀ {ds : List D} {vs : List U}, All2 (Rv X S) ds vs → RvL X S ds vs
  | _, _, .nil => .nil
  | _, _, .cons h t => .cons h (RvL.of t)
theorem RvK.a2 {X : List Nat} {S : Store} : ∀ {ds : List (Key × D)} {vs : List (Key × U)}, RvK X S ds vs → All2 (fun a b => a.1 = b.1 ∧ Rv X S a.2 b.2) ds vs
  | _, _, .nil => .nil
  | _, _, .cons h t => .cons ⟨rfl, h⟩ t.a2
theorem RvK.of {X : List Nat} {S : Store} : ∀ {ds : List (Key × D)} {vs : List (Key × U)}, All2 (fun a b => a.1 = b.1 ∧ Rv X S a.2 b.2) ds vs → RvK X S ds vs
  | _, _, .nil => .nil
  | (k, d) :: _, (k', v) :: _, .cons ⟨e, h⟩ t => by cases e; exact .cons h (RvK.of t)
def fnN {ε : Type} (x : PM ε (Out Unit Unit U)) : PM ε U := bnd x fun o => match o with
  | .rt v => ret v
  | .nx _ => ret .non
  | _ => pbad
abbrev ag (v : U) : Ag := { p := fun X S d => Rv X S d v, mono := fun h k => Rv.mono k h, more := fun h m => Rv.more m h }

inductive RvO (X : List Nat) (S : Store) : O → U → Prop
  | lst {ds : List D} {vs : List U} : RvL X S ds vs → RvO X S (.lst ds) (.lst vs)
  | dk {ds : List (Key × D)} {vs : List (Key × U)} : RvK X S ds vs → RvO X S (.dK ds) (.dk vs)
  | exn {i : Option Nat} {n : Str} {fs : List (Str × D)} : Xq X S i fs → RvO X S (.exn n i) (.exn n fs)
theorem RvO.mono {X : List Nat} {S S' : Store} {o : O} {v : U} (h : RvO X S o v) (k : Kx X S S') : RvO X S' o v := by
  cases h with
  | lst h => exact .lst (h.mono k)
  | dk h => exact .dk (h.mono k)
  | exn h => exact .exn (h.mono k)
theorem RvO.more {X X' : List Nat} {S : Store} {o : O} {v : U} (h : RvO X S o v) (m : Xm X X' S.length) : RvO X' S o v := by
  cases h with
  | lst h => exact .lst (h.more m)
  | dk h => exact .dk (h.more m)
  | exn h => exact .exn (h.more m)
abbrev ao (v : U) : Ao := { p := fun X S o => RvO X S o v, mono := fun h k => h.mono k, more := fun h m => h.more m }
theorem RvO.rv {X : List Nat} {S : Store} {k : Nat} {o : O} {v : U} (h : RvO X S o v) (e : S[k]? = some o) (hx : k ∉ X) : Rv X S (.ref k) v := by
  cases h with
  | lst h => exact .lst hx e h
  | dk h => exact .dk hx e h
  | exn h => exact .exn hx e h


mutual

def U.still : U → Bool
  | .lst _ => false
  | .fz _ => false
  | .dk _ => false
  | .exn _ _ => false
  | .tup xs => stillL xs
  | _ => true
def stillL : List U → Bool
  | [] => true
  | x :: xs => x.still && stillL xs
end
mutual
theorem Rv.still {X X' : List Nat} {S : Store} : ∀ {d : D} {v : U}, Rv X S d v → v.still = true → Rv X' S d v
  | _, _, .non, _ => .non
  | _, _, .bl b, _ => .bl b
  | _, _, .int b, _ => .int b
  | _, _, .str b, _ => .str b
  | _, _, .tup h, e => .tup (RvL.still h (by simpa only [U.still] using e))
  | _, _, .lst .., e => by simp only [U.still] at e; cases e
  | _, _, .fz .., e => by simp only [U.still] at e; cases e
  | _, _, .dk .., e => by simp only [U.still] at e; cases e
  | _, _, .exn .., e => by simp only [U.still] at e; cases e
theorem RvL.still {X X' : List Nat} {S : Store} : ∀ {d : List D} {v : List U}, RvL X S d v → stillL v = true → RvL X' S d v
  | _, _, .nil, _ => .nil
  | _, _, .cons h t, e => by
    simp only [stillL, Bool.and_eq_true] at e
    exact .cons (Rv.still h e.1) (RvL.still t e.2)
end
theorem RvK.still {X X' : List Nat} {S : Store} : ∀ {d : List (Key × D)} {v : List (Key × U)}, RvK X S d v → (v.all fun p => p.2.still) = true → RvK X' S d v
  | _, _, .nil, _ => .nil
  | _, _, .cons h t, e => by
    simp only [List.all_cons, Bool.and_eq_true] at e
    exact .cons (Rv.still h e.1) (RvK.still t e.2)
def U.stillIn : U → Bool
  | .lst xs => stillL xs
  | .dk kv => kv.all fun p => p.2.still
  | _ => false

mutual
inductive Tv (X : List Nat) (S : Store) : List Nat → D → U → Prop
  | cl {d : D} {v : U} : Rv X S d v → v.still = true → Tv X S [] d v
  | tup {fp : List Nat} {ds : List D} {vs : List U} : TvL X S fp ds vs → Tv X S fp (.tup ds) (.tup vs)
  | lst {k : Nat} {fp : List Nat} {ds : List D} {vs : List U} : k ∉ fp → S[k]? = some (.lst ds) → TvL X S fp ds vs → Tv X S (k :: fp) (.ref k) (.lst vs)
  | dk {k : Nat} {fp : List Nat} {ds : List (Key × D)} {vs : List (Key × U)} : k ∉ fp → S[k]? = some (.dK ds) → TvK X S fp ds vs → Tv X S (k :: fp) (.ref k) (.dk vs)
inductive TvL (X : List Nat) (S : Store) : List Nat → List D → List U → Prop
  | nil : TvL X S [] [] []
  | cons {fp fq : List Nat} {d : D} {v : U} {ds : List D} {vs : List U} : Tv X S fp d v → TvL X S fq ds vs → (∀ k ∈ fp, k ∉ fq) → TvL X S (fp ++ fq) (d :: ds) (v :: vs)
inductive TvK (X : List Nat) (S : Store) : List Nat → List (Key × D) → List (Key × U) → Prop
  | nil : TvK X S [] [] []
  | cons {fp fq : List Nat} {k : Key} {d : D} {v : U} {ds : List (Key × D)} {vs : List (Key × U)} : Tv X S fp d v → TvK X S fq ds vs → (∀ k ∈ fp, k ∉ fq) → TvK X S (fp ++ fq) ((k, d) :: ds) ((k, v) :: vs)
end

structure Ky (X : List Nat) (fp : List Nat) (S S' : Store) : Prop where
  kx : Kx X S S'
  fx : ∀ k ∈ fp, ∀ o, S[k]? = some o → S'[k]? = some o
theorem Ky.left {X fp fq : List Nat} {S S' : Store} (h : Ky X (fp ++ fq) S S') : Ky X fp S S' := ⟨h.kx, fun k hk => h.fx k (List.mem_append_left _ hk)⟩
theorem Ky.right {X fp fq : List Nat} {S S' : Store} (h : Ky X (fp ++ fq) S S') : Ky X fq S S' := ⟨h.kx, fun k hk => h.fx k (List.mem_append_right _ hk)⟩
theorem Ky.tail {X fq : List Nat} {k : Nat} {S S' : Store} (h : Ky X (k :: fq) S S') : Ky X fq S S' := ⟨h.kx, fun j hj => h.fx j (List.mem_cons_of_mem _ hj)⟩
mutual
theorem Tv.mono {X : List Nat} {S S' : Store} : ∀ {fp : List Nat} {d : D} {v : U}, Tv X S fp d v → Ky X fp S S' → Tv X S' fp d v
  | _, _, _, .cl h e, k => .cl (h.mono k.kx) e
  | _, _, _, .tup h, k => .tup (TvL.mono h k)
  | _, _, _, .lst hk e h, k => .lst hk (k.fx _ List.mem_cons_self _ e) (TvL.mono h k.tail)
  | _, _, _, .dk hk e h, k => .dk hk (k.fx _ List.mem_cons_self _ e) (TvK.mono h k.tail)
theorem TvL.mono {X : List Nat} {S S' : Store} : ∀ {fp : List Nat} {d : List D} {v : List U}, TvL X S fp d v → Ky X fp S S' → TvL X S' fp d v
  | _, _, _, .nil, _ => .nil
  | _, _, _, .cons h t hd, k => .cons (Tv.mono h k.left) (TvL.mono t k.right) hd
theorem TvK.mono {X : List Nat} {S S' : Store} : ∀ {fp : List Nat} {d : List (Key × D)} {v : List (Key × U)}, TvK X S fp d v → Ky X fp S S' → TvK X S' fp d v
  | _, _, _, .nil, _ => .nil
  | _, _, _, .cons h t hd, k => .cons (Tv.mono h k.left) (TvK.mono t k.right) hd
end
mutual
theorem Tv.more {X X' : List Nat} {S : Store} (m : Xm X X' S.length) : ∀ {fp : List Nat} {d : D} {v : U}, Tv X S fp d v → Tv X' S fp d v
  | _, _, _, .cl h e => .cl (h.more m) e
  | _, _, _, .tup h => .tup (TvL.more m h)
  | _, _, _, .lst hk e h => .lst hk e (TvL.more m h)
  | _, _, _, .dk hk e h => .dk hk e (TvK.more m h)
theorem TvL.more {X X' : List Nat} {S : Store} (m : Xm X X' S.length) : ∀ {fp : List Nat} {d : List D} {v : List U}, TvL X S fp d v → TvL X' S fp d v
  | _, _, _, .nil => .nil
  | _, _, _, .cons h t hd => .cons (Tv.more m h) (TvL.more m t) hd
theorem TvK.more {X X' : List Nat} {S : Store} (m : Xm X X' S.length) : ∀ {fp : List Nat} {d : List (Key × D)} {v : List (Key × U)}, TvK X S fp d v → TvK X' S fp d v
  | _, _, _, .nil => .nil
  | _, _, _, .cons h t hd => .cons (Tv.more m h) (TvK.more m t) hd
end

theorem not_app {fp fq X : List Nat} (h : ∀ k ∈ fp ++ fq, k ∉ X) : (∀ k ∈ fp, k ∉ X) ∧ ∀ k ∈ fq, k ∉ X := ⟨fun k hk => h k (List.mem_append_left _ hk), fun k hk => h k (List.mem_append_right _ hk)⟩
mutual
theorem Tv.rv {X X' : List Nat} {S : Store} (m : Xm X X' S.length) : ∀ {fp : List Nat} {d : D} {v : U}, Tv X S fp d v → (∀ k ∈ fp, k ∉ X') → Rv X' S d v
  | _, _, _, .cl h _, _ => h.more m
  | _, _, _, .tup h, n => .tup (TvL.rv m h n)
  | _, _, _, .lst _ e h, n => .lst (n _ List.mem_cons_self) e (TvL.rv m h fun j hj => n j (List.mem_cons_of_mem _ hj))
  | _, _, _, .dk _ e h, n => .dk (n _ List.mem_cons_self) e (TvK.rv m h fun j hj => n j (List.mem_cons_of_mem _ hj))
theorem TvL.rv {X X' : List Nat} {S : Store} (m : Xm X X' S.length) : ∀ {fp : List Nat} {d : List D} {v : List U}, TvL X S fp d v → (∀ k ∈ fp, k ∉ X') → RvL X' S d v
  | _, _, _, .nil, _ => .nil
  | _, _, _, .cons h t _, n => .cons (Tv.rv m h (not_app n).1) (TvL.rv m t (not_app n).2)
theorem TvK.rv {X X' : List Nat} {S : Store} (m : Xm X X' S.length) : ∀ {fp : List Nat} {d : List (Key × D)} {v : List (Key × U)}, TvK X S fp d v → (∀ k ∈ fp, k ∉ X') → RvK X' S d v
  | _, _, _, .nil, _ => .nil
  | _, _, _, .cons h t _, n => .cons (Tv.rv m h (not_app n).1) (TvK.rv m t (not_app n).2)
end

inductive Ent where
  | val (a : Ag) | own (k : Nat) (a : Ao) | no | ln (n : Nat) | dp (fp : List Nat) (v : U)
abbrev Ctx := List (Nat × Ent)
def lk : Ctx → Nat → Ent
  | [], _ => .no
  | (j, e) :: G, i => match Nat.beq i j with
    | true => e
    | false => lk G i
structure Fx where
  S0 : Store
  W : List Nat
  X0 : List Nat
  hold : List (Nat × O)
structure Inv (c : Fx) (X : List Nat) (S : Store) (r : Env') (G : Ctx) : Prop where
  kp : Kx c.W c.S0 S
  xb : ∀ k ∈ X, k < S.length
  x0 : ∀ k ∈ c.X0, k ∈ X
  w0 : (∀ k ∈ c.W, k ∈ c.X0) ∧ ∀ k ∈ c.X0, k < c.S0.length
  hd : ∀ k o, (k, o) ∈ c.hold → k ∈ X ∧ (k ∈ c.W ∨ c.S0.length ≤ k) ∧ S[k]? = some o
  val : ∀ i a, lk G i = .val a → ∃ d, r[i]? = some (some d) ∧ a.p X S d
  own : ∀ i k a, lk G i = .own k a → r[i]? = some (some (.ref k)) ∧ k ∈ X ∧ (k ∈ c.W ∨ c.S0.length ≤ k) ∧ (∀ o, (k, o) ∉ c.hold) ∧ ∃ o, S[k]? = some o ∧ a.p X S o
  dist : ∀ i j k a b, lk G i = .own k a → lk G j = .own k b → i = j
  len : ∀ i n, lk G i = .ln n → n = r.length
  dp : ∀ i fp v, lk G i = .dp fp v → ∃ d, r[i]? = some (some d) ∧ Tv X S fp d v ∧ ∀ k ∈ fp, k ∈ X ∧ (k ∈ c.W ∨ c.S0.length ≤ k) ∧ ∀ o, (k, o) ∉ c.hold
  dpo : ∀ i j fp v k a, lk G i = .dp fp v → lk G j = .own k a → k ∉ fp
  dpd : ∀ i j fp v fq w, lk G i = .dp fp v → lk G j = .dp fq w → i ≠ j → ∀ k ∈ fp, k ∉ fq
def Xr (X : List Nat) (S : Store) (x : Exn) (n : Str) (fs : List (Str × D)) : Prop := x.cls = n ∧ ((x.dict = none ∧ fs = []) ∨ ∃ k, x.dict = some k ∧ k ∉ X ∧ S[k]? = some (.xd fs))
section
variable {ε α β γ δ σ τ l ρ : Type}

def Sm (c : Fx) (X : List Nat) (n : Nat) (S : Store) (r : Env') (G : ε → Ctx) (A : α → Nat → Fx → List Nat → Store → Env' → Ctx → δ → Prop) (x : R δ) : PR ε α → Prop
  | .ok v s' => ∃ d S', x = .ok d S' ∧ Inv c X S' r (G s') ∧ Kx X S S' ∧ A v n c X S' r (G s') d
  | .ex n fs s' => ∃ e S', x = .exc e S' ∧ Inv c X S' r (G s') ∧ Kx X S S' ∧ Xr X S' e n fs
  | .bad => True
def RE (G : ε → Ctx) (m : Env' → M δ) (p : PM ε α) (A : α → Nat → Fx → List Nat → Store → Env' → Ctx → δ → Prop) : Prop := ∀ c X S r s, Inv c X S r (G s) → Sm c X S.length S r G A (m r S) (p s)

abbrev cl : U → Nat → Fx → List Nat → Store → Env' → Ctx → D → Prop := fun v _ _ X S _ _ d => Rv X S d v

def frs : U → Nat → Fx → List Nat → Store → Env' → Ctx → D → Prop := fun v n c X S r g d => ∃ k o, d = .ref k ∧ n ≤ k ∧ k ∉ X ∧ S[k]? = some o ∧ RvO (k :: X) S o v ∧ Inv c (k :: X) S r g
abbrev RX (G : ε → Ctx) (m : Env' → M D) (p : PM ε U) : Prop := RE G m p cl
abbrev RF (G : ε → Ctx) (m : Env' → M D) (p : PM ε U) : Prop := RE G m p frs
abbrev tv : Bool → Nat → Fx → List Nat → Store → Env' → Ctx → Bool → Prop := fun v _ _ _ _ _ _ b => b = v
abbrev RT (G : ε → Ctx) (m : Env' → M Bool) (p : PM ε Bool) : Prop := RE G m p tv
theorem xm_tl {X : List Nat} {k n : Nat} : Xm (k :: X) X n := fun j hj => .inl (List.mem_cons_of_mem _ hj)
theorem RF.x {G : ε → Ctx} {m : Env' → M D} {p : PM ε U} (h : RF G m p) : RX G m p := by
  intro c X S r s I
  have := h c X S r s I
  cases e : p s with
  | ok v s' =>
    rw [e] at this
    obtain ⟨d, S', h1, h2, h3, k, o, rfl, hn, hx, ho, hp, _⟩ := this
    exact ⟨_, S', h1, h2, h3, (hp.more xm_tl).rv ho hx⟩
  | ex n fs s' => rw [e] at this; exact this
  | bad => trivial
end
end Pv
end CK
end

section
set_option Elab.async false
set_option linter.all false
set_option maxRecDepth 100000
set_option maxHeartbeats 4000000
namespace CK
namespace Pv
open PySem PySem.Spec PyProof.Rows L2
section
variable {ε α β γ δ δ' σ τ l ρ : Type}
theorem Kx.nil {X : List Nat} {S S' : Store} (k : Kx [] S S') : Kx X S S' := ⟨k.1, fun j o _ e => k.2 j o (by simp) e⟩
theorem Inv.grow {c : Fx} {X : List Nat} {S S' : Store} {r : Env'} {G : Ctx} (I : Inv c X S r G) (k : Kx [] S S') : Inv c X S' r G where
  kp := I.kp.trans k.nil
  xb := fun j h => Nat.lt_of_lt_of_le (I.xb j h) k.1
  x0 := I.x0
  w0 := I.w0
  hd := fun j o h => ⟨(I.hd j o h).1, (I.hd j o h).2.1, k.2 j o (by simp) (I.hd j o h).2.2⟩
  val := fun i a h => let ⟨d, e, q⟩ := I.val i a h; ⟨d, e, a.mono q k.nil⟩
  own := fun i j a h => let ⟨e, h1, h2, h3, o, h4, h5⟩ := I.own i j a h; ⟨e, h1, h2, h3, o, k.2 j o (by simp) h4, a.mono h5 k.nil⟩
  dist := I.dist
  len := I.len
  dp := fun i fp v h => let ⟨d, e, t, q⟩ := I.dp i fp v h; ⟨d, e, t.mono ⟨k.nil, fun j _ o ho => k.2 j o (by simp) ho⟩, q⟩
  dpo := I.dpo
  dpd := I.dpd

theorem Inv.put {c : Fx} {X : List Nat} {S S' : Store} {r : Env'} {G G' : Ctx} {i w : Nat} {a a' : Ao} {o' : O} (I : Inv c X S r G) (k : Kx [w] S S') (hi : lk G i = .own w a) (hi' : lk G' i = .own w a') (hs : ∀ j, j ≠ i → lk G' j = lk G j)
    (ho : S'[w]? = some o') (hp : a'.p X S' o') : Inv c X S' r G' := by
  obtain ⟨ei, wx, ww, wh, o, wo, wp⟩ := I.own i w a hi
  have kX : Kx X S S' := k.more fun j hj => by rw [List.mem_singleton] at hj; subst hj; exact .inl wx
  refine ⟨?_, fun j h => Nat.lt_of_lt_of_le (I.xb j h) k.1, I.x0, I.w0, fun j o h => ⟨(I.hd j o h).1, (I.hd j o h).2.1, k.2 j o (fun h' => ?_) (I.hd j o h).2.2⟩, fun j b h => ?_, fun j q b h => ?_, fun j j' q b b' h h' => ?_, fun j q h => ?_, fun j fp v h => ?_, fun j j' fp v q b h h' => ?_, fun j j' fp v fq u h h' => ?_⟩
  · refine ⟨Nat.le_trans I.kp.1 k.1, fun j o hj e => ?_⟩
    by_cases hw : j = w
    · subst hw
      rcases ww with ww | ww
      · exact absurd ww hj
      · have := get_lt' e; omega
    · exact k.2 j o (by simpa using hw) (I.kp.2 j o hj e)
  · rw [List.mem_singleton] at h'; subst h'; exact wh _ h
  · by_cases hj : j = i
    · subst hj; rw [hi'] at h; cases h
    · rw [hs j hj] at h
      obtain ⟨d, e, q⟩ := I.val j b h
      exact ⟨d, e, b.mono q kX⟩
  · by_cases hj : j = i
    · subst hj; rw [hi'] at h; cases h; exact ⟨ei, wx, ww, wh, o', ho, hp⟩
    · rw [hs j hj] at h
      obtain ⟨e, h1, h2, h3, o, h4, h5⟩ := I.own j q b h
      have hq : q ≠ w := fun e => by subst e; exact hj (I.dist j i _ _ _ h hi)
      exact ⟨e, h1, h2, h3, o, k.2 q o (by simpa using hq) h4, b.mono h5 kX⟩
  · by_cases hj : j = i
    · by_cases hj' : j' = i
      · rw [hj, hj']
      · subst hj; rw [hi'] at h; cases h; rw [hs j' hj'] at h'; exact I.dist _ _ _ _ _ hi h'
    · by_cases hj' : j' = i
      · subst hj'; rw [hi'] at h'; cases h'; rw [hs j hj] at h; exact I.dist _ _ _ _ _ h hi
      · rw [hs j hj] at h; rw [hs j' hj'] at h'; exact I.dist _ _ _ _ _ h h'
  · by_cases hj : j = i
    · subst hj; rw [hi'] at h; cases h
    · rw [hs j hj] at h; exact I.len j q h
  · by_cases hj : j = i
    · subst hj; rw [hi'] at h; cases h
    · rw [hs j hj] at h
      obtain ⟨d, e, t, q⟩ := I.dp j fp v h
      exact ⟨d, e, t.mono ⟨kX, fun m hm o ho => k.2 m o (by simp; intro e; subst e; exact I.dpo _ _ _ _ _ _ h hi hm) ho⟩, q⟩
  · by_cases hj : j = i
    · subst hj; rw [hi'] at h; cases h
    · rw [hs j hj] at h
      by_cases hj' : j' = i
      · subst hj'; rw [hi'] at h'; cases h'; exact I.dpo _ _ _ _ _ _ h hi
      · rw [hs j' hj'] at h'; exact I.dpo _ _ _ _ _ _ h h'
  · by_cases hj : j = i
    · subst hj; rw [hi'] at h; cases h
    · by_cases hj' : j' = i
      · subst hj'; rw [hi'] at h'; cases h'
      · rw [hs j hj] at h; rw [hs j' hj'] at h'; exact I.dpd _ _ _ _ _ _ h h'

variable {G : ε → Ctx}
theorem Sm.trans {c : Fx} {X : List Nat} {n : Nat} {S S1 : Store} {r : Env'} {B : β → Nat → Fx → List Nat → Store → Env' → Ctx → δ → Prop} {x : R δ} {y : PR ε β} (k : Kx X S S1) (h : Sm c X n S1 r G B x y) : Sm c X n S r G B x y := by
  cases y with
  | ok v s' => obtain ⟨d, S', h1, h2, h3, h4⟩ := h; exact ⟨d, S', h1, h2, k.trans h3, h4⟩
  | ex m fs s' => obtain ⟨d, S', h1, h2, h3, h4⟩ := h; exact ⟨d, S', h1, h2, k.trans h3, h4⟩
  | bad => trivial
theorem re_bnd {m : Env' → M δ} {h : Env' → δ → M δ'} {p : PM ε α} {q : α → PM ε β} {A : α → Nat → Fx → List Nat → Store → Env' → Ctx → δ → Prop} {B : β → Nat → Fx → List Nat → Store → Env' → Ctx → δ' → Prop} {c : Fx} {X : List Nat} {n : Nat} {S : Store} {r : Env'} {s : ε}
    (hm : RE G m p A) (I : Inv c X S r (G s)) (hn : n ≤ S.length) (hk : ∀ v S1 s1 d, Inv c X S1 r (G s1) → Kx X S S1 → A v S.length c X S1 r (G s1) d → Sm c X n S1 r G B (h r d S1) (q v s1)) :
    Sm c X n S r G B (mB (m r) (h r) S) (bnd p q s) := by
  have := hm c X S r s I
  unfold bnd mB
  cases e : p s with
  | ok v s' =>
    rw [e] at this
    obtain ⟨d, S', h1, h2, h3, h4⟩ := this
    rw [h1]
    exact Sm.trans h3 (hk v S' s' d h2 h3 h4)
  | ex m fs s' =>
    rw [e] at this
    obtain ⟨d, S', h1, h2, h3, h4⟩ := this
    rw [h1]
    exact ⟨d, S', rfl, h2, h3, h4⟩
  | bad => trivial
theorem Sm.ok {c : Fx} {X : List Nat} {n : Nat} {S : Store} {r : Env'} {s : ε} {B : β → Nat → Fx → List Nat → Store → Env' → Ctx → δ → Prop} {v : β} {d : δ} (I : Inv c X S r (G s)) (h : B v n c X S r (G s) d) : Sm c X n S r G B (.ok d S) (ret v s) := ⟨d, S, rfl, I, Kx.refl, h⟩


theorem re_val {i : Nat} {v : U} (h : ∀ s, lk (G s) i = .val (ag v)) : RX G (mVar i) (ret v) := by
  intro c X S r s I
  obtain ⟨d, e, q⟩ := I.val i _ (h s)
  unfold mVar
  rw [e]
  exact Sm.ok I q
def U.flat : U → Option D
  | .non => some .non
  | .bl b => some (.bl b)
  | .int i => some (.int i)
  | .str x => some (.str x)
  | _ => none
def ofD : D → Option U
  | .non => some .non
  | .bl b => some (.bl b)
  | .int i => some (.int i)
  | .str x => some (.str x)
  | _ => none
theorem Rv.flat {X : List Nat} {S : Store} {d e : D} {v : U} (h : Rv X S d v) (hf : U.flat v = some e) : d = e := by
  cases h <;> simp [U.flat] at hf <;> exact hf
theorem Rv.ofD {X : List Nat} {S : Store} {d : D} {v : U} (h : Pv.ofD d = some v) : Rv X S d v := by
  cases d <;> simp [Pv.ofD] at h <;> subst h <;> constructor
theorem re_c {d : D} {v : U} (h : ofD d = some v := by rfl) : RX G (mC d) (ret v) := fun c X S r s I => Sm.ok I (Rv.ofD h)
def toU (x : R D) : PM ε U := fun s => match x with | .ok z _ => (match ofD z with | some v => .ok v s | none => .bad) | _ => .bad
def loc2 (f : D → D → M D) (x y : U) : PM ε U := match U.flat x, U.flat y with
  | some d, some e => toU (f d e [])
  | _, _ => pbad
def loc1 (f : D → M D) (x : U) : PM ε U := match U.flat x with
  | some d => toU (f d [])
  | _ => pbad
class Loc2 (f : D → D → M D) : Prop where
  lc : ∀ {x y z S'}, f x y [] = .ok z S' → ∀ S, f x y S = .ok z S
class Loc1 (f : D → M D) : Prop where
  lc : ∀ {x z S'}, f x [] = .ok z S' → ∀ S, f x S = .ok z S
class LocA (f : List D → M D) : Prop where
  lc : ∀ {x z S'}, f x [] = .ok z S' → ∀ S, f x S = .ok z S
theorem toU_sm {c : Fx} {X : List Nat} {n : Nat} {S : Store} {r : Env'} {s : ε} {m : M D} (I : Inv c X S r (G s)) (hf : ∀ {z S'}, m [] = .ok z S' → ∀ S, m S = .ok z S) : Sm c X n S r G cl (m S) (toU (m []) s) := by
  unfold toU
  cases e : m [] with
  | ok z S' =>
    dsimp only
    cases e2 : ofD z with
    | none => trivial
    | some v => rw [hf e S]; exact Sm.ok I (Rv.ofD e2)
  | exc _ _ => trivial
  | bad => trivial
theorem loc2_sm {f : D → D → M D} [hf : Loc2 f] {c : Fx} {X : List Nat} {n : Nat} {S : Store} {r : Env'} {s : ε} {x y : U} {d e : D} (I : Inv c X S r (G s)) (hx : Rv X S d x) (hy : Rv X S e y) : Sm c X n S r G cl (f d e S) (loc2 f x y s) := by
  unfold loc2
  cases e1 : U.flat x with
  | none => trivial
  | some d' =>
    cases e2 : U.flat y with
    | none => trivial
    | some e' => cases hx.flat e1; cases hy.flat e2; exact toU_sm (m := f d e) I hf.lc
theorem re_op {f : D → D → M D} [hf : Loc2 f] {a b : Env' → M D} {pa pb : PM ε U} (ha : RX G a pa) (hb : RX G b pb) : RX G (m2 f a b) (bnd pa fun x => bnd pb fun y => loc2 f x y) := by
  intro c X S r s I
  exact re_bnd (h := fun r x => mB (b r) fun y => f x y) ha I (Nat.le_refl _) fun x S1 s1 d I1 k1 q1 => re_bnd (h := fun r y => f d y) hb I1 k1.1 fun y S2 s2 e I2 k2 q2 => loc2_sm I2 (q1.mono k2) q2
theorem re_un {f : D → M D} [hf : Loc1 f] {a : Env' → M D} {pa : PM ε U} (ha : RX G a pa) : RX G (m1 f a) (bnd pa fun x => loc1 f x) := by
  intro c X S r s I
  refine re_bnd (h := fun r x => f x) ha I (Nat.le_refl _) fun x S1 s1 d I1 k1 q1 => ?_
  unfold loc1
  cases e1 : U.flat x with
  | none => trivial
  | some d' => cases q1.flat e1; exact toU_sm (m := f d) I1 hf.lc
def asBl : U → Option Bool
  | .bl b => some b
  | _ => none
def asB (d : U) : PM ε Bool := fun s => match asBl d with | some b => .ok b s | none => .bad
theorem Rv.bl? {X : List Nat} {S : Store} {d : D} {v : U} {b : Bool} (h : Rv X S d v) (e : asBl v = some b) : d.asBl = some b := by
  cases h <;> simp [asBl] at e; subst e; rfl
theorem re_tst {a : Env' → M D} {pa : PM ε U} (ha : RX G a pa) : RT G (mTst a) (bnd pa asB) := by
  intro c X S r s I
  refine re_bnd (h := fun r x => match x.asBl with | some b => mP b | none => mBad) ha I (Nat.le_refl _) fun x S1 s1 d I1 k1 q1 => ?_
  unfold asB
  cases e : asBl x with
  | none => trivial
  | some b => rw [q1.bl? e]; exact Sm.ok I1 rfl
theorem Sm.n {c : Fx} {X : List Nat} {n n' : Nat} {S : Store} {r : Env'} {B : β → Nat → Fx → List Nat → Store → Env' → Ctx → δ → Prop} {x : R δ} {y : PR ε β} (h : Sm c X n S r G B x y) (hB : ∀ v X S g d, B v n c X S r g d → B v n' c X S r g d) : Sm c X n' S r G B x y := by
  cases y with
  | ok v s' => obtain ⟨d, S', h1, h2, h3, h4⟩ := h; exact ⟨d, S', h1, h2, h3, hB _ _ _ _ _ h4⟩
  | ex m fs s' => exact h
  | bad => trivial

class Dwn (A : α → Nat → Fx → List Nat → Store → Env' → Ctx → δ → Prop) : Prop where
  dn : ∀ {v n n' c X S r g d}, n' ≤ n → A v n c X S r g d → A v n' c X S r g d
instance dwn_cl : Dwn cl := ⟨fun _ h => h⟩
instance dwn_tv : Dwn tv := ⟨fun _ h => h⟩
instance dwn_frs : Dwn frs := ⟨fun hn ⟨k, o, e, h1, h2⟩ => ⟨k, o, e, Nat.le_trans hn h1, h2⟩⟩
theorem RE.at {m : Env' → M δ} {p : PM ε α} {A : α → Nat → Fx → List Nat → Store → Env' → Ctx → δ → Prop} [Dwn A] (h : RE G m p A) {c : Fx} {X : List Nat} {n : Nat} {S : Store} {r : Env'} {s : ε} (I : Inv c X S r (G s)) (hn : n ≤ S.length) : Sm c X n S r G A (m r S) (p s) :=
  (h c X S r s I).n fun _ _ _ _ _ => Dwn.dn hn
theorem re_or {a b : Env' → M Bool} {pa pb : PM ε Bool} (ha : RT G a pa) (hb : RT G b pb) : RT G (mOr a b) (bnd pa fun x => if x = true then ret true else pb) := by
  intro c X S r s I
  refine re_bnd (h := fun r x => if x = true then mP true else b r) ha I (Nat.le_refl _) fun x S1 s1 d I1 k1 q1 => ?_
  cases q1
  cases x with
  | false => exact hb.at I1 k1.1
  | true => exact Sm.ok I1 rfl
theorem re_not {a : Env' → M Bool} {pa : PM ε Bool} (ha : RT G a pa) : RT G (mNot a) (bnd pa fun x => ret (!x)) := by
  intro c X S r s I
  refine re_bnd (h := fun r x => mP (!x)) ha I (Nat.le_refl _) fun x S1 s1 d I1 k1 q1 => ?_
  cases q1
  exact Sm.ok I1 rfl
theorem re_andV {a b : Env' → M D} {pa pb : PM ε U} (ha : RX G a pa) (hb : RX G b pb) : RX G (mAndV a b) (bnd (bnd pa asB) fun x => if x = true then pb else ret (U.bl false)) := by
  intro c X S r s I
  refine re_bnd (h := fun r x => if x = true then b r else mP (.bl false)) (re_tst ha) I (Nat.le_refl _) fun x S1 s1 d I1 k1 q1 => ?_
  cases q1
  cases x with
  | true => exact hb.at I1 k1.1
  | false => exact Sm.ok I1 (.bl _)
end
end Pv
end CK
end

section
set_option Elab.async false
set_option linter.all false
set_option maxRecDepth 100000
set_option maxHeartbeats 4000000
namespace CK
namespace Pv
open PySem PySem.Spec PyProof.Rows L2
section
variable {ε α β γ δ δ' σ τ l ρ : Type} {G : ε → Ctx}
abbrev AgL (X : List Nat) (S : Store) (as : List Ag) (ds : List D) : Prop := All2 (fun (a : Ag) d => a.p X S d) as ds
theorem AgL.mono {X : List Nat} {S S' : Store} {as : List Ag} {ds : List D} (h : AgL X S as ds) (k : Kx X S S') : AgL X S' as ds := All2.imp (fun a _ q => a.mono q k) h

def RJ (G : ε → Ctx) (ms : Env' → M (List D)) (h : List D → M δ) (as : List Ag) (p : PM ε β) (B : β → Nat → Fx → List Nat → Store → Env' → Ctx → δ → Prop) : Prop :=
  ∀ c X n S r s ds, n ≤ S.length → Inv c X S r (G s) → AgL X S as ds → Sm c X n S r G B (mB (ms r) (fun es => h (ds ++ es)) S) (p s)

def RZ (G : ε → Ctx) (h : List D → M δ) (as : List Ag) (p : PM ε β) (B : β → Nat → Fx → List Nat → Store → Env' → Ctx → δ → Prop) : Prop :=
  ∀ c X n S r s ds, n ≤ S.length → Inv c X S r (G s) → AgL X S as ds → Sm c X n S r G B (h ds S) (p s)
theorem rj_nil {h : List D → M δ} {as : List Ag} {p : PM ε β} {B : β → Nat → Fx → List Nat → Store → Env' → Ctx → δ → Prop} (hz : RZ G h as p B) : RJ G mNil h as p B := fun c X n S r s ds hn I q => by
  show Sm c X n S r G B (h (ds ++ []) S) (p s)
  rw [List.append_nil]
  exact hz c X n S r s ds hn I q
theorem rj_cons {a : Env' → M D} {ms : Env' → M (List D)} {h : List D → M δ} {as : List Ag} {pa : PM ε U} {q : U → PM ε β} {B : β → Nat → Fx → List Nat → Store → Env' → Ctx → δ → Prop} (ha : RX G a pa) (hj : ∀ x, RJ G ms h (as ++ [ag x]) (q x) B) :
    RJ G (mCons a ms) h as (bnd pa q) B := by
  intro c X n S r s ds hn I ql
  have e : mB (mCons a ms r) (fun es => h (ds ++ es)) = mB (a r) (fun x => mB (ms r) fun xs => h (ds ++ (x :: xs))) := by
    funext S; unfold mCons mB mP
    cases a r S with
    | ok x S1 => dsimp only; cases ms r S1 <;> rfl
    | exc _ _ => rfl
    | bad => rfl
  rw [e]
  refine re_bnd (h := fun r x => mB (ms r) fun xs => h (ds ++ (x :: xs))) ha I hn fun v S1 s1 d I1 k1 q1 => ?_
  have := hj v c X n S1 r s1 (ds ++ [d]) (Nat.le_trans hn k1.1) I1 ((ql.mono k1).app (.cons q1 .nil))
  simpa only [List.append_assoc, List.singleton_append] using this

def agW (w : Nat) : Ag := { p := fun _ _ d => d = .ref w, mono := fun h _ => h, more := fun h _ => h }
theorem rj_consW {i w : Nat} {a : ε → Ao} {ms : Env' → M (List D)} {h : List D → M δ} {as : List Ag} {q : PM ε β} {B : β → Nat → Fx → List Nat → Store → Env' → Ctx → δ → Prop} (hi : ∀ s, lk (G s) i = .own w (a s)) (hj : RJ G ms h (as ++ [agW w]) q B) :
    RJ G (mCons (mVar i) ms) h as q B := by
  intro c X n S r s ds hn I ql
  have e : mB (mCons (mVar i) ms r) (fun es => h (ds ++ es)) S = mB (ms r) (fun xs => h (ds ++ ([.ref w] ++ xs))) S := by
    obtain ⟨er, _⟩ := I.own i w _ (hi s)
    unfold mCons mB mP mVar
    rw [er]
    dsimp only
    cases ms r S <;> rfl
  rw [e]
  have := hj c X n S r s (ds ++ [D.ref w]) hn I (ql.app (.cons (show (agW w).p X S (.ref w) from rfl) .nil))
  simpa only [List.append_assoc] using this
theorem re_args {f : List D → M D} {ms : Env' → M (List D)} {p : PM ε β} {B : β → Nat → Fx → List Nat → Store → Env' → Ctx → D → Prop} (h : RJ G ms f [] p B) : RE G (mArgs f ms) p B := fun c X S r s I => h c X S.length S r s [] (Nat.le_refl _) I .nil
theorem re_call {n : Nat} {f : List D → M D} {ms : Env' → M (List D)} {p : PM ε β} {B : β → Nat → Fx → List Nat → Store → Env' → Ctx → D → Prop} (h : RJ G ms (fun ds => if ds.length = n then f ds else mBad) [] p B) : RE G (mCall n f ms) p B := fun c X S r s I => h c X S.length S r s [] (Nat.le_refl _) I .nil

abbrev clC : U → Nat → List Nat → Store → D → Prop := fun v _ X S d => Rv X S d v
def frC : U → Nat → List Nat → Store → D → Prop := fun v n X S d => ∃ k o, d = .ref k ∧ n ≤ k ∧ k ∉ X ∧ S[k]? = some o ∧ RvO (k :: X) S o v
def Fn0 (f : List D → M D) (as : List Ag) (q : PM Unit U) (A : U → Nat → List Nat → Store → D → Prop) : Prop := ∀ X S ds, (∀ k ∈ X, k < S.length) → AgL X S as ds → match q () with
  | .ok v _ => ∃ d S', f ds S = .ok d S' ∧ Kx [] S S' ∧ A v S.length X S' d
  | .ex n fs _ => ∃ e S', f ds S = .exc e S' ∧ Kx [] S S' ∧ Xr X S' e n fs
  | .bad => True

def clW (w : Nat) : U → U → Nat → List Nat → Store → D → Prop := fun s v _ X S d => Rv X S d v ∧ ∃ o, S[w]? = some o ∧ RvO X S o s
def frW (w : Nat) : U → U → Nat → List Nat → Store → D → Prop := fun s v n X S d => ∃ k o, d = .ref k ∧ n ≤ k ∧ k ∉ X ∧ S[k]? = some o ∧ RvO (k :: X) S o v ∧ ∃ o', S[w]? = some o' ∧ RvO (k :: X) S o' s
def Fn1 (f : List D → M D) (as : Nat → List Ag) (q : PM U U) (A : Nat → U → U → Nat → List Nat → Store → D → Prop) : Prop := ∀ w s X S ds o, (∀ k ∈ X, k < S.length) → w ∈ X → S[w]? = some o → RvO X S o s → AgL X S (as w) ds → match q s with
  | .ok v s' => ∃ d S', f ds S = .ok d S' ∧ Kx [w] S S' ∧ A w s' v S.length X S' d
  | .ex n fs s' => ∃ e S', f ds S = .exc e S' ∧ Kx [w] S S' ∧ (∃ o', S'[w]? = some o' ∧ RvO X S' o' s') ∧ Xr X S' e n fs
  | .bad => True
theorem AgL.len {X : List Nat} {S : Store} {as : List Ag} {ds : List D} (h : AgL X S as ds) : ds.length = as.length := (All2.len h).symm
theorem rz_fn0 {f : List D → M D} {as : List Ag} {q : PM Unit U} {n : Nat} (h : Fn0 f as q clC) (hn : as.length = n := by rfl) : RZ G (fun ds => if ds.length = n then f ds else mBad) as (lft q) cl := by
  intro c X n' S r s ds hn' I ql
  have := h X S ds I.xb ql
  dsimp only
  rw [if_pos (ql.len.trans hn)]
  unfold lft
  cases e : q () with
  | ok v s' => rw [e] at this; obtain ⟨d, S', h1, h2, h3⟩ := this; exact ⟨d, S', h1, I.grow h2, h2.nil, h3⟩
  | ex n fs s' => rw [e] at this; obtain ⟨d, S', h1, h2, h3⟩ := this; exact ⟨d, S', h1, I.grow h2, h2.nil, h3⟩
  | bad => trivial

theorem Inv.addX {c : Fx} {X : List Nat} {S S' : Store} {r : Env'} {G : Ctx} {k : Nat} (I : Inv c X S r G) (kx : Kx [] S S') (hk : S.length ≤ k) (hl : k < S'.length) : Inv c (k :: X) S' r G where
  kp := I.kp.trans kx.nil
  xb := fun j h => (List.mem_cons.mp h).elim (fun e => by rw [e]; exact hl) fun h => Nat.lt_of_lt_of_le (I.xb j h) kx.1
  x0 := fun j h => List.mem_cons_of_mem _ (I.x0 j h)
  w0 := I.w0
  hd := fun j o h => ⟨List.mem_cons_of_mem _ (I.hd j o h).1, (I.hd j o h).2.1, kx.2 j o (by simp) (I.hd j o h).2.2⟩
  val := fun i a h => let ⟨d, e, q⟩ := I.val i a h; ⟨d, e, Ag.step (a := a) q kx.nil fun j hj => (List.mem_cons.mp hj).elim (fun e => .inr (by rw [e]; exact hk)) .inl⟩
  own := fun i j a h => let ⟨e, h1, h2, h3, o, h4, h5⟩ := I.own i j a h; ⟨e, List.mem_cons_of_mem _ h1, h2, h3, o, kx.2 j o (by simp) h4, Ao.step (a := a) h5 kx.nil fun j hj => (List.mem_cons.mp hj).elim (fun e => .inr (by rw [e]; exact hk)) .inl⟩
  dist := I.dist
  len := I.len
  dp := fun i fp v h => let ⟨d, e, t, q⟩ := I.dp i fp v h; ⟨d, e, (t.more (X' := k :: X) fun j hj => (List.mem_cons.mp hj).elim (fun e => .inr (by rw [e]; exact hk)) .inl).mono ⟨kx.nil, fun j _ o ho => kx.2 j o (by simp) ho⟩, fun j hj => ⟨List.mem_cons_of_mem _ (q j hj).1, (q j hj).2⟩⟩
  dpo := I.dpo
  dpd := I.dpd
theorem rz_fn0f {f : List D → M D} {as : List Ag} {q : PM Unit U} {n : Nat} (h : Fn0 f as q frC) (hn : as.length = n := by rfl) : RZ G (fun ds => if ds.length = n then f ds else mBad) as (lft q) frs := by
  intro c X n' S r s ds hn' I ql
  have := h X S ds I.xb ql
  dsimp only
  rw [if_pos (ql.len.trans hn)]
  unfold lft
  cases e : q () with
  | ok v s' =>
    rw [e] at this; obtain ⟨d, S', h1, h2, k, o, rfl, h3, h4, h5, h6⟩ := this
    exact ⟨_, S', h1, I.grow h2, h2.nil, k, o, rfl, Nat.le_trans hn' h3, h4, h5, h6, I.addX h2 h3 (get_lt' h5)⟩
  | ex n fs s' => rw [e] at this; obtain ⟨d, S', h1, h2, h3⟩ := this; exact ⟨d, S', h1, I.grow h2, h2.nil, h3⟩
  | bad => trivial
theorem lft_unit {q : PM Unit γ} : lft q = q := by funext s; unfold lft; cases q () <;> rfl
theorem rz_fn00f {G : Unit → Ctx} {f : List D → M D} {as : List Ag} {q : PM Unit U} {n : Nat} (h : Fn0 f as q frC) (hn : as.length = n := by rfl) : RZ G (fun ds => if ds.length = n then f ds else mBad) as q frs := by
  have := rz_fn0f (G := G) h hn
  rw [lft_unit] at this
  exact this

structure Gd (i w : Nat) (G : U → Ctx) : Prop where
  at_ : ∀ s, lk (G s) i = .own w (ao s)
  el : ∀ s s' j, j ≠ i → lk (G s') j = lk (G s) j
theorem gd_base {i w : Nat} {K : Ctx} : Gd i w (fun s => (i, .own w (ao s)) :: K) := ⟨fun s => by simp [lk, Nat.beq_refl], fun s s' j h => by
  have : Nat.beq j i = false := by cases e : Nat.beq j i with | false => rfl | true => exact absurd (Nat.eq_of_beq_eq_true e) h
  simp [lk, this]⟩
theorem gd_cons {i w j : Nat} {e : Ent} {G : U → Ctx} (h : Gd i w G) (hj : Nat.beq i j = false := by rfl) : Gd i w (fun s => (j, e) :: G s) := ⟨fun s => by simp only [lk, hj]; exact h.at_ s, fun s s' k hk => by
  simp only [lk]; cases Nat.beq k j with | true => rfl | false => exact h.el s s' k hk⟩
theorem kx1 {X : List Nat} {w : Nat} {S S' : Store} (h : Kx [w] S S') (hw : w ∈ X) : Kx X S S' := h.more fun k hk => by rw [List.mem_singleton] at hk; subst hk; exact .inl hw
theorem rz_fn1 {G : U → Ctx} {f : List D → M D} {i w : Nat} {as : Nat → List Ag} {q : PM U U} {n : Nat} (h : Fn1 f as q clW) (g : Gd i w G) (hn : (as w).length = n := by rfl) : RZ G (fun ds => if ds.length = n then f ds else mBad) (as w) q cl := by
  intro c X n' S r s ds hn' I ql
  obtain ⟨_, hw, _, _, o, ho, hp⟩ := I.own i w _ (g.at_ s)
  have := h w s X S ds o I.xb hw ho hp ql
  dsimp only
  rw [if_pos (ql.len.trans hn)]
  cases e : q s with
  | ok v s' =>
    rw [e] at this; obtain ⟨d, S', h1, h2, h5, o', h3, h4⟩ := this
    exact ⟨d, S', h1, I.put h2 (g.at_ s) (g.at_ s') (g.el s s') h3 h4, kx1 h2 hw, h5⟩
  | ex n fs s' =>
    rw [e] at this; obtain ⟨d, S', h1, h2, ⟨o', h3, h4⟩, h5⟩ := this
    exact ⟨d, S', h1, I.put h2 (g.at_ s) (g.at_ s') (g.el s s') h3 h4, kx1 h2 hw, h5⟩
  | bad => trivial

theorem Inv.putN {G : U → Ctx} {c : Fx} {X fq : List Nat} {S S' : Store} {r : Env'} {s s' : U} {i w : Nat} {o' : O} (I : Inv c X S r (G s)) (g : Gd i w G) (h2 : Kx [w] S S') (hw : w ∈ X) (hq : ∀ k ∈ fq, S.length ≤ k ∧ k < S'.length) (h3 : S'[w]? = some o') (h4 : RvO (fq ++ X) S' o' s') : Inv c (fq ++ X) S' r (G s') := by
  have hm : Xm X (fq ++ X) S.length := fun j hj => (List.mem_append.mp hj).elim (fun e => .inr (hq j e).1) .inl
  have h4' : RvO X S' o' s' := h4.more fun j hj => .inl (List.mem_append_right _ hj)
  have J := I.put (a' := ao s') h2 (g.at_ s) (g.at_ s') (g.el s s') h3 h4'
  refine ⟨J.kp, fun j hj => (List.mem_append.mp hj).elim (fun e => (hq j e).2) (J.xb j), fun j hj => List.mem_append_right _ (J.x0 j hj), J.w0, fun j u h => ⟨List.mem_append_right _ (J.hd j u h).1, (J.hd j u h).2⟩, fun j b hb => ?_, fun j q b hb => ?_, J.dist, J.len, fun j fp v hb => ?_, J.dpo, J.dpd⟩
  · by_cases hj : j = i
    · subst hj; rw [g.at_] at hb; cases hb
    · rw [g.el s s' j hj] at hb
      obtain ⟨d, e1, e2⟩ := I.val j b hb
      exact ⟨d, e1, Ag.step (a := b) e2 (kx1 h2 hw) hm⟩
  · by_cases hj : j = i
    · subst hj; rw [g.at_] at hb; cases hb
      obtain ⟨e1, e2, e3, e4, o1, e5, e6⟩ := J.own j w _ (g.at_ s')
      exact ⟨e1, List.mem_append_right _ e2, e3, e4, o', h3, h4⟩
    · rw [g.el s s' j hj] at hb
      obtain ⟨e1, e2, e3, e4, o1, e5, e6⟩ := I.own j q b hb
      have hqw : q ≠ w := fun e => by subst e; exact hj (I.dist _ _ _ _ _ hb (g.at_ s))
      exact ⟨e1, List.mem_append_right _ e2, e3, e4, o1, h2.2 q o1 (by simpa using hqw) e5, Ao.step (a := b) e6 (kx1 h2 hw) hm⟩
  · by_cases hj : j = i
    · subst hj; rw [g.at_] at hb; cases hb
    · rw [g.el s s' j hj] at hb
      obtain ⟨d, e1, t, z⟩ := I.dp j fp v hb
      have hwf : w ∉ fp := I.dpo _ _ _ _ _ _ hb (g.at_ s)
      refine ⟨d, e1, (t.more hm).mono ⟨(kx1 h2 hw).more fun k hk => .inl (List.mem_append_right _ hk), fun k hk o ho => h2.2 k o (by simp; intro e; subst e; exact hwf hk) ho⟩, fun k hk => ⟨List.mem_append_right _ (z k hk).1, (z k hk).2⟩⟩
theorem rz_fn1f {G : U → Ctx} {f : List D → M D} {i w : Nat} {as : Nat → List Ag} {q : PM U U} {n : Nat} (h : Fn1 f as q frW) (g : Gd i w G) (hn : (as w).length = n := by rfl) : RZ G (fun ds => if ds.length = n then f ds else mBad) (as w) q frs := by
  intro c X n' S r s ds hn' I ql
  obtain ⟨_, hw, _, _, o, ho, hp⟩ := I.own i w _ (g.at_ s)
  have := h w s X S ds o I.xb hw ho hp ql
  dsimp only
  rw [if_pos (ql.len.trans hn)]
  cases e : q s with
  | ok v s' =>
    rw [e] at this; obtain ⟨d, S', h1, h2, k, u, rfl, hk, hkx, hku, hkv, o', h3, h4⟩ := this
    have hwl := I.xb w hw
    have h4' : RvO X S' o' s' := h4.more xm_tl
    have J := I.put (a' := ao s') h2 (g.at_ s) (g.at_ s') (g.el s s') h3 h4'
    refine ⟨_, S', h1, J, kx1 h2 hw, k, u, rfl, Nat.le_trans hn' hk, hkx, hku, hkv, ?_⟩
    exact I.putN (fq := [k]) g h2 hw (fun j hj => by rw [List.mem_singleton] at hj; subst hj; exact ⟨hk, get_lt' hku⟩) h3 h4
  | ex n fs s' =>
    rw [e] at this; obtain ⟨d, S', h1, h2, ⟨o', h3, h4⟩, h5⟩ := this
    exact ⟨d, S', h1, I.put h2 (g.at_ s) (g.at_ s') (g.el s s') h3 h4, kx1 h2 hw, h5⟩
  | bad => trivial

theorem allV {X : List Nat} {S : Store} : ∀ {vs : List U} {ds : List D}, AgL X S (vs.map fun v => ag v) ds → RvL X S ds vs
  | [], _, .nil => .nil
  | v :: vs, _, .cons h t => .cons h (allV t)
theorem rz_tup {as : List Ag} (vs : List U) (h : as = vs.map fun v => ag v := by rfl) (hl : Nat.ble vs.length 64 = true := by rfl) : RZ G tupM as (ret (U.tup vs)) cl := by
  intro c X n S r s ds hn I ql
  subst h
  have h2 := Nat.le_of_ble_eq_true hl
  unfold tupM
  rw [if_pos (by rw [ql.len, List.length_map, sizeLine_eq]; omega)]
  exact Sm.ok I (.tup (allV ql))
theorem Sm.new {c : Fx} {X : List Nat} {n : Nat} {S : Store} {r : Env'} {s : ε} {v : U} {o : O} (I : Inv c X S r (G s)) (hn : n ≤ S.length) (h : RvO X S o v) : Sm c X n S r G frs (.ok (.ref S.length) (S ++ [o])) (ret v s) :=
  ⟨_, _, rfl, I.grow Kx.app, Kx.app, S.length, o, rfl, hn, fun h => by have := I.xb _ h; omega, by simp, (h.more fun k hk => (List.mem_cons.mp hk).elim (fun e => .inr (by rw [e]; exact Nat.le_refl _)) .inl).mono Kx.app, I.addX Kx.app (Nat.le_refl _) (by simp)⟩
theorem Sm.newL {c : Fx} {X : List Nat} {n : Nat} {S : Store} {r : Env'} {s : ε} {vs : List U} {ds : List D} (I : Inv c X S r (G s)) (hn : n ≤ S.length) (h : All2 (Rv X S) ds vs) : Sm c X n S r G frs (.ok (.ref S.length) (S ++ [.lst ds])) (ret (U.lst vs) s) := Sm.new I hn (.lst (RvL.of h))

theorem Sm.x {c : Fx} {X : List Nat} {n : Nat} {S : Store} {r : Env'} {x : R D} {y : PR ε U} (h : Sm c X n S r G frs x y) : Sm c X n S r G cl x y := by
  cases y with
  | ok v s' => obtain ⟨d, S', h1, h2, h3, k, o, rfl, hn, hx, ho, hp, _⟩ := h; exact ⟨_, S', h1, h2, h3, (hp.more xm_tl).rv ho hx⟩
  | ex _ _ _ => exact h
  | bad => trivial
theorem rz_lst {as : List Ag} (vs : List U) (h : as = vs.map fun v => ag v := by rfl) (hl : Nat.ble vs.length 64 = true := by rfl) : RZ G lstM as (ret (U.lst vs)) frs := by
  intro c X n S r s ds hn I ql
  subst h
  have h2 := Nat.le_of_ble_eq_true hl
  unfold lstM
  rw [if_pos (by rw [ql.len, List.length_map, sizeLine_eq]; omega)]
  exact Sm.newL I hn (allV ql).a2
end
end Pv
end CK
end

section
set_option Elab.async false
set_option linter.all false
set_option maxRecDepth 100000
set_option maxHeartbeats 4000000
namespace CK
namespace Pv
open PySem PySem.Spec PyProof.Rows L2

instance loc_iOp {C : Int → Int → Prop} [∀ i j, Decidable (C i j)] {g : Int → Int → D} : Loc2 (iOp C g) := ⟨fun {x y z S'} h S => by
  unfold iOp at h ⊢
  cases e1 : x.asInt <;> cases e2 : y.asInt <;> simp [e1, e2] at h ⊢
  split at h
  · rename_i hc; rw [if_pos hc]; cases h; rfl
  · cases h⟩
instance loc_iOp0 {g : Int → Int → D} : Loc2 (iOp0 g) := ⟨fun {x y z S'} h S => by
  unfold iOp0 at h ⊢
  cases e1 : x.asInt <;> cases e2 : y.asInt <;> simp [e1, e2] at h ⊢
  exact h.1⟩
instance loc_eqS {neg : Bool} : Loc2 (eqSM neg) := ⟨fun {x y z S'} h S => by
  unfold eqSM at h ⊢
  cases e1 : x.asStr <;> cases e2 : y.asStr <;> simp [e1, e2] at h ⊢
  exact h.1⟩
instance loc_neg : Loc1 negM := ⟨fun {x z S'} h S => by
  unfold negM at h ⊢
  cases e : x.asInt <;> simp [e] at h ⊢
  exact h.1⟩
instance loc_abs : LocA absM := ⟨fun {x z S'} h S => by
  unfold absM at h ⊢
  split at h <;> simp at h
  simp [h.1]⟩
instance loc_int : LocA intM := ⟨fun {x z S'} h S => by
  unfold intM at h ⊢
  split at h <;> simp at h <;> simp [h.1]⟩
theorem ofList_no {α : Type} {f : List D → Option α} {k : α → M D} {as : List D} {z : D} {S' : Store} : ofList f k as [] = .ok z S' → False := fun h => by
  unfold ofList at h
  split at h
  · simp [lsAt, lsO] at h
  · cases h
instance loc_max : LocA maxM := ⟨fun {x z S'} h S => by
  unfold maxM at h ⊢
  split at h
  · cases h; rfl
  · rename_i xs; cases e : asInts xs with
    | none => simp [e] at h
    | some ns => cases ns with
      | nil => simp [e] at h
      | cons n r => simp [e] at h ⊢; exact h.1
  · exact (ofList_no h).elim⟩
instance loc_min : LocA minM := ⟨fun {x z S'} h S => by
  unfold minM at h ⊢
  split at h
  · cases h; rfl
  · rename_i xs; cases e : asInts xs with
    | none => simp [e] at h
    | some ns => cases ns with
      | nil => simp [e] at h
      | cons n r => simp [e] at h ⊢; exact h.1
  · exact (ofList_no h).elim⟩


def pyU : Nat → U → Option PyData
  | 0, _ => none
  | n + 1, v => match v with
    | .non => some .none
    | .bl b => some (.bool b)
    | .int i => some (.int i)
    | .str x => if PyData.canLay0 (.str x) = true then some (.str x) else none
    | .tup xs => (optAll (pyU n) xs).map .tuple
    | .lst xs => (optAll (pyU n) xs).map .list
    | .fz xs => (optAll (pyU n) xs).map .list
    | .dk _ => none
    | .exn _ _ => none
theorem ls_lst {S : Store} {k : Nat} {ds : List D} (h : S[k]? = some (.lst ds)) : lsAt S k = some ds := by unfold lsAt; rw [h]; rfl
theorem ls_fro {S : Store} {k : Nat} {ds : List D} (h : S[k]? = some (.fro ds)) : lsAt S k = some ds := by unfold lsAt; rw [h]; rfl
theorem lst_lst {S : Store} {k : Nat} {ds : List D} (h : S[k]? = some (.lst ds)) : lstO S[k]? = some ds := by rw [h]; rfl
theorem optAll_two {X : List Nat} {S : Store} {n : Nat} (ih : ∀ {d v x}, Rv X S d v → pyU n v = some x → pyOf S n d = some x) : ∀ {ds : List D} {vs : List U} {ys : List PyData}, All2 (Rv X S) ds vs → optAll (pyU n) vs = some ys → optAll (pyOf S n) ds = some ys
  | [], [], _, _, e => e
  | d :: ds, v :: vs, ys, .cons h t, e => by
    unfold optAll at e ⊢
    cases h1 : pyU n v with
    | none => simp [h1] at e
    | some y =>
      cases h2 : optAll (pyU n) vs with
      | none => simp [h1, h2] at e
      | some zs =>
        simp only [h1, h2] at e
        rw [ih h h1, optAll_two ih t h2]
        exact e
theorem pyU_ok {X : List Nat} {S : Store} : ∀ {n : Nat} {d : D} {v : U} {x : PyData}, Rv X S d v → pyU n v = some x → pyOf S n d = some x
  | 0, _, _, _, _, e => by cases e
  | n + 1, d, v, x, h, e => by
    have ih : ∀ {d v x}, Rv X S d v → pyU n v = some x → pyOf S n d = some x := pyU_ok
    cases h with
    | tup h =>
      rename_i ds vs
      have e : (optAll (pyU n) vs).map PyData.tuple = some x := e
      show (optAll (pyOf S n) ds).map PyData.tuple = some x
      cases e2 : optAll (pyU n) vs with
      | none => simp [e2] at e
      | some ys => rw [e2] at e; rw [optAll_two ih h.a2 e2]; exact e
    | lst hx hk h =>
      rename_i k ds vs
      have e : (optAll (pyU n) vs).map PyData.list = some x := e
      unfold pyOf
      simp only [ls_lst hk]
      cases e2 : optAll (pyU n) vs with
      | none => simp [e2] at e
      | some ys => rw [e2] at e; rw [optAll_two ih h.a2 e2]; exact e
    | fz hx hk h =>
      rename_i k ds vs
      have e : (optAll (pyU n) vs).map PyData.list = some x := e
      unfold pyOf
      simp only [ls_fro hk]
      cases e2 : optAll (pyU n) vs with
      | none => simp [e2] at e
      | some ys => rw [e2] at e; rw [optAll_two ih h.a2 e2]; exact e
    | dk hx hk h => cases e
    | exn hx hk h => cases e
    | _ => exact e
section
variable {ε α β γ δ δ' σ τ l ρ : Type} {G : ε → Ctx}
def eqP (x y : U) : PM ε U := fun s => match pyU 199 x, pyU 199 y with
  | some a, some b => .ok (.bl (PyData.eqv a b)) s
  | _, _ => .bad
def neP (x y : U) : PM ε U := fun s => match pyU 199 x, pyU 199 y with
  | some a, some b => .ok (.bl (!PyData.eqv a b)) s
  | _, _ => .bad
def inP (neg : Bool) (x y : U) : PM ε U := fun s => match pyU 198 x, (pyU 199 y).bind seqP with
  | some x, some ys => .ok (.bl (if neg then !(ys.any fun z => PyData.eqv z x) else ys.any fun z => PyData.eqv z x)) s
  | _, _ => .bad
theorem eq_sm {c : Fx} {X : List Nat} {X1 X2 : List Nat} {n : Nat} {S : Store} {r : Env'} {s : ε} {x y : U} {d e : D} (I : Inv c X S r (G s)) (hx : Rv X1 S d x) (hy : Rv X2 S e y) : Sm c X n S r G cl (eqM d e S) (eqP x y s) := by
  unfold eqP eqM
  cases e1 : pyU 199 x with
  | none => trivial
  | some u =>
    cases e2 : pyU 199 y with
    | none => trivial
    | some v => unfold pyD; rw [pyU_ok hx e1, pyU_ok hy e2]; exact Sm.ok I (.bl _)
theorem ne_sm {c : Fx} {X : List Nat} {X1 X2 : List Nat} {n : Nat} {S : Store} {r : Env'} {s : ε} {x y : U} {d e : D} (I : Inv c X S r (G s)) (hx : Rv X1 S d x) (hy : Rv X2 S e y) : Sm c X n S r G cl (neM d e S) (neP x y s) := by
  unfold neP neM
  cases e1 : pyU 199 x with
  | none => trivial
  | some u =>
    cases e2 : pyU 199 y with
    | none => trivial
    | some v => unfold pyD; rw [pyU_ok hx e1, pyU_ok hy e2]; exact Sm.ok I (.bl _)
theorem in_sm {neg : Bool} {c : Fx} {X : List Nat} {X1 X2 : List Nat} {n : Nat} {S : Store} {r : Env'} {s : ε} {x y : U} {d e : D} (I : Inv c X S r (G s)) (hx : Rv X1 S d x) (hy : Rv X2 S e y) : Sm c X n S r G cl (inXM neg d e S) (inP neg x y s) := by
  unfold inP inXM
  cases e1 : pyU 198 x with
  | none => trivial
  | some u =>
    cases e2 : pyU 199 y with
    | none => trivial
    | some v =>
      unfold pyD; rw [pyU_ok hx e1, pyU_ok hy e2]
      show Sm c X n S r G cl _ (match some u, seqP v with | some x, some ys => _ | _, _ => _)
      cases e3 : seqP v with
      | none => trivial
      | some ys => simp only [Option.bind_some, e3]; exact Sm.ok I (.bl _)
theorem re_m2 {f : D → D → M D} {q : U → U → PM ε γ} {B : γ → Nat → Fx → List Nat → Store → Env' → Ctx → D → Prop} {a b : Env' → M D} {pa pb : PM ε U} (ha : RX G a pa) (hb : RX G b pb)
    (hf : ∀ c X n S r s x y d e, n ≤ S.length → Inv c X S r (G s) → Rv X S d x → Rv X S e y → Sm c X n S r G B (f d e S) (q x y s)) : RE G (m2 f a b) (bnd pa fun x => bnd pb fun y => q x y) B := by
  intro c X S r s I
  exact re_bnd (h := fun r x => mB (b r) fun y => f x y) ha I (Nat.le_refl _) fun x S1 s1 d I1 k1 q1 => re_bnd (h := fun r y => f d y) hb I1 k1.1 fun y S2 s2 e I2 k2 q2 => hf _ _ _ _ _ _ _ _ _ _ (Nat.le_trans k1.1 k2.1) I2 (q1.mono k2) q2
theorem re_m1 {f : D → M D} {q : U → PM ε γ} {B : γ → Nat → Fx → List Nat → Store → Env' → Ctx → D → Prop} {a : Env' → M D} {pa : PM ε U} (ha : RX G a pa)
    (hf : ∀ c X n S r s x d, n ≤ S.length → Inv c X S r (G s) → Rv X S d x → Sm c X n S r G B (f d S) (q x s)) : RE G (fun r => mB (a r) f) (bnd pa fun x => q x) B := by
  intro c X S r s I
  exact re_bnd (h := fun r x => f x) ha I (Nat.le_refl _) fun x S1 s1 d I1 k1 q1 => hf _ _ _ _ _ _ _ _ k1.1 I1 q1
theorem re_eq {a b : Env' → M D} {pa pb : PM ε U} (ha : RX G a pa) (hb : RX G b pb) : RX G (m2 eqM a b) (bnd pa fun x => bnd pb fun y => eqP x y) := re_m2 ha hb fun c X n S r s x y d e hn I hx hy => eq_sm I hx hy
theorem re_ne {a b : Env' → M D} {pa pb : PM ε U} (ha : RX G a pa) (hb : RX G b pb) : RX G (m2 neM a b) (bnd pa fun x => bnd pb fun y => neP x y) := re_m2 ha hb fun c X n S r s x y d e hn I hx hy => ne_sm I hx hy
theorem re_in {neg : Bool} {a b : Env' → M D} {pa pb : PM ε U} (ha : RX G a pa) (hb : RX G b pb) : RX G (m2 (inXM neg) a b) (bnd pa fun x => bnd pb fun y => inP neg x y) := re_m2 ha hb fun c X n S r s x y d e hn I hx hy => in_sm I hx hy

def isU (x y : U) : PM ε U := match y with
  | .non => ret (.bl (match x with | .non => true | _ => false))
  | .bl b => (match x with | .bl a => ret (.bl (decide (a = b))) | _ => pbad)
  | _ => pbad
def notU (x y : U) : PM ε U := match y with
  | .non => ret (.bl (match x with | .non => false | _ => true))
  | .bl b => (match x with | .bl a => ret (.bl (!decide (a = b))) | _ => pbad)
  | _ => pbad
theorem re_not2 {a b : Env' → M D} {pa pb : PM ε U} (ha : RX G a pa) (hb : RX G b pb) : RX G (m2 notM a b) (bnd pa fun x => bnd pb fun y => notU x y) := re_m2 ha hb fun c X n S r s x y d e hn I hx hy => by
  unfold notU notM
  cases hy with
  | non => cases hx <;> exact Sm.ok I (.bl _)
  | bl b => cases hx with
    | bl a => exact Sm.ok I (.bl _)
    | _ => trivial
  | _ => trivial

theorem All2.ix {R : α → β → Prop} {xs : List α} {ys : List β} {i : Int} {y : β} (h : All2 R xs ys) (e : atI ys i = some y) : ∃ x, atI xs i = some x ∧ R x y := by
  unfold atI at e ⊢
  rw [← h.len] at e
  cases h1 : ixN xs.length i with
  | none => rw [h1] at e; cases e
  | some j => rw [h1] at e; exact h.get e
def optP (o : Option α) : PM ε α := fun s => match o with | some v => .ok v s | none => .bad
def ixP (x i : U) : PM ε U := match i with
  | .int j => (match x with
    | .tup xs => optP (atI xs j)
    | .lst xs => optP (atI xs j)
    | .fz xs => optP (atI xs j)
    | .str z => if z.length ≤ sizeLine then optP ((atI z.cps.toList j).map fun x => .str ⟨#[x]⟩) else pbad
    | _ => pbad)
  | _ => pbad
theorem opt_sm {c : Fx} {X : List Nat} {n : Nat} {S : Store} {r : Env'} {s : ε} {ds : List D} {vs : List U} {j : Int} (I : Inv c X S r (G s)) (h : All2 (Rv X S) ds vs) : Sm c X n S r G cl (match atI ds j with | some x => .ok x S | none => .bad) (optP (atI vs j) s) := by
  unfold optP
  cases e : atI vs j with
  | none => trivial
  | some v => obtain ⟨d, h1, h2⟩ := h.ix e; rw [h1]; exact Sm.ok I h2
theorem ix_sm {c : Fx} {X : List Nat} {n : Nat} {S : Store} {r : Env'} {s : ε} {x y : U} {d e : D} (I : Inv c X S r (G s)) (hx : Rv X S d x) (hy : Rv X S e y) : Sm c X n S r G cl (ixM d e S) (ixP x y s) := by
  unfold ixP ixM
  cases hy with
  | int j =>
    simp only [D.asInt]
    cases hx with
    | tup h => exact opt_sm I h.a2
    | lst _ hk h => simp only [ls_lst hk]; exact opt_sm I h.a2
    | fz _ hk h => simp only [ls_fro hk]; exact opt_sm I h.a2
    | str z =>
      dsimp only
      split
      · unfold optP
        cases e : atI z.cps.toList j with
        | none => trivial
        | some q => exact Sm.ok I (.str _)
      · trivial
    | _ => trivial
  | _ => trivial
theorem re_ix {a b : Env' → M D} {pa pb : PM ε U} (ha : RX G a pa) (hb : RX G b pb) : RX G (m2 ixM a b) (bnd pa fun x => bnd pb fun y => ixP x y) := re_m2 ha hb fun c X n S r s x y d e hn I hx hy => ix_sm I hx hy

def lenU (x : U) : PM ε U := match x with
  | .tup xs => ret (.int xs.length)
  | .lst xs => ret (.int xs.length)
  | .fz xs => ret (.int xs.length)
  | .dk xs => ret (.int xs.length)
  | .str z => if z.length ≤ sizeLine then ret (.int z.length) else pbad
  | _ => pbad
theorem len_sm {c : Fx} {X X1 : List Nat} {n : Nat} {S : Store} {r : Env'} {s : ε} {x : U} {d : D} (I : Inv c X S r (G s)) (hx : Rv X1 S d x) : Sm c X n S r G cl (lenM [d] S) (lenU x s) := by
  unfold lenU lenM
  cases hx with
  | tup h => dsimp only; rw [h.a2.len]; exact Sm.ok I (.int _)
  | lst _ hk h => simp only [hk, h.a2.len]; exact Sm.ok I (.int _)
  | fz _ hk h => simp only [hk, h.a2.len]; exact Sm.ok I (.int _)
  | dk _ hk h => simp only [hk, h.a2.len]; exact Sm.ok I (.int _)
  | str z =>
    dsimp only
    split
    · exact Sm.ok I (.int _)
    · trivial
  | _ => trivial
theorem rz_1 {f : List D → M D} {x : U} {q : PM ε γ} {B : γ → Nat → Fx → List Nat → Store → Env' → Ctx → D → Prop} (hf : ∀ c X n S r s d, n ≤ S.length → Inv c X S r (G s) → Rv X S d x → Sm c X n S r G B (f [d] S) (q s)) : RZ G f [ag x] q B := fun c X n S r s ds hn I ql => by
  match ds, ql with
  | _, .cons h .nil => exact hf c X n S r s _ hn I h
theorem rz_len {x : U} : RZ G lenM [ag x] (lenU x) cl := rz_1 fun c X n S r s d hn I h => len_sm I h

theorem flats {X : List Nat} {S : Store} : ∀ {vs : List U} {ds es : List D}, AgL X S (vs.map fun v => ag v) ds → optAll U.flat vs = some es → ds = es
  | [], _, _, .nil, e => by cases e; rfl
  | v :: vs, d :: ds, es, .cons h t, e => by
    unfold optAll at e
    cases h1 : U.flat v with
    | none => simp [h1] at e
    | some y =>
      cases h2 : optAll U.flat vs with
      | none => simp [h1, h2] at e
      | some zs => simp only [h1, h2, Option.some.injEq] at e; subst e; rw [flats t h2, h.flat h1]
def locA (f : List D → M D) (vs : List U) : PM ε U := match optAll U.flat vs with
  | some ds => toU (f ds [])
  | none => pbad
theorem rz_loc {f : List D → M D} [hf : LocA f] {as : List Ag} (vs : List U) (h : as = vs.map fun v => ag v := by rfl) : RZ G f as (locA f vs) cl := by
  intro c X n S r s ds hn I ql
  subst h
  unfold locA
  cases e : optAll U.flat vs with
  | none => trivial
  | some es => cases flats ql e; exact toU_sm (m := f ds) I hf.lc

def seqU : U → Option (List U)
  | .tup xs => some xs
  | .lst xs => some xs
  | .fz xs => some xs
  | _ => none
def intU : U → Option Int
  | .int i => some i
  | _ => none
def lstV : U → Option (List U)
  | .lst xs => some xs
  | .fz xs => some xs
  | _ => none
theorem Rv.ls {X : List Nat} {S : Store} {d : D} {v : U} {xs : List U} (h : Rv X S d v) (e : lstV v = some xs) : ∃ k ds, d = .ref k ∧ lsAt S k = some ds ∧ All2 (Rv X S) ds xs := by
  cases h with
  | lst _ hk h => simp [lstV] at e; subst e; exact ⟨_, _, rfl, ls_lst hk, h.a2⟩
  | fz _ hk h => simp [lstV] at e; subst e; exact ⟨_, _, rfl, ls_fro hk, h.a2⟩
  | _ => simp [lstV] at e
def listU (x : U) : PM ε U := optP ((seqU x).map U.lst)
def tupleU (x : U) : PM ε U := optP ((seqU x).map U.tup)
theorem rz_list {x : U} : RZ G listM [ag x] (listU x) frs := rz_1 fun c X n S r s d hn I h => by
  unfold listU listM optP
  cases h with
  | tup h => exact Sm.newL I hn h.a2
  | lst _ hk h => simp only [ls_lst hk]; exact Sm.newL I hn h.a2
  | fz _ hk h => simp only [ls_fro hk]; exact Sm.newL I hn h.a2
  | _ => trivial
theorem rz_tuple {x : U} : RZ G tupleM [ag x] (tupleU x) cl := rz_1 fun c X n S r s d hn I h => by
  unfold tupleU tupleM optP
  cases h with
  | tup h => exact Sm.ok I (.tup h)
  | lst _ hk h => simp only [ls_lst hk]; exact Sm.ok I (.tup h)
  | fz _ hk h => simp only [ls_fro hk]; exact Sm.ok I (.tup h)
  | _ => trivial
def addU (x y : U) : PM ε U := match x, y with
  | .int i, .int j => ret (.int (i + j))
  | .bl b, .int j => ret (.int ((if b = true then 1 else 0) + j))
  | .str i, .str j => if i.length + j.length ≤ sizeLine then ret (.str (i ++ j)) else pbad
  | .tup i, .tup j => if i.length + j.length ≤ sizeLine then ret (.tup (i ++ j)) else pbad
  | .lst i, .lst j => if i.length + j.length ≤ sizeLine then ret (.lst (i ++ j)) else pbad
  | _, _ => pbad
def catU (x y : U) : PM ε U := match x, y with
  | .lst i, .lst j => if i.length + j.length ≤ sizeLine then ret (.lst (i ++ j)) else pbad
  | _, _ => pbad
theorem re_add {a b : Env' → M D} {pa pb : PM ε U} (ha : RX G a pa) (hb : RX G b pb) : RX G (m2 addM a b) (bnd pa fun x => bnd pb fun y => addU x y) :=
  re_m2 ha hb fun c X n S r s x y d e hn I hx hy => by
    unfold addU addM
    cases hx with
    | int i => cases hy with
      | int j => exact Sm.ok I (.int _)
      | _ => trivial
    | bl b => cases hy with
      | int j => exact Sm.ok I (.int _)
      | _ => trivial
    | str i => cases hy with
      | str j => simp only [D.asStr]; split; (· exact Sm.ok I (.str _)); (· trivial)
      | _ => trivial
    | tup h => cases hy with
      | tup h2 => simp only [D.asTup, h.a2.len, h2.a2.len]; split; (· exact Sm.ok I (.tup (RvL.of (h.a2.app h2.a2)))); (· trivial)
      | _ => trivial
    | lst _ hk h => cases hy with
      | lst _ hk2 h2 =>
        simp only [D.asRef, lst_lst hk, lst_lst hk2, h.a2.len, h2.a2.len]
        split
        · exact Sm.x (Sm.newL I hn (h.a2.app h2.a2))
        · trivial
      | _ => trivial
    | _ => trivial
def mulU (x y : U) : PM ε U := match x, y with
  | .int i, .int j => if CMulX i j then ret (.int (i * j)) else pbad
  | .lst xs, .int j => if -(2 ^ 63) ≤ j ∧ j < 2 ^ 63 ∧ xs.length * j.toNat ≤ sizeLine then ret (.lst (List.replicate j.toNat xs).flatten) else pbad
  | .tup xs, .int j => if xs ≠ [] ∧ 2 ≤ j ∧ j ≤ 1000 ∧ xs.length ≤ 1000 then ret (.tup (List.replicate j.toNat xs).flatten) else pbad
  | _, _ => pbad
def repU (x y : U) : PM ε U := match x, y with
  | .lst xs, .int j => if -(2 ^ 63) ≤ j ∧ j < 2 ^ 63 ∧ xs.length * j.toNat ≤ sizeLine then ret (.lst (List.replicate j.toNat xs).flatten) else pbad
  | _, _ => pbad
theorem All2.rep {R : α → β → Prop} {xs : List α} {ys : List β} (h : All2 R xs ys) : ∀ n : Nat, All2 R (List.replicate n xs).flatten (List.replicate n ys).flatten
  | 0 => .nil
  | n + 1 => by rw [List.replicate_succ, List.replicate_succ, List.flatten_cons, List.flatten_cons]; exact h.app (h.rep n)
theorem re_mul {a b : Env' → M D} {pa pb : PM ε U} (ha : RX G a pa) (hb : RX G b pb) : RX G (m2 mulM a b) (bnd pa fun x => bnd pb fun y => mulU x y) :=
  re_m2 ha hb fun c X n S r s x y d e hn I hx hy => by
    unfold mulU mulM
    cases hx with
    | int i => cases hy with
      | int j => simp only [D.asInt]; split; (· exact Sm.ok I (.int _)); (· trivial)
      | _ => trivial
    | lst _ hk h => cases hy with
      | int j => simp only [D.asInt, lst_lst hk, h.a2.len]; split; (· exact Sm.x (Sm.newL I hn (h.a2.rep _))); (· trivial)
      | _ => trivial
    | tup h => cases hy with
      | int j =>
        rename_i ds vs
        have e1 : (ds ≠ []) ↔ (vs ≠ []) := by
          have := h.a2.len
          cases ds <;> cases vs <;> simp at this ⊢
        simp only [D.asInt, h.a2.len, e1]
        split; (· exact Sm.ok I (.tup (RvL.of (h.a2.rep _)))); (· trivial)
      | _ => trivial
    | _ => trivial

abbrev pv : Option Int → Nat → Fx → List Nat → Store → Env' → Ctx → Option Int → Prop := fun v _ _ _ _ _ _ b => b = v
instance dwn_pv : Dwn pv := ⟨fun _ h => h⟩
theorem re_noPart : RE G mNoPart (ret none) pv := fun c X S r s I => Sm.ok I rfl
def partP (x : U) : PM ε (Option Int) := optP ((intU x).map some)
theorem re_part {a : Env' → M D} {pa : PM ε U} (ha : RX G a pa) : RE G (mPart a) (bnd pa partP) pv := by
  intro c X S r s I
  refine re_bnd (h := fun r d S => match d.asInt with | some i => .ok (some i) S | none => .bad) ha I (Nat.le_refl _) fun x S1 s1 d I1 k1 q1 => ?_
  unfold partP optP
  cases q1 with
  | int i => exact Sm.ok I1 rfl
  | _ => trivial
theorem re_sl {q : U → Option Int → Option Int → PM ε γ} {B : γ → Nat → Fx → List Nat → Store → Env' → Ctx → D → Prop} {a : Env' → M D} {pa : PM ε U} {l h : Env' → M (Option Int)} {pl ph : PM ε (Option Int)} (ha : RX G a pa) (hl : RE G l pl pv) (hh : RE G h ph pv)
    (hf : ∀ c X n S r s x d lo hi, n ≤ S.length → Inv c X S r (G s) → Rv X S d x → Sm c X n S r G B (slM d lo hi S) (q x lo hi s)) : RE G (mSlice a l h) (bnd pa fun x => bnd pl fun lo => bnd ph fun hi => q x lo hi) B := by
  intro c X S r s I
  refine re_bnd (h := fun r d => mB (l r) fun lo => mB (h r) fun hi => slM d lo hi) ha I (Nat.le_refl _) fun x S1 s1 d I1 k1 q1 => re_bnd (h := fun r lo => mB (h r) fun hi => slM d lo hi) hl I1 k1.1 fun lo S2 s2 lo' I2 k2 q2 => re_bnd (h := fun r hi => slM d lo' hi) hh I2 (Nat.le_trans k1.1 k2.1) fun hi S3 s3 hi' I3 k3 q3 => ?_
  cases q2; cases q3
  exact hf _ _ _ _ _ _ _ _ _ _ (Nat.le_trans k1.1 (Nat.le_trans k2.1 k3.1)) I3 ((q1.mono k2).mono k3)
theorem All2.cut {R : α → β → Prop} {xs : List α} {ys : List β} (h : All2 R xs ys) {lo hi : Option Int} : All2 R (cutD xs lo hi) (cutD ys lo hi) := by
  unfold cutD; rw [h.len]; exact (h.drop _).take _
def cutL (x : U) (lo hi : Option Int) : PM ε U := optP ((lstV x).map fun xs => .lst (cutD xs lo hi))
def cutP (x : U) (lo hi : Option Int) : PM ε U := match x with
  | .tup xs => ret (.tup (cutD xs lo hi))
  | .lst xs => ret (.lst (cutD xs lo hi))
  | .fz xs => ret (.lst (cutD xs lo hi))
  | _ => pbad
theorem re_slice {a : Env' → M D} {pa : PM ε U} {l h : Env' → M (Option Int)} {pl ph : PM ε (Option Int)} (ha : RX G a pa) (hl : RE G l pl pv) (hh : RE G h ph pv) : RX G (mSlice a l h) (bnd pa fun x => bnd pl fun lo => bnd ph fun hi => cutP x lo hi) :=
  re_sl ha hl hh fun c X n S r s x d lo hi hn I hx => by
    unfold cutP slM
    cases hx with
    | tup h => exact Sm.ok I (.tup (RvL.of h.a2.cut))
    | lst _ hk h => simp only [ls_lst hk]; exact Sm.x (Sm.newL I hn h.a2.cut)
    | fz _ hk h => simp only [ls_fro hk]; exact Sm.x (Sm.newL I hn h.a2.cut)
    | _ => trivial
def revU (x : U) : PM ε U := optP ((lstV x).map fun xs => .lst xs.reverse)
def rgU (a b : Int) : List U := (List.range (b - a).toNat).map fun i => U.int (a + (i : Nat))
theorem rg_rv {X : List Nat} {S : Store} {a b : Int} : All2 (Rv X S) (rgD a b) (rgU a b) := by
  unfold rgD rgU
  generalize List.range (b - a).toNat = l
  induction l with
  | nil => exact .nil
  | cons i l ih => exact .cons (.int _) ih
def rgP (k : List U → U) (x y : U) : PM ε U := match x, y with
  | .int m, .int n => if RgOk m n then ret (k (rgU m n)) else pbad
  | _, _ => pbad
def tyU : U → String
  | .non => "NoneType"
  | .bl _ => "bool"
  | .int _ => "int"
  | .str _ => "str"
  | .tup _ => "tuple"
  | .lst _ => "list"
  | .fz _ => "list"
  | .dk _ => "dict"
  | .exn _ _ => "ValueError"
theorem xdOkq {X : List Nat} {S : Store} {i : Option Nat} {n : Str} {fs : List (Str × D)} (h : Xq X S i fs) : xdOk ⟨n, i⟩ S = true := by
  unfold xdOk
  rcases h with ⟨e, _⟩ | ⟨k, e, _, h⟩
  · subst e; rfl
  · subst e; simp only [h]; rfl
theorem ty_ok {X : List Nat} {S : Store} {d : D} {v : U} (h : Rv X S d v) : tyN d S = some (tyU v) := by
  cases h with
  | lst _ hk _ => simp only [tyN, hk]; rfl
  | fz _ hk _ => simp only [tyN, hk]; rfl
  | dk _ hk _ => simp only [tyN, hk]; rfl
  | exn _ hk hq => simp only [tyN, hk]; rw [if_pos (xdOkq hq)]; rfl
  | _ => rfl
def isiP (T : String) (v : U) : PM ε U := optP ((isiR (tyU v) T).map .bl)
theorem re_isi {T : String} {a : Env' → M D} {pa : PM ε U} (ha : RX G a pa) : RX G (mIsi T a) (bnd pa fun x => isiP T x) :=
  re_m1 ha fun c X n S r s x d hn I hx => by
    unfold isiP optP
    simp only [ty_ok hx]
    cases isiR (tyU x) T with
    | none => trivial
    | some b => exact Sm.ok I (.bl _)
end
end Pv
end CK
end

section
set_option Elab.async false
set_option linter.all false
set_option maxRecDepth 100000
set_option maxHeartbeats 4000000
namespace CK
namespace Pv
open PySem PySem.Spec PyProof.Rows L2
section
variable {ε α β γ δ δ' σ τ l ρ : Type} {G : ε → Ctx}

theorem RvO.rv0 {X : List Nat} {S : Store} {k : Nat} {o : O} {v : U} (h : RvO X S o v) (e : S[k]? = some o) : Rv [] S (.ref k) v := (h.more fun _ h => by cases h).rv e (by simp)
theorem own_at {c : Fx} {X : List Nat} {S : Store} {r : Env'} {s : ε} {i k : Nat} {f : ε → U} (I : Inv c X S r (G s)) (hi : ∀ s, lk (G s) i = .own k (ao (f s))) : mVar i r = (fun S => .ok (.ref k) S) ∧ k ∈ X ∧ ∃ o, S[k]? = some o ∧ RvO X S o (f s) := by
  obtain ⟨e, h1, _, _, h2⟩ := I.own i k _ (hi s)
  exact ⟨by funext S; unfold mVar; rw [e], h1, h2⟩

theorem ixO_sm {c : Fx} {X : List Nat} {n : Nat} {S : Store} {r : Env'} {s : ε} {k : Nat} {o : O} {x y : U} {e : D} (I : Inv c X S r (G s)) (ho : S[k]? = some o) (hx : RvO X S o x) (hy : Rv X S e y) : Sm c X n S r G cl (ixM (.ref k) e S) (ixP x y s) := by
  unfold ixP ixM
  cases hy with
  | int j =>
    simp only [D.asInt]
    cases hx with
    | exn => first | trivial | cases e | cases e1 | simp [lstV] at e | simp at e | cases hl | (exfalso; simp_all)
    | lst h => simp only [ls_lst ho]; exact opt_sm I h.a2
    | dk h => trivial
  | _ => trivial
theorem re_ixO {i k : Nat} {f : ε → U} {b : Env' → M D} {pb : PM ε U} (hi : ∀ s, lk (G s) i = .own k (ao (f s))) (hb : RX G b pb) : RX G (m2 ixM (mVar i) b) (bnd pb fun y s => ixP (f s) y s) := by
  intro c X S r s I
  have e : m2 ixM (mVar i) b r S = mB (b r) (fun y => ixM (.ref k) y) S := by unfold m2 mB; rw [(own_at I hi).1]
  rw [e]
  refine re_bnd (h := fun r y => ixM (.ref k) y) hb I (Nat.le_refl _) fun y S2 s2 e I2 k2 q2 => ?_
  obtain ⟨_, _, o, ho, h⟩ := own_at I2 hi
  exact ixO_sm I2 ho h q2
theorem re_lenO {i k : Nat} {f : ε → U} (hi : ∀ s, lk (G s) i = .own k (ao (f s))) : RX G (mArgs lenM (mCons (mVar i) mNil)) (fun s => lenU (f s) s) := by
  intro c X S r s I
  obtain ⟨e, _, o, ho, h⟩ := own_at I hi
  have e2 : mArgs lenM (mCons (mVar i) mNil) r S = lenM [.ref k] S := by unfold mArgs mCons mB; rw [e]; rfl
  rw [e2]
  exact len_sm I (h.rv0 ho)
theorem re_O1 {g : D → D → M D} {q : U → U → PM ε U} {i k : Nat} {f : ε → U} {b : Env' → M D} {pb : PM ε U} (hg : ∀ {c X n S r s x y d e}, Inv c X S r (G s) → Rv [] S d x → Rv X S e y → Sm c X n S r G cl (g d e S) (q x y s)) (hi : ∀ s, lk (G s) i = .own k (ao (f s))) (hb : RX G b pb) : RX G (m2 g (mVar i) b) (bnd pb fun y s => q (f s) y s) := by
  intro c X S r s I
  have e : m2 g (mVar i) b r S = mB (b r) (fun y => g (.ref k) y) S := by unfold m2 mB; rw [(own_at I hi).1]
  rw [e]
  refine re_bnd (h := fun r y => g (.ref k) y) hb I (Nat.le_refl _) fun y S2 s2 e I2 k2 q2 => ?_
  obtain ⟨_, _, o, ho, hp⟩ := own_at I2 hi
  exact hg I2 (hp.rv0 ho) q2
theorem re_neO {i k : Nat} {f : ε → U} {b : Env' → M D} {pb : PM ε U} (hi : ∀ s, lk (G s) i = .own k (ao (f s))) (hb : RX G b pb) : RX G (m2 neM (mVar i) b) (bnd pb fun y s => neP (f s) y s) := re_O1 (fun I h1 h2 => ne_sm I h1 h2) hi hb
theorem RvO.ls {X : List Nat} {S : Store} {k : Nat} {o : O} {v : U} {xs : List U} (h : RvO X S o v) (ho : S[k]? = some o) (e : lstV v = some xs) : ∃ ds, o = .lst ds ∧ lsAt S k = some ds ∧ All2 (Rv X S) ds xs := by
  cases h with
  | exn => first | trivial | cases e | cases e1 | simp [lstV] at e | simp at e | cases hl | (exfalso; simp_all)
  | lst h => simp [lstV] at e; subst e; exact ⟨_, rfl, ls_lst ho, h.a2⟩
  | dk h => simp [lstV] at e
def keyU : U → Option Key
  | .int i => some (.inl i)
  | .str x => some (.inr x)
  | _ => none
theorem Rv.key {X : List Nat} {S : Store} {d : D} {v : U} {k : Key} (h : Rv X S d v) (e : keyU v = some k) : keyD d = some k := by
  cases h <;> simp [keyU] at e <;> subst e <;> rfl
def dkO' : U → Option (List (Key × U))
  | .dk kv => some kv
  | _ => none
def dkP (x e : U) (k : Option U → PM ε γ) : PM ε γ := match dkO' x, keyU e with
  | some kv, some y => k (valG kv y)
  | _, _ => pbad
theorem All2.val {κ : Type} [DecidableEq κ] {R : α → β → Prop} : ∀ {xs : List (κ × α)} {ys : List (κ × β)} {y : κ}, All2 (fun a b => a.1 = b.1 ∧ R a.2 b.2) xs ys → (valG xs y = none ∧ valG ys y = none) ∨ ∃ a b, valG xs y = some a ∧ valG ys y = some b ∧ R a b
  | [], [], y, _ => .inl ⟨rfl, rfl⟩
  | (k, a) :: xs, (k', b) :: ys, y, .cons ⟨h1, h2⟩ t => by
    simp only at h1 h2
    subst h1
    rw [valG_cons, valG_cons]
    by_cases e : k = y
    · simp only [e, if_true]; exact .inr ⟨_, _, rfl, rfl, h2⟩
    · simp only [e, if_false]; exact All2.val t
theorem ask_sm {c : Fx} {X X1 : List Nat} {n : Nat} {S : Store} {r : Env'} {s : ε} {j : Nat} {d : D} {y v : U} {o : O} {K : Option D → M D} {q : Option U → PM ε γ} {B : γ → Nat → Fx → List Nat → Store → Env' → Ctx → D → Prop} (hj : S[j]? = some o) (hp : RvO X S o v) (hy : Rv X1 S d y)
    (h0 : Sm c X n S r G B (K none S) (q none s)) (h1 : ∀ d x, Rv X S d x → Sm c X n S r G B (K (some d) S) (q (some x) s)) : Sm c X n S r G B (dAsk (.ref j) d K S) (dkP v y q s) := by
  unfold dAsk dkP
  cases hp with
  | exn => first | trivial | cases e | cases e1 | simp [lstV] at e | simp at e | cases hl | (exfalso; simp_all)
  | lst h => trivial
  | dk h =>
    simp only [dkO']
    cases e : keyU y with
    | none => trivial
    | some z =>
      simp only [D.asRef, hj, dkO_dK, hy.key e]
      rcases All2.val (R := Rv X S) (y := z) h.a2 with ⟨e1, e2⟩ | ⟨a, b, e1, e2, hr⟩
      · rw [e1, e2]; exact h0
      · rw [e1, e2]; exact h1 _ _ hr
theorem re_dinO {i k : Nat} {f : ε → U} {a : Env' → M D} {pa : PM ε U} (hi : ∀ s, lk (G s) i = .own k (ao (f s))) (ha : RX G a pa) : RX G (m2 dinM a (mVar i)) (bnd pa fun x s => dkP (f s) x (fun o => ret (U.bl o.isSome)) s) := by
  intro c X S r s I
  have e : m2 dinM a (mVar i) r S = mB (a r) (fun x S => dinM x (.ref k) S) S := by unfold m2 mB; rw [(own_at I hi).1]
  rw [e]
  refine re_bnd (h := fun r x S => dinM x (.ref k) S) ha I (Nat.le_refl _) fun y S2 s2 e I2 k2 q2 => ?_
  obtain ⟨_, _, o, ho, hp⟩ := own_at I2 hi
  exact ask_sm ho hp q2 (Sm.ok I2 (.bl _)) fun _ _ _ => Sm.ok I2 (.bl _)
theorem re_dnew : RF G dnewM (ret (U.dk [])) := fun c X S r s I => Sm.new I (Nat.le_refl _) (.dk .nil)

theorem All2.put {κ : Type} [DecidableEq κ] {R : α → β → Prop} {k : κ} {a : α} {b : β} (hab : R a b) {xs : List (κ × α)} {ys : List (κ × β)} (h : All2 (fun a b => a.1 = b.1 ∧ R a.2 b.2) xs ys) : All2 (fun a b => a.1 = b.1 ∧ R a.2 b.2) (putG xs k a) (putG ys k b) := by
  have e : (xs.any fun kv => decide (kv.1 = k)) = (ys.any fun kv => decide (kv.1 = k)) := by
    induction h with
    | nil => rfl
    | cons h _ ih => rw [List.any_cons, List.any_cons, ih, h.1]
  unfold putG
  rw [e]
  split
  · clear e
    rename_i h0; clear h0
    induction h with
    | nil => exact .nil
    | cons h _ ih =>
      refine .cons ?_ ih
      dsimp only
      rw [h.1]
      split
      · exact ⟨rfl, hab⟩
      · exact h
  · exact h.app (.cons ⟨rfl, hab⟩ .nil)
def sv : List U → Nat → Fx → List Nat → Store → Env' → Ctx → Src → Prop := fun vs _ _ X S _ _ src => ∃ ds, All2 (Rv X S) ds vs ∧ ∀ S', Kx X S S' → ∀ j, src j S' = some ds[j]?
def walkU (x : U) : PM ε (List U) := optP (seqU x)
theorem re_src {a : Env' → M D} {pa : PM ε U} (ha : RX G a pa) : RE G (mSrc a) (bnd pa fun x => walkU x) sv := by
  intro c X S r s I
  refine re_bnd (B := sv) (q := fun x => walkU x) (h := fun r d S => match d with | .tup xs => .ok (srcT xs) S | .ref k => (match lsAt S k with | some _ => .ok (srcL k) S | none => .bad) | _ => .bad) ha I (Nat.le_refl _) fun v S1 s1 d I1 k1 q1 => ?_
  unfold walkU optP
  cases q1 with
  | tup h => exact Sm.ok I1 ⟨_, h.a2, fun S' k' j => rfl⟩
  | lst hx hk h =>
    simp only [ls_lst hk]
    refine Sm.ok I1 ⟨_, h.a2, fun S' k' j => ?_⟩
    unfold srcL
    rw [ls_lst (k'.2 _ _ hx hk)]
  | fz hx hk h =>
    simp only [ls_fro hk]
    refine Sm.ok I1 ⟨_, h.a2, fun S' k' j => ?_⟩
    unfold srcL
    rw [ls_fro (k'.2 _ _ hx hk)]
  | _ => trivial
def rngP (x y : U) : PM ε (List U) := fun s => match x, y with | .int i, .int j => if okR i ∧ okR j then .ok (rgU i j) s else .bad | _, _ => .bad
def rng1P (y : U) : PM ε (List U) := fun s => match y with | .int j => if okR j then .ok (rgU 0 j) s else .bad | _ => .bad
theorem srcR_sv {c : Fx} {r : Env'} {g : Ctx} {X : List Nat} {S : Store} {n : Nat} {i j : Int} {m : Nat} (hm : m = (j - i).toNat) : sv (rgU i j) n c X S r g (srcR i m) := by
  subst hm
  refine ⟨rgD i j, rg_rv, fun S' _ k => ?_⟩
  unfold srcR rgD
  by_cases h : k < (j - i).toNat
  · rw [if_pos h, List.getElem?_map, List.getElem?_range h]; rfl
  · rw [if_neg h, List.getElem?_eq_none (by simp; omega)]
theorem re_rng1 {ms : Env' → M (List D)} {p : PM ε (List U)} (h : RJ G ms (fun ds S => match ds with | [.int j] => if okR j then .ok (srcR 0 j.toNat) S else .bad | _ => .bad) [] p sv) : RE G (mRng1 ms) p sv := fun c X S r s I => h c X S.length S r s [] (Nat.le_refl _) I .nil
theorem rz_rng1 {y : U} : RZ G (fun ds S => match ds with | [.int j] => if okR j then .ok (srcR 0 j.toNat) S else .bad | _ => .bad) [ag y] (rng1P y) sv := fun c X n S r s ds hn I ql => by
  match ds, ql with
  | _, .cons h .nil =>
    have h : Rv X S _ y := h
    unfold rng1P
    cases h with
    | int j => dsimp only; split; (· exact Sm.ok I (srcR_sv (by simp))); (· trivial)
    | _ => trivial
def enumG : Nat → List U → List U
  | _, [] => []
  | n, x :: xs => U.tup [.int (n : Nat), x] :: enumG (n + 1) xs
def seqV : U → Option (List U)
  | .tup xs => some xs
  | x => lstV x
def enumP (x : U) : PM ε (List U) := optP ((seqV x).map (enumG 0))
def zipP (x y : U) : PM ε (List U) := match x, y with
  | .lst xs, .lst ys => ret (List.zipWith (fun x y => U.tup [x, y]) xs ys)
  | .tup xs, .tup ys => ret (List.zipWith (fun x y => U.tup [x, y]) xs ys)
  | _, _ => pbad
theorem isLs_rv {X : List Nat} {S : Store} {d : D} {v : U} {xs : List U} (h : Rv X S d v) (e : lstV v = some xs) : isLs d S = true := by
  obtain ⟨k, ds, rfl, h1, _⟩ := h.ls e
  unfold isLs; simp only [D.asRef, h1]; rfl
def lookP (v : U) (p : PM ε α) : PM ε α := match lstV v with | some _ => p | none => pbad
theorem re_look {f : D → List D → M D} {q : U → U → PM ε U} {a x : Env' → M D} {pa px : PM ε U} (ha : RX G a pa) (hx : RX G x px) (hf : ∀ {c X n S r s v y d e}, Inv c X S r (G s) → Rv X S d v → Rv X S e y → Sm c X n S r G cl (f d [e] S) (q v y s)) :
    RX G (mML f a (mCons x mNil)) (bnd pa fun v => lookP v (bnd px fun y => q v y)) := by
  intro c X S r s I
  refine re_bnd (h := fun r d S => if isLs d S = true then mB (mCons x mNil r) (fun xs => f d xs) S else .bad) ha I (Nat.le_refl _) fun v S1 s1 d I1 k1 q1 => ?_
  unfold lookP
  cases e1 : lstV v with
  | none => trivial
  | some xs =>
    rw [if_pos (isLs_rv q1 e1)]
    have e : mB (mCons x mNil r) (fun xs => f d xs) = mB (x r) (fun x => f d [x]) := by
      funext S; unfold mCons mB mP mNil
      cases x r S <;> rfl
    rw [e]
    exact re_bnd (h := fun r x => f d [x]) hx I1 k1.1 fun b S2 s2 u I2 k2 q2 => hf I2 (q1.mono k2) q2
end
end Pv
end CK
end

section
set_option Elab.async false
set_option linter.all false
set_option maxRecDepth 100000
set_option maxHeartbeats 4000000
namespace CK
namespace Pv
open PySem PySem.Spec PyProof.Rows L2
section
variable {ε α β γ δ δ' σ τ l ρ : Type} {G : ε → Ctx}
theorem beq_ne {i j : Nat} (h : i ≠ j) : Nat.beq i j = false := by cases e : Nat.beq i j with | false => rfl | true => exact absurd (Nat.eq_of_beq_eq_true e) h
theorem lk_same {i : Nat} {e : Ent} {G : Ctx} : lk ((i, e) :: G) i = e := by simp [lk, Nat.beq_refl]
theorem lk_ne {i j : Nat} {e : Ent} {G : Ctx} (h : i ≠ j) : lk ((j, e) :: G) i = lk G i := by simp [lk, beq_ne h]
theorem set_same {r : Env'} {i : Nat} {d : Option D} (h : i < r.length) : (r.set i d)[i]? = some d := List.getElem?_set_self h
theorem set_ne {r : Env'} {i j : Nat} {d : Option D} (h : i ≠ j) : (r.set i d)[j]? = r[j]? := List.getElem?_set_ne h
theorem Inv.set {c : Fx} {X : List Nat} {S : Store} {r : Env'} {G : Ctx} {i : Nat} {a : Ag} {d : D} (I : Inv c X S r G) (hi : i < r.length) (h : a.p X S d) : Inv c X S (r.set i (some d)) ((i, .val a) :: G) where
  kp := I.kp
  xb := I.xb
  x0 := I.x0
  w0 := I.w0
  hd := I.hd
  val := fun j b hj => by
    by_cases e : j = i
    · subst e; rw [lk_same] at hj; cases hj; exact ⟨d, set_same hi, h⟩
    · rw [lk_ne e] at hj; obtain ⟨d', h1, h2⟩ := I.val j b hj; exact ⟨d', by rw [set_ne (Ne.symm e)]; exact h1, h2⟩
  own := fun j k b hj => by
    by_cases e : j = i
    · subst e; rw [lk_same] at hj; cases hj
    · rw [lk_ne e] at hj; rw [set_ne (Ne.symm e)]; exact I.own j k b hj
  dist := fun j j' k a b hj hj' => by
    by_cases e : j = i
    · subst e; rw [lk_same] at hj; cases hj
    · by_cases e' : j' = i
      · subst e'; rw [lk_same] at hj'; cases hj'
      · rw [lk_ne e] at hj; rw [lk_ne e'] at hj'; exact I.dist _ _ _ _ _ hj hj'
  len := fun j n hj => by
    rw [List.length_set]
    by_cases e : j = i
    · subst e; rw [lk_same] at hj; cases hj
    · rw [lk_ne e] at hj; exact I.len j n hj
  dp := fun j fp v hj => by
    by_cases e : j = i
    · subst e; rw [lk_same] at hj; cases hj
    · rw [lk_ne e] at hj; rw [set_ne (Ne.symm e)]; exact I.dp j fp v hj
  dpo := fun j j' fp v k a hj hj' => by
    by_cases e : j = i
    · subst e; rw [lk_same] at hj; cases hj
    · by_cases e' : j' = i
      · subst e'; rw [lk_same] at hj'; cases hj'
      · rw [lk_ne e] at hj; rw [lk_ne e'] at hj'; exact I.dpo _ _ _ _ _ _ hj hj'
  dpd := fun j j' fp v fq w hj hj' => by
    by_cases e : j = i
    · subst e; rw [lk_same] at hj; cases hj
    · by_cases e' : j' = i
      · subst e'; rw [lk_same] at hj'; cases hj'
      · rw [lk_ne e] at hj; rw [lk_ne e'] at hj'; exact I.dpd _ _ _ _ _ _ hj hj'

def Sub (H G : Ctx) : Prop := ∀ i e, lk H i = e → e = .no ∨ lk G i = e
theorem sub_nil {G : Ctx} : Sub [] G := fun i e h => .inl h.symm
theorem sub_cons {H G : Ctx} {i : Nat} {e : Ent} (h : lk G i = e) (t : Sub H G) : Sub ((i, e) :: H) G := fun j e' he => by
  by_cases hj : j = i
  · subst hj; rw [lk_same] at he; subst he; exact .inr h
  · rw [lk_ne hj] at he; exact t j e' he
theorem Inv.sub {c : Fx} {X : List Nat} {S : Store} {r : Env'} {G H : Ctx} (I : Inv c X S r G) (h : Sub H G) : Inv c X S r H where
  kp := I.kp
  xb := I.xb
  x0 := I.x0
  w0 := I.w0
  hd := I.hd
  val := fun j b hj => by rcases h j _ hj with e | e; (· cases e); (· exact I.val j b e)
  own := fun j k b hj => by rcases h j _ hj with e | e; (· cases e); (· exact I.own j k b e)
  dist := fun j j' k a b hj hj' => by rcases h j _ hj with e | e; (· cases e); (rcases h j' _ hj' with e' | e'; (· cases e'); (· exact I.dist _ _ _ _ _ e e'))
  len := fun j n hj => by rcases h j _ hj with e | e; (· cases e); (· exact I.len j n e)
  dp := fun j fp v hj => by rcases h j _ hj with e | e; (· cases e); (· exact I.dp j fp v e)
  dpo := fun j j' fp v k a hj hj' => by rcases h j _ hj with e | e; (· cases e); (rcases h j' _ hj' with e' | e'; (· cases e'); (· exact I.dpo _ _ _ _ _ _ e e'))
  dpd := fun j j' fp v fq w hj hj' => by rcases h j _ hj with e | e; (· cases e); (rcases h j' _ hj' with e' | e'; (· cases e'); (· exact I.dpd _ _ _ _ _ _ e e'))
abbrev KL : Nat := 1000000
def lnOk (G : Ctx) (i : Nat) : Bool := match lk G KL with | .ln n => Nat.blt i n | _ => false
theorem Inv.lt {c : Fx} {X : List Nat} {S : Store} {r : Env'} {G : Ctx} {i : Nat} (I : Inv c X S r G) (h : lnOk G i = true) : i < r.length := by
  unfold lnOk at h
  cases e : lk G KL with
  | ln n => rw [e] at h; exact Nat.lt_of_lt_of_le (Nat.le_of_ble_eq_true h) (Nat.le_of_eq (I.len _ _ e))
  | _ => rw [e] at h; cases h

structure RG (vs : List Nat) (g : TgM) (a : Ag) (t : Option τ) (N : τ → Ctx) : Prop where
  go : ∀ c X S r G d v, (∀ j ∈ vs, j < r.length) → Inv c X S r G → a.p X S d → t = some v → ∃ r', g d r S = .ok r' S ∧ Inv c X S r' (N v ++ G) ∧ (∀ j, j ∉ vs → r'[j]? = r[j]?) ∧ r'.length = r.length
  el : ∀ v G j, j ∉ vs → lk (N v ++ G) j = lk G j
theorem rg_nm {i : Nat} {a : Ag} : RG [i] (gNm i) a (some ()) (fun _ => [(i, .val a)]) where
  go := fun c X S r G d v hl I h _ => ⟨_, rfl, I.set (hl i (by simp)) h, fun j hj => set_ne (fun e => hj (by simp [e])), by simp⟩
  el := fun v G j hj => lk_ne (by simpa using hj)
def asT2 (d : U) : Option (U × U) := match d with | .tup [x, y] => some (x, y) | _ => none
def asT3 (d : U) : Option (U × U × U) := match d with | .tup [x, y, z] => some (x, y, z) | _ => none
def asT4 (d : U) : Option (U × U × U × U) := match d with | .tup [x, y, z, u] => some (x, y, z, u) | _ => none
def asT5 (d : U) : Option (U × U × U × U × U) := match d with | .tup [x, y, z, u, w] => some (x, y, z, u, w) | _ => none
theorem Rv.t2 {X : List Nat} {S : Store} {d : D} {x : U} {v : U × U} (h : Rv X S d x) (e : asT2 x = some v) : ∃ a b, d = .tup [a, b] ∧ Rv X S a v.1 ∧ Rv X S b v.2 := by
  unfold asT2 at e
  split at e <;> cases e
  cases h with
  | tup h => cases h with | cons h1 t => cases t with | cons h2 t => cases t; exact ⟨_, _, rfl, h1, h2⟩
theorem Rv.t3 {X : List Nat} {S : Store} {d : D} {x : U} {v : U × U × U} (h : Rv X S d x) (e : asT3 x = some v) : ∃ a b c, d = .tup [a, b, c] ∧ Rv X S a v.1 ∧ Rv X S b v.2.1 ∧ Rv X S c v.2.2 := by
  unfold asT3 at e
  split at e <;> cases e
  cases h with
  | tup h => cases h with | cons h1 t => cases t with | cons h2 t => cases t with | cons h3 t => cases t; exact ⟨_, _, _, rfl, h1, h2, h3⟩
def asS2 (d : U) : Option (U × U) := match d with | .tup [x, y] => some (x, y) | .lst [x, y] => some (x, y) | _ => none
def allNo (G : Ctx) : List Nat → Prop
  | [] => True
  | v :: vs => lk G v = .no ∧ lnOk G v = true ∧ allNo G vs
theorem allNo.at {G : Ctx} : ∀ {vs : List Nat} {j : Nat}, allNo G vs → j ∈ vs → lk G j = .no ∧ lnOk G j = true
  | _ :: _, _, h, .head _ => ⟨h.1, h.2.1⟩
  | _ :: _, _, h, .tail _ t => allNo.at h.2.2 t
theorem wipe_len {r : Env'} : ∀ {vs : List Nat}, (wipeE r vs).length = r.length
  | [] => rfl
  | v :: vs => by unfold wipeE; rw [List.length_set, wipe_len]
theorem wipe_at {r : Env'} {j : Nat} : ∀ {vs : List Nat}, j ∉ vs → (wipeE r vs)[j]? = r[j]?
  | [], _ => rfl
  | v :: vs, h => by
    unfold wipeE
    rw [set_ne (fun e => h (by simp [e])), wipe_at (fun h' => h (List.mem_cons_of_mem _ h'))]
theorem Inv.env {c : Fx} {X : List Nat} {S : Store} {r r' : Env'} {G G' : Ctx} (I : Inv c X S r G) (hl : r'.length = r.length) (h : ∀ j, lk G' j ≠ .no → lk G j = lk G' j ∧ r'[j]? = r[j]?) : Inv c X S r' G' where
  kp := I.kp
  xb := I.xb
  x0 := I.x0
  w0 := I.w0
  hd := I.hd
  val := fun j b hj => by have := h j (by rw [hj]; simp); rw [hj] at this; rw [this.2]; exact I.val j b this.1
  own := fun j k b hj => by have := h j (by rw [hj]; simp); rw [hj] at this; rw [this.2]; exact I.own j k b this.1
  dist := fun j j' k a b hj hj' => by
    have h1 := h j (by rw [hj]; simp); rw [hj] at h1
    have h2 := h j' (by rw [hj']; simp); rw [hj'] at h2
    exact I.dist _ _ _ _ _ h1.1 h2.1
  len := fun j n hj => by have := h j (by rw [hj]; simp); rw [hj] at this; rw [hl]; exact I.len j n this.1
  dp := fun j fp v hj => by have := h j (by rw [hj]; simp); rw [hj] at this; rw [this.2]; exact I.dp j fp v this.1
  dpo := fun j j' fp v k a hj hj' => by
    have h1 := h j (by rw [hj]; simp); rw [hj] at h1
    have h2 := h j' (by rw [hj']; simp); rw [hj'] at h2
    exact I.dpo _ _ _ _ _ _ h1.1 h2.1
  dpd := fun j j' fp v fq w hj hj' => by
    have h1 := h j (by rw [hj]; simp); rw [hj] at h1
    have h2 := h j' (by rw [hj']; simp); rw [hj'] at h2
    exact I.dpd _ _ _ _ _ _ h1.1 h2.1
def Fx.held (c : Fx) (p : Nat) (o : O) : Fx := { c with hold := (p, o) :: c.hold }
theorem Inv.hold {c : Fx} {X : List Nat} {S : Store} {r : Env'} {G : Ctx} {o : O} (I : Inv c X S r G) : Inv (c.held S.length o) (S.length :: X) (S ++ [o]) r G := by
  have J := I.grow (S' := S ++ [o]) Kx.app
  have hm : Xm X (S.length :: X) S.length := fun k hk => (List.mem_cons.mp hk).elim (fun e => .inr (by omega)) .inl
  refine ⟨J.kp, fun k hk => ?_, fun k hk => List.mem_cons_of_mem _ (J.x0 k hk), J.w0, fun k u h => ?_, fun i a h => ?_, fun i k a h => ?_, J.dist, J.len, fun i fp v h => ?_, J.dpo, J.dpd⟩
  · rcases List.mem_cons.mp hk with rfl | hk
    · simp
    · exact J.xb k hk
  · rcases List.mem_cons.mp h with h | h
    · cases h; exact ⟨List.mem_cons_self, .inr I.kp.1, by simp⟩
    · exact ⟨List.mem_cons_of_mem _ (J.hd k u h).1, (J.hd k u h).2⟩
  · obtain ⟨d, h1, h2⟩ := I.val i a h
    exact ⟨d, h1, Ag.step (a := a) h2 Kx.app hm⟩
  · obtain ⟨e, h1, h2, h3, u, h4, h5⟩ := I.own i k a h
    refine ⟨e, List.mem_cons_of_mem _ h1, h2, fun w hw => ?_, u, by rw [List.getElem?_append_left (get_lt' h4)]; exact h4, Ao.step (a := a) h5 Kx.app hm⟩
    rcases List.mem_cons.mp hw with hw | hw
    · cases hw; have := I.xb _ h1; omega
    · exact h3 w hw
  · obtain ⟨d, e, t, q⟩ := I.dp i fp v h
    refine ⟨d, e, (t.more hm).mono ⟨Kx.app, fun j _ u hu => by rw [List.getElem?_append_left (get_lt' hu)]; exact hu⟩, fun j hj => ⟨List.mem_cons_of_mem _ (q j hj).1, (q j hj).2.1, fun u hu => ?_⟩⟩
    rcases List.mem_cons.mp hu with hu | hu
    · cases hu; have := I.xb _ (q _ hj).1; omega
    · exact (q j hj).2.2 u hu
theorem Inv.reheld {c : Fx} {X : List Nat} {S : Store} {r : Env'} {G : Ctx} {p : Nat} {o o' : O} (I : Inv (c.held p o) X S r G) (hp : ∀ u, (p, u) ∉ c.hold) : Inv (c.held p o') X (S.set p o') r G := by
  obtain ⟨px, pn, po⟩ := I.hd p o List.mem_cons_self
  have pl := get_lt' po
  have kx : Kx [p] S (S.set p o') := ⟨by simp, fun j u hj e => by rw [List.getElem?_set_ne (fun h => hj (by simp [h]))]; exact e⟩
  have kX : Kx X S (S.set p o') := kx.more fun j hj => by rw [List.mem_singleton] at hj; subst hj; exact .inl px
  refine ⟨?_, fun k hk => by rw [List.length_set]; exact I.xb k hk, I.x0, I.w0, fun k u h => ?_, fun i a h => ?_, fun i k a h => ?_, I.dist, I.len, fun i fp v h => ?_, I.dpo, I.dpd⟩
  · refine ⟨by rw [List.length_set]; exact I.kp.1, fun j u hj e => ?_⟩
    have hjp : p ≠ j := fun e' => by subst e'; exact pn.elim hj fun pn => by have := get_lt' e; exact absurd (Nat.lt_of_lt_of_le this pn) (Nat.lt_irrefl _)
    rw [List.getElem?_set_ne hjp]; exact I.kp.2 j u hj e
  · rcases List.mem_cons.mp h with h | h
    · cases h; exact ⟨px, pn, by rw [List.getElem?_set_self pl]⟩
    · have := I.hd k u (List.mem_cons_of_mem _ h)
      exact ⟨this.1, this.2.1, by rw [List.getElem?_set_ne (fun e => by subst e; exact hp _ h)]; exact this.2.2⟩
  · obtain ⟨d, h1, h2⟩ := I.val i a h
    exact ⟨d, h1, a.mono h2 kX⟩
  · obtain ⟨e, h1, h2, h3, u, h4, h5⟩ := I.own i k a h
    have hk : k ≠ p := fun e => h3 o (by rw [e]; exact List.mem_cons_self)
    exact ⟨e, h1, h2, fun w hw => (List.mem_cons.mp hw).elim (fun q => by cases q; exact hk rfl) (fun q => h3 w (List.mem_cons_of_mem _ q)), u, kx.2 k u (by simpa using hk) h4, a.mono h5 kX⟩
  · obtain ⟨d, e, t, q⟩ := I.dp i fp v h
    have hk : ∀ k ∈ fp, k ≠ p := fun k hk e => (q k hk).2.2 o (by rw [e]; exact List.mem_cons_self)
    exact ⟨d, e, t.mono ⟨kX, fun j hj u hu => kx.2 j u (by simpa using hk j hj) hu⟩, fun j hj => ⟨(q j hj).1, (q j hj).2.1, fun w hw => (List.mem_cons.mp hw).elim (fun z => by cases z; exact hk _ hj rfl) (fun z => (q j hj).2.2 w (List.mem_cons_of_mem _ z))⟩⟩
theorem Inv.unhold {c : Fx} {X : List Nat} {S : Store} {r : Env'} {G : Ctx} {p : Nat} {o : O} (I : Inv (c.held p o) (p :: X) S r G) (hp : ∀ u, (p, u) ∉ c.hold) (hx : ∀ k ∈ c.X0, k ≠ p) : Inv c X S r G := by
  have hm : Xm (p :: X) X S.length := fun k hk => .inl (List.mem_cons_of_mem _ hk)
  refine ⟨I.kp, fun k hk => I.xb k (List.mem_cons_of_mem _ hk), fun k hk => (List.mem_cons.mp (I.x0 k hk)).resolve_left (hx k hk), I.w0, fun k u h => ?_, fun i a h => ?_, fun i k a h => ?_, I.dist, I.len, fun i fp v h => ?_, I.dpo, I.dpd⟩
  · have := I.hd k u (List.mem_cons_of_mem _ h)
    exact ⟨(List.mem_cons.mp this.1).resolve_left fun e => hp u (by rw [← e]; exact h), this.2⟩
  · obtain ⟨d, h1, h2⟩ := I.val i a h
    exact ⟨d, h1, a.more h2 hm⟩
  · obtain ⟨e, h1, h2, h3, u, h4, h5⟩ := I.own i k a h
    refine ⟨e, (List.mem_cons.mp h1).resolve_left fun e => h3 o (by rw [e]; exact List.mem_cons_self), h2, fun w hw => h3 w (List.mem_cons_of_mem _ hw), u, h4, a.more h5 hm⟩
  · obtain ⟨d, e, t, q⟩ := I.dp i fp v h
    exact ⟨d, e, t.more hm, fun j hj => ⟨(List.mem_cons.mp (q j hj).1).resolve_left fun e => (q j hj).2.2 o (by rw [e]; exact List.mem_cons_self), (q j hj).2.1, fun w hw => (q j hj).2.2 w (List.mem_cons_of_mem _ hw)⟩⟩

theorem Inv.drop {c : Fx} {X : List Nat} {S : Store} {r : Env'} {G : Ctx} {p : Nat} {o : O} (I : Inv (c.held p o) X S r G) : Inv c X S r G :=
  ⟨I.kp, I.xb, I.x0, I.w0, fun k o h => I.hd k o (List.mem_cons_of_mem _ h), I.val, fun i k a h => let ⟨e1, e2, e3, e4, e5⟩ := I.own i k a h; ⟨e1, e2, e3, fun o ho => e4 o (List.mem_cons_of_mem _ ho), e5⟩, I.dist, I.len,
    fun i fp v h => let ⟨d, e, t, q⟩ := I.dp i fp v h; ⟨d, e, t, fun k hk => ⟨(q k hk).1, (q k hk).2.1, fun o ho => (q k hk).2.2 o (List.mem_cons_of_mem _ ho)⟩⟩, I.dpo, I.dpd⟩
theorem re_yes : RT G mYes (ret true) := fun c X S r s I => Sm.ok I rfl
def lcF (t : U → Option τ) (pt : U → τ → PM ε Bool) (pe : U → τ → PM ε U) : U → PM ε (Option U) := fun x => bnd (optP (t x)) fun v => bnd (pt x v) fun b => if b = true then bnd (pe x v) fun y => ret (some y) else ret none
theorem lcG_none {F : α → PM ε (Option β)} {w : α} {ws : List α} {s s1 : ε} (h : F w s = .ok none s1) : lcG F (w :: ws) s = lcG F ws s1 := by
  rw [lcG]; unfold bnd nox; rw [h]; dsimp only; cases lcG F ws s1 <;> rfl
theorem lcG_some {F : α → PM ε (Option β)} {w : α} {y : β} {ws : List α} {s s1 : ε} (h : F w s = .ok (some y) s1) : lcG F (w :: ws) s = bnd (lcG F ws) (fun ys => ret (y :: ys)) s1 := by
  rw [lcG]; unfold bnd nox; rw [h]
theorem lcG_bad {F : α → PM ε (Option β)} {w : α} {ws : List α} {s : ε} (h : ∀ o s', F w s ≠ .ok o s') : lcG F (w :: ws) s = .bad := by
  rw [lcG]; unfold bnd nox
  cases e : F w s with
  | ok o s' => exact absurd e (h o s')
  | ex _ _ _ => rfl
  | bad => rfl
theorem lc_go {g : TgM} {mt : Env' → M Bool} {me : Env' → M D} {vs : List Nat} {t : U → Option τ} {N : U → τ → Ctx} {pt : U → τ → PM ε Bool} {pe : U → τ → PM ε U} (hv : ∀ s, allNo (G s) vs)
    (hg : ∀ x, RG vs g (ag x) (t x) (N x)) (ht : ∀ x v, RT (fun s => N x v ++ G s) mt (pt x v)) (he : ∀ x v, RX (fun s => N x v ++ G s) me (pe x v)) {c : Fx} {p : Nat} {X : List Nat} {src : Src} {r : Env'} (hph : ∀ u, (p, u) ∉ c.hold) (hpx : p ∉ X) :
    ∀ (ws : List U) (es : List D) (i n : Nat) (S : Store) (acc : List D) (av : List U) (s : ε), ws.length < n → acc.length + ws.length < sizeLine →
      Inv (c.held p (.lst acc)) (p :: X) S r (G s) → All2 (Rv (p :: X) S) es ws → All2 (Rv (p :: X) S) acc av → (∀ S', Kx (p :: X) S S' → (∀ k o, (k, o) ∈ c.hold → S'[k]? = some o) → ∀ j, src (i + j) S' = some es[j]?) →
      match lcG (lcF t pt pe) ws s with
      | .ok ys s' => ∃ S' acc', lcGo src g mt me p r n i S = .ok () S' ∧ Inv (c.held p (.lst acc')) (p :: X) S' r (G s') ∧ Kx (p :: X) S S' ∧ All2 (Rv (p :: X) S') acc' (av ++ ys)
      | .ex _ _ _ => False
      | .bad => True
  | [], es, i, n, S, acc, av, s, hn, hl, I, ha, hc, hs => by
    cases ha
    obtain ⟨n, rfl⟩ : ∃ m, n = m + 1 := ⟨n - 1, by simp at hn; omega⟩
    refine ⟨S, acc, ?_, I, Kx.refl, by rw [List.append_nil]; exact hc⟩
    unfold lcGo
    have := hs S Kx.refl (fun k o h => (I.hd k o (List.mem_cons_of_mem _ h)).2.2) 0
    rw [Nat.add_zero] at this
    rw [this]
    rfl
  | w :: ws, es, i, n, S, acc, av, s, hn, hl, I, ha, hc, hs => by
    cases ha with
    | cons hd hds =>
    rename_i d ds
    obtain ⟨n, rfl⟩ : ∃ m, n = m + 1 := ⟨n - 1, by simp at hn; omega⟩
    have hsr := hs S Kx.refl (fun k o h => (I.hd k o (List.mem_cons_of_mem _ h)).2.2) 0
    rw [Nat.add_zero] at hsr
    have hsr : src i S = some (some d) := hsr
    unfold lcGo
    rw [hsr]
    dsimp only
    have hlt : ∀ j ∈ vs, j < r.length := fun j hj => I.lt ((hv s).at hj).2
    cases etx : t w with
    | none => rw [lcG_bad (by intro o s' h; unfold lcF bnd optP at h; simp [etx] at h)]; trivial
    | some v =>
    obtain ⟨r1, e1, I1, hr1, hl1⟩ := (hg w).go _ _ S r _ d v hlt I hd etx
    rw [e1]
    dsimp only
    have T := ht w v _ _ S r1 s I1
    have back : ∀ {X' S' s'} {u : O}, Inv (c.held p u) X' S' r1 (N w v ++ G s') → Inv (c.held p u) X' S' r (G s') := fun J => J.env hl1.symm fun j hj => by
      have hjv : j ∉ vs := fun h => hj ((hv _).at h).1
      exact ⟨(hg w).el v _ j hjv, (hr1 j hjv).symm⟩
    have eF : lcF t pt pe w s = bnd (pt w v) (fun b => if b = true then bnd (pe w v) fun y => ret (some y) else ret none) s := by unfold lcF optP; rw [etx]; rfl
    cases et : pt w v s with
    | bad => rw [lcG_bad (by intro o s' h; rw [eF] at h; simp [bnd, et] at h)]; trivial
    | ex _ _ _ => rw [lcG_bad (by intro o s' h; rw [eF] at h; simp [bnd, et] at h)]; trivial
    | ok b s1 =>
    rw [et] at T
    obtain ⟨b', S1, m1, I2, k1, rfl⟩ := T
    rw [m1]
    dsimp only
    cases b' with
    | false =>
      rw [lcG_none (s1 := s1) (by rw [eF]; simp [bnd, et, ret])]
      simp only [Bool.false_eq_true, if_false]
      have step := lc_go hv hg ht he hph hpx ws ds (i + 1) n S1 acc av s1 (by simp at hn; omega) (by simp at hl; omega) (back I2) (hds.imp fun _ _ q => q.mono k1) (hc.imp fun _ _ q => q.mono k1)
        (fun S' k' hh j => by have := hs S' (k1.trans k') hh (j + 1); rw [show i + (j + 1) = i + 1 + j by omega] at this; exact this)
      cases el : lcG (lcF t pt pe) ws s1 with
      | bad => trivial
      | ex _ _ _ => rw [el] at step; exact step.elim
      | ok ys s2 =>
        rw [el] at step
        obtain ⟨S', acc', q1, q2, q3, q4⟩ := step
        exact ⟨S', acc', q1, q2, k1.trans q3, q4⟩
    | true =>
      simp only [if_true]
      have Y := he w v _ _ S1 r1 s1 I2
      cases ey : pe w v s1 with
      | bad => rw [lcG_bad (by intro o s' h; rw [eF] at h; simp [bnd, et, ey] at h)]; trivial
      | ex _ _ _ => rw [lcG_bad (by intro o s' h; rw [eF] at h; simp [bnd, et, ey] at h)]; trivial
      | ok y s2 =>
      rw [ey] at Y
      obtain ⟨dy, S2, m2, I3, k2, hy⟩ := Y
      rw [lcG_some (y := y) (s1 := s2) (by rw [eF]; simp [bnd, et, ey, ret])]
      rw [m2]
      dsimp only
      have I3' := back I3
      have hpS := (I3'.hd p _ List.mem_cons_self).2.2
      rw [hpS]
      dsimp only
      rw [if_pos (by simp at hl; omega)]
      have I4 := I3'.reheld (o' := .lst (acc ++ [dy])) hph
      have k3 : Kx (p :: X) S2 (S2.set p (.lst (acc ++ [dy]))) := ⟨by simp, fun j u hj e => by rw [List.getElem?_set_ne (fun h => hj (by simp [h]))]; exact e⟩
      have k12 := k1.trans k2
      have kk := k12.trans k3
      have step := lc_go hv hg ht he hph hpx ws ds (i + 1) n _ (acc ++ [dy]) (av ++ [y]) s2 (by simp at hn; omega) (by simp at hl ⊢; omega) I4 (hds.imp fun _ _ q => q.mono kk)
        ((hc.imp fun _ _ q => q.mono kk).app (.cons (hy.mono k3) .nil))
        (fun S' k' hh j => by have := hs S' (kk.trans k') hh (j + 1); rw [show i + (j + 1) = i + 1 + j by omega] at this; exact this)
      unfold bnd
      cases el : lcG (lcF t pt pe) ws s2 with
      | bad => trivial
      | ex _ _ _ => rw [el] at step; exact step.elim
      | ok ys s3 =>
        rw [el] at step
        obtain ⟨S', acc', q1, q2, q3, q4⟩ := step
        refine ⟨S', acc', q1, q2, kk.trans q3, ?_⟩
        rw [List.append_assoc] at q4
        exact q4
def lcU (xs : List U) (f : U → PM ε (Option U)) : PM ε U := bnd (lcP xs f) fun ys => ret (U.lst ys)

theorem lc_sm {g : TgM} {mt : Env' → M Bool} {me : Env' → M D} {vs : List Nat} {t : U → Option τ} {N : U → τ → Ctx} {pt : U → τ → PM ε Bool} {pe : U → τ → PM ε U}
    (hg : ∀ x, RG vs g (ag x) (t x) (N x)) (ht : ∀ x v, RT (fun s => N x v ++ G s) mt (pt x v)) (he : ∀ x v, RX (fun s => N x v ++ G s) me (pe x v)) (hv : ∀ s, allNo (G s) vs) {c : Fx} {X : List Nat} {n : Nat} {S1 : Store} {r : Env'} {s1 : ε} {src : Src} {xs : List U} {ds : List D} (I1 : Inv c X S1 r (G s1)) (hn : n ≤ S1.length)
    (hds : All2 (Rv X S1) ds xs) (hsrc : ∀ S', Kx X S1 S' → (∀ k o, (k, o) ∈ c.hold → S'[k]? = some o) → ∀ j, src j S' = some ds[j]?) :
    Sm c X n S1 r G frs (match lcGo src g mt me S1.length (wipeE r vs) FU 0 (S1 ++ [.lst []]) with | .ok _ S' => .ok (D.ref S1.length) S' | _ => .bad) (lcU xs (fun x => bnd (optP (t x)) fun v => bnd (pt x v) fun b => if b = true then bnd (pe x v) fun y => ret (some y) else ret none) s1) := by
  unfold lcU lcP
  by_cases hl : xs.length < sizeLine
  · rw [if_pos hl]
    have hm : Xm X (S1.length :: X) S1.length := fun k hk => (List.mem_cons.mp hk).elim (fun e => .inr (by omega)) .inl
    have I2 : Inv (c.held S1.length (.lst [])) (S1.length :: X) (S1 ++ [.lst []]) (wipeE r vs) (G s1) := (I1.hold (o := .lst [])).env wipe_len fun j hj => ⟨rfl, wipe_at fun h => hj ((hv s1).at h).1⟩
    have hph : ∀ u, (S1.length, u) ∉ c.hold := fun u h => by have := I1.xb _ (I1.hd _ _ h).1; omega
    have hpx : S1.length ∉ X := fun h => by have := I1.xb _ h; omega
    have L := lc_go hv hg ht he (c := c) (p := S1.length) (X := X) (src := src) (r := wipeE r vs) hph hpx xs ds 0 FU (S1 ++ [.lst []]) [] [] s1 (by rw [sizeLine_eq] at hl; unfold FU; omega) (by simpa using hl) I2
      (hds.imp fun _ v q => Ag.step (a := ag v) q Kx.app hm) .nil (fun S' k' hh j => by
        rw [Nat.zero_add]
        refine hsrc S' ⟨Nat.le_trans (by simp) k'.1, fun q o hq e => k'.2 q o (fun h => ?_) (by rw [List.getElem?_append_left (get_lt' e)]; exact e)⟩ hh j
        rcases List.mem_cons.mp h with rfl | h
        · have := get_lt' e; omega
        · exact hq h)
    show Sm c X _ S1 r G frs _ (bnd (lcG (lcF t pt pe) xs) (fun ys => ret (U.lst ys)) s1)
    unfold bnd
    cases el : lcG (lcF t pt pe) xs s1 with
    | bad => trivial
    | ex _ _ _ => rw [el] at L; exact L.elim
    | ok ys s2 =>
      rw [el] at L
      obtain ⟨S', acc', q1, q2, q3, q4⟩ := L
      rw [q1]
      have back : ∀ {c' X'}, Inv c' X' S' (wipeE r vs) (G s2) → Inv c' X' S' r (G s2) := fun J => J.env wipe_len.symm fun j hj => ⟨rfl, (wipe_at fun h => hj ((hv s2).at h).1).symm⟩
      have J := q2.unhold hph fun k hk e => by subst e; exact hpx (I1.x0 _ hk)
      have K : Kx X S1 S' := ⟨Nat.le_trans (by simp) q3.1, fun q o hq e => q3.2 q o (fun h => by
        rcases List.mem_cons.mp h with rfl | h
        · have := get_lt' e; omega
        · exact hq h) (by rw [List.getElem?_append_left (get_lt' e)]; exact e)⟩
      refine ⟨_, S', rfl, back J, K, S1.length, _, rfl, hn, hpx, (q2.hd _ _ List.mem_cons_self).2.2, .lst (RvL.of q4), back ?_⟩
      exact q2.drop
  · rw [if_neg hl]; trivial
theorem re_lc {ms : Env' → M Src} {ps : PM ε (List U)} {g : TgM} {mt : Env' → M Bool} {me : Env' → M D} {vs : List Nat} {t : U → Option τ} {N : U → τ → Ctx} {pt : U → τ → PM ε Bool} {pe : U → τ → PM ε U} (hs : RE G ms ps sv)
    (hg : ∀ x, RG vs g (ag x) (t x) (N x)) (ht : ∀ x v, RT (fun s => N x v ++ G s) mt (pt x v)) (he : ∀ x v, RX (fun s => N x v ++ G s) me (pe x v)) (hv : ∀ s, allNo (G s) vs) :
    RF G (mLc ms g mt me vs) (bnd ps fun xs => lcU xs fun x => bnd (optP (t x)) fun v => bnd (pt x v) fun b => if b = true then bnd (pe x v) fun y => ret (some y) else ret none) := by
  intro c X S r s I
  refine re_bnd (h := fun r src S => match lcGo src g mt me S.length (wipeE r vs) FU 0 (S ++ [.lst []]) with | .ok _ S' => .ok (D.ref S.length) S' | _ => .bad) hs I (Nat.le_refl _) fun xs S1 s1 src I1 k1 q1 => ?_
  obtain ⟨ds, hds, hsrc⟩ := q1
  exact lc_sm hg ht he hv I1 k1.1 hds fun S' k' _ => hsrc S' k'

end
end Pv
end CK
end

section
set_option Elab.async false
set_option linter.all false
set_option maxRecDepth 100000
set_option maxHeartbeats 4000000
namespace CK
namespace Pv
open PySem PySem.Spec PyProof.Rows L2
section
variable {ε α β γ δ δ' σ τ l ρ : Type} {G : ε → Ctx} {c : Fx}


structure Pz (ε σ l ρ : Type) where
  F : Prop
  N : σ → ε → Ctx → Prop
  B : l → ε → Ctx → Prop
  E : ε → Ctx
  R : ρ → ε → Store → D → Prop
def InvP (c : Fx) (X : List Nat) (S : Store) (r : Env') (P : Ctx → Prop) : Prop := ∃ Γ, P Γ ∧ Inv c X S r Γ

def ctN {K : Type} (ok : K → Prop) (C : K → σ → ε → Ctx) : σ → ε → Ctx → Prop := fun v s Γ => ∃ k, ok k ∧ Γ = C k v s

def eqN (C : σ → ε → Ctx) : σ → ε → Ctx → Prop := fun v s Γ => Γ = C v s
def Sq (c : Fx) (X : List Nat) (S : Store) (Z : Pz ε σ l ρ) (x : R Fl) : PR ε (Out σ l ρ) → Prop
  | .ok o s' => (match o with
    | .nx v => Z.F ∧ ∃ X' S' r', x = .ok (.nx r') S' ∧ InvP c X' S' r' (Z.N v s') ∧ Kx X S S' ∧ Xm X X' S.length
    | .rt v => ∃ S' d, x = .ok (.rt d) S' ∧ Z.R v s' S' d
    | .bk v => ∃ X' S' r', x = .ok (.bk r') S' ∧ InvP c X' S' r' (Z.B v s') ∧ Kx X S S' ∧ Xm X X' S.length
    | .ct v => ∃ X' S' r', x = .ok (.ct r') S' ∧ InvP c X' S' r' (Z.B v s') ∧ Kx X S S' ∧ Xm X X' S.length)
  | .ex n fs s' => ∃ X' S' r' e, x = .ok (.xc e r') S' ∧ Inv c X' S' r' (Z.E s') ∧ Kx X S S' ∧ Xm X X' S.length ∧ Xr X' S' e n fs
  | .bad => True
def RS (c : Fx) (G : ε → Ctx) (m : Env' → M Fl) (p : PM ε (Out σ l ρ)) (Z : Pz ε σ l ρ) : Prop := ∀ X S r s, Inv c X S r (G s) → Sq c X S Z (m r S) (p s)
theorem Sq.step {X X1 : List Nat} {S S1 : Store} {Z : Pz ε σ l ρ} {x : R Fl} {y : PR ε (Out σ l ρ)} (k : Kx X S S1) (m : Xm X X1 S.length) (h : Sq c X1 S1 Z x y) : Sq c X S Z x y := by
  cases y with
  | ok o s' =>
    cases o with
    | nx v => obtain ⟨hf, X', S', r', h1, h2, h3, h4⟩ := h; exact ⟨hf, X', S', r', h1, h2, k.step m h3, m.trans h4 k.1⟩
    | rt v => exact h
    | bk v => obtain ⟨X', S', r', h1, h2, h3, h4⟩ := h; exact ⟨X', S', r', h1, h2, k.step m h3, m.trans h4 k.1⟩
    | ct v => obtain ⟨X', S', r', h1, h2, h3, h4⟩ := h; exact ⟨X', S', r', h1, h2, k.step m h3, m.trans h4 k.1⟩
  | ex n fs s' => obtain ⟨X', S', r', e, h1, h2, h3, h4, h5⟩ := h; exact ⟨X', S', r', e, h1, h2, k.step m h3, m.trans h4 k.1, h5⟩
  | bad => trivial

theorem rs_stE {m : Env' → M δ} {h : δ → Env' → M Fl} {p : PM ε α} {A : α → Nat → Fx → List Nat → Store → Env' → Ctx → δ → Prop} {q : α → PM ε (Out σ l ρ)} {Z : Pz ε σ l ρ} (hm : RE G m p A) (hE : ∀ s, Sub (Z.E s) (G s))
    (hk : ∀ v X S1 n r s d, c.S0.length ≤ n → Inv c X S1 r (G s) → A v n c X S1 r (G s) d → Sq c X S1 Z (h d r S1) (q v s)) : RS c G (stE m h) (bnd p q) Z := by
  intro X S r s I
  have := hm c X S r s I
  unfold bnd stE
  cases e : p s with
  | ok v s' =>
    rw [e] at this
    obtain ⟨d, S', h1, h2, h3, h4⟩ := this
    rw [h1]
    exact Sq.step h3 Xm.refl (hk v X S' _ r s' d I.kp.1 h2 h4)
  | ex n fs s' =>
    rw [e] at this
    obtain ⟨d, S', h1, h2, h3, h4⟩ := this
    rw [h1]
    exact ⟨X, S', r, d, rfl, h2.sub (hE s'), h3, Xm.refl, h4⟩
  | bad => trivial
theorem rs_nx {Z : Pz ε σ l ρ} {v : σ} (h : ∀ s, ∃ Γ, Z.N v s Γ ∧ Sub Γ (G s)) (hf : Z.F) : RS c G mNx (ret (.nx v)) Z := fun X S r s I => let ⟨Γ, ha, hs⟩ := h s; ⟨hf, X, S, r, rfl, ⟨Γ, ha, I.sub hs⟩, Kx.refl, Xm.refl⟩
theorem seq_nx {m : Env' → M Fl} {r : Env'} {S S' : Store} {f : Fl} (h : mSeq m mNx r S = .ok f S') : m r S = .ok f S' := by
  unfold mSeq at h
  cases e : m r S with
  | ok g S1 => rw [e] at h; cases g <;> exact h
  | exc _ _ => rw [e] at h; cases h
  | bad => rw [e] at h; cases h
theorem rs_last {m : Env' → M Fl} {p : PM ε (Out σ l ρ)} {Z : Pz ε σ l ρ} (h : RS c G (mSeq m mNx) p Z) : RS c G m p Z := by
  intro X S r s I
  have := h X S r s I
  cases e : p s with
  | ok o s' =>
    rw [e] at this
    cases o with
    | nx v => obtain ⟨hf, X', S', r', h1, h2⟩ := this; exact ⟨hf, X', S', r', seq_nx h1, h2⟩
    | rt v => obtain ⟨S', d, h1, h2⟩ := this; exact ⟨S', d, seq_nx h1, h2⟩
    | bk v => obtain ⟨X', S', r', h1, h2⟩ := this; exact ⟨X', S', r', seq_nx h1, h2⟩
    | ct v => obtain ⟨X', S', r', h1, h2⟩ := this; exact ⟨X', S', r', seq_nx h1, h2⟩
  | ex n fs s' => rw [e] at this; obtain ⟨X', S', r', x, h1, h2⟩ := this; exact ⟨X', S', r', x, seq_nx h1, h2⟩
  | bad => trivial
def seqF (b : Env' → M Fl) : R Fl → R Fl
  | .ok f S' => (match f with | .nx r' => b r' S' | .rt d => .ok (.rt d) S' | .bk r' => .ok (.bk r') S' | .ct r' => .ok (.ct r') S' | .xc x r' => .ok (.xc x r') S')
  | .exc _ _ => .bad
  | .bad => .bad
theorem seq_eq {a b : Env' → M Fl} {r : Env'} {S : Store} : mSeq a b r S = seqF b (a r S) := by unfold mSeq seqF; cases a r S <;> rfl
theorem rs_seq {a b : Env' → M Fl} {pa : PM ε (Out σ l ρ)} {q : σ → PM ε (Out τ l ρ)} {Z : Pz ε τ l ρ} {F : Prop} {K : Type} {ok : K → Prop} {N : K → σ → ε → Ctx} (ha : RS c G a pa ⟨F, ctN ok N, Z.B, Z.E, Z.R⟩) (hb : ∀ k v, ok k → RS c (N k v) b (q v) Z) : RS c G (mSeq a b) (bndO pa q) Z := by
  intro X S r s I
  have := ha X S r s I
  rw [seq_eq]
  unfold bndO bnd
  cases e : pa s with
  | ok o s' =>
    rw [e] at this
    cases o with
    | nx v => obtain ⟨hf, X', S', r', h1, ⟨_, ⟨k, hk, rfl⟩, h2⟩, h3, h4⟩ := this; rw [h1]; exact Sq.step h3 h4 (hb k v hk X' S' r' s' h2)
    | rt v => obtain ⟨S', d, h1, h2⟩ := this; rw [h1]; exact ⟨S', d, rfl, h2⟩
    | bk v => obtain ⟨X', S', r', h1, h2⟩ := this; rw [h1]; exact ⟨X', S', r', rfl, h2⟩
    | ct v => obtain ⟨X', S', r', h1, h2⟩ := this; rw [h1]; exact ⟨X', S', r', rfl, h2⟩
  | ex n fs s' => rw [e] at this; obtain ⟨X', S', r', x, h1, h2⟩ := this; rw [h1]; exact ⟨X', S', r', x, rfl, h2⟩
  | bad => trivial
theorem rs_seqI {a b : Env' → M Fl} {pa : PM ε (Out σ l ρ)} {q : σ → PM ε (Out τ l ρ)} {Z : Pz ε τ l ρ} {F : Prop} {K : Type} {ok : K → Prop} {N : K → σ → ε → Ctx} (ha : RS c G a pa ⟨F, ctN ok N, Z.B, Z.E, Z.R⟩) (hb : ∀ k v, ok k → RS c (N k v) b (q v) Z) : RS c G (mSeq a b) (bndI pa q) Z := rs_seq ha hb

theorem rs_eS {m : Env' → M δ} {h : δ → Env' → M Fl} {b : Env' → M Fl} {p : PM ε α} {A : α → Nat → Fx → List Nat → Store → Env' → Ctx → δ → Prop} {q : α → PM ε (Out σ l ρ)} {Z : Pz ε σ l ρ} (hm : RE G m p A) (hE : ∀ s, Sub (Z.E s) (G s))
    (hk : ∀ v X S1 n r s d, c.S0.length ≤ n → Inv c X S1 r (G s) → A v n c X S1 r (G s) d → Sq c X S1 Z (seqF b (h d r S1)) (q v s)) : RS c G (mSeq (stE m h) b) (bnd p q) Z := by
  have e : mSeq (stE m h) b = stE m (fun d r S => seqF b (h d r S)) := by
    funext r S; rw [seq_eq]; unfold stE; cases m r S <;> rfl
  rw [e]
  exact rs_stE hm hE hk

theorem rs_asg {a : Env' → M D} {b : Env' → M Fl} {i : Nat} {p : PM ε U} {q : U → PM ε (Out σ l ρ)} {Z : Pz ε σ l ρ} (ha : RX G a p) (hb : ∀ v, RS c (fun s => (i, .val (ag v)) :: G s) b (q v) Z) (hi : ∀ s, lnOk (G s) i = true := by intro; rfl) (hE : ∀ s, Sub (Z.E s) (G s) := by intro; exact sub_nil) :
    RS c G (mSeq (mAsg a (gNm i)) b) (bnd p q) Z :=
  rs_eS ha hE fun v X S1 n r s d hn I hv => hb v X S1 _ s (I.set (a := ag v) (I.lt (hi s)) hv)

theorem Inv.setO {X : List Nat} {S : Store} {r : Env'} {G : Ctx} {i k : Nat} {a : Ao} {o : O} (I : Inv c X S r G) (J : Inv c (k :: X) S r G) (hi : i < r.length) (hk : c.S0.length ≤ k) (hx : k ∉ X) (ho : S[k]? = some o) (ha : a.p (k :: X) S o) :
    Inv c (k :: X) S (r.set i (some (.ref k))) ((i, .own k a) :: G) := by
  refine ⟨J.kp, J.xb, J.x0, J.w0, J.hd, fun j b h => ?_, fun j q b h => ?_, fun j j' q b b' h h' => ?_, fun j n h => ?_, fun j fp v h => ?_, fun j j' fp v q b h h' => ?_, fun j j' fp v fq w h h' => ?_⟩
  · by_cases hj : j = i
    · subst hj; rw [lk_same] at h; cases h
    · rw [lk_ne hj] at h; rw [set_ne (Ne.symm hj)]; exact J.val j b h
  · by_cases hj : j = i
    · subst hj; rw [lk_same] at h; cases h
      exact ⟨set_same hi, List.mem_cons_self, .inr hk, fun u hu => hx (I.hd k u hu).1, o, ho, ha⟩
    · rw [lk_ne hj] at h; rw [set_ne (Ne.symm hj)]; exact J.own j q b h
  · by_cases hj : j = i
    · by_cases hj' : j' = i
      · rw [hj, hj']
      · subst hj; rw [lk_same] at h; cases h; rw [lk_ne hj'] at h'; exact absurd (I.own _ _ _ h').2.1 hx
    · by_cases hj' : j' = i
      · subst hj'; rw [lk_same] at h'; cases h'; rw [lk_ne hj] at h; exact absurd (I.own _ _ _ h).2.1 hx
      · rw [lk_ne hj] at h; rw [lk_ne hj'] at h'; exact J.dist _ _ _ _ _ h h'
  · rw [List.length_set]
    by_cases hj : j = i
    · subst hj; rw [lk_same] at h; cases h
    · rw [lk_ne hj] at h; exact J.len j n h
  · by_cases hj : j = i
    · subst hj; rw [lk_same] at h; cases h
    · rw [lk_ne hj] at h; rw [set_ne (Ne.symm hj)]; exact J.dp j fp v h
  · by_cases hj : j = i
    · subst hj; rw [lk_same] at h; cases h
    · rw [lk_ne hj] at h
      by_cases hj' : j' = i
      · subst hj'; rw [lk_same] at h'; cases h'
        obtain ⟨_, _, _, z⟩ := I.dp j fp v h
        exact fun hm => hx (z k hm).1
      · rw [lk_ne hj'] at h'; exact J.dpo _ _ _ _ _ _ h h'
  · by_cases hj : j = i
    · subst hj; rw [lk_same] at h; cases h
    · by_cases hj' : j' = i
      · subst hj'; rw [lk_same] at h'; cases h'
      · rw [lk_ne hj] at h; rw [lk_ne hj'] at h'; exact J.dpd _ _ _ _ _ _ h h'

theorem rs_asgO {a : Env' → M D} {b : Env' → M Fl} {i : Nat} {p : PM ε U} {q : U → PM ε (Out σ l ρ)} {Z : Pz ε σ l ρ} (ha : RF G a p) (hb : ∀ v k, k ∉ c.W → RS c (fun s => (i, .own k (ao v)) :: G s) b (q v) Z) (hi : ∀ s, lnOk (G s) i = true := by intro; rfl) (hE : ∀ s, Sub (Z.E s) (G s) := by intro; exact sub_nil) :
    RS c G (mSeq (mAsg a (gNm i)) b) (bnd p q) Z := by
  intro X S r s I
  have := ha c X S r s I
  have e0 : mSeq (mAsg a (gNm i)) b r S = seqF b (match a r S with | .ok d S' => .ok (.nx (r.set i (some d))) S' | .exc x S' => .ok (.xc x r) S' | .bad => .bad) := by
    rw [seq_eq]; unfold mAsg stE gNm; cases a r S <;> rfl
  rw [e0]
  unfold bnd
  cases e : p s with
  | ok v s' =>
    rw [e] at this
    obtain ⟨d, S', h1, h2, h3, k, o, rfl, hn, hx, ho, hp, hJ⟩ := this
    rw [h1]
    have hw : k ∉ c.W := fun h => hx (I.x0 k (I.w0.1 k h))
    have J := Inv.setO (a := ao v) h2 hJ (I.lt (hi s)) (Nat.le_trans I.kp.1 hn) hx ho hp
    exact Sq.step h3 (fun j hj => (List.mem_cons.mp hj).elim (fun e => .inr (by rw [e]; exact hn)) .inl) (hb v k hw (k :: X) S' _ s' J)
  | ex n fs s' =>
    rw [e] at this
    obtain ⟨d, S', h1, h2, h3, h4⟩ := this
    rw [h1]
    exact ⟨X, S', r, d, rfl, h2.sub (hE s'), h3, Xm.refl, h4⟩
  | bad => trivial

theorem rs_asgH {a : Env' → M D} {b : Env' → M Fl} {i : Nat} {K : Ctx} {p : PM U U} {q : PM U (Out σ l ρ)} {Z : Pz U σ l ρ} {G : U → Ctx} (ha : RF G a p) (hK : ∀ s, Sub K (G s)) (hb : ∀ k, k ∉ c.W → RS c (fun s => (i, .own k (ao s)) :: K) b q Z) (hi : ∀ s, lnOk (G s) i = true := by intro; rfl) (hE : ∀ s, Sub (Z.E s) (G s) := by intro; exact sub_nil) :
    RS c G (mSeq (mAsg a (gNm i)) b) (bnd p fun v => bnd (putS v) fun _ => q) Z := by
  intro X S r s I
  have := ha c X S r s I
  have e0 : mSeq (mAsg a (gNm i)) b r S = seqF b (match a r S with | .ok d S' => .ok (.nx (r.set i (some d))) S' | .exc x S' => .ok (.xc x r) S' | .bad => .bad) := by
    rw [seq_eq]; unfold mAsg stE gNm; cases a r S <;> rfl
  rw [e0]
  unfold bnd
  cases e : p s with
  | ok v s' =>
    rw [e] at this
    obtain ⟨d, S', h1, h2, h3, k, o, rfl, hn, hx, ho, hp, hJ⟩ := this
    rw [h1]
    have hw : k ∉ c.W := fun h => hx (I.x0 k (I.w0.1 k h))
    have J := Inv.setO (a := ao v) h2 hJ (I.lt (hi s)) (Nat.le_trans I.kp.1 hn) hx ho hp
    refine Sq.step h3 (fun j hj => (List.mem_cons.mp hj).elim (fun e => .inr (by rw [e]; exact hn)) .inl) (hb k hw (k :: X) S' _ v (J.sub ?_))
    intro j e he
    by_cases hj : j = i
    · subst hj; rw [lk_same] at he ⊢; exact .inr he
    · rw [lk_ne hj] at he ⊢; exact hK s' j e he
  | ex n fs s' =>
    rw [e] at this
    obtain ⟨d, S', h1, h2, h3, h4⟩ := this
    rw [h1]
    exact ⟨X, S', r, d, rfl, h2.sub (hE s'), h3, Xm.refl, h4⟩
  | bad => trivial

theorem Inv.freeze {X : List Nat} {S : Store} {r : Env'} {G : Ctx} {i k : Nat} {v : U} (I : Inv c X S r G) (hi : lk G i = .own k (ao v)) (hw : k ∉ c.W) : Inv c (X.filter (fun j => decide (j ≠ k))) S r ((i, .val (ag v)) :: G) := by
  obtain ⟨e1, h1, h2, h3, o, h4, h5⟩ := I.own i k _ hi
  have hn : c.S0.length ≤ k := h2.resolve_left hw
  have hm : Xm X (X.filter (fun j => decide (j ≠ k))) S.length := fun j hj => .inl (List.mem_filter.mp hj).1
  have mk : ∀ {j}, j ∈ X → j ≠ k → j ∈ X.filter (fun j => decide (j ≠ k)) := fun h1 h2 => List.mem_filter.mpr ⟨h1, by simpa using h2⟩
  refine ⟨I.kp, fun j hj => I.xb j (List.mem_filter.mp hj).1, fun j hj => mk (I.x0 j hj) (fun e => by have := I.w0.2 j hj; omega), I.w0, fun j u h => ⟨mk (I.hd j u h).1 (fun e => h3 u (by rw [← e]; exact h)), (I.hd j u h).2⟩, fun j b h => ?_, fun j q b h => ?_, fun j j' q b b' h h' => ?_, fun j n h => ?_, fun j fp w h => ?_, fun j j' fp w q b h h' => ?_, fun j j' fp w fq u h h' => ?_⟩
  · by_cases hj : j = i
    · subst hj; rw [lk_same] at h; cases h
      exact ⟨_, e1, ((ao v).more h5 hm).rv h4 fun h => by have := (List.mem_filter.mp h).2; simp at this⟩
    · rw [lk_ne hj] at h
      obtain ⟨d, g1, g2⟩ := I.val j b h
      exact ⟨d, g1, b.more g2 hm⟩
  · by_cases hj : j = i
    · subst hj; rw [lk_same] at h; cases h
    · rw [lk_ne hj] at h
      obtain ⟨e2, g1, g2, g3, u, g4, g5⟩ := I.own j q b h
      exact ⟨e2, mk g1 (fun e => by subst e; exact hj (I.dist _ _ _ _ _ h hi)), g2, g3, u, g4, b.more g5 hm⟩
  · by_cases hj : j = i
    · subst hj; rw [lk_same] at h; cases h
    · by_cases hj' : j' = i
      · subst hj'; rw [lk_same] at h'; cases h'
      · rw [lk_ne hj] at h; rw [lk_ne hj'] at h'; exact I.dist _ _ _ _ _ h h'
  · by_cases hj : j = i
    · subst hj; rw [lk_same] at h; cases h
    · rw [lk_ne hj] at h; exact I.len j n h
  · by_cases hj : j = i
    · subst hj; rw [lk_same] at h; cases h
    · rw [lk_ne hj] at h
      obtain ⟨d, e, t, z⟩ := I.dp j fp w h
      exact ⟨d, e, t.more hm, fun m hmm => ⟨mk (z m hmm).1 (fun e => by subst e; exact I.dpo _ _ _ _ _ _ h hi hmm), (z m hmm).2⟩⟩
  · by_cases hj : j = i
    · subst hj; rw [lk_same] at h; cases h
    · by_cases hj' : j' = i
      · subst hj'; rw [lk_same] at h'; cases h'
      · rw [lk_ne hj] at h; rw [lk_ne hj'] at h'; exact I.dpo _ _ _ _ _ _ h h'
  · by_cases hj : j = i
    · subst hj; rw [lk_same] at h; cases h
    · by_cases hj' : j' = i
      · subst hj'; rw [lk_same] at h'; cases h'
      · rw [lk_ne hj] at h; rw [lk_ne hj'] at h'; exact I.dpd _ _ _ _ _ _ h h'
theorem rs_freeze {m : Env' → M Fl} {i k : Nat} {v : U} {p : PM ε (Out σ l ρ)} {Z : Pz ε σ l ρ} (hi : ∀ s, lk (G s) i = .own k (ao v)) (hw : k ∉ c.W) (h : RS c (fun s => (i, .val (ag v)) :: G s) m p Z) : RS c G m p Z :=
  fun X S r s I => Sq.step Kx.refl (fun j hj => .inl (List.mem_filter.mp hj).1) (h _ S r s (I.freeze (hi s) hw))

theorem rs_if {t : Env' → M Bool} {a b : Env' → M Fl} {pt : PM ε Bool} {pa pb : PM ε (Out σ l ρ)} {Z : Pz ε σ l ρ} (ht : RT G t pt) (ha : RS c G a pa Z) (hb : RS c G b pb Z) (hE : ∀ s, Sub (Z.E s) (G s) := by intro; exact sub_nil) : RS c G (mIf t a b) (bnd pt fun x => if x = true then pa else pb) Z :=
  rs_stE ht hE fun v X S1 n r s d hn I hv => by
    subst hv
    cases d with
    | true => exact ha X S1 r s I
    | false => exact hb X S1 r s I

theorem rs_ifT {t : Env' → M Bool} {a b : Env' → M Fl} {pt : PM ε Bool} {pa pb : PM ε (Out σ l ρ)} {Z : Pz ε σ l ρ} (ht : RT G t pt) (ha : RS c G a pa { Z with F := False }) (hb : RS c G b pb Z) (hE : ∀ s, Sub (Z.E s) (G s) := by intro; exact sub_nil) : RS c G (mSeq (mIf t a mNx) b) (bnd pt fun x => if x = true then pa else pb) Z :=
  rs_eS ht hE fun v X S1 n r s d hn I hv => by
    subst hv
    cases d with
    | false => exact hb X S1 r s I
    | true =>
      have := ha X S1 r s I
      rw [if_pos rfl, if_pos rfl]
      cases e : pa s with
      | ok o s' =>
        rw [e] at this
        cases o with
        | nx v => exact this.1.elim
        | rt v => obtain ⟨S', d, h1, h2⟩ := this; rw [h1]; exact ⟨S', d, rfl, h2⟩
        | bk v => obtain ⟨X', S', r', h1, h2⟩ := this; rw [h1]; exact ⟨X', S', r', rfl, h2⟩
        | ct v => obtain ⟨X', S', r', h1, h2⟩ := this; rw [h1]; exact ⟨X', S', r', rfl, h2⟩
      | ex n fs s' => rw [e] at this; obtain ⟨X', S', r', x, h1, h2⟩ := this; rw [h1]; exact ⟨X', S', r', x, rfl, h2⟩
      | bad => trivial

theorem rs_after {m : Env' → M Fl} {H : σ → ε → Ctx → Prop} {Z : Pz ε σ l ρ} {X : List Nat} {S : Store} {x : R Fl} {y : PR ε (Out σ σ ρ)} {s0 : ε} {k : σ → PM ε (Out σ l ρ)} (hB : Z.F) (hN : Z.N = H)
    (h : Sq c X S ⟨True, H, H, Z.E, Z.R⟩ x y) (hk : ∀ v X' S' r' s', InvP c X' S' r' (H v s') → Kx X S S' → Xm X X' S.length → Sq c X' S' Z (m r' S') (k v s')) :
    Sq c X S Z (afterB m x) (bnd (fun _ => y) (aftO k) s0) := by
  unfold bnd
  cases y with
  | ok o s' =>
    cases o with
    | nx v => obtain ⟨_, X', S', r', h1, h2, h3, h4⟩ := h; rw [h1]; exact Sq.step h3 h4 (hk v X' S' r' s' h2 h3 h4)
    | ct v => obtain ⟨X', S', r', h1, h2, h3, h4⟩ := h; rw [h1]; exact Sq.step h3 h4 (hk v X' S' r' s' h2 h3 h4)
    | bk v => obtain ⟨X', S', r', h1, h2, h3, h4⟩ := h; rw [h1]; exact ⟨hB, X', S', r', rfl, by rw [hN]; exact h2, h3, h4⟩
    | rt v => obtain ⟨S', d, h1, h2⟩ := h; rw [h1]; exact ⟨S', d, rfl, h2⟩
  | ex n fs s' => obtain ⟨X', S', r', e, h1, h2⟩ := h; rw [h1]; exact ⟨X', S', r', e, rfl, h2⟩
  | bad => trivial
theorem for_go {g : TgM} {b : Env' → M Fl} {vs : List Nat} {t : U → Option τ} {N : U → τ → Ctx} {K : Type} {ok : K → Prop} {H : K → σ → ε → Ctx} {q : U → σ → τ → PM ε (Out σ σ ρ)} {Z : Pz ε σ l ρ} {src : Src} (hf : Z.F) (hN : Z.N = ctN ok H)
    (hg : ∀ x, RG vs g (ag x) (t x) (N x)) (hb : ∀ k x v u, ok k → RS c (fun s => N x u ++ H k v s) b (q x v u) ⟨True, ctN ok H, ctN ok H, Z.E, Z.R⟩) (hi : ∀ k v s, ∀ j ∈ vs, lnOk (H k v s) j = true) :
    ∀ (ws : List U) (es : List D) (i n : Nat) (X : List Nat) (S : Store) (r : Env') (v : σ) (s : ε), ws.length < n → InvP c X S r (ctN ok H v s) → All2 (Rv X S) es ws → (∀ S', Kx X S S' → ∀ j, src (i + j) S' = some es[j]?) →
      Sq c X S Z (mFo src g b n i r S) (forG (fun x v => bnd (optP (t x)) fun u => q x v u) ws v s)
  | [], es, i, n, X, S, r, v, s, hn, I, ha, hs => by
    cases ha
    obtain ⟨n, rfl⟩ : ∃ m, n = m + 1 := ⟨n - 1, by simp at hn; omega⟩
    have := hs S Kx.refl 0
    rw [Nat.add_zero] at this
    unfold mFo
    rw [this]
    exact ⟨hf, X, S, r, rfl, by rw [hN]; exact I, Kx.refl, Xm.refl⟩
  | w :: ws, es, i, n, X, S, r, v, s, hn, I, ha, hs => by
    cases ha with
    | cons hd hds =>
    rename_i d ds
    obtain ⟨n, rfl⟩ : ∃ m, n = m + 1 := ⟨n - 1, by simp at hn; omega⟩
    have hsr := hs S Kx.refl 0
    rw [Nat.add_zero] at hsr
    have hsr : src i S = some (some d) := hsr
    unfold mFo
    rw [hsr]
    cases etx : t w with
    | none => unfold forG bnd optP; rw [etx]; trivial
    | some u =>
    obtain ⟨_, ⟨k, hk, rfl⟩, I⟩ := I
    obtain ⟨r1, e1, I1, _, _⟩ := (hg w).go c X S r _ d u (fun j hj => I.lt (hi k v s j hj)) I hd etx
    have eF : forG (l := l) (fun x v => bnd (optP (t x)) fun u => q x v u) (w :: ws) v s = bnd (fun _ => q w v u s) (aftO fun w => forG (fun x v => bnd (optP (t x)) fun u => q x v u) ws w) s := by
      rw [forG]; unfold bnd optP; rw [etx]
    rw [eF]
    unfold stE
    simp only [e1]
    exact rs_after (m := mFo src g b n (i + 1)) hf hN (hb k w v u hk X S r1 s I1) fun v' X' S' r' s' I' k' m' => for_go hf hN hg hb hi ws ds (i + 1) n X' S' r' v' s' (by simp at hn; omega) I' (hds.imp fun _ v q => Ag.step (a := ag v) q k' m')
      (fun S2 k2 j => by have := hs S2 (k'.step m' k2) (j + 1); rw [show i + (j + 1) = i + 1 + j by omega] at this; exact this)
theorem rs_for {ms : Env' → M Src} {ps : PM ε (List U)} {g : TgM} {b : Env' → M Fl} {vs : List Nat} {t : U → Option τ} {N : U → τ → Ctx} {K : Type} {ok : K → Prop} {H : K → σ → ε → Ctx} {q : U → σ → τ → PM ε (Out σ σ ρ)} {v0 : σ} {Z : Pz ε σ l ρ} (hs : RE G ms ps sv)
    (hg : ∀ x, RG vs g (ag x) (t x) (N x)) (h0 : ∃ k, ok k ∧ ∀ s, Sub (H k v0 s) (G s)) (hb : ∀ k x v u, ok k → RS c (fun s => N x u ++ H k v s) b (q x v u) ⟨True, ctN ok H, ctN ok H, Z.E, Z.R⟩) (hN : Z.N = ctN ok H := by rfl) (hf : Z.F := by trivial)
    (hi : ∀ k v s, ∀ j ∈ vs, lnOk (H k v s) j = true := by intro k v s j hj; simp only [List.mem_cons, List.not_mem_nil, or_false] at hj; rcases hj with rfl | rfl | rfl | rfl | rfl <;> rfl) (hE : ∀ s, Sub (Z.E s) (G s) := by intro; exact sub_nil) :
    RS c G (mFor ms g b) (bnd ps fun xs => forP xs v0 fun x v => bnd (optP (t x)) fun u => q x v u) Z :=
  rs_stE hs hE fun xs X S n r s src hn I hsv => by
    obtain ⟨ds, hds, hsrc⟩ := hsv
    rw [forP_eq]
    by_cases hl : xs.length < FU
    · rw [if_pos hl]
      exact for_go hf hN hg hb hi xs ds 0 FU X S r v0 s hl (let ⟨k, hk, h⟩ := h0; ⟨_, ⟨k, hk, rfl⟩, I.sub (h s)⟩) hds fun S' k j => by rw [Nat.zero_add]; exact hsrc S' k j
    · rw [if_neg hl]; trivial
end
end Pv
end CK
end

section
set_option Elab.async false
set_option linter.all false
set_option maxRecDepth 100000
set_option maxHeartbeats 4000000
namespace CK
namespace Pv
open PySem PySem.Spec PyProof.Rows L2
section
variable {ε α β γ δ δ' σ τ l ρ : Type} {G : ε → Ctx} {c : Fx}
theorem own_put {X : List Nat} {S : Store} {r : Env'} {G : Ctx} {i k : Nat} {v v' : U} {o' : O} (I : Inv c X S r G) (hi : lk G i = .own k (ao v)) (h : RvO X S o' v') : Inv c X (S.set k o') r ((i, .own k (ao v')) :: G) ∧ Kx X S (S.set k o') := by
  obtain ⟨_, hx, _, _, o, ho, _⟩ := I.own i k _ hi
  have kx : Kx [k] S (S.set k o') := ⟨by simp, fun j u hj e => by rw [List.getElem?_set_ne (fun h => hj (by simp [h]))]; exact e⟩
  have kX : Kx X S (S.set k o') := kx1 kx hx
  exact ⟨I.put kx hi lk_same (fun j hj => lk_ne hj) (List.getElem?_set_self (get_lt' ho)) (h.mono kX), kX⟩
theorem own_o {X : List Nat} {S : Store} {r : Env'} {G : Ctx} {i k : Nat} {v : U} (I : Inv c X S r G) (hi : lk G i = .own k (ao v)) : mVar i r = (fun S => .ok (.ref k) S) ∧ ∃ o, S[k]? = some o ∧ RvO X S o v := by
  obtain ⟨e, _, _, _, o, ho, h⟩ := I.own i k _ hi
  exact ⟨by funext S; unfold mVar; rw [e], o, ho, h⟩
def isLstU : U → Bool
  | .lst _ => true
  | _ => false
theorem RvO.isL {X : List Nat} {S : Store} {k : Nat} {o : O} {v : U} (h : RvO X S o v) (ho : S[k]? = some o) (e : isLstU v = true) : isLs (.ref k) S = true := by
  cases h with
  | exn => first | trivial | cases e | cases e1 | simp [lstV] at e | simp at e | cases hl | (exfalso; simp_all)
  | lst h => unfold isLs; simp only [D.asRef, ls_lst ho]; rfl
  | dk h => cases e

def MutOk (f : D → List D → M D) (u : U → List U → Option (U × U)) : Prop := ∀ {X S k o v ds as w}, S[k]? = some o → RvO X S o v → RvL X S ds as → u v as = some w → ∃ o' y, RvO X S o' w.2 ∧ Rv X S y w.1 ∧ f (.ref k) ds S = .ok y (S.set k o')
def mu (u : U → List U → Option (U × U)) (v : U) (as : List U) : Option U := (u v as).map (·.2)

def lsG (v : U) (p : PM ε α) : PM ε α := if isLstU v = true then p else pbad

theorem rs_m1 {f : D → List D → M D} {u : U → List U → Option (U × U)} (hf : MutOk f u) {e : Env' → M D} {b : Env' → M Fl} {i k : Nat} {v : U} {pe : PM ε U} {q : U → PM ε (Out σ l ρ)} {Z : Pz ε σ l ρ}
    (hi : ∀ s, lk (G s) i = .own k (ao v)) (he : RX G e pe) (hb : ∀ w, RS c (fun s => (i, .own k (ao w)) :: G s) b (q w) Z) (hE : ∀ s, Sub (Z.E s) (G s) := by intro; exact sub_nil) :
    RS c G (mSeq (mDrop (mML f (mVar i) (mCons e mNil))) b) (lsG v (bnd pe fun x => bnd (optP (mu u v [x])) q)) Z := by
  intro X S r s I
  obtain ⟨ev, o, hk, ha⟩ := own_o I (hi s)
  unfold lsG
  by_cases hl : isLstU v = true
  · rw [if_pos hl]
    have e0 : mSeq (mDrop (mML f (mVar i) (mCons e mNil))) b r S = seqF b (match e r S with | .ok d S1 => (match f (.ref k) [d] S1 with | .ok _ S2 => .ok (.nx r) S2 | .exc x S' => .ok (.xc x r) S' | .bad => .bad) | .exc x S' => .ok (.xc x r) S' | .bad => .bad) := by
      rw [seq_eq]; unfold mDrop stE mML mCons mB mP mNil; simp only [ev, ha.isL hk hl, if_true]; cases e r S with
      | ok d S1 => dsimp only; cases f (.ref k) [d] S1 <;> rfl
      | exc _ _ => rfl
      | bad => rfl
    rw [e0]
    have h1 := he c X S r s I
    unfold bnd
    cases e1 : pe s with
    | bad => trivial
    | ex n fs s' => rw [e1] at h1; obtain ⟨d, S', g1, g2, g3, g4⟩ := h1; rw [g1]; exact ⟨X, S', r, d, rfl, g2.sub (hE s'), g3, Xm.refl, g4⟩
    | ok x s1 =>
      rw [e1] at h1; obtain ⟨d, S1, g1, I1, k1, hx⟩ := h1; rw [g1]
      dsimp only
      unfold optP mu
      cases eu : u v [x] with
      | none => trivial
      | some w =>
        obtain ⟨_, o1, hk1, ha1⟩ := own_o I1 (hi s1)
        obtain ⟨o', y, h2, _, h3⟩ := hf hk1 ha1 (.cons hx .nil) eu
        rw [h3]
        obtain ⟨J, kJ⟩ := own_put (v' := w.2) I1 (hi s1) h2
        exact Sq.step (k1.trans kJ) Xm.refl (hb w.2 X _ r s1 J)
  · rw [if_neg hl]; trivial
theorem rs_m2 {f : D → List D → M D} {u : U → List U → Option (U × U)} (hf : MutOk f u) {e1 e2 : Env' → M D} {b : Env' → M Fl} {i k : Nat} {v : U} {p1 p2 : PM ε U} {q : U → PM ε (Out σ l ρ)} {Z : Pz ε σ l ρ}
    (hi : ∀ s, lk (G s) i = .own k (ao v)) (h1 : RX G e1 p1) (h2 : RX G e2 p2) (hb : ∀ w, RS c (fun s => (i, .own k (ao w)) :: G s) b (q w) Z) (hE : ∀ s, Sub (Z.E s) (G s) := by intro; exact sub_nil) :
    RS c G (mSeq (mDrop (mML f (mVar i) (mCons e1 (mCons e2 mNil)))) b) (lsG v (bnd p1 fun x => bnd p2 fun y => bnd (optP (mu u v [x, y])) q)) Z := by
  intro X S r s I
  obtain ⟨ev, o, hk, ha⟩ := own_o I (hi s)
  unfold lsG
  by_cases hl : isLstU v = true
  · rw [if_pos hl]
    have e0 : mSeq (mDrop (mML f (mVar i) (mCons e1 (mCons e2 mNil)))) b r S = seqF b (match e1 r S with | .ok x S1 => (match e2 r S1 with | .ok y S2 => (match f (.ref k) [x, y] S2 with | .ok _ S3 => .ok (.nx r) S3 | .exc x S' => .ok (.xc x r) S' | .bad => .bad) | .exc x S' => .ok (.xc x r) S' | .bad => .bad) | .exc x S' => .ok (.xc x r) S' | .bad => .bad) := by
      rw [seq_eq]; unfold mDrop stE mML mCons mB mP mNil; simp only [ev, ha.isL hk hl, if_true]
      cases e1 r S with
      | ok x S1 =>
        dsimp only
        cases e2 r S1 with
        | ok y S2 => dsimp only; cases f (.ref k) [x, y] S2 <;> rfl
        | exc _ _ => rfl
        | bad => rfl
      | exc _ _ => rfl
      | bad => rfl
    rw [e0]
    unfold bnd
    have g := h1 c X S r s I
    cases q1 : p1 s with
    | bad => trivial
    | ex n fs s' => rw [q1] at g; obtain ⟨d, S', g1, g2, g3, g4⟩ := g; rw [g1]; exact ⟨X, S', r, d, rfl, g2.sub (hE s'), g3, Xm.refl, g4⟩
    | ok x s1 =>
      rw [q1] at g; obtain ⟨d, S1, g1, I1, k1, hx⟩ := g; rw [g1]
      dsimp only
      have g := h2 c X S1 r s1 I1
      cases q2 : p2 s1 with
      | bad => trivial
      | ex n fs s' => rw [q2] at g; obtain ⟨d, S', g1, g2, g3, g4⟩ := g; rw [g1]; exact ⟨X, S', r, d, rfl, g2.sub (hE s'), k1.trans g3, Xm.refl, g4⟩
      | ok y s2 =>
        rw [q2] at g; obtain ⟨d2, S2, g2, I2, k2, hy⟩ := g; rw [g2]
        dsimp only
        unfold optP mu
        cases eu : u v [x, y] with
        | none => trivial
        | some w =>
          obtain ⟨_, o2, hk2, ha2⟩ := own_o I2 (hi s2)
          obtain ⟨o', z, h3, _, h4⟩ := hf hk2 ha2 (.cons (hx.mono k2) (.cons hy .nil)) eu
          rw [h4]
          obtain ⟨J, kJ⟩ := own_put (v' := w.2) I2 (hi s2) h3
          exact Sq.step ((k1.trans k2).trans kJ) Xm.refl (hb w.2 X _ r s2 J)
  · rw [if_neg hl]; trivial

def appU : U → List U → Option (U × U)
  | .lst xs, [x] => if xs.length < sizeLine then some (.non, .lst (xs ++ [x])) else none
  | _, _ => none
theorem rvl1 {X : List Nat} {S : Store} {ds : List D} {x : U} (h : RvL X S ds [x]) : ∃ d, ds = [d] ∧ Rv X S d x := by cases h with | cons h t => cases t; exact ⟨_, rfl, h⟩
theorem rvl2 {X : List Nat} {S : Store} {ds : List D} {x y : U} (h : RvL X S ds [x, y]) : ∃ d e, ds = [d, e] ∧ Rv X S d x ∧ Rv X S e y := by cases h with | cons h t => cases t with | cons h2 t => cases t; exact ⟨_, _, rfl, h, h2⟩
theorem app_ok : MutOk appendM appU := by
  intro X S k o v ds as w hk ho ha hu
  unfold appU at hu
  split at hu
  · rename_i xs x
    cases ho with
    | lst h =>
      rename_i es
      obtain ⟨d, rfl, hd⟩ := rvl1 ha
      split at hu
      · rename_i hl
        cases hu
        refine ⟨.lst (es ++ [d]), .non, .lst (RvL.of (h.a2.app (.cons hd .nil))), .non, ?_⟩
        unfold appendM lsUpd
        simp only [D.asRef, lst_lst hk, h.a2.len, hl, if_true]
      · cases hu
  · cases hu
def extU : U → List U → Option (U × U)
  | .lst xs, [.lst zs] => if xs.length + zs.length ≤ sizeLine then some (.non, .lst (xs ++ zs)) else none
  | _, _ => none
def insU : U → List U → Option (U × U)
  | .lst xs, [.int i, x] => if xs.length < sizeLine ∧ 0 ≤ i ∧ i < 2 ^ 63 then some (.non, .lst (xs.take i.toNat ++ [x] ++ xs.drop i.toNat)) else none
  | _, _ => none
theorem ins_ok : MutOk insertM insU := by
  intro X S k o v ds as w hk ho ha hu
  unfold insU at hu
  split at hu
  · rename_i xs i x
    cases ho with
    | lst h =>
      rename_i es
      obtain ⟨d, e, rfl, hd, he⟩ := rvl2 ha
      cases hd
      split at hu
      · rename_i hl
        cases hu
        refine ⟨.lst (es.take i.toNat ++ [e] ++ es.drop i.toNat), .non, .lst (RvL.of (((h.a2.take _).app (.cons he .nil)).app (h.a2.drop _))), .non, ?_⟩
        unfold insertM lsUpd
        simp only [D.asRef, lst_lst hk, h.a2.len, hl, and_self, if_true]
      · cases hu
  · cases hu
def clrU : U → List U → Option (U × U)
  | .lst _, [] => some (.non, .lst [])
  | _, _ => none
def SetOk (f : D → D → D → M Unit) (u : U → U → U → Option U) : Prop := ∀ {X S k o v e y d x w}, S[k]? = some o → RvO X S o v → Rv X S e y → Rv X S d x → u v y x = some w → ∃ o', RvO X S o' w ∧ f (.ref k) e d S = .ok () (S.set k o')
theorem set_eval {e o ix : Env' → M D} {f : D → D → D → M Unit} {b : Env' → M Fl} {r : Env'} {S : Store} : mSeq (mAsg e (gSubM o ix f)) b r S = seqF b (match e r S with | .ok v S1 => (match o r S1 with | .ok x S2 => (match ix r S2 with | .ok y S3 => (match f x y v S3 with | .ok _ S4 => .ok (.nx r) S4 | .exc x S' => .ok (.xc x r) S' | .bad => .bad) | .exc x S' => .ok (.xc x r) S' | .bad => .bad) | .exc x S' => .ok (.xc x r) S' | .bad => .bad) | .exc x S' => .ok (.xc x r) S' | .bad => .bad) := by
  rw [seq_eq]; unfold mAsg stE gSubM mB mP
  cases e r S with
  | ok v S1 =>
    dsimp only
    cases o r S1 with
    | ok x S2 =>
      dsimp only
      cases ix r S2 with
      | ok y S3 => dsimp only; cases f x y v S3 <;> rfl
      | exc _ _ => rfl
      | bad => rfl
    | exc _ _ => rfl
    | bad => rfl
  | exc _ _ => rfl
  | bad => rfl
theorem rs_sub2 {f : D → D → D → M Unit} {u : U → U → U → Option U} (hf : SetOk f u) {e ix : Env' → M D} {b : Env' → M Fl} {i k : Nat} {v : U} {pe pi : PM ε U} {q : U → PM ε (Out σ l ρ)} {Z : Pz ε σ l ρ}
    (hi : ∀ s, lk (G s) i = .own k (ao v)) (he : RX G e pe) (hx : RX G ix pi) (hb : ∀ w, RS c (fun s => (i, .own k (ao w)) :: G s) b (q w) Z) (hE : ∀ s, Sub (Z.E s) (G s) := by intro; exact sub_nil) :
    RS c G (mSeq (mAsg e (gSubM (mVar i) ix f)) b) (bnd pe fun x => bnd pi fun y => bnd (optP (u v y x)) q) Z := by
  intro X S r s I
  rw [set_eval]
  unfold bnd
  have g := he c X S r s I
  cases q1 : pe s with
  | bad => trivial
  | ex n fs s' => rw [q1] at g; obtain ⟨d, S', g1, g2, g3, g4⟩ := g; rw [g1]; exact ⟨X, S', r, d, rfl, g2.sub (hE s'), g3, Xm.refl, g4⟩
  | ok x s1 =>
    rw [q1] at g; obtain ⟨d, S1, g1, I1, k1, hx1⟩ := g; rw [g1]
    dsimp only
    obtain ⟨ev, _⟩ := I1.own i k _ (hi s1)
    have ev' : mVar i r S1 = .ok (.ref k) S1 := by unfold mVar; rw [ev]
    rw [ev']
    dsimp only
    have g := hx c X S1 r s1 I1
    cases q2 : pi s1 with
    | bad => trivial
    | ex n fs s' => rw [q2] at g; obtain ⟨d, S', g1, g2, g3, g4⟩ := g; rw [g1]; exact ⟨X, S', r, d, rfl, g2.sub (hE s'), k1.trans g3, Xm.refl, g4⟩
    | ok y s2 =>
      rw [q2] at g; obtain ⟨d2, S2, g2, I2, k2, hy⟩ := g; rw [g2]
      dsimp only
      unfold optP
      cases eu : u v y x with
      | none => trivial
      | some w =>
        obtain ⟨_, _, _, _, o, ho, hp⟩ := I2.own i k _ (hi s2)
        obtain ⟨o', h1, h2⟩ := hf ho hp hy (hx1.mono k2) eu
        rw [h2]
        obtain ⟨J, kJ⟩ := own_put (v' := w) I2 (hi s2) h1
        exact Sq.step ((k1.trans k2).trans kJ) Xm.refl (hb w X _ r s2 J)
def setU : U → U → U → Option U
  | .lst xs, .int i, v => (match ixN xs.length i with | some j => some (.lst (xs.set j v)) | none => none)
  | _, _, _ => none
theorem set_ok : SetOk setM setU := by
  intro X S k o v e y d x w hk ho he hd hu
  unfold setU at hu
  split at hu
  · rename_i xs i
    cases ho with
    | lst h =>
      rename_i es
      cases he
      cases e1 : ixN xs.length i with
      | none => simp [e1] at hu
      | some j =>
        simp [e1] at hu
        subst hu
        refine ⟨.lst (es.set j d), .lst (RvL.of (All2.set hd j h.a2)), ?_⟩
        unfold setM
        simp only [D.asRef, D.asInt, lst_lst hk, h.a2.len, e1]
  · cases hu
def putU : U → U → U → Option U
  | .dk kv, y, x => (match keyU y with | some z => if kv.length < sizeLine then some (.dk (putG kv z x)) else none | none => none)
  | _, _, _ => none
theorem put_ok : SetOk dputM putU := by
  intro X S k o v e y d x w hk ho he hd hu
  unfold putU at hu
  split at hu
  · rename_i kv
    cases ho with
    | dk h =>
      rename_i es
      cases e1 : keyU y with
      | none => simp [e1] at hu
      | some z =>
        simp only [e1] at hu
        split at hu
        · rename_i hl
          cases hu
          refine ⟨.dK (putG es z d), .dk (RvK.of (All2.put hd h.a2)), ?_⟩
          unfold dputM
          simp only [D.asRef, he.key e1, hk, dkO_dK, h.a2.len, hl, if_true]
        · cases hu
  · cases hu
theorem rs_dput {e ix : Env' → M D} {b : Env' → M Fl} {i k : Nat} {v : U} {pe pi : PM ε U} {q : U → PM ε (Out σ l ρ)} {Z : Pz ε σ l ρ} (hi : ∀ s, lk (G s) i = .own k (ao v)) (he : RX G e pe) (hx : RX G ix pi) (hb : ∀ w, RS c (fun s => (i, .own k (ao w)) :: G s) b (q w) Z) (hE : ∀ s, Sub (Z.E s) (G s) := by intro; exact sub_nil) :
    RS c G (mSeq (mAsg e (gSubM (mVar i) ix dputM)) b) (bnd pe fun x => bnd pi fun y => bnd (optP (putU v y x)) q) Z := rs_sub2 put_ok hi he hx hb hE

def hidU (u : ε → Option ε) : PM ε Unit := fun s => match u s with | some s' => .ok () s' | none => .bad
theorem hid_put {X : List Nat} {S : Store} {r : Env'} {G : U → Ctx} {i w : Nat} {s s' : U} {o' : O} (I : Inv c X S r (G s)) (g : Gd i w G) (h : RvO X S o' s') : Inv c X (S.set w o') r (G s') ∧ Kx X S (S.set w o') := by
  obtain ⟨_, hx, _, _, o, ho, _⟩ := I.own i w _ (g.at_ s)
  have kx : Kx [w] S (S.set w o') := ⟨by simp, fun j u hj e => by rw [List.getElem?_set_ne (fun h => hj (by simp [h]))]; exact e⟩
  have kX : Kx X S (S.set w o') := kx1 kx hx
  exact ⟨I.put kx (g.at_ s) (g.at_ s') (g.el s s') (List.getElem?_set_self (get_lt' ho)) (h.mono kX), kX⟩
theorem rs_setH {G : U → Ctx} {e ix : Env' → M D} {b : Env' → M Fl} {i w : Nat} {pe pi : PM U U} {q : PM U (Out σ l ρ)} {Z : Pz U σ l ρ} (g : Gd i w G) (he : RX G e pe) (hx : RX G ix pi) (hb : RS c G b q Z) (hE : ∀ s, Sub (Z.E s) (G s) := by intro; exact sub_nil) :
    RS c G (mSeq (mAsg e (gSubM (mVar i) ix setM)) b) (bnd pe fun x => bnd pi fun y => bnd (hidU fun v => setU v y x) fun _ => q) Z := by
  intro X S r s I
  rw [set_eval]
  unfold bnd
  have g1 := he c X S r s I
  cases q1 : pe s with
  | bad => trivial
  | ex n fs s' => rw [q1] at g1; obtain ⟨d, S', g1, g2, g3, g4⟩ := g1; rw [g1]; exact ⟨X, S', r, d, rfl, g2.sub (hE s'), g3, Xm.refl, g4⟩
  | ok x s1 =>
    rw [q1] at g1; obtain ⟨d, S1, g1, I1, k1, hx1⟩ := g1; rw [g1]
    dsimp only
    obtain ⟨ev, _⟩ := I1.own i w _ (g.at_ s1)
    have ev' : mVar i r S1 = .ok (.ref w) S1 := by unfold mVar; rw [ev]
    rw [ev']
    dsimp only
    have g2 := hx c X S1 r s1 I1
    cases q2 : pi s1 with
    | bad => trivial
    | ex n fs s' => rw [q2] at g2; obtain ⟨d, S', g1, g2, g3, g4⟩ := g2; rw [g1]; exact ⟨X, S', r, d, rfl, g2.sub (hE s'), k1.trans g3, Xm.refl, g4⟩
    | ok y s2 =>
      rw [q2] at g2; obtain ⟨d2, S2, g2, I2, k2, hy⟩ := g2; rw [g2]
      dsimp only
      unfold hidU
      dsimp only
      cases eu : setU s2 y x with
      | none => trivial
      | some s3 =>
        obtain ⟨_, hwx, _, _, o, ho, hp⟩ := I2.own i w _ (g.at_ s2)
        obtain ⟨o', h1, h2⟩ := set_ok ho hp hy (hx1.mono k2) eu
        rw [h2]
        obtain ⟨J, kJ⟩ := hid_put (s' := s3) I2 g h1
        exact Sq.step ((k1.trans k2).trans kJ) Xm.refl (hb X _ r s3 J)
end
end Pv
end CK
end

section
set_option Elab.async false
set_option linter.all false
set_option maxRecDepth 100000
set_option maxHeartbeats 4000000
namespace CK
namespace Pv
open PySem PySem.Spec PyProof.Rows L2
section
variable {ε α β γ δ δ' σ τ l ρ : Type} {G : ε → Ctx} {c : Fx}


def R0 (c : Fx) (A : U → Nat → List Nat → Store → D → Prop) : U → ε → Store → D → Prop := fun v _ S' d => Kx [] c.S0 S' ∧ A v c.S0.length c.X0 S' d

def R1 (c : Fx) (w : Nat) (A : Nat → U → U → Nat → List Nat → Store → D → Prop) : U → U → Store → D → Prop := fun v s S' d => Kx [w] c.S0 S' ∧ A w s v c.S0.length c.X0 S' d
theorem kp0 {X : List Nat} {S : Store} {r : Env'} {G : Ctx} (I : Inv c X S r G) (hw : c.W = []) : Kx [] c.S0 S := by have := I.kp; rw [hw] at this; exact this
theorem kp1 {X : List Nat} {S : Store} {r : Env'} {G : Ctx} {w : Nat} (I : Inv c X S r G) (hw : c.W = [w]) : Kx [w] c.S0 S := by have := I.kp; rw [hw] at this; exact this
theorem xm0 {X X' : List Nat} {n : Nat} (h : ∀ k ∈ X', k ∈ X) : Xm X X' n := fun k hk => .inl (h k hk)
theorem xk {X X' : List Nat} {k n : Nat} (h : ∀ k ∈ X', k ∈ X) : Xm (k :: X) (k :: X') n := fun j hj => .inl ((List.mem_cons.mp hj).elim (fun e => by rw [e]; exact List.mem_cons_self) fun q => List.mem_cons_of_mem _ (h j q))
theorem rs_ret0 {e : Env' → M D} {p : PM ε U} {Z : Pz ε σ l U} (he : RX G e p) (hw : c.W = []) (hR : Z.R = R0 c clC := by rfl) (hE : ∀ s, Sub (Z.E s) (G s) := by intro; exact sub_nil) : RS c G (mRet e) (bnd p fun v => ret (.rt v)) Z :=
  rs_stE he hE fun v X S n r s d hn I hv => ⟨S, d, rfl, by rw [hR]; exact ⟨kp0 I hw, hv.more (xm0 I.x0)⟩⟩
theorem rs_ret0f {e : Env' → M D} {p : PM ε U} {Z : Pz ε σ l U} (he : RF G e p) (hw : c.W = []) (hR : Z.R = R0 c frC := by rfl) (hE : ∀ s, Sub (Z.E s) (G s) := by intro; exact sub_nil) : RS c G (mRet e) (bnd p fun v => ret (.rt v)) Z :=
  rs_stE he hE fun v X S n r s d hn I hv => ⟨S, d, rfl, by
    rw [hR]
    obtain ⟨k, o, rfl, h1, h2, h3, h4, _⟩ := hv
    exact ⟨kp0 I hw, k, o, rfl, Nat.le_trans hn h1, fun h => h2 (I.x0 k h), h3, h4.more (xk I.x0)⟩⟩
theorem rs_ret1 {G : U → Ctx} {e : Env' → M D} {p : PM U U} {Z : Pz U σ l U} {i w : Nat} (he : RX G e p) (hw : c.W = [w]) (hi : ∀ s, lk (G s) i = .own w (ao s)) (hR : Z.R = R1 c w clW := by rfl) (hE : ∀ s, Sub (Z.E s) (G s) := by intro; exact sub_nil) : RS c G (mRet e) (bnd p fun v => ret (.rt v)) Z :=
  rs_stE he hE fun v X S n r s d hn I hv => ⟨S, d, rfl, by
    rw [hR]
    obtain ⟨_, _, _, _, o, ho, hp⟩ := I.own i w _ (hi s)
    exact ⟨kp1 I hw, hv.more (xm0 I.x0), o, ho, RvO.more hp (xm0 I.x0)⟩⟩
theorem rs_retO0 {Z : Pz ε σ l U} {i k : Nat} {v : U} (hi : ∀ s, lk (G s) i = .own k (ao v)) (hk : k ∉ c.W) (hw : c.W = []) (hR : Z.R = R0 c frC := by rfl) : RS c G (mRet (mVar i)) (ret (.rt v)) Z := by
  intro X S r s I
  obtain ⟨e, h1, h2, _, o, ho, hp⟩ := I.own i k _ (hi s)
  have hn := h2.resolve_left hk
  refine ⟨S, .ref k, by unfold mRet stE mVar; rw [e], ?_⟩
  rw [hR]
  exact ⟨kp0 I hw, k, o, rfl, hn, fun h => by have := I.w0.2 k h; omega, ho, RvO.more hp fun j hj => .inl ((List.mem_cons.mp hj).elim (fun e => by rw [e]; exact h1) (I.x0 j))⟩
theorem rs_retO1 {G : U → Ctx} {Z : Pz U σ l U} {i k j w : Nat} {v : U} (hi : ∀ s, lk (G s) i = .own k (ao v)) (hk : k ∉ c.W) (hw : c.W = [w]) (hj : ∀ s, lk (G s) j = .own w (ao s)) (hR : Z.R = R1 c w frW := by rfl) : RS c G (mRet (mVar i)) (ret (.rt v)) Z := by
  intro X S r s I
  obtain ⟨e, h1, h2, _, o, ho, hp⟩ := I.own i k _ (hi s)
  obtain ⟨_, _, _, _, o', ho', hp'⟩ := I.own j w _ (hj s)
  have hn := h2.resolve_left hk
  have hx : Xm X (k :: c.X0) S.length := fun j hj => .inl ((List.mem_cons.mp hj).elim (fun e => by rw [e]; exact h1) (I.x0 j))
  refine ⟨S, .ref k, by unfold mRet stE mVar; rw [e], ?_⟩
  rw [hR]
  exact ⟨kp1 I hw, k, o, rfl, hn, fun h => by have := I.w0.2 k h; omega, ho, RvO.more hp hx, o', ho', RvO.more hp' hx⟩
def argC : Nat → List Ag → Nat → Ctx
  | _, [], n => [(KL, .ln n)]
  | i, a :: as, n => (i, .val a) :: argC (i + 1) as n
theorem argC_ok {X : List Nat} {S : Store} {n : Nat} : ∀ {as : List Ag} {ds pre : List D} {i : Nat}, AgL X S as ds → pre.length = i → i + as.length ≤ n → n < KL →
    (∀ j a, lk (argC i as n) j = .val a → ∃ d, ((pre ++ ds).map some ++ List.replicate (n - (pre ++ ds).length) none)[j]? = some (some d) ∧ a.p X S d) ∧ (∀ j k a, lk (argC i as n) j ≠ .own k a) ∧ (∀ j m, lk (argC i as n) j = .ln m → m = n) ∧ (∀ j fp v, lk (argC i as n) j ≠ .dp fp v)
  | [], _, pre, i, .nil, hp, hn, hk => by
    refine ⟨fun j a h => ?_, fun j k a h => ?_, fun j m h => ?_, fun j fp v h => ?_⟩ <;> unfold argC at h <;> by_cases e : j = KL
    · subst e; rw [lk_same] at h; cases h
    · rw [lk_ne e] at h; cases h
    · subst e; rw [lk_same] at h; cases h
    · rw [lk_ne e] at h; cases h
    · subst e; rw [lk_same] at h; cases h; rfl
    · rw [lk_ne e] at h; cases h
    · subst e; rw [lk_same] at h; cases h
    · rw [lk_ne e] at h; cases h
  | a :: as, d :: ds, pre, i, .cons h t, hp, hn, hk => by
    have hn' : i + 1 + as.length ≤ n := by simp at hn; omega
    obtain ⟨h1, h2, h3, h4⟩ := argC_ok (pre := pre ++ [d]) (i := i + 1) t (by simp [hp]) hn' hk
    refine ⟨fun j b hb => ?_, fun j k b hb => ?_, fun j m hb => ?_, fun j fp v hb => ?_⟩ <;> unfold argC at hb <;> by_cases e : j = i
    · subst e
      rw [lk_same] at hb
      cases hb
      refine ⟨d, ?_, h⟩
      rw [List.getElem?_append_left (by simp; omega), List.getElem?_map, List.getElem?_append_right (by omega), show j - pre.length = 0 by omega]
      rfl
    · rw [lk_ne e] at hb
      have := h1 j b hb
      simpa only [List.append_assoc, List.singleton_append] using this
    · subst e; rw [lk_same] at hb; cases hb
    · rw [lk_ne e] at hb; exact h2 j k b hb
    · subst e; rw [lk_same] at hb; cases hb
    · rw [lk_ne e] at hb; exact h3 j m hb
    · subst e; rw [lk_same] at hb; cases hb
    · rw [lk_ne e] at hb; exact h4 j fp v hb

theorem fn0_mk {n : Nat} {b : Env' → M Fl} {as : List Ag} {p : PM Unit (Out Unit Unit U)} {A : U → Nat → List Nat → Store → D → Prop}
    (h : ∀ c : Fx, c.W = [] → RS c (fun _ : Unit => argC 0 as n) b p ⟨False, eqN fun _ _ => [], eqN fun _ _ => [], fun _ => [], R0 c A⟩) (hn : Nat.ble as.length n = true := by rfl) (hk : Nat.blt n KL = true := by rfl) : Fn0 (mFn n b) as (fnP p) A := by
  intro X S ds hX ql
  have hn := Nat.le_of_ble_eq_true hn
  have hk : n < KL := Nat.le_of_ble_eq_true hk
  obtain ⟨h1, h2, h3, h4⟩ := argC_ok (pre := []) (i := 0) ql rfl (by omega) hk
  have hlen : (ds.map some ++ List.replicate (n - ds.length) (none : Option D)).length = n := by have := ql.len; simp; omega
  have I : Inv ⟨S, [], X, []⟩ X S (ds.map some ++ List.replicate (n - ds.length) none) (argC 0 as n) :=
    ⟨Kx.refl, hX, fun _ h => h, ⟨fun _ h => (by cases h), hX⟩, fun _ _ h => (by cases h), fun i a e => h1 i a e, fun i k a e => absurd e (h2 i k a), fun i j k a b e => absurd e (h2 i k a), fun i m e => (by rw [h3 i m e]; exact hlen.symm), fun i fp v e => absurd e (h4 i fp v), fun i j fp v k a e => absurd e (h4 i fp v), fun i j fp v fq w e => absurd e (h4 i fp v)⟩
  have := h ⟨S, [], X, []⟩ rfl X S _ () I
  unfold fnP bnd mFn
  cases e : p () with
  | ok o s' =>
    rw [e] at this
    cases o with
    | nx v => exact this.1.elim
    | rt v => obtain ⟨S', d, g1, g2, g3⟩ := this; simp only [g1]; exact ⟨d, S', rfl, g2, g3⟩
    | bk v => trivial
    | ct v => trivial
  | ex m fs s' => rw [e] at this; obtain ⟨X', S', r', x, g1, g2, g3, g4, g5⟩ := this; simp only [g1]; exact ⟨x, S', rfl, g2.kp, g5.1, g5.2.imp id fun ⟨k, q1, q2, q3⟩ => ⟨k, q1, fun hk => q2 (g2.x0 k hk), q3⟩⟩
  | bad => trivial

theorem fn1_mk {n i : Nat} {b : Env' → M Fl} {as : Nat → List Ag} {p : PM U (Out Unit Unit U)} {A : Nat → U → U → Nat → List Nat → Store → D → Prop} (hi : ∀ w, (as w)[i]? = some (agW w))
    (h : ∀ (c : Fx) w, c.W = [w] → RS c (fun s : U => (i, .own w (ao s)) :: argC 0 (as w) n) b p ⟨False, eqN fun _ _ => [], eqN fun _ _ => [], fun s => [(i, .own w (ao s))], R1 c w A⟩) (hn : ∀ w, Nat.ble (as w).length n = true := by intro; rfl) (hk : Nat.blt n KL = true := by rfl) : Fn1 (mFn n b) as (fnP p) A := by
  intro w s X S ds o hX hwX ho hp ql
  have hn := Nat.le_of_ble_eq_true (hn w)
  have hk : n < KL := Nat.le_of_ble_eq_true hk
  obtain ⟨h1, h2, h3, h4⟩ := argC_ok (pre := []) (i := 0) ql rfl (by omega) hk
  have hlen : (ds.map some ++ List.replicate (n - ds.length) (none : Option D)).length = n := by have := ql.len; simp; omega
  have hil : i < (as w).length := (List.getElem?_eq_some_iff.mp (hi w)).1
  have hdi : ds[i]? = some (.ref w) := by
    have : ∀ {as : List Ag} {ds : List D} {i : Nat}, AgL X S as ds → as[i]? = some (agW w) → ds[i]? = some (.ref w) := by
      intro as ds i h
      induction h generalizing i with
      | nil => intro e; simp at e
      | cons h t ih =>
        intro e
        cases i with
        | zero => simp at e; subst e; cases h; rfl
        | succ i => simpa using ih (by simpa using e)
    exact this ql (hi w)
  have hri : (ds.map some ++ List.replicate (n - ds.length) (none : Option D))[i]? = some (some (.ref w)) := by
    rw [List.getElem?_append_left (by have := ql.len; simp; omega), List.getElem?_map, hdi]; rfl
  have I : Inv ⟨S, [w], X, []⟩ X S (ds.map some ++ List.replicate (n - ds.length) none) ((i, .own w (ao s)) :: argC 0 (as w) n) := by
    refine ⟨Kx.refl, hX, fun _ h => h, ⟨fun k hk => by rw [List.mem_singleton] at hk; subst hk; exact hwX, hX⟩, fun _ _ h => (by cases h), fun j a e => ?_, fun j k a e => ?_, fun j j' k a b e e' => ?_, fun j m e => ?_, fun j fp v e => ?_, fun j j' fp v k a e => ?_, fun j j' fp v fq w e => ?_⟩
    · by_cases q : j = i
      · subst q; rw [lk_same] at e; cases e
      · rw [lk_ne q] at e; exact h1 j a e
    · by_cases q : j = i
      · subst q; rw [lk_same] at e; cases e
        exact ⟨hri, hwX, .inl (by simp), fun _ h => (by cases h), o, ho, hp⟩
      · rw [lk_ne q] at e; exact absurd e (h2 j k a)
    · by_cases q : j = i
      · by_cases q' : j' = i
        · rw [q, q']
        · rw [lk_ne q'] at e'; exact absurd e' (h2 _ _ _)
      · rw [lk_ne q] at e; exact absurd e (h2 _ _ _)
    · by_cases q : j = i
      · subst q; rw [lk_same] at e; cases e
      · rw [lk_ne q] at e; rw [h3 j m e]; exact hlen.symm
    all_goals
      by_cases q : j = i
      · subst q; rw [lk_same] at e; cases e
      · rw [lk_ne q] at e; exact absurd e (h4 _ _ _)
  have := h ⟨S, [w], X, []⟩ w rfl X S _ s I
  unfold fnP bnd mFn
  cases e : p s with
  | ok o s' =>
    rw [e] at this
    cases o with
    | nx v => exact this.1.elim
    | rt v => obtain ⟨S', d, g1, g2, g3⟩ := this; simp only [g1]; exact ⟨d, S', rfl, g2, g3⟩
    | bk v => trivial
    | ct v => trivial
  | ex m fs s' =>
    rw [e] at this
    obtain ⟨X', S', r', x, g1, g2, g3, g4, g5⟩ := this
    simp only [g1]
    obtain ⟨_, _, _, _, o', ho', hp'⟩ := g2.own i w _ lk_same
    exact ⟨x, S', rfl, g2.kp, ⟨o', ho', RvO.more hp' (xm0 g2.x0)⟩, g5.1, g5.2.imp id fun ⟨k, q1, q2, q3⟩ => ⟨k, q1, fun hk => q2 (g2.x0 k hk), q3⟩⟩
  | bad => trivial

def raiseP (x f : Str) (v : U) : PM ε α := match U.flat v with | some d => pthrow x [(f, d)] | none => pbad
theorem rs_raise {x f : Str} {a : Env' → M D} {pa : PM ε U} {Z : Pz ε σ l ρ} (ha : RX G a pa) (hE : ∀ s, Sub (Z.E s) (G s) := by intro; exact sub_nil) : RS c G (mRaise x f (mCons a mNil)) (bnd pa fun v => raiseP x f v) Z := by
  intro X S r s I
  have h1 := ha c X S r s I
  have e0 : mRaise x f (mCons a mNil) r S = (match a r S with | .ok d S1 => .ok (.xc ⟨x, some S1.length⟩ r) (S1 ++ [.xd [(f, d)]]) | .exc y S' => .ok (.xc y r) S' | .bad => .bad) := by
    unfold mRaise stE mCons mB mP mNil; cases a r S <;> rfl
  rw [e0]
  unfold bnd
  cases e1 : pa s with
  | bad => trivial
  | ex n fs s' => rw [e1] at h1; obtain ⟨d, S', g1, g2, g3, g4⟩ := h1; rw [g1]; exact ⟨X, S', r, d, rfl, g2.sub (hE s'), g3, Xm.refl, g4⟩
  | ok v s1 =>
    rw [e1] at h1; obtain ⟨d, S1, g1, I1, k1, hx⟩ := h1; rw [g1]
    unfold raiseP
    dsimp only
    cases ef : U.flat v with
    | none => trivial
    | some d' =>
    cases hx.flat ef
    exact ⟨X, _, r, _, rfl, (I1.grow Kx.app).sub (hE s1), k1.trans Kx.app, Xm.refl, rfl, .inr ⟨S1.length, rfl, fun h => by have := I1.xb _ h; omega, by simp⟩⟩

def tryP (L : List Str) (h : Str) (b : PM ε (Out σ l ρ)) (su : Str → List (Str × D) → PM ε (Out σ l ρ)) : PM ε (Out σ l ρ) := fun s => match b s with
  | .ex n fs s' => if n ∈ L then (if exS n h = true then nox (su n fs) s' else .ex n fs s') else .bad
  | x => x
theorem xdOk_of {X : List Nat} {S : Store} {x : Exn} {n : Str} {fs : List (Str × D)} (h : Xr X S x n fs) : xdOk x S = true := by
  unfold xdOk
  rcases h.2 with ⟨e, _⟩ | ⟨k, e, _, h⟩
  · rw [e]
  · rw [e]; simp only [h]; rfl
end
end Pv
end CK
namespace CK
namespace Pv
open PySem PySem.Spec PyProof.Rows L2
section
variable {ε α β γ ρ : Type}
def runS (s0 : ε) (p : PM ε γ) : PM Unit γ := fun _ => match p s0 with
  | .ok v _ => .ok v ()
  | .ex n f _ => .ex n f ()
  | .bad => .bad

theorem fnS_mk {s0 : ε} {n : Nat} {b : Env' → M Fl} {as : List Ag} {p : PM ε (Out Unit Unit U)} {A : U → Nat → List Nat → Store → D → Prop}
    (h : ∀ c : Fx, c.W = [] → RS c (fun _ : ε => argC 0 as n) b p ⟨False, eqN fun _ _ => [], eqN fun _ _ => [], fun _ => [], R0 c A⟩) (hn : Nat.ble as.length n = true := by rfl) (hk : Nat.blt n KL = true := by rfl) : Fn0 (mFn n b) as (runS s0 (fnP p)) A := by
  have key : Fn0 (mFn n b) as (fnP (fun _ : Unit => match p s0 with | .ok v _ => .ok v () | .ex n f _ => .ex n f () | .bad => .bad)) A := by
    refine fn0_mk (fun c hw => ?_) hn hk
    intro X S r s I
    have := h c hw X S r s0 I
    cases e : p s0 with
    | ok o s' => rw [e] at this; cases o <;> exact this
    | ex _ _ _ => rw [e] at this; exact this
    | bad => trivial
  have e : runS s0 (fnP p) = fnP (fun _ : Unit => match p s0 with | .ok v _ => .ok v () | .ex n f _ => .ex n f () | .bad => .bad) := by
    funext u
    unfold runS fnP bnd
    cases p s0 with
    | ok o s' => cases o <;> rfl
    | ex _ _ _ => rfl
    | bad => rfl
  rw [e]
  exact key

theorem ints_rv {X : List Nat} {S : Store} : ∀ ns : List Int, RvL X S (ns.map D.int) (ns.map U.int)
  | [] => .nil
  | n :: ns => .cons (.int n) (ints_rv ns)
theorem law_of {f : List D → M D} {ns : List Int} {q : PM Unit U} (h : Fn0 f [ag (.fz (ns.map U.int))] q clC) (hq : q () = .ok (.bl true) ()) : ∃ S', f [.ref 0] [.fro (ns.map D.int)] = .ok (.bl true) S' := by
  have := h [] [.fro (ns.map D.int)] [.ref 0] (fun _ h => by cases h) (.cons (show Rv [] _ (.ref 0) _ from .fz (by simp) rfl (ints_rv ns)) .nil)
  rw [hq] at this
  obtain ⟨d, S', h1, _, h2⟩ := this
  cases h2
  exact ⟨S', h1⟩
end
section
variable {ε α β γ σ τ l ρ : Type} {G : ε → Ctx} {c : Fx}

end
end Pv
end CK
end

section
set_option Elab.async false
set_option linter.all false
set_option maxRecDepth 100000
set_option maxHeartbeats 4000000
namespace CK
namespace Pv
open PySem PySem.Spec PyProof.Rows L2

def potD : U := .lst [.int 0, .int 1]
section
variable {ε α β γ δ δ' σ τ l ρ : Type} {G : ε → Ctx} {c : Fx}
def RC (m : Env' → M D) (i : Int) : Prop := ∀ r S, m r S = .ok (.int i) S
theorem rc_c {i : Int} : RC (mC (.int i)) i := fun _ _ => rfl
theorem rc_2 {f : D → D → M D} {a b : Env' → M D} {i j k : Int} (ha : RC a i) (hb : RC b j) (h : ∀ S, f (.int i) (.int j) S = .ok (.int k) S) : RC (m2 f a b) k := fun r S => by
  unfold m2 mB
  simp only [ha r S, hb r S]
  exact h S
theorem rc_pow {a b : Env' → M D} {i j k : Int} (ha : RC a i) (hb : RC b j) (h : CPowX i j := by decide +kernel) (e : i ^ j.toNat = k := by decide +kernel) : RC (m2 powM a b) k := rc_2 ha hb fun S => by
  show (if CPowX i j then R.ok (D.int (i ^ j.toNat)) S else .bad) = _
  rw [if_pos h, e]
theorem rc_sub {a b : Env' → M D} {i j k : Int} (ha : RC a i) (hb : RC b j) (e : i - j = k := by decide +kernel) : RC (m2 subM a b) k := rc_2 ha hb fun S => by
  show R.ok (D.int (i - j)) S = _
  rw [e]
theorem re_rc {m : Env' → M D} {i : Int} (h : RC m i) : RX G m (ret (.int i)) := fun c X S r s I => by
  rw [h r S]
  exact Sm.ok I (.int i)
end
end Pv
end CK
end

section
set_option Elab.async false
set_option linter.all false
set_option maxRecDepth 100000
set_option maxHeartbeats 4000000
namespace CK
namespace Pv
open PySem PySem.Spec PyProof.Rows L2
section
variable {ε α β γ δ δ' σ τ l ρ : Type} {G : ε → Ctx} {c : Fx}
def wkP (q : PM Unit α) : PM ε α := fun s => match q () with
  | .ok a _ => .ok a s
  | _ => .bad
inductive WkOf (Γ : Ctx) : List (Nat × Ent) → Prop
  | nil {n : Nat} (h : lk Γ KL = .ln n) : WkOf Γ [(KL, .ln n)]
  | val {i : Nat} {a : Ag} {vs : List (Nat × Ent)} (h : lk Γ i = .val a) (t : WkOf Γ vs) : WkOf Γ ((i, .val a) :: vs)
  | own {i k : Nat} {v : U} {vs : List (Nat × Ent)} (h : lk Γ i = .own k (ao v)) (t : WkOf Γ vs) : WkOf Γ ((i, .val (ag v)) :: vs)
  | dp {i : Nat} {fp : List Nat} {v : U} {vs : List (Nat × Ent)} (h : lk Γ i = .dp fp v) (t : WkOf Γ vs) : WkOf Γ ((i, .val (ag v)) :: vs)
theorem kx_wk {X : List Nat} {S S' : Store} (k : Kx [] S S') : Kx X S S' := k.nil
theorem WkOf.no_own {Γ : Ctx} : ∀ {vs : List (Nat × Ent)}, WkOf Γ vs → ∀ i k a, lk vs i ≠ .own k a
  | _, .nil h, i, k, a => by
    simp only [lk]; split <;> (intro e; cases e)
  | _, .val h t, i, k, a => by
    simp only [lk]; split
    · intro e; cases e
    · exact t.no_own i k a
  | _, .own h t, i, k, a => by
    simp only [lk]; split
    · intro e; cases e
    · exact t.no_own i k a
  | _, .dp h t, i, k, a => by
    simp only [lk]; split
    · intro e; cases e
    · exact t.no_own i k a
theorem WkOf.no_dp {Γ : Ctx} : ∀ {vs : List (Nat × Ent)}, WkOf Γ vs → ∀ i fp v, lk vs i ≠ .dp fp v
  | _, .nil h, i, k, a => by
    simp only [lk]; split <;> (intro e; cases e)
  | _, .val h t, i, k, a => by
    simp only [lk]; split
    · intro e; cases e
    · exact t.no_dp i k a
  | _, .own h t, i, k, a => by
    simp only [lk]; split
    · intro e; cases e
    · exact t.no_dp i k a
  | _, .dp h t, i, k, a => by
    simp only [lk]; split
    · intro e; cases e
    · exact t.no_dp i k a
theorem WkOf.vals {Γ : Ctx} {X : List Nat} {S : Store} {r : Env'} (I : Inv c X S r Γ) : ∀ {vs : List (Nat × Ent)}, WkOf Γ vs → ∀ i a, lk vs i = .val a → ∃ d, r[i]? = some (some d) ∧ a.p [] S d
  | _, .nil h, i, a, e => by
    simp only [lk] at e; split at e <;> cases e
  | _, .val (i := j) h t, i, a, e => by
    simp only [lk] at e; split at e
    · rename_i hb
      have : i = j := Nat.eq_of_beq_eq_true hb
      subst this
      cases e
      obtain ⟨d, e1, q⟩ := I.val _ _ h
      exact ⟨d, e1, Ag.more _ q fun k hk => by cases hk⟩
    · exact t.vals I i a e
  | _, .own (i := j) h t, i, a, e => by
    simp only [lk] at e; split at e
    · rename_i hb
      have : i = j := Nat.eq_of_beq_eq_true hb
      subst this
      cases e
      obtain ⟨e1, _, _, _, o, h4, h5⟩ := I.own _ _ _ h
      exact ⟨_, e1, RvO.rv (RvO.more h5 fun k hk => by cases hk) h4 (by simp)⟩
    · exact t.vals I i a e
  | _, .dp (i := j) h t, i, a, e => by
    simp only [lk] at e; split at e
    · rename_i hb
      have : i = j := Nat.eq_of_beq_eq_true hb
      subst this
      cases e
      obtain ⟨d, e1, t, _⟩ := I.dp _ _ _ h
      exact ⟨_, e1, t.rv (fun k hk => by cases hk) (fun k _ hk => by cases hk)⟩
    · exact t.vals I i a e
theorem WkOf.lens {Γ : Ctx} {X : List Nat} {S : Store} {r : Env'} (I : Inv c X S r Γ) : ∀ {vs : List (Nat × Ent)}, WkOf Γ vs → ∀ i n, lk vs i = .ln n → n = r.length
  | _, .nil h, i, n, e => by
    simp only [lk] at e; split at e
    · rename_i hb; cases e; exact I.len _ _ h
    · cases e
  | _, .val h t, i, n, e => by
    simp only [lk] at e; split at e
    · cases e
    · exact t.lens I i n e
  | _, .own h t, i, n, e => by
    simp only [lk] at e; split at e
    · cases e
    · exact t.lens I i n e
  | _, .dp h t, i, n, e => by
    simp only [lk] at e; split at e
    · cases e
    · exact t.lens I i n e
theorem WkOf.inv {Γ : Ctx} {X : List Nat} {S : Store} {r : Env'} (I : Inv c X S r Γ) {vs : List (Nat × Ent)} (w : WkOf Γ vs) : Inv ⟨S, [], [], []⟩ [] S r vs where
  kp := Kx.refl
  xb := fun k h => by cases h
  x0 := fun k h => by cases h
  w0 := ⟨fun k h => (by cases h), fun k h => (by cases h)⟩
  hd := fun k o h => by cases h
  val := fun i a h => w.vals I i a h
  own := fun i k a h => absurd h (w.no_own i k a)
  dist := fun i j k a b h _ => absurd h (w.no_own i k a)
  len := fun i n h => w.lens I i n h
  dp := fun i fp v h => absurd h (w.no_dp i fp v)
  dpo := fun i j fp v k a h => absurd h (w.no_dp i fp v)
  dpd := fun i j fp v fq a h => absurd h (w.no_dp i fp v)
theorem rt_wk {m : Env' → M Bool} {q : PM Unit Bool} {vs : List (Nat × Ent)} (h : RT (fun _ : Unit => vs) m q) (w : ∀ s, WkOf (G s) vs) : RT G m (wkP q) := by
  intro c X S r s I
  have := h ⟨S, [], [], []⟩ [] S r () ((w s).inv I)
  unfold wkP
  cases e : q () with
  | ok v u =>
    rw [e] at this
    obtain ⟨d, S', h1, h2, h3, h4⟩ := this
    exact ⟨d, S', h1, I.grow h3, kx_wk h3, h4⟩
  | ex n fs u => trivial
  | bad => trivial
def stP (v : U) : PM ε U := if v.still = true then ret v else pbad
def stF (v : U) : PM ε U := if v.stillIn = true then ret v else pbad
theorem RvO.still {X X' : List Nat} {S : Store} {o : O} {v : U} (h : RvO X S o v) (e : v.stillIn = true) : RvO X' S o v := by
  cases h with
  | exn => first | trivial | cases e | cases e1 | simp [lstV] at e | simp at e | cases hl | (exfalso; simp_all)
  | lst h => exact .lst (h.still (by simpa only [U.stillIn] using e))
  | dk h => exact .dk (h.still (by simpa only [U.stillIn] using e))
end
end Pv
end CK
end

section
set_option Elab.async false
set_option linter.all false
set_option maxRecDepth 100000
set_option maxHeartbeats 4000000
namespace CK
namespace Pv
open PySem PySem.Spec PyProof.Rows L2
section
variable {ε α β γ δ δ' σ τ l ρ : Type} {G : ε → Ctx} {c : Fx}
end
end Pv
end CK
end

section
set_option Elab.async false
set_option linter.all false
set_option maxRecDepth 100000
set_option maxHeartbeats 4000000
namespace CK
namespace Pv
open PySem PySem.Spec PyProof.Rows L2
section
variable {ε α β γ δ δ' σ τ l ρ : Type} {G : ε → Ctx} {c : Fx}

theorem TvL.ofR {X : List Nat} {S : Store} : ∀ {ds : List D} {vs : List U}, RvL X S ds vs → stillL vs = true → TvL X S [] ds vs
  | _, _, .nil, _ => .nil
  | _, _, .cons h t, e => by
    simp only [stillL, Bool.and_eq_true] at e
    exact TvL.cons (fp := []) (fq := []) (.cl h e.1) (TvL.ofR t e.2) (fun k hk => by cases hk)
theorem TvK.ofR {X : List Nat} {S : Store} : ∀ {ds : List (Key × D)} {vs : List (Key × U)}, RvK X S ds vs → (vs.all fun p => p.2.still) = true → TvK X S [] ds vs
  | _, _, .nil, _ => .nil
  | _, _, .cons h t, e => by
    simp only [List.all_cons, Bool.and_eq_true] at e
    exact TvK.cons (fp := []) (fq := []) (.cl h e.1) (TvK.ofR t e.2) (fun k hk => by cases hk)
theorem RvO.tv {X : List Nat} {S : Store} {k : Nat} {o : O} {v : U} (h : RvO X S o v) (e : S[k]? = some o) (hs : v.stillIn = true) : Tv X S [k] (.ref k) v := by
  cases h with
  | exn => first | trivial | cases e | cases e1 | simp [lstV] at e | simp at e | cases hl | (exfalso; simp_all)
  | lst h => exact .lst (by simp) e (TvL.ofR h (by simpa only [U.stillIn] using hs))
  | dk h => exact .dk (by simp) e (TvK.ofR h (by simpa only [U.stillIn] using hs))
def frd : U → Nat → Fx → List Nat → Store → Env' → Ctx → D → Prop := fun v n c X S r g d => ∃ fp, Tv (fp ++ X) S fp d v ∧ (∀ k ∈ fp, n ≤ k ∧ k ∉ X) ∧ Inv c (fp ++ X) S r g
abbrev RD (G : ε → Ctx) (m : Env' → M D) (p : PM ε U) : Prop := RE G m p frd
instance dwn_frd : Dwn frd := ⟨fun hn ⟨fp, t, h1, h2⟩ => ⟨fp, t, fun k hk => ⟨Nat.le_trans hn (h1 k hk).1, (h1 k hk).2⟩, h2⟩⟩
theorem Sm.imp {c : Fx} {X : List Nat} {n : Nat} {S : Store} {r : Env'} {A B : α → Nat → Fx → List Nat → Store → Env' → Ctx → δ → Prop} {x : R δ} {y : PR ε α} (h : Sm c X n S r G A x y) (f : ∀ v S' s' d, Inv c X S' r (G s') → A v n c X S' r (G s') d → B v n c X S' r (G s') d) : Sm c X n S r G B x y := by
  cases y with
  | ok v s' => obtain ⟨d, S', h1, h2, h3, h4⟩ := h; exact ⟨d, S', h1, h2, h3, f _ _ _ _ h2 h4⟩
  | ex m fs s' => exact h
  | bad => trivial
theorem Sm.chk {c : Fx} {X : List Nat} {n : Nat} {S : Store} {r : Env'} {A B : U → Nat → Fx → List Nat → Store → Env' → Ctx → D → Prop} {x : R D} {p : PM ε U} {s : ε} {f : U → Bool} (h : Sm c X n S r G A x (p s)) (g : ∀ v S' s' d, f v = true → Inv c X S' r (G s') → A v n c X S' r (G s') d → B v n c X S' r (G s') d) : Sm c X n S r G B x (bnd p (fun v => if f v = true then ret v else pbad) s) := by
  unfold bnd
  cases e : p s with
  | ok v s' =>
    rw [e] at h
    obtain ⟨d, S', h1, h2, h3, h4⟩ := h
    dsimp only
    by_cases hf : f v = true
    · rw [if_pos hf]; exact ⟨d, S', h1, h2, h3, g _ _ _ _ hf h2 h4⟩
    · rw [if_neg hf]; trivial
  | ex m fs s' => rw [e] at h; exact h
  | bad => trivial
theorem RF.d {m : Env' → M D} {p : PM ε U} (h : RF G m p) : RD G m (bnd p stF) := fun c X S r s I => (h c X S r s I).chk (f := U.stillIn) fun v S' s' d hs _ ⟨k, o, e, hn, hx, ho, hp, J⟩ => by
  subst e
  exact ⟨[k], hp.tv ho hs, fun j hj => by rw [List.mem_singleton] at hj; subst hj; exact ⟨hn, hx⟩, J⟩
theorem RX.d {m : Env' → M D} {p : PM ε U} (h : RX G m p) : RD G m (bnd p stP) := fun c X S r s I => (h c X S r s I).chk (f := U.still) fun v S' s' d hs J q => ⟨[], .cl q hs, (fun k hk => by cases hk), J⟩
theorem RD.x {m : Env' → M D} {p : PM ε U} (h : RD G m p) : RX G m p := fun c X S r s I => (h c X S r s I).imp fun v S' s' d J ⟨fp, t, h1, _⟩ => t.rv (fun k hk => .inl (List.mem_append_right _ hk)) fun k hk => (h1 k hk).2

theorem Tv.two {X : List Nat} {S : Store} {fp : List Nat} {d : D} {a b : U} (t : Tv X S fp d (.tup [a, b])) : ∃ d1 d2 f1 f2, d = .tup [d1, d2] ∧ Tv X S f1 d1 a ∧ Tv X S f2 d2 b ∧ (∀ k ∈ f1, k ∉ f2) ∧ ∀ k, k ∈ f1 ∨ k ∈ f2 → k ∈ fp := by
  cases t with
  | cl h e =>
    simp only [U.still, stillL, Bool.and_true, Bool.and_eq_true] at e
    cases h with
    | tup h =>
      cases h with
      | cons h1 h =>
        cases h with
        | cons h2 h => cases h; exact ⟨_, _, [], [], rfl, .cl h1 e.1, .cl h2 e.2, fun k hk => (by cases hk), fun k hk => by simp at hk⟩
  | tup h =>
    cases h with
    | cons h1 h x1 =>
      cases h with
      | cons h2 h x2 =>
        cases h
        exact ⟨_, _, _, _, rfl, h1, h2, fun k hk hq => x1 k hk (List.mem_append_left _ hq), fun k hk => by simp; exact hk⟩
end
end Pv
end CK
end

section
set_option Elab.async false
set_option linter.all false
set_option maxRecDepth 100000
set_option maxHeartbeats 4000000
namespace CK
namespace Pv
open PySem PySem.Spec PyProof.Rows L2
section
variable {ε α β γ δ δ' σ τ l ρ : Type} {G : ε → Ctx} {c : Fx}

def objs (S : Store) (fp : List Nat) : List (Nat × O) := fp.map fun k => (k, S.getD k .opq)
theorem TvL.len {X : List Nat} {S : Store} : ∀ {fp : List Nat} {ds : List D} {vs : List U}, TvL X S fp ds vs → ds.length = vs.length
  | _, _, _, .nil => rfl
  | _, _, _, .cons _ t _ => by simp [t.len]
theorem TvL.at {X : List Nat} {S : Store} : ∀ {fp : List Nat} {ds : List D} {vs : List U} {j : Nat} {w : U}, TvL X S fp ds vs → vs[j]? = some w → ∃ dw fw, ds[j]? = some dw ∧ Tv X S fw dw w ∧ (∀ k ∈ fw, k ∈ fp) ∧
    ∀ {X' : List Nat} {S' : Store} {fw' : List Nat} {w' : U}, Xm X X' S.length → Tv X' S' fw' dw w' → Kx X' S S' → (∀ k ∈ fp, k ∉ fw → ∀ o, S[k]? = some o → S'[k]? = some o) → (∀ k ∈ fw', k ∈ fw ∨ k ∉ fp) → ∃ fp', TvL X' S' fp' ds (vs.set j w') ∧ ∀ k ∈ fp', k ∈ fw' ∨ (k ∈ fp ∧ k ∉ fw)
  | _, _, _, _, _, .nil, h => by simp at h
  | _, _, _, 0, w, .cons (fp := f1) (fq := f2) h t hd, e => by
    simp at e; subst e
    refine ⟨_, f1, rfl, h, fun k hk => List.mem_append_left _ hk, fun {X' S' fw' w'} mx hw kx hk hn => ⟨fw' ++ f2, .cons hw ((t.more mx).mono ⟨kx, fun k q o ho => hk k (List.mem_append_right _ q) (fun z => hd k z q) o ho⟩) (fun k q1 q2 => (hn k q1).elim (fun z => hd k z q2) fun z => z (List.mem_append_right _ q2)), fun k q => (List.mem_append.mp q).elim .inl fun z => .inr ⟨List.mem_append_right _ z, fun y => hd k y z⟩⟩⟩
  | _, _, _, j + 1, w, .cons (fp := f1) (fq := f2) h t hd, e => by
    obtain ⟨dw, fw, h1, h2, h3, h4⟩ := TvL.at (j := j) t (by simpa using e)
    refine ⟨dw, fw, by simpa using h1, h2, fun k hk => List.mem_append_right _ (h3 k hk), fun {X' S' fw' w'} mx hw kx hk hn => ?_⟩
    obtain ⟨f2', t2, z⟩ := h4 mx hw kx (fun k q => hk k (List.mem_append_right _ q)) (fun k q => (hn k q).imp id fun y => fun y' => y (List.mem_append_right _ y'))
    refine ⟨f1 ++ f2', .cons ((h.more mx).mono ⟨kx, fun k q o ho => hk k (List.mem_append_left _ q) (fun y => hd k q (h3 k y)) o ho⟩) t2 (fun k q1 q2 => ?_), fun k q => ?_⟩
    · rcases z k q2 with y | y
      · exact (hn k y).elim (fun y' => hd k q1 (h3 k y')) fun y' => y' (List.mem_append_left _ q1)
      · exact hd k q1 y.1
    · rcases List.mem_append.mp q with y | y
      · exact .inr ⟨List.mem_append_left _ y, fun y' => hd k y (h3 k y')⟩
      · exact (z k y).imp id fun y' => ⟨List.mem_append_right _ y'.1, y'.2⟩
theorem TvK.at {X : List Nat} {S : Store} : ∀ {fp : List Nat} {ds : List (Key × D)} {vs : List (Key × U)} {y : Key} {w : U}, TvK X S fp ds vs → valG vs y = some w → ∃ dw fw, valG ds y = some dw ∧ Tv X S fw dw w ∧ (∀ k ∈ fw, k ∈ fp) ∧
    ∀ {X' : List Nat} {S' : Store} {fw' : List Nat} {w' : U}, Xm X X' S.length → Tv X' S' fw' dw w' → Kx X' S S' → (∀ k ∈ fp, k ∉ fw → ∀ o, S[k]? = some o → S'[k]? = some o) → (∀ k ∈ fw', k ∈ fw ∨ k ∉ fp) → (vs.map (·.1)).Nodup → ∃ fp', TvK X' S' fp' ds (vs.map fun kv => if kv.1 = y then (kv.1, w') else kv) ∧ ∀ k ∈ fp', k ∈ fw' ∨ (k ∈ fp ∧ k ∉ fw)
  | _, _, _, _, _, .nil, h => by simp [valG_nil] at h
  | _, _, _, y, w, .cons (fp := f1) (fq := f2) (k := k0) (vs := vs) h t hd, e => by
    rw [valG_cons] at e
    by_cases hy : k0 = y
    · rw [if_pos hy] at e
      cases e
      refine ⟨_, f1, by rw [valG_cons, if_pos hy], h, fun k hk => List.mem_append_left _ hk, fun {X' S' fw' w'} mx hw kx hk hn nd => ?_⟩
      have hno : ∀ kv ∈ vs, kv.1 ≠ y := fun kv hkv e => by
        simp only [List.map_cons, List.nodup_cons] at nd
        exact nd.1 (by rw [hy, ← e]; exact List.mem_map.mpr ⟨kv, hkv, rfl⟩)
      have es : vs.map (fun kv => if kv.1 = y then (kv.1, w') else kv) = vs := by
        conv => rhs; rw [← List.map_id vs]
        exact List.map_congr_left fun kv hkv => by rw [if_neg (hno kv hkv)]; rfl
      refine ⟨fw' ++ f2, ?_, fun k q => (List.mem_append.mp q).elim .inl fun z => .inr ⟨List.mem_append_right _ z, fun y => hd k y z⟩⟩
      rw [List.map_cons, es]
      simp only [hy, if_true]
      exact .cons hw ((t.more mx).mono ⟨kx, fun k q o ho => hk k (List.mem_append_right _ q) (fun z => hd k z q) o ho⟩) (fun k q1 q2 => (hn k q1).elim (fun z => hd k z q2) fun z => z (List.mem_append_right _ q2))
    · rw [if_neg hy] at e
      obtain ⟨dw, fw, h1, h2, h3, h4⟩ := TvK.at t e
      refine ⟨dw, fw, by rw [valG_cons, if_neg hy]; exact h1, h2, fun k hk => List.mem_append_right _ (h3 k hk), fun {X' S' fw' w'} mx hw kx hk hn nd => ?_⟩
      obtain ⟨f2', t2, z⟩ := h4 mx hw kx (fun k q => hk k (List.mem_append_right _ q)) (fun k q => (hn k q).imp id fun y => fun y' => y (List.mem_append_right _ y')) (by simp only [List.map_cons, List.nodup_cons] at nd; exact nd.2)
      refine ⟨f1 ++ f2', ?_, fun k q => ?_⟩
      · rw [List.map_cons]
        simp only [hy, if_false]
        refine .cons ((h.more mx).mono ⟨kx, fun k q o ho => hk k (List.mem_append_left _ q) (fun y => hd k q (h3 k y)) o ho⟩) t2 (fun k q1 q2 => ?_)
        rcases z k q2 with y | y
        · exact (hn k y).elim (fun y' => hd k q1 (h3 k y')) fun y' => y' (List.mem_append_left _ q1)
        · exact hd k q1 y.1
      · rcases List.mem_append.mp q with y | y
        · exact .inr ⟨List.mem_append_left _ y, fun y' => hd k y (h3 k y')⟩
        · exact (z k y).imp id fun y' => ⟨List.mem_append_right _ y'.1, y'.2⟩
theorem atI_some {α : Type} {xs : List α} {i : Int} {w : α} (h : atI xs i = some w) : ∃ j : Nat, xs[j]? = some w ∧ ∀ {β : Type} (ys : List β), ys.length = xs.length → atI ys i = ys[j]? := by
  unfold atI at h ⊢
  cases e : ixN xs.length i with
  | none => rw [e] at h; cases h
  | some j => rw [e] at h; exact ⟨j, h, fun ys hl => by rw [hl, e]; rfl⟩
end
end Pv
end CK
end

section
set_option Elab.async false
set_option linter.all false
set_option maxRecDepth 100000
set_option maxHeartbeats 4000000
namespace CK
namespace Pv
open PySem PySem.Spec PyProof.Rows L2
section
variable {ε α β γ δ δ' σ τ l ρ : Type} {G : ε → Ctx} {c : Fx}

def gIx : U → U → Option U
  | .lst xs, .int i => atI xs i
  | .tup xs, .int i => atI xs i
  | _, _ => none
def sIx : U → U → U → Option U
  | .lst xs, .int i, w => (ixN xs.length i).map fun j => .lst (xs.set j w)
  | .tup xs, .int i, w => (ixN xs.length i).map fun j => .tup (xs.set j w)
  | _, _, _ => none
def Part (X : List Nat) (S : Store) (fp : List Nat) (d : D) (fw : List Nat) (dw : D) (rb : U → Option U) : Prop :=
  (∀ k ∈ fw, k ∈ fp) ∧ ∀ {X' : List Nat} {S' : Store} {fw' : List Nat} {w' v' : U}, Xm X X' S.length → Tv X' S' fw' dw w' → Kx X' S S' → (∀ k ∈ fp, k ∉ fw → ∀ o, S[k]? = some o → S'[k]? = some o) → (∀ k ∈ fw', k ∈ fw ∨ k ∉ fp) → rb w' = some v' → ∃ fp', Tv X' S' fp' d v' ∧ ∀ k ∈ fp', k ∈ fw' ∨ (k ∈ fp ∧ k ∉ fw)
theorem Tv.tupL {X : List Nat} {S : Store} {fp : List Nat} {d : D} {vs : List U} (t : Tv X S fp d (.tup vs)) : ∃ ds, d = .tup ds ∧ TvL X S fp ds vs := by
  cases t with
  | cl h e => cases h with | tup h => exact ⟨_, rfl, TvL.ofR h (by simpa only [U.still] using e)⟩
  | tup h => exact ⟨_, rfl, h⟩
theorem Tv.lstL {X : List Nat} {S : Store} {fp : List Nat} {d : D} {vs : List U} (t : Tv X S fp d (.lst vs)) : ∃ k fq ds, d = .ref k ∧ fp = k :: fq ∧ k ∉ fq ∧ S[k]? = some (.lst ds) ∧ TvL X S fq ds vs := by
  cases t with
  | cl h e => simp only [U.still] at e; cases e
  | lst hk e h => exact ⟨_, _, _, rfl, rfl, hk, e, h⟩
theorem Tv.ix {X : List Nat} {S : Store} {fp : List Nat} {d : D} {v w : U} {i : Int} (t : Tv X S fp d v) (e : gIx v (.int i) = some w) : ∃ dw fw, ixM d (.int i) S = .ok dw S ∧ Tv X S fw dw w ∧ Part X S fp d fw dw (sIx v (.int i)) := by
  unfold gIx at e
  split at e
  · rename_i xs _ hi
    cases hi
    obtain ⟨k, fq, ds, rfl, rfl, hk, hS, h⟩ := t.lstL
    obtain ⟨j, hj, hl⟩ := atI_some e
    have hij : ixN xs.length i = some j := by
      have := hl (List.range xs.length) (by simp)
      unfold atI at this
      rw [List.length_range] at this
      have hjl := (List.getElem?_eq_some_iff.mp hj).1
      rw [List.getElem?_range hjl] at this
      cases q : ixN xs.length i with
      | none => rw [q] at this; cases this
      | some m =>
        rw [q] at this
        obtain ⟨_, h3⟩ := List.getElem?_eq_some_iff.mp this
        simp at h3
        rw [h3]
    obtain ⟨dw, fw, h1, h2, h3, h4⟩ := h.at hj
    refine ⟨dw, fw, ?_, h2, fun k hk => List.mem_cons_of_mem _ (h3 k hk), fun {X' S' fw' w' v'} mx t' kx hkp hn er => ?_⟩
    · unfold ixM
      simp only [D.asInt, ls_lst hS, hl ds h.len, h1]
    · simp only [sIx, hij, Option.map_some, Option.some.injEq] at er
      subst er
      obtain ⟨fp', t2, z⟩ := h4 mx t' kx (fun q hq => hkp q (List.mem_cons_of_mem _ hq)) (fun q hq => (hn q hq).imp id fun y => fun y' => y (List.mem_cons_of_mem _ y'))
      have hkf : k ∉ fw := fun q => hk (h3 k q)
      refine ⟨k :: fp', .lst (fun q => ?_) (hkp k List.mem_cons_self hkf _ hS) t2, fun q hq => ?_⟩
      · rcases z k q with y | y
        · exact (hn k y).elim hkf fun y' => y' List.mem_cons_self
        · exact hk y.1
      · rcases List.mem_cons.mp hq with rfl | hq
        · exact .inr ⟨List.mem_cons_self, hkf⟩
        · exact (z q hq).imp id fun y => ⟨List.mem_cons_of_mem _ y.1, y.2⟩
  · rename_i xs _ hi
    cases hi
    obtain ⟨ds, rfl, h⟩ := t.tupL
    obtain ⟨j, hj, hl⟩ := atI_some e
    have hij : ixN xs.length i = some j := by
      have := hl (List.range xs.length) (by simp)
      unfold atI at this
      rw [List.length_range] at this
      have hjl := (List.getElem?_eq_some_iff.mp hj).1
      rw [List.getElem?_range hjl] at this
      cases q : ixN xs.length i with
      | none => rw [q] at this; cases this
      | some m =>
        rw [q] at this
        obtain ⟨_, h3⟩ := List.getElem?_eq_some_iff.mp this
        simp at h3
        rw [h3]
    obtain ⟨dw, fw, h1, h2, h3, h4⟩ := h.at hj
    refine ⟨dw, fw, ?_, h2, h3, fun {X' S' fw' w' v'} mx t' kx hkp hn er => ?_⟩
    · unfold ixM
      simp only [D.asInt, hl ds h.len, h1]
    · simp only [sIx, hij, Option.map_some, Option.some.injEq] at er
      subst er
      obtain ⟨fp', t2, z⟩ := h4 mx t' kx hkp hn
      exact ⟨fp', .tup t2, z⟩
  · cases e
end
end Pv
end CK
end

section
set_option Elab.async false
set_option linter.all false
set_option maxRecDepth 100000
set_option maxHeartbeats 4000000
namespace CK
namespace Pv
open PySem PySem.Spec PyProof.Rows L2
section
variable {ε α β γ δ δ' σ τ l ρ : Type} {G : ε → Ctx} {c : Fx}
def Fo (c : Fx) (G : ε → Ctx) (i : Nat) (fp : List Nat) (m : Env' → M D) (p : PM ε (U × (U → Option U))) : Prop := ∀ X S r s, Inv c X S r (G s) → match p s with
  | .ok a s' => ∃ dw S' fw d, m r S = .ok dw S' ∧ Inv c X S' r (G s') ∧ Kx X S S' ∧ r[i]? = some (some d) ∧ Tv X S' fw dw a.1 ∧ Part X S' fp d fw dw a.2
  | .ex _ _ _ => False
  | .bad => True

def FoP (c : Fx) (G : ε → Ctx) (i : Nat) (fp : List Nat) (m : Env' → M D) (p : PM ε (U × (U → Option U))) : Prop := ∀ X S r s, Inv c X S r (G s) → match p s with
  | .ok a s' => s' = s ∧ ∃ dw S' fw d, m r S = .ok dw S' ∧ Kx [] S S' ∧ r[i]? = some (some d) ∧ Tv X S' fw dw a.1 ∧ Part X S' fp d fw dw a.2
  | .ex _ _ _ => False
  | .bad => True
theorem FoP.f {i : Nat} {fp : List Nat} {m : Env' → M D} {p : PM ε (U × (U → Option U))} (h : FoP c G i fp m p) : Fo c G i fp m p := by
  intro X S r s I
  have := h X S r s I
  cases e : p s with
  | ok a s' => rw [e] at this; obtain ⟨rfl, dw, S', fw, d, h1, h2, h3⟩ := this; exact ⟨dw, S', fw, d, h1, I.grow h2, h2.nil, h3⟩
  | ex _ _ _ => rw [e] at this; exact this
  | bad => trivial
theorem TvL.app {X : List Nat} {S : Store} : ∀ {fp fq : List Nat} {ds es : List D} {vs ws : List U}, TvL X S fp ds vs → TvL X S fq es ws → (∀ k ∈ fp, k ∉ fq) → TvL X S (fp ++ fq) (ds ++ es) (vs ++ ws)
  | _, _, _, _, _, _, .nil, t, _ => t
  | _, _, _, _, _, _, .cons (fp := f1) (fq := f2) h t hd, t2, hq => by
    have := TvL.app t t2 (fun k hk => hq k (List.mem_append_right _ hk))
    rw [List.append_assoc]
    exact .cons h this fun k hk hk' => (List.mem_append.mp hk').elim (hd k hk) (hq k (List.mem_append_left _ hk))
theorem TvL.del {X : List Nat} {S : Store} : ∀ {fp : List Nat} {ds : List D} {vs : List U} (j : Nat), TvL X S fp ds vs → ∃ fq, TvL X S fq (ds.eraseIdx j) (vs.eraseIdx j) ∧ ∀ k ∈ fq, k ∈ fp
  | _, _, _, _, .nil => ⟨[], .nil, fun _ h => h⟩
  | _, _, _, 0, .cons _ t _ => ⟨_, t, fun k hk => List.mem_append_right _ hk⟩
  | _, _, _, j + 1, .cons (fp := f1) h t hd => by
    obtain ⟨fq, t2, z⟩ := TvL.del j t
    exact ⟨f1 ++ fq, .cons h t2 fun k hk hk' => hd k hk (z k hk'), fun k hk => (List.mem_append.mp hk).elim (fun q => List.mem_append_left _ q) fun q => List.mem_append_right _ (z k q)⟩
theorem TvL.put {X : List Nat} {S : Store} {fe : List Nat} {d : D} {x : U} (hx : Tv X S fe d x) : ∀ {fp : List Nat} {ds : List D} {vs : List U} (j : Nat), TvL X S fp ds vs → (∀ k ∈ fe, k ∉ fp) → ∃ fq, TvL X S fq (ds.set j d) (vs.set j x) ∧ ∀ k ∈ fq, k ∈ fp ∨ k ∈ fe
  | _, _, _, _, .nil, _ => ⟨[], .nil, fun _ h => .inl h⟩
  | _, _, _, 0, .cons (fq := f2) h t hd, hn => ⟨fe ++ f2, .cons hx t fun k hk hk' => hn k hk (List.mem_append_right _ hk'), fun k hk => (List.mem_append.mp hk).elim .inr fun q => .inl (List.mem_append_right _ q)⟩
  | _, _, _, j + 1, .cons (fp := f1) h t hd, hn => by
    obtain ⟨fq, t2, z⟩ := TvL.put hx j t fun k hk hk' => hn k hk (List.mem_append_right _ hk')
    refine ⟨f1 ++ fq, .cons h t2 fun k hk hk' => (z k hk').elim (hd k hk) fun q => hn k q (List.mem_append_left _ hk), fun k hk => ?_⟩
    rcases List.mem_append.mp hk with q | q
    · exact .inl (List.mem_append_left _ q)
    · exact (z k q).imp (fun y => List.mem_append_right _ y) id
theorem TvK.put {X : List Nat} {S : Store} {fe : List Nat} {d : D} {x : U} {y : Key} (hx : Tv X S fe d x) : ∀ {fp : List Nat} {ds : List (Key × D)} {vs : List (Key × U)}, TvK X S fp ds vs → (vs.map (·.1)).Nodup → (∀ k ∈ fe, k ∉ fp) → ∃ fq, TvK X S fq (putG ds y d) (putG vs y x) ∧ ∀ k ∈ fq, k ∈ fp ∨ k ∈ fe := by
  have keys : ∀ {fp : List Nat} {ds : List (Key × D)} {vs : List (Key × U)}, TvK X S fp ds vs → ds.map (·.1) = vs.map (·.1) := by
    intro fp ds vs
    induction vs generalizing fp ds with
    | nil => intro h; cases h; rfl
    | cons v vs ih => intro h; cases h with | cons h t hd => simp [ih t]
  have anyk : ∀ {β γ : Type} {ds : List (Key × β)} {vs : List (Key × γ)}, ds.map (·.1) = vs.map (·.1) → (ds.any fun kv => decide (kv.1 = y)) = (vs.any fun kv => decide (kv.1 = y)) := by
    intro β γ ds
    induction ds with
    | nil => intro vs h; cases vs with | nil => rfl | cons _ _ => cases h
    | cons a ds ih => intro vs h; cases vs with | nil => cases h | cons b vs => simp only [List.map_cons, List.cons.injEq] at h; simp only [List.any_cons, h.1, ih h.2]
  have rep : ∀ {fp : List Nat} {ds : List (Key × D)} {vs : List (Key × U)}, TvK X S fp ds vs → (vs.map (·.1)).Nodup → (∀ k ∈ fe, k ∉ fp) → ∃ fq, TvK X S fq (ds.map fun kv => if kv.1 = y then (kv.1, d) else kv) (vs.map fun kv => if kv.1 = y then (kv.1, x) else kv) ∧ ∀ k ∈ fq, k ∈ fp ∨ k ∈ fe := by
    intro fp ds vs
    induction vs generalizing fp ds with
    | nil => intro h _ _; cases h; exact ⟨[], .nil, fun _ h => .inl h⟩
    | cons v vs ih =>
      intro h nd hn
      cases h with
      | cons h t hd =>
        rename_i f1 f2 k0 d0 v0 ds
        simp only [List.map_cons, List.nodup_cons] at nd
        by_cases hy : k0 = y
        · have hno : ∀ kv ∈ vs, kv.1 ≠ y := fun kv hkv e => nd.1 (by rw [hy, ← e]; exact List.mem_map.mpr ⟨kv, hkv, rfl⟩)
          have hnd : ∀ kv ∈ ds, kv.1 ≠ y := fun kv hkv e => nd.1 (by rw [hy, ← e, ← keys t]; exact List.mem_map.mpr ⟨kv, hkv, rfl⟩)
          have es : vs.map (fun kv => if kv.1 = y then (kv.1, x) else kv) = vs := by
            conv => rhs; rw [← List.map_id vs]
            exact List.map_congr_left fun kv hkv => by rw [if_neg (hno kv hkv)]; rfl
          have ed : ds.map (fun kv => if kv.1 = y then (kv.1, d) else kv) = ds := by
            conv => rhs; rw [← List.map_id ds]
            exact List.map_congr_left fun kv hkv => by rw [if_neg (hnd kv hkv)]; rfl
          refine ⟨fe ++ f2, ?_, fun k hk => (List.mem_append.mp hk).elim .inr fun q => .inl (List.mem_append_right _ q)⟩
          rw [List.map_cons, List.map_cons, es, ed]
          simp only [hy, if_true]
          exact .cons hx t fun k hk hk' => hn k hk (List.mem_append_right _ hk')
        · obtain ⟨fq, t2, z⟩ := ih t nd.2 fun k hk hk' => hn k hk (List.mem_append_right _ hk')
          refine ⟨f1 ++ fq, ?_, fun k hk => ?_⟩
          · rw [List.map_cons, List.map_cons]
            simp only [hy, if_false]
            exact .cons h t2 fun k hk hk' => (z k hk').elim (hd k hk) fun q => hn k q (List.mem_append_left _ hk)
          · rcases List.mem_append.mp hk with q | q
            · exact .inl (List.mem_append_left _ q)
            · exact (z k q).imp (fun y => List.mem_append_right _ y) id
  have apk : ∀ {fp : List Nat} {ds : List (Key × D)} {vs : List (Key × U)}, TvK X S fp ds vs → (∀ k ∈ fe, k ∉ fp) → ∃ fq, TvK X S fq (ds ++ [(y, d)]) (vs ++ [(y, x)]) ∧ ∀ k ∈ fq, k ∈ fp ∨ k ∈ fe := by
    intro fp ds vs
    induction vs generalizing fp ds with
    | nil => intro h _; cases h; exact ⟨fe ++ [], .cons hx .nil (fun _ _ h => by cases h), fun k h => .inr (by simpa using h)⟩
    | cons v vs ih =>
      intro h hn
      cases h with
      | cons h t hd =>
        rename_i f1 f2 k0 d0 v0 ds
        obtain ⟨fq, t2, z⟩ := ih t fun k hk hk' => hn k hk (List.mem_append_right _ hk')
        refine ⟨f1 ++ fq, .cons h t2 fun k hk hk' => (z k hk').elim (hd k hk) fun q => hn k q (List.mem_append_left _ hk), fun k hk => ?_⟩
        rcases List.mem_append.mp hk with q | q
        · exact .inl (List.mem_append_left _ q)
        · exact (z k q).imp (fun y => List.mem_append_right _ y) id
  intro fp ds vs h nd hn
  unfold putG
  rw [anyk (keys h)]
  split
  · exact rep h nd hn
  · exact apk h hn
theorem TvK.len {X : List Nat} {S : Store} : ∀ {fp : List Nat} {ds : List (Key × D)} {vs : List (Key × U)}, TvK X S fp ds vs → ds.length = vs.length
  | _, _, _, .nil => rfl
  | _, _, _, .cons _ t _ => by simp [t.len]

end
end Pv
end CK
end

section
set_option Elab.async false
set_option linter.all false
set_option maxRecDepth 100000
set_option maxHeartbeats 4000000
namespace CK
namespace Pv
open PySem PySem.Spec PyProof.Rows L2
section
variable {ε α β γ δ δ' σ τ l ρ : Type} {G : ε → Ctx} {c : Fx}

end
end Pv
end CK
end

section
set_option Elab.async false
set_option linter.all false
set_option maxRecDepth 100000
set_option maxHeartbeats 4000000
namespace CK
namespace Pv
open PySem PySem.Spec PyProof.Rows L2
section
variable {ε α β γ δ δ' σ τ l ρ : Type} {G : ε → Ctx} {c : Fx}

end
end Pv
end CK
end

section
set_option Elab.async false
set_option linter.all false
set_option maxRecDepth 100000
set_option maxHeartbeats 4000000
set_option exponentiation.threshold 100000
namespace CK
namespace Pv
open PySem PySem.Spec PyProof.Rows L2
section
variable {ε α β γ σ τ l ρ : Type}

@[irreducible] def px (x : PM ε α) (s : ε) (Q : α → ε → Prop) (E : Str → List (Str × D) → ε → Prop) : Prop := match x s with
  | .ok a s' => Q a s'
  | .ex n fs s' => E n fs s'
  | .bad => False
abbrev E0 : Str → List (Str × D) → ε → Prop := fun _ _ _ => False
variable {s : ε} {Q : α → ε → Prop} {E : Str → List (Str × D) → ε → Prop}
theorem px_ret {a : α} : px (ret a) s Q E = Q a s := by unfold px; rfl
theorem px_pbad : px (pbad : PM ε α) s Q E = False := by unfold px; rfl
theorem px_bnd {x : PM ε β} {k : β → PM ε α} : px (bnd x k) s Q E = px x s (fun a s' => px (k a) s' Q E) E := by
  unfold px bnd; cases x s <;> rfl
theorem px_ite {c : Prop} [Decidable c] {x y : PM ε α} : px (if c then x else y) s Q E = if c then px x s Q E else px y s Q E := by split <;> rfl
theorem px_throw {n : Str} {fs : List (Str × D)} : px (pthrow n fs : PM ε α) s Q E = E n fs s := by unfold px; rfl
theorem px_getS {Q : ε → ε → Prop} : px (getS : PM ε ε) s Q E = Q s s := by unfold px; rfl
theorem px_putS {s' : ε} {Q : Unit → ε → Prop} : px (putS s') s Q E = Q () s' := by unfold px; rfl
theorem px_opt {o : Option α} : px (optP o) s Q E = ∃ v, o = some v ∧ Q v s := by
  unfold px optP; cases o <;> simp
theorem px_at {xs : List α} {i : Int} : px (optP (atI xs i)) s Q E = ∃ v, atI xs i = some v ∧ Q v s := px_opt
theorem px_some {a : α} : px (optP (some a)) s Q E = Q a s := by rw [px_opt]; simp
theorem px_lft {x : PM Unit α} : px (lft x) s Q E = px x () (fun a _ => Q a s) (fun n f _ => E n f s) := by
  unfold px lft; cases x () <;> rfl
theorem px_run {x : PM ε α} {s0 : ε} {Q : α → Unit → Prop} {E : Str → List (Str × D) → Unit → Prop} {u : Unit} : px (runS s0 x) u Q E = px x s0 (fun a _ => Q a ()) (fun n f _ => E n f ()) := by
  unfold px runS; cases x s0 <;> rfl
theorem px_imp {x : PM ε α} {Q' : α → ε → Prop} {E' : Str → List (Str × D) → ε → Prop} (h : px x s Q E) (f : ∀ a s, Q a s → Q' a s) (g : ∀ n fs s, E n fs s → E' n fs s) : px x s Q' E' := by
  unfold px at h ⊢; cases e : x s <;> simp only [e] at h ⊢
  · exact f _ _ h
  · exact g _ _ _ h
theorem px_mono {x : PM ε α} {Q' : α → ε → Prop} (h : px x s Q E) (f : ∀ a s, Q a s → Q' a s) : px x s Q' E := px_imp h f fun _ _ _ h => h
theorem px_ok {x : PM ε α} (h : px x s Q E0) : ∃ a s', x s = .ok a s' ∧ Q a s' := by
  unfold px at h
  cases e : x s with
  | ok a s' => rw [e] at h; exact ⟨_, _, rfl, h⟩
  | ex _ _ _ => rw [e] at h; exact h.elim
  | bad => rw [e] at h; exact h.elim
theorem px_hid {u : ε → Option ε} {Q : Unit → ε → Prop} : px (hidU u) s Q E = ∃ s', u s = some s' ∧ Q () s' := by
  unfold px hidU; cases u s <;> simp

def finQ (Q : U → ε → Prop) : Out Unit Unit U → ε → Prop
  | .rt v, s => Q v s
  | _, _ => False
def finN (Q : U → ε → Prop) : Out Unit Unit U → ε → Prop
  | .rt v, s => Q v s
  | .nx _, s => Q .non s
  | _, _ => False
variable {QU : U → ε → Prop}
theorem px_fnP {x : PM ε (Out Unit Unit U)} : px (fnP x) s QU E = px x s (finQ QU) E := by
  unfold fnP; rw [px_bnd]; congr 1; funext o s'; cases o <;> simp [finQ, px_ret, px_pbad]
theorem px_fnN {x : PM ε (Out Unit Unit U)} : px (fnN x) s QU E = px x s (finN QU) E := by
  unfold fnN; rw [px_bnd]; congr 1; funext o s'; cases o <;> simp [finN, px_ret, px_pbad]
theorem fin_rt {v : U} : finQ QU (.rt v) s = QU v s := id rfl
theorem fin_nx : finQ QU (.nx ()) s = False := id rfl
theorem finN_rt {v : U} : finN QU (.rt v) s = QU v s := id rfl
theorem finN_nx {u : Unit} : finN QU (.nx u) s = QU .non s := id rfl

def aftQ (k : σ → PM ε (Out τ l ρ)) (Q : Out τ l ρ → ε → Prop) (E : Str → List (Str × D) → ε → Prop) : Out σ l ρ → ε → Prop
  | .nx v, s => px (k v) s Q E
  | .rt v, s => Q (.rt v) s
  | .bk v, s => Q (.bk v) s
  | .ct v, s => Q (.ct v) s
variable {QO : Out τ l ρ → ε → Prop}
theorem px_bndO {x : PM ε (Out σ l ρ)} {k : σ → PM ε (Out τ l ρ)} : px (bndO x k) s QO E = px x s (aftQ k QO E) E := by
  unfold bndO; rw [px_bnd]; congr 1; funext o s'; cases o <;> simp [aftQ, px_ret]

theorem px_join {x : PM ε (Out σ l ρ)} {k : σ → PM ε (Out τ l ρ)} (P : σ → ε → Prop) (h : px x s (fun o s' => match o with | .nx v => P v s' | .rt v => QO (.rt v) s' | .bk v => QO (.bk v) s' | .ct v => QO (.ct v) s') E) (hk : ∀ v s', P v s' → px (k v) s' QO E) : px (bndI x k) s QO E := by
  unfold bndI
  rw [px_bndO]
  refine px_mono h fun o s' ho => ?_
  cases o with
  | nx v => exact hk v s' ho
  | rt v => exact ho
  | bk v => exact ho
  | ct v => exact ho
theorem px_bndI {x : PM ε (Out σ l ρ)} {k : σ → PM ε (Out τ l ρ)} : px (bndI x k) s QO E = px x s (aftQ k QO E) E := px_bndO
theorem aft_nx {k : σ → PM ε (Out τ l ρ)} {v : σ} : aftQ k QO E (.nx v) s = px (k v) s QO E := id rfl
theorem aft_rt {k : σ → PM ε (Out τ l ρ)} {v : ρ} : aftQ k QO E (.rt v) s = QO (.rt v) s := id rfl
theorem aft_bk {k : σ → PM ε (Out τ l ρ)} {v : l} : aftQ k QO E (.bk v) s = QO (.bk v) s := id rfl
theorem aft_ct {k : σ → PM ε (Out τ l ρ)} {v : l} : aftQ k QO E (.ct v) s = QO (.ct v) s := id rfl

def lpQ (I : σ → ε → Prop) (Q : Out σ l ρ → ε → Prop) : Out σ σ ρ → ε → Prop
  | .nx w, s => I w s
  | .ct w, s => I w s
  | .bk w, s => Q (.nx w) s
  | .rt r, s => Q (.rt r) s
variable {QL : Out σ l ρ → ε → Prop}
theorem lp_nx {I : σ → ε → Prop} {w : σ} : lpQ I QL (.nx w) s = I w s := id rfl
theorem lp_ct {I : σ → ε → Prop} {w : σ} : lpQ I QL (.ct w) s = I w s := id rfl
theorem lp_bk {I : σ → ε → Prop} {w : σ} : lpQ I QL (.bk w) s = QL (.nx w) s := id rfl
theorem lp_rt {I : σ → ε → Prop} {w : ρ} : lpQ I QL (.rt w) s = QL (.rt w) s := id rfl
theorem px_aftO {I : σ → ε → Prop} {x : PM ε (Out σ σ ρ)} {k : σ → PM ε (Out σ l ρ)} (h : px x s (lpQ I QL) E) (hk : ∀ w s, I w s → px (k w) s QL E) : px (bnd x (aftO k)) s QL E := by
  rw [px_bnd]
  refine px_mono h fun o s' ho => ?_
  cases o with
  | nx w => exact hk w s' ho
  | ct w => exact hk w s' ho
  | bk w => show px (ret (.nx w)) s' QL E; rw [px_ret]; exact ho
  | rt r => show px (ret (.rt r)) s' QL E; rw [px_ret]; exact ho

theorem px_for {xs : List α} {v : σ} {f : α → σ → PM ε (Out σ σ ρ)} (hl : xs.length < FU) (I : Nat → σ → ε → Prop) (h0 : I 0 v s) (hs : ∀ i x v s, xs[i]? = some x → I i v s → px (f x v) s (lpQ (I (i + 1)) QL) E) (hq : ∀ v s, I xs.length v s → QL (.nx v) s) : px (forP xs v f) s QL E := by
  rw [forP_eq]
  rw [if_pos hl]
  have key : ∀ (ys : List α) (i : Nat) (v : σ) (s : ε), ys = xs.drop i → i ≤ xs.length → I i v s → px (forG f ys v) s QL E := by
    intro ys
    induction ys with
    | nil =>
      intro i v s hy hl hi
      unfold forG
      rw [px_ret]
      have : xs.length ≤ i := by have := congrArg List.length hy; simp at this; omega
      have e : i = xs.length := by omega
      subst e
      exact hq v s hi
    | cons y ys ih =>
      intro i v s hy hl hi
      have hlt : i < xs.length := by have := congrArg List.length hy; simp at this; omega
      have h2 := List.drop_eq_getElem_cons hlt
      rw [h2] at hy
      injection hy with h3 h4
      unfold forG
      exact px_aftO (hs i y v s (by rw [List.getElem?_eq_getElem hlt, h3]) hi) fun w s' hw => ih (i + 1) w s' h4 hlt hw
  exact key xs 0 v s (by simp) (Nat.zero_le _) h0

theorem px_forL {xs : List α} {v : σ} {f : α → σ → PM ε (Out σ σ ρ)} (hl : xs.length < FU) (I : List α → σ → ε → Prop) (h0 : I xs v s) (hs : ∀ x ys v s, I (x :: ys) v s → px (f x v) s (lpQ (I ys) QL) E) (hq : ∀ v s, I [] v s → QL (.nx v) s) : px (forP xs v f) s QL E := by
  rw [forP_eq]
  rw [if_pos hl]
  clear hl
  induction xs generalizing v s with
  | nil => unfold forG; rw [px_ret]; exact hq v s h0
  | cons x xs ih => unfold forG; exact px_aftO (hs x xs v s h0) fun w s' hw => ih hw

theorem lc_map {xs : List α} {f : α → U} {F : U → PM ε (Option U)} {g : α → Option U} (hl : xs.length < sizeLine) (h : ∀ x ∈ xs, F (f x) = ret (g x)) : lcU (xs.map f) F = ret (U.lst (xs.filterMap g)) := by
  have key : ∀ ys : List α, (∀ x ∈ ys, F (f x) = ret (g x)) → lcG F (ys.map f) = ret (ys.filterMap g) := by
    intro ys
    induction ys with
    | nil => intro _; rfl
    | cons y ys ih =>
      intro hy
      funext s
      rw [List.map_cons, lcG, hy y (by simp)]
      have := ih fun x hx => hy x (by simp [hx])
      unfold bnd nox
      rw [this]
      rw [List.filterMap_cons]
      cases g y <;> rfl
  unfold lcU lcP
  rw [List.length_map, if_pos hl, key xs h]
  rfl
theorem fm_some {xs : List α} {f : α → U} : (xs.filterMap fun x => some (f x)) = xs.map f := by
  induction xs with
  | nil => rfl
  | cons x xs ih => rw [List.filterMap_cons, ih]; rfl
end

section
variable {ε α β γ : Type}
theorem ret_bnd {a : α} {k : α → PM ε β} : bnd (ret a) k = k a := id rfl
theorem opt_ret {a : α} : (optP (some a) : PM ε α) = ret a := id rfl
theorem opt_bad : (optP none : PM ε α) = pbad := id rfl
theorem lft_ret {a : α} : (lft (ret a) : PM ε α) = ret a := id rfl
theorem bndI_nx {σ τ l ρ : Type} {v : σ} {k : σ → PM ε (Out τ l ρ)} : bndI (ret (.nx v)) k = k v := id rfl
theorem bndI_rt {σ τ l ρ : Type} {v : ρ} {k : σ → PM ε (Out τ l ρ)} : bndI (ret (.rt v)) k = ret (.rt v) := id rfl
theorem asB_bl {b : Bool} : (asB (.bl b) : PM ε Bool) = ret b := id rfl
variable {i j : Int} {b : Bool} {xs ys : List U} {x y z u v : U}
theorem add_int : (addU (.int i) (.int j) : PM ε U) = ret (.int (i + j)) := id rfl
theorem sub_int : (loc2 subM (.int i) (.int j) : PM ε U) = ret (.int (i - j)) := id rfl
theorem lt_int : (loc2 ltM (.int i) (.int j) : PM ε U) = ret (.bl (decide (i < j))) := id rfl
theorem le_int : (loc2 leM (.int i) (.int j) : PM ε U) = ret (.bl (decide (i ≤ j))) := id rfl
theorem gt_int : (loc2 gtM (.int i) (.int j) : PM ε U) = ret (.bl (decide (j < i))) := id rfl
theorem ge_int : (loc2 geM (.int i) (.int j) : PM ε U) = ret (.bl (decide (j ≤ i))) := id rfl
theorem neg_int : (loc1 negM (.int i) : PM ε U) = ret (.int (-i)) := id rfl
theorem toU_ok {z : D} {S : Store} : (toU (.ok z S) : PM ε U) = optP (ofD z) := by funext s; unfold toU optP; dsimp only; cases ofD z <;> rfl
theorem iop_int {C : Int → Int → Prop} [∀ i j, Decidable (C i j)] {g : Int → Int → D} (h : C i j) : (loc2 (iOp C g) (.int i) (.int j) : PM ε U) = optP (ofD (g i j)) := by
  show toU (if C i j then .ok (g i j) [] else .bad) = _
  rw [if_pos h, toU_ok]
theorem pow_int (h : CPowX i j) : (loc2 powM (.int i) (.int j) : PM ε U) = ret (.int (i ^ j.toNat)) := by rw [iop_int h]; rfl
theorem abs_int : (locA absM [.int i] : PM ε U) = ret (.int (if i < 0 then -i else i)) := id rfl
theorem int_int : (locA intM [.int i] : PM ε U) = ret (.int i) := id rfl
theorem int_bl : (locA intM [.bl b] : PM ε U) = ret (.int (if b then 1 else 0)) := id rfl
theorem max_int : (locA maxM [.int i, .int j] : PM ε U) = ret (.int (if j > i then j else i)) := id rfl
theorem min_int : (locA minM [.int i, .int j] : PM ε U) = ret (.int (if j < i then j else i)) := id rfl
theorem len_tup : (lenU (.tup xs) : PM ε U) = ret (.int xs.length) := id rfl
theorem len_lst : (lenU (.lst xs) : PM ε U) = ret (.int xs.length) := id rfl
theorem len_fz : (lenU (.fz xs) : PM ε U) = ret (.int xs.length) := id rfl
theorem len_dk {kv : List (Key × U)} : (lenU (.dk kv) : PM ε U) = ret (.int kv.length) := id rfl
theorem walk_tup : (walkU (.tup xs) : PM ε (List U)) = ret xs := id rfl
theorem walk_lst : (walkU (.lst xs) : PM ε (List U)) = ret xs := id rfl
theorem walk_fz : (walkU (.fz xs) : PM ε (List U)) = ret xs := id rfl
theorem ix_tup : (ixP (.tup xs) (.int i) : PM ε U) = optP (atI xs i) := id rfl
theorem ix_lst : (ixP (.lst xs) (.int i) : PM ε U) = optP (atI xs i) := id rfl
theorem ix_fz : (ixP (.fz xs) (.int i) : PM ε U) = optP (atI xs i) := id rfl
theorem at_0 : atI (x :: xs) 0 = some x := at0
theorem at_1 : atI (x :: y :: xs) 1 = some y := at1
theorem at_2 : atI (x :: y :: z :: xs) 2 = some z := at2
theorem at_3 : atI (x :: y :: z :: u :: xs) 3 = some u := atI_nat (j := 3) rfl
theorem at_4 : atI (x :: y :: z :: u :: v :: xs) 4 = some v := atI_nat (j := 4) rfl
theorem at_nat {xs : List α} {j : Nat} {v : α} {i : Int} (e : i = (j : Int)) (h : xs[j]? = some v) : atI xs i = some v := by subst e; exact atI_nat h
theorem is_non : (isU .non .non : PM ε U) = ret (.bl true) := id rfl
theorem is_int : (isU (.int i) .non : PM ε U) = ret (.bl false) := id rfl
theorem is_tup : (isU (.tup xs) .non : PM ε U) = ret (.bl false) := id rfl
theorem is_lst : (isU (.lst xs) .non : PM ε U) = ret (.bl false) := id rfl
theorem is_bl {c : Bool} : (isU (.bl b) (.bl c) : PM ε U) = ret (.bl (decide (b = c))) := id rfl
theorem not_non : (notU .non .non : PM ε U) = ret (.bl false) := id rfl
theorem not_int : (notU (.int i) .non : PM ε U) = ret (.bl true) := id rfl
theorem not_tup : (notU (.tup xs) .non : PM ε U) = ret (.bl true) := id rfl
theorem not_lst : (notU (.lst xs) .non : PM ε U) = ret (.bl true) := id rfl
theorem not_bl {c : Bool} : (notU (.bl b) (.bl c) : PM ε U) = ret (.bl (!decide (b = c))) := id rfl
theorem t2_tup : asT2 (.tup [x, y]) = some (x, y) := id rfl
theorem t3_tup : asT3 (.tup [x, y, z]) = some (x, y, z) := id rfl
theorem t4_tup : asT4 (.tup [x, y, z, u]) = some (x, y, z, u) := id rfl
theorem t5_tup : asT5 (.tup [x, y, z, u, v]) = some (x, y, z, u, v) := id rfl
theorem s2_lst : asS2 (.lst [x, y]) = some (x, y) := id rfl
theorem s2_tup : asS2 (.tup [x, y]) = some (x, y) := id rfl
theorem lsG_lst {p : PM ε α} : lsG (.lst xs) p = p := id rfl
theorem look_lst {p : PM ε α} : lookP (.lst xs) p = p := id rfl
theorem app_mu (h : xs.length < sizeLine) : mu appU (.lst xs) [x] = some (.lst (xs ++ [x])) := by unfold mu appU; dsimp only; rw [if_pos h]; rfl
theorem ext_mu (h : xs.length + ys.length ≤ sizeLine) : mu extU (.lst xs) [.lst ys] = some (.lst (xs ++ ys)) := by unfold mu extU; dsimp only; rw [if_pos h]; rfl
theorem ins_mu (h : xs.length < sizeLine) (h0 : 0 ≤ i) (h1 : i < 2 ^ 63) : mu insU (.lst xs) [.int i, x] = some (.lst (xs.take i.toNat ++ [x] ++ xs.drop i.toNat)) := by unfold mu insU; dsimp only; rw [if_pos ⟨h, h0, h1⟩]; rfl
theorem clr_mu : mu clrU (.lst xs) [] = some (.lst []) := id rfl
theorem rng1_int (h : okR i) : (rng1P (.int i) : PM ε (List U)) = ret (rgU 0 i) := by funext s; show (if okR i then PR.ok (rgU 0 i) s else .bad) = _; rw [if_pos h]; rfl
theorem rng2_int (h : okR i ∧ okR j) : (rngP (.int i) (.int j) : PM ε (List U)) = ret (rgU i j) := by funext s; show (if okR i ∧ okR j then PR.ok (rgU i j) s else .bad) = _; rw [if_pos h]; rfl
theorem enum_lst : (enumP (.lst xs) : PM ε (List U)) = ret (enumG 0 xs) := id rfl
theorem enum_tup : (enumP (.tup xs) : PM ε (List U)) = ret (enumG 0 xs) := id rfl
theorem zip_lst : (zipP (.lst xs) (.lst ys) : PM ε (List U)) = ret (List.zipWith (fun x y => .tup [x, y]) xs ys) := id rfl
theorem rgU_len : (rgU i j).length = (j - i).toNat := by unfold rgU; simp
theorem rgU_get {n : Nat} (h : n < (j - i).toNat) : (rgU i j)[n]? = some (.int (i + n)) := by unfold rgU; rw [List.getElem?_map, List.getElem?_range h]; rfl
theorem rgU_at {n : Nat} {x : U} (h : (rgU i j)[n]? = some x) : n < (j - i).toNat ∧ x = .int (i + n) := by
  have hl : n < (j - i).toNat := by have := (List.getElem?_eq_some_iff.mp h).1; rwa [rgU_len] at this
  rw [rgU_get hl] at h; cases h; exact ⟨hl, rfl⟩
theorem cut_hi {xs : List α} {i : Int} (h : 0 ≤ i) : cutD xs none (some i) = xs.take i.toNat := by
  unfold cutD
  have h1 : ¬ i < 0 := by omega
  simp only [HT.sIx, h1, if_false, List.drop_zero, Nat.sub_zero]
  by_cases e : i.toNat ≤ xs.length
  · rw [Nat.min_eq_left e]
  · rw [Nat.min_eq_right (by omega), List.take_length, List.take_of_length_le (by omega)]
theorem list_tup : (listU (.tup xs) : PM ε U) = ret (.lst xs) := id rfl
theorem list_lst : (listU (.lst xs) : PM ε U) = ret (.lst xs) := id rfl
theorem tuple_tup : (tupleU (.tup xs) : PM ε U) = ret (.tup xs) := id rfl
theorem tuple_lst : (tupleU (.lst xs) : PM ε U) = ret (.tup xs) := id rfl
theorem part_int : (partP (.int i) : PM ε (Option Int)) = ret (some i) := id rfl
theorem cut_tup {lo hi : Option Int} : (cutP (.tup xs) lo hi : PM ε U) = ret (.tup (cutD xs lo hi)) := id rfl
theorem cut_lst {lo hi : Option Int} : (cutP (.lst xs) lo hi : PM ε U) = ret (.lst (cutD xs lo hi)) := id rfl
theorem cutL_lst {lo hi : Option Int} : (cutL (.lst xs) lo hi : PM ε U) = ret (.lst (cutD xs lo hi)) := id rfl
theorem rev_lst : (revU (.lst xs) : PM ε U) = ret (.lst xs.reverse) := id rfl

theorem eq_int : (eqP (.int i) (.int j) : PM ε U) = ret (.bl (i == j)) := by funext s; unfold eqP; simp only [pyU, PyData.eqv]; rfl
theorem ne_int : (neP (.int i) (.int j) : PM ε U) = ret (.bl (!(i == j))) := by funext s; unfold neP; simp only [pyU, PyData.eqv]; rfl
theorem eq_bl {c : Bool} : (eqP (.bl b) (.bl c) : PM ε U) = ret (.bl (b == c)) := by funext s; unfold eqP; simp only [pyU, PyData.eqv]; rfl
theorem ne_bl {c : Bool} : (neP (.bl b) (.bl c) : PM ε U) = ret (.bl (!(b == c))) := by funext s; unfold neP; simp only [pyU, PyData.eqv]; rfl
theorem dk_int {kv : List (Key × U)} {k : Option U → PM ε α} : dkP (.dk kv) (.int i) k = k (valG kv (.inl i)) := id rfl
theorem put_int {kv : List (Key × U)} (h : kv.length < sizeLine) : putU (.dk kv) (.int i) x = some (.dk (putG kv (.inl i) x)) := by unfold putU; simp only [keyU]; rw [if_pos h]

inductive Pln : Nat → U → Prop
  | non {n : Nat} : Pln (n + 1) .non
  | int {n : Nat} (i : Int) : Pln (n + 1) (.int i)
  | str {n : Nat} {x : Str} (h : PyData.canLay0 (.str x) = true) : Pln (n + 1) (.str x)
  | tup {n : Nat} {xs : List U} (h : ∀ x ∈ xs, Pln n x) : Pln (n + 1) (.tup xs)
  | lst {n : Nat} {xs : List U} (h : ∀ x ∈ xs, Pln n x) : Pln (n + 1) (.lst xs)
theorem Pln.mono : ∀ {n m : Nat} {u : U}, Pln n u → n ≤ m → Pln m u
  | _, 0, _, h, hm => by cases h <;> omega
  | _, m + 1, _, .non, _ => .non
  | _, m + 1, _, .int i, _ => .int i
  | _, m + 1, _, .str h, _ => .str h
  | _, m + 1, _, .tup h, hm => .tup fun x hx => (h x hx).mono (by omega)
  | _, m + 1, _, .lst h, hm => .lst fun x hx => (h x hx).mono (by omega)
theorem optAll_some {f : α → Option β} : ∀ {xs : List α}, (∀ x ∈ xs, ∃ y, f x = some y) → ∃ ys, optAll f xs = some ys
  | [], _ => ⟨[], rfl⟩
  | x :: xs, h => by
    obtain ⟨y, hy⟩ := h x (by simp)
    obtain ⟨ys, hys⟩ := optAll_some (xs := xs) fun z hz => h z (by simp [hz])
    exact ⟨y :: ys, by unfold optAll; rw [hy, hys]⟩
theorem Pln.py : ∀ {n m : Nat} {u : U}, Pln n u → n ≤ m → ∃ p, pyU m u = some p
  | _, 0, _, h, hm => by cases h <;> omega
  | _, m + 1, _, .non, _ => ⟨_, rfl⟩
  | _, m + 1, _, .int i, _ => ⟨_, rfl⟩
  | _, m + 1, _, .str h, _ => ⟨_, by unfold pyU; simp only [h, if_true]; rfl⟩
  | _, m + 1, _, .tup h, hm => by
    obtain ⟨ys, hys⟩ := optAll_some (f := pyU m) fun x hx => (h x hx).py (m := m) (by omega)
    exact ⟨.tuple ys, by unfold pyU; simp only [hys]; rfl⟩
  | _, m + 1, _, .lst h, hm => by
    obtain ⟨ys, hys⟩ := optAll_some (f := pyU m) fun x hx => (h x hx).py (m := m) (by omega)
    exact ⟨.list ys, by unfold pyU; simp only [hys]; rfl⟩
theorem eqvAll_iff {f g : α → Option PyData} : ∀ {xs ys : List α} {ps qs : List PyData}, optAll f xs = some ps → optAll g ys = some qs → (∀ x ∈ xs, ∀ y ∈ ys, ∀ p q, f x = some p → g y = some q → (PyData.eqv p q = true ↔ x = y)) → (PyData.eqvAll ps qs = true ↔ xs = ys)
  | [], [], _, _, h1, h2, _ => by cases h1; cases h2; simp [PyData.eqvAll]
  | [], y :: ys, ps, qs, h1, h2, _ => by
    cases h1
    unfold optAll at h2
    cases e1 : g y <;> cases e2 : optAll g ys <;> simp [e1, e2] at h2
    subst h2; simp [PyData.eqvAll]
  | x :: xs, [], ps, qs, h1, h2, _ => by
    cases h2
    unfold optAll at h1
    cases e1 : f x <;> cases e2 : optAll f xs <;> simp [e1, e2] at h1
    subst h1; simp [PyData.eqvAll]
  | x :: xs, y :: ys, ps, qs, h1, h2, h => by
    unfold optAll at h1 h2
    cases e1 : f x with
    | none => simp [e1] at h1
    | some p =>
    cases e2 : optAll f xs with
    | none => simp [e1, e2] at h1
    | some ps' =>
    cases e3 : g y with
    | none => simp [e3] at h2
    | some q =>
    cases e4 : optAll g ys with
    | none => simp [e3, e4] at h2
    | some qs' =>
      simp only [e1, e2, Option.some.injEq] at h1
      simp only [e3, e4, Option.some.injEq] at h2
      subst h1 h2
      have a1 := h x (by simp) y (by simp) p q e1 e3
      have a2 := eqvAll_iff e2 e4 fun x hx y hy => h x (by simp [hx]) y (by simp [hy])
      simp only [PyData.eqvAll, Bool.and_eq_true, a1, a2, List.cons.injEq]
theorem Pln.shape {m : Nat} {y : U} {q : PyData} (h : ∃ k, Pln k y) (e : pyU (m + 1) y = some q) : (y = .non ∧ q = .none) ∨ (∃ i, y = .int i ∧ q = .int i) ∨ (∃ x, y = .str x ∧ q = .str x) ∨
    (∃ ys qs k, y = .tup ys ∧ q = .tuple qs ∧ optAll (pyU m) ys = some qs ∧ ∀ y ∈ ys, Pln k y) ∨ (∃ ys qs k, y = .lst ys ∧ q = .list qs ∧ optAll (pyU m) ys = some qs ∧ ∀ y ∈ ys, Pln k y) := by
  obtain ⟨k, h⟩ := h
  cases h with
  | non => cases e; exact .inl ⟨rfl, rfl⟩
  | int i => cases e; exact .inr (.inl ⟨i, rfl, rfl⟩)
  | str h0 => unfold pyU at e; simp only [h0, if_true] at e; cases e; exact .inr (.inr (.inl ⟨_, rfl, rfl⟩))
  | tup h =>
    rename_i xs
    unfold pyU at e
    cases h1 : optAll (pyU m) xs with
    | none => simp [h1] at e
    | some ps => simp [h1] at e; exact .inr (.inr (.inr (.inl ⟨xs, ps, _, rfl, e.symm, h1, h⟩)))
  | lst h =>
    rename_i xs
    unfold pyU at e
    cases h1 : optAll (pyU m) xs with
    | none => simp [h1] at e
    | some ps => simp [h1] at e; exact .inr (.inr (.inr (.inr ⟨xs, ps, _, rfl, e.symm, h1, h⟩)))
theorem eqv_iff : ∀ {n m : Nat} {x y : U} {p q : PyData}, (∃ k, Pln k x) → (∃ k, Pln k y) → pyU n x = some p → pyU m y = some q → (PyData.eqv p q = true ↔ x = y)
  | 0, _, _, _, _, _, _, _, h, _ => by cases h
  | _ + 1, 0, _, _, _, _, _, _, _, h => by cases h
  | n + 1, m + 1, x, y, p, q, hx, hy, e1, e2 => by
    have ih : ∀ {xs ys : List U} {ps qs : List PyData} {k k' : Nat}, (∀ x ∈ xs, Pln k x) → (∀ y ∈ ys, Pln k' y) → optAll (pyU n) xs = some ps → optAll (pyU m) ys = some qs → (PyData.eqvAll ps qs = true ↔ xs = ys) := fun h1 h2 e1 e2 =>
      eqvAll_iff e1 e2 fun x hx y hy p q g1 g2 => eqv_iff ⟨_, h1 x hx⟩ ⟨_, h2 y hy⟩ g1 g2
    rcases Pln.shape hx e1 with ⟨rfl, rfl⟩ | ⟨i, rfl, rfl⟩ | ⟨a, rfl, rfl⟩ | ⟨xs, ps, k, rfl, rfl, h1, h2⟩ | ⟨xs, ps, k, rfl, rfl, h1, h2⟩ <;>
    rcases Pln.shape hy e2 with ⟨rfl, rfl⟩ | ⟨j, rfl, rfl⟩ | ⟨b, rfl, rfl⟩ | ⟨ys, qs, k', rfl, rfl, h3, h4⟩ | ⟨ys, qs, k', rfl, rfl, h3, h4⟩ <;>
    (try (simp [PyData.eqv]; done))
    · simp only [PyData.eqv, U.tup.injEq]; exact ih h2 h4 h1 h3
    · simp only [PyData.eqv, U.lst.injEq]; exact ih h2 h4 h1 h3
open Classical in
theorem eq_pln {n m : Nat} (hx : Pln n x) (hy : Pln m y) (hn : n ≤ 199) (hm : m ≤ 199) : (eqP x y : PM ε U) = ret (.bl (decide (x = y))) := by
  obtain ⟨p, hp⟩ := hx.py hn
  obtain ⟨q, hq⟩ := hy.py hm
  funext s
  unfold eqP
  rw [hp, hq]
  have := eqv_iff ⟨_, hx⟩ ⟨_, hy⟩ hp hq
  show PR.ok (U.bl (PyData.eqv p q)) s = PR.ok _ s
  congr 2
  by_cases h : x = y
  · simp [h, this.mpr h]
  · simp only [h, decide_false]; cases e : PyData.eqv p q with
    | false => rfl
    | true => exact absurd (this.mp e) h
open Classical in
theorem ne_pln {n m : Nat} (hx : Pln n x) (hy : Pln m y) (hn : n ≤ 199) (hm : m ≤ 199) : (neP x y : PM ε U) = ret (.bl (decide (x ≠ y))) := by
  have h1 := eq_pln (ε := ε) hx hy hn hm
  obtain ⟨p, hp⟩ := hx.py hn
  obtain ⟨q, hq⟩ := hy.py hm
  funext s
  have h2 := congrFun h1 s
  unfold eqP at h2
  unfold neP
  rw [hp, hq] at h2 ⊢
  have h3 : PyData.eqv p q = decide (x = y) := by
    have : PR.ok (U.bl (PyData.eqv p q)) s = PR.ok (U.bl (decide (x = y))) s := h2
    injection this with h; injection h
  show PR.ok (U.bl (!PyData.eqv p q)) s = PR.ok _ s
  rw [h3]
  by_cases h : x = y <;> simp [h]
end
section
variable {ε α : Type} {s : ε} {Q : U → ε → Prop} {E : Str → List (Str × D) → ε → Prop} {i j : Int} {xs ys : List U} {x y : U}
theorem px_if {c : Prop} [Decidable c] {p : PM ε α} {Q : α → ε → Prop} : px (if c then p else pbad) s Q E = (c ∧ px p s Q E) := by
  rw [px_ite]; by_cases h : c <;> simp [h, px_pbad]
theorem px_iop {C : Int → Int → Prop} [∀ i j, Decidable (C i j)] {g : Int → Int → D} : px (loc2 (iOp C g) (.int i) (.int j)) s Q E = (C i j ∧ px (optP (ofD (g i j))) s Q E) := by
  by_cases h : C i j
  · rw [iop_int h]; simp [h]
  · have : (loc2 (iOp C g) (.int i) (.int j) : PM ε U) = pbad := by
      show toU (if C i j then .ok (g i j) [] else .bad) = _
      rw [if_neg h]; rfl
    rw [this, px_pbad]; simp [h]
theorem px_mod : px (loc2 modM (.int i) (.int j)) s Q E = (0 < j ∧ Q (.int (i % j)) s) := by rw [px_iop]; simp [ofD, px_some]
theorem px_div : px (loc2 fdivM (.int i) (.int j)) s Q E = (CDivW i j ∧ Q (.int (i / j)) s) := by rw [px_iop]; simp [ofD, px_some]
theorem px_pow : px (loc2 powM (.int i) (.int j)) s Q E = (CPowX i j ∧ Q (.int (i ^ j.toNat)) s) := by rw [px_iop]; simp [ofD, px_some]
theorem px_mul : px (mulU (.int i) (.int j)) s Q E = (CMulX i j ∧ Q (.int (i * j)) s) := by
  show px (if CMulX i j then ret (.int (i * j)) else pbad) s Q E = _
  rw [px_if, px_ret]
theorem px_addT : px (addU (.tup xs) (.tup ys)) s Q E = (xs.length + ys.length ≤ sizeLine ∧ Q (.tup (xs ++ ys)) s) := by
  show px (if xs.length + ys.length ≤ sizeLine then ret (.tup (xs ++ ys)) else pbad) s Q E = _
  rw [px_if, px_ret]
theorem px_addL : px (addU (.lst xs) (.lst ys)) s Q E = (xs.length + ys.length ≤ sizeLine ∧ Q (.lst (xs ++ ys)) s) := by
  show px (if xs.length + ys.length ≤ sizeLine then ret (.lst (xs ++ ys)) else pbad) s Q E = _
  rw [px_if, px_ret]
theorem px_cat : px (catU (.lst xs) (.lst ys)) s Q E = (xs.length + ys.length ≤ sizeLine ∧ Q (.lst (xs ++ ys)) s) := by
  show px (if xs.length + ys.length ≤ sizeLine then ret (.lst (xs ++ ys)) else pbad) s Q E = _
  rw [px_if, px_ret]
theorem px_rep : px (repU (.lst xs) (.int j)) s Q E = ((-(2 ^ 63) ≤ j ∧ j < 2 ^ 63 ∧ xs.length * j.toNat ≤ sizeLine) ∧ Q (.lst (List.replicate j.toNat xs).flatten) s) := by
  show px (if -(2 ^ 63) ≤ j ∧ j < 2 ^ 63 ∧ xs.length * j.toNat ≤ sizeLine then ret (.lst (List.replicate j.toNat xs).flatten) else pbad) s Q E = _
  rw [px_if, px_ret]
theorem px_app : px (optP (mu appU (.lst xs) [x])) s Q E = (xs.length < sizeLine ∧ Q (.lst (xs ++ [x])) s) := by
  by_cases h : xs.length < sizeLine
  · rw [app_mu h, px_some]; simp [h]
  · have : mu appU (.lst xs) [x] = none := by unfold mu appU; dsimp only; rw [if_neg h]; rfl
    rw [this, opt_bad, px_pbad]; simp [h]
theorem px_ext : px (optP (mu extU (.lst xs) [.lst ys])) s Q E = (xs.length + ys.length ≤ sizeLine ∧ Q (.lst (xs ++ ys)) s) := by
  by_cases h : xs.length + ys.length ≤ sizeLine
  · rw [ext_mu h, px_some]; simp [h]
  · have : mu extU (.lst xs) [.lst ys] = none := by unfold mu extU; dsimp only; rw [if_neg h]; rfl
    rw [this, opt_bad, px_pbad]; simp [h]
theorem px_ins : px (optP (mu insU (.lst xs) [.int i, x])) s Q E = ((xs.length < sizeLine ∧ 0 ≤ i ∧ i < 2 ^ 63) ∧ Q (.lst (xs.take i.toNat ++ [x] ++ xs.drop i.toNat)) s) := by
  by_cases h : xs.length < sizeLine ∧ 0 ≤ i ∧ i < 2 ^ 63
  · rw [ins_mu h.1 h.2.1 h.2.2, px_some]; simp only [h, and_self, true_and]
  · have : mu insU (.lst xs) [.int i, x] = none := by unfold mu insU; dsimp only; rw [if_neg h]; rfl
    rw [this, opt_bad, px_pbad]; simp only [h, false_and]
theorem px_rng1 {Q : List U → ε → Prop} : px (rng1P (.int i)) s Q E = (okR i ∧ Q (rgU 0 i) s) := by
  by_cases h : okR i
  · rw [rng1_int h, px_ret]; simp [h]
  · have : (rng1P (.int i) : PM ε (List U)) = pbad := by funext s; show (if okR i then PR.ok (rgU 0 i) s else .bad) = _; rw [if_neg h]; rfl
    rw [this, px_pbad]; simp [h]
theorem px_rng2 {Q : List U → ε → Prop} : px (rngP (.int i) (.int j)) s Q E = ((okR i ∧ okR j) ∧ Q (rgU i j) s) := by
  by_cases h : okR i ∧ okR j
  · rw [rng2_int h, px_ret]; simp [h]
  · have : (rngP (.int i) (.int j) : PM ε (List U)) = pbad := by funext s; show (if okR i ∧ okR j then PR.ok (rgU i j) s else .bad) = _; rw [if_neg h]; rfl
    rw [this, px_pbad]; simp [h]
theorem px_put {kv : List (Key × U)} : px (optP (putU (.dk kv) (.int i) x)) s Q E = (kv.length < sizeLine ∧ Q (.dk (putG kv (.inl i) x)) s) := by
  by_cases h : kv.length < sizeLine
  · rw [put_int h, px_some]; simp [h]
  · have : putU (.dk kv) (.int i) x = none := by unfold putU; simp only [keyU]; rw [if_neg h]
    rw [this, opt_bad, px_pbad]; simp [h]
theorem px_rgL {k : List U → U} : px (rgP k (.int i) (.int j)) s Q E = (RgOk i j ∧ Q (k (rgU i j)) s) := by
  show px (if RgOk i j then ret (k (rgU i j)) else pbad) s Q E = _
  rw [px_if, px_ret]
theorem ret_of {x : PM Unit α} {v : α} (h : px x () (fun a _ => a = v) E0) : x = ret v := by
  obtain ⟨a, s', h1, rfl⟩ := px_ok h
  funext u; exact h1
end

end Pv
end CK
end

section
set_option Elab.async false
set_option linter.all false
set_option maxRecDepth 100000
set_option maxHeartbeats 4000000
namespace CK
namespace Pv
open PySem PySem.Spec PyProof.Rows L2
section
variable {ε α β γ σ l ρ : Type} {s : ε} {E : Str → List (Str × D) → ε → Prop}

theorem raise_int {x f : Str} {i : Int} : (raiseP x f (.int i) : PM ε α) = pthrow x [(f, .int i)] := id rfl
theorem throw_bnd {n : Str} {fs : List (Str × D)} {k : α → PM ε β} : bnd (pthrow n fs) k = pthrow n fs := id rfl
theorem try_ret {L : List Str} {h : Str} {o : Out σ l ρ} {su : Str → List (Str × D) → PM ε (Out σ l ρ)} : tryP L h (ret o) su = ret o := id rfl
theorem try_throw {L : List Str} {h n : Str} {fs : List (Str × D)} {su : Str → List (Str × D) → PM ε (Out σ l ρ)} (hn : n ∈ L) (hx : exS n h = true) : tryP L h (pthrow n fs) su = nox (su n fs) := by
  funext s; unfold tryP pthrow; simp only [hn, hx, if_true]
theorem nox_ret {a : α} : nox (ret a : PM ε α) = ret a := id rfl
theorem eq_plnD {P : Prop} [Decidable P] {x y : U} {n m : Nat} (hx : Pln n x) (hy : Pln m y) (h : x = y ↔ P) (hn : n ≤ 199 := by decide) (hm : m ≤ 199 := by decide) : (eqP x y : PM ε U) = ret (.bl (decide P)) := by
  rw [eq_pln hx hy hn hm]
  by_cases hp : P
  · simp [hp, h.mpr hp]
  · have : ¬ x = y := fun e => hp (h.mp e)
    simp [hp, this]
theorem ne_plnD {P : Prop} [Decidable P] {x y : U} {n m : Nat} (hx : Pln n x) (hy : Pln m y) (h : x = y ↔ P) (hn : n ≤ 199 := by decide) (hm : m ≤ 199 := by decide) : (neP x y : PM ε U) = ret (.bl (!decide P)) := by
  rw [ne_pln hx hy hn hm]
  by_cases hp : P
  · simp [hp, h.mpr hp]
  · have : ¬ x = y := fun e => hp (h.mp e)
    simp [hp, this]
end
end Pv
end CK
end

section
set_option Elab.async false
set_option linter.all false
set_option maxRecDepth 100000
set_option maxHeartbeats 4000000
namespace CK
namespace Pv
open PySem PySem.Spec PyProof.Rows L2
section
variable {ε : Type} {G : ε → Ctx}

end
end Pv
end CK
end

section
set_option Elab.async false
set_option linter.all false
set_option maxRecDepth 100000
set_option maxHeartbeats 4000000
namespace CK
namespace Pv
open PySem PySem.Spec PyProof.Rows L2
section
variable {ε α β γ δ σ τ l ρ : Type} {c : Fx} {G : ε → Ctx}

end
end Pv
end CK
end

section
set_option Elab.async false
set_option linter.all false
set_option maxRecDepth 100000
set_option maxHeartbeats 4000000
namespace CK
namespace Pv
open PySem PySem.Spec PyProof.Rows L2
section
variable {ε : Type} {G : ε → Ctx}

end
end Pv
end CK
end

section
set_option Elab.async false
set_option linter.all false
set_option maxRecDepth 100000
set_option maxHeartbeats 4000000
namespace CK
namespace Pv
open PySem PySem.Spec PyProof.Rows L2
section
variable {ε : Type} {G : ε → Ctx}

end
end Pv
end CK
end

section
set_option Elab.async false
set_option linter.all false
set_option maxRecDepth 100000
set_option maxHeartbeats 4000000
namespace CK
namespace Pv
open PySem PySem.Spec PyProof.Rows L2
section
variable {ε : Type} {G : ε → Ctx} {s : ε} {Q : U → ε → Prop} {E : Str → List (Str × D) → ε → Prop} {i j : Int}
end
end Pv
end CK
end

section
set_option Elab.async false
set_option linter.all false
set_option maxRecDepth 100000
set_option maxHeartbeats 4000000
namespace CK
namespace Pv
open PySem PySem.Spec PyProof.Rows L2

section
variable {ε : Type} {G : ε → Ctx}
end
end Pv
end CK
end

section
set_option Elab.async false
set_option linter.all false
set_option maxRecDepth 100000
set_option maxHeartbeats 4000000
namespace CK
namespace Pv
open PySem PySem.Spec PyProof.Rows L2
variable {ε α β γ δ δ' σ τ l ρ : Type} {G : ε → Ctx}

end Pv
end CK
end

section
set_option Elab.async false
set_option linter.all false
set_option maxRecDepth 100000
set_option maxHeartbeats 4000000
namespace CK
namespace Pv
open PySem PySem.Spec PyProof.Rows L2
variable {ε α β γ δ δ' σ τ l ρ : Type} {G : ε → Ctx}

end Pv
end CK
end

section
set_option Elab.async false
set_option linter.all false
set_option maxRecDepth 100000
set_option maxHeartbeats 4000000

namespace CK
namespace Pv
open PySem PySem.Spec PyProof.Rows L2
section
variable {ε : Type} {G : ε → List (Nat × Ent)}
end
end Pv
end CK
end

section
set_option Elab.async false
set_option linter.all false
set_option maxRecDepth 100000
set_option maxHeartbeats 4000000

namespace CK
namespace Pv
open PySem PySem.Spec PyProof.Rows L2
section
variable {ε : Type} {G : ε → List (Nat × Ent)}
end
end Pv
end CK
end

section
set_option Elab.async false
set_option linter.all false
set_option maxRecDepth 100000
set_option maxHeartbeats 4000000

namespace CK
namespace Pv
open PySem PySem.Spec PyProof.Rows L2
variable {ε α β γ δ δ' σ τ l ρ : Type} {G : ε → Ctx} {c : Fx}
instance loc_max3 : LocA max3M := ⟨fun {x z S'} h S => by
  unfold max3M at h ⊢
  split at h
  · cases h; rfl
  · cases h⟩
theorem All2.dropK {κ : Type} [DecidableEq κ] {R : α → β → Prop} {y : κ} : ∀ {xs : List (κ × α)} {ys : List (κ × β)}, All2 (fun a b => a.1 = b.1 ∧ R a.2 b.2) xs ys → All2 (fun a b => a.1 = b.1 ∧ R a.2 b.2) (dropG xs y) (dropG ys y)
  | [], [], .nil => .nil
  | (k, a) :: xs, (k', b) :: ys, .cons ⟨h1, h2⟩ t => by
    simp only at h1 h2
    subst h1
    have ih := All2.dropK (y := y) t
    unfold dropG at ih ⊢
    rw [List.filter_cons, List.filter_cons]
    by_cases e : k = y
    · rw [if_neg (by simp [e]), if_neg (by simp [e])]; exact ih
    · rw [if_pos (by simp [e]), if_pos (by simp [e])]; exact .cons ⟨rfl, h2⟩ ih
end Pv
end CK
end

section
set_option Elab.async false
set_option linter.all false
set_option maxRecDepth 100000
set_option maxHeartbeats 4000000
namespace CK
namespace Pv
open PySem PySem.Spec PyProof.Rows L2
section
variable {ε α β γ δ δ' σ τ l ρ : Type} {G : ε → Ctx} {c : Fx}

end

end Pv
end CK
end

section
set_option Elab.async false
set_option linter.all false
set_option maxRecDepth 100000
set_option maxHeartbeats 4000000
namespace CK
namespace Pv
open PySem PySem.Spec PyProof.Rows L2
section
variable {ε α β γ δ δ' σ τ l ρ : Type} {G : ε → Ctx} {c : Fx}
end
end Pv
end CK
end

section
set_option Elab.async false
set_option linter.all false
set_option maxRecDepth 100000
set_option maxHeartbeats 4000000
namespace CK
namespace Pv
open PySem PySem.Spec PyProof.Rows L2
section
variable {ε α β γ δ δ' σ τ l ρ : Type} {G : ε → Ctx} {c : Fx}

end
end Pv
end CK
end

section
set_option Elab.async false
set_option linter.all false
set_option maxRecDepth 100000
set_option maxHeartbeats 4000000
namespace CK
namespace Pv
open PySem PySem.Spec PyProof.Rows L2
section
variable {ε α β γ δ δ' σ τ l ρ : Type} {G : ε → Ctx} {c : Fx}

theorem Inv.name {X : List Nat} {S : Store} {r : Env'} {G : Ctx} {i k : Nat} {a : Ao} {o : O} (J : Inv c X S r G) (hi : i < r.length) (hk : c.S0.length ≤ k) (hx : k ∈ X) (hh : ∀ o, (k, o) ∉ c.hold)
    (ow : ∀ i j a, lk G i = .own j a → j ≠ k) (dp : ∀ i fp v, lk G i = .dp fp v → k ∉ fp) (ho : S[k]? = some o) (ha : a.p X S o) :
    Inv c X S (r.set i (some (.ref k))) ((i, .own k a) :: G) := by
  refine ⟨J.kp, J.xb, J.x0, J.w0, J.hd, fun j b h => ?_, fun j q b h => ?_, fun j j' q b b' h h' => ?_, fun j n h => ?_, fun j fp v h => ?_, fun j j' fp v q b h h' => ?_, fun j j' fp v fq w h h' => ?_⟩
  · by_cases hj : j = i
    · subst hj; rw [lk_same] at h; cases h
    · rw [lk_ne hj] at h; rw [set_ne (Ne.symm hj)]; exact J.val j b h
  · by_cases hj : j = i
    · subst hj; rw [lk_same] at h; cases h
      exact ⟨set_same hi, hx, .inr hk, hh, o, ho, ha⟩
    · rw [lk_ne hj] at h; rw [set_ne (Ne.symm hj)]; exact J.own j q b h
  · by_cases hj : j = i
    · by_cases hj' : j' = i
      · rw [hj, hj']
      · subst hj; rw [lk_same] at h; cases h; rw [lk_ne hj'] at h'; exact absurd rfl (ow _ _ _ h')
    · by_cases hj' : j' = i
      · subst hj'; rw [lk_same] at h'; cases h'; rw [lk_ne hj] at h; exact absurd rfl (ow _ _ _ h)
      · rw [lk_ne hj] at h; rw [lk_ne hj'] at h'; exact J.dist _ _ _ _ _ h h'
  · rw [List.length_set]
    by_cases hj : j = i
    · subst hj; rw [lk_same] at h; cases h
    · rw [lk_ne hj] at h; exact J.len j n h
  · by_cases hj : j = i
    · subst hj; rw [lk_same] at h; cases h
    · rw [lk_ne hj] at h; rw [set_ne (Ne.symm hj)]; exact J.dp j fp v h
  · by_cases hj : j = i
    · subst hj; rw [lk_same] at h; cases h
    · rw [lk_ne hj] at h
      by_cases hj' : j' = i
      · subst hj'; rw [lk_same] at h'; cases h'; exact dp _ _ _ h
      · rw [lk_ne hj'] at h'; exact J.dpo _ _ _ _ _ _ h h'
  · by_cases hj : j = i
    · subst hj; rw [lk_same] at h; cases h
    · by_cases hj' : j' = i
      · subst hj'; rw [lk_same] at h'; cases h'
      · rw [lk_ne hj] at h; rw [lk_ne hj'] at h'; exact J.dpd _ _ _ _ _ _ h h'
end
end Pv
end CK
end

section
set_option Elab.async false
set_option linter.all false
set_option maxRecDepth 100000
set_option maxHeartbeats 4000000
namespace CK
namespace Pv
open PySem PySem.Spec PyProof.Rows L2
section
variable {ε α β γ δ δ' σ τ l ρ : Type} {G : ε → Ctx} {c : Fx}
end
end Pv
end CK
end

section
set_option Elab.async false
set_option linter.all false
set_option maxRecDepth 100000
set_option maxHeartbeats 4000000
namespace CK
namespace Pv
open PySem PySem.Spec PyProof.Rows L2
section
variable {ε α β γ δ δ' σ τ l ρ : Type} {G : ε → Ctx} {c : Fx}

end
end Pv
end CK
end

section
set_option Elab.async false
set_option linter.all false
set_option maxRecDepth 100000
set_option maxHeartbeats 4000000
namespace CK
namespace Pv
open PySem PySem.Spec PyProof.Rows L2
section
variable {ε α β γ δ δ' σ τ l ρ : Type} {G : ε → Ctx} {c : Fx}

end
end Pv
end CK
end

section
set_option Elab.async false
set_option linter.all false
set_option maxRecDepth 100000
set_option maxHeartbeats 4000000
namespace CK
namespace Pv
open PySem PySem.Spec PyProof.Rows L2

instance loc_inv : Loc1 invM := ⟨fun {x z S'} h S => by
  unfold invM at h ⊢
  cases e : x.asInt <;> simp [e] at h ⊢
  exact h.1⟩
section
variable {ε : Type} {i : Int}
end
end Pv
end CK
end

section
set_option Elab.async false
set_option linter.all false
set_option maxRecDepth 100000
set_option maxHeartbeats 4000000

namespace CK
namespace Pv
open PySem PySem.Spec PyProof.Rows L2

abbrev agZ (z : Nat) (v : U) : Ag := { p := fun X S d => d = .ref z ∧ Rv X S d v, mono := fun h k => ⟨h.1, h.2.mono k⟩, more := fun h m => ⟨h.1, h.2.more m⟩ }
inductive Zr (j z : Nat) (v : U) : Ctx → Ctx → Prop
  | nil : Zr j z v [] []
  | c {G H : Ctx} {p : Nat × Ent} : Zr j z v G H → Zr j z v (p :: G) (p :: H)
  | j {G H : Ctx} : Zr j z v G H → Zr j z v ((j, .val (agZ z v)) :: G) ((j, .val (ag v)) :: H)
  | top {H : Ctx} (h : lk H j = .val (ag v)) : Zr j z v ((j, .val (agZ z v)) :: H) H
theorem Zr.lk {j z : Nat} {v : U} {G H : Ctx} (h : Zr j z v G H) (i : Nat) : Pv.lk G i = Pv.lk H i ∨ (i = j ∧ Pv.lk G i = .val (agZ z v) ∧ Pv.lk H i = .val (ag v)) := by
  induction h with
  | nil => exact .inl rfl
  | @c G H p t ih =>
    obtain ⟨k, e⟩ := p
    unfold Pv.lk
    cases Nat.beq i k with
    | true => exact .inl rfl
    | false => exact ih
  | @j G H t ih =>
    cases e : Nat.beq i j with
    | true =>
      have := Nat.eq_of_beq_eq_true e
      refine .inr ⟨this, ?_, ?_⟩ <;> simp only [Pv.lk, e]
    | false =>
      rcases ih with ih | ⟨a, b, c⟩
      · exact .inl (by simp only [Pv.lk, e]; exact ih)
      · exact .inr ⟨a, by simp only [Pv.lk, e]; exact b, by simp only [Pv.lk, e]; exact c⟩
  | @top H h =>
    cases e : Nat.beq i j with
    | true =>
      have ej := Nat.eq_of_beq_eq_true e
      subst ej
      exact .inr ⟨rfl, by simp only [Pv.lk, e], h⟩
    | false => exact .inl (by simp only [Pv.lk, e])
theorem Zr.own {j z : Nat} {v : U} {G H : Ctx} (h : Zr j z v G H) {i k : Nat} {a : Ao} : Pv.lk G i = .own k a ↔ Pv.lk H i = .own k a := by
  rcases h.lk i with e | ⟨_, e1, e2⟩
  · rw [e]
  · rw [e1, e2]; exact ⟨fun z => (by cases z), fun z => (by cases z)⟩
theorem Zr.ln {j z : Nat} {v : U} {G H : Ctx} (h : Zr j z v G H) {i n : Nat} : Pv.lk G i = .ln n ↔ Pv.lk H i = .ln n := by
  rcases h.lk i with e | ⟨_, e1, e2⟩
  · rw [e]
  · rw [e1, e2]; exact ⟨fun z => (by cases z), fun z => (by cases z)⟩
theorem Zr.dp {j z : Nat} {v : U} {G H : Ctx} (h : Zr j z v G H) {i : Nat} {fp : List Nat} {w : U} : Pv.lk G i = .dp fp w ↔ Pv.lk H i = .dp fp w := by
  rcases h.lk i with e | ⟨_, e1, e2⟩
  · rw [e]
  · rw [e1, e2]; exact ⟨fun z => (by cases z), fun z => (by cases z)⟩
theorem Zr.of {j z : Nat} {v : U} {G H : Ctx} (h : Zr j z v G H) {c : Fx} {X : List Nat} {S : Store} {r : Env'} (I : Inv c X S r G) : Inv c X S r H where
  kp := I.kp
  xb := I.xb
  x0 := I.x0
  w0 := I.w0
  hd := I.hd
  val := fun i a e => by
    rcases h.lk i with q | ⟨_, q1, q2⟩
    · exact I.val i a (q.trans e)
    · rw [q2] at e
      cases e
      obtain ⟨d, e1, e2⟩ := I.val i _ q1
      exact ⟨d, e1, e2.2⟩
  own := fun i k a e => I.own i k a (h.own.mpr e)
  dist := fun i k p a b e1 e2 => I.dist i k p a b (h.own.mpr e1) (h.own.mpr e2)
  len := fun i n e => I.len i n (h.ln.mpr e)
  dp := fun i fp w e => I.dp i fp w (h.dp.mpr e)
  dpo := fun i k fp w p a e1 e2 => I.dpo i k fp w p a (h.dp.mpr e1) (h.own.mpr e2)
  dpd := fun i k fp w fq w2 e1 e2 => I.dpd i k fp w fq w2 (h.dp.mpr e1) (h.dp.mpr e2)
theorem Zr.to {j z : Nat} {v : U} {G H : Ctx} (h : Zr j z v G H) {c : Fx} {X : List Nat} {S : Store} {r : Env'} (I : Inv c X S r H) (hr : r[j]? = some (some (.ref z))) : Inv c X S r G where
  kp := I.kp
  xb := I.xb
  x0 := I.x0
  w0 := I.w0
  hd := I.hd
  val := fun i a e => by
    rcases h.lk i with q | ⟨e0, q1, q2⟩
    · exact I.val i a (q.symm.trans e)
    · rw [q1] at e
      cases e
      subst e0
      obtain ⟨d, e1, e2⟩ := I.val i _ q2
      rw [hr] at e1
      cases e1
      exact ⟨_, hr, rfl, e2⟩
  own := fun i k a e => I.own i k a (h.own.mp e)
  dist := fun i k p a b e1 e2 => I.dist i k p a b (h.own.mp e1) (h.own.mp e2)
  len := fun i n e => I.len i n (h.ln.mp e)
  dp := fun i fp w e => I.dp i fp w (h.dp.mp e)
  dpo := fun i k fp w p a e1 e2 => I.dpo i k fp w p a (h.dp.mp e1) (h.own.mp e2)
  dpd := fun i k fp w fq w2 e1 e2 => I.dpd i k fp w fq w2 (h.dp.mp e1) (h.dp.mp e2)
section
variable {ε α β γ δ δ' σ τ l ρ : Type} {G : ε → Ctx} {c : Fx}
def hL (i n : Nat) (f : List D → M D) : List D → M D := fun ds S => if ds.length = n then (match S[i]? with
  | some (.dK kvs) => (match f ds (S.set i .hid) with
    | .ok d S' => (match S'[i]? with | some .hid => .ok d (S'.set i (.dK kvs)) | _ => .bad)
    | _ => .bad)
  | _ => .bad) else .bad

end
end Pv
end CK
end

section
set_option Elab.async false
set_option linter.all false
set_option maxRecDepth 100000
set_option maxHeartbeats 4000000

namespace CK
namespace Pv
open PySem PySem.Spec PyProof.Rows L2
section
variable {ε α β γ δ σ τ l ρ : Type} {c : Fx} {G : ε → Ctx}
def isXP (L : List Str) (h : Str) (v : U) : PM ε U := match v with
  | .exn n fs => if n ∈ L then ret (.bl (exS n h)) else pbad
  | _ => pbad
def fldXP (L : List Str) (f : Str) (v : U) : PM ε U := match v with
  | .exn n fs => if n ∈ L then optP ((fs.lookup f).bind ofD) else pbad
  | _ => pbad
theorem Xq.xr {X : List Nat} {S : Store} {i : Option Nat} {n : Str} {fs : List (Str × D)} (h : Xq X S i fs) : Xr X S ⟨n, i⟩ n fs := ⟨rfl, h⟩
theorem re_isX {L : List Str} {h : Str} {e : Env' → M D} {p : PM ε U} (he : RX G e p) : RX G (isXM L h e) (bnd p fun v => isXP L h v) := by
  intro c X S r s I
  have h1 := he c X S r s I
  unfold bnd isXM mB
  cases e1 : p s with
  | bad => trivial
  | ex n fs s' => rw [e1] at h1; obtain ⟨d, S', g1, g2⟩ := h1; rw [g1]; exact ⟨d, S', rfl, g2⟩
  | ok v s' =>
    rw [e1] at h1
    obtain ⟨d, S', g1, I1, k1, hv⟩ := h1
    rw [g1]
    cases hv with
    | @exn k i n fs hx hS hq =>
      simp only [D.asRef, hS, exnO, isXP]
      by_cases hl : n ∈ L
      · rw [if_pos ⟨hl, xdOk_of hq.xr⟩, if_pos hl]
        exact ⟨_, S', rfl, I1, k1, .bl _⟩
      · rw [if_neg hl]; trivial
    | _ => trivial
theorem re_fldX {L : List Str} {f : Str} {e : Env' → M D} {p : PM ε U} (he : RX G e p) : RX G (fldXM L f e) (bnd p fun v => fldXP L f v) := by
  intro c X S r s I
  have h1 := he c X S r s I
  unfold bnd fldXM mB
  cases e1 : p s with
  | bad => trivial
  | ex n fs s' => rw [e1] at h1; obtain ⟨d, S', g1, g2⟩ := h1; rw [g1]; exact ⟨d, S', rfl, g2⟩
  | ok v s' =>
    rw [e1] at h1
    obtain ⟨d, S', g1, I1, k1, hv⟩ := h1
    rw [g1]
    cases hv with
    | @exn k i n fs hx hS hq =>
      simp only [D.asRef, hS, exnO, fldXP]
      by_cases hl : n ∈ L
      · rw [if_pos hl]
        unfold optP
        cases el : fs.lookup f with
        | none => trivial
        | some v =>
          dsimp only [Option.bind_some]
          cases ev : ofD v with
          | none => trivial
          | some z =>
            rcases hq with ⟨_, e2⟩ | ⟨j, e2, hj, hs⟩
            · subst e2; cases el
            · simp only [e2, hl, hs, xdO, el, if_true]
              exact ⟨_, S', rfl, I1, k1, Rv.ofD ev⟩
      · rw [if_neg hl]; trivial
    | _ => trivial

theorem rs_tryKO {L : List Str} {h : Str} {i v : Nat} {b : Env' → M Fl} {H : ε → Ctx} {pb : PM ε (Out σ l ρ)} {w : Str → List (Str × D) → σ} {Z : Pz ε σ l ρ} (hb : RS c G b pb { Z with E := H })
    (hK : ∀ k, k ∉ c.W → ∀ n fs s, ∃ Γ, Z.N (w n fs) s Γ ∧ Sub Γ ((v, .own k (ao (.exn n fs))) :: H s)) (hF : Z.F) (hE : ∀ s, Sub (Z.E s) (H s)) (hi : ∀ s, lnOk (H s) i = true) (hv : ∀ s, lnOk (H s) v = true) (hN : ∀ v s Γ, Z.N v s Γ → lk Γ i = .no) :
    RS c G (mTryAsK L h i b fun _ _ => mAsg (mVar i) (gNm v)) (tryP L h pb fun n fs => ret (.nx (w n fs))) Z := by
  intro X S r s I
  have h1 := hb X S r s I
  unfold mTryAsK tryP
  cases e : pb s with
  | bad => trivial
  | ok o s' =>
    rw [e] at h1
    cases o with
    | nx v => obtain ⟨hf, X', S', r', g1, g2⟩ := h1; simp only [g1]; exact ⟨hf, X', S', r', rfl, g2⟩
    | rt v => obtain ⟨S', d, g1, g2⟩ := h1; simp only [g1]; exact ⟨S', d, rfl, g2⟩
    | bk v => obtain ⟨X', S', r', g1, g2⟩ := h1; simp only [g1]; exact ⟨X', S', r', rfl, g2⟩
    | ct v => obtain ⟨X', S', r', g1, g2⟩ := h1; simp only [g1]; exact ⟨X', S', r', rfl, g2⟩
  | ex n fs s' =>
    rw [e] at h1
    obtain ⟨X', S', r', x, g1, g2, g3, g4, g5⟩ := h1
    simp only [g1, g5.1]
    by_cases hl : n ∈ L
    · simp only [hl, if_true]
      by_cases hx : exS n h = true
      · simp only [hx, if_true]
        have hlt : i < r'.length := g2.lt (hi s')
        have e0 : mAsg (mVar i) (gNm v) (r'.set i (some (.ref S'.length))) (S' ++ [.opq]) = .ok (.nx ((r'.set i (some (.ref S'.length))).set v (some (.ref S'.length)))) (S' ++ [.opq]) := by
          unfold mAsg stE gNm mVar; simp only [List.getElem?_set_self hlt]
        rw [e0]
        have e1 : (S' ++ [O.opq])[S'.length]? = some .opq := by simp
        have e2 : (S' ++ [O.opq]).set S'.length (.exn x.cls x.dict) = S' ++ [.exn x.cls x.dict] := by simp
        simp only [keepS, e1, e2]
        have I1 := g2.grow (S' := S' ++ [.exn x.cls x.dict]) Kx.app
        have nX : S'.length ∉ X' := fun hm => by have := g2.xb _ hm; omega
        have I2 : Inv c (S'.length :: X') (S' ++ [.exn x.cls x.dict]) r' (H s') := g2.addX Kx.app (Nat.le_refl _) (by simp)
        have q1 : Xq (S'.length :: X') (S' ++ [O.exn x.cls x.dict]) x.dict fs := by
          rcases g5.2 with q | ⟨j, e, hj, hs⟩
          · exact .inl q
          · have := get_lt' hs
            exact .inr ⟨j, e, fun hm => (List.mem_cons.mp hm).elim (fun z => by omega) hj, Kx.app (X := []) |>.2 _ _ (by simp) hs⟩
        have nW : S'.length ∉ c.W := fun hm => nX (g2.x0 _ (g2.w0.1 _ hm))
        have J := Inv.setO (i := v) (a := ao (.exn n fs)) I1 I2 (I1.lt (hv s')) g2.kp.1 nX (show (S' ++ [O.exn x.cls x.dict])[S'.length]? = some (.exn n x.dict) by rw [g5.1]; simp) (RvO.exn q1)
        obtain ⟨Γ, hn, hs⟩ := hK _ nW n fs s'
        have J2 := J.sub hs
        refine ⟨hF, _, _, _, rfl, ⟨Γ, hn, J2.env (by simp) fun j hj => ⟨rfl, ?_⟩⟩, g3.trans Kx.app, fun k hk => (List.mem_cons.mp hk).elim (fun e => .inr (by rw [e]; exact g3.1)) (g4 k)⟩
        · have ji : i ≠ j := fun e => hj (by rw [← e]; exact hN _ _ Γ hn)
          rw [set_ne ji]
          by_cases jv : v = j
          · subst jv
            rw [List.getElem?_set_self (by simpa using I1.lt (hv s')), List.getElem?_set_self (I1.lt (hv s'))]
          · rw [set_ne jv, set_ne ji, set_ne jv]
      · simp only [hx, if_false]
        exact ⟨X', S', r', x, rfl, g2.sub (hE s'), g3, g4, g5⟩
    · simp only [hl, if_false]; trivial
end
end Pv
end CK
end

section
set_option Elab.async false
set_option linter.all false
set_option maxRecDepth 100000
set_option maxHeartbeats 4000000

namespace CK
namespace Pv
open PySem PySem.Spec PyProof.Rows L2
section
variable {ε α β γ δ σ τ l ρ : Type} {c : Fx} {G : ε → Ctx}
def countDU (x y : U) : PM ε U := match lstV x, pyU 199 x, pyU 199 y with
  | some _, some (.list es), some q => if SeqAt.shaped (.list es) = true ∧ SeqAt.shaped q = true then ret (.int ((es.countP fun z => PyData.eqv z q : Nat) : Int)) else pbad
  | _, _, _ => pbad
theorem countD_sm {c : Fx} {X X1 X2 : List Nat} {n : Nat} {S : Store} {r : Env'} {s : ε} {v y : U} {d e : D} (I : Inv c X S r (G s)) (h1 : Rv X1 S d v) (h2 : Rv X2 S e y) : Sm c X n S r G cl (countDM d [e] S) (countDU v y s) := by
  unfold countDU countDM
  cases e1 : lstV v with
  | none => trivial
  | some xs =>
    cases e2 : pyU 199 v with
    | none => trivial
    | some p =>
      cases e3 : pyU 199 y with
      | none => cases p <;> trivial
      | some q =>
        obtain ⟨k, ds, rfl, g1, g2⟩ := h1.ls e1
        unfold pyD
        dsimp only
        rw [pyU_ok h1 e2, pyU_ok h2 e3]
        cases p with
        | list es =>
          dsimp only [D.asRef]
          split
          · exact Sm.ok I (.int _)
          · trivial
        | _ => trivial
theorem re_countD {a x : Env' → M D} {pa px : PM ε U} (ha : RX G a pa) (hx : RX G x px) : RX G (mML countDM a (mCons x mNil)) (bnd pa fun v => lookP v (bnd px fun y => countDU v y)) := re_look ha hx countD_sm
end
end Pv
end CK
end

section
set_option Elab.async false
set_option linter.all false
set_option exponentiation.threshold 100000
set_option maxRecDepth 100000
set_option maxHeartbeats 4000000
namespace CK
namespace Lib
open PySem PySem.Spec PyProof.Rows L2
local macro_rules | `(tactic| walk_at "ck") => `(tactic| try simp only [wp_seq, wp_asg, wp_if, wp_ret, wp_retN, wp_drop, wp_fn, wp_var0, wp_varS, wp_mC, wp_m2, wp_m1, wp_nil, wp_cons, wp_args, wp_call, wp_tst, wp_and, wp_or, wp_not, wp_andV, wp_orV, wp_notV, wp_ifE, wp_chain, wp_nx, wp_brk, wp_cnt, aft_nx, aft_rt, aft_bk, aft_ct, aft_xc, fin_rt, fin_nx, fin_xc, fin_bk, fin_ct, wp_gNm, wp_gTp, wp_gsNil, wp_gsCons, wp_gSub, wp_par, wp_par3, wp_i0, wp_iC, wp_addI, wp_addT, wp_mulI, wp_neg, wp_tup, wp_lst, sz0, sz1, sz2, sz3, sz4, sz5, sz6, sz7, sz8, wp_yes, wp_ixT, wp_ixL, wp_setL, wp_isi, tyN, isi_ii, isi_ib, isi_bi, isi_bb, isi_nb, isi_ni, isi_ns, isi_nt, isi_nl, isi_nd, isi_bs, isi_bt, isi_bl, isi_bd, isi_is, isi_it, isi_il, isi_id, isi_sb, isi_si, isi_ss, isi_st, isi_sl, isi_sd, isi_tb, isi_ti, isi_ts, isi_tt, isi_tl, isi_td, isi_lb, isi_li, isi_ls, isi_lt, isi_ll, isi_ld, isi_db, isi_di, isi_ds, isi_dt, isi_dl, isi_dd, wp_slice, wp_noPart, wp_part, asInt_int, wp_slT, wp_slL, wp_mulT, wp_src, wp_lc, wipeE, D.ref.injEq, D.tup.injEq, reduceCtorEq, false_and, exists_false, false_or, or_false, cpt2, cpt3, cpt4, cpt5, cpt6, cpt7, cpt8, cpt9, cpt10, cpt11, cpt12, cpt13, cpt14, cpt15, cpt16, cpt17, cpt18, cpt19, cpt20, cpt24, cpt30, cpt36, cpt40, cpt48, cpt50, cpt58, cpt59, cpt60, wp_extend, wp_revL, exists_and_left, wp_ML, wp_ML0, isLs_ref, wp_append, wp_pop, wp_tupleR, wp_tupleT, wp_listR, wp_listT, wp_all, wp_any, wp_sum, wp_notB, wp_isB, wp_isN, wp_notN, Option.isSome_some, wp_rng1, wp_rng2, wp_rng3, lsAt, lsO_lst, lsO_fro, lstO_lst, wp_lenR, lenO_lst, lenO_fro, lenO_dK, List.length_map, List.getElem?_cons_zero, List.getElem?_cons_succ, wp_dnew, wp_dget, wp_din, wp_dnin, wp_dg1, wp_dput, wp_dpop, wp_MD, isDk_ref, dkO_dK, keyD_int, keyD_str, wp_lrg1, wp_trg1, wp_MS, isStrB_str, wp_sindex, wp_isiT, wp_strI, wp_eqS, wp_neS, wp_eqI, wp_neI, wp_eqB, wp_neB, wp_abs, wp_intI, wp_intB, wp_max2, wp_min2, wp_lenT, wp_for, wp_ok, wp_bad, lp_nx, lp_ct, lp_bk, lp_rt, lp_xc, asBl_bl, at0, at1, at2, List.map_cons, List.map_nil, List.cons_append, List.nil_append, List.length_cons, List.length_nil, List.replicate, List.set_cons_zero, List.set_cons_succ, Nat.reduceAdd, Int.reduceToNat, Int.reducePow, Int.reduceNeg, Int.reduceMul, Int.reduceAdd, Int.reduceSub, Int.reduceMod, Int.reduceDiv, Int.reduceLT, Int.reduceLE, Int.zero_mul, Int.zero_add, Int.cast_ofNat_Int, Int.reduceBEq, Nat.reduceLeDiff, Nat.reduceEqDiff, true_and, and_true, Nat.reduceSub, if_true, Option.some.injEq, exists_eq_left', Bool.not_true, Bool.not_false, decide_eq_true_eq, Bool.false_eq_true, if_false])
local macro_rules | `(tactic| walk_at "cks") => `(tactic| try simp only [wp_seq, wp_asg, wp_if, wp_ret, wp_retN, wp_drop, wp_fn, wp_var0, wp_varS, wp_mC, wp_m2, wp_m1, wp_nil, wp_cons, wp_args, wp_call, wp_tst, wp_and, wp_or, wp_not, wp_andV, wp_orV, wp_notV, wp_ifE, wp_chain, wp_nx, wp_brk, wp_cnt, aft_nx, aft_rt, aft_bk, aft_ct, aft_xc, fin_rt, fin_nx, fin_xc, fin_bk, fin_ct, wp_gNm, wp_gTp, wp_gsNil, wp_gsCons, wp_gSub, wp_par, wp_par3, wp_i0, wp_iC, wp_addI, wp_addT, wp_mulI, wp_neg, wp_tup, wp_lst, sz0, sz1, sz2, sz3, sz4, sz5, sz6, sz7, sz8, wp_yes, wp_ixT, wp_ixL, wp_setL, wp_isi, tyN, isi_ii, isi_ib, isi_bi, isi_bb, isi_nb, isi_ni, isi_ns, isi_nt, isi_nl, isi_nd, isi_bs, isi_bt, isi_bl, isi_bd, isi_is, isi_it, isi_il, isi_id, isi_sb, isi_si, isi_ss, isi_st, isi_sl, isi_sd, isi_tb, isi_ti, isi_ts, isi_tt, isi_tl, isi_td, isi_lb, isi_li, isi_ls, isi_lt, isi_ll, isi_ld, isi_db, isi_di, isi_ds, isi_dt, isi_dl, isi_dd, wp_slice, wp_noPart, wp_part, asInt_int, wp_slT, wp_slL, wp_mulT, wp_src, wp_lc, wipeE, D.ref.injEq, D.tup.injEq, reduceCtorEq, false_and, exists_false, false_or, or_false, cpt2, cpt3, cpt4, cpt5, cpt6, cpt7, cpt8, cpt9, cpt10, cpt11, cpt12, cpt13, cpt14, cpt15, cpt16, cpt17, cpt18, cpt19, cpt20, cpt24, cpt30, cpt36, cpt40, cpt48, cpt50, cpt58, cpt59, cpt60, wp_extend, wp_revL, exists_and_left, wp_ML, wp_ML0, isLs_ref, wp_append, wp_pop, wp_tupleR, wp_tupleT, wp_listR, wp_listT, wp_all, wp_any, wp_sum, wp_notB, wp_isB, wp_isN, wp_notN, Option.isSome_some, wp_rng1, wp_rng2, wp_rng3, lsAt, lsO_lst, lsO_fro, lstO_lst, wp_lenR, lenO_lst, lenO_fro, lenO_dK, List.length_map, List.getElem?_cons_zero, List.getElem?_cons_succ, wp_dnew, wp_dget, wp_din, wp_dnin, wp_dg1, wp_dput, wp_dpop, wp_MD, isDk_ref, dkO_dK, keyD_int, keyD_str, wp_lrg1, wp_trg1, wp_MS, isStrB_str, wp_sindex, wp_isiT, wp_strI, wp_eqS, wp_neS, wp_eqI, wp_neI, wp_eqB, wp_neB, wp_abs, wp_intI, wp_intB, wp_max2, wp_min2, wp_lenT, wp_for, wp_ok, wp_bad, lp_nx, lp_ct, lp_bk, lp_rt, lp_xc, asBl_bl, at0, at1, at2, List.map_cons, List.map_nil, List.cons_append, List.nil_append, List.length_cons, List.length_nil, List.replicate, List.set_cons_zero, List.set_cons_succ, Nat.reduceAdd, Int.reduceToNat, Int.reducePow, Int.reduceNeg, Int.reduceMul, Int.reduceAdd, Int.reduceSub, Int.reduceMod, Int.reduceDiv, Int.reduceLT, Int.reduceLE, Int.zero_mul, Int.zero_add, Int.cast_ofNat_Int, Int.reduceBEq, Nat.reduceLeDiff, Nat.reduceEqDiff, true_and, and_true, Nat.reduceSub, if_true, Option.some.injEq, exists_eq_left', Bool.not_true, Bool.not_false, decide_eq_true_eq, Bool.false_eq_true, if_false, *])
local macro_rules | `(tactic| walk_at "ck1") => `(tactic| try simp only [wp_seq, wp_asg, wp_if, wp_ret, wp_retN, wp_drop, wp_fn, wp_var0, wp_varS, wp_mC, wp_m2, wp_m1, wp_nil, wp_cons, wp_args, wp_call, wp_tst, wp_and, wp_or, wp_not, wp_andV, wp_orV, wp_notV, wp_ifE, wp_chain, wp_nx, wp_brk, wp_cnt, aft_rt, aft_bk, aft_ct, aft_xc, fin_rt, fin_nx, fin_xc, fin_bk, fin_ct, wp_gNm, wp_gTp, wp_gsNil, wp_gsCons, wp_gSub, wp_par, wp_par3, wp_i0, wp_iC, wp_addI, wp_addT, wp_mulI, wp_neg, wp_tup, wp_lst, sz0, sz1, sz2, sz3, sz4, sz5, sz6, sz7, sz8, wp_yes, wp_ixT, wp_ixL, wp_setL, wp_isi, tyN, isi_ii, isi_ib, isi_bi, isi_bb, isi_nb, isi_ni, isi_ns, isi_nt, isi_nl, isi_nd, isi_bs, isi_bt, isi_bl, isi_bd, isi_is, isi_it, isi_il, isi_id, isi_sb, isi_si, isi_ss, isi_st, isi_sl, isi_sd, isi_tb, isi_ti, isi_ts, isi_tt, isi_tl, isi_td, isi_lb, isi_li, isi_ls, isi_lt, isi_ll, isi_ld, isi_db, isi_di, isi_ds, isi_dt, isi_dl, isi_dd, wp_slice, wp_noPart, wp_part, asInt_int, wp_slT, wp_slL, wp_mulT, wp_src, wp_lc, wipeE, D.ref.injEq, D.tup.injEq, reduceCtorEq, false_and, exists_false, false_or, or_false, cpt2, cpt3, cpt4, cpt5, cpt6, cpt7, cpt8, cpt9, cpt10, cpt11, cpt12, cpt13, cpt14, cpt15, cpt16, cpt17, cpt18, cpt19, cpt20, cpt24, cpt30, cpt36, cpt40, cpt48, cpt50, cpt58, cpt59, cpt60, wp_extend, wp_revL, exists_and_left, wp_ML, wp_ML0, isLs_ref, wp_append, wp_pop, wp_tupleR, wp_tupleT, wp_listR, wp_listT, wp_all, wp_any, wp_sum, wp_notB, wp_isB, wp_isN, wp_notN, Option.isSome_some, wp_rng1, wp_rng2, wp_rng3, lsAt, lsO_lst, lsO_fro, lstO_lst, wp_lenR, lenO_lst, lenO_fro, lenO_dK, List.length_map, List.getElem?_cons_zero, List.getElem?_cons_succ, wp_dnew, wp_dget, wp_din, wp_dnin, wp_dg1, wp_dput, wp_dpop, wp_MD, isDk_ref, dkO_dK, keyD_int, keyD_str, wp_lrg1, wp_trg1, wp_MS, isStrB_str, wp_sindex, wp_isiT, wp_strI, wp_eqS, wp_neS, wp_eqI, wp_neI, wp_eqB, wp_neB, wp_abs, wp_intI, wp_intB, wp_max2, wp_min2, wp_lenT, wp_for, wp_ok, wp_bad, lp_nx, lp_ct, lp_bk, lp_rt, lp_xc, asBl_bl, at0, at1, at2, List.map_cons, List.map_nil, List.cons_append, List.nil_append, List.length_cons, List.length_nil, List.replicate, List.set_cons_zero, List.set_cons_succ, Nat.reduceAdd, Int.reduceToNat, Int.reducePow, Int.reduceNeg, Int.reduceMul, Int.reduceAdd, Int.reduceSub, Int.reduceMod, Int.reduceDiv, Int.reduceLT, Int.reduceLE, Int.zero_mul, Int.zero_add, Int.cast_ofNat_Int, Int.reduceBEq, Nat.reduceLeDiff, Nat.reduceEqDiff, true_and, and_true, Nat.reduceSub, if_true, Option.some.injEq, exists_eq_left', Bool.not_true, Bool.not_false, decide_eq_true_eq, Bool.false_eq_true, if_false])
def prts : Tr → Int → List Tr
  | .e, _ => []
  | .n l c r, key => .n l c r :: (if key < c.1 then prts l key else if c.1 < key then prts r key else [])
inductive Goes (t : Tr) (key : Int) : List Tr → Tr → Nat → Prop where
  | on {ps : List Tr} {u : Tr} (h : ps ++ prts u key = prts t key) (hl : ∀ qs a c b, ps = qs ++ [.n a c b] → c.1 ≠ key) (hu : u.ht ≤ 150) : Goes t key ps u (u.ht + 1)
  | there {ps qs : List Tr} {a b : Tr} {c : Card} (h : ps = prts t key) (e : ps = qs ++ [.n a c b]) (hc : c.1 = key) (hu : (Tr.n a c b).ht ≤ 150) : Goes t key ps (.n a c b) 0
end Lib
end CK
end

section
set_option Elab.async false
set_option linter.all false
set_option exponentiation.threshold 100000
set_option maxRecDepth 100000
set_option maxHeartbeats 4000000
namespace CK
namespace Lib
open PySem PySem.Spec PyProof.Rows L2
local macro_rules | `(tactic| walk_at "ck") => `(tactic| try simp only [wp_seq, wp_asg, wp_if, wp_ret, wp_retN, wp_drop, wp_fn, wp_var0, wp_varS, wp_mC, wp_m2, wp_m1, wp_nil, wp_cons, wp_args, wp_call, wp_tst, wp_and, wp_or, wp_not, wp_andV, wp_orV, wp_notV, wp_ifE, wp_chain, wp_nx, wp_brk, wp_cnt, aft_nx, aft_rt, aft_bk, aft_ct, aft_xc, fin_rt, fin_nx, fin_xc, fin_bk, fin_ct, wp_gNm, wp_gTp, wp_gsNil, wp_gsCons, wp_gSub, wp_par, wp_par3, wp_i0, wp_iC, wp_addI, wp_addT, wp_mulI, wp_neg, wp_tup, wp_lst, sz0, sz1, sz2, sz3, sz4, sz5, sz6, sz7, sz8, wp_yes, wp_ixT, wp_ixL, wp_setL, wp_isi, tyN, isi_ii, isi_ib, isi_bi, isi_bb, isi_nb, isi_ni, isi_ns, isi_nt, isi_nl, isi_nd, isi_bs, isi_bt, isi_bl, isi_bd, isi_is, isi_it, isi_il, isi_id, isi_sb, isi_si, isi_ss, isi_st, isi_sl, isi_sd, isi_tb, isi_ti, isi_ts, isi_tt, isi_tl, isi_td, isi_lb, isi_li, isi_ls, isi_lt, isi_ll, isi_ld, isi_db, isi_di, isi_ds, isi_dt, isi_dl, isi_dd, wp_slice, wp_noPart, wp_part, asInt_int, wp_slT, wp_slL, wp_mulT, wp_src, wp_lc, wipeE, D.ref.injEq, D.tup.injEq, reduceCtorEq, false_and, exists_false, false_or, or_false, cpt2, cpt3, cpt4, cpt5, cpt6, cpt7, cpt8, cpt9, cpt10, cpt11, cpt12, cpt13, cpt14, cpt15, cpt16, cpt17, cpt18, cpt19, cpt20, cpt24, cpt30, cpt36, cpt40, cpt48, cpt50, cpt58, cpt59, cpt60, wp_extend, wp_revL, exists_and_left, wp_ML, wp_ML0, isLs_ref, wp_append, wp_pop, wp_tupleR, wp_tupleT, wp_listR, wp_listT, wp_all, wp_any, wp_sum, wp_notB, wp_isB, wp_isN, wp_notN, Option.isSome_some, wp_rng1, wp_rng2, wp_rng3, lsAt, lsO_lst, lsO_fro, lstO_lst, wp_lenR, lenO_lst, lenO_fro, lenO_dK, List.length_map, List.getElem?_cons_zero, List.getElem?_cons_succ, wp_dnew, wp_dget, wp_din, wp_dnin, wp_dg1, wp_dput, wp_dpop, wp_MD, isDk_ref, dkO_dK, keyD_int, keyD_str, wp_lrg1, wp_trg1, wp_MS, isStrB_str, wp_sindex, wp_isiT, wp_strI, wp_eqS, wp_neS, wp_eqI, wp_neI, wp_eqB, wp_neB, wp_abs, wp_intI, wp_intB, wp_max2, wp_min2, wp_lenT, wp_for, wp_ok, wp_bad, lp_nx, lp_ct, lp_bk, lp_rt, lp_xc, asBl_bl, at0, at1, at2, List.map_cons, List.map_nil, List.cons_append, List.nil_append, List.length_cons, List.length_nil, List.replicate, List.set_cons_zero, List.set_cons_succ, Nat.reduceAdd, Int.reduceToNat, Int.reducePow, Int.reduceNeg, Int.reduceMul, Int.reduceAdd, Int.reduceSub, Int.reduceMod, Int.reduceDiv, Int.reduceLT, Int.reduceLE, Int.zero_mul, Int.zero_add, Int.cast_ofNat_Int, Int.reduceBEq, Nat.reduceLeDiff, Nat.reduceEqDiff, true_and, and_true, Nat.reduceSub, if_true, Option.some.injEq, exists_eq_left', Bool.not_true, Bool.not_false, decide_eq_true_eq, Bool.false_eq_true, if_false])
local macro_rules | `(tactic| walk_at "cks") => `(tactic| try simp only [wp_seq, wp_asg, wp_if, wp_ret, wp_retN, wp_drop, wp_fn, wp_var0, wp_varS, wp_mC, wp_m2, wp_m1, wp_nil, wp_cons, wp_args, wp_call, wp_tst, wp_and, wp_or, wp_not, wp_andV, wp_orV, wp_notV, wp_ifE, wp_chain, wp_nx, wp_brk, wp_cnt, aft_nx, aft_rt, aft_bk, aft_ct, aft_xc, fin_rt, fin_nx, fin_xc, fin_bk, fin_ct, wp_gNm, wp_gTp, wp_gsNil, wp_gsCons, wp_gSub, wp_par, wp_par3, wp_i0, wp_iC, wp_addI, wp_addT, wp_mulI, wp_neg, wp_tup, wp_lst, sz0, sz1, sz2, sz3, sz4, sz5, sz6, sz7, sz8, wp_yes, wp_ixT, wp_ixL, wp_setL, wp_isi, tyN, isi_ii, isi_ib, isi_bi, isi_bb, isi_nb, isi_ni, isi_ns, isi_nt, isi_nl, isi_nd, isi_bs, isi_bt, isi_bl, isi_bd, isi_is, isi_it, isi_il, isi_id, isi_sb, isi_si, isi_ss, isi_st, isi_sl, isi_sd, isi_tb, isi_ti, isi_ts, isi_tt, isi_tl, isi_td, isi_lb, isi_li, isi_ls, isi_lt, isi_ll, isi_ld, isi_db, isi_di, isi_ds, isi_dt, isi_dl, isi_dd, wp_slice, wp_noPart, wp_part, asInt_int, wp_slT, wp_slL, wp_mulT, wp_src, wp_lc, wipeE, D.ref.injEq, D.tup.injEq, reduceCtorEq, false_and, exists_false, false_or, or_false, cpt2, cpt3, cpt4, cpt5, cpt6, cpt7, cpt8, cpt9, cpt10, cpt11, cpt12, cpt13, cpt14, cpt15, cpt16, cpt17, cpt18, cpt19, cpt20, cpt24, cpt30, cpt36, cpt40, cpt48, cpt50, cpt58, cpt59, cpt60, wp_extend, wp_revL, exists_and_left, wp_ML, wp_ML0, isLs_ref, wp_append, wp_pop, wp_tupleR, wp_tupleT, wp_listR, wp_listT, wp_all, wp_any, wp_sum, wp_notB, wp_isB, wp_isN, wp_notN, Option.isSome_some, wp_rng1, wp_rng2, wp_rng3, lsAt, lsO_lst, lsO_fro, lstO_lst, wp_lenR, lenO_lst, lenO_fro, lenO_dK, List.length_map, List.getElem?_cons_zero, List.getElem?_cons_succ, wp_dnew, wp_dget, wp_din, wp_dnin, wp_dg1, wp_dput, wp_dpop, wp_MD, isDk_ref, dkO_dK, keyD_int, keyD_str, wp_lrg1, wp_trg1, wp_MS, isStrB_str, wp_sindex, wp_isiT, wp_strI, wp_eqS, wp_neS, wp_eqI, wp_neI, wp_eqB, wp_neB, wp_abs, wp_intI, wp_intB, wp_max2, wp_min2, wp_lenT, wp_for, wp_ok, wp_bad, lp_nx, lp_ct, lp_bk, lp_rt, lp_xc, asBl_bl, at0, at1, at2, List.map_cons, List.map_nil, List.cons_append, List.nil_append, List.length_cons, List.length_nil, List.replicate, List.set_cons_zero, List.set_cons_succ, Nat.reduceAdd, Int.reduceToNat, Int.reducePow, Int.reduceNeg, Int.reduceMul, Int.reduceAdd, Int.reduceSub, Int.reduceMod, Int.reduceDiv, Int.reduceLT, Int.reduceLE, Int.zero_mul, Int.zero_add, Int.cast_ofNat_Int, Int.reduceBEq, Nat.reduceLeDiff, Nat.reduceEqDiff, true_and, and_true, Nat.reduceSub, if_true, Option.some.injEq, exists_eq_left', Bool.not_true, Bool.not_false, decide_eq_true_eq, Bool.false_eq_true, if_false, *])
local macro_rules | `(tactic| walk_at "ck1") => `(tactic| try simp only [wp_seq, wp_asg, wp_if, wp_ret, wp_retN, wp_drop, wp_fn, wp_var0, wp_varS, wp_mC, wp_m2, wp_m1, wp_nil, wp_cons, wp_args, wp_call, wp_tst, wp_and, wp_or, wp_not, wp_andV, wp_orV, wp_notV, wp_ifE, wp_chain, wp_nx, wp_brk, wp_cnt, aft_rt, aft_bk, aft_ct, aft_xc, fin_rt, fin_nx, fin_xc, fin_bk, fin_ct, wp_gNm, wp_gTp, wp_gsNil, wp_gsCons, wp_gSub, wp_par, wp_par3, wp_i0, wp_iC, wp_addI, wp_addT, wp_mulI, wp_neg, wp_tup, wp_lst, sz0, sz1, sz2, sz3, sz4, sz5, sz6, sz7, sz8, wp_yes, wp_ixT, wp_ixL, wp_setL, wp_isi, tyN, isi_ii, isi_ib, isi_bi, isi_bb, isi_nb, isi_ni, isi_ns, isi_nt, isi_nl, isi_nd, isi_bs, isi_bt, isi_bl, isi_bd, isi_is, isi_it, isi_il, isi_id, isi_sb, isi_si, isi_ss, isi_st, isi_sl, isi_sd, isi_tb, isi_ti, isi_ts, isi_tt, isi_tl, isi_td, isi_lb, isi_li, isi_ls, isi_lt, isi_ll, isi_ld, isi_db, isi_di, isi_ds, isi_dt, isi_dl, isi_dd, wp_slice, wp_noPart, wp_part, asInt_int, wp_slT, wp_slL, wp_mulT, wp_src, wp_lc, wipeE, D.ref.injEq, D.tup.injEq, reduceCtorEq, false_and, exists_false, false_or, or_false, cpt2, cpt3, cpt4, cpt5, cpt6, cpt7, cpt8, cpt9, cpt10, cpt11, cpt12, cpt13, cpt14, cpt15, cpt16, cpt17, cpt18, cpt19, cpt20, cpt24, cpt30, cpt36, cpt40, cpt48, cpt50, cpt58, cpt59, cpt60, wp_extend, wp_revL, exists_and_left, wp_ML, wp_ML0, isLs_ref, wp_append, wp_pop, wp_tupleR, wp_tupleT, wp_listR, wp_listT, wp_all, wp_any, wp_sum, wp_notB, wp_isB, wp_isN, wp_notN, Option.isSome_some, wp_rng1, wp_rng2, wp_rng3, lsAt, lsO_lst, lsO_fro, lstO_lst, wp_lenR, lenO_lst, lenO_fro, lenO_dK, List.length_map, List.getElem?_cons_zero, List.getElem?_cons_succ, wp_dnew, wp_dget, wp_din, wp_dnin, wp_dg1, wp_dput, wp_dpop, wp_MD, isDk_ref, dkO_dK, keyD_int, keyD_str, wp_lrg1, wp_trg1, wp_MS, isStrB_str, wp_sindex, wp_isiT, wp_strI, wp_eqS, wp_neS, wp_eqI, wp_neI, wp_eqB, wp_neB, wp_abs, wp_intI, wp_intB, wp_max2, wp_min2, wp_lenT, wp_for, wp_ok, wp_bad, lp_nx, lp_ct, lp_bk, lp_rt, lp_xc, asBl_bl, at0, at1, at2, List.map_cons, List.map_nil, List.cons_append, List.nil_append, List.length_cons, List.length_nil, List.replicate, List.set_cons_zero, List.set_cons_succ, Nat.reduceAdd, Int.reduceToNat, Int.reducePow, Int.reduceNeg, Int.reduceMul, Int.reduceAdd, Int.reduceSub, Int.reduceMod, Int.reduceDiv, Int.reduceLT, Int.reduceLE, Int.zero_mul, Int.zero_add, Int.cast_ofNat_Int, Int.reduceBEq, Nat.reduceLeDiff, Nat.reduceEqDiff, true_and, and_true, Nat.reduceSub, if_true, Option.some.injEq, exists_eq_left', Bool.not_true, Bool.not_false, decide_eq_true_eq, Bool.false_eq_true, if_false])
def kOf (cs : List Card) (i : Nat) : Int := (cs.getD i (0, 0, 0)).1
def Rises (cs : List Card) (n : Nat) : Prop := ∀ j, 1 ≤ j → j < n → kOf cs (j - 1) < kOf cs j
def Bad (p : Card × D) : Prop := ∃ a, p.2 = cd a ∧ Lib.Or p.1 a
inductive Flt (t : Tr) : D → Prop where
  | keys {n : Nat} (h1 : 1 ≤ n) (h2 : n < t.cards.length) (hr : Rises t.cards n) (h : kOf t.cards n ≤ kOf t.cards (n - 1)) : Flt t (.tup [.str "keys", .int n])
  | ranks {n : Nat} {p : Card × D} (hr : Rises t.cards t.cards.length) (hp : (hungL t .non)[n]? = some p) (hb : Bad p) (hn : ∀ j q, j < n → (hungL t .non)[j]? = some q → ¬ Bad q) : Flt t (.tup [.str "ranks", .int n])
  | none (hr : Rises t.cards t.cards.length) (hn : ∀ q ∈ hungL t .non, ¬ Bad q) : Flt t .non
end Lib
end CK
end

section
set_option Elab.async false
set_option linter.all false
set_option exponentiation.threshold 100000
set_option maxRecDepth 100000
set_option maxHeartbeats 4000000
namespace CK
namespace Pv
namespace Lib
open PySem PySem.Spec PyProof.Rows L2
open CK.Lib
local macro_rules | `(tactic| walk_at "pp") => `(tactic| try simp only [CK.Pv.px_bnd, CK.Pv.px_ret, CK.Pv.px_ite, CK.Pv.px_pbad, CK.Pv.px_getS, CK.Pv.px_putS, CK.Pv.px_some, CK.Pv.px_run, CK.Pv.px_lft, CK.Pv.px_fnP, CK.Pv.px_fnN, CK.Pv.fin_rt, CK.Pv.fin_nx, CK.Pv.finN_rt, CK.Pv.finN_nx, CK.Pv.px_bndO, CK.Pv.aft_nx, CK.Pv.aft_rt, CK.Pv.aft_bk, CK.Pv.aft_ct, CK.Pv.lp_nx, CK.Pv.lp_ct, CK.Pv.lp_bk, CK.Pv.lp_rt, CK.Pv.bndI_nx, CK.Pv.bndI_rt, CK.Pv.ret_bnd, CK.Pv.opt_ret, CK.Pv.lft_ret, CK.Pv.px_throw, CK.Pv.asB_bl, CK.Pv.add_int, CK.Pv.sub_int, CK.Pv.lt_int, CK.Pv.le_int, CK.Pv.gt_int, CK.Pv.ge_int, CK.Pv.neg_int, CK.Pv.abs_int, CK.Pv.int_int, CK.Pv.int_bl, CK.Pv.max_int, CK.Pv.min_int, CK.Pv.len_tup, CK.Pv.len_lst, CK.Pv.len_fz, CK.Pv.len_dk, CK.Pv.walk_tup, CK.Pv.walk_lst, CK.Pv.walk_fz, CK.Pv.ix_tup, CK.Pv.ix_lst, CK.Pv.ix_fz, CK.Pv.at_0, CK.Pv.at_1, CK.Pv.at_2, CK.Pv.at_3, CK.Pv.at_4, CK.Pv.is_non, CK.Pv.is_int, CK.Pv.is_tup, CK.Pv.is_lst, CK.Pv.is_bl, CK.Pv.not_non, CK.Pv.not_int, CK.Pv.not_tup, CK.Pv.not_lst, CK.Pv.not_bl, CK.Pv.t2_tup, CK.Pv.t3_tup, CK.Pv.t4_tup, CK.Pv.t5_tup, CK.Pv.s2_lst, CK.Pv.s2_tup, CK.Pv.lsG_lst, CK.Pv.look_lst, CK.Pv.clr_mu, CK.Pv.enum_lst, CK.Pv.enum_tup, CK.Pv.enum_tup, CK.Pv.zip_lst, CK.Pv.list_tup, CK.Pv.list_lst, CK.Pv.tuple_tup, CK.Pv.tuple_lst, CK.Pv.part_int, CK.Pv.cut_tup, CK.Pv.cut_lst, CK.Pv.cutL_lst, CK.Pv.rev_lst, CK.Pv.eq_int, CK.Pv.ne_int, CK.Pv.eq_bl, CK.Pv.ne_bl, CK.Pv.dk_int, CK.Pv.px_at, CK.Pv.px_mod, CK.Pv.px_div, CK.Pv.px_pow, CK.Pv.px_mul, CK.Pv.px_addT, CK.Pv.px_addL, CK.Pv.px_cat, CK.Pv.px_rep, CK.Pv.px_app, CK.Pv.px_ext, CK.Pv.px_ins, CK.Pv.px_rng1, CK.Pv.px_rng2, CK.Pv.px_put, CK.Pv.px_rgL, decide_eq_true_eq, Bool.false_eq_true, Bool.true_eq_false, if_true, if_false, Bool.not_true, Bool.not_false, beq_self_eq_true, Option.isSome_some, Option.isSome_none, Option.some.injEq, exists_eq_left', decide_true, decide_false, Bool.not_eq_true', Int.reduceToNat, Int.reducePow, Int.reduceSub, Int.reduceAdd, Int.reduceMul, Int.reduceNeg, List.length_cons, List.length_nil])
def law_pot_P (v_script v_k : U) : PM Unit U := fnP (bnd (ret (U.int 0)) fun v_cell1 => (bndI (bnd (bnd (bnd (ret v_k) fun x => bnd (bnd (ret v_script) fun x2 => lenU x2) fun y => loc2 ltM x y) asB) fun t3 => if t3 = true then (bnd (bnd (bnd (bnd (ret v_script) fun x => bnd (ret v_k) fun y => ixP x y) fun x7 => locA absM [x7]) fun x => bnd (bnd (bnd (ret (U.int 10)) fun x => bnd (ret (U.int 60)) fun y => loc2 powM x y) fun x => bnd (ret (U.int 4)) fun y => loc2 powM x y) fun y => loc2 modM x y) fun v_cell8 => (ret (Out.nx v_cell8))) else (ret (Out.nx v_cell1))) fun (st6 : U) => (bnd (bnd (bnd (ret st6) fun x => bnd (bnd (bnd (ret st6) fun x => bnd (bnd (ret (U.int 10)) fun x => bnd (ret (U.int 18)) fun y => loc2 powM x y) fun y => loc2 geM x y) fun x11 => locA intM [x11]) fun y => mulU x y) fun x9 => bnd (bnd (bnd (bnd (bnd (bnd (ret st6) fun x => bnd (ret (U.int 2147483629)) fun y => loc2 modM x y) fun x => bnd (bnd (ret (U.int 7919)) fun x => bnd (ret v_k) fun y => mulU x y) fun y => addU x y) fun x => bnd (ret (U.int 1)) fun y => addU x y) fun x => bnd (ret (U.int 5)) fun y => loc2 powM x y) fun x => bnd (ret (U.int 2147483647)) fun y => loc2 modM x y) fun x10 => ret (U.lst [x9, x10])) fun v => ret (Out.rt v))))
theorem law_pot_S (v_script v_k : U) : Fn0 law_pot_M [ag v_script, ag v_k] (law_pot_P v_script v_k) frC := fn0_mk fun c hw => (rs_asg (i := 2) re_c (fun v_cell1 => (rs_seqI (F := True) (ok := fun (q : Unit) => True) (N := fun (q4 : Unit) (st6 : U) s => [(2, .val (ag st6)), (1, .val (ag v_k)), (KL, .ln 3)]) (rs_if (re_tst (re_op (re_val (i := 1) (fun _ => rfl)) (re_args (rj_cons (re_val (i := 0) (fun _ => rfl)) fun x2 => rj_nil rz_len)))) (rs_last (rs_asg (i := 2) (re_op (re_args (rj_cons (re_ix (re_val (i := 0) (fun _ => rfl)) (re_val (i := 1) (fun _ => rfl))) fun x7 => (rj_nil (rz_loc [x7])))) (re_op (re_op re_c re_c) re_c)) (fun v_cell8 => (rs_nx (fun _ => ⟨_, ⟨(), trivial, rfl⟩, sub_cons rfl (sub_cons rfl (sub_cons rfl (sub_nil)))⟩) trivial)))) (rs_nx (fun _ => ⟨_, ⟨(), trivial, rfl⟩, sub_cons rfl (sub_cons rfl (sub_cons rfl (sub_nil)))⟩) trivial)) fun q4 st6 hq5 => (rs_ret0f (re_args (rj_cons (re_mul (re_val (i := 2) (fun _ => rfl)) (re_args (rj_cons (re_op (re_val (i := 2) (fun _ => rfl)) (re_op re_c re_c)) fun x11 => (rj_nil (rz_loc [x11]))))) fun x9 => (rj_cons (re_op (re_op (re_add (re_add (re_op (re_val (i := 2) (fun _ => rfl)) re_c) (re_mul re_c (re_val (i := 1) (fun _ => rfl)))) re_c) re_c) re_c) fun x10 => (rj_nil (rz_lst [x9, x10]))))) hw))))
def law_take_P (v_many : U) : PM U U := fnP (bnd (bnd (bnd (bnd (ret (U.int 0)) fun y => (bnd getS fun s => ixP s y)) fun x => bnd (ret (U.int 0)) fun y => loc2 gtM x y) asB) fun t1 => if t1 = true then (bnd (bnd (bnd (ret (U.int 0)) fun y => (bnd getS fun s => ixP s y)) fun x => bnd (ret v_many) fun y => loc2 modM x y) fun v_found2 => (bnd (bnd (bnd (ret (U.int 0)) fun y => (bnd getS fun s => ixP s y)) fun x => bnd (ret v_many) fun y => loc2 fdivM x y) fun x => bnd (ret (U.int 0)) fun y => bnd (hidU fun v => setU v y x) fun _ => (bnd (ret v_found2) fun v => ret (Out.rt v)))) else (bnd (bnd (bnd (bnd (bnd (ret (U.int 1)) fun y => (bnd getS fun s => ixP s y)) fun x => bnd (ret (U.int 69621)) fun y => mulU x y) fun x => bnd (ret (U.int 12345)) fun y => addU x y) fun x => bnd (ret (U.int 2147483647)) fun y => loc2 modM x y) fun x => bnd (ret (U.int 1)) fun y => bnd (hidU fun v => setU v y x) fun _ => (bnd (bnd (bnd (bnd (bnd (bnd (ret (U.int 1)) fun y => (bnd getS fun s => ixP s y)) fun x => bnd (bnd (ret (U.int 1)) fun y => (bnd getS fun s => ixP s y)) fun y => mulU x y) fun x => bnd (ret (U.int 2147483629)) fun y => loc2 modM x y) fun x => bnd (ret (U.int 64)) fun y => loc2 fdivM x y) fun x => bnd (ret v_many) fun y => loc2 modM x y) fun v => ret (Out.rt v))))
theorem law_take_S (v_many : U) : Fn1 law_take_M (fun w => [agW w, ag v_many]) (law_take_P v_many) clW := fn1_mk (i := 0) (fun _ => rfl) fun c w hw => (rs_ifT (re_tst (re_op (re_ixO (i := 0) (fun _ => rfl) re_c) re_c)) (rs_asg (i := 2) (re_op (re_ixO (i := 0) (fun _ => rfl) re_c) (re_val (i := 1) (fun _ => rfl))) (fun v_found2 => (rs_setH (i := 0) (by (repeat (first | exact CK.Pv.gd_base | refine CK.Pv.gd_cons ?_))) (re_op (re_ixO (i := 0) (fun _ => rfl) re_c) (re_val (i := 1) (fun _ => rfl))) re_c (rs_ret1 (i := 0) (re_val (i := 2) (fun _ => rfl)) hw (fun _ => rfl) (hE := fun _ => sub_cons rfl sub_nil)) (hE := fun _ => sub_cons rfl sub_nil))) (hE := fun _ => sub_cons rfl sub_nil)) (rs_setH (i := 0) (by (repeat (first | exact CK.Pv.gd_base | refine CK.Pv.gd_cons ?_))) (re_op (re_add (re_mul (re_ixO (i := 0) (fun _ => rfl) re_c) re_c) re_c) re_c) re_c (rs_ret1 (i := 0) (re_op (re_op (re_op (re_mul (re_ixO (i := 0) (fun _ => rfl) re_c) (re_ixO (i := 0) (fun _ => rfl) re_c)) re_c) re_c) (re_val (i := 1) (fun _ => rfl))) hw (fun _ => rfl) (hE := fun _ => sub_cons rfl sub_nil)) (hE := fun _ => sub_cons rfl sub_nil)) (hE := fun _ => sub_cons rfl sub_nil))
def law_great_P : PM U U := fnP (bnd (bnd (bnd (ret (U.int 10)) fun x => bnd (ret (U.int 6)) fun y => loc2 powM x y) fun x2 => (law_take_P x2)) fun v_low3 => (bnd (bnd (bnd (ret (U.int 10)) fun x => bnd (ret (U.int 6)) fun y => loc2 powM x y) fun x5 => (law_take_P x5)) fun v_middle6 => (bnd (bnd (bnd (ret (U.int 10)) fun x => bnd (ret (U.int 18)) fun y => loc2 powM x y) fun x7 => bnd (bnd (bnd (bnd (bnd (bnd (bnd (bnd (ret (U.int 10)) fun x => bnd (ret (U.int 6)) fun y => loc2 powM x y) fun x => bnd (ret (U.int 1)) fun y => addU x y) fun x10 => (law_take_P x10)) fun x => bnd (bnd (ret (U.int 10)) fun x => bnd (ret (U.int 6)) fun y => loc2 powM x y) fun y => mulU x y) fun x => bnd (ret v_middle6) fun y => addU x y) fun x => bnd (bnd (ret (U.int 10)) fun x => bnd (ret (U.int 6)) fun y => loc2 powM x y) fun y => mulU x y) fun x => bnd (ret v_low3) fun y => addU x y) fun x8 => locA minM [x7, x8]) fun v => ret (Out.rt v))))
theorem law_great_S : Fn1 law_great2_M (fun w => [agW w]) (law_great_P) clW := fn1_mk (i := 0) (fun _ => rfl) fun c w hw => (rs_asg (i := 1) (re_call (rj_consW (i := 0) (fun _ => rfl) (rj_cons (re_op re_c re_c) fun x2 => (rj_nil (rz_fn1 (i := 0) (law_take_S x2) (by (repeat (first | exact CK.Pv.gd_base | refine CK.Pv.gd_cons ?_)))))))) (fun v_low3 => (rs_asg (i := 2) (re_call (rj_consW (i := 0) (fun _ => rfl) (rj_cons (re_op re_c re_c) fun x5 => (rj_nil (rz_fn1 (i := 0) (law_take_S x5) (by (repeat (first | exact CK.Pv.gd_base | refine CK.Pv.gd_cons ?_)))))))) (fun v_middle6 => (rs_ret1 (i := 0) (re_args (rj_cons (re_op re_c re_c) fun x7 => (rj_cons (re_add (re_mul (re_add (re_mul (re_call (rj_consW (i := 0) (fun _ => rfl) (rj_cons (re_add (re_op re_c re_c) re_c) fun x10 => (rj_nil (rz_fn1 (i := 0) (law_take_S x10) (by (repeat (first | exact CK.Pv.gd_base | refine CK.Pv.gd_cons ?_)))))))) (re_op re_c re_c)) (re_val (i := 2) (fun _ => rfl))) (re_op re_c re_c)) (re_val (i := 1) (fun _ => rfl))) fun x8 => (rj_nil (rz_loc [x7, x8]))))) hw (fun _ => rfl) (hE := fun _ => sub_cons rfl sub_nil))) (hE := fun _ => sub_cons rfl sub_nil))) (hE := fun _ => sub_cons rfl sub_nil))

def Pot (s : U) : Prop := ∃ a b, s = .lst [.int a, .int b] ∧ PotOk a b
theorem set_0 {a b v : U} : setU (.lst [a, b]) (.int 0) v = some (.lst [v, b]) := id rfl
theorem set_1 {a b v : U} : setU (.lst [a, b]) (.int 1) v = some (.lst [a, v]) := id rfl
theorem take_px {n : Int} {s : U} {Q : U → U → Prop} {E : Str → List (Str × D) → U → Prop} (h : Pot s) (h1 : 0 < n) (h2 : n < 2 ^ 200) (q : ∀ r s', 0 ≤ r → r < n → Pot s' → Q (.int r) s') : px (law_take_P (.int n)) s Q E := by
  obtain ⟨a, b, rfl, hp⟩ := h
  have hpos : ∀ x : Int, 0 ≤ x % n ∧ x % n < n := fun x => ⟨Int.emod_nonneg x (by omega), Int.emod_lt_of_pos x h1⟩
  have h2' : n < 2 ^ 4000 := Int.lt_trans h2 big200
  unfold law_take_P
  (try simp only [CK.Pv.px_bnd, CK.Pv.px_ret, CK.Pv.px_ite, CK.Pv.px_pbad, CK.Pv.px_getS, CK.Pv.px_putS, CK.Pv.px_some, CK.Pv.px_run, CK.Pv.px_lft, CK.Pv.px_fnP, CK.Pv.px_fnN, CK.Pv.fin_rt, CK.Pv.fin_nx, CK.Pv.finN_rt, CK.Pv.finN_nx, CK.Pv.px_bndO, CK.Pv.aft_nx, CK.Pv.aft_rt, CK.Pv.aft_bk, CK.Pv.aft_ct, CK.Pv.lp_nx, CK.Pv.lp_ct, CK.Pv.lp_bk, CK.Pv.lp_rt, CK.Pv.bndI_nx, CK.Pv.bndI_rt, CK.Pv.ret_bnd, CK.Pv.opt_ret, CK.Pv.lft_ret, CK.Pv.px_throw, CK.Pv.asB_bl, CK.Pv.add_int, CK.Pv.sub_int, CK.Pv.lt_int, CK.Pv.le_int, CK.Pv.gt_int, CK.Pv.ge_int, CK.Pv.neg_int, CK.Pv.abs_int, CK.Pv.int_int, CK.Pv.int_bl, CK.Pv.max_int, CK.Pv.min_int, CK.Pv.len_tup, CK.Pv.len_lst, CK.Pv.len_fz, CK.Pv.len_dk, CK.Pv.walk_tup, CK.Pv.walk_lst, CK.Pv.walk_fz, CK.Pv.ix_tup, CK.Pv.ix_lst, CK.Pv.ix_fz, CK.Pv.at_0, CK.Pv.at_1, CK.Pv.at_2, CK.Pv.at_3, CK.Pv.at_4, CK.Pv.is_non, CK.Pv.is_int, CK.Pv.is_tup, CK.Pv.is_lst, CK.Pv.is_bl, CK.Pv.not_non, CK.Pv.not_int, CK.Pv.not_tup, CK.Pv.not_lst, CK.Pv.not_bl, CK.Pv.t2_tup, CK.Pv.t3_tup, CK.Pv.t4_tup, CK.Pv.t5_tup, CK.Pv.s2_lst, CK.Pv.s2_tup, CK.Pv.lsG_lst, CK.Pv.look_lst, CK.Pv.clr_mu, CK.Pv.enum_lst, CK.Pv.enum_tup, CK.Pv.enum_tup, CK.Pv.zip_lst, CK.Pv.list_tup, CK.Pv.list_lst, CK.Pv.tuple_tup, CK.Pv.tuple_lst, CK.Pv.part_int, CK.Pv.cut_tup, CK.Pv.cut_lst, CK.Pv.cutL_lst, CK.Pv.rev_lst, CK.Pv.eq_int, CK.Pv.ne_int, CK.Pv.eq_bl, CK.Pv.ne_bl, CK.Pv.dk_int, CK.Pv.px_at, CK.Pv.px_mod, CK.Pv.px_div, CK.Pv.px_pow, CK.Pv.px_mul, CK.Pv.px_addT, CK.Pv.px_addL, CK.Pv.px_cat, CK.Pv.px_rep, CK.Pv.px_app, CK.Pv.px_ext, CK.Pv.px_ins, CK.Pv.px_rng1, CK.Pv.px_rng2, CK.Pv.px_put, CK.Pv.px_rgL, decide_eq_true_eq, Bool.false_eq_true, Bool.true_eq_false, if_true, if_false, Bool.not_true, Bool.not_false, beq_self_eq_true, Option.isSome_some, Option.isSome_none, Option.some.injEq, exists_eq_left', decide_true, decide_false, Bool.not_eq_true', Int.reduceToNat, Int.reducePow, Int.reduceSub, Int.reduceAdd, Int.reduceMul, Int.reduceNeg, List.length_cons, List.length_nil, px_hid, set_0, set_1])
  by_cases ha : 0 < a
  · rw [if_pos ha]
    have q1 : a / n ≤ a := Int.ediv_le_self n hp.a0
    have q0 : 0 ≤ a / n := Int.ediv_nonneg hp.a0 (by omega)
    have := hp.a1
    exact ⟨h1, cdiv_of h1 h2', q _ _ (hpos a).1 (hpos a).2 ⟨_, _, rfl, q0, by omega, hp.b0, hp.b1⟩⟩
  · rw [if_neg ha]
    have hb0 := hp.b0
    have hb1 := hp.b1
    have m0 : 0 ≤ (b * 69621 + 12345) % 2147483647 := Int.emod_nonneg _ (by decide)
    have m1 : (b * 69621 + 12345) % 2147483647 < 2147483647 := Int.emod_lt_of_pos _ (by decide)
    generalize (b * 69621 + 12345) % 2147483647 = c at m0 m1
    exact ⟨cmul_of (by omega) (by omega) (by omega) (by omega), by decide, cmul_of (by omega) (by omega) (by omega) (by omega), by decide, cdiv_of (by decide) (by decide), h1, q _ _ (hpos _).1 (hpos _).2 ⟨_, _, rfl, hp.a0, hp.a1, m0, m1⟩⟩
theorem p5_ok (c : Int) (h0 : 0 ≤ c) (h1 : c < 2147483629 + 7919 * 1000 + 1) : CPowX c 5 := by
  refine ⟨by decide, ?_⟩
  have : Builtin.Int.intBits c ≤ 40 := PyProof.Rows.intBits_le (by omega)
  omega
theorem fz_at {ns : List Int} {k : Int} (h0 : 0 ≤ k) (h : k < ns.length) : atI (ns.map U.int) k = some (.int ns[k.toNat]!) := by
  have hk : k.toNat < ns.length := by omega
  exact at_nat (j := k.toNat) (by omega) (by rw [List.getElem?_map, List.getElem?_eq_getElem hk]; simp [getElem!_pos, hk])
theorem pot_tail {c k : Int} {Q : U → Unit → Prop} (h0 : 0 ≤ k) (h1 : k < 1000) (c0 : 0 ≤ c) (c1 : c < 2 ^ 1300) (q : ∀ s, Pot s → Q s ()) : CPowX 10 18 ∧ CMulX c (if 1000000000000000000 ≤ c then 1 else 0) ∧ (0 : Int) < 2147483629 ∧ CMulX 7919 k ∧ CPowX (c % 2147483629 + 7919 * k + 1) 5 ∧ (0 : Int) < 2147483647 ∧
    Q (U.lst [U.int (c * if 1000000000000000000 ≤ c then 1 else 0), U.int ((c % 2147483629 + 7919 * k + 1) ^ 5 % 2147483647)]) () := by
  have m31 : ∀ c : Int, 0 ≤ c % 2147483647 ∧ c % 2147483647 < 2147483647 := fun c => ⟨Int.emod_nonneg _ (by decide), Int.emod_lt_of_pos _ (by decide)⟩
  have d0 : 0 ≤ c % 2147483629 := Int.emod_nonneg _ (by decide)
  have d1 : c % 2147483629 < 2147483629 := Int.emod_lt_of_pos _ (by decide)
  have big2 : (2 : Int) ^ 1300 < 2 ^ 4000 := by decide +kernel
  have key : ∀ z : Int, z = 0 ∨ z = 1 → CMulX c z ∧ 0 ≤ c * z ∧ c * z < 2 ^ 1300 := fun z hz => by
    rcases hz with rfl | rfl
    · exact ⟨cmul_of (by omega) (by omega) (by decide +kernel) (by decide +kernel), by simp, by simp⟩
    · exact ⟨cmul_of (by omega) (by omega) (by decide +kernel) (by decide +kernel), by simpa using c0, by simpa using c1⟩
  obtain ⟨k1, k2, k3⟩ := key (if 1000000000000000000 ≤ c then 1 else 0) (by split <;> simp)
  exact ⟨by decide +kernel, k1, by decide, cmul_s (by omega) (by omega) (by omega) (by omega), p5_ok _ (by omega) (by omega), by decide, q _ ⟨_, _, rfl, k2, k3, (m31 _).1, (m31 _).2⟩⟩
theorem pot_px {ns : List Int} {k : Int} {Q : U → Unit → Prop} {E : Str → List (Str × D) → Unit → Prop} (h0 : 0 ≤ k) (h1 : k < 1000) (q : ∀ s, Pot s → Q s ()) : px (law_pot_P (.fz (ns.map U.int)) (.int k)) () Q E := by
  unfold law_pot_P
  (try simp only [CK.Pv.px_bnd, CK.Pv.px_ret, CK.Pv.px_ite, CK.Pv.px_pbad, CK.Pv.px_getS, CK.Pv.px_putS, CK.Pv.px_some, CK.Pv.px_run, CK.Pv.px_lft, CK.Pv.px_fnP, CK.Pv.px_fnN, CK.Pv.fin_rt, CK.Pv.fin_nx, CK.Pv.finN_rt, CK.Pv.finN_nx, CK.Pv.px_bndO, CK.Pv.aft_nx, CK.Pv.aft_rt, CK.Pv.aft_bk, CK.Pv.aft_ct, CK.Pv.lp_nx, CK.Pv.lp_ct, CK.Pv.lp_bk, CK.Pv.lp_rt, CK.Pv.bndI_nx, CK.Pv.bndI_rt, CK.Pv.ret_bnd, CK.Pv.opt_ret, CK.Pv.lft_ret, CK.Pv.px_throw, CK.Pv.asB_bl, CK.Pv.add_int, CK.Pv.sub_int, CK.Pv.lt_int, CK.Pv.le_int, CK.Pv.gt_int, CK.Pv.ge_int, CK.Pv.neg_int, CK.Pv.abs_int, CK.Pv.int_int, CK.Pv.int_bl, CK.Pv.max_int, CK.Pv.min_int, CK.Pv.len_tup, CK.Pv.len_lst, CK.Pv.len_fz, CK.Pv.len_dk, CK.Pv.walk_tup, CK.Pv.walk_lst, CK.Pv.walk_fz, CK.Pv.ix_tup, CK.Pv.ix_lst, CK.Pv.ix_fz, CK.Pv.at_0, CK.Pv.at_1, CK.Pv.at_2, CK.Pv.at_3, CK.Pv.at_4, CK.Pv.is_non, CK.Pv.is_int, CK.Pv.is_tup, CK.Pv.is_lst, CK.Pv.is_bl, CK.Pv.not_non, CK.Pv.not_int, CK.Pv.not_tup, CK.Pv.not_lst, CK.Pv.not_bl, CK.Pv.t2_tup, CK.Pv.t3_tup, CK.Pv.t4_tup, CK.Pv.t5_tup, CK.Pv.s2_lst, CK.Pv.s2_tup, CK.Pv.lsG_lst, CK.Pv.look_lst, CK.Pv.clr_mu, CK.Pv.enum_lst, CK.Pv.enum_tup, CK.Pv.enum_tup, CK.Pv.zip_lst, CK.Pv.list_tup, CK.Pv.list_lst, CK.Pv.tuple_tup, CK.Pv.tuple_lst, CK.Pv.part_int, CK.Pv.cut_tup, CK.Pv.cut_lst, CK.Pv.cutL_lst, CK.Pv.rev_lst, CK.Pv.eq_int, CK.Pv.ne_int, CK.Pv.eq_bl, CK.Pv.ne_bl, CK.Pv.dk_int, CK.Pv.px_at, CK.Pv.px_mod, CK.Pv.px_div, CK.Pv.px_pow, CK.Pv.px_mul, CK.Pv.px_addT, CK.Pv.px_addL, CK.Pv.px_cat, CK.Pv.px_rep, CK.Pv.px_app, CK.Pv.px_ext, CK.Pv.px_ins, CK.Pv.px_rng1, CK.Pv.px_rng2, CK.Pv.px_put, CK.Pv.px_rgL, decide_eq_true_eq, Bool.false_eq_true, Bool.true_eq_false, if_true, if_false, Bool.not_true, Bool.not_false, beq_self_eq_true, Option.isSome_some, Option.isSome_none, Option.some.injEq, exists_eq_left', decide_true, decide_false, Bool.not_eq_true', Int.reduceToNat, Int.reducePow, Int.reduceSub, Int.reduceAdd, Int.reduceMul, Int.reduceNeg, List.length_cons, List.length_nil, List.length_map, px_bndI])
  split
  · rename_i hk
    refine ⟨_, fz_at h0 hk, ?_⟩
    walk_at "pp"
    refine ⟨cp60, by decide +kernel, by decide +kernel, pot_tail h0 h1 (Int.emod_nonneg _ (by decide +kernel)) (Int.lt_trans (Int.emod_lt_of_pos _ (by decide +kernel)) (by decide +kernel)) q⟩
  · exact pot_tail h0 h1 (by decide) (by decide +kernel) q
theorem great_px {s : U} {Q : U → U → Prop} {E : Str → List (Str × D) → U → Prop} (h : Pot s) (q : ∀ r s', 0 ≤ r → r ≤ 10 ^ 18 → Pot s' → Q (.int r) s') : px law_great_P s Q E := by
  unfold law_great_P
  walk_at "pp"
  refine ⟨cp6, ?_⟩
  refine take_px h (by decide) (by decide) fun a s1 a0 a1 h1 => ?_
  walk_at "pp"
  refine ⟨cp6, ?_⟩
  refine take_px h1 (by decide) (by decide) fun b s2 b0 b1 h2 => ?_
  walk_at "pp"
  refine ⟨cp18, cp6, ?_⟩
  refine take_px h2 (by decide) (by decide) fun c s3 c0 c1 h3 => ?_
  walk_at "pp"
  refine ⟨cp6, cmul_s (by omega) (by omega) (by omega) (by omega), cp6, cmul_s (by omega) (by omega) (by omega) (by omega), ?_⟩
  split
  · exact q _ _ (by omega) (by omega) h3
  · exact q _ _ (by omega) (by omega) h3
end Lib
end Pv
end CK
end

section
set_option Elab.async false
set_option linter.all false
set_option exponentiation.threshold 100000
set_option maxRecDepth 100000
set_option maxHeartbeats 4000000
namespace CK
namespace Pv
namespace Lib
open PySem PySem.Spec PyProof.Rows L2
open CK.Lib

def cu (c : Card) : U := .tup [.int c.1, .int c.2.1, .int c.2.2]
def tu : Tr → U
  | .e => .tup []
  | .n l c r => .tup [tu l, cu c, tu r]
theorem pln_cu (c : Card) : Pln 2 (cu c) := .tup fun x hx => by
  simp only [List.mem_cons, List.not_mem_nil, or_false] at hx
  rcases hx with rfl | rfl | rfl <;> exact .int _
theorem pln_cus (cs : List Card) : Pln 3 (.lst (cs.map cu)) := .lst fun x hx => by
  obtain ⟨c, _, rfl⟩ := List.mem_map.mp hx
  exact pln_cu c
theorem pln_nil {n : Nat} : Pln (n + 1) (.lst []) := .lst fun x hx => by cases hx
section
variable {ε : Type}
theorem eq_nilC {cs : List Card} : (eqP (.lst (cs.map cu)) (.lst []) : PM ε U) = ret (.bl cs.isEmpty) := by
  rw [eq_pln (pln_cus cs) (pln_nil (n := 0)) (by decide) (by decide)]
  cases cs <;> simp
theorem ne_nilC {cs : List Card} : (neP (.lst (cs.map cu)) (.lst []) : PM ε U) = ret (.bl (!cs.isEmpty)) := by
  rw [ne_pln (pln_cus cs) (pln_nil (n := 0)) (by decide) (by decide)]
  cases cs <;> simp
theorem cu_0 {c : Card} : (ixP (cu c) (.int 0) : PM ε U) = ret (.int c.1) := id rfl
theorem cu_1 {c : Card} : (ixP (cu c) (.int 1) : PM ε U) = ret (.int c.2.1) := id rfl
theorem cu_2 {c : Card} : (ixP (cu c) (.int 2) : PM ε U) = ret (.int c.2.2) := id rfl
theorem t3_cu {c : Card} : asT3 (cu c) = some (.int c.1, .int c.2.1, .int c.2.2) := id rfl
theorem t3_n {l r : Tr} {c : Card} : asT3 (tu (.n l c r)) = some (tu l, cu c, tu r) := id rfl
theorem ix_n0 {l r : Tr} {c : Card} : (ixP (tu (.n l c r)) (.int 0) : PM ε U) = ret (tu l) := id rfl
theorem ix_n1 {l r : Tr} {c : Card} : (ixP (tu (.n l c r)) (.int 1) : PM ε U) = ret (cu c) := id rfl
theorem ix_n2 {l r : Tr} {c : Card} : (ixP (tu (.n l c r)) (.int 2) : PM ε U) = ret (tu r) := id rfl
theorem is_cu {c : Card} : (isU (cu c) .non : PM ε U) = ret (.bl false) := id rfl
theorem not_cu {c : Card} : (notU (cu c) .non : PM ε U) = ret (.bl true) := id rfl
end
end Lib
end Pv
end CK
end

section
set_option Elab.async false
set_option linter.all false
set_option exponentiation.threshold 100000
set_option maxRecDepth 100000
set_option maxHeartbeats 4000000
namespace CK
namespace Pv
namespace Lib
open PySem PySem.Spec PyProof.Rows L2
open CK.Lib
local macro_rules | `(tactic| walk_at "pp") => `(tactic| try simp only [CK.Pv.px_bnd, CK.Pv.px_ret, CK.Pv.px_ite, CK.Pv.px_pbad, CK.Pv.px_getS, CK.Pv.px_putS, CK.Pv.px_some, CK.Pv.px_run, CK.Pv.px_lft, CK.Pv.px_fnP, CK.Pv.px_fnN, CK.Pv.fin_rt, CK.Pv.fin_nx, CK.Pv.finN_rt, CK.Pv.finN_nx, CK.Pv.px_bndO, CK.Pv.aft_nx, CK.Pv.aft_rt, CK.Pv.aft_bk, CK.Pv.aft_ct, CK.Pv.lp_nx, CK.Pv.lp_ct, CK.Pv.lp_bk, CK.Pv.lp_rt, CK.Pv.bndI_nx, CK.Pv.bndI_rt, CK.Pv.ret_bnd, CK.Pv.opt_ret, CK.Pv.lft_ret, CK.Pv.px_throw, CK.Pv.asB_bl, CK.Pv.add_int, CK.Pv.sub_int, CK.Pv.lt_int, CK.Pv.le_int, CK.Pv.gt_int, CK.Pv.ge_int, CK.Pv.neg_int, CK.Pv.abs_int, CK.Pv.int_int, CK.Pv.int_bl, CK.Pv.max_int, CK.Pv.min_int, CK.Pv.len_tup, CK.Pv.len_lst, CK.Pv.len_fz, CK.Pv.len_dk, CK.Pv.walk_tup, CK.Pv.walk_lst, CK.Pv.walk_fz, CK.Pv.ix_tup, CK.Pv.ix_lst, CK.Pv.ix_fz, CK.Pv.at_0, CK.Pv.at_1, CK.Pv.at_2, CK.Pv.at_3, CK.Pv.at_4, CK.Pv.is_non, CK.Pv.is_int, CK.Pv.is_tup, CK.Pv.is_lst, CK.Pv.is_bl, CK.Pv.not_non, CK.Pv.not_int, CK.Pv.not_tup, CK.Pv.not_lst, CK.Pv.not_bl, CK.Pv.t2_tup, CK.Pv.t3_tup, CK.Pv.t4_tup, CK.Pv.t5_tup, CK.Pv.s2_lst, CK.Pv.s2_tup, CK.Pv.lsG_lst, CK.Pv.look_lst, CK.Pv.clr_mu, CK.Pv.enum_lst, CK.Pv.enum_tup, CK.Pv.enum_tup, CK.Pv.zip_lst, CK.Pv.list_tup, CK.Pv.list_lst, CK.Pv.tuple_tup, CK.Pv.tuple_lst, CK.Pv.part_int, CK.Pv.cut_tup, CK.Pv.cut_lst, CK.Pv.cutL_lst, CK.Pv.rev_lst, CK.Pv.eq_int, CK.Pv.ne_int, CK.Pv.eq_bl, CK.Pv.ne_bl, CK.Pv.dk_int, CK.Pv.px_at, CK.Pv.px_mod, CK.Pv.px_div, CK.Pv.px_pow, CK.Pv.px_mul, CK.Pv.px_addT, CK.Pv.px_addL, CK.Pv.px_cat, CK.Pv.px_rep, CK.Pv.px_app, CK.Pv.px_ext, CK.Pv.px_ins, CK.Pv.px_rng1, CK.Pv.px_rng2, CK.Pv.px_put, CK.Pv.px_rgL, decide_eq_true_eq, Bool.false_eq_true, Bool.true_eq_false, if_true, if_false, Bool.not_true, Bool.not_false, beq_self_eq_true, Option.isSome_some, Option.isSome_none, Option.some.injEq, exists_eq_left', decide_true, decide_false, Bool.not_eq_true', Int.reduceToNat, Int.reducePow, Int.reduceSub, Int.reduceAdd, Int.reduceMul, Int.reduceNeg, List.length_cons, List.length_nil])
local macro_rules | `(tactic| walk_at "pt") => `(tactic| try simp only [CK.Pv.px_bnd, CK.Pv.px_ret, CK.Pv.px_ite, CK.Pv.px_pbad, CK.Pv.px_getS, CK.Pv.px_putS, CK.Pv.px_some, CK.Pv.px_run, CK.Pv.px_lft, CK.Pv.px_fnP, CK.Pv.px_fnN, CK.Pv.fin_rt, CK.Pv.fin_nx, CK.Pv.finN_rt, CK.Pv.finN_nx, CK.Pv.px_bndO, CK.Pv.aft_nx, CK.Pv.aft_rt, CK.Pv.aft_bk, CK.Pv.aft_ct, CK.Pv.lp_nx, CK.Pv.lp_ct, CK.Pv.lp_bk, CK.Pv.lp_rt, CK.Pv.bndI_nx, CK.Pv.bndI_rt, CK.Pv.ret_bnd, CK.Pv.opt_ret, CK.Pv.lft_ret, CK.Pv.px_throw, CK.Pv.asB_bl, CK.Pv.add_int, CK.Pv.sub_int, CK.Pv.lt_int, CK.Pv.le_int, CK.Pv.gt_int, CK.Pv.ge_int, CK.Pv.neg_int, CK.Pv.abs_int, CK.Pv.int_int, CK.Pv.int_bl, CK.Pv.max_int, CK.Pv.min_int, CK.Pv.len_tup, CK.Pv.len_lst, CK.Pv.len_fz, CK.Pv.len_dk, CK.Pv.walk_tup, CK.Pv.walk_lst, CK.Pv.walk_fz, CK.Pv.ix_tup, CK.Pv.ix_lst, CK.Pv.ix_fz, CK.Pv.at_0, CK.Pv.at_1, CK.Pv.at_2, CK.Pv.at_3, CK.Pv.at_4, CK.Pv.is_non, CK.Pv.is_int, CK.Pv.is_tup, CK.Pv.is_lst, CK.Pv.is_bl, CK.Pv.not_non, CK.Pv.not_int, CK.Pv.not_tup, CK.Pv.not_lst, CK.Pv.not_bl, CK.Pv.t2_tup, CK.Pv.t3_tup, CK.Pv.t4_tup, CK.Pv.t5_tup, CK.Pv.s2_lst, CK.Pv.s2_tup, CK.Pv.lsG_lst, CK.Pv.look_lst, CK.Pv.clr_mu, CK.Pv.enum_lst, CK.Pv.enum_tup, CK.Pv.enum_tup, CK.Pv.zip_lst, CK.Pv.list_tup, CK.Pv.list_lst, CK.Pv.tuple_tup, CK.Pv.tuple_lst, CK.Pv.part_int, CK.Pv.cut_tup, CK.Pv.cut_lst, CK.Pv.cutL_lst, CK.Pv.rev_lst, CK.Pv.eq_int, CK.Pv.ne_int, CK.Pv.eq_bl, CK.Pv.ne_bl, CK.Pv.dk_int, CK.Pv.px_at, CK.Pv.px_mod, CK.Pv.px_div, CK.Pv.px_pow, CK.Pv.px_mul, CK.Pv.px_addT, CK.Pv.px_addL, CK.Pv.px_cat, CK.Pv.px_rep, CK.Pv.px_app, CK.Pv.px_ext, CK.Pv.px_ins, CK.Pv.px_rng1, CK.Pv.px_rng2, CK.Pv.px_put, CK.Pv.px_rgL, decide_eq_true_eq, Bool.false_eq_true, Bool.true_eq_false, if_true, if_false, Bool.not_true, Bool.not_false, beq_self_eq_true, Option.isSome_some, Option.isSome_none, Option.some.injEq, exists_eq_left', decide_true, decide_false, Bool.not_eq_true', Int.reduceToNat, Int.reducePow, Int.reduceSub, Int.reduceAdd, Int.reduceMul, Int.reduceNeg, List.length_cons, List.length_nil, CK.Pv.Lib.cu_0, CK.Pv.Lib.cu_1, CK.Pv.Lib.cu_2, CK.Pv.Lib.t3_cu, CK.Pv.Lib.t3_n, CK.Pv.Lib.ix_n0, CK.Pv.Lib.ix_n1, CK.Pv.Lib.ix_n2, CK.Pv.Lib.is_cu, CK.Pv.Lib.not_cu, CK.Pv.Lib.eq_nilC, CK.Pv.Lib.ne_nilC])
def law_number_P (v_base : U) : PM U U := fnP (bnd (bnd (ret (U.int 5)) fun x2 => (law_take_P x2)) fun v_way3 => (bnd (bnd (ret (U.int 12)) fun x5 => (law_take_P x5)) fun v_near6 => (bnd (bnd (bnd (bnd (ret v_base) fun x => bnd (ret v_near6) fun y => addU x y) fun x9 => bnd (bnd (ret v_near6) fun x => bnd (ret (U.int 4)) fun y => loc2 fdivM x y) fun x10 => bnd (bnd (bnd (ret (U.int 10)) fun x => bnd (ret (U.int 18)) fun y => loc2 powM x y) fun x => bnd (bnd (ret v_near6) fun x => bnd (ret (U.int 4)) fun y => loc2 fdivM x y) fun y => loc2 subM x y) fun x11 => bnd (bnd (ret v_base) fun x => bnd (ret v_near6) fun y => addU x y) fun x12 => ret (U.lst [x9, x10, x11, x12])) fun x => bnd (bnd (ret v_way3) fun x7 => bnd (ret (U.int 3)) fun x8 => locA minM [x7, x8]) fun y => ixP x y) fun v_found13 => (bndI (bnd (bnd (bnd (ret v_way3) fun x => bnd (ret (U.int 4)) fun y => eqP x y) asB) fun t14 => if t14 = true then (bnd ((law_great_P)) fun v_found19 => (ret (Out.nx v_found19))) else (ret (Out.nx v_found13))) fun (st17 : U) => (bnd (bnd (ret st17) fun x20 => bnd (bnd (ret (U.int 10)) fun x => bnd (ret (U.int 18)) fun y => loc2 powM x y) fun x21 => locA minM [x20, x21]) fun v => ret (Out.rt v))))))
theorem law_number_S (v_base : U) : Fn1 law_number_M (fun w => [agW w, ag v_base]) (law_number_P v_base) clW := fn1_mk (i := 0) (fun _ => rfl) fun c w hw => (rs_asg (i := 2) (re_call (rj_consW (i := 0) (fun _ => rfl) (rj_cons re_c fun x2 => (rj_nil (rz_fn1 (i := 0) (law_take_S x2) (by (repeat (first | exact CK.Pv.gd_base | refine CK.Pv.gd_cons ?_)))))))) (fun v_way3 => (rs_asg (i := 3) (re_call (rj_consW (i := 0) (fun _ => rfl) (rj_cons re_c fun x5 => (rj_nil (rz_fn1 (i := 0) (law_take_S x5) (by (repeat (first | exact CK.Pv.gd_base | refine CK.Pv.gd_cons ?_)))))))) (fun v_near6 => (rs_asg (i := 4) (re_ix (RF.x (re_args (rj_cons (re_add (re_val (i := 1) (fun _ => rfl)) (re_val (i := 3) (fun _ => rfl))) fun x9 => (rj_cons (re_op (re_val (i := 3) (fun _ => rfl)) re_c) fun x10 => (rj_cons (re_op (re_op re_c re_c) (re_op (re_val (i := 3) (fun _ => rfl)) re_c)) fun x11 => (rj_cons (re_add (re_val (i := 1) (fun _ => rfl)) (re_val (i := 3) (fun _ => rfl))) fun x12 => (rj_nil (rz_lst [x9, x10, x11, x12])))))))) (re_args (rj_cons (re_val (i := 2) (fun _ => rfl)) fun x7 => (rj_cons re_c fun x8 => (rj_nil (rz_loc [x7, x8])))))) (fun v_found13 => (rs_seqI (F := True) (ok := fun (q : Unit) => True) (N := fun (q15 : Unit) (st17 : U) s => [(4, .val (ag st17)), (0, .own w (ao s)), (KL, .ln 5)]) (rs_if (re_tst (re_eq (re_val (i := 2) (fun _ => rfl)) re_c)) (rs_last (rs_asg (i := 4) (re_call (rj_consW (i := 0) (fun _ => rfl) (rj_nil (rz_fn1 (i := 0) (law_great_S) (by (repeat (first | exact CK.Pv.gd_base | refine CK.Pv.gd_cons ?_))))))) (fun v_found19 => (rs_nx (fun _ => ⟨_, ⟨(), trivial, rfl⟩, sub_cons rfl (sub_cons rfl (sub_cons rfl (sub_nil)))⟩) trivial)) (hE := fun _ => sub_cons rfl sub_nil))) (rs_nx (fun _ => ⟨_, ⟨(), trivial, rfl⟩, sub_cons rfl (sub_cons rfl (sub_cons rfl (sub_nil)))⟩) trivial) (hE := fun _ => sub_cons rfl sub_nil)) fun q15 st17 hq16 => (rs_ret1 (i := 0) (re_args (rj_cons (re_val (i := 4) (fun _ => rfl)) fun x20 => (rj_cons (re_op re_c re_c) fun x21 => (rj_nil (rz_loc [x20, x21]))))) hw (fun _ => rfl) (hE := fun _ => sub_cons rfl sub_nil)))) (hE := fun _ => sub_cons rfl sub_nil))) (hE := fun _ => sub_cons rfl sub_nil))) (hE := fun _ => sub_cons rfl sub_nil))
def law_card_P (v_base v_ranks : U) : PM U U := fnP (bnd (bnd (ret v_base) fun x2 => (law_number_P x2)) fun v_key3 => (bnd (bnd (bnd (ret (U.int 7)) fun x4 => bnd (bnd (ret (U.int 3)) fun x8 => (law_take_P x8)) fun x5 => bnd (bnd (ret v_base) fun x10 => (law_number_P x10)) fun x6 => ret (U.lst [x4, x5, x6])) fun x => bnd (ret v_ranks) fun y => ixP x y) fun v_rank11 => (bnd (bnd (bnd (ret (U.int 19)) fun x13 => (law_take_P x13)) fun x => bnd (ret (U.int 9)) fun y => loc2 subM x y) fun v_worth14 => (bndI (bnd (bnd (bnd (bnd (ret (U.int 4)) fun x16 => (law_take_P x16)) fun x => bnd (ret (U.int 0)) fun y => eqP x y) asB) fun t17 => if t17 = true then (bnd (bnd ((law_great_P)) fun x => bnd (bnd (bnd (ret (U.int 1)) fun x24 => bnd (bnd (ret (U.int 0)) fun x => bnd (ret (U.int 1)) fun y => loc2 subM x y) fun x25 => ret (U.lst [x24, x25])) fun x => bnd (bnd (ret (U.int 2)) fun x23 => (law_take_P x23)) fun y => ixP x y) fun y => mulU x y) fun v_worth26 => (ret (Out.nx v_worth26))) else (ret (Out.nx v_worth14))) fun (st20 : U) => (bnd (bnd (ret v_key3) fun x27 => bnd (ret v_rank11) fun x28 => bnd (bnd (bnd (ret (U.int 0)) fun x => bnd (bnd (ret (U.int 10)) fun x => bnd (ret (U.int 18)) fun y => loc2 powM x y) fun y => loc2 subM x y) fun x30 => bnd (bnd (bnd (ret (U.int 10)) fun x => bnd (ret (U.int 18)) fun y => loc2 powM x y) fun x32 => bnd (ret st20) fun x33 => locA minM [x32, x33]) fun x31 => locA maxM [x30, x31]) fun x29 => ret (U.tup [x27, x28, x29])) fun v => ret (Out.rt v))))))
theorem law_card_S (v_base v_ranks : U) : Fn1 law_card_M (fun w => [agW w, ag v_base, ag v_ranks]) (law_card_P v_base v_ranks) clW := fn1_mk (i := 0) (fun _ => rfl) fun c w hw => (rs_asg (i := 3) (re_call (rj_consW (i := 0) (fun _ => rfl) (rj_cons (re_val (i := 1) (fun _ => rfl)) fun x2 => (rj_nil (rz_fn1 (i := 0) (law_number_S x2) (by (repeat (first | exact CK.Pv.gd_base | refine CK.Pv.gd_cons ?_)))))))) (fun v_key3 => (rs_asg (i := 4) (re_ix (RF.x (re_args (rj_cons re_c fun x4 => (rj_cons (re_call (rj_consW (i := 0) (fun _ => rfl) (rj_cons re_c fun x8 => (rj_nil (rz_fn1 (i := 0) (law_take_S x8) (by (repeat (first | exact CK.Pv.gd_base | refine CK.Pv.gd_cons ?_)))))))) fun x5 => (rj_cons (re_call (rj_consW (i := 0) (fun _ => rfl) (rj_cons (re_val (i := 1) (fun _ => rfl)) fun x10 => (rj_nil (rz_fn1 (i := 0) (law_number_S x10) (by (repeat (first | exact CK.Pv.gd_base | refine CK.Pv.gd_cons ?_)))))))) fun x6 => (rj_nil (rz_lst [x4, x5, x6]))))))) (re_val (i := 2) (fun _ => rfl))) (fun v_rank11 => (rs_asg (i := 5) (re_op (re_call (rj_consW (i := 0) (fun _ => rfl) (rj_cons re_c fun x13 => (rj_nil (rz_fn1 (i := 0) (law_take_S x13) (by (repeat (first | exact CK.Pv.gd_base | refine CK.Pv.gd_cons ?_)))))))) re_c) (fun v_worth14 => (rs_seqI (F := True) (ok := fun (q : Unit) => True) (N := fun (q18 : Unit) (st20 : U) s => [(3, .val (ag v_key3)), (4, .val (ag v_rank11)), (5, .val (ag st20)), (0, .own w (ao s)), (KL, .ln 6)]) (rs_if (re_tst (re_eq (re_call (rj_consW (i := 0) (fun _ => rfl) (rj_cons re_c fun x16 => (rj_nil (rz_fn1 (i := 0) (law_take_S x16) (by (repeat (first | exact CK.Pv.gd_base | refine CK.Pv.gd_cons ?_)))))))) re_c)) (rs_last (rs_asg (i := 5) (re_mul (re_call (rj_consW (i := 0) (fun _ => rfl) (rj_nil (rz_fn1 (i := 0) (law_great_S) (by (repeat (first | exact CK.Pv.gd_base | refine CK.Pv.gd_cons ?_))))))) (re_ix (RF.x (re_args (rj_cons re_c fun x24 => (rj_cons (re_op re_c re_c) fun x25 => (rj_nil (rz_lst [x24, x25])))))) (re_call (rj_consW (i := 0) (fun _ => rfl) (rj_cons re_c fun x23 => (rj_nil (rz_fn1 (i := 0) (law_take_S x23) (by (repeat (first | exact CK.Pv.gd_base | refine CK.Pv.gd_cons ?_)))))))))) (fun v_worth26 => (rs_nx (fun _ => ⟨_, ⟨(), trivial, rfl⟩, sub_cons rfl (sub_cons rfl (sub_cons rfl (sub_cons rfl (sub_cons rfl (sub_nil)))))⟩) trivial)) (hE := fun _ => sub_cons rfl sub_nil))) (rs_nx (fun _ => ⟨_, ⟨(), trivial, rfl⟩, sub_cons rfl (sub_cons rfl (sub_cons rfl (sub_cons rfl (sub_cons rfl (sub_nil)))))⟩) trivial) (hE := fun _ => sub_cons rfl sub_nil)) fun q18 st20 hq19 => (rs_ret1 (i := 0) (re_args (rj_cons (re_val (i := 3) (fun _ => rfl)) fun x27 => (rj_cons (re_val (i := 4) (fun _ => rfl)) fun x28 => (rj_cons (re_args (rj_cons (re_op re_c (re_op re_c re_c)) fun x30 => (rj_cons (re_args (rj_cons (re_op re_c re_c) fun x32 => (rj_cons (re_val (i := 5) (fun _ => rfl)) fun x33 => (rj_nil (rz_loc [x32, x33]))))) fun x31 => (rj_nil (rz_loc [x30, x31]))))) fun x29 => (rj_nil (rz_tup [x27, x28, x29])))))) hw (fun _ => rfl) (hE := fun _ => sub_cons rfl sub_nil)))) (hE := fun _ => sub_cons rfl sub_nil))) (hE := fun _ => sub_cons rfl sub_nil))) (hE := fun _ => sub_cons rfl sub_nil))
theorem at_ints {ns : List Int} {i : Int} (P : Int → Prop) (hP : ∀ x ∈ ns, P x) (h0 : 0 ≤ i) (h1 : i < ns.length) : ∃ x, atI (ns.map U.int) i = some (.int x) ∧ P x := by
  have hk : i.toNat < ns.length := by omega
  exact ⟨ns[i.toNat], at_nat (j := i.toNat) (by omega) (by rw [List.getElem?_map, List.getElem?_eq_getElem hk]; rfl), hP _ (List.getElem_mem hk)⟩
theorem number_px {s : U} {b : Int} {Q : U → U → Prop} {E : Str → List (Str × D) → U → Prop} (h : Pot s) (b0 : 0 ≤ b) (b1 : b ≤ 10 ^ 18) (q : ∀ r s', 0 ≤ r → r ≤ 10 ^ 18 → Pot s' → Q (.int r) s') : px (law_number_P (.int b)) s Q E := by
  unfold law_number_P
  (try simp only [CK.Pv.px_bnd, CK.Pv.px_ret, CK.Pv.px_ite, CK.Pv.px_pbad, CK.Pv.px_getS, CK.Pv.px_putS, CK.Pv.px_some, CK.Pv.px_run, CK.Pv.px_lft, CK.Pv.px_fnP, CK.Pv.px_fnN, CK.Pv.fin_rt, CK.Pv.fin_nx, CK.Pv.finN_rt, CK.Pv.finN_nx, CK.Pv.px_bndO, CK.Pv.aft_nx, CK.Pv.aft_rt, CK.Pv.aft_bk, CK.Pv.aft_ct, CK.Pv.lp_nx, CK.Pv.lp_ct, CK.Pv.lp_bk, CK.Pv.lp_rt, CK.Pv.bndI_nx, CK.Pv.bndI_rt, CK.Pv.ret_bnd, CK.Pv.opt_ret, CK.Pv.lft_ret, CK.Pv.px_throw, CK.Pv.asB_bl, CK.Pv.add_int, CK.Pv.sub_int, CK.Pv.lt_int, CK.Pv.le_int, CK.Pv.gt_int, CK.Pv.ge_int, CK.Pv.neg_int, CK.Pv.abs_int, CK.Pv.int_int, CK.Pv.int_bl, CK.Pv.max_int, CK.Pv.min_int, CK.Pv.len_tup, CK.Pv.len_lst, CK.Pv.len_fz, CK.Pv.len_dk, CK.Pv.walk_tup, CK.Pv.walk_lst, CK.Pv.walk_fz, CK.Pv.ix_tup, CK.Pv.ix_lst, CK.Pv.ix_fz, CK.Pv.at_0, CK.Pv.at_1, CK.Pv.at_2, CK.Pv.at_3, CK.Pv.at_4, CK.Pv.is_non, CK.Pv.is_int, CK.Pv.is_tup, CK.Pv.is_lst, CK.Pv.is_bl, CK.Pv.not_non, CK.Pv.not_int, CK.Pv.not_tup, CK.Pv.not_lst, CK.Pv.not_bl, CK.Pv.t2_tup, CK.Pv.t3_tup, CK.Pv.t4_tup, CK.Pv.t5_tup, CK.Pv.s2_lst, CK.Pv.s2_tup, CK.Pv.lsG_lst, CK.Pv.look_lst, CK.Pv.clr_mu, CK.Pv.enum_lst, CK.Pv.enum_tup, CK.Pv.enum_tup, CK.Pv.zip_lst, CK.Pv.list_tup, CK.Pv.list_lst, CK.Pv.tuple_tup, CK.Pv.tuple_lst, CK.Pv.part_int, CK.Pv.cut_tup, CK.Pv.cut_lst, CK.Pv.cutL_lst, CK.Pv.rev_lst, CK.Pv.eq_int, CK.Pv.ne_int, CK.Pv.eq_bl, CK.Pv.ne_bl, CK.Pv.dk_int, CK.Pv.px_at, CK.Pv.px_mod, CK.Pv.px_div, CK.Pv.px_pow, CK.Pv.px_mul, CK.Pv.px_addT, CK.Pv.px_addL, CK.Pv.px_cat, CK.Pv.px_rep, CK.Pv.px_app, CK.Pv.px_ext, CK.Pv.px_ins, CK.Pv.px_rng1, CK.Pv.px_rng2, CK.Pv.px_put, CK.Pv.px_rgL, decide_eq_true_eq, Bool.false_eq_true, Bool.true_eq_false, if_true, if_false, Bool.not_true, Bool.not_false, beq_self_eq_true, Option.isSome_some, Option.isSome_none, Option.some.injEq, exists_eq_left', decide_true, decide_false, Bool.not_eq_true', Int.reduceToNat, Int.reducePow, Int.reduceSub, Int.reduceAdd, Int.reduceMul, Int.reduceNeg, List.length_cons, List.length_nil, px_bndI])
  refine take_px h (by decide) (by decide) fun y s1 y0 y1 h1 => ?_
  (try simp only [CK.Pv.px_bnd, CK.Pv.px_ret, CK.Pv.px_ite, CK.Pv.px_pbad, CK.Pv.px_getS, CK.Pv.px_putS, CK.Pv.px_some, CK.Pv.px_run, CK.Pv.px_lft, CK.Pv.px_fnP, CK.Pv.px_fnN, CK.Pv.fin_rt, CK.Pv.fin_nx, CK.Pv.finN_rt, CK.Pv.finN_nx, CK.Pv.px_bndO, CK.Pv.aft_nx, CK.Pv.aft_rt, CK.Pv.aft_bk, CK.Pv.aft_ct, CK.Pv.lp_nx, CK.Pv.lp_ct, CK.Pv.lp_bk, CK.Pv.lp_rt, CK.Pv.bndI_nx, CK.Pv.bndI_rt, CK.Pv.ret_bnd, CK.Pv.opt_ret, CK.Pv.lft_ret, CK.Pv.px_throw, CK.Pv.asB_bl, CK.Pv.add_int, CK.Pv.sub_int, CK.Pv.lt_int, CK.Pv.le_int, CK.Pv.gt_int, CK.Pv.ge_int, CK.Pv.neg_int, CK.Pv.abs_int, CK.Pv.int_int, CK.Pv.int_bl, CK.Pv.max_int, CK.Pv.min_int, CK.Pv.len_tup, CK.Pv.len_lst, CK.Pv.len_fz, CK.Pv.len_dk, CK.Pv.walk_tup, CK.Pv.walk_lst, CK.Pv.walk_fz, CK.Pv.ix_tup, CK.Pv.ix_lst, CK.Pv.ix_fz, CK.Pv.at_0, CK.Pv.at_1, CK.Pv.at_2, CK.Pv.at_3, CK.Pv.at_4, CK.Pv.is_non, CK.Pv.is_int, CK.Pv.is_tup, CK.Pv.is_lst, CK.Pv.is_bl, CK.Pv.not_non, CK.Pv.not_int, CK.Pv.not_tup, CK.Pv.not_lst, CK.Pv.not_bl, CK.Pv.t2_tup, CK.Pv.t3_tup, CK.Pv.t4_tup, CK.Pv.t5_tup, CK.Pv.s2_lst, CK.Pv.s2_tup, CK.Pv.lsG_lst, CK.Pv.look_lst, CK.Pv.clr_mu, CK.Pv.enum_lst, CK.Pv.enum_tup, CK.Pv.enum_tup, CK.Pv.zip_lst, CK.Pv.list_tup, CK.Pv.list_lst, CK.Pv.tuple_tup, CK.Pv.tuple_lst, CK.Pv.part_int, CK.Pv.cut_tup, CK.Pv.cut_lst, CK.Pv.cutL_lst, CK.Pv.rev_lst, CK.Pv.eq_int, CK.Pv.ne_int, CK.Pv.eq_bl, CK.Pv.ne_bl, CK.Pv.dk_int, CK.Pv.px_at, CK.Pv.px_mod, CK.Pv.px_div, CK.Pv.px_pow, CK.Pv.px_mul, CK.Pv.px_addT, CK.Pv.px_addL, CK.Pv.px_cat, CK.Pv.px_rep, CK.Pv.px_app, CK.Pv.px_ext, CK.Pv.px_ins, CK.Pv.px_rng1, CK.Pv.px_rng2, CK.Pv.px_put, CK.Pv.px_rgL, decide_eq_true_eq, Bool.false_eq_true, Bool.true_eq_false, if_true, if_false, Bool.not_true, Bool.not_false, beq_self_eq_true, Option.isSome_some, Option.isSome_none, Option.some.injEq, exists_eq_left', decide_true, decide_false, Bool.not_eq_true', Int.reduceToNat, Int.reducePow, Int.reduceSub, Int.reduceAdd, Int.reduceMul, Int.reduceNeg, List.length_cons, List.length_nil, px_bndI])
  refine take_px h1 (by decide) (by decide) fun n s2 n0 n1 h2 => ?_
  (try simp only [CK.Pv.px_bnd, CK.Pv.px_ret, CK.Pv.px_ite, CK.Pv.px_pbad, CK.Pv.px_getS, CK.Pv.px_putS, CK.Pv.px_some, CK.Pv.px_run, CK.Pv.px_lft, CK.Pv.px_fnP, CK.Pv.px_fnN, CK.Pv.fin_rt, CK.Pv.fin_nx, CK.Pv.finN_rt, CK.Pv.finN_nx, CK.Pv.px_bndO, CK.Pv.aft_nx, CK.Pv.aft_rt, CK.Pv.aft_bk, CK.Pv.aft_ct, CK.Pv.lp_nx, CK.Pv.lp_ct, CK.Pv.lp_bk, CK.Pv.lp_rt, CK.Pv.bndI_nx, CK.Pv.bndI_rt, CK.Pv.ret_bnd, CK.Pv.opt_ret, CK.Pv.lft_ret, CK.Pv.px_throw, CK.Pv.asB_bl, CK.Pv.add_int, CK.Pv.sub_int, CK.Pv.lt_int, CK.Pv.le_int, CK.Pv.gt_int, CK.Pv.ge_int, CK.Pv.neg_int, CK.Pv.abs_int, CK.Pv.int_int, CK.Pv.int_bl, CK.Pv.max_int, CK.Pv.min_int, CK.Pv.len_tup, CK.Pv.len_lst, CK.Pv.len_fz, CK.Pv.len_dk, CK.Pv.walk_tup, CK.Pv.walk_lst, CK.Pv.walk_fz, CK.Pv.ix_tup, CK.Pv.ix_lst, CK.Pv.ix_fz, CK.Pv.at_0, CK.Pv.at_1, CK.Pv.at_2, CK.Pv.at_3, CK.Pv.at_4, CK.Pv.is_non, CK.Pv.is_int, CK.Pv.is_tup, CK.Pv.is_lst, CK.Pv.is_bl, CK.Pv.not_non, CK.Pv.not_int, CK.Pv.not_tup, CK.Pv.not_lst, CK.Pv.not_bl, CK.Pv.t2_tup, CK.Pv.t3_tup, CK.Pv.t4_tup, CK.Pv.t5_tup, CK.Pv.s2_lst, CK.Pv.s2_tup, CK.Pv.lsG_lst, CK.Pv.look_lst, CK.Pv.clr_mu, CK.Pv.enum_lst, CK.Pv.enum_tup, CK.Pv.enum_tup, CK.Pv.zip_lst, CK.Pv.list_tup, CK.Pv.list_lst, CK.Pv.tuple_tup, CK.Pv.tuple_lst, CK.Pv.part_int, CK.Pv.cut_tup, CK.Pv.cut_lst, CK.Pv.cutL_lst, CK.Pv.rev_lst, CK.Pv.eq_int, CK.Pv.ne_int, CK.Pv.eq_bl, CK.Pv.ne_bl, CK.Pv.dk_int, CK.Pv.px_at, CK.Pv.px_mod, CK.Pv.px_div, CK.Pv.px_pow, CK.Pv.px_mul, CK.Pv.px_addT, CK.Pv.px_addL, CK.Pv.px_cat, CK.Pv.px_rep, CK.Pv.px_app, CK.Pv.px_ext, CK.Pv.px_ins, CK.Pv.px_rng1, CK.Pv.px_rng2, CK.Pv.px_put, CK.Pv.px_rgL, decide_eq_true_eq, Bool.false_eq_true, Bool.true_eq_false, if_true, if_false, Bool.not_true, Bool.not_false, beq_self_eq_true, Option.isSome_some, Option.isSome_none, Option.some.injEq, exists_eq_left', decide_true, decide_false, Bool.not_eq_true', Int.reduceToNat, Int.reducePow, Int.reduceSub, Int.reduceAdd, Int.reduceMul, Int.reduceNeg, List.length_cons, List.length_nil, px_bndI])
  obtain ⟨x, hx, x0, x1⟩ := at_ints (ns := [b + n, n / 4, 1000000000000000000 - n / 4, b + n]) (i := if 3 < y then 3 else y) (fun x => 0 ≤ x ∧ x ≤ 10 ^ 18 + 12) (by simp; omega) (by split <;> omega) (by simp only [List.length_cons, List.length_nil]; split <;> omega)
  refine ⟨cdiv_s (by decide) (by decide), cp18, cdiv_s (by decide) (by decide), _, hx, ?_⟩
  split
  · refine great_px h2 fun z s3 z0 z1 h3 => ⟨cp18, ?_⟩
    (try simp only [CK.Pv.px_bnd, CK.Pv.px_ret, CK.Pv.px_ite, CK.Pv.px_pbad, CK.Pv.px_getS, CK.Pv.px_putS, CK.Pv.px_some, CK.Pv.px_run, CK.Pv.px_lft, CK.Pv.px_fnP, CK.Pv.px_fnN, CK.Pv.fin_rt, CK.Pv.fin_nx, CK.Pv.finN_rt, CK.Pv.finN_nx, CK.Pv.px_bndO, CK.Pv.aft_nx, CK.Pv.aft_rt, CK.Pv.aft_bk, CK.Pv.aft_ct, CK.Pv.lp_nx, CK.Pv.lp_ct, CK.Pv.lp_bk, CK.Pv.lp_rt, CK.Pv.bndI_nx, CK.Pv.bndI_rt, CK.Pv.ret_bnd, CK.Pv.opt_ret, CK.Pv.lft_ret, CK.Pv.px_throw, CK.Pv.asB_bl, CK.Pv.add_int, CK.Pv.sub_int, CK.Pv.lt_int, CK.Pv.le_int, CK.Pv.gt_int, CK.Pv.ge_int, CK.Pv.neg_int, CK.Pv.abs_int, CK.Pv.int_int, CK.Pv.int_bl, CK.Pv.max_int, CK.Pv.min_int, CK.Pv.len_tup, CK.Pv.len_lst, CK.Pv.len_fz, CK.Pv.len_dk, CK.Pv.walk_tup, CK.Pv.walk_lst, CK.Pv.walk_fz, CK.Pv.ix_tup, CK.Pv.ix_lst, CK.Pv.ix_fz, CK.Pv.at_0, CK.Pv.at_1, CK.Pv.at_2, CK.Pv.at_3, CK.Pv.at_4, CK.Pv.is_non, CK.Pv.is_int, CK.Pv.is_tup, CK.Pv.is_lst, CK.Pv.is_bl, CK.Pv.not_non, CK.Pv.not_int, CK.Pv.not_tup, CK.Pv.not_lst, CK.Pv.not_bl, CK.Pv.t2_tup, CK.Pv.t3_tup, CK.Pv.t4_tup, CK.Pv.t5_tup, CK.Pv.s2_lst, CK.Pv.s2_tup, CK.Pv.lsG_lst, CK.Pv.look_lst, CK.Pv.clr_mu, CK.Pv.enum_lst, CK.Pv.enum_tup, CK.Pv.enum_tup, CK.Pv.zip_lst, CK.Pv.list_tup, CK.Pv.list_lst, CK.Pv.tuple_tup, CK.Pv.tuple_lst, CK.Pv.part_int, CK.Pv.cut_tup, CK.Pv.cut_lst, CK.Pv.cutL_lst, CK.Pv.rev_lst, CK.Pv.eq_int, CK.Pv.ne_int, CK.Pv.eq_bl, CK.Pv.ne_bl, CK.Pv.dk_int, CK.Pv.px_at, CK.Pv.px_mod, CK.Pv.px_div, CK.Pv.px_pow, CK.Pv.px_mul, CK.Pv.px_addT, CK.Pv.px_addL, CK.Pv.px_cat, CK.Pv.px_rep, CK.Pv.px_app, CK.Pv.px_ext, CK.Pv.px_ins, CK.Pv.px_rng1, CK.Pv.px_rng2, CK.Pv.px_put, CK.Pv.px_rgL, decide_eq_true_eq, Bool.false_eq_true, Bool.true_eq_false, if_true, if_false, Bool.not_true, Bool.not_false, beq_self_eq_true, Option.isSome_some, Option.isSome_none, Option.some.injEq, exists_eq_left', decide_true, decide_false, Bool.not_eq_true', Int.reduceToNat, Int.reducePow, Int.reduceSub, Int.reduceAdd, Int.reduceMul, Int.reduceNeg, List.length_cons, List.length_nil, px_bndI])
    split
    · exact q _ _ (by omega) (by omega) h3
    · exact q _ _ (by omega) (by omega) h3
  · refine ⟨cp18, ?_⟩
    (try simp only [CK.Pv.px_bnd, CK.Pv.px_ret, CK.Pv.px_ite, CK.Pv.px_pbad, CK.Pv.px_getS, CK.Pv.px_putS, CK.Pv.px_some, CK.Pv.px_run, CK.Pv.px_lft, CK.Pv.px_fnP, CK.Pv.px_fnN, CK.Pv.fin_rt, CK.Pv.fin_nx, CK.Pv.finN_rt, CK.Pv.finN_nx, CK.Pv.px_bndO, CK.Pv.aft_nx, CK.Pv.aft_rt, CK.Pv.aft_bk, CK.Pv.aft_ct, CK.Pv.lp_nx, CK.Pv.lp_ct, CK.Pv.lp_bk, CK.Pv.lp_rt, CK.Pv.bndI_nx, CK.Pv.bndI_rt, CK.Pv.ret_bnd, CK.Pv.opt_ret, CK.Pv.lft_ret, CK.Pv.px_throw, CK.Pv.asB_bl, CK.Pv.add_int, CK.Pv.sub_int, CK.Pv.lt_int, CK.Pv.le_int, CK.Pv.gt_int, CK.Pv.ge_int, CK.Pv.neg_int, CK.Pv.abs_int, CK.Pv.int_int, CK.Pv.int_bl, CK.Pv.max_int, CK.Pv.min_int, CK.Pv.len_tup, CK.Pv.len_lst, CK.Pv.len_fz, CK.Pv.len_dk, CK.Pv.walk_tup, CK.Pv.walk_lst, CK.Pv.walk_fz, CK.Pv.ix_tup, CK.Pv.ix_lst, CK.Pv.ix_fz, CK.Pv.at_0, CK.Pv.at_1, CK.Pv.at_2, CK.Pv.at_3, CK.Pv.at_4, CK.Pv.is_non, CK.Pv.is_int, CK.Pv.is_tup, CK.Pv.is_lst, CK.Pv.is_bl, CK.Pv.not_non, CK.Pv.not_int, CK.Pv.not_tup, CK.Pv.not_lst, CK.Pv.not_bl, CK.Pv.t2_tup, CK.Pv.t3_tup, CK.Pv.t4_tup, CK.Pv.t5_tup, CK.Pv.s2_lst, CK.Pv.s2_tup, CK.Pv.lsG_lst, CK.Pv.look_lst, CK.Pv.clr_mu, CK.Pv.enum_lst, CK.Pv.enum_tup, CK.Pv.enum_tup, CK.Pv.zip_lst, CK.Pv.list_tup, CK.Pv.list_lst, CK.Pv.tuple_tup, CK.Pv.tuple_lst, CK.Pv.part_int, CK.Pv.cut_tup, CK.Pv.cut_lst, CK.Pv.cutL_lst, CK.Pv.rev_lst, CK.Pv.eq_int, CK.Pv.ne_int, CK.Pv.eq_bl, CK.Pv.ne_bl, CK.Pv.dk_int, CK.Pv.px_at, CK.Pv.px_mod, CK.Pv.px_div, CK.Pv.px_pow, CK.Pv.px_mul, CK.Pv.px_addT, CK.Pv.px_addL, CK.Pv.px_cat, CK.Pv.px_rep, CK.Pv.px_app, CK.Pv.px_ext, CK.Pv.px_ins, CK.Pv.px_rng1, CK.Pv.px_rng2, CK.Pv.px_put, CK.Pv.px_rgL, decide_eq_true_eq, Bool.false_eq_true, Bool.true_eq_false, if_true, if_false, Bool.not_true, Bool.not_false, beq_self_eq_true, Option.isSome_some, Option.isSome_none, Option.some.injEq, exists_eq_left', decide_true, decide_false, Bool.not_eq_true', Int.reduceToNat, Int.reducePow, Int.reduceSub, Int.reduceAdd, Int.reduceMul, Int.reduceNeg, List.length_cons, List.length_nil, px_bndI])
    split
    · exact q _ _ (by omega) (by omega) h2
    · exact q _ _ (by omega) (by omega) h2
def clamp (x : Int) : Int := if (if x < 1000000000000000000 then x else 1000000000000000000) > -1000000000000000000 then (if x < 1000000000000000000 then x else 1000000000000000000) else -1000000000000000000
theorem clamp_ok (x : Int) : -(10 ^ 18) ≤ clamp x ∧ clamp x ≤ 10 ^ 18 := by unfold clamp; split <;> split <;> omega
theorem card_px {s : U} {b y : Int} {Q : U → U → Prop} {E : Str → List (Str × D) → U → Prop} (h : Pot s) (b0 : 0 ≤ b) (b1 : b ≤ 10 ^ 18) (y0 : 0 ≤ y) (y1 : y < 3) (q : ∀ c s', PackB c → Pot s' → Q (cu c) s') : px (law_card_P (.int b) (.int y)) s Q E := by
  unfold law_card_P
  (try simp only [CK.Pv.px_bnd, CK.Pv.px_ret, CK.Pv.px_ite, CK.Pv.px_pbad, CK.Pv.px_getS, CK.Pv.px_putS, CK.Pv.px_some, CK.Pv.px_run, CK.Pv.px_lft, CK.Pv.px_fnP, CK.Pv.px_fnN, CK.Pv.fin_rt, CK.Pv.fin_nx, CK.Pv.finN_rt, CK.Pv.finN_nx, CK.Pv.px_bndO, CK.Pv.aft_nx, CK.Pv.aft_rt, CK.Pv.aft_bk, CK.Pv.aft_ct, CK.Pv.lp_nx, CK.Pv.lp_ct, CK.Pv.lp_bk, CK.Pv.lp_rt, CK.Pv.bndI_nx, CK.Pv.bndI_rt, CK.Pv.ret_bnd, CK.Pv.opt_ret, CK.Pv.lft_ret, CK.Pv.px_throw, CK.Pv.asB_bl, CK.Pv.add_int, CK.Pv.sub_int, CK.Pv.lt_int, CK.Pv.le_int, CK.Pv.gt_int, CK.Pv.ge_int, CK.Pv.neg_int, CK.Pv.abs_int, CK.Pv.int_int, CK.Pv.int_bl, CK.Pv.max_int, CK.Pv.min_int, CK.Pv.len_tup, CK.Pv.len_lst, CK.Pv.len_fz, CK.Pv.len_dk, CK.Pv.walk_tup, CK.Pv.walk_lst, CK.Pv.walk_fz, CK.Pv.ix_tup, CK.Pv.ix_lst, CK.Pv.ix_fz, CK.Pv.at_0, CK.Pv.at_1, CK.Pv.at_2, CK.Pv.at_3, CK.Pv.at_4, CK.Pv.is_non, CK.Pv.is_int, CK.Pv.is_tup, CK.Pv.is_lst, CK.Pv.is_bl, CK.Pv.not_non, CK.Pv.not_int, CK.Pv.not_tup, CK.Pv.not_lst, CK.Pv.not_bl, CK.Pv.t2_tup, CK.Pv.t3_tup, CK.Pv.t4_tup, CK.Pv.t5_tup, CK.Pv.s2_lst, CK.Pv.s2_tup, CK.Pv.lsG_lst, CK.Pv.look_lst, CK.Pv.clr_mu, CK.Pv.enum_lst, CK.Pv.enum_tup, CK.Pv.enum_tup, CK.Pv.zip_lst, CK.Pv.list_tup, CK.Pv.list_lst, CK.Pv.tuple_tup, CK.Pv.tuple_lst, CK.Pv.part_int, CK.Pv.cut_tup, CK.Pv.cut_lst, CK.Pv.cutL_lst, CK.Pv.rev_lst, CK.Pv.eq_int, CK.Pv.ne_int, CK.Pv.eq_bl, CK.Pv.ne_bl, CK.Pv.dk_int, CK.Pv.px_at, CK.Pv.px_mod, CK.Pv.px_div, CK.Pv.px_pow, CK.Pv.px_mul, CK.Pv.px_addT, CK.Pv.px_addL, CK.Pv.px_cat, CK.Pv.px_rep, CK.Pv.px_app, CK.Pv.px_ext, CK.Pv.px_ins, CK.Pv.px_rng1, CK.Pv.px_rng2, CK.Pv.px_put, CK.Pv.px_rgL, decide_eq_true_eq, Bool.false_eq_true, Bool.true_eq_false, if_true, if_false, Bool.not_true, Bool.not_false, beq_self_eq_true, Option.isSome_some, Option.isSome_none, Option.some.injEq, exists_eq_left', decide_true, decide_false, Bool.not_eq_true', Int.reduceToNat, Int.reducePow, Int.reduceSub, Int.reduceAdd, Int.reduceMul, Int.reduceNeg, List.length_cons, List.length_nil, px_bndI])
  refine number_px h b0 b1 fun key s1 key0 key1 h1 => ?_
  (try simp only [CK.Pv.px_bnd, CK.Pv.px_ret, CK.Pv.px_ite, CK.Pv.px_pbad, CK.Pv.px_getS, CK.Pv.px_putS, CK.Pv.px_some, CK.Pv.px_run, CK.Pv.px_lft, CK.Pv.px_fnP, CK.Pv.px_fnN, CK.Pv.fin_rt, CK.Pv.fin_nx, CK.Pv.finN_rt, CK.Pv.finN_nx, CK.Pv.px_bndO, CK.Pv.aft_nx, CK.Pv.aft_rt, CK.Pv.aft_bk, CK.Pv.aft_ct, CK.Pv.lp_nx, CK.Pv.lp_ct, CK.Pv.lp_bk, CK.Pv.lp_rt, CK.Pv.bndI_nx, CK.Pv.bndI_rt, CK.Pv.ret_bnd, CK.Pv.opt_ret, CK.Pv.lft_ret, CK.Pv.px_throw, CK.Pv.asB_bl, CK.Pv.add_int, CK.Pv.sub_int, CK.Pv.lt_int, CK.Pv.le_int, CK.Pv.gt_int, CK.Pv.ge_int, CK.Pv.neg_int, CK.Pv.abs_int, CK.Pv.int_int, CK.Pv.int_bl, CK.Pv.max_int, CK.Pv.min_int, CK.Pv.len_tup, CK.Pv.len_lst, CK.Pv.len_fz, CK.Pv.len_dk, CK.Pv.walk_tup, CK.Pv.walk_lst, CK.Pv.walk_fz, CK.Pv.ix_tup, CK.Pv.ix_lst, CK.Pv.ix_fz, CK.Pv.at_0, CK.Pv.at_1, CK.Pv.at_2, CK.Pv.at_3, CK.Pv.at_4, CK.Pv.is_non, CK.Pv.is_int, CK.Pv.is_tup, CK.Pv.is_lst, CK.Pv.is_bl, CK.Pv.not_non, CK.Pv.not_int, CK.Pv.not_tup, CK.Pv.not_lst, CK.Pv.not_bl, CK.Pv.t2_tup, CK.Pv.t3_tup, CK.Pv.t4_tup, CK.Pv.t5_tup, CK.Pv.s2_lst, CK.Pv.s2_tup, CK.Pv.lsG_lst, CK.Pv.look_lst, CK.Pv.clr_mu, CK.Pv.enum_lst, CK.Pv.enum_tup, CK.Pv.enum_tup, CK.Pv.zip_lst, CK.Pv.list_tup, CK.Pv.list_lst, CK.Pv.tuple_tup, CK.Pv.tuple_lst, CK.Pv.part_int, CK.Pv.cut_tup, CK.Pv.cut_lst, CK.Pv.cutL_lst, CK.Pv.rev_lst, CK.Pv.eq_int, CK.Pv.ne_int, CK.Pv.eq_bl, CK.Pv.ne_bl, CK.Pv.dk_int, CK.Pv.px_at, CK.Pv.px_mod, CK.Pv.px_div, CK.Pv.px_pow, CK.Pv.px_mul, CK.Pv.px_addT, CK.Pv.px_addL, CK.Pv.px_cat, CK.Pv.px_rep, CK.Pv.px_app, CK.Pv.px_ext, CK.Pv.px_ins, CK.Pv.px_rng1, CK.Pv.px_rng2, CK.Pv.px_put, CK.Pv.px_rgL, decide_eq_true_eq, Bool.false_eq_true, Bool.true_eq_false, if_true, if_false, Bool.not_true, Bool.not_false, beq_self_eq_true, Option.isSome_some, Option.isSome_none, Option.some.injEq, exists_eq_left', decide_true, decide_false, Bool.not_eq_true', Int.reduceToNat, Int.reducePow, Int.reduceSub, Int.reduceAdd, Int.reduceMul, Int.reduceNeg, List.length_cons, List.length_nil, px_bndI])
  refine take_px h1 (by decide) (by decide) fun a s2 a0 a1 h2 => ?_
  (try simp only [CK.Pv.px_bnd, CK.Pv.px_ret, CK.Pv.px_ite, CK.Pv.px_pbad, CK.Pv.px_getS, CK.Pv.px_putS, CK.Pv.px_some, CK.Pv.px_run, CK.Pv.px_lft, CK.Pv.px_fnP, CK.Pv.px_fnN, CK.Pv.fin_rt, CK.Pv.fin_nx, CK.Pv.finN_rt, CK.Pv.finN_nx, CK.Pv.px_bndO, CK.Pv.aft_nx, CK.Pv.aft_rt, CK.Pv.aft_bk, CK.Pv.aft_ct, CK.Pv.lp_nx, CK.Pv.lp_ct, CK.Pv.lp_bk, CK.Pv.lp_rt, CK.Pv.bndI_nx, CK.Pv.bndI_rt, CK.Pv.ret_bnd, CK.Pv.opt_ret, CK.Pv.lft_ret, CK.Pv.px_throw, CK.Pv.asB_bl, CK.Pv.add_int, CK.Pv.sub_int, CK.Pv.lt_int, CK.Pv.le_int, CK.Pv.gt_int, CK.Pv.ge_int, CK.Pv.neg_int, CK.Pv.abs_int, CK.Pv.int_int, CK.Pv.int_bl, CK.Pv.max_int, CK.Pv.min_int, CK.Pv.len_tup, CK.Pv.len_lst, CK.Pv.len_fz, CK.Pv.len_dk, CK.Pv.walk_tup, CK.Pv.walk_lst, CK.Pv.walk_fz, CK.Pv.ix_tup, CK.Pv.ix_lst, CK.Pv.ix_fz, CK.Pv.at_0, CK.Pv.at_1, CK.Pv.at_2, CK.Pv.at_3, CK.Pv.at_4, CK.Pv.is_non, CK.Pv.is_int, CK.Pv.is_tup, CK.Pv.is_lst, CK.Pv.is_bl, CK.Pv.not_non, CK.Pv.not_int, CK.Pv.not_tup, CK.Pv.not_lst, CK.Pv.not_bl, CK.Pv.t2_tup, CK.Pv.t3_tup, CK.Pv.t4_tup, CK.Pv.t5_tup, CK.Pv.s2_lst, CK.Pv.s2_tup, CK.Pv.lsG_lst, CK.Pv.look_lst, CK.Pv.clr_mu, CK.Pv.enum_lst, CK.Pv.enum_tup, CK.Pv.enum_tup, CK.Pv.zip_lst, CK.Pv.list_tup, CK.Pv.list_lst, CK.Pv.tuple_tup, CK.Pv.tuple_lst, CK.Pv.part_int, CK.Pv.cut_tup, CK.Pv.cut_lst, CK.Pv.cutL_lst, CK.Pv.rev_lst, CK.Pv.eq_int, CK.Pv.ne_int, CK.Pv.eq_bl, CK.Pv.ne_bl, CK.Pv.dk_int, CK.Pv.px_at, CK.Pv.px_mod, CK.Pv.px_div, CK.Pv.px_pow, CK.Pv.px_mul, CK.Pv.px_addT, CK.Pv.px_addL, CK.Pv.px_cat, CK.Pv.px_rep, CK.Pv.px_app, CK.Pv.px_ext, CK.Pv.px_ins, CK.Pv.px_rng1, CK.Pv.px_rng2, CK.Pv.px_put, CK.Pv.px_rgL, decide_eq_true_eq, Bool.false_eq_true, Bool.true_eq_false, if_true, if_false, Bool.not_true, Bool.not_false, beq_self_eq_true, Option.isSome_some, Option.isSome_none, Option.some.injEq, exists_eq_left', decide_true, decide_false, Bool.not_eq_true', Int.reduceToNat, Int.reducePow, Int.reduceSub, Int.reduceAdd, Int.reduceMul, Int.reduceNeg, List.length_cons, List.length_nil, px_bndI])
  refine number_px h2 b0 b1 fun n s3 n0 n1 h3 => ?_
  (try simp only [CK.Pv.px_bnd, CK.Pv.px_ret, CK.Pv.px_ite, CK.Pv.px_pbad, CK.Pv.px_getS, CK.Pv.px_putS, CK.Pv.px_some, CK.Pv.px_run, CK.Pv.px_lft, CK.Pv.px_fnP, CK.Pv.px_fnN, CK.Pv.fin_rt, CK.Pv.fin_nx, CK.Pv.finN_rt, CK.Pv.finN_nx, CK.Pv.px_bndO, CK.Pv.aft_nx, CK.Pv.aft_rt, CK.Pv.aft_bk, CK.Pv.aft_ct, CK.Pv.lp_nx, CK.Pv.lp_ct, CK.Pv.lp_bk, CK.Pv.lp_rt, CK.Pv.bndI_nx, CK.Pv.bndI_rt, CK.Pv.ret_bnd, CK.Pv.opt_ret, CK.Pv.lft_ret, CK.Pv.px_throw, CK.Pv.asB_bl, CK.Pv.add_int, CK.Pv.sub_int, CK.Pv.lt_int, CK.Pv.le_int, CK.Pv.gt_int, CK.Pv.ge_int, CK.Pv.neg_int, CK.Pv.abs_int, CK.Pv.int_int, CK.Pv.int_bl, CK.Pv.max_int, CK.Pv.min_int, CK.Pv.len_tup, CK.Pv.len_lst, CK.Pv.len_fz, CK.Pv.len_dk, CK.Pv.walk_tup, CK.Pv.walk_lst, CK.Pv.walk_fz, CK.Pv.ix_tup, CK.Pv.ix_lst, CK.Pv.ix_fz, CK.Pv.at_0, CK.Pv.at_1, CK.Pv.at_2, CK.Pv.at_3, CK.Pv.at_4, CK.Pv.is_non, CK.Pv.is_int, CK.Pv.is_tup, CK.Pv.is_lst, CK.Pv.is_bl, CK.Pv.not_non, CK.Pv.not_int, CK.Pv.not_tup, CK.Pv.not_lst, CK.Pv.not_bl, CK.Pv.t2_tup, CK.Pv.t3_tup, CK.Pv.t4_tup, CK.Pv.t5_tup, CK.Pv.s2_lst, CK.Pv.s2_tup, CK.Pv.lsG_lst, CK.Pv.look_lst, CK.Pv.clr_mu, CK.Pv.enum_lst, CK.Pv.enum_tup, CK.Pv.enum_tup, CK.Pv.zip_lst, CK.Pv.list_tup, CK.Pv.list_lst, CK.Pv.tuple_tup, CK.Pv.tuple_lst, CK.Pv.part_int, CK.Pv.cut_tup, CK.Pv.cut_lst, CK.Pv.cutL_lst, CK.Pv.rev_lst, CK.Pv.eq_int, CK.Pv.ne_int, CK.Pv.eq_bl, CK.Pv.ne_bl, CK.Pv.dk_int, CK.Pv.px_at, CK.Pv.px_mod, CK.Pv.px_div, CK.Pv.px_pow, CK.Pv.px_mul, CK.Pv.px_addT, CK.Pv.px_addL, CK.Pv.px_cat, CK.Pv.px_rep, CK.Pv.px_app, CK.Pv.px_ext, CK.Pv.px_ins, CK.Pv.px_rng1, CK.Pv.px_rng2, CK.Pv.px_put, CK.Pv.px_rgL, decide_eq_true_eq, Bool.false_eq_true, Bool.true_eq_false, if_true, if_false, Bool.not_true, Bool.not_false, beq_self_eq_true, Option.isSome_some, Option.isSome_none, Option.some.injEq, exists_eq_left', decide_true, decide_false, Bool.not_eq_true', Int.reduceToNat, Int.reducePow, Int.reduceSub, Int.reduceAdd, Int.reduceMul, Int.reduceNeg, List.length_cons, List.length_nil, px_bndI])
  obtain ⟨rk, hr, r0, r1⟩ := at_ints (ns := [7, a, n]) (i := y) (fun x => 0 ≤ x ∧ x ≤ 10 ^ 18) (by simp; omega) y0 y1
  refine ⟨_, hr, ?_⟩
  refine take_px h3 (by decide) (by decide) fun w s4 w0 w1 h4 => ?_
  (try simp only [CK.Pv.px_bnd, CK.Pv.px_ret, CK.Pv.px_ite, CK.Pv.px_pbad, CK.Pv.px_getS, CK.Pv.px_putS, CK.Pv.px_some, CK.Pv.px_run, CK.Pv.px_lft, CK.Pv.px_fnP, CK.Pv.px_fnN, CK.Pv.fin_rt, CK.Pv.fin_nx, CK.Pv.finN_rt, CK.Pv.finN_nx, CK.Pv.px_bndO, CK.Pv.aft_nx, CK.Pv.aft_rt, CK.Pv.aft_bk, CK.Pv.aft_ct, CK.Pv.lp_nx, CK.Pv.lp_ct, CK.Pv.lp_bk, CK.Pv.lp_rt, CK.Pv.bndI_nx, CK.Pv.bndI_rt, CK.Pv.ret_bnd, CK.Pv.opt_ret, CK.Pv.lft_ret, CK.Pv.px_throw, CK.Pv.asB_bl, CK.Pv.add_int, CK.Pv.sub_int, CK.Pv.lt_int, CK.Pv.le_int, CK.Pv.gt_int, CK.Pv.ge_int, CK.Pv.neg_int, CK.Pv.abs_int, CK.Pv.int_int, CK.Pv.int_bl, CK.Pv.max_int, CK.Pv.min_int, CK.Pv.len_tup, CK.Pv.len_lst, CK.Pv.len_fz, CK.Pv.len_dk, CK.Pv.walk_tup, CK.Pv.walk_lst, CK.Pv.walk_fz, CK.Pv.ix_tup, CK.Pv.ix_lst, CK.Pv.ix_fz, CK.Pv.at_0, CK.Pv.at_1, CK.Pv.at_2, CK.Pv.at_3, CK.Pv.at_4, CK.Pv.is_non, CK.Pv.is_int, CK.Pv.is_tup, CK.Pv.is_lst, CK.Pv.is_bl, CK.Pv.not_non, CK.Pv.not_int, CK.Pv.not_tup, CK.Pv.not_lst, CK.Pv.not_bl, CK.Pv.t2_tup, CK.Pv.t3_tup, CK.Pv.t4_tup, CK.Pv.t5_tup, CK.Pv.s2_lst, CK.Pv.s2_tup, CK.Pv.lsG_lst, CK.Pv.look_lst, CK.Pv.clr_mu, CK.Pv.enum_lst, CK.Pv.enum_tup, CK.Pv.enum_tup, CK.Pv.zip_lst, CK.Pv.list_tup, CK.Pv.list_lst, CK.Pv.tuple_tup, CK.Pv.tuple_lst, CK.Pv.part_int, CK.Pv.cut_tup, CK.Pv.cut_lst, CK.Pv.cutL_lst, CK.Pv.rev_lst, CK.Pv.eq_int, CK.Pv.ne_int, CK.Pv.eq_bl, CK.Pv.ne_bl, CK.Pv.dk_int, CK.Pv.px_at, CK.Pv.px_mod, CK.Pv.px_div, CK.Pv.px_pow, CK.Pv.px_mul, CK.Pv.px_addT, CK.Pv.px_addL, CK.Pv.px_cat, CK.Pv.px_rep, CK.Pv.px_app, CK.Pv.px_ext, CK.Pv.px_ins, CK.Pv.px_rng1, CK.Pv.px_rng2, CK.Pv.px_put, CK.Pv.px_rgL, decide_eq_true_eq, Bool.false_eq_true, Bool.true_eq_false, if_true, if_false, Bool.not_true, Bool.not_false, beq_self_eq_true, Option.isSome_some, Option.isSome_none, Option.some.injEq, exists_eq_left', decide_true, decide_false, Bool.not_eq_true', Int.reduceToNat, Int.reducePow, Int.reduceSub, Int.reduceAdd, Int.reduceMul, Int.reduceNeg, List.length_cons, List.length_nil, px_bndI])
  refine take_px h4 (by decide) (by decide) fun z s5 z0 z1 h5 => ?_
  (try simp only [CK.Pv.px_bnd, CK.Pv.px_ret, CK.Pv.px_ite, CK.Pv.px_pbad, CK.Pv.px_getS, CK.Pv.px_putS, CK.Pv.px_some, CK.Pv.px_run, CK.Pv.px_lft, CK.Pv.px_fnP, CK.Pv.px_fnN, CK.Pv.fin_rt, CK.Pv.fin_nx, CK.Pv.finN_rt, CK.Pv.finN_nx, CK.Pv.px_bndO, CK.Pv.aft_nx, CK.Pv.aft_rt, CK.Pv.aft_bk, CK.Pv.aft_ct, CK.Pv.lp_nx, CK.Pv.lp_ct, CK.Pv.lp_bk, CK.Pv.lp_rt, CK.Pv.bndI_nx, CK.Pv.bndI_rt, CK.Pv.ret_bnd, CK.Pv.opt_ret, CK.Pv.lft_ret, CK.Pv.px_throw, CK.Pv.asB_bl, CK.Pv.add_int, CK.Pv.sub_int, CK.Pv.lt_int, CK.Pv.le_int, CK.Pv.gt_int, CK.Pv.ge_int, CK.Pv.neg_int, CK.Pv.abs_int, CK.Pv.int_int, CK.Pv.int_bl, CK.Pv.max_int, CK.Pv.min_int, CK.Pv.len_tup, CK.Pv.len_lst, CK.Pv.len_fz, CK.Pv.len_dk, CK.Pv.walk_tup, CK.Pv.walk_lst, CK.Pv.walk_fz, CK.Pv.ix_tup, CK.Pv.ix_lst, CK.Pv.ix_fz, CK.Pv.at_0, CK.Pv.at_1, CK.Pv.at_2, CK.Pv.at_3, CK.Pv.at_4, CK.Pv.is_non, CK.Pv.is_int, CK.Pv.is_tup, CK.Pv.is_lst, CK.Pv.is_bl, CK.Pv.not_non, CK.Pv.not_int, CK.Pv.not_tup, CK.Pv.not_lst, CK.Pv.not_bl, CK.Pv.t2_tup, CK.Pv.t3_tup, CK.Pv.t4_tup, CK.Pv.t5_tup, CK.Pv.s2_lst, CK.Pv.s2_tup, CK.Pv.lsG_lst, CK.Pv.look_lst, CK.Pv.clr_mu, CK.Pv.enum_lst, CK.Pv.enum_tup, CK.Pv.enum_tup, CK.Pv.zip_lst, CK.Pv.list_tup, CK.Pv.list_lst, CK.Pv.tuple_tup, CK.Pv.tuple_lst, CK.Pv.part_int, CK.Pv.cut_tup, CK.Pv.cut_lst, CK.Pv.cutL_lst, CK.Pv.rev_lst, CK.Pv.eq_int, CK.Pv.ne_int, CK.Pv.eq_bl, CK.Pv.ne_bl, CK.Pv.dk_int, CK.Pv.px_at, CK.Pv.px_mod, CK.Pv.px_div, CK.Pv.px_pow, CK.Pv.px_mul, CK.Pv.px_addT, CK.Pv.px_addL, CK.Pv.px_cat, CK.Pv.px_rep, CK.Pv.px_app, CK.Pv.px_ext, CK.Pv.px_ins, CK.Pv.px_rng1, CK.Pv.px_rng2, CK.Pv.px_put, CK.Pv.px_rgL, decide_eq_true_eq, Bool.false_eq_true, Bool.true_eq_false, if_true, if_false, Bool.not_true, Bool.not_false, beq_self_eq_true, Option.isSome_some, Option.isSome_none, Option.some.injEq, exists_eq_left', decide_true, decide_false, Bool.not_eq_true', Int.reduceToNat, Int.reducePow, Int.reduceSub, Int.reduceAdd, Int.reduceMul, Int.reduceNeg, List.length_cons, List.length_nil, px_bndI])
  split
  · refine great_px h5 fun g s6 g0 g1 h6 => ?_
    (try simp only [CK.Pv.px_bnd, CK.Pv.px_ret, CK.Pv.px_ite, CK.Pv.px_pbad, CK.Pv.px_getS, CK.Pv.px_putS, CK.Pv.px_some, CK.Pv.px_run, CK.Pv.px_lft, CK.Pv.px_fnP, CK.Pv.px_fnN, CK.Pv.fin_rt, CK.Pv.fin_nx, CK.Pv.finN_rt, CK.Pv.finN_nx, CK.Pv.px_bndO, CK.Pv.aft_nx, CK.Pv.aft_rt, CK.Pv.aft_bk, CK.Pv.aft_ct, CK.Pv.lp_nx, CK.Pv.lp_ct, CK.Pv.lp_bk, CK.Pv.lp_rt, CK.Pv.bndI_nx, CK.Pv.bndI_rt, CK.Pv.ret_bnd, CK.Pv.opt_ret, CK.Pv.lft_ret, CK.Pv.px_throw, CK.Pv.asB_bl, CK.Pv.add_int, CK.Pv.sub_int, CK.Pv.lt_int, CK.Pv.le_int, CK.Pv.gt_int, CK.Pv.ge_int, CK.Pv.neg_int, CK.Pv.abs_int, CK.Pv.int_int, CK.Pv.int_bl, CK.Pv.max_int, CK.Pv.min_int, CK.Pv.len_tup, CK.Pv.len_lst, CK.Pv.len_fz, CK.Pv.len_dk, CK.Pv.walk_tup, CK.Pv.walk_lst, CK.Pv.walk_fz, CK.Pv.ix_tup, CK.Pv.ix_lst, CK.Pv.ix_fz, CK.Pv.at_0, CK.Pv.at_1, CK.Pv.at_2, CK.Pv.at_3, CK.Pv.at_4, CK.Pv.is_non, CK.Pv.is_int, CK.Pv.is_tup, CK.Pv.is_lst, CK.Pv.is_bl, CK.Pv.not_non, CK.Pv.not_int, CK.Pv.not_tup, CK.Pv.not_lst, CK.Pv.not_bl, CK.Pv.t2_tup, CK.Pv.t3_tup, CK.Pv.t4_tup, CK.Pv.t5_tup, CK.Pv.s2_lst, CK.Pv.s2_tup, CK.Pv.lsG_lst, CK.Pv.look_lst, CK.Pv.clr_mu, CK.Pv.enum_lst, CK.Pv.enum_tup, CK.Pv.enum_tup, CK.Pv.zip_lst, CK.Pv.list_tup, CK.Pv.list_lst, CK.Pv.tuple_tup, CK.Pv.tuple_lst, CK.Pv.part_int, CK.Pv.cut_tup, CK.Pv.cut_lst, CK.Pv.cutL_lst, CK.Pv.rev_lst, CK.Pv.eq_int, CK.Pv.ne_int, CK.Pv.eq_bl, CK.Pv.ne_bl, CK.Pv.dk_int, CK.Pv.px_at, CK.Pv.px_mod, CK.Pv.px_div, CK.Pv.px_pow, CK.Pv.px_mul, CK.Pv.px_addT, CK.Pv.px_addL, CK.Pv.px_cat, CK.Pv.px_rep, CK.Pv.px_app, CK.Pv.px_ext, CK.Pv.px_ins, CK.Pv.px_rng1, CK.Pv.px_rng2, CK.Pv.px_put, CK.Pv.px_rgL, decide_eq_true_eq, Bool.false_eq_true, Bool.true_eq_false, if_true, if_false, Bool.not_true, Bool.not_false, beq_self_eq_true, Option.isSome_some, Option.isSome_none, Option.some.injEq, exists_eq_left', decide_true, decide_false, Bool.not_eq_true', Int.reduceToNat, Int.reducePow, Int.reduceSub, Int.reduceAdd, Int.reduceMul, Int.reduceNeg, List.length_cons, List.length_nil, px_bndI])
    refine take_px h6 (by decide) (by decide) fun t s7 t0 t1 h7 => ?_
    (try simp only [CK.Pv.px_bnd, CK.Pv.px_ret, CK.Pv.px_ite, CK.Pv.px_pbad, CK.Pv.px_getS, CK.Pv.px_putS, CK.Pv.px_some, CK.Pv.px_run, CK.Pv.px_lft, CK.Pv.px_fnP, CK.Pv.px_fnN, CK.Pv.fin_rt, CK.Pv.fin_nx, CK.Pv.finN_rt, CK.Pv.finN_nx, CK.Pv.px_bndO, CK.Pv.aft_nx, CK.Pv.aft_rt, CK.Pv.aft_bk, CK.Pv.aft_ct, CK.Pv.lp_nx, CK.Pv.lp_ct, CK.Pv.lp_bk, CK.Pv.lp_rt, CK.Pv.bndI_nx, CK.Pv.bndI_rt, CK.Pv.ret_bnd, CK.Pv.opt_ret, CK.Pv.lft_ret, CK.Pv.px_throw, CK.Pv.asB_bl, CK.Pv.add_int, CK.Pv.sub_int, CK.Pv.lt_int, CK.Pv.le_int, CK.Pv.gt_int, CK.Pv.ge_int, CK.Pv.neg_int, CK.Pv.abs_int, CK.Pv.int_int, CK.Pv.int_bl, CK.Pv.max_int, CK.Pv.min_int, CK.Pv.len_tup, CK.Pv.len_lst, CK.Pv.len_fz, CK.Pv.len_dk, CK.Pv.walk_tup, CK.Pv.walk_lst, CK.Pv.walk_fz, CK.Pv.ix_tup, CK.Pv.ix_lst, CK.Pv.ix_fz, CK.Pv.at_0, CK.Pv.at_1, CK.Pv.at_2, CK.Pv.at_3, CK.Pv.at_4, CK.Pv.is_non, CK.Pv.is_int, CK.Pv.is_tup, CK.Pv.is_lst, CK.Pv.is_bl, CK.Pv.not_non, CK.Pv.not_int, CK.Pv.not_tup, CK.Pv.not_lst, CK.Pv.not_bl, CK.Pv.t2_tup, CK.Pv.t3_tup, CK.Pv.t4_tup, CK.Pv.t5_tup, CK.Pv.s2_lst, CK.Pv.s2_tup, CK.Pv.lsG_lst, CK.Pv.look_lst, CK.Pv.clr_mu, CK.Pv.enum_lst, CK.Pv.enum_tup, CK.Pv.enum_tup, CK.Pv.zip_lst, CK.Pv.list_tup, CK.Pv.list_lst, CK.Pv.tuple_tup, CK.Pv.tuple_lst, CK.Pv.part_int, CK.Pv.cut_tup, CK.Pv.cut_lst, CK.Pv.cutL_lst, CK.Pv.rev_lst, CK.Pv.eq_int, CK.Pv.ne_int, CK.Pv.eq_bl, CK.Pv.ne_bl, CK.Pv.dk_int, CK.Pv.px_at, CK.Pv.px_mod, CK.Pv.px_div, CK.Pv.px_pow, CK.Pv.px_mul, CK.Pv.px_addT, CK.Pv.px_addL, CK.Pv.px_cat, CK.Pv.px_rep, CK.Pv.px_app, CK.Pv.px_ext, CK.Pv.px_ins, CK.Pv.px_rng1, CK.Pv.px_rng2, CK.Pv.px_put, CK.Pv.px_rgL, decide_eq_true_eq, Bool.false_eq_true, Bool.true_eq_false, if_true, if_false, Bool.not_true, Bool.not_false, beq_self_eq_true, Option.isSome_some, Option.isSome_none, Option.some.injEq, exists_eq_left', decide_true, decide_false, Bool.not_eq_true', Int.reduceToNat, Int.reducePow, Int.reduceSub, Int.reduceAdd, Int.reduceMul, Int.reduceNeg, List.length_cons, List.length_nil, px_bndI])
    obtain ⟨sg, hs, sg0⟩ := at_ints (ns := [1, -1]) (i := t) (fun x => x = 1 ∨ x = -1) (by simp) t0 t1
    refine ⟨_, hs, ?_⟩
    (try simp only [CK.Pv.px_bnd, CK.Pv.px_ret, CK.Pv.px_ite, CK.Pv.px_pbad, CK.Pv.px_getS, CK.Pv.px_putS, CK.Pv.px_some, CK.Pv.px_run, CK.Pv.px_lft, CK.Pv.px_fnP, CK.Pv.px_fnN, CK.Pv.fin_rt, CK.Pv.fin_nx, CK.Pv.finN_rt, CK.Pv.finN_nx, CK.Pv.px_bndO, CK.Pv.aft_nx, CK.Pv.aft_rt, CK.Pv.aft_bk, CK.Pv.aft_ct, CK.Pv.lp_nx, CK.Pv.lp_ct, CK.Pv.lp_bk, CK.Pv.lp_rt, CK.Pv.bndI_nx, CK.Pv.bndI_rt, CK.Pv.ret_bnd, CK.Pv.opt_ret, CK.Pv.lft_ret, CK.Pv.px_throw, CK.Pv.asB_bl, CK.Pv.add_int, CK.Pv.sub_int, CK.Pv.lt_int, CK.Pv.le_int, CK.Pv.gt_int, CK.Pv.ge_int, CK.Pv.neg_int, CK.Pv.abs_int, CK.Pv.int_int, CK.Pv.int_bl, CK.Pv.max_int, CK.Pv.min_int, CK.Pv.len_tup, CK.Pv.len_lst, CK.Pv.len_fz, CK.Pv.len_dk, CK.Pv.walk_tup, CK.Pv.walk_lst, CK.Pv.walk_fz, CK.Pv.ix_tup, CK.Pv.ix_lst, CK.Pv.ix_fz, CK.Pv.at_0, CK.Pv.at_1, CK.Pv.at_2, CK.Pv.at_3, CK.Pv.at_4, CK.Pv.is_non, CK.Pv.is_int, CK.Pv.is_tup, CK.Pv.is_lst, CK.Pv.is_bl, CK.Pv.not_non, CK.Pv.not_int, CK.Pv.not_tup, CK.Pv.not_lst, CK.Pv.not_bl, CK.Pv.t2_tup, CK.Pv.t3_tup, CK.Pv.t4_tup, CK.Pv.t5_tup, CK.Pv.s2_lst, CK.Pv.s2_tup, CK.Pv.lsG_lst, CK.Pv.look_lst, CK.Pv.clr_mu, CK.Pv.enum_lst, CK.Pv.enum_tup, CK.Pv.enum_tup, CK.Pv.zip_lst, CK.Pv.list_tup, CK.Pv.list_lst, CK.Pv.tuple_tup, CK.Pv.tuple_lst, CK.Pv.part_int, CK.Pv.cut_tup, CK.Pv.cut_lst, CK.Pv.cutL_lst, CK.Pv.rev_lst, CK.Pv.eq_int, CK.Pv.ne_int, CK.Pv.eq_bl, CK.Pv.ne_bl, CK.Pv.dk_int, CK.Pv.px_at, CK.Pv.px_mod, CK.Pv.px_div, CK.Pv.px_pow, CK.Pv.px_mul, CK.Pv.px_addT, CK.Pv.px_addL, CK.Pv.px_cat, CK.Pv.px_rep, CK.Pv.px_app, CK.Pv.px_ext, CK.Pv.px_ins, CK.Pv.px_rng1, CK.Pv.px_rng2, CK.Pv.px_put, CK.Pv.px_rgL, decide_eq_true_eq, Bool.false_eq_true, Bool.true_eq_false, if_true, if_false, Bool.not_true, Bool.not_false, beq_self_eq_true, Option.isSome_some, Option.isSome_none, Option.some.injEq, exists_eq_left', decide_true, decide_false, Bool.not_eq_true', Int.reduceToNat, Int.reducePow, Int.reduceSub, Int.reduceAdd, Int.reduceMul, Int.reduceNeg, List.length_cons, List.length_nil, px_bndI])
    refine ⟨cmul_s (by omega) (by omega) (by omega) (by omega), cp18, cp18, ?_⟩
    exact q (key, rk, clamp (g * sg)) _ ⟨⟨key0, key1⟩, ⟨r0, r1⟩, clamp_ok _⟩ h7
  · exact ⟨cp18, cp18, q (key, rk, clamp (w - 9)) _ ⟨⟨key0, key1⟩, ⟨r0, r1⟩, clamp_ok _⟩ h5⟩
theorem ins_perm {α : Type} (xs : List α) (n : Nat) (x : α) : (xs.take n ++ [x] ++ xs.drop n).Perm (x :: xs) := by
  rw [List.append_assoc]
  refine List.perm_append_comm_assoc .. |>.trans ?_
  rw [List.singleton_append, List.take_append_drop]
def pu (p : Card × U) : U := .tup [cu p.1, p.2]
end Lib
end Pv
end CK
end

section
set_option Elab.async false
set_option linter.all false
set_option maxRecDepth 100000
set_option maxHeartbeats 4000000
namespace CK
namespace Lk02
open PySem PySem.Spec PyProof.Rows L2
open CK.Pv
open CK.Lib
open CK.Pv.Lib
def law_cards_P : PM U U := fnP (bnd (bnd (ret (U.int 3)) fun x2 => (law_take_P x2)) fun v_way3 => (bnd (bnd (ret (U.int 3)) fun x5 => (law_take_P x5)) fun v_twice6 => (bnd (bnd (bnd (bnd (ret (U.int 12)) fun x11 => (law_take_P x11)) fun x7 => bnd (bnd (ret (U.int 71)) fun x13 => (law_take_P x13)) fun x8 => bnd (bnd (ret (U.int 64)) fun x => bnd (bnd (ret (U.int 3)) fun x15 => (law_take_P x15)) fun y => addU x y) fun x9 => ret (U.lst [x7, x8, x9])) fun x => bnd (ret v_way3) fun y => ixP x y) fun v_many16 => (bnd (bnd ((law_great_P)) fun x => bnd (bnd (ret (U.int 2)) fun x19 => (law_take_P x19)) fun y => mulU x y) fun v_base20 => (bnd (ret (U.lst [])) fun v_cards22 => (bndO (bnd (bnd (ret v_many16) fun x23 => rng1P x23) fun xs => forP xs v_cards22 fun x29 (st24 : U) => bnd (optP (some ())) fun u30 => (bnd (bnd (ret v_base20) fun x32 => bnd (ret (U.int 2)) fun x33 => (law_card_P x32 x33)) fun v_card34 => (bndI (bnd (bnd (bnd (ret v_way3) fun x => bnd (ret (U.int 0)) fun y => loc2 gtM x y) asB) fun t35 => if t35 = true then (bnd (bnd (bnd (bnd (ret v_base20) fun x42 => bnd (ret (U.int 999999999999999900)) fun x43 => locA minM [x42, x43]) fun x => bnd (ret x29) fun y => addU x y) fun x39 => bnd (bnd (ret v_card34) fun x => bnd (ret (U.int 1)) fun y => ixP x y) fun x40 => bnd (bnd (ret v_card34) fun x => bnd (ret (U.int 2)) fun y => ixP x y) fun x41 => ret (U.tup [x39, x40, x41])) fun v_card44 => (ret (Out.nx v_card44))) else (ret (Out.nx v_card34))) fun (st38 : U) => (lsG st24 (bnd (bnd (bnd (lenU st24) fun x => bnd (ret (U.int 1)) fun y => addU x y) fun x46 => (law_take_P x46)) fun x48 => bnd (ret st38) fun x49 => bnd (optP (mu insU st24 [x48, x49])) fun v_cards47 => (ret (Out.nx v_cards47))))))) fun (st50 : U) => (bndO (bnd (bnd (bnd (ret v_twice6) fun x => bnd (bnd (bnd (ret (U.lst [])) fun y => (neP st50 y)) fun x52 => locA intM [x52]) fun y => mulU x y) fun x51 => rng1P x51) fun xs => forP xs st50 fun x58 (st53 : U) => bnd (optP (some ())) fun u59 => (bnd (bnd (bnd (lenU st53) fun x61 => (law_take_P x61)) fun y => (ixP st53 y)) fun v_card62 => (lsG st53 (bnd (bnd (bnd (lenU st53) fun x => bnd (ret (U.int 1)) fun y => addU x y) fun x64 => (law_take_P x64)) fun x71 => bnd (bnd (bnd (ret v_card62) fun x => bnd (ret (U.int 0)) fun y => ixP x y) fun x65 => bnd (bnd (ret (U.int 5)) fun x69 => (law_take_P x69)) fun x66 => bnd (bnd (ret v_card62) fun x => bnd (ret (U.int 2)) fun y => ixP x y) fun x67 => ret (U.tup [x65, x66, x67])) fun x72 => bnd (optP (mu insU st53 [x71, x72])) fun v_cards70 => (ret (Out.nx v_cards70)))))) fun (st73 : U) => (ret (Out.rt st73)))))))))
theorem law_cards_S : Fn1 law_cards_M (fun w => [agW w]) (law_cards_P) frW := fn1_mk (i := 0) (fun _ => rfl) fun c w hw => (rs_asg (i := 1) (re_call (rj_consW (i := 0) (fun _ => rfl) (rj_cons re_c fun x2 => (rj_nil (rz_fn1 (i := 0) (law_take_S x2) (by (repeat (first | exact CK.Pv.gd_base | refine CK.Pv.gd_cons ?_)))))))) (fun v_way3 => (rs_asg (i := 2) (re_call (rj_consW (i := 0) (fun _ => rfl) (rj_cons re_c fun x5 => (rj_nil (rz_fn1 (i := 0) (law_take_S x5) (by (repeat (first | exact CK.Pv.gd_base | refine CK.Pv.gd_cons ?_)))))))) (fun v_twice6 => (rs_asg (i := 3) (re_ix (RF.x (re_args (rj_cons (re_call (rj_consW (i := 0) (fun _ => rfl) (rj_cons re_c fun x11 => (rj_nil (rz_fn1 (i := 0) (law_take_S x11) (by (repeat (first | exact CK.Pv.gd_base | refine CK.Pv.gd_cons ?_)))))))) fun x7 => (rj_cons (re_call (rj_consW (i := 0) (fun _ => rfl) (rj_cons re_c fun x13 => (rj_nil (rz_fn1 (i := 0) (law_take_S x13) (by (repeat (first | exact CK.Pv.gd_base | refine CK.Pv.gd_cons ?_)))))))) fun x8 => (rj_cons (re_add re_c (re_call (rj_consW (i := 0) (fun _ => rfl) (rj_cons re_c fun x15 => (rj_nil (rz_fn1 (i := 0) (law_take_S x15) (by (repeat (first | exact CK.Pv.gd_base | refine CK.Pv.gd_cons ?_))))))))) fun x9 => (rj_nil (rz_lst [x7, x8, x9]))))))) (re_val (i := 1) (fun _ => rfl))) (fun v_many16 => (rs_asg (i := 4) (re_mul (re_call (rj_consW (i := 0) (fun _ => rfl) (rj_nil (rz_fn1 (i := 0) (law_great_S) (by (repeat (first | exact CK.Pv.gd_base | refine CK.Pv.gd_cons ?_))))))) (re_call (rj_consW (i := 0) (fun _ => rfl) (rj_cons re_c fun x19 => (rj_nil (rz_fn1 (i := 0) (law_take_S x19) (by (repeat (first | exact CK.Pv.gd_base | refine CK.Pv.gd_cons ?_))))))))) (fun v_base20 => (rs_asgO (i := 5) (re_args (rj_nil (rz_lst []))) (fun v_cards22 k_21 hk_21 => (rs_seq (F := True) (ok := fun (q : Unit) => True) (N := fun (q25 : Unit) (st24 : U) s => [(4, .val (ag v_base20)), (5, .own k_21 (ao st24)), (0, .own w (ao s)), (2, .val (ag v_twice6)), (1, .val (ag v_way3)), (KL, .ln 8)]) (rs_for (ok := fun (q : Unit) => True) (H := fun (q25 : Unit) (st24 : U) s => [(4, .val (ag v_base20)), (5, .own k_21 (ao st24)), (0, .own w (ao s)), (2, .val (ag v_twice6)), (1, .val (ag v_way3)), (KL, .ln 8)]) (re_rng1 (rj_cons (re_val (i := 3) (fun _ => rfl)) fun x23 => (rj_nil (rz_rng1)))) (fun x29 => rg_nm) ⟨(), trivial, fun _ => sub_cons rfl (sub_cons rfl (sub_cons rfl (sub_cons rfl (sub_cons rfl (sub_cons rfl (sub_nil))))))⟩ (fun q25 x29 st24 u30 hq26 => (rs_asg (i := 7) (re_call (rj_consW (i := 0) (fun _ => rfl) (rj_cons (re_val (i := 4) (fun _ => rfl)) fun x32 => (rj_cons re_c fun x33 => (rj_nil (rz_fn1 (i := 0) (law_card_S x32 x33) (by (repeat (first | exact CK.Pv.gd_base | refine CK.Pv.gd_cons ?_))))))))) (fun v_card34 => (rs_seqI (F := True) (ok := fun (q : Unit) => True) (N := fun (q36 : Unit) (st38 : U) s => [(4, .val (ag v_base20)), (7, .val (ag st38)), (5, .own k_21 (ao st24)), (0, .own w (ao s)), (2, .val (ag v_twice6)), (1, .val (ag v_way3)), (KL, .ln 8)]) (rs_if (re_tst (re_op (re_val (i := 1) (fun _ => rfl)) re_c)) (rs_last (rs_asg (i := 7) (re_args (rj_cons (re_add (re_args (rj_cons (re_val (i := 4) (fun _ => rfl)) fun x42 => (rj_cons (re_rc (rc_sub (k := 999999999999999900) (rc_pow (k := 1000000000000000000) rc_c rc_c) rc_c)) fun x43 => (rj_nil (rz_loc [x42, x43]))))) (re_val (i := 6) (fun _ => rfl))) fun x39 => (rj_cons (re_ix (re_val (i := 7) (fun _ => rfl)) re_c) fun x40 => (rj_cons (re_ix (re_val (i := 7) (fun _ => rfl)) re_c) fun x41 => (rj_nil (rz_tup [x39, x40, x41])))))) (fun v_card44 => (rs_nx (fun _ => ⟨_, ⟨(), trivial, rfl⟩, sub_cons rfl (sub_cons rfl (sub_cons rfl (sub_cons rfl (sub_cons rfl (sub_cons rfl (sub_cons rfl (sub_nil)))))))⟩) trivial)) (hE := fun _ => sub_cons rfl sub_nil))) (rs_nx (fun _ => ⟨_, ⟨(), trivial, rfl⟩, sub_cons rfl (sub_cons rfl (sub_cons rfl (sub_cons rfl (sub_cons rfl (sub_cons rfl (sub_cons rfl (sub_nil)))))))⟩) trivial) (hE := fun _ => sub_cons rfl sub_nil)) fun q36 st38 hq37 => (rs_last (rs_m2 ins_ok (i := 5) (fun _ => rfl) (re_call (rj_consW (i := 0) (fun _ => rfl) (rj_cons (re_add (re_lenO (i := 5) (fun _ => rfl)) re_c) fun x46 => (rj_nil (rz_fn1 (i := 0) (law_take_S x46) (by (repeat (first | exact CK.Pv.gd_base | refine CK.Pv.gd_cons ?_)))))))) (re_val (i := 7) (fun _ => rfl)) (fun v_cards47 => (rs_nx (fun _ => ⟨_, ⟨(), trivial, rfl⟩, sub_cons rfl (sub_cons rfl (sub_cons rfl (sub_cons rfl (sub_cons rfl (sub_cons rfl (sub_nil))))))⟩) trivial)) (hE := fun _ => sub_cons rfl sub_nil))))) (hE := fun _ => sub_cons rfl sub_nil))) (hE := fun _ => sub_cons rfl sub_nil)) fun q27 st50 hq28 => (rs_seq (F := True) (ok := fun (q : Unit) => True) (N := fun (q54 : Unit) (st53 : U) s => [(5, .own k_21 (ao st53)), (0, .own w (ao s)), (KL, .ln 8)]) (rs_for (ok := fun (q : Unit) => True) (H := fun (q54 : Unit) (st53 : U) s => [(5, .own k_21 (ao st53)), (0, .own w (ao s)), (KL, .ln 8)]) (re_rng1 (rj_cons (re_mul (re_val (i := 2) (fun _ => rfl)) (re_args (rj_cons (re_neO (i := 5) (fun _ => rfl) (RF.x (re_args (rj_nil (rz_lst []))))) fun x52 => (rj_nil (rz_loc [x52]))))) fun x51 => (rj_nil (rz_rng1)))) (fun x58 => rg_nm) ⟨(), trivial, fun _ => sub_cons rfl (sub_cons rfl (sub_cons rfl (sub_nil)))⟩ (fun q54 x58 st53 u59 hq55 => (rs_asg (i := 7) (re_ixO (i := 5) (fun _ => rfl) (re_call (rj_consW (i := 0) (fun _ => rfl) (rj_cons (re_lenO (i := 5) (fun _ => rfl)) fun x61 => (rj_nil (rz_fn1 (i := 0) (law_take_S x61) (by (repeat (first | exact CK.Pv.gd_base | refine CK.Pv.gd_cons ?_))))))))) (fun v_card62 => (rs_last (rs_m2 ins_ok (i := 5) (fun _ => rfl) (re_call (rj_consW (i := 0) (fun _ => rfl) (rj_cons (re_add (re_lenO (i := 5) (fun _ => rfl)) re_c) fun x64 => (rj_nil (rz_fn1 (i := 0) (law_take_S x64) (by (repeat (first | exact CK.Pv.gd_base | refine CK.Pv.gd_cons ?_)))))))) (re_args (rj_cons (re_ix (re_val (i := 7) (fun _ => rfl)) re_c) fun x65 => (rj_cons (re_call (rj_consW (i := 0) (fun _ => rfl) (rj_cons re_c fun x69 => (rj_nil (rz_fn1 (i := 0) (law_take_S x69) (by (repeat (first | exact CK.Pv.gd_base | refine CK.Pv.gd_cons ?_)))))))) fun x66 => (rj_cons (re_ix (re_val (i := 7) (fun _ => rfl)) re_c) fun x67 => (rj_nil (rz_tup [x65, x66, x67])))))) (fun v_cards70 => (rs_nx (fun _ => ⟨_, ⟨(), trivial, rfl⟩, sub_cons rfl (sub_cons rfl (sub_cons rfl (sub_nil)))⟩) trivial)) (hE := fun _ => sub_cons rfl sub_nil)))) (hE := fun _ => sub_cons rfl sub_nil))) (hE := fun _ => sub_cons rfl sub_nil)) fun q56 st73 hq57 => (rs_retO1 (i := 5) (j := 0) (fun _ => rfl) hk_21 hw (fun _ => rfl))))) (hE := fun _ => sub_cons rfl sub_nil))) (hE := fun _ => sub_cons rfl sub_nil))) (hE := fun _ => sub_cons rfl sub_nil))) (hE := fun _ => sub_cons rfl sub_nil))) (hE := fun _ => sub_cons rfl sub_nil))
def checked_P (v_cards : U) : PM Unit U := fnP (bnd (ret (U.dk [])) fun v_seen2 => (bndO (bnd (bnd (ret v_cards) fun x => walkU x) fun xs => forP xs v_seen2 fun x8 (st3 : U) => bnd (optP (some ())) fun u9 => (bnd (bnd (bnd (bnd (ret x8) fun x => bnd (ret (U.int 0)) fun y => ixP x y) fun x => (dkP st3 x fun o => ret (U.bl o.isSome))) asB) fun t10 => if t10 = true then (bnd (bnd (ret x8) fun x => bnd (ret (U.int 0)) fun y => ixP x y) fun v => raiseP "Twice" "key" v) else (bnd (ret (U.bl true)) fun x => bnd (bnd (ret x8) fun x => bnd (ret (U.int 0)) fun y => ixP x y) fun y => bnd (optP (putU st3 y x)) fun v_seen11 => (ret (Out.nx v_seen11))))) fun (st12 : U) => (bnd (bnd (bnd (bnd (ret v_cards) fun x13 => lenU x13) fun x => bnd (ret (U.int 64)) fun y => loc2 gtM x y) asB) fun t14 => if t14 = true then (bnd (ret (U.int 64)) fun v => raiseP "TooMany" "most" v) else (bnd (bnd (ret v_cards) fun x15 => listU x15) fun v => ret (Out.rt v)))))
theorem checked_S (v_cards : U) : Fn0 checked_M [ag v_cards] (checked_P v_cards) frC := fn0_mk fun c hw => (rs_asgO (i := 1) re_dnew (fun v_seen2 k_1 hk_1 => (rs_seq (F := True) (ok := fun (q : Unit) => True) (N := fun (q4 : Unit) (st3 : U) s => [(0, .val (ag v_cards)), (1, .own k_1 (ao st3)), (KL, .ln 3)]) (rs_for (ok := fun (q : Unit) => True) (H := fun (q4 : Unit) (st3 : U) s => [(0, .val (ag v_cards)), (1, .own k_1 (ao st3)), (KL, .ln 3)]) (re_src (re_val (i := 0) (fun _ => rfl))) (fun x8 => rg_nm) ⟨(), trivial, fun _ => sub_cons rfl (sub_cons rfl (sub_cons rfl (sub_nil)))⟩ (fun q4 x8 st3 u9 hq5 => (rs_ifT (re_tst (re_dinO (i := 1) (fun _ => rfl) (re_ix (re_val (i := 2) (fun _ => rfl)) re_c))) (rs_raise (re_ix (re_val (i := 2) (fun _ => rfl)) re_c)) (rs_last (rs_dput (i := 1) (fun _ => rfl) re_c (re_ix (re_val (i := 2) (fun _ => rfl)) re_c) (fun v_seen11 => (rs_nx (fun _ => ⟨_, ⟨(), trivial, rfl⟩, sub_cons rfl (sub_cons rfl (sub_cons rfl (sub_nil)))⟩) trivial))))))) fun q6 st12 hq7 => (rs_ifT (re_tst (re_op (re_args (rj_cons (re_val (i := 0) (fun _ => rfl)) fun x13 => rj_nil rz_len)) re_c)) (rs_raise re_c) (rs_ret0f (re_args (rj_cons (re_val (i := 0) (fun _ => rfl)) fun x15 => rj_nil rz_list)) hw)))))
def law_refusal_P (v_handed : U) : PM Unit U := fnP (bnd (ret U.non) fun v_found1 => (bndI (tryP LX "CrestError" (bnd (bnd (ret v_handed) fun x5 => (checked_P x5)) fun v_found7 => (ret (Out.nx v_found7))) fun nn fs => (ret (Out.nx (U.exn nn fs)))) fun (st4 : U) => (ret (Out.rt st4))))
theorem law_refusal_S (v_handed : U) : Fn0 law_refusal_M [ag v_handed] (law_refusal_P v_handed) frC := fn0_mk fun c hw => (rs_asg (i := 1) re_c (fun v_found1 => (rs_seqI (F := True) (ok := fun (q : Nat) => q ∉ c.W) (N := fun (q2 : Nat) (st4 : U) s => [(1, .own q2 (ao st4)), (KL, .ln 3)]) (rs_tryKO (H := fun s => [(KL, .ln 3)]) (w := fun nn fs => (U.exn nn fs)) (rs_last (rs_asgO (i := 1) (re_call (rj_cons (re_val (i := 0) (fun _ => rfl)) fun x5 => (rj_nil (rz_fn00f (checked_S x5))))) (fun v_found7 k_6 hk_6 => (rs_nx (fun _ => ⟨_, ⟨k_6, hk_6, rfl⟩, sub_cons rfl (sub_cons rfl (sub_nil))⟩) trivial)) (hE := fun _ => sub_cons rfl (sub_nil)))) (by exact fun kk hkk nn fs => (fun _ => ⟨_, ⟨kk, hkk, rfl⟩, sub_cons rfl (sub_cons rfl (sub_nil))⟩)) trivial (fun _ => sub_nil) (fun _ => rfl) (fun _ => rfl) (by intro v s Γ h; first | (cases h; rfl) | (obtain ⟨q, _, rfl⟩ := h; rfl))) fun q2 st4 hq3 => (rs_retO0 (i := 1) (fun _ => rfl) hq3 hw))))
def law_twice_P (v_cards : U) : PM Unit U := fnP (bndO (bnd (bnd (bnd (ret v_cards) fun x2 => lenU x2) fun x1 => rng1P x1) fun xs => forP xs () fun x8 (st3 : Unit) => bnd (optP (some ())) fun u9 => (bnd (bnd (bnd (bnd (bnd (ret v_cards) fun x => bnd (ret x8) fun y => ixP x y) fun x => bnd (ret (U.int 0)) fun y => ixP x y) fun x => bnd (bnd (bnd (bnd (ret v_cards) fun x => bnd (ret none) fun lo => bnd (bnd (ret x8) partP) fun hi => cutP x lo hi) fun x => walkU x) fun xs => lcU xs fun x10 => bnd (optP (some ())) fun u11 => bnd (ret true) fun b12 => if b12 = true then bnd (bnd (ret x10) fun x => bnd (ret (U.int 0)) fun y => ixP x y) fun y13 => ret (some y13) else ret none) fun y => inP false x y) asB) fun t14 => if t14 = true then (bnd (bnd (bnd (ret v_cards) fun x => bnd (ret x8) fun y => ixP x y) fun x => bnd (ret (U.int 0)) fun y => ixP x y) fun v => ret (Out.rt v)) else (ret (Out.nx ())))) fun (st15 : Unit) => (bnd (ret U.non) fun v => ret (Out.rt v)))
theorem law_twice_S (v_cards : U) : Fn0 law_twice_M [ag v_cards] (law_twice_P v_cards) clC := fn0_mk fun c hw => (rs_seq (F := True) (ok := fun (q : Unit) => True) (N := fun (q4 : Unit) (st3 : Unit) s => [(0, .val (ag v_cards)), (KL, .ln 3)]) (rs_for (ok := fun (q : Unit) => True) (H := fun (q4 : Unit) (st3 : Unit) s => [(0, .val (ag v_cards)), (KL, .ln 3)]) (re_rng1 (rj_cons (re_args (rj_cons (re_val (i := 0) (fun _ => rfl)) fun x2 => rj_nil rz_len)) fun x1 => (rj_nil (rz_rng1)))) (fun x8 => rg_nm) ⟨(), trivial, fun _ => sub_cons rfl (sub_cons rfl (sub_nil))⟩ (fun q4 x8 st3 u9 hq5 => (rs_if (re_tst (re_in (re_ix (re_ix (re_val (i := 0) (fun _ => rfl)) (re_val (i := 1) (fun _ => rfl))) re_c) (RF.x (re_lc (re_src (re_slice (re_val (i := 0) (fun _ => rfl)) re_noPart (re_part (re_val (i := 1) (fun _ => rfl))))) (fun x10 => rg_nm) (fun x10 u11 => re_yes) (fun x10 u11 => (re_ix (re_val (i := 2) (fun _ => rfl)) re_c)) (fun _ => ⟨rfl, rfl, trivial⟩))))) (rs_ret0 (re_ix (re_ix (re_val (i := 0) (fun _ => rfl)) (re_val (i := 1) (fun _ => rfl))) re_c) hw) (rs_nx (fun _ => ⟨_, ⟨(), trivial, rfl⟩, sub_cons rfl (sub_cons rfl (sub_nil))⟩) trivial)))) fun q6 st15 hq7 => (rs_ret0 re_c hw))
def law_alone_P (v_e v_place : U) : PM Unit U := fnP (bnd (bnd (bnd (ret v_e) fun x => isXP LX "Twice" x) fun x1 => bnd (bnd (ret v_e) fun x => isXP LX "TooMany" x) fun x2 => bnd (bnd (ret v_e) fun x => isXP LX "NoKey" x) fun x3 => bnd (bnd (ret v_e) fun x => isXP LX "NoTurn" x) fun x4 => bnd (bnd (ret v_e) fun x => isXP LX "Mingled" x) fun x5 => ret (U.lst [x1, x2, x3, x4, x5])) fun v_some6 => (bnd (bnd (bnd (bnd (ret v_e) fun x => isXP LX "ValueError" x) asB) fun x => if x = true then (bnd (bnd (bnd (bnd (ret v_some6) fun v => lookP v (bnd (ret (U.bl true)) fun y => countDU v y)) fun x => bnd (ret (U.int 1)) fun y => eqP x y) asB) fun x => if x = true then (bnd (ret v_some6) fun x => bnd (ret v_place) fun y => ixP x y) else ret (U.bl false)) else ret (U.bl false)) fun v => ret (Out.rt v)))
theorem law_alone_S (v_e v_place : U) : Fn0 law_alone_M [ag v_e, ag v_place] (law_alone_P v_e v_place) clC := fn0_mk fun c hw => (rs_asg (i := 2) (RF.x (re_args (rj_cons (re_isX (re_val (i := 0) (fun _ => rfl))) fun x1 => (rj_cons (re_isX (re_val (i := 0) (fun _ => rfl))) fun x2 => (rj_cons (re_isX (re_val (i := 0) (fun _ => rfl))) fun x3 => (rj_cons (re_isX (re_val (i := 0) (fun _ => rfl))) fun x4 => (rj_cons (re_isX (re_val (i := 0) (fun _ => rfl))) fun x5 => (rj_nil (rz_lst [x1, x2, x3, x4, x5]))))))))) (fun v_some6 => (rs_ret0 (re_andV (re_isX (re_val (i := 0) (fun _ => rfl))) (re_andV (re_eq (re_countD (re_val (i := 2) (fun _ => rfl)) re_c) re_c) (re_ix (re_val (i := 2) (fun _ => rfl)) (re_val (i := 1) (fun _ => rfl))))) hw)))
def law_P (v_script : U) : PM Unit U := runS potD (fnP (bndO (bnd (bnd (bnd (ret (U.int 2)) fun x2 => bnd (bnd (bnd (ret v_script) fun x6 => lenU x6) fun x4 => bnd (ret (U.int 8)) fun x5 => locA minM [x4, x5]) fun x3 => locA maxM [x2, x3]) fun x1 => rng1P x1) fun xs => forP xs () fun x12 (st7 : Unit) => bnd (optP (some ())) fun u13 => (bnd (bnd (ret v_script) fun x14 => bnd (ret x12) fun x15 => (lft (law_pot_P x14 x15))) fun v => bnd (putS v) fun _ => (bnd (bnd (ret (U.int 2)) fun x18 => (law_take_P x18)) fun v_plain19 => (bnd ((law_cards_P)) fun v_cards21 => (bnd (bnd (bnd (bnd (ret v_cards21) fun x24 => listU x24) fun x22 => bnd (bnd (ret v_cards21) fun x25 => tupleU x25) fun x23 => ret (U.lst [x22, x23])) fun x => bnd (ret v_plain19) fun y => ixP x y) fun v_handed26 => (bnd (bnd (ret v_handed26) fun x27 => (lft (law_refusal_P x27))) fun v_found29 => (bnd (bnd (ret v_cards21) fun x30 => (lft (law_twice_P x30))) fun v_key31 => (bndI (bnd (bnd (bnd (ret v_key31) fun x => bnd (ret U.non) fun y => notU x y) asB) fun t32 => if t32 = true then (bnd (bnd (bnd (bnd (bnd (ret v_found29) fun x36 => bnd (ret (U.int 0)) fun x37 => (lft (law_alone_P x36 x37))) asB) fun x => ret (!x)) fun x => if x = true then ret true else (bnd (bnd (bnd (ret v_found29) fun x => fldXP LX "key" x) fun x => bnd (ret v_key31) fun y => neP x y) asB)) fun t38 => if t38 = true then (bnd (ret (U.bl false)) fun v => ret (Out.rt v)) else (ret (Out.nx ()))) else (bnd (bnd (bnd (bnd (ret v_cards21) fun x39 => lenU x39) fun x => bnd (ret (U.int 64)) fun y => loc2 gtM x y) asB) fun t40 => if t40 = true then (bnd (bnd (bnd (bnd (bnd (ret v_found29) fun x41 => bnd (ret (U.int 1)) fun x42 => (lft (law_alone_P x41 x42))) asB) fun x => ret (!x)) fun x => if x = true then ret true else (bnd (bnd (bnd (ret v_found29) fun x => fldXP LX "most" x) fun x => bnd (ret (U.int 64)) fun y => neP x y) asB)) fun t43 => if t43 = true then (bnd (ret (U.bl false)) fun v => ret (Out.rt v)) else (ret (Out.nx ()))) else (bnd (bnd (bnd (wkP (bnd (bnd (ret v_found29) fun x => isiP "list" x) asB)) fun x => ret (!x)) fun x => if x = true then ret true else (bnd (bnd (ret v_cards21) fun y => (neP v_found29 y)) asB)) fun t44 => if t44 = true then (bnd (ret (U.bl false)) fun v => ret (Out.rt v)) else (lsG v_found29 (bnd (bnd (ret (U.int 1)) fun x45 => bnd (ret (U.int 1)) fun x46 => bnd (ret (U.int 1)) fun x47 => ret (U.tup [x45, x46, x47])) fun x51 => bnd (optP (mu appU v_found29 [x51])) fun v_found48 => (bnd (bnd (bnd (bnd (ret v_handed26) fun x49 => (lft (checked_P x49))) fun x => bnd (ret v_cards21) fun y => neP x y) asB) fun t50 => if t50 = true then (bnd (ret (U.bl false)) fun v => ret (Out.rt v)) else (ret (Out.nx ())))))))) fun (st35 : Unit) => (bnd (bnd (bnd (bnd (ret v_handed26) fun x52 => listU x52) fun x => bnd (ret v_cards21) fun y => neP x y) asB) fun t53 => if t53 = true then (bnd (ret (U.bl false)) fun v => ret (Out.rt v)) else (ret (Out.nx ()))))))))))) fun (st54 : Unit) => (bnd (bnd (bnd (ret (U.lst [])) fun x55 => (lft (checked_P x55))) fun x => bnd (ret (U.lst [])) fun y => eqP x y) fun v => ret (Out.rt v))))
theorem law_S (v_script : U) : Fn0 law_M [ag v_script] (law_P v_script) clC := fnS_mk fun c hw => (rs_seq (F := True) (ok := fun (q : Unit) => True) (N := fun (q8 : Unit) (st7 : Unit) s => [(0, .val (ag v_script)), (KL, .ln 8)]) (rs_for (ok := fun (q : Unit) => True) (H := fun (q8 : Unit) (st7 : Unit) s => [(0, .val (ag v_script)), (KL, .ln 8)]) (re_rng1 (rj_cons (re_args (rj_cons re_c fun x2 => (rj_cons (re_args (rj_cons (re_args (rj_cons (re_val (i := 0) (fun _ => rfl)) fun x6 => rj_nil rz_len)) fun x4 => (rj_cons re_c fun x5 => (rj_nil (rz_loc [x4, x5]))))) fun x3 => (rj_nil (rz_loc [x2, x3]))))) fun x1 => (rj_nil (rz_rng1)))) (fun x12 => rg_nm) ⟨(), trivial, fun _ => sub_cons rfl (sub_cons rfl (sub_nil))⟩ (fun q8 x12 st7 u13 hq9 => (rs_asgH (i := 2) (K := [(0, .val (ag v_script)), (KL, .ln 8)]) (re_call (rj_cons (re_val (i := 0) (fun _ => rfl)) fun x14 => (rj_cons (re_val (i := 1) (fun _ => rfl)) fun x15 => (rj_nil (rz_fn0f (law_pot_S x14 x15)))))) (fun _ => sub_cons rfl (sub_cons rfl (sub_nil))) (fun k_16 hk_16 => (rs_asg (i := 3) (re_call (rj_consW (i := 2) (fun _ => rfl) (rj_cons re_c fun x18 => (rj_nil (rz_fn1 (i := 2) (law_take_S x18) (by (repeat (first | exact CK.Pv.gd_base | refine CK.Pv.gd_cons ?_)))))))) (fun v_plain19 => (rs_asg (i := 4) (RF.x (re_call (rj_consW (i := 2) (fun _ => rfl) (rj_nil (rz_fn1f (i := 2) (law_cards_S) (by (repeat (first | exact CK.Pv.gd_base | refine CK.Pv.gd_cons ?_)))))))) (fun v_cards21 => (rs_asg (i := 5) (re_ix (RF.x (re_args (rj_cons (RF.x (re_args (rj_cons (re_val (i := 4) (fun _ => rfl)) fun x24 => rj_nil rz_list))) fun x22 => (rj_cons (re_args (rj_cons (re_val (i := 4) (fun _ => rfl)) fun x25 => rj_nil rz_tuple)) fun x23 => (rj_nil (rz_lst [x22, x23])))))) (re_val (i := 3) (fun _ => rfl))) (fun v_handed26 => (rs_asgO (i := 6) (re_call (rj_cons (re_val (i := 5) (fun _ => rfl)) fun x27 => (rj_nil (rz_fn0f (law_refusal_S x27))))) (fun v_found29 k_28 hk_28 => (rs_asg (i := 7) (re_call (rj_cons (re_val (i := 4) (fun _ => rfl)) fun x30 => (rj_nil (rz_fn0 (law_twice_S x30))))) (fun v_key31 => (rs_seqI (F := True) (ok := fun (q : Unit) => True) (N := fun (q33 : Unit) (st35 : Unit) s => [(4, .val (ag v_cards21)), (5, .val (ag v_handed26)), (0, .val (ag v_script)), (KL, .ln 8)]) (rs_if (re_tst (re_not2 (re_val (i := 7) (fun _ => rfl)) re_c)) (rs_freeze (i := 6) (fun _ => rfl) hk_28 (rs_if (re_or (re_not (re_tst (re_call (rj_cons (re_val (i := 6) (fun _ => rfl)) fun x36 => (rj_cons re_c fun x37 => (rj_nil (rz_fn0 (law_alone_S x36 x37)))))))) (re_tst (re_ne (re_fldX (re_val (i := 6) (fun _ => rfl))) (re_val (i := 7) (fun _ => rfl))))) (rs_ret0 re_c hw) (rs_nx (fun _ => ⟨_, ⟨(), trivial, rfl⟩, sub_cons rfl (sub_cons rfl (sub_cons rfl (sub_cons rfl (sub_nil))))⟩) trivial))) (rs_if (re_tst (re_op (re_args (rj_cons (re_val (i := 4) (fun _ => rfl)) fun x39 => rj_nil rz_len)) re_c)) (rs_freeze (i := 6) (fun _ => rfl) hk_28 (rs_if (re_or (re_not (re_tst (re_call (rj_cons (re_val (i := 6) (fun _ => rfl)) fun x41 => (rj_cons re_c fun x42 => (rj_nil (rz_fn0 (law_alone_S x41 x42)))))))) (re_tst (re_ne (re_fldX (re_val (i := 6) (fun _ => rfl))) re_c))) (rs_ret0 re_c hw) (rs_nx (fun _ => ⟨_, ⟨(), trivial, rfl⟩, sub_cons rfl (sub_cons rfl (sub_cons rfl (sub_cons rfl (sub_nil))))⟩) trivial))) (rs_ifT (re_or (re_not (rt_wk (vs := [(6, .val (ag v_found29)), (KL, .ln 8)]) (re_tst (re_isi (re_val (i := 6) (fun _ => rfl)))) (fun _ => (.own rfl (.nil rfl))))) (re_tst (re_neO (i := 6) (fun _ => rfl) (re_val (i := 4) (fun _ => rfl))))) (rs_ret0 re_c hw) (rs_m1 app_ok (i := 6) (fun _ => rfl) (re_args (rj_cons re_c fun x45 => (rj_cons re_c fun x46 => (rj_cons re_c fun x47 => (rj_nil (rz_tup [x45, x46, x47])))))) (fun v_found48 => (rs_if (re_tst (re_ne (RF.x (re_call (rj_cons (re_val (i := 5) (fun _ => rfl)) fun x49 => (rj_nil (rz_fn0f (checked_S x49)))))) (re_val (i := 4) (fun _ => rfl)))) (rs_ret0 re_c hw) (rs_nx (fun _ => ⟨_, ⟨(), trivial, rfl⟩, sub_cons rfl (sub_cons rfl (sub_cons rfl (sub_cons rfl (sub_nil))))⟩) trivial))))))) fun q33 st35 hq34 => (rs_if (re_tst (re_ne (RF.x (re_args (rj_cons (re_val (i := 5) (fun _ => rfl)) fun x52 => rj_nil rz_list))) (re_val (i := 4) (fun _ => rfl)))) (rs_ret0 re_c hw) (rs_nx (fun _ => ⟨_, ⟨(), trivial, rfl⟩, sub_cons rfl (sub_cons rfl (sub_nil))⟩) trivial))))))))))))))))) fun q10 st54 hq11 => (rs_ret0 (re_eq (RF.x (re_call (rj_cons (RF.x (re_args (rj_nil (rz_lst [])))) fun x55 => (rj_nil (rz_fn0f (checked_S x55)))))) (RF.x (re_args (rj_nil (rz_lst []))))) hw))
end Lk02
end CK
end

section
set_option Elab.async false
set_option linter.all false
set_option maxRecDepth 100000
set_option maxHeartbeats 4000000
namespace CK
namespace Pv
open PySem PySem.Spec PyProof.Rows L2
section
variable {ε : Type}

end
end Pv
end CK
end

section
set_option Elab.async false
set_option linter.all false
set_option exponentiation.threshold 100000
set_option maxRecDepth 100000
set_option maxHeartbeats 4000000
namespace CK
namespace Pv
namespace Lib
open PySem PySem.Spec PyProof.Rows L2

theorem py_ints (n : Nat) (r : List Int) : optAll (pyU (n + 1)) (r.map U.int) = some (r.map PyData.int) := by
  induction r with
  | nil => rfl
  | cons x r ih => rw [List.map_cons, List.map_cons]; unfold optAll; rw [ih]; rfl
theorem in_ints {ε : Type} {i : Int} {l : List Int} : (inP false (.int i) (.lst (l.map U.int)) : PM ε U) = ret (.bl (decide (i ∈ l))) := by
  funext s
  unfold inP
  have e : pyU 199 (.lst (l.map U.int)) = some (.list (l.map PyData.int)) := by
    unfold pyU; simp only [CK.Pv.Lib.py_ints]; rfl
  rw [e]
  have e2 : pyU 198 (.int i) = some (.int i) := rfl
  rw [e2]
  show PR.ok (U.bl ((l.map PyData.int).any fun z => PyData.eqv z (.int i))) s = _
  congr 2
  rw [List.any_map]
  apply Bool.eq_iff_iff.mpr
  rw [List.any_eq_true, decide_eq_true_eq]
  constructor
  · rintro ⟨x, hx, h⟩
    simp [PyData.eqv] at h
    rw [← h]; exact hx
  · intro h
    exact ⟨i, h, by simp [PyData.eqv]⟩
end Lib
end Pv
end CK
end

section
set_option Elab.async false
set_option linter.all false
set_option exponentiation.threshold 100000
set_option maxRecDepth 100000
set_option maxHeartbeats 4000000
namespace CK
namespace Lib
open PySem PySem.Spec PyProof.Rows L2
local macro_rules | `(tactic| walk_at "ck") => `(tactic| try simp only [wp_seq, wp_asg, wp_if, wp_ret, wp_retN, wp_drop, wp_fn, wp_var0, wp_varS, wp_mC, wp_m2, wp_m1, wp_nil, wp_cons, wp_args, wp_call, wp_tst, wp_and, wp_or, wp_not, wp_andV, wp_orV, wp_notV, wp_ifE, wp_chain, wp_nx, wp_brk, wp_cnt, aft_nx, aft_rt, aft_bk, aft_ct, aft_xc, fin_rt, fin_nx, fin_xc, fin_bk, fin_ct, wp_gNm, wp_gTp, wp_gsNil, wp_gsCons, wp_gSub, wp_par, wp_par3, wp_i0, wp_iC, wp_addI, wp_addT, wp_mulI, wp_neg, wp_tup, wp_lst, sz0, sz1, sz2, sz3, sz4, sz5, sz6, sz7, sz8, wp_yes, wp_ixT, wp_ixL, wp_setL, wp_isi, tyN, isi_ii, isi_ib, isi_bi, isi_bb, isi_nb, isi_ni, isi_ns, isi_nt, isi_nl, isi_nd, isi_bs, isi_bt, isi_bl, isi_bd, isi_is, isi_it, isi_il, isi_id, isi_sb, isi_si, isi_ss, isi_st, isi_sl, isi_sd, isi_tb, isi_ti, isi_ts, isi_tt, isi_tl, isi_td, isi_lb, isi_li, isi_ls, isi_lt, isi_ll, isi_ld, isi_db, isi_di, isi_ds, isi_dt, isi_dl, isi_dd, wp_slice, wp_noPart, wp_part, asInt_int, wp_slT, wp_slL, wp_mulT, wp_src, wp_lc, wipeE, D.ref.injEq, D.tup.injEq, reduceCtorEq, false_and, exists_false, false_or, or_false, cpt2, cpt3, cpt4, cpt5, cpt6, cpt7, cpt8, cpt9, cpt10, cpt11, cpt12, cpt13, cpt14, cpt15, cpt16, cpt17, cpt18, cpt19, cpt20, cpt24, cpt30, cpt36, cpt40, cpt48, cpt50, cpt58, cpt59, cpt60, wp_extend, wp_revL, exists_and_left, wp_ML, wp_ML0, isLs_ref, wp_append, wp_pop, wp_tupleR, wp_tupleT, wp_listR, wp_listT, wp_all, wp_any, wp_sum, wp_notB, wp_isB, wp_isN, wp_notN, Option.isSome_some, wp_rng1, wp_rng2, wp_rng3, lsAt, lsO_lst, lsO_fro, lstO_lst, wp_lenR, lenO_lst, lenO_fro, lenO_dK, List.length_map, List.getElem?_cons_zero, List.getElem?_cons_succ, wp_dnew, wp_dget, wp_din, wp_dnin, wp_dg1, wp_dput, wp_dpop, wp_MD, isDk_ref, dkO_dK, keyD_int, keyD_str, wp_lrg1, wp_trg1, wp_MS, isStrB_str, wp_sindex, wp_isiT, wp_strI, wp_eqS, wp_neS, wp_eqI, wp_neI, wp_eqB, wp_neB, wp_abs, wp_intI, wp_intB, wp_max2, wp_min2, wp_lenT, wp_for, wp_ok, wp_bad, lp_nx, lp_ct, lp_bk, lp_rt, lp_xc, asBl_bl, at0, at1, at2, List.map_cons, List.map_nil, List.cons_append, List.nil_append, List.length_cons, List.length_nil, List.replicate, List.set_cons_zero, List.set_cons_succ, Nat.reduceAdd, Int.reduceToNat, Int.reducePow, Int.reduceNeg, Int.reduceMul, Int.reduceAdd, Int.reduceSub, Int.reduceMod, Int.reduceDiv, Int.reduceLT, Int.reduceLE, Int.zero_mul, Int.zero_add, Int.cast_ofNat_Int, Int.reduceBEq, Nat.reduceLeDiff, Nat.reduceEqDiff, true_and, and_true, Nat.reduceSub, if_true, Option.some.injEq, exists_eq_left', Bool.not_true, Bool.not_false, decide_eq_true_eq, Bool.false_eq_true, if_false])
local macro_rules | `(tactic| walk_at "cks") => `(tactic| try simp only [wp_seq, wp_asg, wp_if, wp_ret, wp_retN, wp_drop, wp_fn, wp_var0, wp_varS, wp_mC, wp_m2, wp_m1, wp_nil, wp_cons, wp_args, wp_call, wp_tst, wp_and, wp_or, wp_not, wp_andV, wp_orV, wp_notV, wp_ifE, wp_chain, wp_nx, wp_brk, wp_cnt, aft_nx, aft_rt, aft_bk, aft_ct, aft_xc, fin_rt, fin_nx, fin_xc, fin_bk, fin_ct, wp_gNm, wp_gTp, wp_gsNil, wp_gsCons, wp_gSub, wp_par, wp_par3, wp_i0, wp_iC, wp_addI, wp_addT, wp_mulI, wp_neg, wp_tup, wp_lst, sz0, sz1, sz2, sz3, sz4, sz5, sz6, sz7, sz8, wp_yes, wp_ixT, wp_ixL, wp_setL, wp_isi, tyN, isi_ii, isi_ib, isi_bi, isi_bb, isi_nb, isi_ni, isi_ns, isi_nt, isi_nl, isi_nd, isi_bs, isi_bt, isi_bl, isi_bd, isi_is, isi_it, isi_il, isi_id, isi_sb, isi_si, isi_ss, isi_st, isi_sl, isi_sd, isi_tb, isi_ti, isi_ts, isi_tt, isi_tl, isi_td, isi_lb, isi_li, isi_ls, isi_lt, isi_ll, isi_ld, isi_db, isi_di, isi_ds, isi_dt, isi_dl, isi_dd, wp_slice, wp_noPart, wp_part, asInt_int, wp_slT, wp_slL, wp_mulT, wp_src, wp_lc, wipeE, D.ref.injEq, D.tup.injEq, reduceCtorEq, false_and, exists_false, false_or, or_false, cpt2, cpt3, cpt4, cpt5, cpt6, cpt7, cpt8, cpt9, cpt10, cpt11, cpt12, cpt13, cpt14, cpt15, cpt16, cpt17, cpt18, cpt19, cpt20, cpt24, cpt30, cpt36, cpt40, cpt48, cpt50, cpt58, cpt59, cpt60, wp_extend, wp_revL, exists_and_left, wp_ML, wp_ML0, isLs_ref, wp_append, wp_pop, wp_tupleR, wp_tupleT, wp_listR, wp_listT, wp_all, wp_any, wp_sum, wp_notB, wp_isB, wp_isN, wp_notN, Option.isSome_some, wp_rng1, wp_rng2, wp_rng3, lsAt, lsO_lst, lsO_fro, lstO_lst, wp_lenR, lenO_lst, lenO_fro, lenO_dK, List.length_map, List.getElem?_cons_zero, List.getElem?_cons_succ, wp_dnew, wp_dget, wp_din, wp_dnin, wp_dg1, wp_dput, wp_dpop, wp_MD, isDk_ref, dkO_dK, keyD_int, keyD_str, wp_lrg1, wp_trg1, wp_MS, isStrB_str, wp_sindex, wp_isiT, wp_strI, wp_eqS, wp_neS, wp_eqI, wp_neI, wp_eqB, wp_neB, wp_abs, wp_intI, wp_intB, wp_max2, wp_min2, wp_lenT, wp_for, wp_ok, wp_bad, lp_nx, lp_ct, lp_bk, lp_rt, lp_xc, asBl_bl, at0, at1, at2, List.map_cons, List.map_nil, List.cons_append, List.nil_append, List.length_cons, List.length_nil, List.replicate, List.set_cons_zero, List.set_cons_succ, Nat.reduceAdd, Int.reduceToNat, Int.reducePow, Int.reduceNeg, Int.reduceMul, Int.reduceAdd, Int.reduceSub, Int.reduceMod, Int.reduceDiv, Int.reduceLT, Int.reduceLE, Int.zero_mul, Int.zero_add, Int.cast_ofNat_Int, Int.reduceBEq, Nat.reduceLeDiff, Nat.reduceEqDiff, true_and, and_true, Nat.reduceSub, if_true, Option.some.injEq, exists_eq_left', Bool.not_true, Bool.not_false, decide_eq_true_eq, Bool.false_eq_true, if_false, *])
local macro_rules | `(tactic| walk_at "ck1") => `(tactic| try simp only [wp_seq, wp_asg, wp_if, wp_ret, wp_retN, wp_drop, wp_fn, wp_var0, wp_varS, wp_mC, wp_m2, wp_m1, wp_nil, wp_cons, wp_args, wp_call, wp_tst, wp_and, wp_or, wp_not, wp_andV, wp_orV, wp_notV, wp_ifE, wp_chain, wp_nx, wp_brk, wp_cnt, aft_rt, aft_bk, aft_ct, aft_xc, fin_rt, fin_nx, fin_xc, fin_bk, fin_ct, wp_gNm, wp_gTp, wp_gsNil, wp_gsCons, wp_gSub, wp_par, wp_par3, wp_i0, wp_iC, wp_addI, wp_addT, wp_mulI, wp_neg, wp_tup, wp_lst, sz0, sz1, sz2, sz3, sz4, sz5, sz6, sz7, sz8, wp_yes, wp_ixT, wp_ixL, wp_setL, wp_isi, tyN, isi_ii, isi_ib, isi_bi, isi_bb, isi_nb, isi_ni, isi_ns, isi_nt, isi_nl, isi_nd, isi_bs, isi_bt, isi_bl, isi_bd, isi_is, isi_it, isi_il, isi_id, isi_sb, isi_si, isi_ss, isi_st, isi_sl, isi_sd, isi_tb, isi_ti, isi_ts, isi_tt, isi_tl, isi_td, isi_lb, isi_li, isi_ls, isi_lt, isi_ll, isi_ld, isi_db, isi_di, isi_ds, isi_dt, isi_dl, isi_dd, wp_slice, wp_noPart, wp_part, asInt_int, wp_slT, wp_slL, wp_mulT, wp_src, wp_lc, wipeE, D.ref.injEq, D.tup.injEq, reduceCtorEq, false_and, exists_false, false_or, or_false, cpt2, cpt3, cpt4, cpt5, cpt6, cpt7, cpt8, cpt9, cpt10, cpt11, cpt12, cpt13, cpt14, cpt15, cpt16, cpt17, cpt18, cpt19, cpt20, cpt24, cpt30, cpt36, cpt40, cpt48, cpt50, cpt58, cpt59, cpt60, wp_extend, wp_revL, exists_and_left, wp_ML, wp_ML0, isLs_ref, wp_append, wp_pop, wp_tupleR, wp_tupleT, wp_listR, wp_listT, wp_all, wp_any, wp_sum, wp_notB, wp_isB, wp_isN, wp_notN, Option.isSome_some, wp_rng1, wp_rng2, wp_rng3, lsAt, lsO_lst, lsO_fro, lstO_lst, wp_lenR, lenO_lst, lenO_fro, lenO_dK, List.length_map, List.getElem?_cons_zero, List.getElem?_cons_succ, wp_dnew, wp_dget, wp_din, wp_dnin, wp_dg1, wp_dput, wp_dpop, wp_MD, isDk_ref, dkO_dK, keyD_int, keyD_str, wp_lrg1, wp_trg1, wp_MS, isStrB_str, wp_sindex, wp_isiT, wp_strI, wp_eqS, wp_neS, wp_eqI, wp_neI, wp_eqB, wp_neB, wp_abs, wp_intI, wp_intB, wp_max2, wp_min2, wp_lenT, wp_for, wp_ok, wp_bad, lp_nx, lp_ct, lp_bk, lp_rt, lp_xc, asBl_bl, at0, at1, at2, List.map_cons, List.map_nil, List.cons_append, List.nil_append, List.length_cons, List.length_nil, List.replicate, List.set_cons_zero, List.set_cons_succ, Nat.reduceAdd, Int.reduceToNat, Int.reducePow, Int.reduceNeg, Int.reduceMul, Int.reduceAdd, Int.reduceSub, Int.reduceMod, Int.reduceDiv, Int.reduceLT, Int.reduceLE, Int.zero_mul, Int.zero_add, Int.cast_ofNat_Int, Int.reduceBEq, Nat.reduceLeDiff, Nat.reduceEqDiff, true_and, and_true, Nat.reduceSub, if_true, Option.some.injEq, exists_eq_left', Bool.not_true, Bool.not_false, decide_eq_true_eq, Bool.false_eq_true, if_false])
end Lib
end CK
end

section
set_option Elab.async false
set_option linter.all false
set_option maxRecDepth 100000
set_option maxHeartbeats 4000000
namespace CK
namespace Lib
open PySem PySem.Spec PyProof.Rows L2
local macro_rules | `(tactic| walk_at "ck") => `(tactic| try simp only [wp_seq, wp_asg, wp_if, wp_ret, wp_retN, wp_drop, wp_fn, wp_var0, wp_varS, wp_mC, wp_m2, wp_m1, wp_nil, wp_cons, wp_args, wp_call, wp_tst, wp_and, wp_or, wp_not, wp_andV, wp_orV, wp_notV, wp_ifE, wp_chain, wp_nx, wp_brk, wp_cnt, aft_nx, aft_rt, aft_bk, aft_ct, aft_xc, fin_rt, fin_nx, fin_xc, fin_bk, fin_ct, wp_gNm, wp_gTp, wp_gsNil, wp_gsCons, wp_gSub, wp_par, wp_par3, wp_i0, wp_iC, wp_addI, wp_addT, wp_mulI, wp_neg, wp_tup, wp_lst, sz0, sz1, sz2, sz3, sz4, sz5, sz6, sz7, sz8, wp_yes, wp_ixT, wp_ixL, wp_setL, wp_isi, tyN, isi_ii, isi_ib, isi_bi, isi_bb, isi_nb, isi_ni, isi_ns, isi_nt, isi_nl, isi_nd, isi_bs, isi_bt, isi_bl, isi_bd, isi_is, isi_it, isi_il, isi_id, isi_sb, isi_si, isi_ss, isi_st, isi_sl, isi_sd, isi_tb, isi_ti, isi_ts, isi_tt, isi_tl, isi_td, isi_lb, isi_li, isi_ls, isi_lt, isi_ll, isi_ld, isi_db, isi_di, isi_ds, isi_dt, isi_dl, isi_dd, wp_slice, wp_noPart, wp_part, asInt_int, wp_slT, wp_slL, wp_mulT, wp_src, wp_lc, wipeE, D.ref.injEq, D.tup.injEq, reduceCtorEq, false_and, exists_false, false_or, or_false, cpt2, cpt3, cpt4, cpt5, cpt6, cpt7, cpt8, cpt9, cpt10, cpt11, cpt12, cpt13, cpt14, cpt15, cpt16, cpt17, cpt18, cpt19, cpt20, cpt24, cpt30, cpt36, cpt40, cpt48, cpt50, cpt58, cpt59, cpt60, wp_extend, wp_revL, exists_and_left, wp_ML, wp_ML0, isLs_ref, wp_append, wp_pop, wp_tupleR, wp_tupleT, wp_listR, wp_listT, wp_all, wp_any, wp_sum, wp_notB, wp_isB, wp_isN, wp_notN, Option.isSome_some, wp_rng1, wp_rng2, wp_rng3, lsAt, lsO_lst, lsO_fro, lstO_lst, wp_lenR, lenO_lst, lenO_fro, lenO_dK, List.length_map, List.getElem?_cons_zero, List.getElem?_cons_succ, wp_dnew, wp_dget, wp_din, wp_dnin, wp_dg1, wp_dput, wp_dpop, wp_MD, isDk_ref, dkO_dK, keyD_int, keyD_str, wp_lrg1, wp_trg1, wp_MS, isStrB_str, wp_sindex, wp_isiT, wp_strI, wp_eqS, wp_neS, wp_eqI, wp_neI, wp_eqB, wp_neB, wp_abs, wp_intI, wp_intB, wp_max2, wp_min2, wp_lenT, wp_for, wp_ok, wp_bad, lp_nx, lp_ct, lp_bk, lp_rt, lp_xc, asBl_bl, at0, at1, at2, List.map_cons, List.map_nil, List.cons_append, List.nil_append, List.length_cons, List.length_nil, List.replicate, List.set_cons_zero, List.set_cons_succ, Nat.reduceAdd, Int.reduceToNat, Int.reducePow, Int.reduceNeg, Int.reduceMul, Int.reduceAdd, Int.reduceSub, Int.reduceMod, Int.reduceDiv, Int.reduceLT, Int.reduceLE, Int.zero_mul, Int.zero_add, Int.cast_ofNat_Int, Int.reduceBEq, Nat.reduceLeDiff, Nat.reduceEqDiff, true_and, and_true, Nat.reduceSub, if_true, Option.some.injEq, exists_eq_left', Bool.not_true, Bool.not_false, decide_eq_true_eq, Bool.false_eq_true, if_false])
local macro_rules | `(tactic| walk_at "cks") => `(tactic| try simp only [wp_seq, wp_asg, wp_if, wp_ret, wp_retN, wp_drop, wp_fn, wp_var0, wp_varS, wp_mC, wp_m2, wp_m1, wp_nil, wp_cons, wp_args, wp_call, wp_tst, wp_and, wp_or, wp_not, wp_andV, wp_orV, wp_notV, wp_ifE, wp_chain, wp_nx, wp_brk, wp_cnt, aft_nx, aft_rt, aft_bk, aft_ct, aft_xc, fin_rt, fin_nx, fin_xc, fin_bk, fin_ct, wp_gNm, wp_gTp, wp_gsNil, wp_gsCons, wp_gSub, wp_par, wp_par3, wp_i0, wp_iC, wp_addI, wp_addT, wp_mulI, wp_neg, wp_tup, wp_lst, sz0, sz1, sz2, sz3, sz4, sz5, sz6, sz7, sz8, wp_yes, wp_ixT, wp_ixL, wp_setL, wp_isi, tyN, isi_ii, isi_ib, isi_bi, isi_bb, isi_nb, isi_ni, isi_ns, isi_nt, isi_nl, isi_nd, isi_bs, isi_bt, isi_bl, isi_bd, isi_is, isi_it, isi_il, isi_id, isi_sb, isi_si, isi_ss, isi_st, isi_sl, isi_sd, isi_tb, isi_ti, isi_ts, isi_tt, isi_tl, isi_td, isi_lb, isi_li, isi_ls, isi_lt, isi_ll, isi_ld, isi_db, isi_di, isi_ds, isi_dt, isi_dl, isi_dd, wp_slice, wp_noPart, wp_part, asInt_int, wp_slT, wp_slL, wp_mulT, wp_src, wp_lc, wipeE, D.ref.injEq, D.tup.injEq, reduceCtorEq, false_and, exists_false, false_or, or_false, cpt2, cpt3, cpt4, cpt5, cpt6, cpt7, cpt8, cpt9, cpt10, cpt11, cpt12, cpt13, cpt14, cpt15, cpt16, cpt17, cpt18, cpt19, cpt20, cpt24, cpt30, cpt36, cpt40, cpt48, cpt50, cpt58, cpt59, cpt60, wp_extend, wp_revL, exists_and_left, wp_ML, wp_ML0, isLs_ref, wp_append, wp_pop, wp_tupleR, wp_tupleT, wp_listR, wp_listT, wp_all, wp_any, wp_sum, wp_notB, wp_isB, wp_isN, wp_notN, Option.isSome_some, wp_rng1, wp_rng2, wp_rng3, lsAt, lsO_lst, lsO_fro, lstO_lst, wp_lenR, lenO_lst, lenO_fro, lenO_dK, List.length_map, List.getElem?_cons_zero, List.getElem?_cons_succ, wp_dnew, wp_dget, wp_din, wp_dnin, wp_dg1, wp_dput, wp_dpop, wp_MD, isDk_ref, dkO_dK, keyD_int, keyD_str, wp_lrg1, wp_trg1, wp_MS, isStrB_str, wp_sindex, wp_isiT, wp_strI, wp_eqS, wp_neS, wp_eqI, wp_neI, wp_eqB, wp_neB, wp_abs, wp_intI, wp_intB, wp_max2, wp_min2, wp_lenT, wp_for, wp_ok, wp_bad, lp_nx, lp_ct, lp_bk, lp_rt, lp_xc, asBl_bl, at0, at1, at2, List.map_cons, List.map_nil, List.cons_append, List.nil_append, List.length_cons, List.length_nil, List.replicate, List.set_cons_zero, List.set_cons_succ, Nat.reduceAdd, Int.reduceToNat, Int.reducePow, Int.reduceNeg, Int.reduceMul, Int.reduceAdd, Int.reduceSub, Int.reduceMod, Int.reduceDiv, Int.reduceLT, Int.reduceLE, Int.zero_mul, Int.zero_add, Int.cast_ofNat_Int, Int.reduceBEq, Nat.reduceLeDiff, Nat.reduceEqDiff, true_and, and_true, Nat.reduceSub, if_true, Option.some.injEq, exists_eq_left', Bool.not_true, Bool.not_false, decide_eq_true_eq, Bool.false_eq_true, if_false, *])
local macro_rules | `(tactic| walk_at "ck1") => `(tactic| try simp only [wp_seq, wp_asg, wp_if, wp_ret, wp_retN, wp_drop, wp_fn, wp_var0, wp_varS, wp_mC, wp_m2, wp_m1, wp_nil, wp_cons, wp_args, wp_call, wp_tst, wp_and, wp_or, wp_not, wp_andV, wp_orV, wp_notV, wp_ifE, wp_chain, wp_nx, wp_brk, wp_cnt, aft_rt, aft_bk, aft_ct, aft_xc, fin_rt, fin_nx, fin_xc, fin_bk, fin_ct, wp_gNm, wp_gTp, wp_gsNil, wp_gsCons, wp_gSub, wp_par, wp_par3, wp_i0, wp_iC, wp_addI, wp_addT, wp_mulI, wp_neg, wp_tup, wp_lst, sz0, sz1, sz2, sz3, sz4, sz5, sz6, sz7, sz8, wp_yes, wp_ixT, wp_ixL, wp_setL, wp_isi, tyN, isi_ii, isi_ib, isi_bi, isi_bb, isi_nb, isi_ni, isi_ns, isi_nt, isi_nl, isi_nd, isi_bs, isi_bt, isi_bl, isi_bd, isi_is, isi_it, isi_il, isi_id, isi_sb, isi_si, isi_ss, isi_st, isi_sl, isi_sd, isi_tb, isi_ti, isi_ts, isi_tt, isi_tl, isi_td, isi_lb, isi_li, isi_ls, isi_lt, isi_ll, isi_ld, isi_db, isi_di, isi_ds, isi_dt, isi_dl, isi_dd, wp_slice, wp_noPart, wp_part, asInt_int, wp_slT, wp_slL, wp_mulT, wp_src, wp_lc, wipeE, D.ref.injEq, D.tup.injEq, reduceCtorEq, false_and, exists_false, false_or, or_false, cpt2, cpt3, cpt4, cpt5, cpt6, cpt7, cpt8, cpt9, cpt10, cpt11, cpt12, cpt13, cpt14, cpt15, cpt16, cpt17, cpt18, cpt19, cpt20, cpt24, cpt30, cpt36, cpt40, cpt48, cpt50, cpt58, cpt59, cpt60, wp_extend, wp_revL, exists_and_left, wp_ML, wp_ML0, isLs_ref, wp_append, wp_pop, wp_tupleR, wp_tupleT, wp_listR, wp_listT, wp_all, wp_any, wp_sum, wp_notB, wp_isB, wp_isN, wp_notN, Option.isSome_some, wp_rng1, wp_rng2, wp_rng3, lsAt, lsO_lst, lsO_fro, lstO_lst, wp_lenR, lenO_lst, lenO_fro, lenO_dK, List.length_map, List.getElem?_cons_zero, List.getElem?_cons_succ, wp_dnew, wp_dget, wp_din, wp_dnin, wp_dg1, wp_dput, wp_dpop, wp_MD, isDk_ref, dkO_dK, keyD_int, keyD_str, wp_lrg1, wp_trg1, wp_MS, isStrB_str, wp_sindex, wp_isiT, wp_strI, wp_eqS, wp_neS, wp_eqI, wp_neI, wp_eqB, wp_neB, wp_abs, wp_intI, wp_intB, wp_max2, wp_min2, wp_lenT, wp_for, wp_ok, wp_bad, lp_nx, lp_ct, lp_bk, lp_rt, lp_xc, asBl_bl, at0, at1, at2, List.map_cons, List.map_nil, List.cons_append, List.nil_append, List.length_cons, List.length_nil, List.replicate, List.set_cons_zero, List.set_cons_succ, Nat.reduceAdd, Int.reduceToNat, Int.reducePow, Int.reduceNeg, Int.reduceMul, Int.reduceAdd, Int.reduceSub, Int.reduceMod, Int.reduceDiv, Int.reduceLT, Int.reduceLE, Int.zero_mul, Int.zero_add, Int.cast_ofNat_Int, Int.reduceBEq, Nat.reduceLeDiff, Nat.reduceEqDiff, true_and, and_true, Nat.reduceSub, if_true, Option.some.injEq, exists_eq_left', Bool.not_true, Bool.not_false, decide_eq_true_eq, Bool.false_eq_true, if_false])
end Lib
end CK
end

section
set_option Elab.async false
set_option linter.all false
set_option maxRecDepth 100000
set_option maxHeartbeats 4000000
namespace CK
namespace Lib
open PySem PySem.Spec PyProof.Rows L2
local macro_rules | `(tactic| walk_at "ck") => `(tactic| try simp only [wp_seq, wp_asg, wp_if, wp_ret, wp_retN, wp_drop, wp_fn, wp_var0, wp_varS, wp_mC, wp_m2, wp_m1, wp_nil, wp_cons, wp_args, wp_call, wp_tst, wp_and, wp_or, wp_not, wp_andV, wp_orV, wp_notV, wp_ifE, wp_chain, wp_nx, wp_brk, wp_cnt, aft_nx, aft_rt, aft_bk, aft_ct, aft_xc, fin_rt, fin_nx, fin_xc, fin_bk, fin_ct, wp_gNm, wp_gTp, wp_gsNil, wp_gsCons, wp_gSub, wp_par, wp_par3, wp_i0, wp_iC, wp_addI, wp_addT, wp_mulI, wp_neg, wp_tup, wp_lst, sz0, sz1, sz2, sz3, sz4, sz5, sz6, sz7, sz8, wp_yes, wp_ixT, wp_ixL, wp_setL, wp_isi, tyN, isi_ii, isi_ib, isi_bi, isi_bb, isi_nb, isi_ni, isi_ns, isi_nt, isi_nl, isi_nd, isi_bs, isi_bt, isi_bl, isi_bd, isi_is, isi_it, isi_il, isi_id, isi_sb, isi_si, isi_ss, isi_st, isi_sl, isi_sd, isi_tb, isi_ti, isi_ts, isi_tt, isi_tl, isi_td, isi_lb, isi_li, isi_ls, isi_lt, isi_ll, isi_ld, isi_db, isi_di, isi_ds, isi_dt, isi_dl, isi_dd, wp_slice, wp_noPart, wp_part, asInt_int, wp_slT, wp_slL, wp_mulT, wp_src, wp_lc, wipeE, D.ref.injEq, D.tup.injEq, reduceCtorEq, false_and, exists_false, false_or, or_false, cpt2, cpt3, cpt4, cpt5, cpt6, cpt7, cpt8, cpt9, cpt10, cpt11, cpt12, cpt13, cpt14, cpt15, cpt16, cpt17, cpt18, cpt19, cpt20, cpt24, cpt30, cpt36, cpt40, cpt48, cpt50, cpt58, cpt59, cpt60, wp_extend, wp_revL, exists_and_left, wp_ML, wp_ML0, isLs_ref, wp_append, wp_pop, wp_tupleR, wp_tupleT, wp_listR, wp_listT, wp_all, wp_any, wp_sum, wp_notB, wp_isB, wp_isN, wp_notN, Option.isSome_some, wp_rng1, wp_rng2, wp_rng3, lsAt, lsO_lst, lsO_fro, lstO_lst, wp_lenR, lenO_lst, lenO_fro, lenO_dK, List.length_map, List.getElem?_cons_zero, List.getElem?_cons_succ, wp_dnew, wp_dget, wp_din, wp_dnin, wp_dg1, wp_dput, wp_dpop, wp_MD, isDk_ref, dkO_dK, keyD_int, keyD_str, wp_lrg1, wp_trg1, wp_MS, isStrB_str, wp_sindex, wp_isiT, wp_strI, wp_eqS, wp_neS, wp_eqI, wp_neI, wp_eqB, wp_neB, wp_abs, wp_intI, wp_intB, wp_max2, wp_min2, wp_lenT, wp_for, wp_ok, wp_bad, lp_nx, lp_ct, lp_bk, lp_rt, lp_xc, asBl_bl, at0, at1, at2, List.map_cons, List.map_nil, List.cons_append, List.nil_append, List.length_cons, List.length_nil, List.replicate, List.set_cons_zero, List.set_cons_succ, Nat.reduceAdd, Int.reduceToNat, Int.reducePow, Int.reduceNeg, Int.reduceMul, Int.reduceAdd, Int.reduceSub, Int.reduceMod, Int.reduceDiv, Int.reduceLT, Int.reduceLE, Int.zero_mul, Int.zero_add, Int.cast_ofNat_Int, Int.reduceBEq, Nat.reduceLeDiff, Nat.reduceEqDiff, true_and, and_true, Nat.reduceSub, if_true, Option.some.injEq, exists_eq_left', Bool.not_true, Bool.not_false, decide_eq_true_eq, Bool.false_eq_true, if_false])
local macro_rules | `(tactic| walk_at "cks") => `(tactic| try simp only [wp_seq, wp_asg, wp_if, wp_ret, wp_retN, wp_drop, wp_fn, wp_var0, wp_varS, wp_mC, wp_m2, wp_m1, wp_nil, wp_cons, wp_args, wp_call, wp_tst, wp_and, wp_or, wp_not, wp_andV, wp_orV, wp_notV, wp_ifE, wp_chain, wp_nx, wp_brk, wp_cnt, aft_nx, aft_rt, aft_bk, aft_ct, aft_xc, fin_rt, fin_nx, fin_xc, fin_bk, fin_ct, wp_gNm, wp_gTp, wp_gsNil, wp_gsCons, wp_gSub, wp_par, wp_par3, wp_i0, wp_iC, wp_addI, wp_addT, wp_mulI, wp_neg, wp_tup, wp_lst, sz0, sz1, sz2, sz3, sz4, sz5, sz6, sz7, sz8, wp_yes, wp_ixT, wp_ixL, wp_setL, wp_isi, tyN, isi_ii, isi_ib, isi_bi, isi_bb, isi_nb, isi_ni, isi_ns, isi_nt, isi_nl, isi_nd, isi_bs, isi_bt, isi_bl, isi_bd, isi_is, isi_it, isi_il, isi_id, isi_sb, isi_si, isi_ss, isi_st, isi_sl, isi_sd, isi_tb, isi_ti, isi_ts, isi_tt, isi_tl, isi_td, isi_lb, isi_li, isi_ls, isi_lt, isi_ll, isi_ld, isi_db, isi_di, isi_ds, isi_dt, isi_dl, isi_dd, wp_slice, wp_noPart, wp_part, asInt_int, wp_slT, wp_slL, wp_mulT, wp_src, wp_lc, wipeE, D.ref.injEq, D.tup.injEq, reduceCtorEq, false_and, exists_false, false_or, or_false, cpt2, cpt3, cpt4, cpt5, cpt6, cpt7, cpt8, cpt9, cpt10, cpt11, cpt12, cpt13, cpt14, cpt15, cpt16, cpt17, cpt18, cpt19, cpt20, cpt24, cpt30, cpt36, cpt40, cpt48, cpt50, cpt58, cpt59, cpt60, wp_extend, wp_revL, exists_and_left, wp_ML, wp_ML0, isLs_ref, wp_append, wp_pop, wp_tupleR, wp_tupleT, wp_listR, wp_listT, wp_all, wp_any, wp_sum, wp_notB, wp_isB, wp_isN, wp_notN, Option.isSome_some, wp_rng1, wp_rng2, wp_rng3, lsAt, lsO_lst, lsO_fro, lstO_lst, wp_lenR, lenO_lst, lenO_fro, lenO_dK, List.length_map, List.getElem?_cons_zero, List.getElem?_cons_succ, wp_dnew, wp_dget, wp_din, wp_dnin, wp_dg1, wp_dput, wp_dpop, wp_MD, isDk_ref, dkO_dK, keyD_int, keyD_str, wp_lrg1, wp_trg1, wp_MS, isStrB_str, wp_sindex, wp_isiT, wp_strI, wp_eqS, wp_neS, wp_eqI, wp_neI, wp_eqB, wp_neB, wp_abs, wp_intI, wp_intB, wp_max2, wp_min2, wp_lenT, wp_for, wp_ok, wp_bad, lp_nx, lp_ct, lp_bk, lp_rt, lp_xc, asBl_bl, at0, at1, at2, List.map_cons, List.map_nil, List.cons_append, List.nil_append, List.length_cons, List.length_nil, List.replicate, List.set_cons_zero, List.set_cons_succ, Nat.reduceAdd, Int.reduceToNat, Int.reducePow, Int.reduceNeg, Int.reduceMul, Int.reduceAdd, Int.reduceSub, Int.reduceMod, Int.reduceDiv, Int.reduceLT, Int.reduceLE, Int.zero_mul, Int.zero_add, Int.cast_ofNat_Int, Int.reduceBEq, Nat.reduceLeDiff, Nat.reduceEqDiff, true_and, and_true, Nat.reduceSub, if_true, Option.some.injEq, exists_eq_left', Bool.not_true, Bool.not_false, decide_eq_true_eq, Bool.false_eq_true, if_false, *])
local macro_rules | `(tactic| walk_at "ck1") => `(tactic| try simp only [wp_seq, wp_asg, wp_if, wp_ret, wp_retN, wp_drop, wp_fn, wp_var0, wp_varS, wp_mC, wp_m2, wp_m1, wp_nil, wp_cons, wp_args, wp_call, wp_tst, wp_and, wp_or, wp_not, wp_andV, wp_orV, wp_notV, wp_ifE, wp_chain, wp_nx, wp_brk, wp_cnt, aft_rt, aft_bk, aft_ct, aft_xc, fin_rt, fin_nx, fin_xc, fin_bk, fin_ct, wp_gNm, wp_gTp, wp_gsNil, wp_gsCons, wp_gSub, wp_par, wp_par3, wp_i0, wp_iC, wp_addI, wp_addT, wp_mulI, wp_neg, wp_tup, wp_lst, sz0, sz1, sz2, sz3, sz4, sz5, sz6, sz7, sz8, wp_yes, wp_ixT, wp_ixL, wp_setL, wp_isi, tyN, isi_ii, isi_ib, isi_bi, isi_bb, isi_nb, isi_ni, isi_ns, isi_nt, isi_nl, isi_nd, isi_bs, isi_bt, isi_bl, isi_bd, isi_is, isi_it, isi_il, isi_id, isi_sb, isi_si, isi_ss, isi_st, isi_sl, isi_sd, isi_tb, isi_ti, isi_ts, isi_tt, isi_tl, isi_td, isi_lb, isi_li, isi_ls, isi_lt, isi_ll, isi_ld, isi_db, isi_di, isi_ds, isi_dt, isi_dl, isi_dd, wp_slice, wp_noPart, wp_part, asInt_int, wp_slT, wp_slL, wp_mulT, wp_src, wp_lc, wipeE, D.ref.injEq, D.tup.injEq, reduceCtorEq, false_and, exists_false, false_or, or_false, cpt2, cpt3, cpt4, cpt5, cpt6, cpt7, cpt8, cpt9, cpt10, cpt11, cpt12, cpt13, cpt14, cpt15, cpt16, cpt17, cpt18, cpt19, cpt20, cpt24, cpt30, cpt36, cpt40, cpt48, cpt50, cpt58, cpt59, cpt60, wp_extend, wp_revL, exists_and_left, wp_ML, wp_ML0, isLs_ref, wp_append, wp_pop, wp_tupleR, wp_tupleT, wp_listR, wp_listT, wp_all, wp_any, wp_sum, wp_notB, wp_isB, wp_isN, wp_notN, Option.isSome_some, wp_rng1, wp_rng2, wp_rng3, lsAt, lsO_lst, lsO_fro, lstO_lst, wp_lenR, lenO_lst, lenO_fro, lenO_dK, List.length_map, List.getElem?_cons_zero, List.getElem?_cons_succ, wp_dnew, wp_dget, wp_din, wp_dnin, wp_dg1, wp_dput, wp_dpop, wp_MD, isDk_ref, dkO_dK, keyD_int, keyD_str, wp_lrg1, wp_trg1, wp_MS, isStrB_str, wp_sindex, wp_isiT, wp_strI, wp_eqS, wp_neS, wp_eqI, wp_neI, wp_eqB, wp_neB, wp_abs, wp_intI, wp_intB, wp_max2, wp_min2, wp_lenT, wp_for, wp_ok, wp_bad, lp_nx, lp_ct, lp_bk, lp_rt, lp_xc, asBl_bl, at0, at1, at2, List.map_cons, List.map_nil, List.cons_append, List.nil_append, List.length_cons, List.length_nil, List.replicate, List.set_cons_zero, List.set_cons_succ, Nat.reduceAdd, Int.reduceToNat, Int.reducePow, Int.reduceNeg, Int.reduceMul, Int.reduceAdd, Int.reduceSub, Int.reduceMod, Int.reduceDiv, Int.reduceLT, Int.reduceLE, Int.zero_mul, Int.zero_add, Int.cast_ofNat_Int, Int.reduceBEq, Nat.reduceLeDiff, Nat.reduceEqDiff, true_and, and_true, Nat.reduceSub, if_true, Option.some.injEq, exists_eq_left', Bool.not_true, Bool.not_false, decide_eq_true_eq, Bool.false_eq_true, if_false])
end Lib
end CK
end

section
set_option Elab.async false
set_option linter.all false
set_option exponentiation.threshold 100000
set_option maxRecDepth 100000
set_option maxHeartbeats 4000000
namespace CK
namespace Pv
namespace Lib
open PySem PySem.Spec PyProof.Rows L2
open CK.Lib
def wh : U → Bool | .int _ => true | _ => false
end Lib
end Pv
end CK
end

section
set_option Elab.async false
set_option linter.all false
set_option exponentiation.threshold 100000
set_option maxRecDepth 100000
set_option maxHeartbeats 4000000
namespace CK
namespace Pv
namespace Lib
open PySem PySem.Spec PyProof.Rows L2
open CK.Lib
local macro_rules | `(tactic| walk_at "pp") => `(tactic| try simp only [CK.Pv.px_bnd, CK.Pv.px_ret, CK.Pv.px_ite, CK.Pv.px_pbad, CK.Pv.px_getS, CK.Pv.px_putS, CK.Pv.px_some, CK.Pv.px_run, CK.Pv.px_lft, CK.Pv.px_fnP, CK.Pv.px_fnN, CK.Pv.fin_rt, CK.Pv.fin_nx, CK.Pv.finN_rt, CK.Pv.finN_nx, CK.Pv.px_bndO, CK.Pv.aft_nx, CK.Pv.aft_rt, CK.Pv.aft_bk, CK.Pv.aft_ct, CK.Pv.lp_nx, CK.Pv.lp_ct, CK.Pv.lp_bk, CK.Pv.lp_rt, CK.Pv.bndI_nx, CK.Pv.bndI_rt, CK.Pv.ret_bnd, CK.Pv.opt_ret, CK.Pv.lft_ret, CK.Pv.px_throw, CK.Pv.asB_bl, CK.Pv.add_int, CK.Pv.sub_int, CK.Pv.lt_int, CK.Pv.le_int, CK.Pv.gt_int, CK.Pv.ge_int, CK.Pv.neg_int, CK.Pv.abs_int, CK.Pv.int_int, CK.Pv.int_bl, CK.Pv.max_int, CK.Pv.min_int, CK.Pv.len_tup, CK.Pv.len_lst, CK.Pv.len_fz, CK.Pv.len_dk, CK.Pv.walk_tup, CK.Pv.walk_lst, CK.Pv.walk_fz, CK.Pv.ix_tup, CK.Pv.ix_lst, CK.Pv.ix_fz, CK.Pv.at_0, CK.Pv.at_1, CK.Pv.at_2, CK.Pv.at_3, CK.Pv.at_4, CK.Pv.is_non, CK.Pv.is_int, CK.Pv.is_tup, CK.Pv.is_lst, CK.Pv.is_bl, CK.Pv.not_non, CK.Pv.not_int, CK.Pv.not_tup, CK.Pv.not_lst, CK.Pv.not_bl, CK.Pv.t2_tup, CK.Pv.t3_tup, CK.Pv.t4_tup, CK.Pv.t5_tup, CK.Pv.s2_lst, CK.Pv.s2_tup, CK.Pv.lsG_lst, CK.Pv.look_lst, CK.Pv.clr_mu, CK.Pv.enum_lst, CK.Pv.enum_tup, CK.Pv.enum_tup, CK.Pv.zip_lst, CK.Pv.list_tup, CK.Pv.list_lst, CK.Pv.tuple_tup, CK.Pv.tuple_lst, CK.Pv.part_int, CK.Pv.cut_tup, CK.Pv.cut_lst, CK.Pv.cutL_lst, CK.Pv.rev_lst, CK.Pv.eq_int, CK.Pv.ne_int, CK.Pv.eq_bl, CK.Pv.ne_bl, CK.Pv.dk_int, CK.Pv.px_at, CK.Pv.px_mod, CK.Pv.px_div, CK.Pv.px_pow, CK.Pv.px_mul, CK.Pv.px_addT, CK.Pv.px_addL, CK.Pv.px_cat, CK.Pv.px_rep, CK.Pv.px_app, CK.Pv.px_ext, CK.Pv.px_ins, CK.Pv.px_rng1, CK.Pv.px_rng2, CK.Pv.px_put, CK.Pv.px_rgL, decide_eq_true_eq, Bool.false_eq_true, Bool.true_eq_false, if_true, if_false, Bool.not_true, Bool.not_false, beq_self_eq_true, Option.isSome_some, Option.isSome_none, Option.some.injEq, exists_eq_left', decide_true, decide_false, Bool.not_eq_true', Int.reduceToNat, Int.reducePow, Int.reduceSub, Int.reduceAdd, Int.reduceMul, Int.reduceNeg, List.length_cons, List.length_nil])
local macro_rules | `(tactic| walk_at "pt") => `(tactic| try simp only [CK.Pv.px_bnd, CK.Pv.px_ret, CK.Pv.px_ite, CK.Pv.px_pbad, CK.Pv.px_getS, CK.Pv.px_putS, CK.Pv.px_some, CK.Pv.px_run, CK.Pv.px_lft, CK.Pv.px_fnP, CK.Pv.px_fnN, CK.Pv.fin_rt, CK.Pv.fin_nx, CK.Pv.finN_rt, CK.Pv.finN_nx, CK.Pv.px_bndO, CK.Pv.aft_nx, CK.Pv.aft_rt, CK.Pv.aft_bk, CK.Pv.aft_ct, CK.Pv.lp_nx, CK.Pv.lp_ct, CK.Pv.lp_bk, CK.Pv.lp_rt, CK.Pv.bndI_nx, CK.Pv.bndI_rt, CK.Pv.ret_bnd, CK.Pv.opt_ret, CK.Pv.lft_ret, CK.Pv.px_throw, CK.Pv.asB_bl, CK.Pv.add_int, CK.Pv.sub_int, CK.Pv.lt_int, CK.Pv.le_int, CK.Pv.gt_int, CK.Pv.ge_int, CK.Pv.neg_int, CK.Pv.abs_int, CK.Pv.int_int, CK.Pv.int_bl, CK.Pv.max_int, CK.Pv.min_int, CK.Pv.len_tup, CK.Pv.len_lst, CK.Pv.len_fz, CK.Pv.len_dk, CK.Pv.walk_tup, CK.Pv.walk_lst, CK.Pv.walk_fz, CK.Pv.ix_tup, CK.Pv.ix_lst, CK.Pv.ix_fz, CK.Pv.at_0, CK.Pv.at_1, CK.Pv.at_2, CK.Pv.at_3, CK.Pv.at_4, CK.Pv.is_non, CK.Pv.is_int, CK.Pv.is_tup, CK.Pv.is_lst, CK.Pv.is_bl, CK.Pv.not_non, CK.Pv.not_int, CK.Pv.not_tup, CK.Pv.not_lst, CK.Pv.not_bl, CK.Pv.t2_tup, CK.Pv.t3_tup, CK.Pv.t4_tup, CK.Pv.t5_tup, CK.Pv.s2_lst, CK.Pv.s2_tup, CK.Pv.lsG_lst, CK.Pv.look_lst, CK.Pv.clr_mu, CK.Pv.enum_lst, CK.Pv.enum_tup, CK.Pv.enum_tup, CK.Pv.zip_lst, CK.Pv.list_tup, CK.Pv.list_lst, CK.Pv.tuple_tup, CK.Pv.tuple_lst, CK.Pv.part_int, CK.Pv.cut_tup, CK.Pv.cut_lst, CK.Pv.cutL_lst, CK.Pv.rev_lst, CK.Pv.eq_int, CK.Pv.ne_int, CK.Pv.eq_bl, CK.Pv.ne_bl, CK.Pv.dk_int, CK.Pv.px_at, CK.Pv.px_mod, CK.Pv.px_div, CK.Pv.px_pow, CK.Pv.px_mul, CK.Pv.px_addT, CK.Pv.px_addL, CK.Pv.px_cat, CK.Pv.px_rep, CK.Pv.px_app, CK.Pv.px_ext, CK.Pv.px_ins, CK.Pv.px_rng1, CK.Pv.px_rng2, CK.Pv.px_put, CK.Pv.px_rgL, decide_eq_true_eq, Bool.false_eq_true, Bool.true_eq_false, if_true, if_false, Bool.not_true, Bool.not_false, beq_self_eq_true, Option.isSome_some, Option.isSome_none, Option.some.injEq, exists_eq_left', decide_true, decide_false, Bool.not_eq_true', Int.reduceToNat, Int.reducePow, Int.reduceSub, Int.reduceAdd, Int.reduceMul, Int.reduceNeg, List.length_cons, List.length_nil, CK.Pv.Lib.cu_0, CK.Pv.Lib.cu_1, CK.Pv.Lib.cu_2, CK.Pv.Lib.t3_cu, CK.Pv.Lib.t3_n, CK.Pv.Lib.ix_n0, CK.Pv.Lib.ix_n1, CK.Pv.Lib.ix_n2, CK.Pv.Lib.is_cu, CK.Pv.Lib.not_cu, CK.Pv.Lib.eq_nilC, CK.Pv.Lib.ne_nilC])
end Lib
end Pv
end CK
end

section
set_option Elab.async false
set_option linter.all false
set_option exponentiation.threshold 100000
set_option maxRecDepth 100000
set_option maxHeartbeats 4000000
namespace CK
namespace Pv
namespace Lib
open PySem PySem.Spec PyProof.Rows L2
open CK.Lib

inductive DatB (B : Nat) : Nat → U → Prop
  | non {n : Nat} : DatB B (n + 1) .non
  | bl {n : Nat} (b : Bool) : DatB B (n + 1) (.bl b)
  | int {n : Nat} (i : Int) (h : i.natAbs < 2 ^ B) : DatB B (n + 1) (.int i)
  | str {n : Nat} {x : Str} (h : PyData.canLay0 (.str x) = true) : DatB B (n + 1) (.str x)
  | tup {n : Nat} {xs : List U} (hl : xs.length ≤ 1000) (h : ∀ x ∈ xs, DatB B n x) : DatB B (n + 1) (.tup xs)
  | lst {n : Nat} {xs : List U} (hl : xs.length ≤ 1000) (h : ∀ x ∈ xs, DatB B n x) : DatB B (n + 1) (.lst xs)
theorem DatB.mono {B : Nat} : ∀ {n m : Nat} {u : U}, DatB B n u → n ≤ m → DatB B m u
  | _, 0, _, h, hm => by cases h <;> omega
  | _, m + 1, _, .non, _ => .non
  | _, m + 1, _, .bl b, _ => .bl b
  | _, m + 1, _, .int i h, _ => .int i h
  | _, m + 1, _, .str h, _ => .str h
  | _, m + 1, _, .tup hl h, hm => .tup hl fun x hx => (h x hx).mono (by omega)
  | _, m + 1, _, .lst hl h, hm => .lst hl fun x hx => (h x hx).mono (by omega)
theorem DatB.up {B C : Nat} (hc : B ≤ C) : ∀ {n : Nat} {u : U}, DatB B n u → DatB C n u
  | _, _, .non => .non
  | _, _, .bl b => .bl b
  | _, _, .int i h => .int i (Nat.lt_of_lt_of_le h (Nat.pow_le_pow_right (by decide) hc))
  | _, _, .str h => .str h
  | _, _, .tup hl h => .tup hl fun x hx => (h x hx).up hc
  | _, _, .lst hl h => .lst hl fun x hx => (h x hx).up hc
theorem eqvAll_self : ∀ {ps : List PyData}, (∀ p ∈ ps, PyData.eqv p p = true) → PyData.eqvAll ps ps = true
  | [], _ => by simp [PyData.eqvAll]
  | p :: ps, h => by simp only [PyData.eqvAll, Bool.and_eq_true]; exact ⟨h p (by simp), eqvAll_self fun q hq => h q (by simp [hq])⟩
theorem optAll_self {f : U → Option PyData} : ∀ {xs : List U}, (∀ x ∈ xs, ∃ p, f x = some p ∧ PyData.eqv p p = true) → ∃ ps, optAll f xs = some ps ∧ ∀ p ∈ ps, PyData.eqv p p = true
  | [], _ => ⟨[], rfl, fun p hp => by cases hp⟩
  | x :: xs, h => by
    obtain ⟨y, hy, ey⟩ := h x (by simp)
    obtain ⟨ys, hys, e2⟩ := optAll_self (xs := xs) fun z hz => h z (by simp [hz])
    refine ⟨y :: ys, by unfold optAll; rw [hy, hys], fun p hp => ?_⟩
    rcases List.mem_cons.mp hp with rfl | hp
    · exact ey
    · exact e2 p hp
theorem DatB.py {B : Nat} : ∀ {n m : Nat} {u : U}, DatB B n u → n ≤ m → ∃ p, pyU m u = some p ∧ PyData.eqv p p = true
  | _, 0, _, h, hm => by cases h <;> omega
  | _, m + 1, _, .non, _ => ⟨_, rfl, by simp [PyData.eqv]⟩
  | _, m + 1, _, .bl b, _ => ⟨_, rfl, by simp [PyData.eqv]⟩
  | _, m + 1, _, .int i h, _ => ⟨_, rfl, by simp [PyData.eqv]⟩
  | _, m + 1, _, .str h, _ => ⟨_, by unfold pyU; simp only [h, if_true]; rfl, by simp [PyData.eqv]⟩
  | _, m + 1, _, .tup hl h, hm => by
    obtain ⟨ys, hys, e⟩ := optAll_self (f := pyU m) fun x hx => (h x hx).py (m := m) (by omega)
    exact ⟨.tuple ys, by unfold pyU; simp only [hys]; rfl, by rw [PyData.eqv]; exact eqvAll_self e⟩
  | _, m + 1, _, .lst hl h, hm => by
    obtain ⟨ys, hys, e⟩ := optAll_self (f := pyU m) fun x hx => (h x hx).py (m := m) (by omega)
    exact ⟨.list ys, by unfold pyU; simp only [hys]; rfl, by rw [PyData.eqv]; exact eqvAll_self e⟩
end Lib
end Pv
end CK
end

section
set_option Elab.async false
set_option linter.all false
set_option maxRecDepth 100000
set_option maxHeartbeats 4000000
namespace CK
namespace Lib
open PySem PySem.Spec PyProof.Rows L2
local macro_rules | `(tactic| walk_at "ck") => `(tactic| try simp only [wp_seq, wp_asg, wp_if, wp_ret, wp_retN, wp_drop, wp_fn, wp_var0, wp_varS, wp_mC, wp_m2, wp_m1, wp_nil, wp_cons, wp_args, wp_call, wp_tst, wp_and, wp_or, wp_not, wp_andV, wp_orV, wp_notV, wp_ifE, wp_chain, wp_nx, wp_brk, wp_cnt, aft_nx, aft_rt, aft_bk, aft_ct, aft_xc, fin_rt, fin_nx, fin_xc, fin_bk, fin_ct, wp_gNm, wp_gTp, wp_gsNil, wp_gsCons, wp_gSub, wp_par, wp_par3, wp_i0, wp_iC, wp_addI, wp_addT, wp_mulI, wp_neg, wp_tup, wp_lst, sz0, sz1, sz2, sz3, sz4, sz5, sz6, sz7, sz8, wp_yes, wp_ixT, wp_ixL, wp_setL, wp_isi, tyN, isi_ii, isi_ib, isi_bi, isi_bb, isi_nb, isi_ni, isi_ns, isi_nt, isi_nl, isi_nd, isi_bs, isi_bt, isi_bl, isi_bd, isi_is, isi_it, isi_il, isi_id, isi_sb, isi_si, isi_ss, isi_st, isi_sl, isi_sd, isi_tb, isi_ti, isi_ts, isi_tt, isi_tl, isi_td, isi_lb, isi_li, isi_ls, isi_lt, isi_ll, isi_ld, isi_db, isi_di, isi_ds, isi_dt, isi_dl, isi_dd, wp_slice, wp_noPart, wp_part, asInt_int, wp_slT, wp_slL, wp_mulT, wp_src, wp_lc, wipeE, D.ref.injEq, D.tup.injEq, reduceCtorEq, false_and, exists_false, false_or, or_false, cpt2, cpt3, cpt4, cpt5, cpt6, cpt7, cpt8, cpt9, cpt10, cpt11, cpt12, cpt13, cpt14, cpt15, cpt16, cpt17, cpt18, cpt19, cpt20, cpt24, cpt30, cpt36, cpt40, cpt48, cpt50, cpt58, cpt59, cpt60, wp_extend, wp_revL, exists_and_left, wp_ML, wp_ML0, isLs_ref, wp_append, wp_pop, wp_tupleR, wp_tupleT, wp_listR, wp_listT, wp_all, wp_any, wp_sum, wp_notB, wp_isB, wp_isN, wp_notN, Option.isSome_some, wp_rng1, wp_rng2, wp_rng3, lsAt, lsO_lst, lsO_fro, lstO_lst, wp_lenR, lenO_lst, lenO_fro, lenO_dK, List.length_map, List.getElem?_cons_zero, List.getElem?_cons_succ, wp_dnew, wp_dget, wp_din, wp_dnin, wp_dg1, wp_dput, wp_dpop, wp_MD, isDk_ref, dkO_dK, keyD_int, keyD_str, wp_lrg1, wp_trg1, wp_MS, isStrB_str, wp_sindex, wp_isiT, wp_strI, wp_eqS, wp_neS, wp_eqI, wp_neI, wp_eqB, wp_neB, wp_abs, wp_intI, wp_intB, wp_max2, wp_min2, wp_lenT, wp_for, wp_ok, wp_bad, lp_nx, lp_ct, lp_bk, lp_rt, lp_xc, asBl_bl, at0, at1, at2, List.map_cons, List.map_nil, List.cons_append, List.nil_append, List.length_cons, List.length_nil, List.replicate, List.set_cons_zero, List.set_cons_succ, Nat.reduceAdd, Int.reduceToNat, Int.reducePow, Int.reduceNeg, Int.reduceMul, Int.reduceAdd, Int.reduceSub, Int.reduceMod, Int.reduceDiv, Int.reduceLT, Int.reduceLE, Int.zero_mul, Int.zero_add, Int.cast_ofNat_Int, Int.reduceBEq, Nat.reduceLeDiff, Nat.reduceEqDiff, true_and, and_true, Nat.reduceSub, if_true, Option.some.injEq, exists_eq_left', Bool.not_true, Bool.not_false, decide_eq_true_eq, Bool.false_eq_true, if_false])
local macro_rules | `(tactic| walk_at "cks") => `(tactic| try simp only [wp_seq, wp_asg, wp_if, wp_ret, wp_retN, wp_drop, wp_fn, wp_var0, wp_varS, wp_mC, wp_m2, wp_m1, wp_nil, wp_cons, wp_args, wp_call, wp_tst, wp_and, wp_or, wp_not, wp_andV, wp_orV, wp_notV, wp_ifE, wp_chain, wp_nx, wp_brk, wp_cnt, aft_nx, aft_rt, aft_bk, aft_ct, aft_xc, fin_rt, fin_nx, fin_xc, fin_bk, fin_ct, wp_gNm, wp_gTp, wp_gsNil, wp_gsCons, wp_gSub, wp_par, wp_par3, wp_i0, wp_iC, wp_addI, wp_addT, wp_mulI, wp_neg, wp_tup, wp_lst, sz0, sz1, sz2, sz3, sz4, sz5, sz6, sz7, sz8, wp_yes, wp_ixT, wp_ixL, wp_setL, wp_isi, tyN, isi_ii, isi_ib, isi_bi, isi_bb, isi_nb, isi_ni, isi_ns, isi_nt, isi_nl, isi_nd, isi_bs, isi_bt, isi_bl, isi_bd, isi_is, isi_it, isi_il, isi_id, isi_sb, isi_si, isi_ss, isi_st, isi_sl, isi_sd, isi_tb, isi_ti, isi_ts, isi_tt, isi_tl, isi_td, isi_lb, isi_li, isi_ls, isi_lt, isi_ll, isi_ld, isi_db, isi_di, isi_ds, isi_dt, isi_dl, isi_dd, wp_slice, wp_noPart, wp_part, asInt_int, wp_slT, wp_slL, wp_mulT, wp_src, wp_lc, wipeE, D.ref.injEq, D.tup.injEq, reduceCtorEq, false_and, exists_false, false_or, or_false, cpt2, cpt3, cpt4, cpt5, cpt6, cpt7, cpt8, cpt9, cpt10, cpt11, cpt12, cpt13, cpt14, cpt15, cpt16, cpt17, cpt18, cpt19, cpt20, cpt24, cpt30, cpt36, cpt40, cpt48, cpt50, cpt58, cpt59, cpt60, wp_extend, wp_revL, exists_and_left, wp_ML, wp_ML0, isLs_ref, wp_append, wp_pop, wp_tupleR, wp_tupleT, wp_listR, wp_listT, wp_all, wp_any, wp_sum, wp_notB, wp_isB, wp_isN, wp_notN, Option.isSome_some, wp_rng1, wp_rng2, wp_rng3, lsAt, lsO_lst, lsO_fro, lstO_lst, wp_lenR, lenO_lst, lenO_fro, lenO_dK, List.length_map, List.getElem?_cons_zero, List.getElem?_cons_succ, wp_dnew, wp_dget, wp_din, wp_dnin, wp_dg1, wp_dput, wp_dpop, wp_MD, isDk_ref, dkO_dK, keyD_int, keyD_str, wp_lrg1, wp_trg1, wp_MS, isStrB_str, wp_sindex, wp_isiT, wp_strI, wp_eqS, wp_neS, wp_eqI, wp_neI, wp_eqB, wp_neB, wp_abs, wp_intI, wp_intB, wp_max2, wp_min2, wp_lenT, wp_for, wp_ok, wp_bad, lp_nx, lp_ct, lp_bk, lp_rt, lp_xc, asBl_bl, at0, at1, at2, List.map_cons, List.map_nil, List.cons_append, List.nil_append, List.length_cons, List.length_nil, List.replicate, List.set_cons_zero, List.set_cons_succ, Nat.reduceAdd, Int.reduceToNat, Int.reducePow, Int.reduceNeg, Int.reduceMul, Int.reduceAdd, Int.reduceSub, Int.reduceMod, Int.reduceDiv, Int.reduceLT, Int.reduceLE, Int.zero_mul, Int.zero_add, Int.cast_ofNat_Int, Int.reduceBEq, Nat.reduceLeDiff, Nat.reduceEqDiff, true_and, and_true, Nat.reduceSub, if_true, Option.some.injEq, exists_eq_left', Bool.not_true, Bool.not_false, decide_eq_true_eq, Bool.false_eq_true, if_false, *])
local macro_rules | `(tactic| walk_at "ck1") => `(tactic| try simp only [wp_seq, wp_asg, wp_if, wp_ret, wp_retN, wp_drop, wp_fn, wp_var0, wp_varS, wp_mC, wp_m2, wp_m1, wp_nil, wp_cons, wp_args, wp_call, wp_tst, wp_and, wp_or, wp_not, wp_andV, wp_orV, wp_notV, wp_ifE, wp_chain, wp_nx, wp_brk, wp_cnt, aft_rt, aft_bk, aft_ct, aft_xc, fin_rt, fin_nx, fin_xc, fin_bk, fin_ct, wp_gNm, wp_gTp, wp_gsNil, wp_gsCons, wp_gSub, wp_par, wp_par3, wp_i0, wp_iC, wp_addI, wp_addT, wp_mulI, wp_neg, wp_tup, wp_lst, sz0, sz1, sz2, sz3, sz4, sz5, sz6, sz7, sz8, wp_yes, wp_ixT, wp_ixL, wp_setL, wp_isi, tyN, isi_ii, isi_ib, isi_bi, isi_bb, isi_nb, isi_ni, isi_ns, isi_nt, isi_nl, isi_nd, isi_bs, isi_bt, isi_bl, isi_bd, isi_is, isi_it, isi_il, isi_id, isi_sb, isi_si, isi_ss, isi_st, isi_sl, isi_sd, isi_tb, isi_ti, isi_ts, isi_tt, isi_tl, isi_td, isi_lb, isi_li, isi_ls, isi_lt, isi_ll, isi_ld, isi_db, isi_di, isi_ds, isi_dt, isi_dl, isi_dd, wp_slice, wp_noPart, wp_part, asInt_int, wp_slT, wp_slL, wp_mulT, wp_src, wp_lc, wipeE, D.ref.injEq, D.tup.injEq, reduceCtorEq, false_and, exists_false, false_or, or_false, cpt2, cpt3, cpt4, cpt5, cpt6, cpt7, cpt8, cpt9, cpt10, cpt11, cpt12, cpt13, cpt14, cpt15, cpt16, cpt17, cpt18, cpt19, cpt20, cpt24, cpt30, cpt36, cpt40, cpt48, cpt50, cpt58, cpt59, cpt60, wp_extend, wp_revL, exists_and_left, wp_ML, wp_ML0, isLs_ref, wp_append, wp_pop, wp_tupleR, wp_tupleT, wp_listR, wp_listT, wp_all, wp_any, wp_sum, wp_notB, wp_isB, wp_isN, wp_notN, Option.isSome_some, wp_rng1, wp_rng2, wp_rng3, lsAt, lsO_lst, lsO_fro, lstO_lst, wp_lenR, lenO_lst, lenO_fro, lenO_dK, List.length_map, List.getElem?_cons_zero, List.getElem?_cons_succ, wp_dnew, wp_dget, wp_din, wp_dnin, wp_dg1, wp_dput, wp_dpop, wp_MD, isDk_ref, dkO_dK, keyD_int, keyD_str, wp_lrg1, wp_trg1, wp_MS, isStrB_str, wp_sindex, wp_isiT, wp_strI, wp_eqS, wp_neS, wp_eqI, wp_neI, wp_eqB, wp_neB, wp_abs, wp_intI, wp_intB, wp_max2, wp_min2, wp_lenT, wp_for, wp_ok, wp_bad, lp_nx, lp_ct, lp_bk, lp_rt, lp_xc, asBl_bl, at0, at1, at2, List.map_cons, List.map_nil, List.cons_append, List.nil_append, List.length_cons, List.length_nil, List.replicate, List.set_cons_zero, List.set_cons_succ, Nat.reduceAdd, Int.reduceToNat, Int.reducePow, Int.reduceNeg, Int.reduceMul, Int.reduceAdd, Int.reduceSub, Int.reduceMod, Int.reduceDiv, Int.reduceLT, Int.reduceLE, Int.zero_mul, Int.zero_add, Int.cast_ofNat_Int, Int.reduceBEq, Nat.reduceLeDiff, Nat.reduceEqDiff, true_and, and_true, Nat.reduceSub, if_true, Option.some.injEq, exists_eq_left', Bool.not_true, Bool.not_false, decide_eq_true_eq, Bool.false_eq_true, if_false])
end Lib
end CK
end

section
set_option Elab.async false
set_option linter.all false
set_option maxRecDepth 100000
set_option maxHeartbeats 4000000
namespace CK
namespace Lib
open PySem PySem.Spec PyProof.Rows L2
local macro_rules | `(tactic| walk_at "ck") => `(tactic| try simp only [wp_seq, wp_asg, wp_if, wp_ret, wp_retN, wp_drop, wp_fn, wp_var0, wp_varS, wp_mC, wp_m2, wp_m1, wp_nil, wp_cons, wp_args, wp_call, wp_tst, wp_and, wp_or, wp_not, wp_andV, wp_orV, wp_notV, wp_ifE, wp_chain, wp_nx, wp_brk, wp_cnt, aft_nx, aft_rt, aft_bk, aft_ct, aft_xc, fin_rt, fin_nx, fin_xc, fin_bk, fin_ct, wp_gNm, wp_gTp, wp_gsNil, wp_gsCons, wp_gSub, wp_par, wp_par3, wp_i0, wp_iC, wp_addI, wp_addT, wp_mulI, wp_neg, wp_tup, wp_lst, sz0, sz1, sz2, sz3, sz4, sz5, sz6, sz7, sz8, wp_yes, wp_ixT, wp_ixL, wp_setL, wp_isi, tyN, isi_ii, isi_ib, isi_bi, isi_bb, isi_nb, isi_ni, isi_ns, isi_nt, isi_nl, isi_nd, isi_bs, isi_bt, isi_bl, isi_bd, isi_is, isi_it, isi_il, isi_id, isi_sb, isi_si, isi_ss, isi_st, isi_sl, isi_sd, isi_tb, isi_ti, isi_ts, isi_tt, isi_tl, isi_td, isi_lb, isi_li, isi_ls, isi_lt, isi_ll, isi_ld, isi_db, isi_di, isi_ds, isi_dt, isi_dl, isi_dd, wp_slice, wp_noPart, wp_part, asInt_int, wp_slT, wp_slL, wp_mulT, wp_src, wp_lc, wipeE, D.ref.injEq, D.tup.injEq, reduceCtorEq, false_and, exists_false, false_or, or_false, cpt2, cpt3, cpt4, cpt5, cpt6, cpt7, cpt8, cpt9, cpt10, cpt11, cpt12, cpt13, cpt14, cpt15, cpt16, cpt17, cpt18, cpt19, cpt20, cpt24, cpt30, cpt36, cpt40, cpt48, cpt50, cpt58, cpt59, cpt60, wp_extend, wp_revL, exists_and_left, wp_ML, wp_ML0, isLs_ref, wp_append, wp_pop, wp_tupleR, wp_tupleT, wp_listR, wp_listT, wp_all, wp_any, wp_sum, wp_notB, wp_isB, wp_isN, wp_notN, Option.isSome_some, wp_rng1, wp_rng2, wp_rng3, lsAt, lsO_lst, lsO_fro, lstO_lst, wp_lenR, lenO_lst, lenO_fro, lenO_dK, List.length_map, List.getElem?_cons_zero, List.getElem?_cons_succ, wp_dnew, wp_dget, wp_din, wp_dnin, wp_dg1, wp_dput, wp_dpop, wp_MD, isDk_ref, dkO_dK, keyD_int, keyD_str, wp_lrg1, wp_trg1, wp_MS, isStrB_str, wp_sindex, wp_isiT, wp_strI, wp_eqS, wp_neS, wp_eqI, wp_neI, wp_eqB, wp_neB, wp_abs, wp_intI, wp_intB, wp_max2, wp_min2, wp_lenT, wp_for, wp_ok, wp_bad, lp_nx, lp_ct, lp_bk, lp_rt, lp_xc, asBl_bl, at0, at1, at2, List.map_cons, List.map_nil, List.cons_append, List.nil_append, List.length_cons, List.length_nil, List.replicate, List.set_cons_zero, List.set_cons_succ, Nat.reduceAdd, Int.reduceToNat, Int.reducePow, Int.reduceNeg, Int.reduceMul, Int.reduceAdd, Int.reduceSub, Int.reduceMod, Int.reduceDiv, Int.reduceLT, Int.reduceLE, Int.zero_mul, Int.zero_add, Int.cast_ofNat_Int, Int.reduceBEq, Nat.reduceLeDiff, Nat.reduceEqDiff, true_and, and_true, Nat.reduceSub, if_true, Option.some.injEq, exists_eq_left', Bool.not_true, Bool.not_false, decide_eq_true_eq, Bool.false_eq_true, if_false])
local macro_rules | `(tactic| walk_at "cks") => `(tactic| try simp only [wp_seq, wp_asg, wp_if, wp_ret, wp_retN, wp_drop, wp_fn, wp_var0, wp_varS, wp_mC, wp_m2, wp_m1, wp_nil, wp_cons, wp_args, wp_call, wp_tst, wp_and, wp_or, wp_not, wp_andV, wp_orV, wp_notV, wp_ifE, wp_chain, wp_nx, wp_brk, wp_cnt, aft_nx, aft_rt, aft_bk, aft_ct, aft_xc, fin_rt, fin_nx, fin_xc, fin_bk, fin_ct, wp_gNm, wp_gTp, wp_gsNil, wp_gsCons, wp_gSub, wp_par, wp_par3, wp_i0, wp_iC, wp_addI, wp_addT, wp_mulI, wp_neg, wp_tup, wp_lst, sz0, sz1, sz2, sz3, sz4, sz5, sz6, sz7, sz8, wp_yes, wp_ixT, wp_ixL, wp_setL, wp_isi, tyN, isi_ii, isi_ib, isi_bi, isi_bb, isi_nb, isi_ni, isi_ns, isi_nt, isi_nl, isi_nd, isi_bs, isi_bt, isi_bl, isi_bd, isi_is, isi_it, isi_il, isi_id, isi_sb, isi_si, isi_ss, isi_st, isi_sl, isi_sd, isi_tb, isi_ti, isi_ts, isi_tt, isi_tl, isi_td, isi_lb, isi_li, isi_ls, isi_lt, isi_ll, isi_ld, isi_db, isi_di, isi_ds, isi_dt, isi_dl, isi_dd, wp_slice, wp_noPart, wp_part, asInt_int, wp_slT, wp_slL, wp_mulT, wp_src, wp_lc, wipeE, D.ref.injEq, D.tup.injEq, reduceCtorEq, false_and, exists_false, false_or, or_false, cpt2, cpt3, cpt4, cpt5, cpt6, cpt7, cpt8, cpt9, cpt10, cpt11, cpt12, cpt13, cpt14, cpt15, cpt16, cpt17, cpt18, cpt19, cpt20, cpt24, cpt30, cpt36, cpt40, cpt48, cpt50, cpt58, cpt59, cpt60, wp_extend, wp_revL, exists_and_left, wp_ML, wp_ML0, isLs_ref, wp_append, wp_pop, wp_tupleR, wp_tupleT, wp_listR, wp_listT, wp_all, wp_any, wp_sum, wp_notB, wp_isB, wp_isN, wp_notN, Option.isSome_some, wp_rng1, wp_rng2, wp_rng3, lsAt, lsO_lst, lsO_fro, lstO_lst, wp_lenR, lenO_lst, lenO_fro, lenO_dK, List.length_map, List.getElem?_cons_zero, List.getElem?_cons_succ, wp_dnew, wp_dget, wp_din, wp_dnin, wp_dg1, wp_dput, wp_dpop, wp_MD, isDk_ref, dkO_dK, keyD_int, keyD_str, wp_lrg1, wp_trg1, wp_MS, isStrB_str, wp_sindex, wp_isiT, wp_strI, wp_eqS, wp_neS, wp_eqI, wp_neI, wp_eqB, wp_neB, wp_abs, wp_intI, wp_intB, wp_max2, wp_min2, wp_lenT, wp_for, wp_ok, wp_bad, lp_nx, lp_ct, lp_bk, lp_rt, lp_xc, asBl_bl, at0, at1, at2, List.map_cons, List.map_nil, List.cons_append, List.nil_append, List.length_cons, List.length_nil, List.replicate, List.set_cons_zero, List.set_cons_succ, Nat.reduceAdd, Int.reduceToNat, Int.reducePow, Int.reduceNeg, Int.reduceMul, Int.reduceAdd, Int.reduceSub, Int.reduceMod, Int.reduceDiv, Int.reduceLT, Int.reduceLE, Int.zero_mul, Int.zero_add, Int.cast_ofNat_Int, Int.reduceBEq, Nat.reduceLeDiff, Nat.reduceEqDiff, true_and, and_true, Nat.reduceSub, if_true, Option.some.injEq, exists_eq_left', Bool.not_true, Bool.not_false, decide_eq_true_eq, Bool.false_eq_true, if_false, *])
local macro_rules | `(tactic| walk_at "ck1") => `(tactic| try simp only [wp_seq, wp_asg, wp_if, wp_ret, wp_retN, wp_drop, wp_fn, wp_var0, wp_varS, wp_mC, wp_m2, wp_m1, wp_nil, wp_cons, wp_args, wp_call, wp_tst, wp_and, wp_or, wp_not, wp_andV, wp_orV, wp_notV, wp_ifE, wp_chain, wp_nx, wp_brk, wp_cnt, aft_rt, aft_bk, aft_ct, aft_xc, fin_rt, fin_nx, fin_xc, fin_bk, fin_ct, wp_gNm, wp_gTp, wp_gsNil, wp_gsCons, wp_gSub, wp_par, wp_par3, wp_i0, wp_iC, wp_addI, wp_addT, wp_mulI, wp_neg, wp_tup, wp_lst, sz0, sz1, sz2, sz3, sz4, sz5, sz6, sz7, sz8, wp_yes, wp_ixT, wp_ixL, wp_setL, wp_isi, tyN, isi_ii, isi_ib, isi_bi, isi_bb, isi_nb, isi_ni, isi_ns, isi_nt, isi_nl, isi_nd, isi_bs, isi_bt, isi_bl, isi_bd, isi_is, isi_it, isi_il, isi_id, isi_sb, isi_si, isi_ss, isi_st, isi_sl, isi_sd, isi_tb, isi_ti, isi_ts, isi_tt, isi_tl, isi_td, isi_lb, isi_li, isi_ls, isi_lt, isi_ll, isi_ld, isi_db, isi_di, isi_ds, isi_dt, isi_dl, isi_dd, wp_slice, wp_noPart, wp_part, asInt_int, wp_slT, wp_slL, wp_mulT, wp_src, wp_lc, wipeE, D.ref.injEq, D.tup.injEq, reduceCtorEq, false_and, exists_false, false_or, or_false, cpt2, cpt3, cpt4, cpt5, cpt6, cpt7, cpt8, cpt9, cpt10, cpt11, cpt12, cpt13, cpt14, cpt15, cpt16, cpt17, cpt18, cpt19, cpt20, cpt24, cpt30, cpt36, cpt40, cpt48, cpt50, cpt58, cpt59, cpt60, wp_extend, wp_revL, exists_and_left, wp_ML, wp_ML0, isLs_ref, wp_append, wp_pop, wp_tupleR, wp_tupleT, wp_listR, wp_listT, wp_all, wp_any, wp_sum, wp_notB, wp_isB, wp_isN, wp_notN, Option.isSome_some, wp_rng1, wp_rng2, wp_rng3, lsAt, lsO_lst, lsO_fro, lstO_lst, wp_lenR, lenO_lst, lenO_fro, lenO_dK, List.length_map, List.getElem?_cons_zero, List.getElem?_cons_succ, wp_dnew, wp_dget, wp_din, wp_dnin, wp_dg1, wp_dput, wp_dpop, wp_MD, isDk_ref, dkO_dK, keyD_int, keyD_str, wp_lrg1, wp_trg1, wp_MS, isStrB_str, wp_sindex, wp_isiT, wp_strI, wp_eqS, wp_neS, wp_eqI, wp_neI, wp_eqB, wp_neB, wp_abs, wp_intI, wp_intB, wp_max2, wp_min2, wp_lenT, wp_for, wp_ok, wp_bad, lp_nx, lp_ct, lp_bk, lp_rt, lp_xc, asBl_bl, at0, at1, at2, List.map_cons, List.map_nil, List.cons_append, List.nil_append, List.length_cons, List.length_nil, List.replicate, List.set_cons_zero, List.set_cons_succ, Nat.reduceAdd, Int.reduceToNat, Int.reducePow, Int.reduceNeg, Int.reduceMul, Int.reduceAdd, Int.reduceSub, Int.reduceMod, Int.reduceDiv, Int.reduceLT, Int.reduceLE, Int.zero_mul, Int.zero_add, Int.cast_ofNat_Int, Int.reduceBEq, Nat.reduceLeDiff, Nat.reduceEqDiff, true_and, and_true, Nat.reduceSub, if_true, Option.some.injEq, exists_eq_left', Bool.not_true, Bool.not_false, decide_eq_true_eq, Bool.false_eq_true, if_false])
end Lib
end CK
end

section
set_option Elab.async false
set_option linter.all false
set_option exponentiation.threshold 100000
set_option maxRecDepth 100000
set_option maxHeartbeats 4000000
namespace CK
namespace Pv
namespace Lib
open PySem PySem.Spec PyProof.Rows L2
open CK.Lib
local macro_rules | `(tactic| walk_at "pp") => `(tactic| try simp only [CK.Pv.px_bnd, CK.Pv.px_ret, CK.Pv.px_ite, CK.Pv.px_pbad, CK.Pv.px_getS, CK.Pv.px_putS, CK.Pv.px_some, CK.Pv.px_run, CK.Pv.px_lft, CK.Pv.px_fnP, CK.Pv.px_fnN, CK.Pv.fin_rt, CK.Pv.fin_nx, CK.Pv.finN_rt, CK.Pv.finN_nx, CK.Pv.px_bndO, CK.Pv.aft_nx, CK.Pv.aft_rt, CK.Pv.aft_bk, CK.Pv.aft_ct, CK.Pv.lp_nx, CK.Pv.lp_ct, CK.Pv.lp_bk, CK.Pv.lp_rt, CK.Pv.bndI_nx, CK.Pv.bndI_rt, CK.Pv.ret_bnd, CK.Pv.opt_ret, CK.Pv.lft_ret, CK.Pv.px_throw, CK.Pv.asB_bl, CK.Pv.add_int, CK.Pv.sub_int, CK.Pv.lt_int, CK.Pv.le_int, CK.Pv.gt_int, CK.Pv.ge_int, CK.Pv.neg_int, CK.Pv.abs_int, CK.Pv.int_int, CK.Pv.int_bl, CK.Pv.max_int, CK.Pv.min_int, CK.Pv.len_tup, CK.Pv.len_lst, CK.Pv.len_fz, CK.Pv.len_dk, CK.Pv.walk_tup, CK.Pv.walk_lst, CK.Pv.walk_fz, CK.Pv.ix_tup, CK.Pv.ix_lst, CK.Pv.ix_fz, CK.Pv.at_0, CK.Pv.at_1, CK.Pv.at_2, CK.Pv.at_3, CK.Pv.at_4, CK.Pv.is_non, CK.Pv.is_int, CK.Pv.is_tup, CK.Pv.is_lst, CK.Pv.is_bl, CK.Pv.not_non, CK.Pv.not_int, CK.Pv.not_tup, CK.Pv.not_lst, CK.Pv.not_bl, CK.Pv.t2_tup, CK.Pv.t3_tup, CK.Pv.t4_tup, CK.Pv.t5_tup, CK.Pv.s2_lst, CK.Pv.s2_tup, CK.Pv.lsG_lst, CK.Pv.look_lst, CK.Pv.clr_mu, CK.Pv.enum_lst, CK.Pv.enum_tup, CK.Pv.enum_tup, CK.Pv.zip_lst, CK.Pv.list_tup, CK.Pv.list_lst, CK.Pv.tuple_tup, CK.Pv.tuple_lst, CK.Pv.part_int, CK.Pv.cut_tup, CK.Pv.cut_lst, CK.Pv.cutL_lst, CK.Pv.rev_lst, CK.Pv.eq_int, CK.Pv.ne_int, CK.Pv.eq_bl, CK.Pv.ne_bl, CK.Pv.dk_int, CK.Pv.px_at, CK.Pv.px_mod, CK.Pv.px_div, CK.Pv.px_pow, CK.Pv.px_mul, CK.Pv.px_addT, CK.Pv.px_addL, CK.Pv.px_cat, CK.Pv.px_rep, CK.Pv.px_app, CK.Pv.px_ext, CK.Pv.px_ins, CK.Pv.px_rng1, CK.Pv.px_rng2, CK.Pv.px_put, CK.Pv.px_rgL, decide_eq_true_eq, Bool.false_eq_true, Bool.true_eq_false, if_true, if_false, Bool.not_true, Bool.not_false, beq_self_eq_true, Option.isSome_some, Option.isSome_none, Option.some.injEq, exists_eq_left', decide_true, decide_false, Bool.not_eq_true', Int.reduceToNat, Int.reducePow, Int.reduceSub, Int.reduceAdd, Int.reduceMul, Int.reduceNeg, List.length_cons, List.length_nil])
def Bd (k : Nat) (x : Int) : Prop := x.natAbs < 2 ^ k
theorem Bd.mono {a b : Nat} {x : Int} (h : Bd a x) (e : a ≤ b) : Bd b x := Nat.lt_of_lt_of_le h (Nat.pow_le_pow_right (by decide) e)
theorem Bd.add {a : Nat} {x y : Int} (h : Bd a x) (g : Bd a y) : Bd (a + 1) (x + y) := by
  unfold Bd at *
  have := Int.natAbs_add_le x y
  rw [Nat.pow_succ]; omega
theorem Bd.sub {a : Nat} {x y : Int} (h : Bd a x) (g : Bd a y) : Bd (a + 1) (x - y) := by
  rw [Int.sub_eq_add_neg]; exact h.add (by unfold Bd at *; rw [Int.natAbs_neg]; exact g)
theorem Bd.int {a : Nat} {x : Int} (h0 : 0 ≤ x) (h1 : x < 2 ^ a) : Bd a x := by 
  unfold Bd
  have e : ((2 ^ a : Nat) : Int) = 2 ^ a := by push_cast; rfl
  omega
theorem Bd.lt {a : Nat} {x : Int} (h : Bd a x) : x < 2 ^ a := by 
  unfold Bd at h
  have e : ((2 ^ a : Nat) : Int) = 2 ^ a := by push_cast; rfl
  omega
def pk (m : Nat) : Nat → Int
  | 0 => 1
  | k + 1 => pk m k * ((m : Int) - 1 - k) / ((k : Int) + 1)
def ls (a : Nat → Int) (m : Nat) : Nat → Int
  | 0 => 0
  | k + 1 => ls a m k + pk m k * a k * a (m - 1 - k)
def hg : Nat → Nat → Int
  | 0, m => if m = 0 then 1 else 0
  | h + 1, m => if m = 0 then 1 else ls (hg h) m m
def fa : Nat → Int
  | 0 => 1
  | n + 1 => fa n * ((n : Int) + 1)
theorem Bd.abs {a : Nat} {t : Int} (h : Bd a t) : (if t < 0 then -t else t) < 2 ^ a := by
  unfold Bd at h
  have e : ((2 ^ a : Nat) : Int) = 2 ^ a := by push_cast; rfl
  split <;> omega
end Lib
end Pv
end CK
end

section
set_option Elab.async false
set_option linter.all false
set_option exponentiation.threshold 100000
set_option maxRecDepth 100000
set_option maxHeartbeats 4000000
namespace CK
namespace Pv
namespace Lib
open PySem PySem.Spec PyProof.Rows L2
open CK.Lib
local macro_rules | `(tactic| walk_at "pp") => `(tactic| try simp only [CK.Pv.px_bnd, CK.Pv.px_ret, CK.Pv.px_ite, CK.Pv.px_pbad, CK.Pv.px_getS, CK.Pv.px_putS, CK.Pv.px_some, CK.Pv.px_run, CK.Pv.px_lft, CK.Pv.px_fnP, CK.Pv.px_fnN, CK.Pv.fin_rt, CK.Pv.fin_nx, CK.Pv.finN_rt, CK.Pv.finN_nx, CK.Pv.px_bndO, CK.Pv.aft_nx, CK.Pv.aft_rt, CK.Pv.aft_bk, CK.Pv.aft_ct, CK.Pv.lp_nx, CK.Pv.lp_ct, CK.Pv.lp_bk, CK.Pv.lp_rt, CK.Pv.bndI_nx, CK.Pv.bndI_rt, CK.Pv.ret_bnd, CK.Pv.opt_ret, CK.Pv.lft_ret, CK.Pv.px_throw, CK.Pv.asB_bl, CK.Pv.add_int, CK.Pv.sub_int, CK.Pv.lt_int, CK.Pv.le_int, CK.Pv.gt_int, CK.Pv.ge_int, CK.Pv.neg_int, CK.Pv.abs_int, CK.Pv.int_int, CK.Pv.int_bl, CK.Pv.max_int, CK.Pv.min_int, CK.Pv.len_tup, CK.Pv.len_lst, CK.Pv.len_fz, CK.Pv.len_dk, CK.Pv.walk_tup, CK.Pv.walk_lst, CK.Pv.walk_fz, CK.Pv.ix_tup, CK.Pv.ix_lst, CK.Pv.ix_fz, CK.Pv.at_0, CK.Pv.at_1, CK.Pv.at_2, CK.Pv.at_3, CK.Pv.at_4, CK.Pv.is_non, CK.Pv.is_int, CK.Pv.is_tup, CK.Pv.is_lst, CK.Pv.is_bl, CK.Pv.not_non, CK.Pv.not_int, CK.Pv.not_tup, CK.Pv.not_lst, CK.Pv.not_bl, CK.Pv.t2_tup, CK.Pv.t3_tup, CK.Pv.t4_tup, CK.Pv.t5_tup, CK.Pv.s2_lst, CK.Pv.s2_tup, CK.Pv.lsG_lst, CK.Pv.look_lst, CK.Pv.clr_mu, CK.Pv.enum_lst, CK.Pv.enum_tup, CK.Pv.enum_tup, CK.Pv.zip_lst, CK.Pv.list_tup, CK.Pv.list_lst, CK.Pv.tuple_tup, CK.Pv.tuple_lst, CK.Pv.part_int, CK.Pv.cut_tup, CK.Pv.cut_lst, CK.Pv.cutL_lst, CK.Pv.rev_lst, CK.Pv.eq_int, CK.Pv.ne_int, CK.Pv.eq_bl, CK.Pv.ne_bl, CK.Pv.dk_int, CK.Pv.px_at, CK.Pv.px_mod, CK.Pv.px_div, CK.Pv.px_pow, CK.Pv.px_mul, CK.Pv.px_addT, CK.Pv.px_addL, CK.Pv.px_cat, CK.Pv.px_rep, CK.Pv.px_app, CK.Pv.px_ext, CK.Pv.px_ins, CK.Pv.px_rng1, CK.Pv.px_rng2, CK.Pv.px_put, CK.Pv.px_rgL, decide_eq_true_eq, Bool.false_eq_true, Bool.true_eq_false, if_true, if_false, Bool.not_true, Bool.not_false, beq_self_eq_true, Option.isSome_some, Option.isSome_none, Option.some.injEq, exists_eq_left', decide_true, decide_false, Bool.not_eq_true', Int.reduceToNat, Int.reducePow, Int.reduceSub, Int.reduceAdd, Int.reduceMul, Int.reduceNeg, List.length_cons, List.length_nil])
theorem Bd.zero {k : Nat} : Bd k 0 := by unfold Bd; exact Nat.pow_pos (by decide)
def LT (a b : Nat) : List (Int × Nat × Nat) := ((List.range a).map fun k => (fa (a + b) / fa (k + b + 1), k, b)) ++ (List.range b).map fun k => (fa (a + b) / fa (a + k + 1), a, k)
end Lib
end Pv
end CK
end

section
set_option Elab.async false
set_option linter.all false
set_option exponentiation.threshold 100000
set_option maxRecDepth 100000
set_option maxHeartbeats 4000000
namespace CK
namespace Pv
namespace Lib
open PySem PySem.Spec PyProof.Rows L2
open CK.Lib
local macro_rules | `(tactic| walk_at "pp") => `(tactic| try simp only [CK.Pv.px_bnd, CK.Pv.px_ret, CK.Pv.px_ite, CK.Pv.px_pbad, CK.Pv.px_getS, CK.Pv.px_putS, CK.Pv.px_some, CK.Pv.px_run, CK.Pv.px_lft, CK.Pv.px_fnP, CK.Pv.px_fnN, CK.Pv.fin_rt, CK.Pv.fin_nx, CK.Pv.finN_rt, CK.Pv.finN_nx, CK.Pv.px_bndO, CK.Pv.aft_nx, CK.Pv.aft_rt, CK.Pv.aft_bk, CK.Pv.aft_ct, CK.Pv.lp_nx, CK.Pv.lp_ct, CK.Pv.lp_bk, CK.Pv.lp_rt, CK.Pv.bndI_nx, CK.Pv.bndI_rt, CK.Pv.ret_bnd, CK.Pv.opt_ret, CK.Pv.lft_ret, CK.Pv.px_throw, CK.Pv.asB_bl, CK.Pv.add_int, CK.Pv.sub_int, CK.Pv.lt_int, CK.Pv.le_int, CK.Pv.gt_int, CK.Pv.ge_int, CK.Pv.neg_int, CK.Pv.abs_int, CK.Pv.int_int, CK.Pv.int_bl, CK.Pv.max_int, CK.Pv.min_int, CK.Pv.len_tup, CK.Pv.len_lst, CK.Pv.len_fz, CK.Pv.len_dk, CK.Pv.walk_tup, CK.Pv.walk_lst, CK.Pv.walk_fz, CK.Pv.ix_tup, CK.Pv.ix_lst, CK.Pv.ix_fz, CK.Pv.at_0, CK.Pv.at_1, CK.Pv.at_2, CK.Pv.at_3, CK.Pv.at_4, CK.Pv.is_non, CK.Pv.is_int, CK.Pv.is_tup, CK.Pv.is_lst, CK.Pv.is_bl, CK.Pv.not_non, CK.Pv.not_int, CK.Pv.not_tup, CK.Pv.not_lst, CK.Pv.not_bl, CK.Pv.t2_tup, CK.Pv.t3_tup, CK.Pv.t4_tup, CK.Pv.t5_tup, CK.Pv.s2_lst, CK.Pv.s2_tup, CK.Pv.lsG_lst, CK.Pv.look_lst, CK.Pv.clr_mu, CK.Pv.enum_lst, CK.Pv.enum_tup, CK.Pv.enum_tup, CK.Pv.zip_lst, CK.Pv.list_tup, CK.Pv.list_lst, CK.Pv.tuple_tup, CK.Pv.tuple_lst, CK.Pv.part_int, CK.Pv.cut_tup, CK.Pv.cut_lst, CK.Pv.cutL_lst, CK.Pv.rev_lst, CK.Pv.eq_int, CK.Pv.ne_int, CK.Pv.eq_bl, CK.Pv.ne_bl, CK.Pv.dk_int, CK.Pv.px_at, CK.Pv.px_mod, CK.Pv.px_div, CK.Pv.px_pow, CK.Pv.px_mul, CK.Pv.px_addT, CK.Pv.px_addL, CK.Pv.px_cat, CK.Pv.px_rep, CK.Pv.px_app, CK.Pv.px_ext, CK.Pv.px_ins, CK.Pv.px_rng1, CK.Pv.px_rng2, CK.Pv.px_put, CK.Pv.px_rgL, decide_eq_true_eq, Bool.false_eq_true, Bool.true_eq_false, if_true, if_false, Bool.not_true, Bool.not_false, beq_self_eq_true, Option.isSome_some, Option.isSome_none, Option.some.injEq, exists_eq_left', decide_true, decide_false, Bool.not_eq_true', Int.reduceToNat, Int.reducePow, Int.reduceSub, Int.reduceAdd, Int.reduceMul, Int.reduceNeg, List.length_cons, List.length_nil])
def law_keys_P (v_many : U) : PM U U := fnP (bnd (bnd (ret (U.int 4)) fun x2 => (law_take_P x2)) fun v_way3 => (bnd (bnd (bnd (ret (U.int 0)) fun x4 => bnd (ret (U.int 5)) fun x5 => bnd (ret (U.int 7)) fun x6 => bnd (ret (U.int 0)) fun x7 => ret (U.tup [x4, x5, x6, x7])) fun x => bnd (ret v_way3) fun y => ixP x y) fun v_key8 => (bnd (ret (U.lst [])) fun v_keys10 => (bndO (bnd (bnd (ret v_many) fun x11 => rng1P x11) fun xs => forP xs (v_key8, v_keys10) fun x17 (st12 : U × U) => bnd (optP (some ())) fun u18 => (lsG st12.2 (bnd (ret st12.1) fun x31 => bnd (optP (mu appU st12.2 [x31])) fun v_keys19 => (bnd (bnd (bnd (ret st12.1) fun x => bnd (ret (U.int 1)) fun y => addU x y) fun x => bnd (bnd (bnd (bnd (bnd (ret (U.int 1)) fun x22 => bnd (ret (U.int 3)) fun x23 => bnd (bnd (ret (U.int 10)) fun x => bnd (ret (U.int 6)) fun y => loc2 powM x y) fun x24 => bnd (ret (U.int 3)) fun x25 => ret (U.tup [x22, x23, x24, x25])) fun x => bnd (ret v_way3) fun y => ixP x y) fun x21 => (law_take_P x21)) fun x => bnd (bnd (bnd (ret (U.int 1)) fun x26 => bnd (ret (U.int 1)) fun x27 => bnd (bnd (ret (U.int 10)) fun x => bnd (ret (U.int 10)) fun y => loc2 powM x y) fun x28 => bnd (ret (U.int 1)) fun x29 => ret (U.tup [x26, x27, x28, x29])) fun x => bnd (ret v_way3) fun y => ixP x y) fun y => mulU x y) fun y => addU x y) fun v_key30 => (ret (Out.nx (v_key30, v_keys19))))))) fun (st32 : U × U) => (bndI (bnd (bnd (bnd (ret v_way3) fun x => bnd (ret (U.int 3)) fun y => eqP x y) asB) fun t33 => if t33 = true then (bnd (bnd (bnd (ret st32.2) fun x => walkU x) fun xs => lcU xs fun x37 => bnd (optP (some ())) fun u38 => bnd (ret true) fun b39 => if b39 = true then bnd (bnd (bnd (bnd (ret (U.int 10)) fun x => bnd (ret (U.int 18)) fun y => loc2 powM x y) fun x => bnd (bnd (ret st32.2) fun x => bnd (bnd (ret (U.int 1)) fun x => loc1 negM x) fun y => ixP x y) fun y => loc2 subM x y) fun x => bnd (ret x37) fun y => addU x y) fun y40 => ret (some y40) else ret none) fun v_keys42 => (ret (Out.nx v_keys42))) else (ret (Out.nx st32.2))) fun (st36 : U) => (ret (Out.rt st36)))))))
theorem law_keys_S (v_many : U) : Fn1 law_keys_M (fun w => [agW w, ag v_many]) (law_keys_P v_many) frW := fn1_mk (i := 0) (fun _ => rfl) fun c w hw => (rs_asg (i := 2) (re_call (rj_consW (i := 0) (fun _ => rfl) (rj_cons re_c fun x2 => (rj_nil (rz_fn1 (i := 0) (law_take_S x2) (by (repeat (first | exact CK.Pv.gd_base | refine CK.Pv.gd_cons ?_)))))))) (fun v_way3 => (rs_asg (i := 3) (re_ix (re_args (rj_cons re_c fun x4 => (rj_cons re_c fun x5 => (rj_cons re_c fun x6 => (rj_cons re_c fun x7 => (rj_nil (rz_tup [x4, x5, x6, x7]))))))) (re_val (i := 2) (fun _ => rfl))) (fun v_key8 => (rs_asgO (i := 4) (re_args (rj_nil (rz_lst []))) (fun v_keys10 k_9 hk_9 => (rs_seq (F := True) (ok := fun (q : Unit) => True) (N := fun (q13 : Unit) (st12 : U × U) s => [(3, .val (ag st12.1)), (4, .own k_9 (ao st12.2)), (0, .own w (ao s)), (2, .val (ag v_way3)), (KL, .ln 7)]) (rs_for (ok := fun (q : Unit) => True) (H := fun (q13 : Unit) (st12 : U × U) s => [(3, .val (ag st12.1)), (4, .own k_9 (ao st12.2)), (0, .own w (ao s)), (2, .val (ag v_way3)), (KL, .ln 7)]) (re_rng1 (rj_cons (re_val (i := 1) (fun _ => rfl)) fun x11 => (rj_nil (rz_rng1)))) (fun x17 => rg_nm) ⟨(), trivial, fun _ => sub_cons rfl (sub_cons rfl (sub_cons rfl (sub_cons rfl (sub_cons rfl (sub_nil)))))⟩ (fun q13 x17 st12 u18 hq14 => (rs_m1 app_ok (i := 4) (fun _ => rfl) (re_val (i := 3) (fun _ => rfl)) (fun v_keys19 => (rs_last (rs_asg (i := 3) (re_add (re_add (re_val (i := 3) (fun _ => rfl)) re_c) (re_mul (re_call (rj_consW (i := 0) (fun _ => rfl) (rj_cons (re_ix (re_args (rj_cons re_c fun x22 => (rj_cons re_c fun x23 => (rj_cons (re_op re_c re_c) fun x24 => (rj_cons re_c fun x25 => (rj_nil (rz_tup [x22, x23, x24, x25]))))))) (re_val (i := 2) (fun _ => rfl))) fun x21 => (rj_nil (rz_fn1 (i := 0) (law_take_S x21) (by (repeat (first | exact CK.Pv.gd_base | refine CK.Pv.gd_cons ?_)))))))) (re_ix (re_args (rj_cons re_c fun x26 => (rj_cons re_c fun x27 => (rj_cons (re_op re_c re_c) fun x28 => (rj_cons re_c fun x29 => (rj_nil (rz_tup [x26, x27, x28, x29]))))))) (re_val (i := 2) (fun _ => rfl))))) (fun v_key30 => (rs_nx (fun _ => ⟨_, ⟨(), trivial, rfl⟩, sub_cons rfl (sub_cons rfl (sub_cons rfl (sub_cons rfl (sub_cons rfl (sub_nil)))))⟩) trivial)) (hE := fun _ => sub_cons rfl sub_nil)))) (hE := fun _ => sub_cons rfl sub_nil))) (hE := fun _ => sub_cons rfl sub_nil)) fun q15 st32 hq16 => (rs_seqI (F := True) (ok := fun (q : Nat) => q ∉ c.W) (N := fun (q34 : Nat) (st36 : U) s => [(4, .own q34 (ao st36)), (0, .own w (ao s)), (KL, .ln 7)]) (rs_if (re_tst (re_eq (re_val (i := 2) (fun _ => rfl)) re_c)) (rs_freeze (i := 4) (fun _ => rfl) hk_9 (rs_last (rs_asgO (i := 4) (re_lc (re_src (re_val (i := 4) (fun _ => rfl))) (fun x37 => rg_nm) (fun x37 u38 => re_yes) (fun x37 u38 => (re_add (re_op (re_op re_c re_c) (re_ix (re_val (i := 4) (fun _ => rfl)) (re_un re_c))) (re_val (i := 6) (fun _ => rfl)))) (fun _ => ⟨rfl, rfl, trivial⟩)) (fun v_keys42 k_41 hk_41 => (rs_nx (fun _ => ⟨_, ⟨k_41, hk_41, rfl⟩, sub_cons rfl (sub_cons rfl (sub_cons rfl (sub_nil)))⟩) trivial)) (hE := fun _ => sub_cons rfl sub_nil)))) (rs_nx (fun _ => ⟨_, ⟨k_9, hk_9, rfl⟩, sub_cons rfl (sub_cons rfl (sub_cons rfl (sub_nil)))⟩) trivial) (hE := fun _ => sub_cons rfl sub_nil)) fun q34 st36 hq35 => (rs_retO1 (i := 4) (j := 0) (fun _ => rfl) hq35 hw (fun _ => rfl))))) (hE := fun _ => sub_cons rfl sub_nil))) (hE := fun _ => sub_cons rfl sub_nil))) (hE := fun _ => sub_cons rfl sub_nil))
def law_great_2_P : PM U U := fnP (bnd (bnd (bnd (bnd (bnd (bnd (bnd (ret (U.int 10)) fun x => bnd (ret (U.int 6)) fun y => loc2 powM x y) fun x2 => (law_take_P x2)) fun x => bnd (bnd (ret (U.int 10)) fun x => bnd (ret (U.int 6)) fun y => loc2 powM x y) fun y => mulU x y) fun x => bnd (bnd (bnd (ret (U.int 10)) fun x => bnd (ret (U.int 6)) fun y => loc2 powM x y) fun x4 => (law_take_P x4)) fun y => addU x y) fun x => bnd (bnd (ret (U.int 10)) fun x => bnd (ret (U.int 6)) fun y => loc2 powM x y) fun y => mulU x y) fun x => bnd (bnd (bnd (ret (U.int 10)) fun x => bnd (ret (U.int 6)) fun y => loc2 powM x y) fun x6 => (law_take_P x6)) fun y => addU x y) fun v => ret (Out.rt v))
theorem law_great_2_S : Fn1 law_great_M (fun w => [agW w]) (law_great_2_P) clW := fn1_mk (i := 0) (fun _ => rfl) fun c w hw => (rs_ret1 (i := 0) (re_add (re_mul (re_add (re_mul (re_call (rj_consW (i := 0) (fun _ => rfl) (rj_cons (re_op re_c re_c) fun x2 => (rj_nil (rz_fn1 (i := 0) (law_take_S x2) (by (repeat (first | exact CK.Pv.gd_base | refine CK.Pv.gd_cons ?_)))))))) (re_op re_c re_c)) (re_call (rj_consW (i := 0) (fun _ => rfl) (rj_cons (re_op re_c re_c) fun x4 => (rj_nil (rz_fn1 (i := 0) (law_take_S x4) (by (repeat (first | exact CK.Pv.gd_base | refine CK.Pv.gd_cons ?_))))))))) (re_op re_c re_c)) (re_call (rj_consW (i := 0) (fun _ => rfl) (rj_cons (re_op re_c re_c) fun x6 => (rj_nil (rz_fn1 (i := 0) (law_take_S x6) (by (repeat (first | exact CK.Pv.gd_base | refine CK.Pv.gd_cons ?_))))))))) hw (fun _ => rfl) (hE := fun _ => sub_cons rfl sub_nil))
def law_rank_P (v_way : U) : PM U U := fnP (bnd (bnd (bnd (ret v_way) fun x => bnd (ret (U.int 3)) fun y => loc2 ltM x y) asB) fun t1 => if t1 = true then (bnd (bnd (bnd (ret (U.int 7)) fun x2 => bnd (bnd (ret (U.int 7)) fun x => bnd (bnd (ret (U.int 3)) fun x6 => (law_take_P x6)) fun y => addU x y) fun x3 => bnd (bnd (bnd (ret (U.int 10)) fun x => bnd (ret (U.int 18)) fun y => loc2 powM x y) fun x => bnd (bnd (ret (U.int 2)) fun x8 => (law_take_P x8)) fun y => mulU x y) fun x4 => ret (U.tup [x2, x3, x4])) fun x => bnd (ret v_way) fun y => ixP x y) fun v => ret (Out.rt v)) else (bnd ((law_great_2_P)) fun v => ret (Out.rt v)))
theorem law_rank_S (v_way : U) : Fn1 law_rank_M (fun w => [agW w, ag v_way]) (law_rank_P v_way) clW := fn1_mk (i := 0) (fun _ => rfl) fun c w hw => (rs_ifT (re_tst (re_op (re_val (i := 1) (fun _ => rfl)) re_c)) (rs_ret1 (i := 0) (re_ix (re_args (rj_cons re_c fun x2 => (rj_cons (re_add re_c (re_call (rj_consW (i := 0) (fun _ => rfl) (rj_cons re_c fun x6 => (rj_nil (rz_fn1 (i := 0) (law_take_S x6) (by (repeat (first | exact CK.Pv.gd_base | refine CK.Pv.gd_cons ?_))))))))) fun x3 => (rj_cons (re_mul (re_op re_c re_c) (re_call (rj_consW (i := 0) (fun _ => rfl) (rj_cons re_c fun x8 => (rj_nil (rz_fn1 (i := 0) (law_take_S x8) (by (repeat (first | exact CK.Pv.gd_base | refine CK.Pv.gd_cons ?_))))))))) fun x4 => (rj_nil (rz_tup [x2, x3, x4])))))) (re_val (i := 1) (fun _ => rfl))) hw (fun _ => rfl) (hE := fun _ => sub_cons rfl sub_nil)) (rs_ret1 (i := 0) (re_call (rj_consW (i := 0) (fun _ => rfl) (rj_nil (rz_fn1 (i := 0) (law_great_2_S) (by (repeat (first | exact CK.Pv.gd_base | refine CK.Pv.gd_cons ?_))))))) hw (fun _ => rfl) (hE := fun _ => sub_cons rfl sub_nil)) (hE := fun _ => sub_cons rfl sub_nil))
def law_cards_P (v_many : U) : PM U U := fnP (bnd (bnd (ret (U.int 5)) fun x2 => (law_take_P x2)) fun v_way3 => (bnd (bnd (ret (U.int 0)) fun x4 => bnd (ret (U.int 1)) fun x5 => bnd (bnd (ret (U.int 1)) fun x => loc1 negM x) fun x6 => bnd (bnd (ret (U.int 10)) fun x => bnd (ret (U.int 18)) fun y => loc2 powM x y) fun x7 => bnd (bnd (bnd (ret (U.int 10)) fun x => bnd (ret (U.int 18)) fun y => loc2 powM x y) fun x => loc1 negM x) fun x8 => bnd (bnd (ret (U.int 3)) fun x => bnd (bnd (ret (U.int 10)) fun x => bnd (ret (U.int 18)) fun y => loc2 powM x y) fun y => mulU x y) fun x9 => ret (U.tup [x4, x5, x6, x7, x8, x9])) fun v_worths10 => (bnd (ret (U.lst [])) fun v_cards12 => (bndO (bnd (bnd (bnd (ret v_many) fun x14 => (law_keys_P x14)) fun x => walkU x) fun xs => forP xs v_cards12 fun x20 (st15 : U) => bnd (optP (some ())) fun u21 => (bnd (bnd (ret (U.int 7)) fun x => bnd (lenU st15) fun y => addU x y) fun v_rank22 => (bndI (bnd (bnd (bnd (ret v_way3) fun x => bnd (ret (U.int 4)) fun y => loc2 ltM x y) asB) fun t23 => if t23 = true then (bnd (bnd (ret v_way3) fun x28 => (law_rank_P x28)) fun v_rank29 => (ret (Out.nx v_rank29))) else (ret (Out.nx v_rank22))) fun (st26 : U) => (lsG st15 (bnd (bnd (ret x20) fun x30 => bnd (ret st26) fun x31 => bnd (bnd (ret v_worths10) fun x => bnd (bnd (ret (U.int 6)) fun x34 => (law_take_P x34)) fun y => ixP x y) fun x32 => ret (U.tup [x30, x31, x32])) fun x36 => bnd (optP (mu appU st15 [x36])) fun v_cards35 => (ret (Out.nx v_cards35))))))) fun (st37 : U) => (ret (Out.rt st37))))))
theorem law_cards_S (v_many : U) : Fn1 law_cards2_M (fun w => [agW w, ag v_many]) (law_cards_P v_many) frW := fn1_mk (i := 0) (fun _ => rfl) fun c w hw => (rs_asg (i := 2) (re_call (rj_consW (i := 0) (fun _ => rfl) (rj_cons re_c fun x2 => (rj_nil (rz_fn1 (i := 0) (law_take_S x2) (by (repeat (first | exact CK.Pv.gd_base | refine CK.Pv.gd_cons ?_)))))))) (fun v_way3 => (rs_asg (i := 3) (re_args (rj_cons re_c fun x4 => (rj_cons re_c fun x5 => (rj_cons (re_un re_c) fun x6 => (rj_cons (re_op re_c re_c) fun x7 => (rj_cons (re_un (re_op re_c re_c)) fun x8 => (rj_cons (re_mul re_c (re_op re_c re_c)) fun x9 => (rj_nil (rz_tup [x4, x5, x6, x7, x8, x9]))))))))) (fun v_worths10 => (rs_asgO (i := 4) (re_args (rj_nil (rz_lst []))) (fun v_cards12 k_11 hk_11 => (rs_seq (F := True) (ok := fun (q : Unit) => True) (N := fun (q16 : Unit) (st15 : U) s => [(4, .own k_11 (ao st15)), (0, .own w (ao s)), (2, .val (ag v_way3)), (3, .val (ag v_worths10)), (KL, .ln 7)]) (rs_for (ok := fun (q : Unit) => True) (H := fun (q16 : Unit) (st15 : U) s => [(4, .own k_11 (ao st15)), (0, .own w (ao s)), (2, .val (ag v_way3)), (3, .val (ag v_worths10)), (KL, .ln 7)]) (re_src (RF.x (re_call (rj_consW (i := 0) (fun _ => rfl) (rj_cons (re_val (i := 1) (fun _ => rfl)) fun x14 => (rj_nil (rz_fn1f (i := 0) (law_keys_S x14) (by (repeat (first | exact CK.Pv.gd_base | refine CK.Pv.gd_cons ?_)))))))))) (fun x20 => rg_nm) ⟨(), trivial, fun _ => sub_cons rfl (sub_cons rfl (sub_cons rfl (sub_cons rfl (sub_cons rfl (sub_nil)))))⟩ (fun q16 x20 st15 u21 hq17 => (rs_asg (i := 6) (re_add re_c (re_lenO (i := 4) (fun _ => rfl))) (fun v_rank22 => (rs_seqI (F := True) (ok := fun (q : Unit) => True) (N := fun (q24 : Unit) (st26 : U) s => [(4, .own k_11 (ao st15)), (5, .val (ag x20)), (0, .own w (ao s)), (6, .val (ag st26)), (2, .val (ag v_way3)), (3, .val (ag v_worths10)), (KL, .ln 7)]) (rs_if (re_tst (re_op (re_val (i := 2) (fun _ => rfl)) re_c)) (rs_last (rs_asg (i := 6) (re_call (rj_consW (i := 0) (fun _ => rfl) (rj_cons (re_val (i := 2) (fun _ => rfl)) fun x28 => (rj_nil (rz_fn1 (i := 0) (law_rank_S x28) (by (repeat (first | exact CK.Pv.gd_base | refine CK.Pv.gd_cons ?_)))))))) (fun v_rank29 => (rs_nx (fun _ => ⟨_, ⟨(), trivial, rfl⟩, sub_cons rfl (sub_cons rfl (sub_cons rfl (sub_cons rfl (sub_cons rfl (sub_cons rfl (sub_cons rfl (sub_nil)))))))⟩) trivial)) (hE := fun _ => sub_cons rfl sub_nil))) (rs_nx (fun _ => ⟨_, ⟨(), trivial, rfl⟩, sub_cons rfl (sub_cons rfl (sub_cons rfl (sub_cons rfl (sub_cons rfl (sub_cons rfl (sub_cons rfl (sub_nil)))))))⟩) trivial) (hE := fun _ => sub_cons rfl sub_nil)) fun q24 st26 hq25 => (rs_last (rs_m1 app_ok (i := 4) (fun _ => rfl) (re_args (rj_cons (re_val (i := 5) (fun _ => rfl)) fun x30 => (rj_cons (re_val (i := 6) (fun _ => rfl)) fun x31 => (rj_cons (re_ix (re_val (i := 3) (fun _ => rfl)) (re_call (rj_consW (i := 0) (fun _ => rfl) (rj_cons re_c fun x34 => (rj_nil (rz_fn1 (i := 0) (law_take_S x34) (by (repeat (first | exact CK.Pv.gd_base | refine CK.Pv.gd_cons ?_))))))))) fun x32 => (rj_nil (rz_tup [x30, x31, x32])))))) (fun v_cards35 => (rs_nx (fun _ => ⟨_, ⟨(), trivial, rfl⟩, sub_cons rfl (sub_cons rfl (sub_cons rfl (sub_cons rfl (sub_cons rfl (sub_nil)))))⟩) trivial)) (hE := fun _ => sub_cons rfl sub_nil))))) (hE := fun _ => sub_cons rfl sub_nil))) (hE := fun _ => sub_cons rfl sub_nil)) fun q18 st37 hq19 => (rs_retO1 (i := 4) (j := 0) (fun _ => rfl) hk_11 hw (fun _ => rfl)))) (hE := fun _ => sub_cons rfl sub_nil))) (hE := fun _ => sub_cons rfl sub_nil))) (hE := fun _ => sub_cons rfl sub_nil))
end Lib
end Pv
end CK
end

section
set_option Elab.async false
set_option linter.all false
set_option exponentiation.threshold 100000
set_option maxRecDepth 100000
set_option maxHeartbeats 4000000
namespace CK
namespace Pv
namespace Lib
open PySem PySem.Spec PyProof.Rows L2
open CK.Lib
local macro_rules | `(tactic| walk_at "pp") => `(tactic| try simp only [CK.Pv.px_bnd, CK.Pv.px_ret, CK.Pv.px_ite, CK.Pv.px_pbad, CK.Pv.px_getS, CK.Pv.px_putS, CK.Pv.px_some, CK.Pv.px_run, CK.Pv.px_lft, CK.Pv.px_fnP, CK.Pv.px_fnN, CK.Pv.fin_rt, CK.Pv.fin_nx, CK.Pv.finN_rt, CK.Pv.finN_nx, CK.Pv.px_bndO, CK.Pv.aft_nx, CK.Pv.aft_rt, CK.Pv.aft_bk, CK.Pv.aft_ct, CK.Pv.lp_nx, CK.Pv.lp_ct, CK.Pv.lp_bk, CK.Pv.lp_rt, CK.Pv.bndI_nx, CK.Pv.bndI_rt, CK.Pv.ret_bnd, CK.Pv.opt_ret, CK.Pv.lft_ret, CK.Pv.px_throw, CK.Pv.asB_bl, CK.Pv.add_int, CK.Pv.sub_int, CK.Pv.lt_int, CK.Pv.le_int, CK.Pv.gt_int, CK.Pv.ge_int, CK.Pv.neg_int, CK.Pv.abs_int, CK.Pv.int_int, CK.Pv.int_bl, CK.Pv.max_int, CK.Pv.min_int, CK.Pv.len_tup, CK.Pv.len_lst, CK.Pv.len_fz, CK.Pv.len_dk, CK.Pv.walk_tup, CK.Pv.walk_lst, CK.Pv.walk_fz, CK.Pv.ix_tup, CK.Pv.ix_lst, CK.Pv.ix_fz, CK.Pv.at_0, CK.Pv.at_1, CK.Pv.at_2, CK.Pv.at_3, CK.Pv.at_4, CK.Pv.is_non, CK.Pv.is_int, CK.Pv.is_tup, CK.Pv.is_lst, CK.Pv.is_bl, CK.Pv.not_non, CK.Pv.not_int, CK.Pv.not_tup, CK.Pv.not_lst, CK.Pv.not_bl, CK.Pv.t2_tup, CK.Pv.t3_tup, CK.Pv.t4_tup, CK.Pv.t5_tup, CK.Pv.s2_lst, CK.Pv.s2_tup, CK.Pv.lsG_lst, CK.Pv.look_lst, CK.Pv.clr_mu, CK.Pv.enum_lst, CK.Pv.enum_tup, CK.Pv.enum_tup, CK.Pv.zip_lst, CK.Pv.list_tup, CK.Pv.list_lst, CK.Pv.tuple_tup, CK.Pv.tuple_lst, CK.Pv.part_int, CK.Pv.cut_tup, CK.Pv.cut_lst, CK.Pv.cutL_lst, CK.Pv.rev_lst, CK.Pv.eq_int, CK.Pv.ne_int, CK.Pv.eq_bl, CK.Pv.ne_bl, CK.Pv.dk_int, CK.Pv.px_at, CK.Pv.px_mod, CK.Pv.px_div, CK.Pv.px_pow, CK.Pv.px_mul, CK.Pv.px_addT, CK.Pv.px_addL, CK.Pv.px_cat, CK.Pv.px_rep, CK.Pv.px_app, CK.Pv.px_ext, CK.Pv.px_ins, CK.Pv.px_rng1, CK.Pv.px_rng2, CK.Pv.px_put, CK.Pv.px_rgL, decide_eq_true_eq, Bool.false_eq_true, Bool.true_eq_false, if_true, if_false, Bool.not_true, Bool.not_false, beq_self_eq_true, Option.isSome_some, Option.isSome_none, Option.some.injEq, exists_eq_left', decide_true, decide_false, Bool.not_eq_true', Int.reduceToNat, Int.reducePow, Int.reduceSub, Int.reduceAdd, Int.reduceMul, Int.reduceNeg, List.length_cons, List.length_nil])
end Lib
end Pv
end CK
end

section
set_option Elab.async false
set_option linter.all false
set_option exponentiation.threshold 100000
set_option maxRecDepth 100000
set_option maxHeartbeats 4000000
namespace CK
namespace Pv
namespace Lib
open PySem PySem.Spec PyProof.Rows L2
open CK.Lib
local macro_rules | `(tactic| walk_at "pp") => `(tactic| try simp only [CK.Pv.px_bnd, CK.Pv.px_ret, CK.Pv.px_ite, CK.Pv.px_pbad, CK.Pv.px_getS, CK.Pv.px_putS, CK.Pv.px_some, CK.Pv.px_run, CK.Pv.px_lft, CK.Pv.px_fnP, CK.Pv.px_fnN, CK.Pv.fin_rt, CK.Pv.fin_nx, CK.Pv.finN_rt, CK.Pv.finN_nx, CK.Pv.px_bndO, CK.Pv.aft_nx, CK.Pv.aft_rt, CK.Pv.aft_bk, CK.Pv.aft_ct, CK.Pv.lp_nx, CK.Pv.lp_ct, CK.Pv.lp_bk, CK.Pv.lp_rt, CK.Pv.bndI_nx, CK.Pv.bndI_rt, CK.Pv.ret_bnd, CK.Pv.opt_ret, CK.Pv.lft_ret, CK.Pv.px_throw, CK.Pv.asB_bl, CK.Pv.add_int, CK.Pv.sub_int, CK.Pv.lt_int, CK.Pv.le_int, CK.Pv.gt_int, CK.Pv.ge_int, CK.Pv.neg_int, CK.Pv.abs_int, CK.Pv.int_int, CK.Pv.int_bl, CK.Pv.max_int, CK.Pv.min_int, CK.Pv.len_tup, CK.Pv.len_lst, CK.Pv.len_fz, CK.Pv.len_dk, CK.Pv.walk_tup, CK.Pv.walk_lst, CK.Pv.walk_fz, CK.Pv.ix_tup, CK.Pv.ix_lst, CK.Pv.ix_fz, CK.Pv.at_0, CK.Pv.at_1, CK.Pv.at_2, CK.Pv.at_3, CK.Pv.at_4, CK.Pv.is_non, CK.Pv.is_int, CK.Pv.is_tup, CK.Pv.is_lst, CK.Pv.is_bl, CK.Pv.not_non, CK.Pv.not_int, CK.Pv.not_tup, CK.Pv.not_lst, CK.Pv.not_bl, CK.Pv.t2_tup, CK.Pv.t3_tup, CK.Pv.t4_tup, CK.Pv.t5_tup, CK.Pv.s2_lst, CK.Pv.s2_tup, CK.Pv.lsG_lst, CK.Pv.look_lst, CK.Pv.clr_mu, CK.Pv.enum_lst, CK.Pv.enum_tup, CK.Pv.enum_tup, CK.Pv.zip_lst, CK.Pv.list_tup, CK.Pv.list_lst, CK.Pv.tuple_tup, CK.Pv.tuple_lst, CK.Pv.part_int, CK.Pv.cut_tup, CK.Pv.cut_lst, CK.Pv.cutL_lst, CK.Pv.rev_lst, CK.Pv.eq_int, CK.Pv.ne_int, CK.Pv.eq_bl, CK.Pv.ne_bl, CK.Pv.dk_int, CK.Pv.px_at, CK.Pv.px_mod, CK.Pv.px_div, CK.Pv.px_pow, CK.Pv.px_mul, CK.Pv.px_addT, CK.Pv.px_addL, CK.Pv.px_cat, CK.Pv.px_rep, CK.Pv.px_app, CK.Pv.px_ext, CK.Pv.px_ins, CK.Pv.px_rng1, CK.Pv.px_rng2, CK.Pv.px_put, CK.Pv.px_rgL, decide_eq_true_eq, Bool.false_eq_true, Bool.true_eq_false, if_true, if_false, Bool.not_true, Bool.not_false, beq_self_eq_true, Option.isSome_some, Option.isSome_none, Option.some.injEq, exists_eq_left', decide_true, decide_false, Bool.not_eq_true', Int.reduceToNat, Int.reducePow, Int.reduceSub, Int.reduceAdd, Int.reduceMul, Int.reduceNeg, List.length_cons, List.length_nil])
section
variable {ε : Type}
end
end Lib
end Pv
end CK
end

section
set_option Elab.async false
set_option linter.all false
set_option exponentiation.threshold 100000
set_option maxRecDepth 100000
set_option maxHeartbeats 4000000
namespace CK
namespace Pv
namespace Lib
open PySem PySem.Spec PyProof.Rows L2
open CK.Lib
local macro_rules | `(tactic| walk_at "pp") => `(tactic| try simp only [CK.Pv.px_bnd, CK.Pv.px_ret, CK.Pv.px_ite, CK.Pv.px_pbad, CK.Pv.px_getS, CK.Pv.px_putS, CK.Pv.px_some, CK.Pv.px_run, CK.Pv.px_lft, CK.Pv.px_fnP, CK.Pv.px_fnN, CK.Pv.fin_rt, CK.Pv.fin_nx, CK.Pv.finN_rt, CK.Pv.finN_nx, CK.Pv.px_bndO, CK.Pv.aft_nx, CK.Pv.aft_rt, CK.Pv.aft_bk, CK.Pv.aft_ct, CK.Pv.lp_nx, CK.Pv.lp_ct, CK.Pv.lp_bk, CK.Pv.lp_rt, CK.Pv.bndI_nx, CK.Pv.bndI_rt, CK.Pv.ret_bnd, CK.Pv.opt_ret, CK.Pv.lft_ret, CK.Pv.px_throw, CK.Pv.asB_bl, CK.Pv.add_int, CK.Pv.sub_int, CK.Pv.lt_int, CK.Pv.le_int, CK.Pv.gt_int, CK.Pv.ge_int, CK.Pv.neg_int, CK.Pv.abs_int, CK.Pv.int_int, CK.Pv.int_bl, CK.Pv.max_int, CK.Pv.min_int, CK.Pv.len_tup, CK.Pv.len_lst, CK.Pv.len_fz, CK.Pv.len_dk, CK.Pv.walk_tup, CK.Pv.walk_lst, CK.Pv.walk_fz, CK.Pv.ix_tup, CK.Pv.ix_lst, CK.Pv.ix_fz, CK.Pv.at_0, CK.Pv.at_1, CK.Pv.at_2, CK.Pv.at_3, CK.Pv.at_4, CK.Pv.is_non, CK.Pv.is_int, CK.Pv.is_tup, CK.Pv.is_lst, CK.Pv.is_bl, CK.Pv.not_non, CK.Pv.not_int, CK.Pv.not_tup, CK.Pv.not_lst, CK.Pv.not_bl, CK.Pv.t2_tup, CK.Pv.t3_tup, CK.Pv.t4_tup, CK.Pv.t5_tup, CK.Pv.s2_lst, CK.Pv.s2_tup, CK.Pv.lsG_lst, CK.Pv.look_lst, CK.Pv.clr_mu, CK.Pv.enum_lst, CK.Pv.enum_tup, CK.Pv.enum_tup, CK.Pv.zip_lst, CK.Pv.list_tup, CK.Pv.list_lst, CK.Pv.tuple_tup, CK.Pv.tuple_lst, CK.Pv.part_int, CK.Pv.cut_tup, CK.Pv.cut_lst, CK.Pv.cutL_lst, CK.Pv.rev_lst, CK.Pv.eq_int, CK.Pv.ne_int, CK.Pv.eq_bl, CK.Pv.ne_bl, CK.Pv.dk_int, CK.Pv.px_at, CK.Pv.px_mod, CK.Pv.px_div, CK.Pv.px_pow, CK.Pv.px_mul, CK.Pv.px_addT, CK.Pv.px_addL, CK.Pv.px_cat, CK.Pv.px_rep, CK.Pv.px_app, CK.Pv.px_ext, CK.Pv.px_ins, CK.Pv.px_rng1, CK.Pv.px_rng2, CK.Pv.px_put, CK.Pv.px_rgL, decide_eq_true_eq, Bool.false_eq_true, Bool.true_eq_false, if_true, if_false, Bool.not_true, Bool.not_false, beq_self_eq_true, Option.isSome_some, Option.isSome_none, Option.some.injEq, exists_eq_left', decide_true, decide_false, Bool.not_eq_true', Int.reduceToNat, Int.reducePow, Int.reduceSub, Int.reduceAdd, Int.reduceMul, Int.reduceNeg, List.length_cons, List.length_nil])
abbrev CB (t : Tr) : Prop := ∀ c ∈ t.cards, c.1.natAbs < 2 ^ 80 ∧ c.2.1.natAbs < 2 ^ 80 ∧ c.2.2.natAbs < 2 ^ 80
theorem CB.l {l r : Tr} {c : Card} (h : CB (.n l c r)) : CB l := fun x hx => h x (by simp [Tr.cards, hx])
theorem CB.r {l r : Tr} {c : Card} (h : CB (.n l c r)) : CB r := fun x hx => h x (by simp [Tr.cards, hx])
theorem CB.c {l r : Tr} {c : Card} (h : CB (.n l c r)) : c.1.natAbs < 2 ^ 80 ∧ c.2.1.natAbs < 2 ^ 80 ∧ c.2.2.natAbs < 2 ^ 80 := h c (by simp [Tr.cards])
end Lib
end Pv
end CK
end

section
set_option Elab.async false
set_option linter.all false
set_option exponentiation.threshold 100000
set_option maxRecDepth 100000
set_option maxHeartbeats 4000000
namespace CK
namespace Lk02
open PySem PySem.Spec PyProof.Rows L2
open CK.Pv CK.Pv.Lib CK.Lib
local macro_rules | `(tactic| walk_at "pp") => `(tactic| try simp only [CK.Pv.px_bnd, CK.Pv.px_ret, CK.Pv.px_ite, CK.Pv.px_pbad, CK.Pv.px_getS, CK.Pv.px_putS, CK.Pv.px_some, CK.Pv.px_run, CK.Pv.px_lft, CK.Pv.px_fnP, CK.Pv.px_fnN, CK.Pv.fin_rt, CK.Pv.fin_nx, CK.Pv.finN_rt, CK.Pv.finN_nx, CK.Pv.px_bndO, CK.Pv.aft_nx, CK.Pv.aft_rt, CK.Pv.aft_bk, CK.Pv.aft_ct, CK.Pv.lp_nx, CK.Pv.lp_ct, CK.Pv.lp_bk, CK.Pv.lp_rt, CK.Pv.bndI_nx, CK.Pv.bndI_rt, CK.Pv.ret_bnd, CK.Pv.opt_ret, CK.Pv.lft_ret, CK.Pv.px_throw, CK.Pv.asB_bl, CK.Pv.add_int, CK.Pv.sub_int, CK.Pv.lt_int, CK.Pv.le_int, CK.Pv.gt_int, CK.Pv.ge_int, CK.Pv.neg_int, CK.Pv.abs_int, CK.Pv.int_int, CK.Pv.int_bl, CK.Pv.max_int, CK.Pv.min_int, CK.Pv.len_tup, CK.Pv.len_lst, CK.Pv.len_fz, CK.Pv.len_dk, CK.Pv.walk_tup, CK.Pv.walk_lst, CK.Pv.walk_fz, CK.Pv.ix_tup, CK.Pv.ix_lst, CK.Pv.ix_fz, CK.Pv.at_0, CK.Pv.at_1, CK.Pv.at_2, CK.Pv.at_3, CK.Pv.at_4, CK.Pv.is_non, CK.Pv.is_int, CK.Pv.is_tup, CK.Pv.is_lst, CK.Pv.is_bl, CK.Pv.not_non, CK.Pv.not_int, CK.Pv.not_tup, CK.Pv.not_lst, CK.Pv.not_bl, CK.Pv.t2_tup, CK.Pv.t3_tup, CK.Pv.t4_tup, CK.Pv.t5_tup, CK.Pv.s2_lst, CK.Pv.s2_tup, CK.Pv.lsG_lst, CK.Pv.look_lst, CK.Pv.clr_mu, CK.Pv.enum_lst, CK.Pv.enum_tup, CK.Pv.enum_tup, CK.Pv.zip_lst, CK.Pv.list_tup, CK.Pv.list_lst, CK.Pv.tuple_tup, CK.Pv.tuple_lst, CK.Pv.part_int, CK.Pv.cut_tup, CK.Pv.cut_lst, CK.Pv.cutL_lst, CK.Pv.rev_lst, CK.Pv.eq_int, CK.Pv.ne_int, CK.Pv.eq_bl, CK.Pv.ne_bl, CK.Pv.dk_int, CK.Pv.px_at, CK.Pv.px_mod, CK.Pv.px_div, CK.Pv.px_pow, CK.Pv.px_mul, CK.Pv.px_addT, CK.Pv.px_addL, CK.Pv.px_cat, CK.Pv.px_rep, CK.Pv.px_app, CK.Pv.px_ext, CK.Pv.px_ins, CK.Pv.px_rng1, CK.Pv.px_rng2, CK.Pv.px_put, CK.Pv.px_rgL, decide_eq_true_eq, Bool.false_eq_true, Bool.true_eq_false, if_true, if_false, Bool.not_true, Bool.not_false, beq_self_eq_true, Option.isSome_some, Option.isSome_none, Option.some.injEq, exists_eq_left', decide_true, decide_false, Bool.not_eq_true', Int.reduceToNat, Int.reducePow, Int.reduceSub, Int.reduceAdd, Int.reduceMul, Int.reduceNeg, List.length_cons, List.length_nil])
theorem px_res {x : PM Unit U} {Q : U → Unit → Prop} {E : Str → List (Str × D) → Unit → Prop} (h : px x () Q E) : (∃ a, x = Pv.ret a ∧ Q a ()) ∨ (∃ n fs, x = pthrow n fs ∧ E n fs ()) := by
  unfold px at h
  cases e : x () with
  | ok a s => rw [e] at h; exact .inl ⟨a, funext fun _ => e, h⟩
  | ex n fs s => rw [e] at h; exact .inr ⟨n, fs, funext fun _ => e, h⟩
  | bad => rw [e] at h; exact h.elim
def twG (pre : List Int) : List Card → Option Int
  | [] => none
  | c :: cs => if c.1 ∈ pre then some c.1 else twG (pre ++ [c.1]) cs
def twK (cs : List Card) : Option Int := twG [] cs
theorem checked_px {cs : List Card} {v : U} (hw : (walkU v : PM Unit (List U)) = Pv.ret (cs.map cu)) (hl : (lenU v : PM Unit U) = Pv.ret (.int cs.length)) (hv : (listU v : PM Unit U) = Pv.ret (.lst (cs.map cu))) (hn : cs.length ≤ 100) :
    px (checked_P v) () (fun a _ => twK cs = none ∧ cs.length ≤ 64 ∧ a = .lst (cs.map cu)) (fun n fs _ => (∃ k, twK cs = some k ∧ n = "Twice" ∧ fs = ([("key", .int k)] : List (Str × D))) ∨ (twK cs = none ∧ 64 < cs.length ∧ n = "TooMany" ∧ fs = ([("most", .int 64)] : List (Str × D)))) := by
  unfold checked_P
  (try simp only [CK.Pv.px_bnd, CK.Pv.px_ret, CK.Pv.px_ite, CK.Pv.px_pbad, CK.Pv.px_getS, CK.Pv.px_putS, CK.Pv.px_some, CK.Pv.px_run, CK.Pv.px_lft, CK.Pv.px_fnP, CK.Pv.px_fnN, CK.Pv.fin_rt, CK.Pv.fin_nx, CK.Pv.finN_rt, CK.Pv.finN_nx, CK.Pv.px_bndO, CK.Pv.aft_nx, CK.Pv.aft_rt, CK.Pv.aft_bk, CK.Pv.aft_ct, CK.Pv.lp_nx, CK.Pv.lp_ct, CK.Pv.lp_bk, CK.Pv.lp_rt, CK.Pv.bndI_nx, CK.Pv.bndI_rt, CK.Pv.ret_bnd, CK.Pv.opt_ret, CK.Pv.lft_ret, CK.Pv.px_throw, CK.Pv.asB_bl, CK.Pv.add_int, CK.Pv.sub_int, CK.Pv.lt_int, CK.Pv.le_int, CK.Pv.gt_int, CK.Pv.ge_int, CK.Pv.neg_int, CK.Pv.abs_int, CK.Pv.int_int, CK.Pv.int_bl, CK.Pv.max_int, CK.Pv.min_int, CK.Pv.len_tup, CK.Pv.len_lst, CK.Pv.len_fz, CK.Pv.len_dk, CK.Pv.walk_tup, CK.Pv.walk_lst, CK.Pv.walk_fz, CK.Pv.ix_tup, CK.Pv.ix_lst, CK.Pv.ix_fz, CK.Pv.at_0, CK.Pv.at_1, CK.Pv.at_2, CK.Pv.at_3, CK.Pv.at_4, CK.Pv.is_non, CK.Pv.is_int, CK.Pv.is_tup, CK.Pv.is_lst, CK.Pv.is_bl, CK.Pv.not_non, CK.Pv.not_int, CK.Pv.not_tup, CK.Pv.not_lst, CK.Pv.not_bl, CK.Pv.t2_tup, CK.Pv.t3_tup, CK.Pv.t4_tup, CK.Pv.t5_tup, CK.Pv.s2_lst, CK.Pv.s2_tup, CK.Pv.lsG_lst, CK.Pv.look_lst, CK.Pv.clr_mu, CK.Pv.enum_lst, CK.Pv.enum_tup, CK.Pv.enum_tup, CK.Pv.zip_lst, CK.Pv.list_tup, CK.Pv.list_lst, CK.Pv.tuple_tup, CK.Pv.tuple_lst, CK.Pv.part_int, CK.Pv.cut_tup, CK.Pv.cut_lst, CK.Pv.cutL_lst, CK.Pv.rev_lst, CK.Pv.eq_int, CK.Pv.ne_int, CK.Pv.eq_bl, CK.Pv.ne_bl, CK.Pv.dk_int, CK.Pv.px_at, CK.Pv.px_mod, CK.Pv.px_div, CK.Pv.px_pow, CK.Pv.px_mul, CK.Pv.px_addT, CK.Pv.px_addL, CK.Pv.px_cat, CK.Pv.px_rep, CK.Pv.px_app, CK.Pv.px_ext, CK.Pv.px_ins, CK.Pv.px_rng1, CK.Pv.px_rng2, CK.Pv.px_put, CK.Pv.px_rgL, decide_eq_true_eq, Bool.false_eq_true, Bool.true_eq_false, if_true, if_false, Bool.not_true, Bool.not_false, beq_self_eq_true, Option.isSome_some, Option.isSome_none, Option.some.injEq, exists_eq_left', decide_true, decide_false, Bool.not_eq_true', Int.reduceToNat, Int.reducePow, Int.reduceSub, Int.reduceAdd, Int.reduceMul, Int.reduceNeg, List.length_cons, List.length_nil, hw])
  refine px_forL (by rw [List.length_map]; unfold FU; omega) (fun ys st _ => ∃ (ds : List Card) (pre : List Int) (kv : List (Key × U)), ys = ds.map cu ∧ st = .dk kv ∧ pre.length + ds.length = cs.length ∧ kv.length ≤ pre.length ∧ (∀ k : Int, (valG kv (.inl k)).isSome = true ↔ k ∈ pre) ∧ twK cs = twG pre ds) ⟨cs, [], [], rfl, rfl, by simp, by simp, fun k => by simp [valG], rfl⟩ (fun x ys st s hI => ?_) fun st s hI => ?_
  · obtain ⟨ds, pre, kv, hy, rfl, h1, h2, h3, h4⟩ := hI
    cases ds with
    | nil => cases hy
    | cons c ds =>
      injection hy with e1 e2
      subst e1 e2
      simp only [List.length_cons] at h1
      (try simp only [CK.Pv.px_bnd, CK.Pv.px_ret, CK.Pv.px_ite, CK.Pv.px_pbad, CK.Pv.px_getS, CK.Pv.px_putS, CK.Pv.px_some, CK.Pv.px_run, CK.Pv.px_lft, CK.Pv.px_fnP, CK.Pv.px_fnN, CK.Pv.fin_rt, CK.Pv.fin_nx, CK.Pv.finN_rt, CK.Pv.finN_nx, CK.Pv.px_bndO, CK.Pv.aft_nx, CK.Pv.aft_rt, CK.Pv.aft_bk, CK.Pv.aft_ct, CK.Pv.lp_nx, CK.Pv.lp_ct, CK.Pv.lp_bk, CK.Pv.lp_rt, CK.Pv.bndI_nx, CK.Pv.bndI_rt, CK.Pv.ret_bnd, CK.Pv.opt_ret, CK.Pv.lft_ret, CK.Pv.px_throw, CK.Pv.asB_bl, CK.Pv.add_int, CK.Pv.sub_int, CK.Pv.lt_int, CK.Pv.le_int, CK.Pv.gt_int, CK.Pv.ge_int, CK.Pv.neg_int, CK.Pv.abs_int, CK.Pv.int_int, CK.Pv.int_bl, CK.Pv.max_int, CK.Pv.min_int, CK.Pv.len_tup, CK.Pv.len_lst, CK.Pv.len_fz, CK.Pv.len_dk, CK.Pv.walk_tup, CK.Pv.walk_lst, CK.Pv.walk_fz, CK.Pv.ix_tup, CK.Pv.ix_lst, CK.Pv.ix_fz, CK.Pv.at_0, CK.Pv.at_1, CK.Pv.at_2, CK.Pv.at_3, CK.Pv.at_4, CK.Pv.is_non, CK.Pv.is_int, CK.Pv.is_tup, CK.Pv.is_lst, CK.Pv.is_bl, CK.Pv.not_non, CK.Pv.not_int, CK.Pv.not_tup, CK.Pv.not_lst, CK.Pv.not_bl, CK.Pv.t2_tup, CK.Pv.t3_tup, CK.Pv.t4_tup, CK.Pv.t5_tup, CK.Pv.s2_lst, CK.Pv.s2_tup, CK.Pv.lsG_lst, CK.Pv.look_lst, CK.Pv.clr_mu, CK.Pv.enum_lst, CK.Pv.enum_tup, CK.Pv.enum_tup, CK.Pv.zip_lst, CK.Pv.list_tup, CK.Pv.list_lst, CK.Pv.tuple_tup, CK.Pv.tuple_lst, CK.Pv.part_int, CK.Pv.cut_tup, CK.Pv.cut_lst, CK.Pv.cutL_lst, CK.Pv.rev_lst, CK.Pv.eq_int, CK.Pv.ne_int, CK.Pv.eq_bl, CK.Pv.ne_bl, CK.Pv.dk_int, CK.Pv.px_at, CK.Pv.px_mod, CK.Pv.px_div, CK.Pv.px_pow, CK.Pv.px_mul, CK.Pv.px_addT, CK.Pv.px_addL, CK.Pv.px_cat, CK.Pv.px_rep, CK.Pv.px_app, CK.Pv.px_ext, CK.Pv.px_ins, CK.Pv.px_rng1, CK.Pv.px_rng2, CK.Pv.px_put, CK.Pv.px_rgL, decide_eq_true_eq, Bool.false_eq_true, Bool.true_eq_false, if_true, if_false, Bool.not_true, Bool.not_false, beq_self_eq_true, Option.isSome_some, Option.isSome_none, Option.some.injEq, exists_eq_left', decide_true, decide_false, Bool.not_eq_true', Int.reduceToNat, Int.reducePow, Int.reduceSub, Int.reduceAdd, Int.reduceMul, Int.reduceNeg, List.length_cons, List.length_nil, cu_0])
      by_cases hc : c.1 ∈ pre
      · rw [if_pos ((h3 c.1).mpr hc)]
        simp only [raise_int, px_throw]
        exact .inl ⟨c.1, by rw [h4, twG, if_pos hc], trivial, rfl⟩
      · rw [if_neg (fun h => hc ((h3 c.1).mp h))]
        refine ⟨by rw [sizeLine_eq]; omega, ds, pre ++ [c.1], putG kv (.inl c.1) (.bl true), rfl, rfl, by simp; omega, ?_, fun k => ?_, by rw [h4, twG, if_neg hc]⟩
        · have := putG_len kv (.inl c.1) (U.bl true)
          rw [List.length_append]; simp; omega
        · rw [valG_put]
          by_cases e : (Sum.inl k : Key) = .inl c.1
          · rw [if_pos e]
            cases e
            simp
          · rw [if_neg e, h3 k, List.mem_append]
            have : k ≠ c.1 := fun z => e (by rw [z])
            simp [this]
  · obtain ⟨ds, pre, kv, hy, rfl, h1, h2, h3, h4⟩ := hI
    have : ds = [] := by cases ds with | nil => rfl | cons _ _ => cases hy
    subst this
    have h5 : twK cs = none := by rw [h4]; rfl
    (try simp only [CK.Pv.px_bnd, CK.Pv.px_ret, CK.Pv.px_ite, CK.Pv.px_pbad, CK.Pv.px_getS, CK.Pv.px_putS, CK.Pv.px_some, CK.Pv.px_run, CK.Pv.px_lft, CK.Pv.px_fnP, CK.Pv.px_fnN, CK.Pv.fin_rt, CK.Pv.fin_nx, CK.Pv.finN_rt, CK.Pv.finN_nx, CK.Pv.px_bndO, CK.Pv.aft_nx, CK.Pv.aft_rt, CK.Pv.aft_bk, CK.Pv.aft_ct, CK.Pv.lp_nx, CK.Pv.lp_ct, CK.Pv.lp_bk, CK.Pv.lp_rt, CK.Pv.bndI_nx, CK.Pv.bndI_rt, CK.Pv.ret_bnd, CK.Pv.opt_ret, CK.Pv.lft_ret, CK.Pv.px_throw, CK.Pv.asB_bl, CK.Pv.add_int, CK.Pv.sub_int, CK.Pv.lt_int, CK.Pv.le_int, CK.Pv.gt_int, CK.Pv.ge_int, CK.Pv.neg_int, CK.Pv.abs_int, CK.Pv.int_int, CK.Pv.int_bl, CK.Pv.max_int, CK.Pv.min_int, CK.Pv.len_tup, CK.Pv.len_lst, CK.Pv.len_fz, CK.Pv.len_dk, CK.Pv.walk_tup, CK.Pv.walk_lst, CK.Pv.walk_fz, CK.Pv.ix_tup, CK.Pv.ix_lst, CK.Pv.ix_fz, CK.Pv.at_0, CK.Pv.at_1, CK.Pv.at_2, CK.Pv.at_3, CK.Pv.at_4, CK.Pv.is_non, CK.Pv.is_int, CK.Pv.is_tup, CK.Pv.is_lst, CK.Pv.is_bl, CK.Pv.not_non, CK.Pv.not_int, CK.Pv.not_tup, CK.Pv.not_lst, CK.Pv.not_bl, CK.Pv.t2_tup, CK.Pv.t3_tup, CK.Pv.t4_tup, CK.Pv.t5_tup, CK.Pv.s2_lst, CK.Pv.s2_tup, CK.Pv.lsG_lst, CK.Pv.look_lst, CK.Pv.clr_mu, CK.Pv.enum_lst, CK.Pv.enum_tup, CK.Pv.enum_tup, CK.Pv.zip_lst, CK.Pv.list_tup, CK.Pv.list_lst, CK.Pv.tuple_tup, CK.Pv.tuple_lst, CK.Pv.part_int, CK.Pv.cut_tup, CK.Pv.cut_lst, CK.Pv.cutL_lst, CK.Pv.rev_lst, CK.Pv.eq_int, CK.Pv.ne_int, CK.Pv.eq_bl, CK.Pv.ne_bl, CK.Pv.dk_int, CK.Pv.px_at, CK.Pv.px_mod, CK.Pv.px_div, CK.Pv.px_pow, CK.Pv.px_mul, CK.Pv.px_addT, CK.Pv.px_addL, CK.Pv.px_cat, CK.Pv.px_rep, CK.Pv.px_app, CK.Pv.px_ext, CK.Pv.px_ins, CK.Pv.px_rng1, CK.Pv.px_rng2, CK.Pv.px_put, CK.Pv.px_rgL, decide_eq_true_eq, Bool.false_eq_true, Bool.true_eq_false, if_true, if_false, Bool.not_true, Bool.not_false, beq_self_eq_true, Option.isSome_some, Option.isSome_none, Option.some.injEq, exists_eq_left', decide_true, decide_false, Bool.not_eq_true', Int.reduceToNat, Int.reducePow, Int.reduceSub, Int.reduceAdd, Int.reduceMul, Int.reduceNeg, List.length_cons, List.length_nil, hl, hv])
    split
    · rename_i h
      simp only [raise_int, px_throw]
      exact .inr ⟨h5, by omega, trivial, trivial⟩
    · rename_i h
      exact ⟨h5, by omega, trivial⟩
theorem checked_eq {cs : List Card} {v : U} (hw : (walkU v : PM Unit (List U)) = Pv.ret (cs.map cu)) (hl : (lenU v : PM Unit U) = Pv.ret (.int cs.length)) (hv : (listU v : PM Unit U) = Pv.ret (.lst (cs.map cu))) (hn : cs.length ≤ 100) :
    checked_P v = (match twK cs with | some k => pthrow "Twice" [("key", .int k)] | none => if 64 < cs.length then pthrow "TooMany" [("most", .int 64)] else Pv.ret (.lst (cs.map cu))) := by
  rcases px_res (checked_px hw hl hv hn) with ⟨a, e, h1, h2, rfl⟩ | ⟨n, fs, e, h⟩
  · rw [e, h1]; dsimp only; rw [if_neg (by omega)]
  · rcases h with ⟨k, h1, rfl, rfl⟩ | ⟨h1, h2, rfl, rfl⟩
    · rw [e, h1]
    · rw [e, h1]; dsimp only; rw [if_pos h2]
theorem twice_eq {cs : List Card} (hn : cs.length ≤ 100) : law_twice_P (.lst (cs.map cu)) = Pv.ret (match twK cs with | some k => .int k | none => .non) := by
  refine ret_of ?_
  unfold law_twice_P
  (try simp only [CK.Pv.px_bnd, CK.Pv.px_ret, CK.Pv.px_ite, CK.Pv.px_pbad, CK.Pv.px_getS, CK.Pv.px_putS, CK.Pv.px_some, CK.Pv.px_run, CK.Pv.px_lft, CK.Pv.px_fnP, CK.Pv.px_fnN, CK.Pv.fin_rt, CK.Pv.fin_nx, CK.Pv.finN_rt, CK.Pv.finN_nx, CK.Pv.px_bndO, CK.Pv.aft_nx, CK.Pv.aft_rt, CK.Pv.aft_bk, CK.Pv.aft_ct, CK.Pv.lp_nx, CK.Pv.lp_ct, CK.Pv.lp_bk, CK.Pv.lp_rt, CK.Pv.bndI_nx, CK.Pv.bndI_rt, CK.Pv.ret_bnd, CK.Pv.opt_ret, CK.Pv.lft_ret, CK.Pv.px_throw, CK.Pv.asB_bl, CK.Pv.add_int, CK.Pv.sub_int, CK.Pv.lt_int, CK.Pv.le_int, CK.Pv.gt_int, CK.Pv.ge_int, CK.Pv.neg_int, CK.Pv.abs_int, CK.Pv.int_int, CK.Pv.int_bl, CK.Pv.max_int, CK.Pv.min_int, CK.Pv.len_tup, CK.Pv.len_lst, CK.Pv.len_fz, CK.Pv.len_dk, CK.Pv.walk_tup, CK.Pv.walk_lst, CK.Pv.walk_fz, CK.Pv.ix_tup, CK.Pv.ix_lst, CK.Pv.ix_fz, CK.Pv.at_0, CK.Pv.at_1, CK.Pv.at_2, CK.Pv.at_3, CK.Pv.at_4, CK.Pv.is_non, CK.Pv.is_int, CK.Pv.is_tup, CK.Pv.is_lst, CK.Pv.is_bl, CK.Pv.not_non, CK.Pv.not_int, CK.Pv.not_tup, CK.Pv.not_lst, CK.Pv.not_bl, CK.Pv.t2_tup, CK.Pv.t3_tup, CK.Pv.t4_tup, CK.Pv.t5_tup, CK.Pv.s2_lst, CK.Pv.s2_tup, CK.Pv.lsG_lst, CK.Pv.look_lst, CK.Pv.clr_mu, CK.Pv.enum_lst, CK.Pv.enum_tup, CK.Pv.enum_tup, CK.Pv.zip_lst, CK.Pv.list_tup, CK.Pv.list_lst, CK.Pv.tuple_tup, CK.Pv.tuple_lst, CK.Pv.part_int, CK.Pv.cut_tup, CK.Pv.cut_lst, CK.Pv.cutL_lst, CK.Pv.rev_lst, CK.Pv.eq_int, CK.Pv.ne_int, CK.Pv.eq_bl, CK.Pv.ne_bl, CK.Pv.dk_int, CK.Pv.px_at, CK.Pv.px_mod, CK.Pv.px_div, CK.Pv.px_pow, CK.Pv.px_mul, CK.Pv.px_addT, CK.Pv.px_addL, CK.Pv.px_cat, CK.Pv.px_rep, CK.Pv.px_app, CK.Pv.px_ext, CK.Pv.px_ins, CK.Pv.px_rng1, CK.Pv.px_rng2, CK.Pv.px_put, CK.Pv.px_rgL, decide_eq_true_eq, Bool.false_eq_true, Bool.true_eq_false, if_true, if_false, Bool.not_true, Bool.not_false, beq_self_eq_true, Option.isSome_some, Option.isSome_none, Option.some.injEq, exists_eq_left', decide_true, decide_false, Bool.not_eq_true', Int.reduceToNat, Int.reducePow, Int.reduceSub, Int.reduceAdd, Int.reduceMul, Int.reduceNeg, List.length_cons, List.length_nil, List.length_map])
  refine ⟨⟨by omega, by omega⟩, ?_⟩
  refine px_for (by rw [rgU_len]; unfold FU; omega) (fun i st _ => twK cs = twG ((cs.take i).map (·.1)) (cs.drop i)) rfl (fun i x st s hx hI => ?_) fun st s hI => ?_
  · obtain ⟨hi, rfl⟩ := rgU_at hx
    have hi' : i < cs.length := by omega
    have hc : (cs.map cu)[i]? = some (cu cs[i]) := by rw [List.getElem?_map, List.getElem?_eq_getElem hi']; rfl
    have hd : cs.drop i = cs[i] :: cs.drop (i + 1) := List.drop_eq_getElem_cons hi'
    walk_at "pp"
    refine ⟨_, at_nat (by omega) hc, ?_⟩
    (try simp only [CK.Pv.px_bnd, CK.Pv.px_ret, CK.Pv.px_ite, CK.Pv.px_pbad, CK.Pv.px_getS, CK.Pv.px_putS, CK.Pv.px_some, CK.Pv.px_run, CK.Pv.px_lft, CK.Pv.px_fnP, CK.Pv.px_fnN, CK.Pv.fin_rt, CK.Pv.fin_nx, CK.Pv.finN_rt, CK.Pv.finN_nx, CK.Pv.px_bndO, CK.Pv.aft_nx, CK.Pv.aft_rt, CK.Pv.aft_bk, CK.Pv.aft_ct, CK.Pv.lp_nx, CK.Pv.lp_ct, CK.Pv.lp_bk, CK.Pv.lp_rt, CK.Pv.bndI_nx, CK.Pv.bndI_rt, CK.Pv.ret_bnd, CK.Pv.opt_ret, CK.Pv.lft_ret, CK.Pv.px_throw, CK.Pv.asB_bl, CK.Pv.add_int, CK.Pv.sub_int, CK.Pv.lt_int, CK.Pv.le_int, CK.Pv.gt_int, CK.Pv.ge_int, CK.Pv.neg_int, CK.Pv.abs_int, CK.Pv.int_int, CK.Pv.int_bl, CK.Pv.max_int, CK.Pv.min_int, CK.Pv.len_tup, CK.Pv.len_lst, CK.Pv.len_fz, CK.Pv.len_dk, CK.Pv.walk_tup, CK.Pv.walk_lst, CK.Pv.walk_fz, CK.Pv.ix_tup, CK.Pv.ix_lst, CK.Pv.ix_fz, CK.Pv.at_0, CK.Pv.at_1, CK.Pv.at_2, CK.Pv.at_3, CK.Pv.at_4, CK.Pv.is_non, CK.Pv.is_int, CK.Pv.is_tup, CK.Pv.is_lst, CK.Pv.is_bl, CK.Pv.not_non, CK.Pv.not_int, CK.Pv.not_tup, CK.Pv.not_lst, CK.Pv.not_bl, CK.Pv.t2_tup, CK.Pv.t3_tup, CK.Pv.t4_tup, CK.Pv.t5_tup, CK.Pv.s2_lst, CK.Pv.s2_tup, CK.Pv.lsG_lst, CK.Pv.look_lst, CK.Pv.clr_mu, CK.Pv.enum_lst, CK.Pv.enum_tup, CK.Pv.enum_tup, CK.Pv.zip_lst, CK.Pv.list_tup, CK.Pv.list_lst, CK.Pv.tuple_tup, CK.Pv.tuple_lst, CK.Pv.part_int, CK.Pv.cut_tup, CK.Pv.cut_lst, CK.Pv.cutL_lst, CK.Pv.rev_lst, CK.Pv.eq_int, CK.Pv.ne_int, CK.Pv.eq_bl, CK.Pv.ne_bl, CK.Pv.dk_int, CK.Pv.px_at, CK.Pv.px_mod, CK.Pv.px_div, CK.Pv.px_pow, CK.Pv.px_mul, CK.Pv.px_addT, CK.Pv.px_addL, CK.Pv.px_cat, CK.Pv.px_rep, CK.Pv.px_app, CK.Pv.px_ext, CK.Pv.px_ins, CK.Pv.px_rng1, CK.Pv.px_rng2, CK.Pv.px_put, CK.Pv.px_rgL, decide_eq_true_eq, Bool.false_eq_true, Bool.true_eq_false, if_true, if_false, Bool.not_true, Bool.not_false, beq_self_eq_true, Option.isSome_some, Option.isSome_none, Option.some.injEq, exists_eq_left', decide_true, decide_false, Bool.not_eq_true', Int.reduceToNat, Int.reducePow, Int.reduceSub, Int.reduceAdd, Int.reduceMul, Int.reduceNeg, List.length_cons, List.length_nil, cu_0])
    have e0 : cutD (cs.map cu) none (some (0 + (i : Int))) = (cs.take i).map cu := by rw [cut_hi (by omega), ← List.map_take]; congr 1; congr 1; omega
    rw [e0, lc_map (g := fun c : Card => some (.int c.1)) (by rw [sizeLine_eq, List.length_take]; omega) (fun c _ => by simp only [cu_0, ret_bnd]), fm_some]
    have e1 : (cs.take i).map (fun c : Card => U.int c.1) = ((cs.take i).map (·.1)).map U.int := by rw [List.map_map]; rfl
    rw [e1]
    (try simp only [CK.Pv.px_bnd, CK.Pv.px_ret, CK.Pv.px_ite, CK.Pv.px_pbad, CK.Pv.px_getS, CK.Pv.px_putS, CK.Pv.px_some, CK.Pv.px_run, CK.Pv.px_lft, CK.Pv.px_fnP, CK.Pv.px_fnN, CK.Pv.fin_rt, CK.Pv.fin_nx, CK.Pv.finN_rt, CK.Pv.finN_nx, CK.Pv.px_bndO, CK.Pv.aft_nx, CK.Pv.aft_rt, CK.Pv.aft_bk, CK.Pv.aft_ct, CK.Pv.lp_nx, CK.Pv.lp_ct, CK.Pv.lp_bk, CK.Pv.lp_rt, CK.Pv.bndI_nx, CK.Pv.bndI_rt, CK.Pv.ret_bnd, CK.Pv.opt_ret, CK.Pv.lft_ret, CK.Pv.px_throw, CK.Pv.asB_bl, CK.Pv.add_int, CK.Pv.sub_int, CK.Pv.lt_int, CK.Pv.le_int, CK.Pv.gt_int, CK.Pv.ge_int, CK.Pv.neg_int, CK.Pv.abs_int, CK.Pv.int_int, CK.Pv.int_bl, CK.Pv.max_int, CK.Pv.min_int, CK.Pv.len_tup, CK.Pv.len_lst, CK.Pv.len_fz, CK.Pv.len_dk, CK.Pv.walk_tup, CK.Pv.walk_lst, CK.Pv.walk_fz, CK.Pv.ix_tup, CK.Pv.ix_lst, CK.Pv.ix_fz, CK.Pv.at_0, CK.Pv.at_1, CK.Pv.at_2, CK.Pv.at_3, CK.Pv.at_4, CK.Pv.is_non, CK.Pv.is_int, CK.Pv.is_tup, CK.Pv.is_lst, CK.Pv.is_bl, CK.Pv.not_non, CK.Pv.not_int, CK.Pv.not_tup, CK.Pv.not_lst, CK.Pv.not_bl, CK.Pv.t2_tup, CK.Pv.t3_tup, CK.Pv.t4_tup, CK.Pv.t5_tup, CK.Pv.s2_lst, CK.Pv.s2_tup, CK.Pv.lsG_lst, CK.Pv.look_lst, CK.Pv.clr_mu, CK.Pv.enum_lst, CK.Pv.enum_tup, CK.Pv.enum_tup, CK.Pv.zip_lst, CK.Pv.list_tup, CK.Pv.list_lst, CK.Pv.tuple_tup, CK.Pv.tuple_lst, CK.Pv.part_int, CK.Pv.cut_tup, CK.Pv.cut_lst, CK.Pv.cutL_lst, CK.Pv.rev_lst, CK.Pv.eq_int, CK.Pv.ne_int, CK.Pv.eq_bl, CK.Pv.ne_bl, CK.Pv.dk_int, CK.Pv.px_at, CK.Pv.px_mod, CK.Pv.px_div, CK.Pv.px_pow, CK.Pv.px_mul, CK.Pv.px_addT, CK.Pv.px_addL, CK.Pv.px_cat, CK.Pv.px_rep, CK.Pv.px_app, CK.Pv.px_ext, CK.Pv.px_ins, CK.Pv.px_rng1, CK.Pv.px_rng2, CK.Pv.px_put, CK.Pv.px_rgL, decide_eq_true_eq, Bool.false_eq_true, Bool.true_eq_false, if_true, if_false, Bool.not_true, Bool.not_false, beq_self_eq_true, Option.isSome_some, Option.isSome_none, Option.some.injEq, exists_eq_left', decide_true, decide_false, Bool.not_eq_true', Int.reduceToNat, Int.reducePow, Int.reduceSub, Int.reduceAdd, Int.reduceMul, Int.reduceNeg, List.length_cons, List.length_nil, in_ints])
    rw [hd, twG] at hI
    by_cases hm : cs[i].1 ∈ (cs.take i).map (·.1)
    · rw [if_pos hm] at hI
      rw [if_pos hm, hI]
      refine ⟨_, at_nat (by omega) hc, ?_⟩
      (try simp only [CK.Pv.px_bnd, CK.Pv.px_ret, CK.Pv.px_ite, CK.Pv.px_pbad, CK.Pv.px_getS, CK.Pv.px_putS, CK.Pv.px_some, CK.Pv.px_run, CK.Pv.px_lft, CK.Pv.px_fnP, CK.Pv.px_fnN, CK.Pv.fin_rt, CK.Pv.fin_nx, CK.Pv.finN_rt, CK.Pv.finN_nx, CK.Pv.px_bndO, CK.Pv.aft_nx, CK.Pv.aft_rt, CK.Pv.aft_bk, CK.Pv.aft_ct, CK.Pv.lp_nx, CK.Pv.lp_ct, CK.Pv.lp_bk, CK.Pv.lp_rt, CK.Pv.bndI_nx, CK.Pv.bndI_rt, CK.Pv.ret_bnd, CK.Pv.opt_ret, CK.Pv.lft_ret, CK.Pv.px_throw, CK.Pv.asB_bl, CK.Pv.add_int, CK.Pv.sub_int, CK.Pv.lt_int, CK.Pv.le_int, CK.Pv.gt_int, CK.Pv.ge_int, CK.Pv.neg_int, CK.Pv.abs_int, CK.Pv.int_int, CK.Pv.int_bl, CK.Pv.max_int, CK.Pv.min_int, CK.Pv.len_tup, CK.Pv.len_lst, CK.Pv.len_fz, CK.Pv.len_dk, CK.Pv.walk_tup, CK.Pv.walk_lst, CK.Pv.walk_fz, CK.Pv.ix_tup, CK.Pv.ix_lst, CK.Pv.ix_fz, CK.Pv.at_0, CK.Pv.at_1, CK.Pv.at_2, CK.Pv.at_3, CK.Pv.at_4, CK.Pv.is_non, CK.Pv.is_int, CK.Pv.is_tup, CK.Pv.is_lst, CK.Pv.is_bl, CK.Pv.not_non, CK.Pv.not_int, CK.Pv.not_tup, CK.Pv.not_lst, CK.Pv.not_bl, CK.Pv.t2_tup, CK.Pv.t3_tup, CK.Pv.t4_tup, CK.Pv.t5_tup, CK.Pv.s2_lst, CK.Pv.s2_tup, CK.Pv.lsG_lst, CK.Pv.look_lst, CK.Pv.clr_mu, CK.Pv.enum_lst, CK.Pv.enum_tup, CK.Pv.enum_tup, CK.Pv.zip_lst, CK.Pv.list_tup, CK.Pv.list_lst, CK.Pv.tuple_tup, CK.Pv.tuple_lst, CK.Pv.part_int, CK.Pv.cut_tup, CK.Pv.cut_lst, CK.Pv.cutL_lst, CK.Pv.rev_lst, CK.Pv.eq_int, CK.Pv.ne_int, CK.Pv.eq_bl, CK.Pv.ne_bl, CK.Pv.dk_int, CK.Pv.px_at, CK.Pv.px_mod, CK.Pv.px_div, CK.Pv.px_pow, CK.Pv.px_mul, CK.Pv.px_addT, CK.Pv.px_addL, CK.Pv.px_cat, CK.Pv.px_rep, CK.Pv.px_app, CK.Pv.px_ext, CK.Pv.px_ins, CK.Pv.px_rng1, CK.Pv.px_rng2, CK.Pv.px_put, CK.Pv.px_rgL, decide_eq_true_eq, Bool.false_eq_true, Bool.true_eq_false, if_true, if_false, Bool.not_true, Bool.not_false, beq_self_eq_true, Option.isSome_some, Option.isSome_none, Option.some.injEq, exists_eq_left', decide_true, decide_false, Bool.not_eq_true', Int.reduceToNat, Int.reducePow, Int.reduceSub, Int.reduceAdd, Int.reduceMul, Int.reduceNeg, List.length_cons, List.length_nil, cu_0])
    · rw [if_neg hm] at hI
      rw [if_neg hm, hI]
      rw [List.take_add_one, List.getElem?_eq_getElem hi', List.map_append]
      rfl
  · rw [rgU_len] at hI
    have : (cs.drop (((cs.length : Int) - 0).toNat)) = [] := List.drop_of_length_le (by omega)
    rw [this] at hI
    walk_at "pp"
    rw [hI]
    rfl
theorem two_in : (Str.ofString "Twice") ∈ LX := by decide +kernel
theorem many_in : (Str.ofString "TooMany") ∈ LX := by decide +kernel
theorem isX_eq {L : List Str} {h n : Str} {fs : List (Str × D)} {ε : Type} (hn : n ∈ L) : (isXP L h (.exn n fs) : PM ε U) = Pv.ret (.bl (exS n h)) := by unfold isXP; dsimp only; rw [if_pos hn]
theorem fldX_eq {L : List Str} {f n : Str} {fs : List (Str × D)} {v : U} {ε : Type} (hn : n ∈ L) (e : (fs.lookup f).bind ofD = some v) : (fldXP L f (.exn n fs) : PM ε U) = Pv.ret v := by unfold fldXP; dsimp only; rw [if_pos hn, e]; rfl
theorem alone_2 {fs : List (Str × D)} : law_alone_P (.exn "Twice" fs) (.int 0) = Pv.ret (.bl true) := by
  have i1 : ∀ ε h, (isXP LX h (.exn "Twice" fs) : PM ε U) = Pv.ret (.bl (exS "Twice" h)) := fun ε h => isX_eq two_in
  have e1 : exS "Twice" "Twice" = true := by decide +kernel
  have e2 : exS "Twice" "ValueError" = true := by decide +kernel
  have e3 : exS "Twice" "NoTurn" = false := by decide +kernel
  have e4 : exS "Twice" "TooMany" = false := by decide +kernel
  have e5 : exS "Twice" "NoKey" = false := by decide +kernel
  have e6 : exS "Twice" "Mingled" = false := by decide +kernel
  have c1 : (countDU (.lst [.bl true, .bl false, .bl false, .bl false, .bl false]) (.bl true) : PM Unit U) = Pv.ret (.int 1) := by funext s; rfl
  refine ret_of ?_
  unfold law_alone_P
  (try simp only [CK.Pv.px_bnd, CK.Pv.px_ret, CK.Pv.px_ite, CK.Pv.px_pbad, CK.Pv.px_getS, CK.Pv.px_putS, CK.Pv.px_some, CK.Pv.px_run, CK.Pv.px_lft, CK.Pv.px_fnP, CK.Pv.px_fnN, CK.Pv.fin_rt, CK.Pv.fin_nx, CK.Pv.finN_rt, CK.Pv.finN_nx, CK.Pv.px_bndO, CK.Pv.aft_nx, CK.Pv.aft_rt, CK.Pv.aft_bk, CK.Pv.aft_ct, CK.Pv.lp_nx, CK.Pv.lp_ct, CK.Pv.lp_bk, CK.Pv.lp_rt, CK.Pv.bndI_nx, CK.Pv.bndI_rt, CK.Pv.ret_bnd, CK.Pv.opt_ret, CK.Pv.lft_ret, CK.Pv.px_throw, CK.Pv.asB_bl, CK.Pv.add_int, CK.Pv.sub_int, CK.Pv.lt_int, CK.Pv.le_int, CK.Pv.gt_int, CK.Pv.ge_int, CK.Pv.neg_int, CK.Pv.abs_int, CK.Pv.int_int, CK.Pv.int_bl, CK.Pv.max_int, CK.Pv.min_int, CK.Pv.len_tup, CK.Pv.len_lst, CK.Pv.len_fz, CK.Pv.len_dk, CK.Pv.walk_tup, CK.Pv.walk_lst, CK.Pv.walk_fz, CK.Pv.ix_tup, CK.Pv.ix_lst, CK.Pv.ix_fz, CK.Pv.at_0, CK.Pv.at_1, CK.Pv.at_2, CK.Pv.at_3, CK.Pv.at_4, CK.Pv.is_non, CK.Pv.is_int, CK.Pv.is_tup, CK.Pv.is_lst, CK.Pv.is_bl, CK.Pv.not_non, CK.Pv.not_int, CK.Pv.not_tup, CK.Pv.not_lst, CK.Pv.not_bl, CK.Pv.t2_tup, CK.Pv.t3_tup, CK.Pv.t4_tup, CK.Pv.t5_tup, CK.Pv.s2_lst, CK.Pv.s2_tup, CK.Pv.lsG_lst, CK.Pv.look_lst, CK.Pv.clr_mu, CK.Pv.enum_lst, CK.Pv.enum_tup, CK.Pv.enum_tup, CK.Pv.zip_lst, CK.Pv.list_tup, CK.Pv.list_lst, CK.Pv.tuple_tup, CK.Pv.tuple_lst, CK.Pv.part_int, CK.Pv.cut_tup, CK.Pv.cut_lst, CK.Pv.cutL_lst, CK.Pv.rev_lst, CK.Pv.eq_int, CK.Pv.ne_int, CK.Pv.eq_bl, CK.Pv.ne_bl, CK.Pv.dk_int, CK.Pv.px_at, CK.Pv.px_mod, CK.Pv.px_div, CK.Pv.px_pow, CK.Pv.px_mul, CK.Pv.px_addT, CK.Pv.px_addL, CK.Pv.px_cat, CK.Pv.px_rep, CK.Pv.px_app, CK.Pv.px_ext, CK.Pv.px_ins, CK.Pv.px_rng1, CK.Pv.px_rng2, CK.Pv.px_put, CK.Pv.px_rgL, decide_eq_true_eq, Bool.false_eq_true, Bool.true_eq_false, if_true, if_false, Bool.not_true, Bool.not_false, beq_self_eq_true, Option.isSome_some, Option.isSome_none, Option.some.injEq, exists_eq_left', decide_true, decide_false, Bool.not_eq_true', Int.reduceToNat, Int.reducePow, Int.reduceSub, Int.reduceAdd, Int.reduceMul, Int.reduceNeg, List.length_cons, List.length_nil, i1, e1, e2, e3, e4, e5, e6, c1])
theorem alone_m {fs : List (Str × D)} : law_alone_P (.exn "TooMany" fs) (.int 1) = Pv.ret (.bl true) := by
  have i1 : ∀ ε h, (isXP LX h (.exn "TooMany" fs) : PM ε U) = Pv.ret (.bl (exS "TooMany" h)) := fun ε h => isX_eq many_in
  have e1 : exS "TooMany" "Twice" = false := by decide +kernel
  have e2 : exS "TooMany" "ValueError" = true := by decide +kernel
  have e3 : exS "TooMany" "NoTurn" = false := by decide +kernel
  have e4 : exS "TooMany" "TooMany" = true := by decide +kernel
  have e5 : exS "TooMany" "NoKey" = false := by decide +kernel
  have e6 : exS "TooMany" "Mingled" = false := by decide +kernel
  have c1 : (countDU (.lst [.bl false, .bl true, .bl false, .bl false, .bl false]) (.bl true) : PM Unit U) = Pv.ret (.int 1) := by funext s; rfl
  refine ret_of ?_
  unfold law_alone_P
  (try simp only [CK.Pv.px_bnd, CK.Pv.px_ret, CK.Pv.px_ite, CK.Pv.px_pbad, CK.Pv.px_getS, CK.Pv.px_putS, CK.Pv.px_some, CK.Pv.px_run, CK.Pv.px_lft, CK.Pv.px_fnP, CK.Pv.px_fnN, CK.Pv.fin_rt, CK.Pv.fin_nx, CK.Pv.finN_rt, CK.Pv.finN_nx, CK.Pv.px_bndO, CK.Pv.aft_nx, CK.Pv.aft_rt, CK.Pv.aft_bk, CK.Pv.aft_ct, CK.Pv.lp_nx, CK.Pv.lp_ct, CK.Pv.lp_bk, CK.Pv.lp_rt, CK.Pv.bndI_nx, CK.Pv.bndI_rt, CK.Pv.ret_bnd, CK.Pv.opt_ret, CK.Pv.lft_ret, CK.Pv.px_throw, CK.Pv.asB_bl, CK.Pv.add_int, CK.Pv.sub_int, CK.Pv.lt_int, CK.Pv.le_int, CK.Pv.gt_int, CK.Pv.ge_int, CK.Pv.neg_int, CK.Pv.abs_int, CK.Pv.int_int, CK.Pv.int_bl, CK.Pv.max_int, CK.Pv.min_int, CK.Pv.len_tup, CK.Pv.len_lst, CK.Pv.len_fz, CK.Pv.len_dk, CK.Pv.walk_tup, CK.Pv.walk_lst, CK.Pv.walk_fz, CK.Pv.ix_tup, CK.Pv.ix_lst, CK.Pv.ix_fz, CK.Pv.at_0, CK.Pv.at_1, CK.Pv.at_2, CK.Pv.at_3, CK.Pv.at_4, CK.Pv.is_non, CK.Pv.is_int, CK.Pv.is_tup, CK.Pv.is_lst, CK.Pv.is_bl, CK.Pv.not_non, CK.Pv.not_int, CK.Pv.not_tup, CK.Pv.not_lst, CK.Pv.not_bl, CK.Pv.t2_tup, CK.Pv.t3_tup, CK.Pv.t4_tup, CK.Pv.t5_tup, CK.Pv.s2_lst, CK.Pv.s2_tup, CK.Pv.lsG_lst, CK.Pv.look_lst, CK.Pv.clr_mu, CK.Pv.enum_lst, CK.Pv.enum_tup, CK.Pv.enum_tup, CK.Pv.zip_lst, CK.Pv.list_tup, CK.Pv.list_lst, CK.Pv.tuple_tup, CK.Pv.tuple_lst, CK.Pv.part_int, CK.Pv.cut_tup, CK.Pv.cut_lst, CK.Pv.cutL_lst, CK.Pv.rev_lst, CK.Pv.eq_int, CK.Pv.ne_int, CK.Pv.eq_bl, CK.Pv.ne_bl, CK.Pv.dk_int, CK.Pv.px_at, CK.Pv.px_mod, CK.Pv.px_div, CK.Pv.px_pow, CK.Pv.px_mul, CK.Pv.px_addT, CK.Pv.px_addL, CK.Pv.px_cat, CK.Pv.px_rep, CK.Pv.px_app, CK.Pv.px_ext, CK.Pv.px_ins, CK.Pv.px_rng1, CK.Pv.px_rng2, CK.Pv.px_put, CK.Pv.px_rgL, decide_eq_true_eq, Bool.false_eq_true, Bool.true_eq_false, if_true, if_false, Bool.not_true, Bool.not_false, beq_self_eq_true, Option.isSome_some, Option.isSome_none, Option.some.injEq, exists_eq_left', decide_true, decide_false, Bool.not_eq_true', Int.reduceToNat, Int.reducePow, Int.reduceSub, Int.reduceAdd, Int.reduceMul, Int.reduceNeg, List.length_cons, List.length_nil, i1, e1, e2, e3, e4, e5, e6, c1])
theorem refusal_eq {cs : List Card} {v : U} (h : checked_P v = (match twK cs with | some k => pthrow "Twice" [("key", .int k)] | none => if 64 < cs.length then pthrow "TooMany" [("most", .int 64)] else Pv.ret (.lst (cs.map cu)))) :
    law_refusal_P v = Pv.ret (match twK cs with | some k => .exn "Twice" [("key", .int k)] | none => if 64 < cs.length then .exn "TooMany" [("most", .int 64)] else .lst (cs.map cu)) := by
  refine ret_of ?_
  unfold law_refusal_P
  simp only [ret_bnd, h]
  cases twK cs with
  | some k =>
    simp only [throw_bnd]
    rw [try_throw two_in (by decide +kernel), nox_ret]
    walk_at "pp"
  | none =>
    dsimp only
    split
    · simp only [throw_bnd]
      rw [try_throw many_in (by decide +kernel), nox_ret]
      walk_at "pp"
    · simp only [ret_bnd, try_ret]
      walk_at "pp"
theorem cards_px {s : U} {Q : U → U → Prop} {E : Str → List (Str × D) → U → Prop} (hs : Pot s) (q : ∀ (cs : List Card) s', cs.length ≤ 75 → Pot s' → Q (.lst (cs.map cu)) s') : px law_cards_P s Q E := by
  unfold law_cards_P
  walk_at "pp"
  refine take_px hs (by decide) (by decide) fun way s1 w0 w1 h1 => ?_
  walk_at "pp"
  refine take_px h1 (by decide) (by decide) fun tw s2 t0 t1 h2 => ?_
  walk_at "pp"
  refine take_px h2 (by decide) (by decide) fun a s3 a0 a1 h3 => ?_
  walk_at "pp"
  refine take_px h3 (by decide) (by decide) fun b s4 b0 b1 h4 => ?_
  walk_at "pp"
  refine take_px h4 (by decide) (by decide) fun d s5 d0 d1 h5 => ?_
  obtain ⟨m, hm, m0, m1⟩ := at_ints (ns := [a, b, 64 + d]) (i := way) (fun x => 0 ≤ x ∧ x ≤ 70) (by simp; omega) w0 w1
  walk_at "pp"
  refine ⟨_, hm, ?_⟩
  refine great_px h5 fun g s6 g0 g1 h6 => ?_
  walk_at "pp"
  refine take_px h6 (by decide) (by decide) fun z s7 z0 z1 h7 => ?_
  walk_at "pp"
  have hb : 0 ≤ g * z ∧ g * z ≤ 10 ^ 18 := by
    have : z = 0 ∨ z = 1 := by omega
    rcases this with rfl | rfl <;> omega
  refine ⟨cmul_s (by omega) (by omega) (by omega) (by omega), ⟨by omega, by omega⟩, ?_⟩
  generalize g * z = e at hb
  refine px_for (by rw [rgU_len]; unfold FU; omega) (fun i st s => Pot s ∧ ∃ cs : List Card, st = .lst (cs.map cu) ∧ cs.length = i) ⟨h7, [], rfl, rfl⟩ (fun i x st s hx hI => ?_) fun st s hI => ?_
  · obtain ⟨hp, cs, rfl, hl⟩ := hI
    obtain ⟨hi, rfl⟩ := rgU_at hx
    walk_at "pp"
    refine card_px hp hb.1 hb.2 (by decide) (by decide) fun c s8 hc h8 => ?_
    refine px_join (fun v s' => Pot s' ∧ ∃ c : Card, v = cu c) ?_ fun v s9 hv => ?_
    · walk_at "pp"
      split
      · (try simp only [CK.Pv.px_bnd, CK.Pv.px_ret, CK.Pv.px_ite, CK.Pv.px_pbad, CK.Pv.px_getS, CK.Pv.px_putS, CK.Pv.px_some, CK.Pv.px_run, CK.Pv.px_lft, CK.Pv.px_fnP, CK.Pv.px_fnN, CK.Pv.fin_rt, CK.Pv.fin_nx, CK.Pv.finN_rt, CK.Pv.finN_nx, CK.Pv.px_bndO, CK.Pv.aft_nx, CK.Pv.aft_rt, CK.Pv.aft_bk, CK.Pv.aft_ct, CK.Pv.lp_nx, CK.Pv.lp_ct, CK.Pv.lp_bk, CK.Pv.lp_rt, CK.Pv.bndI_nx, CK.Pv.bndI_rt, CK.Pv.ret_bnd, CK.Pv.opt_ret, CK.Pv.lft_ret, CK.Pv.px_throw, CK.Pv.asB_bl, CK.Pv.add_int, CK.Pv.sub_int, CK.Pv.lt_int, CK.Pv.le_int, CK.Pv.gt_int, CK.Pv.ge_int, CK.Pv.neg_int, CK.Pv.abs_int, CK.Pv.int_int, CK.Pv.int_bl, CK.Pv.max_int, CK.Pv.min_int, CK.Pv.len_tup, CK.Pv.len_lst, CK.Pv.len_fz, CK.Pv.len_dk, CK.Pv.walk_tup, CK.Pv.walk_lst, CK.Pv.walk_fz, CK.Pv.ix_tup, CK.Pv.ix_lst, CK.Pv.ix_fz, CK.Pv.at_0, CK.Pv.at_1, CK.Pv.at_2, CK.Pv.at_3, CK.Pv.at_4, CK.Pv.is_non, CK.Pv.is_int, CK.Pv.is_tup, CK.Pv.is_lst, CK.Pv.is_bl, CK.Pv.not_non, CK.Pv.not_int, CK.Pv.not_tup, CK.Pv.not_lst, CK.Pv.not_bl, CK.Pv.t2_tup, CK.Pv.t3_tup, CK.Pv.t4_tup, CK.Pv.t5_tup, CK.Pv.s2_lst, CK.Pv.s2_tup, CK.Pv.lsG_lst, CK.Pv.look_lst, CK.Pv.clr_mu, CK.Pv.enum_lst, CK.Pv.enum_tup, CK.Pv.enum_tup, CK.Pv.zip_lst, CK.Pv.list_tup, CK.Pv.list_lst, CK.Pv.tuple_tup, CK.Pv.tuple_lst, CK.Pv.part_int, CK.Pv.cut_tup, CK.Pv.cut_lst, CK.Pv.cutL_lst, CK.Pv.rev_lst, CK.Pv.eq_int, CK.Pv.ne_int, CK.Pv.eq_bl, CK.Pv.ne_bl, CK.Pv.dk_int, CK.Pv.px_at, CK.Pv.px_mod, CK.Pv.px_div, CK.Pv.px_pow, CK.Pv.px_mul, CK.Pv.px_addT, CK.Pv.px_addL, CK.Pv.px_cat, CK.Pv.px_rep, CK.Pv.px_app, CK.Pv.px_ext, CK.Pv.px_ins, CK.Pv.px_rng1, CK.Pv.px_rng2, CK.Pv.px_put, CK.Pv.px_rgL, decide_eq_true_eq, Bool.false_eq_true, Bool.true_eq_false, if_true, if_false, Bool.not_true, Bool.not_false, beq_self_eq_true, Option.isSome_some, Option.isSome_none, Option.some.injEq, exists_eq_left', decide_true, decide_false, Bool.not_eq_true', Int.reduceToNat, Int.reducePow, Int.reduceSub, Int.reduceAdd, Int.reduceMul, Int.reduceNeg, List.length_cons, List.length_nil, cu_1, cu_2])
        refine ⟨h8, (_, c.2.1, c.2.2), rfl⟩
      · walk_at "pp"
        exact ⟨h8, c, rfl⟩
    · obtain ⟨h9, c2, rfl⟩ := hv
      (try simp only [CK.Pv.px_bnd, CK.Pv.px_ret, CK.Pv.px_ite, CK.Pv.px_pbad, CK.Pv.px_getS, CK.Pv.px_putS, CK.Pv.px_some, CK.Pv.px_run, CK.Pv.px_lft, CK.Pv.px_fnP, CK.Pv.px_fnN, CK.Pv.fin_rt, CK.Pv.fin_nx, CK.Pv.finN_rt, CK.Pv.finN_nx, CK.Pv.px_bndO, CK.Pv.aft_nx, CK.Pv.aft_rt, CK.Pv.aft_bk, CK.Pv.aft_ct, CK.Pv.lp_nx, CK.Pv.lp_ct, CK.Pv.lp_bk, CK.Pv.lp_rt, CK.Pv.bndI_nx, CK.Pv.bndI_rt, CK.Pv.ret_bnd, CK.Pv.opt_ret, CK.Pv.lft_ret, CK.Pv.px_throw, CK.Pv.asB_bl, CK.Pv.add_int, CK.Pv.sub_int, CK.Pv.lt_int, CK.Pv.le_int, CK.Pv.gt_int, CK.Pv.ge_int, CK.Pv.neg_int, CK.Pv.abs_int, CK.Pv.int_int, CK.Pv.int_bl, CK.Pv.max_int, CK.Pv.min_int, CK.Pv.len_tup, CK.Pv.len_lst, CK.Pv.len_fz, CK.Pv.len_dk, CK.Pv.walk_tup, CK.Pv.walk_lst, CK.Pv.walk_fz, CK.Pv.ix_tup, CK.Pv.ix_lst, CK.Pv.ix_fz, CK.Pv.at_0, CK.Pv.at_1, CK.Pv.at_2, CK.Pv.at_3, CK.Pv.at_4, CK.Pv.is_non, CK.Pv.is_int, CK.Pv.is_tup, CK.Pv.is_lst, CK.Pv.is_bl, CK.Pv.not_non, CK.Pv.not_int, CK.Pv.not_tup, CK.Pv.not_lst, CK.Pv.not_bl, CK.Pv.t2_tup, CK.Pv.t3_tup, CK.Pv.t4_tup, CK.Pv.t5_tup, CK.Pv.s2_lst, CK.Pv.s2_tup, CK.Pv.lsG_lst, CK.Pv.look_lst, CK.Pv.clr_mu, CK.Pv.enum_lst, CK.Pv.enum_tup, CK.Pv.enum_tup, CK.Pv.zip_lst, CK.Pv.list_tup, CK.Pv.list_lst, CK.Pv.tuple_tup, CK.Pv.tuple_lst, CK.Pv.part_int, CK.Pv.cut_tup, CK.Pv.cut_lst, CK.Pv.cutL_lst, CK.Pv.rev_lst, CK.Pv.eq_int, CK.Pv.ne_int, CK.Pv.eq_bl, CK.Pv.ne_bl, CK.Pv.dk_int, CK.Pv.px_at, CK.Pv.px_mod, CK.Pv.px_div, CK.Pv.px_pow, CK.Pv.px_mul, CK.Pv.px_addT, CK.Pv.px_addL, CK.Pv.px_cat, CK.Pv.px_rep, CK.Pv.px_app, CK.Pv.px_ext, CK.Pv.px_ins, CK.Pv.px_rng1, CK.Pv.px_rng2, CK.Pv.px_put, CK.Pv.px_rgL, decide_eq_true_eq, Bool.false_eq_true, Bool.true_eq_false, if_true, if_false, Bool.not_true, Bool.not_false, beq_self_eq_true, Option.isSome_some, Option.isSome_none, Option.some.injEq, exists_eq_left', decide_true, decide_false, Bool.not_eq_true', Int.reduceToNat, Int.reducePow, Int.reduceSub, Int.reduceAdd, Int.reduceMul, Int.reduceNeg, List.length_cons, List.length_nil, List.length_map])
      refine take_px h9 (by omega) (by omega) fun y s10 y0 y1 h10 => ?_
      (try simp only [CK.Pv.px_bnd, CK.Pv.px_ret, CK.Pv.px_ite, CK.Pv.px_pbad, CK.Pv.px_getS, CK.Pv.px_putS, CK.Pv.px_some, CK.Pv.px_run, CK.Pv.px_lft, CK.Pv.px_fnP, CK.Pv.px_fnN, CK.Pv.fin_rt, CK.Pv.fin_nx, CK.Pv.finN_rt, CK.Pv.finN_nx, CK.Pv.px_bndO, CK.Pv.aft_nx, CK.Pv.aft_rt, CK.Pv.aft_bk, CK.Pv.aft_ct, CK.Pv.lp_nx, CK.Pv.lp_ct, CK.Pv.lp_bk, CK.Pv.lp_rt, CK.Pv.bndI_nx, CK.Pv.bndI_rt, CK.Pv.ret_bnd, CK.Pv.opt_ret, CK.Pv.lft_ret, CK.Pv.px_throw, CK.Pv.asB_bl, CK.Pv.add_int, CK.Pv.sub_int, CK.Pv.lt_int, CK.Pv.le_int, CK.Pv.gt_int, CK.Pv.ge_int, CK.Pv.neg_int, CK.Pv.abs_int, CK.Pv.int_int, CK.Pv.int_bl, CK.Pv.max_int, CK.Pv.min_int, CK.Pv.len_tup, CK.Pv.len_lst, CK.Pv.len_fz, CK.Pv.len_dk, CK.Pv.walk_tup, CK.Pv.walk_lst, CK.Pv.walk_fz, CK.Pv.ix_tup, CK.Pv.ix_lst, CK.Pv.ix_fz, CK.Pv.at_0, CK.Pv.at_1, CK.Pv.at_2, CK.Pv.at_3, CK.Pv.at_4, CK.Pv.is_non, CK.Pv.is_int, CK.Pv.is_tup, CK.Pv.is_lst, CK.Pv.is_bl, CK.Pv.not_non, CK.Pv.not_int, CK.Pv.not_tup, CK.Pv.not_lst, CK.Pv.not_bl, CK.Pv.t2_tup, CK.Pv.t3_tup, CK.Pv.t4_tup, CK.Pv.t5_tup, CK.Pv.s2_lst, CK.Pv.s2_tup, CK.Pv.lsG_lst, CK.Pv.look_lst, CK.Pv.clr_mu, CK.Pv.enum_lst, CK.Pv.enum_tup, CK.Pv.enum_tup, CK.Pv.zip_lst, CK.Pv.list_tup, CK.Pv.list_lst, CK.Pv.tuple_tup, CK.Pv.tuple_lst, CK.Pv.part_int, CK.Pv.cut_tup, CK.Pv.cut_lst, CK.Pv.cutL_lst, CK.Pv.rev_lst, CK.Pv.eq_int, CK.Pv.ne_int, CK.Pv.eq_bl, CK.Pv.ne_bl, CK.Pv.dk_int, CK.Pv.px_at, CK.Pv.px_mod, CK.Pv.px_div, CK.Pv.px_pow, CK.Pv.px_mul, CK.Pv.px_addT, CK.Pv.px_addL, CK.Pv.px_cat, CK.Pv.px_rep, CK.Pv.px_app, CK.Pv.px_ext, CK.Pv.px_ins, CK.Pv.px_rng1, CK.Pv.px_rng2, CK.Pv.px_put, CK.Pv.px_rgL, decide_eq_true_eq, Bool.false_eq_true, Bool.true_eq_false, if_true, if_false, Bool.not_true, Bool.not_false, beq_self_eq_true, Option.isSome_some, Option.isSome_none, Option.some.injEq, exists_eq_left', decide_true, decide_false, Bool.not_eq_true', Int.reduceToNat, Int.reducePow, Int.reduceSub, Int.reduceAdd, Int.reduceMul, Int.reduceNeg, List.length_cons, List.length_nil, List.length_map])
      refine ⟨⟨by rw [sizeLine_eq]; omega, y0, by omega⟩, h10, cs.take y.toNat ++ [c2] ++ cs.drop y.toNat, by simp [List.map_take, List.map_drop], ?_⟩
      rw [(ins_perm cs y.toNat c2).length_eq]; simp; omega
  · obtain ⟨hp, cs, rfl, hl⟩ := hI
    rw [rgU_len] at hl
    walk_at "pp"
    have hne : (neP (.lst (cs.map cu)) (.lst []) : PM U U) = Pv.ret (.bl (!decide (cs = []))) := ne_plnD (pln_cus cs) (.lst (n := 0) (by simp)) (by simp)
    (try simp only [CK.Pv.px_bnd, CK.Pv.px_ret, CK.Pv.px_ite, CK.Pv.px_pbad, CK.Pv.px_getS, CK.Pv.px_putS, CK.Pv.px_some, CK.Pv.px_run, CK.Pv.px_lft, CK.Pv.px_fnP, CK.Pv.px_fnN, CK.Pv.fin_rt, CK.Pv.fin_nx, CK.Pv.finN_rt, CK.Pv.finN_nx, CK.Pv.px_bndO, CK.Pv.aft_nx, CK.Pv.aft_rt, CK.Pv.aft_bk, CK.Pv.aft_ct, CK.Pv.lp_nx, CK.Pv.lp_ct, CK.Pv.lp_bk, CK.Pv.lp_rt, CK.Pv.bndI_nx, CK.Pv.bndI_rt, CK.Pv.ret_bnd, CK.Pv.opt_ret, CK.Pv.lft_ret, CK.Pv.px_throw, CK.Pv.asB_bl, CK.Pv.add_int, CK.Pv.sub_int, CK.Pv.lt_int, CK.Pv.le_int, CK.Pv.gt_int, CK.Pv.ge_int, CK.Pv.neg_int, CK.Pv.abs_int, CK.Pv.int_int, CK.Pv.int_bl, CK.Pv.max_int, CK.Pv.min_int, CK.Pv.len_tup, CK.Pv.len_lst, CK.Pv.len_fz, CK.Pv.len_dk, CK.Pv.walk_tup, CK.Pv.walk_lst, CK.Pv.walk_fz, CK.Pv.ix_tup, CK.Pv.ix_lst, CK.Pv.ix_fz, CK.Pv.at_0, CK.Pv.at_1, CK.Pv.at_2, CK.Pv.at_3, CK.Pv.at_4, CK.Pv.is_non, CK.Pv.is_int, CK.Pv.is_tup, CK.Pv.is_lst, CK.Pv.is_bl, CK.Pv.not_non, CK.Pv.not_int, CK.Pv.not_tup, CK.Pv.not_lst, CK.Pv.not_bl, CK.Pv.t2_tup, CK.Pv.t3_tup, CK.Pv.t4_tup, CK.Pv.t5_tup, CK.Pv.s2_lst, CK.Pv.s2_tup, CK.Pv.lsG_lst, CK.Pv.look_lst, CK.Pv.clr_mu, CK.Pv.enum_lst, CK.Pv.enum_tup, CK.Pv.enum_tup, CK.Pv.zip_lst, CK.Pv.list_tup, CK.Pv.list_lst, CK.Pv.tuple_tup, CK.Pv.tuple_lst, CK.Pv.part_int, CK.Pv.cut_tup, CK.Pv.cut_lst, CK.Pv.cutL_lst, CK.Pv.rev_lst, CK.Pv.eq_int, CK.Pv.ne_int, CK.Pv.eq_bl, CK.Pv.ne_bl, CK.Pv.dk_int, CK.Pv.px_at, CK.Pv.px_mod, CK.Pv.px_div, CK.Pv.px_pow, CK.Pv.px_mul, CK.Pv.px_addT, CK.Pv.px_addL, CK.Pv.px_cat, CK.Pv.px_rep, CK.Pv.px_app, CK.Pv.px_ext, CK.Pv.px_ins, CK.Pv.px_rng1, CK.Pv.px_rng2, CK.Pv.px_put, CK.Pv.px_rgL, decide_eq_true_eq, Bool.false_eq_true, Bool.true_eq_false, if_true, if_false, Bool.not_true, Bool.not_false, beq_self_eq_true, Option.isSome_some, Option.isSome_none, Option.some.injEq, exists_eq_left', decide_true, decide_false, Bool.not_eq_true', Int.reduceToNat, Int.reducePow, Int.reduceSub, Int.reduceAdd, Int.reduceMul, Int.reduceNeg, List.length_cons, List.length_nil, hne])
    refine ⟨cmul_s (by omega) (by omega) (by split <;> omega) (by split <;> omega), ?_⟩
    have hz : ∀ z : Int, (z = 0 ∨ z = 1) → 0 ≤ tw * z ∧ tw * z ≤ 2 := fun z hz => by rcases hz with rfl | rfl <;> omega
    have hzz := hz (if decide (cs = []) = false then 1 else 0) (by split <;> simp)
    by_cases he : cs = []
    · subst he
      walk_at "pp"
      refine ⟨⟨by omega, by omega⟩, ?_⟩
      rw [show tw * 0 = 0 by omega]
      refine px_for (by rw [rgU_len]; unfold FU; omega) (fun i st s => Pot s ∧ st = .lst []) ⟨hp, rfl⟩ (fun i x st s hx hI => ?_) fun st s hI => ?_
      · obtain ⟨hi, rfl⟩ := rgU_at hx
        omega
      · obtain ⟨hp, rfl⟩ := hI
        walk_at "pp"
        exact q [] _ (by simp) hp
    · generalize tw * (if decide (cs = []) = false then 1 else 0) = y at hzz
      refine ⟨⟨by omega, by omega⟩, ?_⟩
      have hpos : 0 < cs.length := List.length_pos_iff.mpr he
      refine px_for (by rw [rgU_len]; unfold FU; omega) (fun i st s => Pot s ∧ ∃ ds : List Card, st = .lst (ds.map cu) ∧ ds.length = cs.length + i) ⟨hp, cs, rfl, rfl⟩ (fun i x st s hx hI => ?_) fun st s hI => ?_
      · obtain ⟨hi, rfl⟩ := rgU_at hx
        obtain ⟨hp, ds, rfl, hd⟩ := hI
        (try simp only [CK.Pv.px_bnd, CK.Pv.px_ret, CK.Pv.px_ite, CK.Pv.px_pbad, CK.Pv.px_getS, CK.Pv.px_putS, CK.Pv.px_some, CK.Pv.px_run, CK.Pv.px_lft, CK.Pv.px_fnP, CK.Pv.px_fnN, CK.Pv.fin_rt, CK.Pv.fin_nx, CK.Pv.finN_rt, CK.Pv.finN_nx, CK.Pv.px_bndO, CK.Pv.aft_nx, CK.Pv.aft_rt, CK.Pv.aft_bk, CK.Pv.aft_ct, CK.Pv.lp_nx, CK.Pv.lp_ct, CK.Pv.lp_bk, CK.Pv.lp_rt, CK.Pv.bndI_nx, CK.Pv.bndI_rt, CK.Pv.ret_bnd, CK.Pv.opt_ret, CK.Pv.lft_ret, CK.Pv.px_throw, CK.Pv.asB_bl, CK.Pv.add_int, CK.Pv.sub_int, CK.Pv.lt_int, CK.Pv.le_int, CK.Pv.gt_int, CK.Pv.ge_int, CK.Pv.neg_int, CK.Pv.abs_int, CK.Pv.int_int, CK.Pv.int_bl, CK.Pv.max_int, CK.Pv.min_int, CK.Pv.len_tup, CK.Pv.len_lst, CK.Pv.len_fz, CK.Pv.len_dk, CK.Pv.walk_tup, CK.Pv.walk_lst, CK.Pv.walk_fz, CK.Pv.ix_tup, CK.Pv.ix_lst, CK.Pv.ix_fz, CK.Pv.at_0, CK.Pv.at_1, CK.Pv.at_2, CK.Pv.at_3, CK.Pv.at_4, CK.Pv.is_non, CK.Pv.is_int, CK.Pv.is_tup, CK.Pv.is_lst, CK.Pv.is_bl, CK.Pv.not_non, CK.Pv.not_int, CK.Pv.not_tup, CK.Pv.not_lst, CK.Pv.not_bl, CK.Pv.t2_tup, CK.Pv.t3_tup, CK.Pv.t4_tup, CK.Pv.t5_tup, CK.Pv.s2_lst, CK.Pv.s2_tup, CK.Pv.lsG_lst, CK.Pv.look_lst, CK.Pv.clr_mu, CK.Pv.enum_lst, CK.Pv.enum_tup, CK.Pv.enum_tup, CK.Pv.zip_lst, CK.Pv.list_tup, CK.Pv.list_lst, CK.Pv.tuple_tup, CK.Pv.tuple_lst, CK.Pv.part_int, CK.Pv.cut_tup, CK.Pv.cut_lst, CK.Pv.cutL_lst, CK.Pv.rev_lst, CK.Pv.eq_int, CK.Pv.ne_int, CK.Pv.eq_bl, CK.Pv.ne_bl, CK.Pv.dk_int, CK.Pv.px_at, CK.Pv.px_mod, CK.Pv.px_div, CK.Pv.px_pow, CK.Pv.px_mul, CK.Pv.px_addT, CK.Pv.px_addL, CK.Pv.px_cat, CK.Pv.px_rep, CK.Pv.px_app, CK.Pv.px_ext, CK.Pv.px_ins, CK.Pv.px_rng1, CK.Pv.px_rng2, CK.Pv.px_put, CK.Pv.px_rgL, decide_eq_true_eq, Bool.false_eq_true, Bool.true_eq_false, if_true, if_false, Bool.not_true, Bool.not_false, beq_self_eq_true, Option.isSome_some, Option.isSome_none, Option.some.injEq, exists_eq_left', decide_true, decide_false, Bool.not_eq_true', Int.reduceToNat, Int.reducePow, Int.reduceSub, Int.reduceAdd, Int.reduceMul, Int.reduceNeg, List.length_cons, List.length_nil, List.length_map])
        refine take_px hp (by omega) (by omega) fun z s10 z0 z1 h10 => ?_
        have hz : z.toNat < ds.length := by omega
        rw [Pv.ix_lst, px_at]
        refine ⟨cu ds[z.toNat], at_nat (j := z.toNat) (by omega) (by rw [List.getElem?_map, List.getElem?_eq_getElem hz]; rfl), ?_⟩
        (try simp only [CK.Pv.px_bnd, CK.Pv.px_ret, CK.Pv.px_ite, CK.Pv.px_pbad, CK.Pv.px_getS, CK.Pv.px_putS, CK.Pv.px_some, CK.Pv.px_run, CK.Pv.px_lft, CK.Pv.px_fnP, CK.Pv.px_fnN, CK.Pv.fin_rt, CK.Pv.fin_nx, CK.Pv.finN_rt, CK.Pv.finN_nx, CK.Pv.px_bndO, CK.Pv.aft_nx, CK.Pv.aft_rt, CK.Pv.aft_bk, CK.Pv.aft_ct, CK.Pv.lp_nx, CK.Pv.lp_ct, CK.Pv.lp_bk, CK.Pv.lp_rt, CK.Pv.bndI_nx, CK.Pv.bndI_rt, CK.Pv.ret_bnd, CK.Pv.opt_ret, CK.Pv.lft_ret, CK.Pv.px_throw, CK.Pv.asB_bl, CK.Pv.add_int, CK.Pv.sub_int, CK.Pv.lt_int, CK.Pv.le_int, CK.Pv.gt_int, CK.Pv.ge_int, CK.Pv.neg_int, CK.Pv.abs_int, CK.Pv.int_int, CK.Pv.int_bl, CK.Pv.max_int, CK.Pv.min_int, CK.Pv.len_tup, CK.Pv.len_lst, CK.Pv.len_fz, CK.Pv.len_dk, CK.Pv.walk_tup, CK.Pv.walk_lst, CK.Pv.walk_fz, CK.Pv.ix_tup, CK.Pv.ix_lst, CK.Pv.ix_fz, CK.Pv.at_0, CK.Pv.at_1, CK.Pv.at_2, CK.Pv.at_3, CK.Pv.at_4, CK.Pv.is_non, CK.Pv.is_int, CK.Pv.is_tup, CK.Pv.is_lst, CK.Pv.is_bl, CK.Pv.not_non, CK.Pv.not_int, CK.Pv.not_tup, CK.Pv.not_lst, CK.Pv.not_bl, CK.Pv.t2_tup, CK.Pv.t3_tup, CK.Pv.t4_tup, CK.Pv.t5_tup, CK.Pv.s2_lst, CK.Pv.s2_tup, CK.Pv.lsG_lst, CK.Pv.look_lst, CK.Pv.clr_mu, CK.Pv.enum_lst, CK.Pv.enum_tup, CK.Pv.enum_tup, CK.Pv.zip_lst, CK.Pv.list_tup, CK.Pv.list_lst, CK.Pv.tuple_tup, CK.Pv.tuple_lst, CK.Pv.part_int, CK.Pv.cut_tup, CK.Pv.cut_lst, CK.Pv.cutL_lst, CK.Pv.rev_lst, CK.Pv.eq_int, CK.Pv.ne_int, CK.Pv.eq_bl, CK.Pv.ne_bl, CK.Pv.dk_int, CK.Pv.px_at, CK.Pv.px_mod, CK.Pv.px_div, CK.Pv.px_pow, CK.Pv.px_mul, CK.Pv.px_addT, CK.Pv.px_addL, CK.Pv.px_cat, CK.Pv.px_rep, CK.Pv.px_app, CK.Pv.px_ext, CK.Pv.px_ins, CK.Pv.px_rng1, CK.Pv.px_rng2, CK.Pv.px_put, CK.Pv.px_rgL, decide_eq_true_eq, Bool.false_eq_true, Bool.true_eq_false, if_true, if_false, Bool.not_true, Bool.not_false, beq_self_eq_true, Option.isSome_some, Option.isSome_none, Option.some.injEq, exists_eq_left', decide_true, decide_false, Bool.not_eq_true', Int.reduceToNat, Int.reducePow, Int.reduceSub, Int.reduceAdd, Int.reduceMul, Int.reduceNeg, List.length_cons, List.length_nil, List.length_map])
        refine take_px h10 (by omega) (by omega) fun y2 s11 y0 y1 h11 => ?_
        (try simp only [CK.Pv.px_bnd, CK.Pv.px_ret, CK.Pv.px_ite, CK.Pv.px_pbad, CK.Pv.px_getS, CK.Pv.px_putS, CK.Pv.px_some, CK.Pv.px_run, CK.Pv.px_lft, CK.Pv.px_fnP, CK.Pv.px_fnN, CK.Pv.fin_rt, CK.Pv.fin_nx, CK.Pv.finN_rt, CK.Pv.finN_nx, CK.Pv.px_bndO, CK.Pv.aft_nx, CK.Pv.aft_rt, CK.Pv.aft_bk, CK.Pv.aft_ct, CK.Pv.lp_nx, CK.Pv.lp_ct, CK.Pv.lp_bk, CK.Pv.lp_rt, CK.Pv.bndI_nx, CK.Pv.bndI_rt, CK.Pv.ret_bnd, CK.Pv.opt_ret, CK.Pv.lft_ret, CK.Pv.px_throw, CK.Pv.asB_bl, CK.Pv.add_int, CK.Pv.sub_int, CK.Pv.lt_int, CK.Pv.le_int, CK.Pv.gt_int, CK.Pv.ge_int, CK.Pv.neg_int, CK.Pv.abs_int, CK.Pv.int_int, CK.Pv.int_bl, CK.Pv.max_int, CK.Pv.min_int, CK.Pv.len_tup, CK.Pv.len_lst, CK.Pv.len_fz, CK.Pv.len_dk, CK.Pv.walk_tup, CK.Pv.walk_lst, CK.Pv.walk_fz, CK.Pv.ix_tup, CK.Pv.ix_lst, CK.Pv.ix_fz, CK.Pv.at_0, CK.Pv.at_1, CK.Pv.at_2, CK.Pv.at_3, CK.Pv.at_4, CK.Pv.is_non, CK.Pv.is_int, CK.Pv.is_tup, CK.Pv.is_lst, CK.Pv.is_bl, CK.Pv.not_non, CK.Pv.not_int, CK.Pv.not_tup, CK.Pv.not_lst, CK.Pv.not_bl, CK.Pv.t2_tup, CK.Pv.t3_tup, CK.Pv.t4_tup, CK.Pv.t5_tup, CK.Pv.s2_lst, CK.Pv.s2_tup, CK.Pv.lsG_lst, CK.Pv.look_lst, CK.Pv.clr_mu, CK.Pv.enum_lst, CK.Pv.enum_tup, CK.Pv.enum_tup, CK.Pv.zip_lst, CK.Pv.list_tup, CK.Pv.list_lst, CK.Pv.tuple_tup, CK.Pv.tuple_lst, CK.Pv.part_int, CK.Pv.cut_tup, CK.Pv.cut_lst, CK.Pv.cutL_lst, CK.Pv.rev_lst, CK.Pv.eq_int, CK.Pv.ne_int, CK.Pv.eq_bl, CK.Pv.ne_bl, CK.Pv.dk_int, CK.Pv.px_at, CK.Pv.px_mod, CK.Pv.px_div, CK.Pv.px_pow, CK.Pv.px_mul, CK.Pv.px_addT, CK.Pv.px_addL, CK.Pv.px_cat, CK.Pv.px_rep, CK.Pv.px_app, CK.Pv.px_ext, CK.Pv.px_ins, CK.Pv.px_rng1, CK.Pv.px_rng2, CK.Pv.px_put, CK.Pv.px_rgL, decide_eq_true_eq, Bool.false_eq_true, Bool.true_eq_false, if_true, if_false, Bool.not_true, Bool.not_false, beq_self_eq_true, Option.isSome_some, Option.isSome_none, Option.some.injEq, exists_eq_left', decide_true, decide_false, Bool.not_eq_true', Int.reduceToNat, Int.reducePow, Int.reduceSub, Int.reduceAdd, Int.reduceMul, Int.reduceNeg, List.length_cons, List.length_nil, cu_0, cu_2])
        refine take_px h11 (by decide) (by decide) fun r s12 r0 r1 h12 => ?_
        (try simp only [CK.Pv.px_bnd, CK.Pv.px_ret, CK.Pv.px_ite, CK.Pv.px_pbad, CK.Pv.px_getS, CK.Pv.px_putS, CK.Pv.px_some, CK.Pv.px_run, CK.Pv.px_lft, CK.Pv.px_fnP, CK.Pv.px_fnN, CK.Pv.fin_rt, CK.Pv.fin_nx, CK.Pv.finN_rt, CK.Pv.finN_nx, CK.Pv.px_bndO, CK.Pv.aft_nx, CK.Pv.aft_rt, CK.Pv.aft_bk, CK.Pv.aft_ct, CK.Pv.lp_nx, CK.Pv.lp_ct, CK.Pv.lp_bk, CK.Pv.lp_rt, CK.Pv.bndI_nx, CK.Pv.bndI_rt, CK.Pv.ret_bnd, CK.Pv.opt_ret, CK.Pv.lft_ret, CK.Pv.px_throw, CK.Pv.asB_bl, CK.Pv.add_int, CK.Pv.sub_int, CK.Pv.lt_int, CK.Pv.le_int, CK.Pv.gt_int, CK.Pv.ge_int, CK.Pv.neg_int, CK.Pv.abs_int, CK.Pv.int_int, CK.Pv.int_bl, CK.Pv.max_int, CK.Pv.min_int, CK.Pv.len_tup, CK.Pv.len_lst, CK.Pv.len_fz, CK.Pv.len_dk, CK.Pv.walk_tup, CK.Pv.walk_lst, CK.Pv.walk_fz, CK.Pv.ix_tup, CK.Pv.ix_lst, CK.Pv.ix_fz, CK.Pv.at_0, CK.Pv.at_1, CK.Pv.at_2, CK.Pv.at_3, CK.Pv.at_4, CK.Pv.is_non, CK.Pv.is_int, CK.Pv.is_tup, CK.Pv.is_lst, CK.Pv.is_bl, CK.Pv.not_non, CK.Pv.not_int, CK.Pv.not_tup, CK.Pv.not_lst, CK.Pv.not_bl, CK.Pv.t2_tup, CK.Pv.t3_tup, CK.Pv.t4_tup, CK.Pv.t5_tup, CK.Pv.s2_lst, CK.Pv.s2_tup, CK.Pv.lsG_lst, CK.Pv.look_lst, CK.Pv.clr_mu, CK.Pv.enum_lst, CK.Pv.enum_tup, CK.Pv.enum_tup, CK.Pv.zip_lst, CK.Pv.list_tup, CK.Pv.list_lst, CK.Pv.tuple_tup, CK.Pv.tuple_lst, CK.Pv.part_int, CK.Pv.cut_tup, CK.Pv.cut_lst, CK.Pv.cutL_lst, CK.Pv.rev_lst, CK.Pv.eq_int, CK.Pv.ne_int, CK.Pv.eq_bl, CK.Pv.ne_bl, CK.Pv.dk_int, CK.Pv.px_at, CK.Pv.px_mod, CK.Pv.px_div, CK.Pv.px_pow, CK.Pv.px_mul, CK.Pv.px_addT, CK.Pv.px_addL, CK.Pv.px_cat, CK.Pv.px_rep, CK.Pv.px_app, CK.Pv.px_ext, CK.Pv.px_ins, CK.Pv.px_rng1, CK.Pv.px_rng2, CK.Pv.px_put, CK.Pv.px_rgL, decide_eq_true_eq, Bool.false_eq_true, Bool.true_eq_false, if_true, if_false, Bool.not_true, Bool.not_false, beq_self_eq_true, Option.isSome_some, Option.isSome_none, Option.some.injEq, exists_eq_left', decide_true, decide_false, Bool.not_eq_true', Int.reduceToNat, Int.reducePow, Int.reduceSub, Int.reduceAdd, Int.reduceMul, Int.reduceNeg, List.length_cons, List.length_nil, List.length_map])
        refine ⟨⟨by rw [sizeLine_eq]; omega, y0, by omega⟩, h12, ds.take y2.toNat ++ [(ds[z.toNat].1, r, ds[z.toNat].2.2)] ++ ds.drop y2.toNat, by simp [List.map_take, List.map_drop, cu], ?_⟩
        rw [(ins_perm ds y2.toNat _).length_eq]; simp; omega
      · obtain ⟨hp, ds, rfl, hd⟩ := hI
        rw [rgU_len] at hd
        walk_at "pp"
        exact q ds _ (by omega) hp
theorem isi_ll : isiR "list" "list" = some true := by decide +kernel
theorem isL {ε : Type} {xs : List U} : (isiP "list" (.lst xs) : PM ε U) = Pv.ret (.bl true) := by simp [isiP, tyU, isi_ll, opt_ret]
theorem neCs {ε : Type} (cs : List Card) : (Pv.neP (.lst (cs.map cu)) (.lst (cs.map cu)) : PM ε U) = Pv.ret (.bl false) := ne_plnD (P := True) (pln_cus cs) (pln_cus cs) ⟨fun _ => trivial, fun _ => rfl⟩
theorem law_px {ns : List Int} (hns : ns.length ≤ 63) : px (law_P (.fz (ns.map U.int))) () (fun a _ => a = .bl true) Pv.E0 := by
  unfold law_P
  (try simp only [CK.Pv.px_bnd, CK.Pv.px_ret, CK.Pv.px_ite, CK.Pv.px_pbad, CK.Pv.px_getS, CK.Pv.px_putS, CK.Pv.px_some, CK.Pv.px_run, CK.Pv.px_lft, CK.Pv.px_fnP, CK.Pv.px_fnN, CK.Pv.fin_rt, CK.Pv.fin_nx, CK.Pv.finN_rt, CK.Pv.finN_nx, CK.Pv.px_bndO, CK.Pv.aft_nx, CK.Pv.aft_rt, CK.Pv.aft_bk, CK.Pv.aft_ct, CK.Pv.lp_nx, CK.Pv.lp_ct, CK.Pv.lp_bk, CK.Pv.lp_rt, CK.Pv.bndI_nx, CK.Pv.bndI_rt, CK.Pv.ret_bnd, CK.Pv.opt_ret, CK.Pv.lft_ret, CK.Pv.px_throw, CK.Pv.asB_bl, CK.Pv.add_int, CK.Pv.sub_int, CK.Pv.lt_int, CK.Pv.le_int, CK.Pv.gt_int, CK.Pv.ge_int, CK.Pv.neg_int, CK.Pv.abs_int, CK.Pv.int_int, CK.Pv.int_bl, CK.Pv.max_int, CK.Pv.min_int, CK.Pv.len_tup, CK.Pv.len_lst, CK.Pv.len_fz, CK.Pv.len_dk, CK.Pv.walk_tup, CK.Pv.walk_lst, CK.Pv.walk_fz, CK.Pv.ix_tup, CK.Pv.ix_lst, CK.Pv.ix_fz, CK.Pv.at_0, CK.Pv.at_1, CK.Pv.at_2, CK.Pv.at_3, CK.Pv.at_4, CK.Pv.is_non, CK.Pv.is_int, CK.Pv.is_tup, CK.Pv.is_lst, CK.Pv.is_bl, CK.Pv.not_non, CK.Pv.not_int, CK.Pv.not_tup, CK.Pv.not_lst, CK.Pv.not_bl, CK.Pv.t2_tup, CK.Pv.t3_tup, CK.Pv.t4_tup, CK.Pv.t5_tup, CK.Pv.s2_lst, CK.Pv.s2_tup, CK.Pv.lsG_lst, CK.Pv.look_lst, CK.Pv.clr_mu, CK.Pv.enum_lst, CK.Pv.enum_tup, CK.Pv.enum_tup, CK.Pv.zip_lst, CK.Pv.list_tup, CK.Pv.list_lst, CK.Pv.tuple_tup, CK.Pv.tuple_lst, CK.Pv.part_int, CK.Pv.cut_tup, CK.Pv.cut_lst, CK.Pv.cutL_lst, CK.Pv.rev_lst, CK.Pv.eq_int, CK.Pv.ne_int, CK.Pv.eq_bl, CK.Pv.ne_bl, CK.Pv.dk_int, CK.Pv.px_at, CK.Pv.px_mod, CK.Pv.px_div, CK.Pv.px_pow, CK.Pv.px_mul, CK.Pv.px_addT, CK.Pv.px_addL, CK.Pv.px_cat, CK.Pv.px_rep, CK.Pv.px_app, CK.Pv.px_ext, CK.Pv.px_ins, CK.Pv.px_rng1, CK.Pv.px_rng2, CK.Pv.px_put, CK.Pv.px_rgL, decide_eq_true_eq, Bool.false_eq_true, Bool.true_eq_false, if_true, if_false, Bool.not_true, Bool.not_false, beq_self_eq_true, Option.isSome_some, Option.isSome_none, Option.some.injEq, exists_eq_left', decide_true, decide_false, Bool.not_eq_true', Int.reduceToNat, Int.reducePow, Int.reduceSub, Int.reduceAdd, Int.reduceMul, Int.reduceNeg, List.length_cons, List.length_nil, List.length_map])
  generalize hm : (if (2 : Int) < _ then _ else _) = m
  have hmm : m ≤ 8 := by split at hm <;> omega
  refine ⟨⟨by omega, by omega⟩, ?_⟩
  refine px_for (by rw [rgU_len]; unfold FU; omega) (fun i st s => True) trivial (fun i x st s hx _ => ?_) fun st s _ => ?_
  · obtain ⟨hk, rfl⟩ := rgU_at hx
    walk_at "pp"
    refine pot_px (by omega) (by omega) fun s0 h0 => ?_
    walk_at "pp"
    refine take_px h0 (by decide) (by decide) fun plain s1 w0 w1 h1 => ?_
    walk_at "pp"
    refine cards_px h1 fun cs s2 hl h2 => ?_
    have row : ∃ v, atI [U.lst (cs.map cu), .tup (cs.map cu)] plain = some v ∧ (∀ ε, (walkU v : PM ε (List U)) = Pv.ret (cs.map cu)) ∧ (∀ ε, (lenU v : PM ε U) = Pv.ret (.int cs.length)) ∧ (∀ ε, (listU v : PM ε U) = Pv.ret (.lst (cs.map cu))) := by
      have : plain = 0 ∨ plain = 1 := by omega
      rcases this with rfl | rfl
      · exact ⟨_, at_0, fun ε => Pv.walk_lst, fun ε => by rw [len_lst, List.length_map], fun ε => list_lst⟩
      · exact ⟨_, at_1, fun ε => Pv.walk_tup, fun ε => by rw [len_tup, List.length_map], fun ε => list_tup⟩
    obtain ⟨v, hv, v1, v2, v3⟩ := row
    have ce := checked_eq (v1 Unit) (v2 Unit) (v3 Unit) (by omega)
    have nc := neCs (ε := U) cs
    walk_at "pp"
    refine ⟨_, hv, ?_⟩
    (try simp only [CK.Pv.px_bnd, CK.Pv.px_ret, CK.Pv.px_ite, CK.Pv.px_pbad, CK.Pv.px_getS, CK.Pv.px_putS, CK.Pv.px_some, CK.Pv.px_run, CK.Pv.px_lft, CK.Pv.px_fnP, CK.Pv.px_fnN, CK.Pv.fin_rt, CK.Pv.fin_nx, CK.Pv.finN_rt, CK.Pv.finN_nx, CK.Pv.px_bndO, CK.Pv.aft_nx, CK.Pv.aft_rt, CK.Pv.aft_bk, CK.Pv.aft_ct, CK.Pv.lp_nx, CK.Pv.lp_ct, CK.Pv.lp_bk, CK.Pv.lp_rt, CK.Pv.bndI_nx, CK.Pv.bndI_rt, CK.Pv.ret_bnd, CK.Pv.opt_ret, CK.Pv.lft_ret, CK.Pv.px_throw, CK.Pv.asB_bl, CK.Pv.add_int, CK.Pv.sub_int, CK.Pv.lt_int, CK.Pv.le_int, CK.Pv.gt_int, CK.Pv.ge_int, CK.Pv.neg_int, CK.Pv.abs_int, CK.Pv.int_int, CK.Pv.int_bl, CK.Pv.max_int, CK.Pv.min_int, CK.Pv.len_tup, CK.Pv.len_lst, CK.Pv.len_fz, CK.Pv.len_dk, CK.Pv.walk_tup, CK.Pv.walk_lst, CK.Pv.walk_fz, CK.Pv.ix_tup, CK.Pv.ix_lst, CK.Pv.ix_fz, CK.Pv.at_0, CK.Pv.at_1, CK.Pv.at_2, CK.Pv.at_3, CK.Pv.at_4, CK.Pv.is_non, CK.Pv.is_int, CK.Pv.is_tup, CK.Pv.is_lst, CK.Pv.is_bl, CK.Pv.not_non, CK.Pv.not_int, CK.Pv.not_tup, CK.Pv.not_lst, CK.Pv.not_bl, CK.Pv.t2_tup, CK.Pv.t3_tup, CK.Pv.t4_tup, CK.Pv.t5_tup, CK.Pv.s2_lst, CK.Pv.s2_tup, CK.Pv.lsG_lst, CK.Pv.look_lst, CK.Pv.clr_mu, CK.Pv.enum_lst, CK.Pv.enum_tup, CK.Pv.enum_tup, CK.Pv.zip_lst, CK.Pv.list_tup, CK.Pv.list_lst, CK.Pv.tuple_tup, CK.Pv.tuple_lst, CK.Pv.part_int, CK.Pv.cut_tup, CK.Pv.cut_lst, CK.Pv.cutL_lst, CK.Pv.rev_lst, CK.Pv.eq_int, CK.Pv.ne_int, CK.Pv.eq_bl, CK.Pv.ne_bl, CK.Pv.dk_int, CK.Pv.px_at, CK.Pv.px_mod, CK.Pv.px_div, CK.Pv.px_pow, CK.Pv.px_mul, CK.Pv.px_addT, CK.Pv.px_addL, CK.Pv.px_cat, CK.Pv.px_rep, CK.Pv.px_app, CK.Pv.px_ext, CK.Pv.px_ins, CK.Pv.px_rng1, CK.Pv.px_rng2, CK.Pv.px_put, CK.Pv.px_rgL, decide_eq_true_eq, Bool.false_eq_true, Bool.true_eq_false, if_true, if_false, Bool.not_true, Bool.not_false, beq_self_eq_true, Option.isSome_some, Option.isSome_none, Option.some.injEq, exists_eq_left', decide_true, decide_false, Bool.not_eq_true', Int.reduceToNat, Int.reducePow, Int.reduceSub, Int.reduceAdd, Int.reduceMul, Int.reduceNeg, List.length_cons, List.length_nil, refusal_eq ce, twice_eq (cs := cs) (by omega)])
    refine px_join (fun v s' => Pot s') ?_ fun _ s3 h3 => ?_
    · cases ht : twK cs with
      | some k =>
        have f1 : (fldXP LX "key" (.exn "Twice" [("key", .int k)]) : PM U U) = Pv.ret (.int k) := fldX_eq two_in rfl
        (try simp only [CK.Pv.px_bnd, CK.Pv.px_ret, CK.Pv.px_ite, CK.Pv.px_pbad, CK.Pv.px_getS, CK.Pv.px_putS, CK.Pv.px_some, CK.Pv.px_run, CK.Pv.px_lft, CK.Pv.px_fnP, CK.Pv.px_fnN, CK.Pv.fin_rt, CK.Pv.fin_nx, CK.Pv.finN_rt, CK.Pv.finN_nx, CK.Pv.px_bndO, CK.Pv.aft_nx, CK.Pv.aft_rt, CK.Pv.aft_bk, CK.Pv.aft_ct, CK.Pv.lp_nx, CK.Pv.lp_ct, CK.Pv.lp_bk, CK.Pv.lp_rt, CK.Pv.bndI_nx, CK.Pv.bndI_rt, CK.Pv.ret_bnd, CK.Pv.opt_ret, CK.Pv.lft_ret, CK.Pv.px_throw, CK.Pv.asB_bl, CK.Pv.add_int, CK.Pv.sub_int, CK.Pv.lt_int, CK.Pv.le_int, CK.Pv.gt_int, CK.Pv.ge_int, CK.Pv.neg_int, CK.Pv.abs_int, CK.Pv.int_int, CK.Pv.int_bl, CK.Pv.max_int, CK.Pv.min_int, CK.Pv.len_tup, CK.Pv.len_lst, CK.Pv.len_fz, CK.Pv.len_dk, CK.Pv.walk_tup, CK.Pv.walk_lst, CK.Pv.walk_fz, CK.Pv.ix_tup, CK.Pv.ix_lst, CK.Pv.ix_fz, CK.Pv.at_0, CK.Pv.at_1, CK.Pv.at_2, CK.Pv.at_3, CK.Pv.at_4, CK.Pv.is_non, CK.Pv.is_int, CK.Pv.is_tup, CK.Pv.is_lst, CK.Pv.is_bl, CK.Pv.not_non, CK.Pv.not_int, CK.Pv.not_tup, CK.Pv.not_lst, CK.Pv.not_bl, CK.Pv.t2_tup, CK.Pv.t3_tup, CK.Pv.t4_tup, CK.Pv.t5_tup, CK.Pv.s2_lst, CK.Pv.s2_tup, CK.Pv.lsG_lst, CK.Pv.look_lst, CK.Pv.clr_mu, CK.Pv.enum_lst, CK.Pv.enum_tup, CK.Pv.enum_tup, CK.Pv.zip_lst, CK.Pv.list_tup, CK.Pv.list_lst, CK.Pv.tuple_tup, CK.Pv.tuple_lst, CK.Pv.part_int, CK.Pv.cut_tup, CK.Pv.cut_lst, CK.Pv.cutL_lst, CK.Pv.rev_lst, CK.Pv.eq_int, CK.Pv.ne_int, CK.Pv.eq_bl, CK.Pv.ne_bl, CK.Pv.dk_int, CK.Pv.px_at, CK.Pv.px_mod, CK.Pv.px_div, CK.Pv.px_pow, CK.Pv.px_mul, CK.Pv.px_addT, CK.Pv.px_addL, CK.Pv.px_cat, CK.Pv.px_rep, CK.Pv.px_app, CK.Pv.px_ext, CK.Pv.px_ins, CK.Pv.px_rng1, CK.Pv.px_rng2, CK.Pv.px_put, CK.Pv.px_rgL, decide_eq_true_eq, Bool.false_eq_true, Bool.true_eq_false, if_true, if_false, Bool.not_true, Bool.not_false, beq_self_eq_true, Option.isSome_some, Option.isSome_none, Option.some.injEq, exists_eq_left', decide_true, decide_false, Bool.not_eq_true', Int.reduceToNat, Int.reducePow, Int.reduceSub, Int.reduceAdd, Int.reduceMul, Int.reduceNeg, List.length_cons, List.length_nil, alone_2, f1])
        exact h2
      | none =>
        (try simp only [CK.Pv.px_bnd, CK.Pv.px_ret, CK.Pv.px_ite, CK.Pv.px_pbad, CK.Pv.px_getS, CK.Pv.px_putS, CK.Pv.px_some, CK.Pv.px_run, CK.Pv.px_lft, CK.Pv.px_fnP, CK.Pv.px_fnN, CK.Pv.fin_rt, CK.Pv.fin_nx, CK.Pv.finN_rt, CK.Pv.finN_nx, CK.Pv.px_bndO, CK.Pv.aft_nx, CK.Pv.aft_rt, CK.Pv.aft_bk, CK.Pv.aft_ct, CK.Pv.lp_nx, CK.Pv.lp_ct, CK.Pv.lp_bk, CK.Pv.lp_rt, CK.Pv.bndI_nx, CK.Pv.bndI_rt, CK.Pv.ret_bnd, CK.Pv.opt_ret, CK.Pv.lft_ret, CK.Pv.px_throw, CK.Pv.asB_bl, CK.Pv.add_int, CK.Pv.sub_int, CK.Pv.lt_int, CK.Pv.le_int, CK.Pv.gt_int, CK.Pv.ge_int, CK.Pv.neg_int, CK.Pv.abs_int, CK.Pv.int_int, CK.Pv.int_bl, CK.Pv.max_int, CK.Pv.min_int, CK.Pv.len_tup, CK.Pv.len_lst, CK.Pv.len_fz, CK.Pv.len_dk, CK.Pv.walk_tup, CK.Pv.walk_lst, CK.Pv.walk_fz, CK.Pv.ix_tup, CK.Pv.ix_lst, CK.Pv.ix_fz, CK.Pv.at_0, CK.Pv.at_1, CK.Pv.at_2, CK.Pv.at_3, CK.Pv.at_4, CK.Pv.is_non, CK.Pv.is_int, CK.Pv.is_tup, CK.Pv.is_lst, CK.Pv.is_bl, CK.Pv.not_non, CK.Pv.not_int, CK.Pv.not_tup, CK.Pv.not_lst, CK.Pv.not_bl, CK.Pv.t2_tup, CK.Pv.t3_tup, CK.Pv.t4_tup, CK.Pv.t5_tup, CK.Pv.s2_lst, CK.Pv.s2_tup, CK.Pv.lsG_lst, CK.Pv.look_lst, CK.Pv.clr_mu, CK.Pv.enum_lst, CK.Pv.enum_tup, CK.Pv.enum_tup, CK.Pv.zip_lst, CK.Pv.list_tup, CK.Pv.list_lst, CK.Pv.tuple_tup, CK.Pv.tuple_lst, CK.Pv.part_int, CK.Pv.cut_tup, CK.Pv.cut_lst, CK.Pv.cutL_lst, CK.Pv.rev_lst, CK.Pv.eq_int, CK.Pv.ne_int, CK.Pv.eq_bl, CK.Pv.ne_bl, CK.Pv.dk_int, CK.Pv.px_at, CK.Pv.px_mod, CK.Pv.px_div, CK.Pv.px_pow, CK.Pv.px_mul, CK.Pv.px_addT, CK.Pv.px_addL, CK.Pv.px_cat, CK.Pv.px_rep, CK.Pv.px_app, CK.Pv.px_ext, CK.Pv.px_ins, CK.Pv.px_rng1, CK.Pv.px_rng2, CK.Pv.px_put, CK.Pv.px_rgL, decide_eq_true_eq, Bool.false_eq_true, Bool.true_eq_false, if_true, if_false, Bool.not_true, Bool.not_false, beq_self_eq_true, Option.isSome_some, Option.isSome_none, Option.some.injEq, exists_eq_left', decide_true, decide_false, Bool.not_eq_true', Int.reduceToNat, Int.reducePow, Int.reduceSub, Int.reduceAdd, Int.reduceMul, Int.reduceNeg, List.length_cons, List.length_nil, List.length_map])
        rw [ht] at ce
        dsimp only at ce
        by_cases h64 : 64 < cs.length
        · have f1 : (fldXP LX "most" (.exn "TooMany" [("most", .int 64)]) : PM U U) = Pv.ret (.int 64) := fldX_eq many_in rfl
          have h64' : (64 : Int) < cs.length := by omega
          rw [if_pos h64'] 
          (try simp only [CK.Pv.px_bnd, CK.Pv.px_ret, CK.Pv.px_ite, CK.Pv.px_pbad, CK.Pv.px_getS, CK.Pv.px_putS, CK.Pv.px_some, CK.Pv.px_run, CK.Pv.px_lft, CK.Pv.px_fnP, CK.Pv.px_fnN, CK.Pv.fin_rt, CK.Pv.fin_nx, CK.Pv.finN_rt, CK.Pv.finN_nx, CK.Pv.px_bndO, CK.Pv.aft_nx, CK.Pv.aft_rt, CK.Pv.aft_bk, CK.Pv.aft_ct, CK.Pv.lp_nx, CK.Pv.lp_ct, CK.Pv.lp_bk, CK.Pv.lp_rt, CK.Pv.bndI_nx, CK.Pv.bndI_rt, CK.Pv.ret_bnd, CK.Pv.opt_ret, CK.Pv.lft_ret, CK.Pv.px_throw, CK.Pv.asB_bl, CK.Pv.add_int, CK.Pv.sub_int, CK.Pv.lt_int, CK.Pv.le_int, CK.Pv.gt_int, CK.Pv.ge_int, CK.Pv.neg_int, CK.Pv.abs_int, CK.Pv.int_int, CK.Pv.int_bl, CK.Pv.max_int, CK.Pv.min_int, CK.Pv.len_tup, CK.Pv.len_lst, CK.Pv.len_fz, CK.Pv.len_dk, CK.Pv.walk_tup, CK.Pv.walk_lst, CK.Pv.walk_fz, CK.Pv.ix_tup, CK.Pv.ix_lst, CK.Pv.ix_fz, CK.Pv.at_0, CK.Pv.at_1, CK.Pv.at_2, CK.Pv.at_3, CK.Pv.at_4, CK.Pv.is_non, CK.Pv.is_int, CK.Pv.is_tup, CK.Pv.is_lst, CK.Pv.is_bl, CK.Pv.not_non, CK.Pv.not_int, CK.Pv.not_tup, CK.Pv.not_lst, CK.Pv.not_bl, CK.Pv.t2_tup, CK.Pv.t3_tup, CK.Pv.t4_tup, CK.Pv.t5_tup, CK.Pv.s2_lst, CK.Pv.s2_tup, CK.Pv.lsG_lst, CK.Pv.look_lst, CK.Pv.clr_mu, CK.Pv.enum_lst, CK.Pv.enum_tup, CK.Pv.enum_tup, CK.Pv.zip_lst, CK.Pv.list_tup, CK.Pv.list_lst, CK.Pv.tuple_tup, CK.Pv.tuple_lst, CK.Pv.part_int, CK.Pv.cut_tup, CK.Pv.cut_lst, CK.Pv.cutL_lst, CK.Pv.rev_lst, CK.Pv.eq_int, CK.Pv.ne_int, CK.Pv.eq_bl, CK.Pv.ne_bl, CK.Pv.dk_int, CK.Pv.px_at, CK.Pv.px_mod, CK.Pv.px_div, CK.Pv.px_pow, CK.Pv.px_mul, CK.Pv.px_addT, CK.Pv.px_addL, CK.Pv.px_cat, CK.Pv.px_rep, CK.Pv.px_app, CK.Pv.px_ext, CK.Pv.px_ins, CK.Pv.px_rng1, CK.Pv.px_rng2, CK.Pv.px_put, CK.Pv.px_rgL, decide_eq_true_eq, Bool.false_eq_true, Bool.true_eq_false, if_true, if_false, Bool.not_true, Bool.not_false, beq_self_eq_true, Option.isSome_some, Option.isSome_none, Option.some.injEq, exists_eq_left', decide_true, decide_false, Bool.not_eq_true', Int.reduceToNat, Int.reducePow, Int.reduceSub, Int.reduceAdd, Int.reduceMul, Int.reduceNeg, List.length_cons, List.length_nil, if_pos h64, alone_m, f1])
          exact h2
        · have h64' : ¬ (64 : Int) < cs.length := by omega
          rw [if_neg h64']
          rw [if_neg h64] at ce
          have wl : (wkP (Pv.bnd (isiP "list" (.lst (cs.map cu))) asB) : PM U Bool) = Pv.ret true := by rw [isL]; rfl
          (try simp only [CK.Pv.px_bnd, CK.Pv.px_ret, CK.Pv.px_ite, CK.Pv.px_pbad, CK.Pv.px_getS, CK.Pv.px_putS, CK.Pv.px_some, CK.Pv.px_run, CK.Pv.px_lft, CK.Pv.px_fnP, CK.Pv.px_fnN, CK.Pv.fin_rt, CK.Pv.fin_nx, CK.Pv.finN_rt, CK.Pv.finN_nx, CK.Pv.px_bndO, CK.Pv.aft_nx, CK.Pv.aft_rt, CK.Pv.aft_bk, CK.Pv.aft_ct, CK.Pv.lp_nx, CK.Pv.lp_ct, CK.Pv.lp_bk, CK.Pv.lp_rt, CK.Pv.bndI_nx, CK.Pv.bndI_rt, CK.Pv.ret_bnd, CK.Pv.opt_ret, CK.Pv.lft_ret, CK.Pv.px_throw, CK.Pv.asB_bl, CK.Pv.add_int, CK.Pv.sub_int, CK.Pv.lt_int, CK.Pv.le_int, CK.Pv.gt_int, CK.Pv.ge_int, CK.Pv.neg_int, CK.Pv.abs_int, CK.Pv.int_int, CK.Pv.int_bl, CK.Pv.max_int, CK.Pv.min_int, CK.Pv.len_tup, CK.Pv.len_lst, CK.Pv.len_fz, CK.Pv.len_dk, CK.Pv.walk_tup, CK.Pv.walk_lst, CK.Pv.walk_fz, CK.Pv.ix_tup, CK.Pv.ix_lst, CK.Pv.ix_fz, CK.Pv.at_0, CK.Pv.at_1, CK.Pv.at_2, CK.Pv.at_3, CK.Pv.at_4, CK.Pv.is_non, CK.Pv.is_int, CK.Pv.is_tup, CK.Pv.is_lst, CK.Pv.is_bl, CK.Pv.not_non, CK.Pv.not_int, CK.Pv.not_tup, CK.Pv.not_lst, CK.Pv.not_bl, CK.Pv.t2_tup, CK.Pv.t3_tup, CK.Pv.t4_tup, CK.Pv.t5_tup, CK.Pv.s2_lst, CK.Pv.s2_tup, CK.Pv.lsG_lst, CK.Pv.look_lst, CK.Pv.clr_mu, CK.Pv.enum_lst, CK.Pv.enum_tup, CK.Pv.enum_tup, CK.Pv.zip_lst, CK.Pv.list_tup, CK.Pv.list_lst, CK.Pv.tuple_tup, CK.Pv.tuple_lst, CK.Pv.part_int, CK.Pv.cut_tup, CK.Pv.cut_lst, CK.Pv.cutL_lst, CK.Pv.rev_lst, CK.Pv.eq_int, CK.Pv.ne_int, CK.Pv.eq_bl, CK.Pv.ne_bl, CK.Pv.dk_int, CK.Pv.px_at, CK.Pv.px_mod, CK.Pv.px_div, CK.Pv.px_pow, CK.Pv.px_mul, CK.Pv.px_addT, CK.Pv.px_addL, CK.Pv.px_cat, CK.Pv.px_rep, CK.Pv.px_app, CK.Pv.px_ext, CK.Pv.px_ins, CK.Pv.px_rng1, CK.Pv.px_rng2, CK.Pv.px_put, CK.Pv.px_rgL, decide_eq_true_eq, Bool.false_eq_true, Bool.true_eq_false, if_true, if_false, Bool.not_true, Bool.not_false, beq_self_eq_true, Option.isSome_some, Option.isSome_none, Option.some.injEq, exists_eq_left', decide_true, decide_false, Bool.not_eq_true', Int.reduceToNat, Int.reducePow, Int.reduceSub, Int.reduceAdd, Int.reduceMul, Int.reduceNeg, List.length_cons, List.length_nil, if_neg h64, wl, nc, ce, List.length_map])
          exact ⟨by rw [sizeLine_eq]; omega, h2⟩
    · (try simp only [CK.Pv.px_bnd, CK.Pv.px_ret, CK.Pv.px_ite, CK.Pv.px_pbad, CK.Pv.px_getS, CK.Pv.px_putS, CK.Pv.px_some, CK.Pv.px_run, CK.Pv.px_lft, CK.Pv.px_fnP, CK.Pv.px_fnN, CK.Pv.fin_rt, CK.Pv.fin_nx, CK.Pv.finN_rt, CK.Pv.finN_nx, CK.Pv.px_bndO, CK.Pv.aft_nx, CK.Pv.aft_rt, CK.Pv.aft_bk, CK.Pv.aft_ct, CK.Pv.lp_nx, CK.Pv.lp_ct, CK.Pv.lp_bk, CK.Pv.lp_rt, CK.Pv.bndI_nx, CK.Pv.bndI_rt, CK.Pv.ret_bnd, CK.Pv.opt_ret, CK.Pv.lft_ret, CK.Pv.px_throw, CK.Pv.asB_bl, CK.Pv.add_int, CK.Pv.sub_int, CK.Pv.lt_int, CK.Pv.le_int, CK.Pv.gt_int, CK.Pv.ge_int, CK.Pv.neg_int, CK.Pv.abs_int, CK.Pv.int_int, CK.Pv.int_bl, CK.Pv.max_int, CK.Pv.min_int, CK.Pv.len_tup, CK.Pv.len_lst, CK.Pv.len_fz, CK.Pv.len_dk, CK.Pv.walk_tup, CK.Pv.walk_lst, CK.Pv.walk_fz, CK.Pv.ix_tup, CK.Pv.ix_lst, CK.Pv.ix_fz, CK.Pv.at_0, CK.Pv.at_1, CK.Pv.at_2, CK.Pv.at_3, CK.Pv.at_4, CK.Pv.is_non, CK.Pv.is_int, CK.Pv.is_tup, CK.Pv.is_lst, CK.Pv.is_bl, CK.Pv.not_non, CK.Pv.not_int, CK.Pv.not_tup, CK.Pv.not_lst, CK.Pv.not_bl, CK.Pv.t2_tup, CK.Pv.t3_tup, CK.Pv.t4_tup, CK.Pv.t5_tup, CK.Pv.s2_lst, CK.Pv.s2_tup, CK.Pv.lsG_lst, CK.Pv.look_lst, CK.Pv.clr_mu, CK.Pv.enum_lst, CK.Pv.enum_tup, CK.Pv.enum_tup, CK.Pv.zip_lst, CK.Pv.list_tup, CK.Pv.list_lst, CK.Pv.tuple_tup, CK.Pv.tuple_lst, CK.Pv.part_int, CK.Pv.cut_tup, CK.Pv.cut_lst, CK.Pv.cutL_lst, CK.Pv.rev_lst, CK.Pv.eq_int, CK.Pv.ne_int, CK.Pv.eq_bl, CK.Pv.ne_bl, CK.Pv.dk_int, CK.Pv.px_at, CK.Pv.px_mod, CK.Pv.px_div, CK.Pv.px_pow, CK.Pv.px_mul, CK.Pv.px_addT, CK.Pv.px_addL, CK.Pv.px_cat, CK.Pv.px_rep, CK.Pv.px_app, CK.Pv.px_ext, CK.Pv.px_ins, CK.Pv.px_rng1, CK.Pv.px_rng2, CK.Pv.px_put, CK.Pv.px_rgL, decide_eq_true_eq, Bool.false_eq_true, Bool.true_eq_false, if_true, if_false, Bool.not_true, Bool.not_false, beq_self_eq_true, Option.isSome_some, Option.isSome_none, Option.some.injEq, exists_eq_left', decide_true, decide_false, Bool.not_eq_true', Int.reduceToNat, Int.reducePow, Int.reduceSub, Int.reduceAdd, Int.reduceMul, Int.reduceNeg, List.length_cons, List.length_nil, v3, nc])
  · have ce : checked_P (.lst []) = Pv.ret (.lst []) := checked_eq (cs := []) Pv.walk_lst (by rw [len_lst]; rfl) list_lst (by simp)
    have e0 : (Pv.eqP (.lst []) (.lst []) : PM U U) = Pv.ret (.bl true) := eq_plnD (P := True) (.lst (n := 0) (by simp)) (.lst (n := 0) (by simp)) ⟨fun _ => trivial, fun _ => rfl⟩
    (try simp only [CK.Pv.px_bnd, CK.Pv.px_ret, CK.Pv.px_ite, CK.Pv.px_pbad, CK.Pv.px_getS, CK.Pv.px_putS, CK.Pv.px_some, CK.Pv.px_run, CK.Pv.px_lft, CK.Pv.px_fnP, CK.Pv.px_fnN, CK.Pv.fin_rt, CK.Pv.fin_nx, CK.Pv.finN_rt, CK.Pv.finN_nx, CK.Pv.px_bndO, CK.Pv.aft_nx, CK.Pv.aft_rt, CK.Pv.aft_bk, CK.Pv.aft_ct, CK.Pv.lp_nx, CK.Pv.lp_ct, CK.Pv.lp_bk, CK.Pv.lp_rt, CK.Pv.bndI_nx, CK.Pv.bndI_rt, CK.Pv.ret_bnd, CK.Pv.opt_ret, CK.Pv.lft_ret, CK.Pv.px_throw, CK.Pv.asB_bl, CK.Pv.add_int, CK.Pv.sub_int, CK.Pv.lt_int, CK.Pv.le_int, CK.Pv.gt_int, CK.Pv.ge_int, CK.Pv.neg_int, CK.Pv.abs_int, CK.Pv.int_int, CK.Pv.int_bl, CK.Pv.max_int, CK.Pv.min_int, CK.Pv.len_tup, CK.Pv.len_lst, CK.Pv.len_fz, CK.Pv.len_dk, CK.Pv.walk_tup, CK.Pv.walk_lst, CK.Pv.walk_fz, CK.Pv.ix_tup, CK.Pv.ix_lst, CK.Pv.ix_fz, CK.Pv.at_0, CK.Pv.at_1, CK.Pv.at_2, CK.Pv.at_3, CK.Pv.at_4, CK.Pv.is_non, CK.Pv.is_int, CK.Pv.is_tup, CK.Pv.is_lst, CK.Pv.is_bl, CK.Pv.not_non, CK.Pv.not_int, CK.Pv.not_tup, CK.Pv.not_lst, CK.Pv.not_bl, CK.Pv.t2_tup, CK.Pv.t3_tup, CK.Pv.t4_tup, CK.Pv.t5_tup, CK.Pv.s2_lst, CK.Pv.s2_tup, CK.Pv.lsG_lst, CK.Pv.look_lst, CK.Pv.clr_mu, CK.Pv.enum_lst, CK.Pv.enum_tup, CK.Pv.enum_tup, CK.Pv.zip_lst, CK.Pv.list_tup, CK.Pv.list_lst, CK.Pv.tuple_tup, CK.Pv.tuple_lst, CK.Pv.part_int, CK.Pv.cut_tup, CK.Pv.cut_lst, CK.Pv.cutL_lst, CK.Pv.rev_lst, CK.Pv.eq_int, CK.Pv.ne_int, CK.Pv.eq_bl, CK.Pv.ne_bl, CK.Pv.dk_int, CK.Pv.px_at, CK.Pv.px_mod, CK.Pv.px_div, CK.Pv.px_pow, CK.Pv.px_mul, CK.Pv.px_addT, CK.Pv.px_addL, CK.Pv.px_cat, CK.Pv.px_rep, CK.Pv.px_app, CK.Pv.px_ext, CK.Pv.px_ins, CK.Pv.px_rng1, CK.Pv.px_rng2, CK.Pv.px_put, CK.Pv.px_rgL, decide_eq_true_eq, Bool.false_eq_true, Bool.true_eq_false, if_true, if_false, Bool.not_true, Bool.not_false, beq_self_eq_true, Option.isSome_some, Option.isSome_none, Option.some.injEq, exists_eq_left', decide_true, decide_false, Bool.not_eq_true', Int.reduceToNat, Int.reducePow, Int.reduceSub, Int.reduceAdd, Int.reduceMul, Int.reduceNeg, List.length_cons, List.length_nil, ce, e0])
theorem law_true : ∀ ns : List Int, ns.length ≤ 63 → ∃ S', law_M [.ref 0] [.fro (ns.map D.int)] = .ok (.bl true) S' := by
  intro ns hns
  obtain ⟨a, s', h, rfl⟩ := px_ok (law_px hns)
  exact law_of (law_S _) h
end Lk02
end CK
end

section
set_option Elab.async false
set_option linter.all false
set_option maxRecDepth 100000
set_option maxHeartbeats 4000000
namespace CK
namespace Lk02
open PySem PySem.Spec PyProof.Rows L2

open CK.Lib
def topS (i : Nat) : Stmt := PySem.Challenge.pw_crestkeys_k02_packs_checked.main.body.getD i (.Pass ⟨0, 0, 0, 0⟩)
abbrev s_law_pot : Stmt := topS 11
theorem sc_law_pot : FnScope ["script", "k", "cell"] ["script", "k"] (defScope s_law_pot) := ⟨rfl, rfl, rfl, by decide +kernel, rfl, by decide +kernel, by decide +kernel⟩
abbrev s_law_take : Stmt := topS 12
theorem sc_law_take : FnScope ["pot", "many", "found"] ["pot", "many"] (defScope s_law_take) := ⟨rfl, rfl, rfl, by decide +kernel, rfl, by decide +kernel, by decide +kernel⟩
abbrev s_law_great : Stmt := topS 13
theorem sc_law_great : FnScope ["pot", "low", "middle"] ["pot"] (defScope s_law_great) := ⟨rfl, rfl, rfl, by decide +kernel, rfl, by decide +kernel, by decide +kernel⟩
abbrev s_law_number : Stmt := topS 14
theorem sc_law_number : FnScope ["pot", "base", "way", "near", "found"] ["pot", "base"] (defScope s_law_number) := ⟨rfl, rfl, rfl, by decide +kernel, rfl, by decide +kernel, by decide +kernel⟩
abbrev s_law_card : Stmt := topS 15
theorem sc_law_card : FnScope ["pot", "base", "ranks", "key", "rank", "worth"] ["pot", "base", "ranks"] (defScope s_law_card) := ⟨rfl, rfl, rfl, by decide +kernel, rfl, by decide +kernel, by decide +kernel⟩
abbrev s_law_cards : Stmt := topS 16
theorem sc_law_cards : FnScope ["pot", "way", "twice", "many", "base", "cards", "k", "card"] ["pot"] (defScope s_law_cards) := ⟨rfl, rfl, rfl, by decide +kernel, rfl, by decide +kernel, by decide +kernel⟩
abbrev s_checked : Stmt := topS 9
theorem sc_checked : FnScope ["cards", "seen", "card"] ["cards"] (defScope s_checked) := ⟨rfl, rfl, rfl, by decide +kernel, rfl, by decide +kernel, by decide +kernel⟩
abbrev s_law_refusal : Stmt := topS 18
theorem sc_law_refusal : FnScope ["handed", "found", "e"] ["handed"] (defScope s_law_refusal) := ⟨rfl, rfl, rfl, by decide +kernel, rfl, by decide +kernel, by decide +kernel⟩
abbrev s_law_twice : Stmt := topS 17
theorem sc_law_twice : FnScope ["cards", "k", "card"] ["cards"] (defScope s_law_twice) := ⟨rfl, rfl, rfl, by decide +kernel, rfl, by decide +kernel, by decide +kernel⟩
abbrev s_law_alone : Stmt := topS 19
theorem sc_law_alone : FnScope ["e", "place", "some"] ["e", "place"] (defScope s_law_alone) := ⟨rfl, rfl, rfl, by decide +kernel, rfl, by decide +kernel, by decide +kernel⟩
abbrev s_law : Stmt := topS 20
theorem sc_law : FnScope ["script", "k", "pot", "plain", "cards", "handed", "found", "key"] ["script"] (defScope s_law) := ⟨rfl, rfl, rfl, by decide +kernel, rfl, by decide +kernel, by decide +kernel⟩
structure Bl (c : Gx) : Prop where
  b_ValueError : c.mg "ValueError" = none
  b_abs : c.mg "abs" = none
  b_int : c.mg "int" = none
  b_isinstance : c.mg "isinstance" = none
  b_len : c.mg "len" = none
  b_list : c.mg "list" = none
  b_max : c.mg "max" = none
  b_min : c.mg "min" = none
  b_range : c.mg "range" = none
  b_tuple : c.mg "tuple" = none
structure Gc (c : Gx) : Prop where
  c_MOST_CARDS : ∃ t, c.mg "MOST_CARDS" = some (.int 64 t)
abbrev s_TooMany : Stmt := clsDef (topS 3)
abbrev s_Twice : Stmt := clsDef (topS 2)
structure Xc (P : Program) (w : World) (c : Gx) (base : Heap) : Prop where
  m_TooMany : ∃ C, XMade P w c base "TooMany" "most" C
  m_Twice : ∃ C, XMade P w c base "Twice" "key" C
  all : XAll c LX
  t_CrestError : ∃ C, c.mg "CrestError" = some (.ref C) ∧ XTakes c LX "CrestError" (.ref C) ∧ XIs c LX "CrestError" (.ref C)
  t_Mingled : ∃ C, c.mg "Mingled" = some (.ref C) ∧ XTakes c LX "Mingled" (.ref C) ∧ XIs c LX "Mingled" (.ref C)
  t_NoKey : ∃ C, c.mg "NoKey" = some (.ref C) ∧ XTakes c LX "NoKey" (.ref C) ∧ XIs c LX "NoKey" (.ref C)
  t_NoTurn : ∃ C, c.mg "NoTurn" = some (.ref C) ∧ XTakes c LX "NoTurn" (.ref C) ∧ XIs c LX "NoTurn" (.ref C)
  t_TooMany : ∃ C, c.mg "TooMany" = some (.ref C) ∧ XTakes c LX "TooMany" (.ref C) ∧ XIs c LX "TooMany" (.ref C)
  t_Twice : ∃ C, c.mg "Twice" = some (.ref C) ∧ XTakes c LX "Twice" (.ref C) ∧ XIs c LX "Twice" (.ref C)
  i_ValueError : XIs c LX "ValueError" (.type "ValueError")
  f_key : XFld c LX "key"
  f_most : XFld c LX "most"
section
variable {P : Program} {w : World} {c : Gx} [Nlk c] {base : Heap} {Tl : List (Addr × Str)}
theorem ok_law_pot (T : DefAt c "_law_pot" s_law_pot ["script", "k"]) (Bl : Bl c) (Gc : Gc c) (Xc : Xc P w c base) : FnHas P w c base 1 "_law_pot" ["script", "k"] law_pot_M :=
  T.has (k := 0) sc_law_pot <| fun f cdv A outer s H E tk po hr =>
  ⟨_, (pss_cons (ps_set (i := 2) sc_law_pot.nd rfl (.inl rfl) pe_int)
 (pss_cons (ps_if (pt_cmpR op_lt (pv 1) (pe_callB call_lenA (by rfl) Bl.b_len (by decide +kernel) (pa_cons (pv 0) pa_nil)) (nomark _)) (pss_one (ps_set (i := 2) sc_law_pot.nd rfl (.inl rfl) (pe_op op_mod (pe_callB call_abs (by rfl) Bl.b_abs (by decide +kernel) (pa_cons (pe_ix ix_seq (pv 0) (pv 1) (fun _ _ => rfl)) pa_nil)) (pe_op op_powX (pe_op op_powX pe_int pe_int) pe_int))))
 pss_nil)
 (pss_one (ps_ret (pe_lst (pa_cons (pe_op op_mulA (pv 2) (pe_callTy call_int1 (by rfl) Bl.b_int (by decide +kernel) (pa_cons (pe_cmpR op_ge (pv 2) (pe_op op_powX pe_int pe_int) (nomark _)) pa_nil))) (pa_cons (pe_op op_mod (pe_op op_powX (pe_op op_addA (pe_op op_addA (pe_op op_mod (pv 2) pe_int) (pe_op op_mulA pe_int (pv 1))) pe_int) pe_int) pe_int) pa_nil))))))),
 (sem_seq (sem_asg sem_int (sem_name 2))
 (sem_seq (sem_if (sem_tTest (sem_op s_lt (sem_var 1) (sem_cb s_len (sem_cons (sem_var 0) sem_nil)))) (sem_asg (sem_op s_mod (sem_cb s_abs (sem_cons (sem_op s_ix (sem_var 0) (sem_var 1)) sem_nil)) (sem_op s_pow (sem_op s_pow sem_int sem_int) sem_int)) (sem_name 2))
 sem_next)
 (sem_ret (sem_lst (sem_cons (sem_op s_mul (sem_var 2) (sem_cb s_int (sem_cons (sem_op s_ge (sem_var 2) (sem_op s_pow sem_int sem_int)) sem_nil))) (sem_cons (sem_op s_mod (sem_op s_pow (sem_op s_add (sem_op s_add (sem_op s_mod (sem_var 2) sem_int) (sem_op s_mul sem_int (sem_var 1))) sem_int) sem_int) sem_int) sem_nil))))))⟩
theorem ok_law_take (T : DefAt c "_law_take" s_law_take ["pot", "many"]) (Bl : Bl c) (Gc : Gc c) (Xc : Xc P w c base) : FnHas P w c base 1 "_law_take" ["pot", "many"] law_take_M :=
  T.has (k := 0) sc_law_take <| fun f cdv A outer s H E tk po hr =>
  ⟨_, (pss_cons (ps_if (pt_cmpR op_gt (pe_ix ix_seq (pv 0) pe_int (fun _ _ => rfl)) pe_int (nomark _)) (pss_cons (ps_set (i := 2) sc_law_take.nd rfl (.inl rfl) (pe_op op_mod (pe_ix ix_seq (pv 0) pe_int (fun _ _ => rfl)) (pv 1)))
 (pss_cons (ps_asg (pe_op op_fdivW (pe_ix ix_seq (pv 0) pe_int (fun _ _ => rfl)) (pv 1)) (pg_sub (pv 0) pe_int set_list))
 (pss_one (ps_ret (pv 2)))))
 pss_nil)
 (pss_cons (ps_asg (pe_op op_mod (pe_op op_addA (pe_op op_mulA (pe_ix ix_seq (pv 0) pe_int (fun _ _ => rfl)) pe_int) pe_int) pe_int) (pg_sub (pv 0) pe_int set_list))
 (pss_one (ps_ret (pe_op op_mod (pe_op op_fdivW (pe_op op_mod (pe_op op_mulA (pe_ix ix_seq (pv 0) pe_int (fun _ _ => rfl)) (pe_ix ix_seq (pv 0) pe_int (fun _ _ => rfl))) pe_int) pe_int) (pv 1)))))),
 (sem_seq (sem_if (sem_tTest (sem_op s_gt (sem_op s_ix (sem_var 0) sem_int) sem_int)) (sem_seq (sem_asg (sem_op s_mod (sem_op s_ix (sem_var 0) sem_int) (sem_var 1)) (sem_name 2))
 (sem_seq (sem_asg (sem_op s_fdiv (sem_op s_ix (sem_var 0) sem_int) (sem_var 1)) (sem_gSub (sem_var 0) sem_int s_set))
 (sem_ret (sem_var 2))))
 sem_next)
 (sem_seq (sem_asg (sem_op s_mod (sem_op s_add (sem_op s_mul (sem_op s_ix (sem_var 0) sem_int) sem_int) sem_int) sem_int) (sem_gSub (sem_var 0) sem_int s_set))
 (sem_ret (sem_op s_mod (sem_op s_fdiv (sem_op s_mod (sem_op s_mul (sem_op s_ix (sem_var 0) sem_int) (sem_op s_ix (sem_var 0) sem_int)) sem_int) sem_int) (sem_var 1)))))⟩
structure Hs_law_great (P : Program) (w : World) (c : Gx) (base : Heap) : Prop where
  h_law_take : FnHas P w c base 1 "_law_take" ["pot", "many"] law_take_M
theorem ok_law_great (T : DefAt c "_law_great" s_law_great ["pot"]) (Hs : Hs_law_great P w c base) (Bl : Bl c) (Gc : Gc c) (Xc : Xc P w c base) : FnHas P w c base 2 "_law_great" ["pot"] law_great2_M :=
  T.has (k := 1) sc_law_great <| fun f cdv A outer s H E tk po hr =>
  ⟨_, (pss_cons (ps_set (i := 1) sc_law_great.nd rfl (.inl rfl) (pe_callM Hs.h_law_take hr tk (pa_cons (pv 0) (pa_cons (pe_op op_powX pe_int pe_int) pa_nil)) (hjk := by omega)))
 (pss_cons (ps_set (i := 2) sc_law_great.nd rfl (.inl rfl) (pe_callM Hs.h_law_take hr tk (pa_cons (pv 0) (pa_cons (pe_op op_powX pe_int pe_int) pa_nil)) (hjk := by omega)))
 (pss_one (ps_ret (pe_callB (call_minA hr.r rfl) (by rfl) Bl.b_min (by decide +kernel) (pa_cons (pe_op op_powX pe_int pe_int) (pa_cons (pe_op op_addA (pe_op op_mulA (pe_op op_addA (pe_op op_mulA (pe_callM Hs.h_law_take hr tk (pa_cons (pv 0) (pa_cons (pe_op op_addA (pe_op op_powX pe_int pe_int) pe_int) pa_nil)) (hjk := by omega)) (pe_op op_powX pe_int pe_int)) (pv 2)) (pe_op op_powX pe_int pe_int)) (pv 1)) pa_nil))))))),
 (sem_seq (sem_asg (sem_call (sem_cons (sem_var 0) (sem_cons (sem_op s_pow sem_int sem_int) sem_nil))) (sem_name 1))
 (sem_seq (sem_asg (sem_call (sem_cons (sem_var 0) (sem_cons (sem_op s_pow sem_int sem_int) sem_nil))) (sem_name 2))
 (sem_ret (sem_cb s_min (sem_cons (sem_op s_pow sem_int sem_int) (sem_cons (sem_op s_add (sem_op s_mul (sem_op s_add (sem_op s_mul (sem_call (sem_cons (sem_var 0) (sem_cons (sem_op s_add (sem_op s_pow sem_int sem_int) sem_int) sem_nil))) (sem_op s_pow sem_int sem_int)) (sem_var 2)) (sem_op s_pow sem_int sem_int)) (sem_var 1)) sem_nil))))))⟩
structure Hs_law_number (P : Program) (w : World) (c : Gx) (base : Heap) : Prop where
  h_law_take : FnHas P w c base 1 "_law_take" ["pot", "many"] law_take_M
  h_law_great : FnHas P w c base 2 "_law_great" ["pot"] law_great2_M
theorem ok_law_number (T : DefAt c "_law_number" s_law_number ["pot", "base"]) (Hs : Hs_law_number P w c base) (Bl : Bl c) (Gc : Gc c) (Xc : Xc P w c base) : FnHas P w c base 3 "_law_number" ["pot", "base"] law_number_M :=
  T.has (k := 2) sc_law_number <| fun f cdv A outer s H E tk po hr =>
  ⟨_, (pss_cons (ps_set (i := 2) sc_law_number.nd rfl (.inl rfl) (pe_callM Hs.h_law_take hr tk (pa_cons (pv 0) (pa_cons pe_int pa_nil)) (hjk := by omega)))
 (pss_cons (ps_set (i := 3) sc_law_number.nd rfl (.inl rfl) (pe_callM Hs.h_law_take hr tk (pa_cons (pv 0) (pa_cons pe_int pa_nil)) (hjk := by omega)))
 (pss_cons (ps_set (i := 4) sc_law_number.nd rfl (.inl rfl) (pe_ix ix_seq (pe_lst (pa_cons (pe_op op_addA (pv 1) (pv 3)) (pa_cons (pe_op op_fdivW (pv 3) pe_int) (pa_cons (pe_op op_sub (pe_op op_powX pe_int pe_int) (pe_op op_fdivW (pv 3) pe_int)) (pa_cons (pe_op op_addA (pv 1) (pv 3)) pa_nil))))) (pe_callB (call_minA hr.r rfl) (by rfl) Bl.b_min (by decide +kernel) (pa_cons (pv 2) (pa_cons pe_int pa_nil))) (fun _ _ => rfl)))
 (pss_cons (ps_if (pt_cmpR (op_eqX hr.r) (pv 2) pe_int (nomark _)) (pss_one (ps_set (i := 4) sc_law_number.nd rfl (.inl rfl) (pe_callM Hs.h_law_great hr tk (pa_cons (pv 0) pa_nil) (hjk := by omega))))
 pss_nil)
 (pss_one (ps_ret (pe_callB (call_minA hr.r rfl) (by rfl) Bl.b_min (by decide +kernel) (pa_cons (pv 4) (pa_cons (pe_op op_powX pe_int pe_int) pa_nil))))))))),
 (sem_seq (sem_asg (sem_call (sem_cons (sem_var 0) (sem_cons sem_int sem_nil))) (sem_name 2))
 (sem_seq (sem_asg (sem_call (sem_cons (sem_var 0) (sem_cons sem_int sem_nil))) (sem_name 3))
 (sem_seq (sem_asg (sem_op s_ix (sem_lst (sem_cons (sem_op s_add (sem_var 1) (sem_var 3)) (sem_cons (sem_op s_fdiv (sem_var 3) sem_int) (sem_cons (sem_op s_sub (sem_op s_pow sem_int sem_int) (sem_op s_fdiv (sem_var 3) sem_int)) (sem_cons (sem_op s_add (sem_var 1) (sem_var 3)) sem_nil))))) (sem_cb s_min (sem_cons (sem_var 2) (sem_cons sem_int sem_nil)))) (sem_name 4))
 (sem_seq (sem_if (sem_tTest (sem_op s_eq (sem_var 2) sem_int)) (sem_asg (sem_call (sem_cons (sem_var 0) sem_nil)) (sem_name 4))
 sem_next)
 (sem_ret (sem_cb s_min (sem_cons (sem_var 4) (sem_cons (sem_op s_pow sem_int sem_int) sem_nil))))))))⟩
structure Hs_law_card (P : Program) (w : World) (c : Gx) (base : Heap) : Prop where
  h_law_number : FnHas P w c base 3 "_law_number" ["pot", "base"] law_number_M
  h_law_take : FnHas P w c base 1 "_law_take" ["pot", "many"] law_take_M
  h_law_great : FnHas P w c base 2 "_law_great" ["pot"] law_great2_M
theorem ok_law_card (T : DefAt c "_law_card" s_law_card ["pot", "base", "ranks"]) (Hs : Hs_law_card P w c base) (Bl : Bl c) (Gc : Gc c) (Xc : Xc P w c base) : FnHas P w c base 4 "_law_card" ["pot", "base", "ranks"] law_card_M :=
  T.has (k := 3) sc_law_card <| fun f cdv A outer s H E tk po hr =>
  ⟨_, (pss_cons (ps_set (i := 3) sc_law_card.nd rfl (.inl rfl) (pe_callM Hs.h_law_number hr tk (pa_cons (pv 0) (pa_cons (pv 1) pa_nil)) (hjk := by omega)))
 (pss_cons (ps_set (i := 4) sc_law_card.nd rfl (.inl rfl) (pe_ix ix_seq (pe_lst (pa_cons pe_int (pa_cons (pe_callM Hs.h_law_take hr tk (pa_cons (pv 0) (pa_cons pe_int pa_nil)) (hjk := by omega)) (pa_cons (pe_callM Hs.h_law_number hr tk (pa_cons (pv 0) (pa_cons (pv 1) pa_nil)) (hjk := by omega)) pa_nil)))) (pv 2) (fun _ _ => rfl)))
 (pss_cons (ps_set (i := 5) sc_law_card.nd rfl (.inl rfl) (pe_op op_sub (pe_callM Hs.h_law_take hr tk (pa_cons (pv 0) (pa_cons pe_int pa_nil)) (hjk := by omega)) pe_int))
 (pss_cons (ps_if (pt_cmpR (op_eqX hr.r) (pe_callM Hs.h_law_take hr tk (pa_cons (pv 0) (pa_cons pe_int pa_nil)) (hjk := by omega)) pe_int (nomark _)) (pss_one (ps_set (i := 5) sc_law_card.nd rfl (.inl rfl) (pe_op op_mulA (pe_callM Hs.h_law_great hr tk (pa_cons (pv 0) pa_nil) (hjk := by omega)) (pe_ix ix_seq (pe_lst (pa_cons pe_int (pa_cons (pe_op op_sub pe_int pe_int) pa_nil))) (pe_callM Hs.h_law_take hr tk (pa_cons (pv 0) (pa_cons pe_int pa_nil)) (hjk := by omega)) (fun _ _ => rfl)))))
 pss_nil)
 (pss_one (ps_ret (pe_tup (pa_cons (pv 3) (pa_cons (pv 4) (pa_cons (pe_callB (call_maxA hr.r rfl) (by rfl) Bl.b_max (by decide +kernel) (pa_cons (pe_op op_sub pe_int (pe_op op_powX pe_int pe_int)) (pa_cons (pe_callB (call_minA hr.r rfl) (by rfl) Bl.b_min (by decide +kernel) (pa_cons (pe_op op_powX pe_int pe_int) (pa_cons (pv 5) pa_nil))) pa_nil))) pa_nil)))))))))),
 (sem_seq (sem_asg (sem_call (sem_cons (sem_var 0) (sem_cons (sem_var 1) sem_nil))) (sem_name 3))
 (sem_seq (sem_asg (sem_op s_ix (sem_lst (sem_cons sem_int (sem_cons (sem_call (sem_cons (sem_var 0) (sem_cons sem_int sem_nil))) (sem_cons (sem_call (sem_cons (sem_var 0) (sem_cons (sem_var 1) sem_nil))) sem_nil)))) (sem_var 2)) (sem_name 4))
 (sem_seq (sem_asg (sem_op s_sub (sem_call (sem_cons (sem_var 0) (sem_cons sem_int sem_nil))) sem_int) (sem_name 5))
 (sem_seq (sem_if (sem_tTest (sem_op s_eq (sem_call (sem_cons (sem_var 0) (sem_cons sem_int sem_nil))) sem_int)) (sem_asg (sem_op s_mul (sem_call (sem_cons (sem_var 0) sem_nil)) (sem_op s_ix (sem_lst (sem_cons sem_int (sem_cons (sem_op s_sub sem_int sem_int) sem_nil))) (sem_call (sem_cons (sem_var 0) (sem_cons sem_int sem_nil))))) (sem_name 5))
 sem_next)
 (sem_ret (sem_tup (sem_cons (sem_var 3) (sem_cons (sem_var 4) (sem_cons (sem_cb s_max (sem_cons (sem_op s_sub sem_int (sem_op s_pow sem_int sem_int)) (sem_cons (sem_cb s_min (sem_cons (sem_op s_pow sem_int sem_int) (sem_cons (sem_var 5) sem_nil))) sem_nil))) sem_nil)))))))))⟩
structure Hs_law_cards (P : Program) (w : World) (c : Gx) (base : Heap) : Prop where
  h_law_take : FnHas P w c base 1 "_law_take" ["pot", "many"] law_take_M
  h_law_great : FnHas P w c base 2 "_law_great" ["pot"] law_great2_M
  h_law_card : FnHas P w c base 4 "_law_card" ["pot", "base", "ranks"] law_card_M
theorem ok_law_cards (T : DefAt c "_law_cards" s_law_cards ["pot"]) (Hs : Hs_law_cards P w c base) (Bl : Bl c) (Gc : Gc c) (Xc : Xc P w c base) : FnHas P w c base 5 "_law_cards" ["pot"] law_cards_M :=
  T.has (k := 4) sc_law_cards <| fun f cdv A outer s H E tk po hr =>
  ⟨_, (pss_cons (ps_set (i := 1) sc_law_cards.nd rfl (.inl rfl) (pe_callM Hs.h_law_take hr tk (pa_cons (pv 0) (pa_cons pe_int pa_nil)) (hjk := by omega)))
 (pss_cons (ps_set (i := 2) sc_law_cards.nd rfl (.inl rfl) (pe_callM Hs.h_law_take hr tk (pa_cons (pv 0) (pa_cons pe_int pa_nil)) (hjk := by omega)))
 (pss_cons (ps_set (i := 3) sc_law_cards.nd rfl (.inl rfl) (pe_ix ix_seq (pe_lst (pa_cons (pe_callM Hs.h_law_take hr tk (pa_cons (pv 0) (pa_cons pe_int pa_nil)) (hjk := by omega)) (pa_cons (pe_callM Hs.h_law_take hr tk (pa_cons (pv 0) (pa_cons pe_int pa_nil)) (hjk := by omega)) (pa_cons (pe_op op_addA pe_int (pe_callM Hs.h_law_take hr tk (pa_cons (pv 0) (pa_cons pe_int pa_nil)) (hjk := by omega))) pa_nil)))) (pv 1) (fun _ _ => rfl)))
 (pss_cons (ps_set (i := 4) sc_law_cards.nd rfl (.inl rfl) (pe_op op_mulA (pe_callM Hs.h_law_great hr tk (pa_cons (pv 0) pa_nil) (hjk := by omega)) (pe_callM Hs.h_law_take hr tk (pa_cons (pv 0) (pa_cons pe_int pa_nil)) (hjk := by omega))))
 (pss_cons (ps_set (i := 5) sc_law_cards.nd rfl (.inl rfl) (pe_lst pa_nil))
 (pss_cons (ps_for po rfl (pi_range1 (by rfl) Bl.b_range (pa_cons (pv 3) pa_nil)) (pg_name (i := 6) sc_law_cards.nd rfl (.inl rfl))
 (pss_cons (ps_set (i := 7) sc_law_cards.nd rfl (.inl rfl) (pe_callM Hs.h_law_card hr tk (pa_cons (pv 0) (pa_cons (pv 4) (pa_cons pe_int pa_nil))) (hjk := by omega)))
 (pss_cons (ps_if (pt_cmpR op_gt (pv 1) pe_int (nomark _)) (pss_one (ps_set (i := 7) sc_law_cards.nd rfl (.inl rfl) (pe_tup (pa_cons (pe_op op_addA (pe_callB (call_minA hr.r rfl) (by rfl) Bl.b_min (by decide +kernel) (pa_cons (pv 4) (pa_cons (pe_op op_sub (pe_op op_powX pe_int pe_int) pe_int) pa_nil))) (pv 6)) (pa_cons (pe_ix ix_seq (pv 7) pe_int (fun _ _ => rfl)) (pa_cons (pe_ix ix_seq (pv 7) pe_int (fun _ _ => rfl)) pa_nil))))))
 pss_nil)
 (pss_one (ps_expr (pe_bm PySem.F.plainAttrs_list PySem.F.slot_list_insert PySem.F.type_list_insert mt_insert (pv 5) (pa_cons (pe_callM Hs.h_law_take hr tk (pa_cons (pv 0) (pa_cons (pe_op op_addA (pe_callB call_lenA (by rfl) Bl.b_len (by decide +kernel) (pa_cons (pv 5) pa_nil)) pe_int) pa_nil)) (hjk := by omega)) (pa_cons (pv 7) pa_nil))))))))
 (pss_cons (ps_for po rfl (pi_range1 (by rfl) Bl.b_range (pa_cons (pe_op op_mulA (pv 2) (pe_callTy call_int1 (by rfl) Bl.b_int (by decide +kernel) (pa_cons (pe_cmpR (op_neX hr.r) (pv 5) (pe_lst pa_nil) (nomark _)) pa_nil))) pa_nil)) (pg_name (i := 6) sc_law_cards.nd rfl (.inl rfl))
 (pss_cons (ps_set (i := 7) sc_law_cards.nd rfl (.inl rfl) (pe_ix ix_seq (pv 5) (pe_callM Hs.h_law_take hr tk (pa_cons (pv 0) (pa_cons (pe_callB call_lenA (by rfl) Bl.b_len (by decide +kernel) (pa_cons (pv 5) pa_nil)) pa_nil)) (hjk := by omega)) (fun _ _ => rfl)))
 (pss_one (ps_expr (pe_bm PySem.F.plainAttrs_list PySem.F.slot_list_insert PySem.F.type_list_insert mt_insert (pv 5) (pa_cons (pe_callM Hs.h_law_take hr tk (pa_cons (pv 0) (pa_cons (pe_op op_addA (pe_callB call_lenA (by rfl) Bl.b_len (by decide +kernel) (pa_cons (pv 5) pa_nil)) pe_int) pa_nil)) (hjk := by omega)) (pa_cons (pe_tup (pa_cons (pe_ix ix_seq (pv 7) pe_int (fun _ _ => rfl)) (pa_cons (pe_callM Hs.h_law_take hr tk (pa_cons (pv 0) (pa_cons pe_int pa_nil)) (hjk := by omega)) (pa_cons (pe_ix ix_seq (pv 7) pe_int (fun _ _ => rfl)) pa_nil)))) pa_nil)))))))
 (pss_one (ps_ret (pv 5)))))))))),
 (sem_seq (sem_asg (sem_call (sem_cons (sem_var 0) (sem_cons sem_int sem_nil))) (sem_name 1))
 (sem_seq (sem_asg (sem_call (sem_cons (sem_var 0) (sem_cons sem_int sem_nil))) (sem_name 2))
 (sem_seq (sem_asg (sem_op s_ix (sem_lst (sem_cons (sem_call (sem_cons (sem_var 0) (sem_cons sem_int sem_nil))) (sem_cons (sem_call (sem_cons (sem_var 0) (sem_cons sem_int sem_nil))) (sem_cons (sem_op s_add sem_int (sem_call (sem_cons (sem_var 0) (sem_cons sem_int sem_nil)))) sem_nil)))) (sem_var 1)) (sem_name 3))
 (sem_seq (sem_asg (sem_op s_mul (sem_call (sem_cons (sem_var 0) sem_nil)) (sem_call (sem_cons (sem_var 0) (sem_cons sem_int sem_nil)))) (sem_name 4))
 (sem_seq (sem_asg (sem_lst sem_nil) (sem_name 5))
 (sem_seq (sem_for (sem_rng1 (sem_cons (sem_var 3) sem_nil)) (sem_name 6)
 (sem_seq (sem_asg (sem_call (sem_cons (sem_var 0) (sem_cons (sem_var 4) (sem_cons sem_int sem_nil)))) (sem_name 7))
 (sem_seq (sem_if (sem_tTest (sem_op s_gt (sem_var 1) sem_int)) (sem_asg (sem_tup (sem_cons (sem_op s_add (sem_cb s_min (sem_cons (sem_var 4) (sem_cons (sem_op s_sub (sem_op s_pow sem_int sem_int) sem_int) sem_nil))) (sem_var 6)) (sem_cons (sem_op s_ix (sem_var 7) sem_int) (sem_cons (sem_op s_ix (sem_var 7) sem_int) sem_nil)))) (sem_name 7))
 sem_next)
 (sem_drop (sem_bm s_insert (sem_var 5) (sem_cons (sem_call (sem_cons (sem_var 0) (sem_cons (sem_op s_add (sem_cb s_len (sem_cons (sem_var 5) sem_nil)) sem_int) sem_nil))) (sem_cons (sem_var 7) sem_nil)))))))
 (sem_seq (sem_for (sem_rng1 (sem_cons (sem_op s_mul (sem_var 2) (sem_cb s_int (sem_cons (sem_op s_ne (sem_var 5) (sem_lst sem_nil)) sem_nil))) sem_nil)) (sem_name 6)
 (sem_seq (sem_asg (sem_op s_ix (sem_var 5) (sem_call (sem_cons (sem_var 0) (sem_cons (sem_cb s_len (sem_cons (sem_var 5) sem_nil)) sem_nil)))) (sem_name 7))
 (sem_drop (sem_bm s_insert (sem_var 5) (sem_cons (sem_call (sem_cons (sem_var 0) (sem_cons (sem_op s_add (sem_cb s_len (sem_cons (sem_var 5) sem_nil)) sem_int) sem_nil))) (sem_cons (sem_tup (sem_cons (sem_op s_ix (sem_var 7) sem_int) (sem_cons (sem_call (sem_cons (sem_var 0) (sem_cons sem_int sem_nil))) (sem_cons (sem_op s_ix (sem_var 7) sem_int) sem_nil)))) sem_nil))))))
 (sem_ret (sem_var 5)))))))))⟩
theorem ok_checked (T : DefAt c "checked" s_checked ["cards"]) (Bl : Bl c) (Gc : Gc c) (Xc : Xc P w c base) : FnHas P w c base 3 "checked" ["cards"] checked_M :=
  T.has (k := 2) sc_checked <| fun f cdv A outer s H E tk po hr =>
  ⟨_, (pss_cons (ps_set (i := 1) sc_checked.nd rfl (.inl rfl) pe_dnewK)
 (pss_cons (ps_for po rfl (pi_seq (pv 0)) (pg_name (i := 2) sc_checked.nd rfl (.inl rfl))
 (pss_cons (ps_if (pt_cmpR (op_din (hu_of hr.r)) (pe_ix ix_seq (pv 2) pe_int (fun _ _ => rfl)) (pv 1) (by rfl)) (pss_one (ps_raise1 (C := Xc.m_Twice.choose) Xc.m_Twice.choose_spec hr.r tk (pa_cons (pe_ix ix_seq (pv 2) pe_int (fun _ _ => rfl)) pa_nil) (hk := by omega)))
 pss_nil)
 (pss_one (ps_asg pe_bl (pg_sub (pv 1) (pe_ix ix_seq (pv 2) pe_int (fun _ _ => rfl)) (set_dict (hu_of hr.r)))))))
 (pss_cons (ps_if (pt_cmpR op_gt (pe_callB call_lenA (by rfl) Bl.b_len (by decide +kernel) (pa_cons (pv 0) pa_nil)) (pe_glob (v := .int 64) (by rfl) (Gc.c_MOST_CARDS).choose_spec ⟨_, rfl⟩) (nomark _)) (pss_one (ps_raise1 (C := Xc.m_TooMany.choose) Xc.m_TooMany.choose_spec hr.r tk (pa_cons (pe_glob (v := .int 64) (by rfl) (Gc.c_MOST_CARDS).choose_spec ⟨_, rfl⟩) pa_nil) (hk := by omega)))
 pss_nil)
 (pss_one (ps_ret (pe_callTy call_list_of (by rfl) Bl.b_list (by decide +kernel) (pa_cons (pv 0) pa_nil))))))),
 (sem_seq (sem_asg sem_dnew (sem_name 1))
 (sem_seq (sem_for (sem_seqI (sem_var 0)) (sem_name 2)
 (sem_seq (sem_if (sem_tTest (sem_op s_din (sem_op s_ix (sem_var 2) sem_int) (sem_var 1))) (sem_raise1 Xc.m_Twice.choose_spec (sem_cons (sem_op s_ix (sem_var 2) sem_int) sem_nil))
 sem_next)
 (sem_asg sem_bl (sem_gSub (sem_var 1) (sem_op s_ix (sem_var 2) sem_int) s_dput))))
 (sem_seq (sem_if (sem_tTest (sem_op s_gt (sem_cb s_len (sem_cons (sem_var 0) sem_nil)) sem_int)) (sem_raise1 Xc.m_TooMany.choose_spec (sem_cons sem_int sem_nil))
 sem_next)
 (sem_ret (sem_cb s_list (sem_cons (sem_var 0) sem_nil))))))⟩
structure Hs_law_refusal (P : Program) (w : World) (c : Gx) (base : Heap) : Prop where
  h_checked : FnHas P w c base 3 "checked" ["cards"] checked_M
theorem ok_law_refusal (T : DefAt c "_law_refusal" s_law_refusal ["handed"]) (Hs : Hs_law_refusal P w c base) (Bl : Bl c) (Gc : Gc c) (Xc : Xc P w c base) : FnHas P w c base 4 "_law_refusal" ["handed"] law_refusal_M :=
  T.has (k := 3) sc_law_refusal <| fun f cdv A outer s H E tk po hr =>
  ⟨_, (pss_cons (ps_set (i := 1) sc_law_refusal.nd rfl (.inl rfl) pe_non)
 (pss_cons (ps_try_asT (i := 2) rfl rfl rfl sc_law_refusal.nd rfl rfl ⟨rfl, by decide, .inl (Xc.t_CrestError).choose_spec.1⟩ tk (fun W pn xe tk po => (pss_one (ps_set (i := 1) sc_law_refusal.nd rfl (.inl rfl) (pe_callM Hs.h_checked hr tk (pa_cons (pv 0) pa_nil) (hjk := by omega))))) (fun a oe cls d pn hz hf => (pss_one (ps_set (i := 1) sc_law_refusal.nd rfl (.inl rfl) (pv 2)))))
 (pss_one (ps_ret (pv 1))))),
 (sem_seq (sem_asg sem_non (sem_name 1))
 (sem_seq (sem_tryAsK (L := LX) (h := "CrestError") Xc.all (Xc.t_CrestError).choose_spec.2.1 (fun _ => (sem_asg (sem_call (sem_cons (sem_var 0) sem_nil)) (sem_name 1))) (fun a cls d x j hx => (sem_asg (sem_var 2) (sem_name 1))))
 (sem_ret (sem_var 1))))⟩
theorem ok_law_twice (T : DefAt c "_law_twice" s_law_twice ["cards"]) (Bl : Bl c) (Gc : Gc c) (Xc : Xc P w c base) : FnHas P w c base 1 "_law_twice" ["cards"] law_twice_M :=
  T.has (k := 0) sc_law_twice <| fun f cdv A outer s H E tk po hr =>
  ⟨_, (pss_cons (ps_for po rfl (pi_range1 (by rfl) Bl.b_range (pa_cons (pe_callB call_lenA (by rfl) Bl.b_len (by decide +kernel) (pa_cons (pv 0) pa_nil)) pa_nil)) (pg_name (i := 1) sc_law_twice.nd rfl (.inl rfl))
 (pss_one (ps_if (pt_cmpR (op_inX hr.r) (pe_ix ix_seq (pe_ix ix_seq (pv 0) (pv 1) (fun _ _ => rfl)) pe_int (fun _ _ => rfl)) (pe_lc (own := [("card", 2)]) (g := gName 2) (tt := tYes) rfl sc_law_twice.nd (pi_seq (pe_slice sl_any (pv 0) po_none (po_some (pv 1)))) (blkOk_by (own := [("card", 2)]) (N := ["cards", "k", "card"]) (sc := defScope s_law_twice) (by decide +kernel)) (fun _ _ _ _ _ => (pg_name (i := 2) sc_law_twice.nd rfl (Or.inl rfl))) (fun _ _ _ _ _ => pts_nil) (fun _ _ _ _ _ => (pe_ix ix_seq (pv 2) pe_int (fun _ _ => rfl)))) (by rfl)) (pss_one (ps_ret (pe_ix ix_seq (pe_ix ix_seq (pv 0) (pv 1) (fun _ _ => rfl)) pe_int (fun _ _ => rfl))))
 pss_nil)))
 (pss_one (ps_ret pe_non))),
 (sem_seq (sem_for (sem_rng1 (sem_cons (sem_cb s_len (sem_cons (sem_var 0) sem_nil)) sem_nil)) (sem_name 1)
 (sem_if (sem_tTest (sem_op s_inX (sem_op s_ix (sem_op s_ix (sem_var 0) (sem_var 1)) sem_int) (sem_lc (sem_seqI (sem_slice (sem_var 0) sem_noPart (sem_part (sem_var 1)))) (sem_gvName 2 (by decide)) sem_yes (sem_op s_ix (sem_var 2) sem_int)))) (sem_ret (sem_op s_ix (sem_op s_ix (sem_var 0) (sem_var 1)) sem_int))
 sem_next))
 (sem_ret sem_non))⟩
theorem ok_law_alone (T : DefAt c "_law_alone" s_law_alone ["e", "place"]) (Bl : Bl c) (Gc : Gc c) (Xc : Xc P w c base) : FnHas P w c base 1 "_law_alone" ["e", "place"] law_alone_M :=
  T.has (k := 0) sc_law_alone <| fun f cdv A outer s H E tk po hr =>
  ⟨_, (pss_cons (ps_set (i := 2) sc_law_alone.nd rfl (.inl rfl) (pe_lst (pa_cons (pe_callB call_isT (by rfl) Bl.b_isinstance (by decide +kernel) (pa_cons (pv 0) (pa_cons (pe_glob (v := .ref (Xc.t_Twice).choose) (by rfl) (Xc.t_Twice).choose_spec.1 rfl) pa_nil))) (pa_cons (pe_callB call_isT (by rfl) Bl.b_isinstance (by decide +kernel) (pa_cons (pv 0) (pa_cons (pe_glob (v := .ref (Xc.t_TooMany).choose) (by rfl) (Xc.t_TooMany).choose_spec.1 rfl) pa_nil))) (pa_cons (pe_callB call_isT (by rfl) Bl.b_isinstance (by decide +kernel) (pa_cons (pv 0) (pa_cons (pe_glob (v := .ref (Xc.t_NoKey).choose) (by rfl) (Xc.t_NoKey).choose_spec.1 rfl) pa_nil))) (pa_cons (pe_callB call_isT (by rfl) Bl.b_isinstance (by decide +kernel) (pa_cons (pv 0) (pa_cons (pe_glob (v := .ref (Xc.t_NoTurn).choose) (by rfl) (Xc.t_NoTurn).choose_spec.1 rfl) pa_nil))) (pa_cons (pe_callB call_isT (by rfl) Bl.b_isinstance (by decide +kernel) (pa_cons (pv 0) (pa_cons (pe_glob (v := .ref (Xc.t_Mingled).choose) (by rfl) (Xc.t_Mingled).choose_spec.1 rfl) pa_nil))) pa_nil)))))))
 (pss_one (ps_ret (pe_and (pe_callB call_isT (by rfl) Bl.b_isinstance (by decide +kernel) (pa_cons (pv 0) (pa_cons (pe_bltn (v := .ty "ValueError") (by rfl) Bl.b_ValueError (by decide +kernel) rfl) pa_nil))) (pe_and (pe_cmpR (op_eqX hr.r) (pe_bm PySem.F.plainAttrs_list PySem.F.slot_list_count PySem.F.type_list_count (mt_countX hr.r) (pv 2) (pa_cons pe_bl pa_nil)) pe_int (nomark _)) (pe_one (pe_ix ix_seq (pv 2) (pv 1) (fun _ _ => rfl)))))))),
 (sem_seq (sem_asg (sem_lst (sem_cons (sem_isX Xc.all (Xc.t_Twice).choose_spec.2.2 (fun _ r => r) (sem_var 0)) (sem_cons (sem_isX Xc.all (Xc.t_TooMany).choose_spec.2.2 (fun _ r => r) (sem_var 0)) (sem_cons (sem_isX Xc.all (Xc.t_NoKey).choose_spec.2.2 (fun _ r => r) (sem_var 0)) (sem_cons (sem_isX Xc.all (Xc.t_NoTurn).choose_spec.2.2 (fun _ r => r) (sem_var 0)) (sem_cons (sem_isX Xc.all (Xc.t_Mingled).choose_spec.2.2 (fun _ r => r) (sem_var 0)) sem_nil)))))) (sem_name 2))
 (sem_ret (sem_andV (sem_isX Xc.all Xc.i_ValueError (fun _ r => r) (sem_var 0)) (sem_andV (sem_op s_eq (sem_bm s_countD (sem_var 2) (sem_cons sem_bl sem_nil)) sem_int) (sem_op s_ix (sem_var 2) (sem_var 1))))))⟩
structure Hs_law (P : Program) (w : World) (c : Gx) (base : Heap) : Prop where
  h_law_pot : FnHas P w c base 1 "_law_pot" ["script", "k"] law_pot_M
  h_law_take : FnHas P w c base 1 "_law_take" ["pot", "many"] law_take_M
  h_law_cards : FnHas P w c base 5 "_law_cards" ["pot"] law_cards_M
  h_law_refusal : FnHas P w c base 4 "_law_refusal" ["handed"] law_refusal_M
  h_law_twice : FnHas P w c base 1 "_law_twice" ["cards"] law_twice_M
  h_checked : FnHas P w c base 3 "checked" ["cards"] checked_M
  h_law_alone : FnHas P w c base 1 "_law_alone" ["e", "place"] law_alone_M
theorem ok_law {f : Addr} {fd : FuncData} (F : Fun c.K "law" "law" s_law f fd) (Hs : Hs_law P w c base) (Bl : Bl c) (Gc : Gc c) (Xc : Xc P w c base) : FnG P w c base 6 f fd ["script"] law_M :=
  fn_mk (k := 5) F sc_law <| fun cdv A outer s H E tk po hr =>
  ⟨_, (pss_cons (ps_for po rfl (pi_range1 (by rfl) Bl.b_range (pa_cons (pe_callB (call_maxA hr.r rfl) (by rfl) Bl.b_max (by decide +kernel) (pa_cons pe_int (pa_cons (pe_callB (call_minA hr.r rfl) (by rfl) Bl.b_min (by decide +kernel) (pa_cons (pe_callB call_lenA (by rfl) Bl.b_len (by decide +kernel) (pa_cons (pv 0) pa_nil)) (pa_cons pe_int pa_nil))) pa_nil))) pa_nil)) (pg_name (i := 1) sc_law.nd rfl (.inl rfl))
 (pss_cons (ps_set (i := 2) sc_law.nd rfl (.inl rfl) (pe_callM Hs.h_law_pot hr tk (pa_cons (pv 0) (pa_cons (pv 1) pa_nil)) (hjk := by omega)))
 (pss_cons (ps_set (i := 3) sc_law.nd rfl (.inl rfl) (pe_callM Hs.h_law_take hr tk (pa_cons (pv 2) (pa_cons pe_int pa_nil)) (hjk := by omega)))
 (pss_cons (ps_set (i := 4) sc_law.nd rfl (.inl rfl) (pe_callM Hs.h_law_cards hr tk (pa_cons (pv 2) pa_nil) (hjk := by omega)))
 (pss_cons (ps_set (i := 5) sc_law.nd rfl (.inl rfl) (pe_ix ix_seq (pe_lst (pa_cons (pe_callTy call_list_of (by rfl) Bl.b_list (by decide +kernel) (pa_cons (pv 4) pa_nil)) (pa_cons (pe_callTy call_tuple_of (by rfl) Bl.b_tuple (by decide +kernel) (pa_cons (pv 4) pa_nil)) pa_nil))) (pv 3) (fun _ _ => rfl)))
 (pss_cons (ps_set (i := 6) sc_law.nd rfl (.inl rfl) (pe_callM Hs.h_law_refusal hr tk (pa_cons (pv 5) pa_nil) (hjk := by omega)))
 (pss_cons (ps_set (i := 7) sc_law.nd rfl (.inl rfl) (pe_callM Hs.h_law_twice hr tk (pa_cons (pv 4) pa_nil) (hjk := by omega)))
 (pss_cons (ps_if (pt_cmpR op_notA (pv 7) pe_non (nomark _)) (pss_one (ps_if (PW.pt (pw_or (pt_not (pt_val (pe_callM Hs.h_law_alone hr tk (pa_cons (pv 6) (pa_cons pe_int pa_nil)) (hjk := by omega)))) (pw_or1 (pt_cmpR (op_neX hr.r) (pe_xfT (pv 6)) (pv 7) (nomark _))))) (pss_one (ps_ret pe_bl))
 pss_nil))
 (pss_one (ps_if (pt_cmpR op_gt (pe_callB call_lenA (by rfl) Bl.b_len (by decide +kernel) (pa_cons (pv 4) pa_nil)) pe_int (nomark _)) (pss_one (ps_if (PW.pt (pw_or (pt_not (pt_val (pe_callM Hs.h_law_alone hr tk (pa_cons (pv 6) (pa_cons pe_int pa_nil)) (hjk := by omega)))) (pw_or1 (pt_cmpR (op_neX hr.r) (pe_xfT (pv 6)) pe_int (nomark _))))) (pss_one (ps_ret pe_bl))
 pss_nil))
 (pss_cons (ps_if (PW.pt (pw_or (pt_not (pt_val (pe_callB call_isiA (by rfl) Bl.b_isinstance (by decide +kernel) (pa_cons (pv 6) (pa_cons (pe_bltn (v := .ty "list") (by rfl) Bl.b_list (by decide +kernel) rfl) pa_nil))))) (pw_or1 (pt_cmpR (op_neX hr.r) (pv 6) (pv 4) (nomark _))))) (pss_one (ps_ret pe_bl))
 pss_nil)
 (pss_cons (ps_expr (pe_bm PySem.F.plainAttrs_list PySem.F.slot_list_append PySem.F.type_list_append mt_append (pv 6) (pa_cons (pe_tup (pa_cons pe_int (pa_cons pe_int (pa_cons pe_int pa_nil)))) pa_nil)))
 (pss_one (ps_if (pt_cmpR (op_neX hr.r) (pe_callM Hs.h_checked hr tk (pa_cons (pv 5) pa_nil) (hjk := by omega)) (pv 4) (nomark _)) (pss_one (ps_ret pe_bl))
 pss_nil)))))))
 (pss_one (ps_if (pt_cmpR (op_neX hr.r) (pe_callTy call_list_of (by rfl) Bl.b_list (by decide +kernel) (pa_cons (pv 5) pa_nil)) (pv 4) (nomark _)) (pss_one (ps_ret pe_bl))
 pss_nil))))))))))
 (pss_one (ps_ret (pe_cmpR (op_eqX hr.r) (pe_callM Hs.h_checked hr tk (pa_cons (pe_lst pa_nil) pa_nil) (hjk := by omega)) (pe_lst pa_nil) (nomark _))))),
 (sem_seq (sem_for (sem_rng1 (sem_cons (sem_cb s_max (sem_cons sem_int (sem_cons (sem_cb s_min (sem_cons (sem_cb s_len (sem_cons (sem_var 0) sem_nil)) (sem_cons sem_int sem_nil))) sem_nil))) sem_nil)) (sem_name 1)
 (sem_seq (sem_asg (sem_call (sem_cons (sem_var 0) (sem_cons (sem_var 1) sem_nil))) (sem_name 2))
 (sem_seq (sem_asg (sem_call (sem_cons (sem_var 2) (sem_cons sem_int sem_nil))) (sem_name 3))
 (sem_seq (sem_asg (sem_call (sem_cons (sem_var 2) sem_nil)) (sem_name 4))
 (sem_seq (sem_asg (sem_op s_ix (sem_lst (sem_cons (sem_cb s_list (sem_cons (sem_var 4) sem_nil)) (sem_cons (sem_cb s_tuple (sem_cons (sem_var 4) sem_nil)) sem_nil))) (sem_var 3)) (sem_name 5))
 (sem_seq (sem_asg (sem_call (sem_cons (sem_var 5) sem_nil)) (sem_name 6))
 (sem_seq (sem_asg (sem_call (sem_cons (sem_var 4) sem_nil)) (sem_name 7))
 (sem_seq (sem_if (sem_tTest (sem_op s_not (sem_var 7) sem_non)) (sem_if (sem_or (sem_not (sem_tB (sem_call (sem_cons (sem_var 6) (sem_cons sem_int sem_nil))))) (sem_tTest (sem_op s_ne (sem_fldX Xc.all Xc.f_key (sem_var 6)) (sem_var 7)))) (sem_ret sem_bl)
 sem_next)
 (sem_if (sem_tTest (sem_op s_gt (sem_cb s_len (sem_cons (sem_var 4) sem_nil)) sem_int)) (sem_if (sem_or (sem_not (sem_tB (sem_call (sem_cons (sem_var 6) (sem_cons sem_int sem_nil))))) (sem_tTest (sem_op s_ne (sem_fldX Xc.all Xc.f_most (sem_var 6)) sem_int))) (sem_ret sem_bl)
 sem_next)
 (sem_seq (sem_if (sem_or (sem_not (sem_tB (sem_isi (sem_var 6)))) (sem_tTest (sem_op s_ne (sem_var 6) (sem_var 4)))) (sem_ret sem_bl)
 sem_next)
 (sem_seq (sem_drop (sem_bm s_append (sem_var 6) (sem_cons (sem_tup (sem_cons sem_int (sem_cons sem_int (sem_cons sem_int sem_nil)))) sem_nil)))
 (sem_if (sem_tTest (sem_op s_ne (sem_call (sem_cons (sem_var 5) sem_nil)) (sem_var 4))) (sem_ret sem_bl)
 sem_next)))))
 (sem_if (sem_tTest (sem_op s_ne (sem_cb s_list (sem_cons (sem_var 5) sem_nil)) (sem_var 4))) (sem_ret sem_bl)
 sem_next)))))))))
 (sem_ret (sem_op s_eq (sem_call (sem_cons (sem_lst sem_nil) sem_nil)) (sem_lst sem_nil))))⟩
theorem all_ok {f : Addr} {fd : FuncData} (F : Fun c.K "law" "law" s_law f fd) (T_law_pot : DefAt c "_law_pot" s_law_pot ["script", "k"]) (T_law_take : DefAt c "_law_take" s_law_take ["pot", "many"]) (T_law_great : DefAt c "_law_great" s_law_great ["pot"]) (T_law_number : DefAt c "_law_number" s_law_number ["pot", "base"]) (T_law_card : DefAt c "_law_card" s_law_card ["pot", "base", "ranks"]) (T_law_cards : DefAt c "_law_cards" s_law_cards ["pot"]) (T_checked : DefAt c "checked" s_checked ["cards"]) (T_law_refusal : DefAt c "_law_refusal" s_law_refusal ["handed"]) (T_law_twice : DefAt c "_law_twice" s_law_twice ["cards"]) (T_law_alone : DefAt c "_law_alone" s_law_alone ["e", "place"]) (Bl : Bl c) (Gc : Gc c) (Xc : Xc P w c base) : FnG P w c base 6 f fd ["script"] law_M := by
  have H_law_pot := ok_law_pot (P := P) (w := w) (base := base) T_law_pot Bl Gc Xc
  have H_law_take := ok_law_take (P := P) (w := w) (base := base) T_law_take Bl Gc Xc
  have H_law_great := ok_law_great (P := P) (w := w) (base := base) T_law_great ⟨H_law_take⟩ Bl Gc Xc
  have H_law_number := ok_law_number (P := P) (w := w) (base := base) T_law_number ⟨H_law_take, H_law_great⟩ Bl Gc Xc
  have H_law_card := ok_law_card (P := P) (w := w) (base := base) T_law_card ⟨H_law_number, H_law_take, H_law_great⟩ Bl Gc Xc
  have H_law_cards := ok_law_cards (P := P) (w := w) (base := base) T_law_cards ⟨H_law_take, H_law_great, H_law_card⟩ Bl Gc Xc
  have H_checked := ok_checked (P := P) (w := w) (base := base) T_checked Bl Gc Xc
  have H_law_refusal := ok_law_refusal (P := P) (w := w) (base := base) T_law_refusal ⟨H_checked⟩ Bl Gc Xc
  have H_law_twice := ok_law_twice (P := P) (w := w) (base := base) T_law_twice Bl Gc Xc
  have H_law_alone := ok_law_alone (P := P) (w := w) (base := base) T_law_alone Bl Gc Xc
  exact ok_law F ⟨H_law_pot, H_law_take, H_law_cards, H_law_refusal, H_law_twice, H_checked, H_law_alone⟩ Bl Gc Xc
end
theorem all_mk {P : Program} {w : World} {K : PySem.W.Frag} {h : Heap} {mg : Str → Option Value} {fa : Addr} (X : K.In h) (G : h.Ns mainGlobals mg) (hfa : mg "law" = some (.ref fa))
    {od0 an0 : Option Addr} {sl0 : Array (Option Value)} {oc0 kV0 dc0 pm0 cd0 ct0 : Value} {f0 : Addr} (a0 : PySem.W.nsIn K mainGlobals "_law_pot" = some (some (.ref f0))) (l0 : K.lookup f0 = some ⟨oc0, od0, .func (PySem.W.fnOf "_law_pot" "_law_pot" (defArgs s_law_pot) (defBody s_law_pot) (defScope s_law_pot) .none kV0 dc0 pm0 an0 cd0 ct0), sl0⟩) (c0 : PySem.W.codeIn K cd0 "_law_pot" = true) (k0 : PySem.W.keepIn K (.ref f0) = true)
    {od1 an1 : Option Addr} {sl1 : Array (Option Value)} {oc1 kV1 dc1 pm1 cd1 ct1 : Value} {f1 : Addr} (a1 : PySem.W.nsIn K mainGlobals "_law_take" = some (some (.ref f1))) (l1 : K.lookup f1 = some ⟨oc1, od1, .func (PySem.W.fnOf "_law_take" "_law_take" (defArgs s_law_take) (defBody s_law_take) (defScope s_law_take) .none kV1 dc1 pm1 an1 cd1 ct1), sl1⟩) (c1 : PySem.W.codeIn K cd1 "_law_take" = true) (k1 : PySem.W.keepIn K (.ref f1) = true)
    {od2 an2 : Option Addr} {sl2 : Array (Option Value)} {oc2 kV2 dc2 pm2 cd2 ct2 : Value} {f2 : Addr} (a2 : PySem.W.nsIn K mainGlobals "_law_great" = some (some (.ref f2))) (l2 : K.lookup f2 = some ⟨oc2, od2, .func (PySem.W.fnOf "_law_great" "_law_great" (defArgs s_law_great) (defBody s_law_great) (defScope s_law_great) .none kV2 dc2 pm2 an2 cd2 ct2), sl2⟩) (c2 : PySem.W.codeIn K cd2 "_law_great" = true) (k2 : PySem.W.keepIn K (.ref f2) = true)
    {od3 an3 : Option Addr} {sl3 : Array (Option Value)} {oc3 kV3 dc3 pm3 cd3 ct3 : Value} {f3 : Addr} (a3 : PySem.W.nsIn K mainGlobals "_law_number" = some (some (.ref f3))) (l3 : K.lookup f3 = some ⟨oc3, od3, .func (PySem.W.fnOf "_law_number" "_law_number" (defArgs s_law_number) (defBody s_law_number) (defScope s_law_number) .none kV3 dc3 pm3 an3 cd3 ct3), sl3⟩) (c3 : PySem.W.codeIn K cd3 "_law_number" = true) (k3 : PySem.W.keepIn K (.ref f3) = true)
    {od4 an4 : Option Addr} {sl4 : Array (Option Value)} {oc4 kV4 dc4 pm4 cd4 ct4 : Value} {f4 : Addr} (a4 : PySem.W.nsIn K mainGlobals "_law_card" = some (some (.ref f4))) (l4 : K.lookup f4 = some ⟨oc4, od4, .func (PySem.W.fnOf "_law_card" "_law_card" (defArgs s_law_card) (defBody s_law_card) (defScope s_law_card) .none kV4 dc4 pm4 an4 cd4 ct4), sl4⟩) (c4 : PySem.W.codeIn K cd4 "_law_card" = true) (k4 : PySem.W.keepIn K (.ref f4) = true)
    {od5 an5 : Option Addr} {sl5 : Array (Option Value)} {oc5 kV5 dc5 pm5 cd5 ct5 : Value} {f5 : Addr} (a5 : PySem.W.nsIn K mainGlobals "_law_cards" = some (some (.ref f5))) (l5 : K.lookup f5 = some ⟨oc5, od5, .func (PySem.W.fnOf "_law_cards" "_law_cards" (defArgs s_law_cards) (defBody s_law_cards) (defScope s_law_cards) .none kV5 dc5 pm5 an5 cd5 ct5), sl5⟩) (c5 : PySem.W.codeIn K cd5 "_law_cards" = true) (k5 : PySem.W.keepIn K (.ref f5) = true)
    {od6 an6 : Option Addr} {sl6 : Array (Option Value)} {oc6 kV6 dc6 pm6 cd6 ct6 : Value} {f6 : Addr} (a6 : PySem.W.nsIn K mainGlobals "checked" = some (some (.ref f6))) (l6 : K.lookup f6 = some ⟨oc6, od6, .func (PySem.W.fnOf "checked" "checked" (defArgs s_checked) (defBody s_checked) (defScope s_checked) .none kV6 dc6 pm6 an6 cd6 ct6), sl6⟩) (c6 : PySem.W.codeIn K cd6 "checked" = true) (k6 : PySem.W.keepIn K (.ref f6) = true)
    {od7 an7 : Option Addr} {sl7 : Array (Option Value)} {oc7 kV7 dc7 pm7 cd7 ct7 : Value} {f7 : Addr} (a7 : PySem.W.nsIn K mainGlobals "_law_refusal" = some (some (.ref f7))) (l7 : K.lookup f7 = some ⟨oc7, od7, .func (PySem.W.fnOf "_law_refusal" "_law_refusal" (defArgs s_law_refusal) (defBody s_law_refusal) (defScope s_law_refusal) .none kV7 dc7 pm7 an7 cd7 ct7), sl7⟩) (c7 : PySem.W.codeIn K cd7 "_law_refusal" = true) (k7 : PySem.W.keepIn K (.ref f7) = true)
    {od8 an8 : Option Addr} {sl8 : Array (Option Value)} {oc8 kV8 dc8 pm8 cd8 ct8 : Value} {f8 : Addr} (a8 : PySem.W.nsIn K mainGlobals "_law_twice" = some (some (.ref f8))) (l8 : K.lookup f8 = some ⟨oc8, od8, .func (PySem.W.fnOf "_law_twice" "_law_twice" (defArgs s_law_twice) (defBody s_law_twice) (defScope s_law_twice) .none kV8 dc8 pm8 an8 cd8 ct8), sl8⟩) (c8 : PySem.W.codeIn K cd8 "_law_twice" = true) (k8 : PySem.W.keepIn K (.ref f8) = true)
    {od9 an9 : Option Addr} {sl9 : Array (Option Value)} {oc9 kV9 dc9 pm9 cd9 ct9 : Value} {f9 : Addr} (a9 : PySem.W.nsIn K mainGlobals "_law_alone" = some (some (.ref f9))) (l9 : K.lookup f9 = some ⟨oc9, od9, .func (PySem.W.fnOf "_law_alone" "_law_alone" (defArgs s_law_alone) (defBody s_law_alone) (defScope s_law_alone) .none kV9 dc9 pm9 an9 cd9 ct9), sl9⟩) (c9 : PySem.W.codeIn K cd9 "_law_alone" = true) (k9 : PySem.W.keepIn K (.ref f9) = true)
    {od10 an10 : Option Addr} {sl10 : Array (Option Value)} {oc10 kV10 dc10 pm10 cd10 ct10 : Value} {f10 : Addr} (a10 : PySem.W.nsIn K mainGlobals "law" = some (some (.ref f10))) (l10 : K.lookup f10 = some ⟨oc10, od10, .func (PySem.W.fnOf "law" "law" (defArgs s_law) (defBody s_law) (defScope s_law) .none kV10 dc10 pm10 an10 cd10 ct10), sl10⟩) (c10 : PySem.W.codeIn K cd10 "law" = true) (k10 : PySem.W.keepIn K (.ref f10) = true)
    (z_ValueError : PySem.W.nsIn K mainGlobals "ValueError" = some none)
    (z_abs : PySem.W.nsIn K mainGlobals "abs" = some none)
    (z_int : PySem.W.nsIn K mainGlobals "int" = some none)
    (z_isinstance : PySem.W.nsIn K mainGlobals "isinstance" = some none)
    (z_len : PySem.W.nsIn K mainGlobals "len" = some none)
    (z_list : PySem.W.nsIn K mainGlobals "list" = some none)
    (z_max : PySem.W.nsIn K mainGlobals "max" = some none)
    (z_min : PySem.W.nsIn K mainGlobals "min" = some none)
    (z_range : PySem.W.nsIn K mainGlobals "range" = some none)
    (z_tuple : PySem.W.nsIn K mainGlobals "tuple" = some none)
    {t_MOST_CARDS : Tok} (g_MOST_CARDS : PySem.W.nsIn K mainGlobals "MOST_CARDS" = some (some (.int 64 t_MOST_CARDS)))
    {C_CrestError : Addr} (ax_CrestError : PySem.W.nsIn K mainGlobals "CrestError" = some (some (.ref C_CrestError)))
    {C_Mingled : Addr} (ax_Mingled : PySem.W.nsIn K mainGlobals "Mingled" = some (some (.ref C_Mingled)))
    {C_NoKey : Addr} (ax_NoKey : PySem.W.nsIn K mainGlobals "NoKey" = some (some (.ref C_NoKey)))
    {C_NoTurn : Addr} (ax_NoTurn : PySem.W.nsIn K mainGlobals "NoTurn" = some (some (.ref C_NoTurn)))
    {C_TooMany : Addr} (ax_TooMany : PySem.W.nsIn K mainGlobals "TooMany" = some (some (.ref C_TooMany)))
    {C_Twice : Addr} (ax_Twice : PySem.W.nsIn K mainGlobals "Twice" = some (some (.ref C_Twice)))
    {C_B : Addr} (ax_B : PySem.W.nsIn K mainGlobals "CrestError" = some (some (.ref C_B))) (bx_B : BaseC K C_B)
    (ho_CrestError : HoP K C_CrestError)
    (ho_Mingled : HoP K C_Mingled)
    (ho_NoKey : HoP K C_NoKey)
    (ho_NoTurn : HoP K C_NoTurn)
    (ho_TooMany : HoP K C_TooMany)
    (ho_Twice : HoP K C_Twice)
    {nm_TooMany qn_TooMany : Str} {N_TooMany : Addr} {bs_TooMany bm_TooMany sub_TooMany : List Value} {sn_TooMany : List Str} {ab_TooMany : Bool} {col_TooMany : Option Bool} {dd_TooMany : Option Addr} {m0_TooMany m1_TooMany m2_TooMany m3_TooMany m5_TooMany : Option Value}
    (xl_TooMany : K.lookup C_TooMany = some (excClassObj nm_TooMany qn_TooMany C_TooMany N_TooMany bs_TooMany bm_TooMany true sn_TooMany sub_TooMany ab_TooMany col_TooMany dd_TooMany m0_TooMany m1_TooMany m2_TooMany m3_TooMany m5_TooMany "ValueError.__new__")) (xr_TooMany : PySem.HandSPX.refsVE bm_TooMany = true) (xb_TooMany : XcP K C_TooMany)
    (xf_TooMany : FdP K C_TooMany ["key", "most"])
    (xh_TooMany : RlP K C_TooMany [(.ref C_CrestError, true), (.ref C_Mingled, false), (.ref C_NoKey, false), (.ref C_NoTurn, false), (.ref C_TooMany, true), (.ref C_Twice, false), (.type "ValueError", true)]) (xs_TooMany : PySem.W.subIn K (.ref C_TooMany) (.ref C_TooMany) = some true)
    {fI_TooMany : Addr} (xi_TooMany : PySem.W.findIn K (.ref C_TooMany) "__init__" = some (some (.ref fI_TooMany))) (xt_TooMany : PySem.W.typeIn K (.ref fI_TooMany) = some (.type "function"))
    {odI_TooMany anI_TooMany : Option Addr} {slI_TooMany : Array (Option Value)} {ocI_TooMany kVI_TooMany dcI_TooMany pmI_TooMany cdI_TooMany ctI_TooMany : Value}
    (xd_TooMany : K.lookup fI_TooMany = some ⟨ocI_TooMany, odI_TooMany, .func (PySem.W.fnOf "__init__" "TooMany.__init__" (defArgs s_TooMany) (defBody s_TooMany) (defScope s_TooMany) .none kVI_TooMany dcI_TooMany pmI_TooMany anI_TooMany cdI_TooMany ctI_TooMany), slI_TooMany⟩) (xc_TooMany : PySem.W.codeIn K cdI_TooMany "TooMany.__init__" = true) (xk_TooMany : PySem.W.keepIn K (.ref fI_TooMany) = true)
    {nm_Twice qn_Twice : Str} {N_Twice : Addr} {bs_Twice bm_Twice sub_Twice : List Value} {sn_Twice : List Str} {ab_Twice : Bool} {col_Twice : Option Bool} {dd_Twice : Option Addr} {m0_Twice m1_Twice m2_Twice m3_Twice m5_Twice : Option Value}
    (xl_Twice : K.lookup C_Twice = some (excClassObj nm_Twice qn_Twice C_Twice N_Twice bs_Twice bm_Twice true sn_Twice sub_Twice ab_Twice col_Twice dd_Twice m0_Twice m1_Twice m2_Twice m3_Twice m5_Twice "ValueError.__new__")) (xr_Twice : PySem.HandSPX.refsVE bm_Twice = true) (xb_Twice : XcP K C_Twice)
    (xf_Twice : FdP K C_Twice ["key", "most"])
    (xh_Twice : RlP K C_Twice [(.ref C_CrestError, true), (.ref C_Mingled, false), (.ref C_NoKey, false), (.ref C_NoTurn, false), (.ref C_TooMany, false), (.ref C_Twice, true), (.type "ValueError", true)]) (xs_Twice : PySem.W.subIn K (.ref C_Twice) (.ref C_Twice) = some true)
    {fI_Twice : Addr} (xi_Twice : PySem.W.findIn K (.ref C_Twice) "__init__" = some (some (.ref fI_Twice))) (xt_Twice : PySem.W.typeIn K (.ref fI_Twice) = some (.type "function"))
    {odI_Twice anI_Twice : Option Addr} {slI_Twice : Array (Option Value)} {ocI_Twice kVI_Twice dcI_Twice pmI_Twice cdI_Twice ctI_Twice : Value}
    (xd_Twice : K.lookup fI_Twice = some ⟨ocI_Twice, odI_Twice, .func (PySem.W.fnOf "__init__" "Twice.__init__" (defArgs s_Twice) (defBody s_Twice) (defScope s_Twice) .none kVI_Twice dcI_Twice pmI_Twice anI_Twice cdI_Twice ctI_Twice), slI_Twice⟩) (xc_Twice : PySem.W.codeIn K cdI_Twice "Twice.__init__" = true) (xk_Twice : PySem.W.keepIn K (.ref fI_Twice) = true) :
    ∃ fd : FuncData, (∀ (s : Shared) (v : Value), BindsTo s fd ⟨[v], []⟩ [("script", v)]) ∧ ∀ base : Heap, FnG P w (gx K mg) base 6 fa fd ["script"] law_M := by
  have F0 := fun_mk (st := s_law_pot) l0 c0 k0
  have T0 : DefAt (gx K mg) "_law_pot" s_law_pot ["script", "k"] := ⟨f0, _, F0, F0.binds fun _ _ _ _ _ _ us hl => match us, hl with | [_, _], _ => rfl, PySem.W.mg_of X G a0⟩
  have F1 := fun_mk (st := s_law_take) l1 c1 k1
  have T1 : DefAt (gx K mg) "_law_take" s_law_take ["pot", "many"] := ⟨f1, _, F1, F1.binds fun _ _ _ _ _ _ us hl => match us, hl with | [_, _], _ => rfl, PySem.W.mg_of X G a1⟩
  have F2 := fun_mk (st := s_law_great) l2 c2 k2
  have T2 : DefAt (gx K mg) "_law_great" s_law_great ["pot"] := ⟨f2, _, F2, F2.binds fun _ _ _ _ _ _ us hl => match us, hl with | [_], _ => rfl, PySem.W.mg_of X G a2⟩
  have F3 := fun_mk (st := s_law_number) l3 c3 k3
  have T3 : DefAt (gx K mg) "_law_number" s_law_number ["pot", "base"] := ⟨f3, _, F3, F3.binds fun _ _ _ _ _ _ us hl => match us, hl with | [_, _], _ => rfl, PySem.W.mg_of X G a3⟩
  have F4 := fun_mk (st := s_law_card) l4 c4 k4
  have T4 : DefAt (gx K mg) "_law_card" s_law_card ["pot", "base", "ranks"] := ⟨f4, _, F4, F4.binds fun _ _ _ _ _ _ us hl => match us, hl with | [_, _, _], _ => rfl, PySem.W.mg_of X G a4⟩
  have F5 := fun_mk (st := s_law_cards) l5 c5 k5
  have T5 : DefAt (gx K mg) "_law_cards" s_law_cards ["pot"] := ⟨f5, _, F5, F5.binds fun _ _ _ _ _ _ us hl => match us, hl with | [_], _ => rfl, PySem.W.mg_of X G a5⟩
  have F6 := fun_mk (st := s_checked) l6 c6 k6
  have T6 : DefAt (gx K mg) "checked" s_checked ["cards"] := ⟨f6, _, F6, F6.binds fun _ _ _ _ _ _ us hl => match us, hl with | [_], _ => rfl, PySem.W.mg_of X G a6⟩
  have F7 := fun_mk (st := s_law_refusal) l7 c7 k7
  have T7 : DefAt (gx K mg) "_law_refusal" s_law_refusal ["handed"] := ⟨f7, _, F7, F7.binds fun _ _ _ _ _ _ us hl => match us, hl with | [_], _ => rfl, PySem.W.mg_of X G a7⟩
  have F8 := fun_mk (st := s_law_twice) l8 c8 k8
  have T8 : DefAt (gx K mg) "_law_twice" s_law_twice ["cards"] := ⟨f8, _, F8, F8.binds fun _ _ _ _ _ _ us hl => match us, hl with | [_], _ => rfl, PySem.W.mg_of X G a8⟩
  have F9 := fun_mk (st := s_law_alone) l9 c9 k9
  have T9 : DefAt (gx K mg) "_law_alone" s_law_alone ["e", "place"] := ⟨f9, _, F9, F9.binds fun _ _ _ _ _ _ us hl => match us, hl with | [_, _], _ => rfl, PySem.W.mg_of X G a9⟩
  have F10 := fun_mk (st := s_law) l10 c10 k10
  have xB : BaseC K C_B := bx_B
  have xg : mg "CrestError" = some (.ref C_B) := PySem.W.mg_of X G ax_B
  have xT_TooMany : XCls (gx K mg) "TooMany" C_TooMany := xcls_mk (PySem.W.mg_of X G ax_TooMany) xl_TooMany xb_TooMany xr_TooMany
  have xF_TooMany := fun_mk (st := s_TooMany) xd_TooMany xc_TooMany xk_TooMany
  have xT_Twice : XCls (gx K mg) "Twice" C_Twice := xcls_mk (PySem.W.mg_of X G ax_Twice) xl_Twice xb_Twice xr_Twice
  have xF_Twice := fun_mk (st := s_Twice) xd_Twice xc_Twice xk_Twice
  have xx : ∀ base : Heap, Xc P w (gx K mg) base := fun base => ⟨
    ⟨_, xmade_mk xT_TooMany xf_TooMany xi_TooMany xt_TooMany xF_TooMany ⟨rfl, rfl, rfl, by decide +kernel, rfl, by decide +kernel, by decide +kernel⟩ (fun cdv A outer s H E => ⟨_, pss_cons (ps_expr (pe_baseinit (x := "CrestError") xB rfl xg (pa_cons (pv 0) (pa_cons pe_str pa_nil)))) (pss_one (ps_ost (pv 0) (pv 1)))⟩) (xF_TooMany.binds fun _ _ _ _ _ _ us hl => match us, hl with | [_, _], _ => rfl)⟩,
    ⟨_, xmade_mk xT_Twice xf_Twice xi_Twice xt_Twice xF_Twice ⟨rfl, rfl, rfl, by decide +kernel, rfl, by decide +kernel, by decide +kernel⟩ (fun cdv A outer s H E => ⟨_, pss_cons (ps_expr (pe_baseinit (x := "CrestError") xB rfl xg (pa_cons (pv 0) (pa_cons pe_str pa_nil)))) (pss_one (ps_ost (pv 0) (pv 1)))⟩) (xF_Twice.binds fun _ _ _ _ _ _ us hl => match us, hl with | [_, _], _ => rfl)⟩,
    (xal_cons xT_TooMany (xal_cons xT_Twice xal_nil)),
    ⟨C_CrestError, PySem.W.mg_of X G ax_CrestError, (xtk_cons xT_TooMany xh_TooMany 0 ho_CrestError (xtk_cons xT_Twice xh_Twice 0 ho_CrestError xtk_nil)), (xis_cons xT_TooMany xh_TooMany 0 ho_CrestError xs_TooMany (xis_cons xT_Twice xh_Twice 0 ho_CrestError xs_Twice xis_nil))⟩,
    ⟨C_Mingled, PySem.W.mg_of X G ax_Mingled, (xtk_cons xT_TooMany xh_TooMany 1 ho_Mingled (xtk_cons xT_Twice xh_Twice 1 ho_Mingled xtk_nil)), (xis_cons xT_TooMany xh_TooMany 1 ho_Mingled xs_TooMany (xis_cons xT_Twice xh_Twice 1 ho_Mingled xs_Twice xis_nil))⟩,
    ⟨C_NoKey, PySem.W.mg_of X G ax_NoKey, (xtk_cons xT_TooMany xh_TooMany 2 ho_NoKey (xtk_cons xT_Twice xh_Twice 2 ho_NoKey xtk_nil)), (xis_cons xT_TooMany xh_TooMany 2 ho_NoKey xs_TooMany (xis_cons xT_Twice xh_Twice 2 ho_NoKey xs_Twice xis_nil))⟩,
    ⟨C_NoTurn, PySem.W.mg_of X G ax_NoTurn, (xtk_cons xT_TooMany xh_TooMany 3 ho_NoTurn (xtk_cons xT_Twice xh_Twice 3 ho_NoTurn xtk_nil)), (xis_cons xT_TooMany xh_TooMany 3 ho_NoTurn xs_TooMany (xis_cons xT_Twice xh_Twice 3 ho_NoTurn xs_Twice xis_nil))⟩,
    ⟨C_TooMany, PySem.W.mg_of X G ax_TooMany, (xtk_cons xT_TooMany xh_TooMany 4 ho_TooMany (xtk_cons xT_Twice xh_Twice 4 ho_TooMany xtk_nil)), (xis_cons xT_TooMany xh_TooMany 4 ho_TooMany xs_TooMany (xis_cons xT_Twice xh_Twice 4 ho_TooMany xs_Twice xis_nil))⟩,
    ⟨C_Twice, PySem.W.mg_of X G ax_Twice, (xtk_cons xT_TooMany xh_TooMany 5 ho_Twice (xtk_cons xT_Twice xh_Twice 5 ho_Twice xtk_nil)), (xis_cons xT_TooMany xh_TooMany 5 ho_Twice xs_TooMany (xis_cons xT_Twice xh_Twice 5 ho_Twice xs_Twice xis_nil))⟩,
    (xiv_cons xT_TooMany xh_TooMany 6 (xiv_cons xT_Twice xh_Twice 6 xis_nil)),
    (xfd_cons xT_TooMany xf_TooMany (xfd_cons xT_Twice xf_Twice xfd_nil)),
    (xfd_cons xT_TooMany xf_TooMany (xfd_cons xT_Twice xf_Twice xfd_nil))⟩
  have e := hfa.symm.trans (PySem.W.mg_of X G a10)
  cases e
  refine ⟨PySem.W.fnOf "law" "law" (defArgs s_law) (defBody s_law) (defScope s_law) .none kV10 dc10 pm10 an10 cd10 ct10, fun s v => .of_eq rfl, fun base => ?_⟩
  exact all_ok (P := P) (w := w) (c := (gx K mg)) (base := base) F10 T0 T1 T2 T3 T4 T5 T6 T7 T8 T9 ⟨PySem.W.mg_none_of X G z_ValueError, PySem.W.mg_none_of X G z_abs, PySem.W.mg_none_of X G z_int, PySem.W.mg_none_of X G z_isinstance, PySem.W.mg_none_of X G z_len, PySem.W.mg_none_of X G z_list, PySem.W.mg_none_of X G z_max, PySem.W.mg_none_of X G z_min, PySem.W.mg_none_of X G z_range, PySem.W.mg_none_of X G z_tuple⟩ ⟨⟨_, PySem.W.mg_of X G g_MOST_CARDS⟩⟩ (xx base)
end Lk02
end CK
end
open PySem PySem.W PyProof.Rows
set_option maxRecDepth 100000 in
set_option maxHeartbeats 0 in
theorem PySem.Challenge.cw_crestkeys_k02_packs_checked_holds : PySem.Challenge.rw_crestkeys_k02_packs_checked.Holds := by
  w_on; o_law; k_head; (case hw => w_witness2)
  k_fill
  refine CK.law_walk (l := PySem.Challenge.rw_crestkeys_k02_packs_checked) (n := 63) (k := 6) (x := "script") (f := CK.Lk02.law_M) rfl (by decide) rfl ⟨⟨rfl, by decide, by decide⟩, rfl⟩ (fun w h Y => by first | exact PySem.W.km_in_of Y | exact PySem.W.kIn_of Y) ?F CK.Lk02.law_true
  case F =>
    intro w mg fa h KX G hmg
    refine' CK.Lk02.all_mk KX G hmg ?a0 ?l0 ?c0 ?k0 ?a1 ?l1 ?c1 ?k1 ?a2 ?l2 ?c2 ?k2 ?a3 ?l3 ?c3 ?k3 ?a4 ?l4 ?c4 ?k4 ?a5 ?l5 ?c5 ?k5 ?a6 ?l6 ?c6 ?k6 ?a7 ?l7 ?c7 ?k7 ?a8 ?l8 ?c8 ?k8 ?a9 ?l9 ?c9 ?k9 ?a10 ?l10 ?c10 ?k10 ?z_ValueError ?z_abs ?z_int ?z_isinstance ?z_len ?z_list ?z_max ?z_min ?z_range ?z_tuple ?g_MOST_CARDS ?ax_CrestError ?ax_Mingled ?ax_NoKey ?ax_NoTurn ?ax_TooMany ?ax_Twice ?ax_B ?bx_B ?ho_CrestError ?ho_Mingled ?ho_NoKey ?ho_NoTurn ?ho_TooMany ?ho_Twice ?xl_TooMany ?xr_TooMany ?xb_TooMany ?xf_TooMany ?xh_TooMany ?xs_TooMany ?xi_TooMany ?xt_TooMany ?xd_TooMany ?xc_TooMany ?xk_TooMany ?xl_Twice ?xr_Twice ?xb_Twice ?xf_Twice ?xh_Twice ?xs_Twice ?xi_Twice ?xt_Twice ?xd_Twice ?xc_Twice ?xk_Twice
    (case a0 => k_is); (case l0 => k_is); (case c0 => k_is); (case k0 => k_is); (case a1 => k_is); (case l1 => k_is); (case c1 => k_is); (case k1 => k_is); (case a2 => k_is); (case l2 => k_is); (case c2 => k_is); (case k2 => k_is); (case a3 => k_is); (case l3 => k_is); (case c3 => k_is); (case k3 => k_is); (case a4 => k_is); (case l4 => k_is); (case c4 => k_is); (case k4 => k_is); (case a5 => k_is); (case l5 => k_is); (case c5 => k_is); (case k5 => k_is); (case a6 => k_is); (case l6 => k_is); (case c6 => k_is); (case k6 => k_is); (case a7 => k_is); (case l7 => k_is); (case c7 => k_is); (case k7 => k_is); (case a8 => k_is); (case l8 => k_is); (case c8 => k_is); (case k8 => k_is); (case a9 => k_is); (case l9 => k_is); (case c9 => k_is); (case k9 => k_is); (case a10 => k_is); (case l10 => k_is); (case c10 => k_is); (case k10 => k_is); (case z_ValueError => k_is); (case z_abs => k_is); (case z_int => k_is); (case z_isinstance => k_is); (case z_len => k_is); (case z_list => k_is); (case z_max => k_is); (case z_min => k_is); (case z_range => k_is); (case z_tuple => k_is); (case g_MOST_CARDS => k_is); (case ax_CrestError => k_is); (case ax_Mingled => k_is); (case ax_NoKey => k_is); (case ax_NoTurn => k_is); (case ax_TooMany => k_is); (case ax_Twice => k_is); (case ax_B => k_is); (case bx_B => constructor <;> k_is); (case ho_CrestError => constructor <;> k_is); (case ho_Mingled => constructor <;> k_is); (case ho_NoKey => constructor <;> k_is); (case ho_NoTurn => constructor <;> k_is); (case ho_TooMany => constructor <;> k_is); (case ho_Twice => constructor <;> k_is); (case xl_TooMany => k_is); (case xr_TooMany => first | k_is | decide +kernel); (case xb_TooMany => constructor <;> k_is); (case xf_TooMany => exact ⟨(by k_is), (by k_is), trivial⟩); (case xh_TooMany => exact ⟨(by k_is), (by k_is), (by k_is), (by k_is), (by k_is), (by k_is), (by k_is), trivial⟩); (case xs_TooMany => k_is); (case xi_TooMany => k_is); (case xt_TooMany => k_is); (case xd_TooMany => k_is); (case xc_TooMany => k_is); (case xk_TooMany => k_is); (case xl_Twice => k_is); (case xr_Twice => first | k_is | decide +kernel); (case xb_Twice => constructor <;> k_is); (case xf_Twice => exact ⟨(by k_is), (by k_is), trivial⟩); (case xh_Twice => exact ⟨(by k_is), (by k_is), (by k_is), (by k_is), (by k_is), (by k_is), (by k_is), trivial⟩); (case xs_Twice => k_is); (case xi_Twice => k_is); (case xt_Twice => k_is); (case xd_Twice => k_is); (case xc_Twice => k_is); (case xk_Twice => k_is)
