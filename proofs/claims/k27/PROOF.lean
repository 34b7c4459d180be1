import PyProof.Rows.All
import Wide.All
import OpenK.AllK
import Wide.FinOn
import HandS.ForMost
import HandS.ForExc
import HandS.Walk
import HandS.CallSlots
import HandS.Deep
import HandS.Flow
import KE.KDictKeyed
import HandS.TupAny
import HandS.IsInst
import HandS.More
import HandS.Small
import HandS.List
import HandS.TupLe
import HandS.Text
import HandS.Zip
import HandS.Head0
import HandS.Head1
import HandS.Head2
import HandS.Defaults
import HandS.HeadEnd
import HandS.HeadHook1
import HandS.HeadHook2
import HandS.Exc
import HandS.ExcOwn
import HandS.ExcIs
import HandS.TryOnly
import HandS.WordsExc
import HandS.Rev
import HandS.Set
import HandS.SetFor
import HandS.Strs
import KE.SortData
import KE.DataCmp
import HandS.Style
import PySem.Challenge.RW_namepaths_k27_hidden_ways_and_what_hides
import KE.KStateDown
set_option Elab.async false
set_option linter.all false
set_option maxRecDepth 100000
/-! PL, part 1: pure data over a numbered store; how they stand in the abstract heap -/
namespace PL
open PySem L2

/-- built-in types that are named -/
inductive Ty where
  | int | bool | str | list | tuple | dict | none
def Ty.s : Ty → String
  | .int => "int" | .bool => "bool" | .str => "str" | .list => "list" | .tuple => "tuple" | .dict => "dict" | .none => "NoneType"
/-- a value: z frozen data for good, b data lent by a caller, r the n-th object of the store, t a tuple of such, o an address that is just handed about (a class, an exception) -/
inductive D where
  | z (d : PyData) | b (d : PyData) | r (n : Nat) | t (ds : List D) | o (a : Addr) | y (T : Ty)
/-- an object of the store -/
inductive Ob where
  | lst (ds : List D)
  | dic (kvs : List (Key × D))
  | kd (hs : NestedKey → Int) (kvs : List (NestedKey × D))
abbrev Env := List (Option D)
abbrev Sto := List Ob
/-- an exception: its class, its fields (where it has its own __init__) -/
structure Ex where
  c : Value
  fs : Option (List (Str × D))

def Sub (H H' : Hp) : Prop := ∀ a o, H a = some o → H' a = some o
theorem Sub.refl (H : Hp) : Sub H H := fun _ _ h => h
theorem Sub.trans {H H1 H2 : Hp} (a : Sub H H1) (b : Sub H1 H2) : Sub H H2 := fun c o h => b c o (a c o h)
theorem Sub.non {H H' : Hp} (e : Sub H H') {a : Addr} (h : H' a = none) : H a = none := by
  cases q : H a with
  | none => rfl
  | some o => rw [e a o q] at h; cases h
theorem Sub.new {H : Hp} {p : Addr} {o : HO} (h : H p = none) : Sub H (upd H p o) := fun a u e => by
  rw [upd_ne (ne_of_none e h)]; exact e
theorem Sub.up {H H' : Hp} {p : Addr} {o : HO} (e : Sub H H') (h : H p = none) : Sub H (upd H' p o) := fun a u ha => by
  rw [upd_ne (ne_of_none ha h)]; exact e a u ha
theorem Sub.up2 {F H : Hp} {p : Addr} {o : HO} (e : Sub F H) : Sub (upd F p o) (upd H p o) := fun a u ha => by
  by_cases h : a = p
  · subst h; rw [upd_same] at ha ⊢; exact ha
  · rw [upd_ne h] at ha ⊢; exact e a u ha
theorem Sub.rd {H H' : Hp} {a : Addr} {u : HO} (e : Sub H H') (h : Rd H a u) : Rd H' a u := by
  rcases h with h | ⟨o, h⟩
  · exact .inl (e a _ h)
  · exact .inr ⟨o, e a _ h⟩

/-! ### data -/
abbrev Lk := Addr → List V → Prop
mutual
inductive RpT (L T : Lk) : PyData → V → Prop
  | non : RpT L T .none .non
  | bl (b : Bool) : RpT L T (.bool b) (.bl b)
  | int (i : Int) : RpT L T (.int i) (.int i)
  | str (x : Str) : RpT L T (.str x) (.str x)
  | lst {a : Addr} {vs : List V} {ds : List PyData} : L a vs → RpTs L T ds vs → RpT L T (.list ds) (.ref a)
  | tup {a : Addr} {vs : List V} {ds : List PyData} : T a vs → RpTs L T ds vs → RpT L T (.tuple ds) (.ref a)
inductive RpTs (L T : Lk) : List PyData → List V → Prop
  | nil : RpTs L T [] []
  | cons {d : PyData} {ds : List PyData} {v : V} {vs : List V} : RpT L T d v → RpTs L T ds vs → RpTs L T (d :: ds) (v :: vs)
end
section
variable {L T L' T' : Lk}
mutual
theorem RpT.mono (hl : ∀ a vs, L a vs → L' a vs) (ht : ∀ a vs, T a vs → T' a vs) : ∀ (d : PyData) (v : V), RpT L T d v → RpT L' T' d v
  | .none, _, h => by cases h; exact .non
  | .bool _, _, h => by cases h; exact .bl _
  | .int _, _, h => by cases h; exact .int _
  | .str _, _, h => by cases h; exact .str _
  | .list ds, _, h => by cases h with | lst a b => exact .lst (hl _ _ a) (RpTs.mono hl ht ds _ b)
  | .tuple ds, _, h => by cases h with | tup a b => exact .tup (ht _ _ a) (RpTs.mono hl ht ds _ b)
  | .dict _, _, h => by cases h
theorem RpTs.mono (hl : ∀ a vs, L a vs → L' a vs) (ht : ∀ a vs, T a vs → T' a vs) : ∀ (ds : List PyData) (vs : List V), RpTs L T ds vs → RpTs L' T' ds vs
  | [], _, h => by cases h; exact .nil
  | d :: ds, _, h => by cases h with | cons a b => exact .cons (RpT.mono hl ht d _ a) (RpTs.mono hl ht ds _ b)
end
/-! no list within -/
mutual
def flatT : PyData → Bool
  | .list _ => false
  | .tuple ds => flatTs ds
  | .dict _ => false
  | _ => true
def flatTs : List PyData → Bool
  | [] => true
  | d :: ds => flatT d && flatTs ds
end
mutual
theorem RpT.flat (ht : ∀ a vs, T a vs → T' a vs) : ∀ (d : PyData) (v : V), flatT d = true → RpT L T d v → RpT L' T' d v
  | .none, _, _, h => by cases h; exact .non
  | .bool _, _, _, h => by cases h; exact .bl _
  | .int _, _, _, h => by cases h; exact .int _
  | .str _, _, _, h => by cases h; exact .str _
  | .list ds, _, f, _ => by simp [flatT] at f
  | .tuple ds, _, f, h => by cases h with | tup a b => exact .tup (ht _ _ a) (RpTs.flat ht ds _ (by simpa [flatT] using f) b)
  | .dict _, _, _, h => by cases h
theorem RpTs.flat (ht : ∀ a vs, T a vs → T' a vs) : ∀ (ds : List PyData) (vs : List V), flatTs ds = true → RpTs L T ds vs → RpTs L' T' ds vs
  | [], _, _, h => by cases h; exact .nil
  | d :: ds, _, f, h => by
    simp only [flatTs, Bool.and_eq_true] at f
    cases h with | cons a b => exact .cons (RpT.flat ht d _ f.1 a) (RpTs.flat ht ds _ f.2 b)
end
theorem RpTs.length : ∀ {ds : List PyData} {vs : List V}, RpTs L T ds vs → ds.length = vs.length
  | [], _, h => by cases h; rfl
  | d :: ds, _, h => by cases h with | cons a b => simp [RpTs.length b]
theorem RpTs.get : ∀ {ds : List PyData} {vs : List V} {i : Nat} {d : PyData}, RpTs L T ds vs → ds[i]? = some d → ∃ v, vs[i]? = some v ∧ RpT L T d v
  | [], _, _, _, _, e => by simp at e
  | d :: ds, _, 0, _, h, e => by cases h with | cons a b => simp at e; subst e; exact ⟨_, rfl, a⟩
  | d :: ds, _, i + 1, x, h, e => by
    cases h with
    | cons a b =>
      obtain ⟨v, h1, h2⟩ := RpTs.get (i := i) (d := x) b (by simpa using e)
      exact ⟨v, by simpa using h1, h2⟩
end

def LF (F : Hp) : Lk := fun a vs => F a = some (.lst vs)
def TF (F : Hp) : Lk := fun a vs => F a = some (.tup vs)
def LB (B F : Hp) : Lk := fun a vs => Rd F a (.lst vs) ∨ Rd B a (.lst vs)
mutual
inductive RpD (B F : Hp) (μ : Nat → Addr) (n : Nat) : D → V → Prop
  | z {d : PyData} {v : V} : RpT (LF F) (TF F) d v → RpD B F μ n (.z d) v
  | b {d : PyData} {v : V} : RpT (LB B F) (TF F) d v → RpD B F μ n (.b d) v
  | r {i : Nat} : i < n → RpD B F μ n (.r i) (.ref (μ i))
  | t {a : Addr} {ds : List D} {vs : List V} : F a = some (.tup vs) → RpDs B F μ n ds vs → RpD B F μ n (.t ds) (.ref a)
  | o {a : Addr} : RpD B F μ n (.o a) (.ref a)
  | y {T : Ty} : RpD B F μ n (.y T) (.ty T.s)
inductive RpDs (B F : Hp) (μ : Nat → Addr) (n : Nat) : List D → List V → Prop
  | nil : RpDs B F μ n [] []
  | cons {d : D} {ds : List D} {v : V} {vs : List V} : RpD B F μ n d v → RpDs B F μ n ds vs → RpDs B F μ n (d :: ds) (v :: vs)
end
section
variable {B F F' : Hp} {μ μ' : Nat → Addr} {n n' : Nat}
mutual
theorem RpD.mono (hF : Sub F F') (hn : n ≤ n') (hm : ∀ i, i < n → μ' i = μ i) : ∀ (d : D) (v : V), RpD B F μ n d v → RpD B F' μ' n' d v
  | .z d, _, h => by cases h with | z a => exact .z (RpT.mono (fun _ _ q => hF _ _ q) (fun _ _ q => hF _ _ q) _ _ a)
  | .b d, _, h => by
    cases h with
    | b a =>
      refine .b (RpT.mono (fun _ _ q => ?_) (fun _ _ q => hF _ _ q) _ _ a)
      rcases q with q | q
      · exact .inl (hF.rd q)
      · exact .inr q
  | .r i, _, h => by cases h with | r a => rw [← hm i a]; exact .r (Nat.lt_of_lt_of_le a hn)
  | .t ds, _, h => by cases h with | t a b => exact .t (hF _ _ a) (RpDs.mono hF hn hm ds _ b)
  | .o a, _, h => by cases h; exact .o
  | .y a, _, h => by cases h; exact .y
theorem RpDs.mono (hF : Sub F F') (hn : n ≤ n') (hm : ∀ i, i < n → μ' i = μ i) : ∀ (ds : List D) (vs : List V), RpDs B F μ n ds vs → RpDs B F' μ' n' ds vs
  | [], _, h => by cases h; exact .nil
  | d :: ds, _, h => by cases h with | cons a b => exact .cons (RpD.mono hF hn hm d _ a) (RpDs.mono hF hn hm ds _ b)
end
theorem RpDs.length : ∀ {ds : List D} {vs : List V}, RpDs B F μ n ds vs → ds.length = vs.length
  | [], _, h => by cases h; rfl
  | d :: ds, _, h => by cases h with | cons a b => simp [RpDs.length b]
theorem RpDs.get : ∀ {ds : List D} {vs : List V} {i : Nat} {d : D}, RpDs B F μ n ds vs → ds[i]? = some d → ∃ v, vs[i]? = some v ∧ RpD B F μ n d v
  | [], _, _, _, _, e => by simp at e
  | d :: ds, _, 0, _, h, e => by cases h with | cons a b => simp at e; subst e; exact ⟨_, rfl, a⟩
  | d :: ds, _, i + 1, x, h, e => by
    cases h with
    | cons a b =>
      obtain ⟨v, h1, h2⟩ := RpDs.get (i := i) (d := x) b (by simpa using e)
      exact ⟨v, by simpa using h1, h2⟩
theorem RpDs.getV : ∀ {ds : List D} {vs : List V} {i : Nat} {v : V}, RpDs B F μ n ds vs → vs[i]? = some v → ∃ d, ds[i]? = some d ∧ RpD B F μ n d v
  | [], _, _, _, h, e => by cases h; simp at e
  | d :: ds, _, 0, _, h, e => by cases h with | cons a b => simp at e; subst e; exact ⟨_, rfl, a⟩
  | d :: ds, _, i + 1, x, h, e => by
    cases h with
    | cons a b =>
      obtain ⟨v, h1, h2⟩ := RpDs.getV (i := i) (v := x) b (by simpa using e)
      exact ⟨v, by simpa using h1, h2⟩
theorem RpDs.append : ∀ {ds es : List D} {vs us : List V}, RpDs B F μ n ds vs → RpDs B F μ n es us → RpDs B F μ n (ds ++ es) (vs ++ us)
  | [], _, _, _, h, k => by cases h; exact k
  | d :: ds, _, _, _, h, k => by cases h with | cons a b => exact .cons a (RpDs.append b k)
theorem RpDs.take : ∀ {ds : List D} {vs : List V} (k : Nat), RpDs B F μ n ds vs → RpDs B F μ n (ds.take k) (vs.take k)
  | _, _, 0, _ => .nil
  | [], _, _ + 1, h => by cases h; exact .nil
  | d :: ds, _, k + 1, h => by cases h with | cons a b => exact .cons a (RpDs.take k b)
theorem RpDs.drop : ∀ {ds : List D} {vs : List V} (k : Nat), RpDs B F μ n ds vs → RpDs B F μ n (ds.drop k) (vs.drop k)
  | _, _, 0, h => h
  | [], _, _ + 1, h => by cases h; exact .nil
  | d :: ds, _, k + 1, h => by cases h with | cons a b => exact RpDs.drop k b
theorem RpDs.set {d : D} {v : V} (hd : RpD B F μ n d v) : ∀ {ds : List D} {vs : List V} (k : Nat), RpDs B F μ n ds vs → RpDs B F μ n (ds.set k d) (vs.set k v)
  | [], _, _, h => by cases h; exact .nil
  | e :: ds, _, 0, h => by cases h with | cons a b => exact .cons hd b
  | e :: ds, _, k + 1, h => by cases h with | cons a b => exact .cons a (RpDs.set hd k b)
theorem RpDs.erase : ∀ {ds : List D} {vs : List V} (k : Nat), RpDs B F μ n ds vs → RpDs B F μ n (ds.eraseIdx k) (vs.eraseIdx k)
  | [], _, _, h => by cases h; exact .nil
  | e :: ds, _, 0, h => by cases h with | cons a b => exact b
  | e :: ds, _, k + 1, h => by cases h with | cons a b => exact .cons a (RpDs.erase k b)
theorem RpDs.rev {ds : List D} {vs : List V} (h : RpDs B F μ n ds vs) : RpDs B F μ n ds.reverse vs.reverse := by
  induction ds generalizing vs with
  | nil => cases h; exact .nil
  | cons d ds ih => cases h with | cons a b => rw [List.reverse_cons, List.reverse_cons]; exact (ih b).append (.cons a .nil)
theorem RpDs.dropLast {ds : List D} {vs : List V} (h : RpDs B F μ n ds vs) : RpDs B F μ n ds.dropLast vs.dropLast := by
  rw [List.dropLast_eq_take, List.dropLast_eq_take, h.length]
  exact h.take _
/-- frozen data as a row of values -/
theorem RpDs.zs : ∀ {ds : List PyData} {vs : List V}, RpTs (LF F) (TF F) ds vs → RpDs B F μ n (ds.map .z) vs
  | [], _, h => by cases h; exact .nil
  | d :: ds, _, h => by cases h with | cons a b => exact .cons (.z a) (RpDs.zs b)
/-- lent data: what has no list in it is for good -/
def bz (d : PyData) : D := if flatT d = true then .z d else .b d
theorem RpD.bz {d : PyData} {v : V} (h : RpT (LB B F) (TF F) d v) : RpD B F μ n (bz d) v := by
  unfold PL.bz
  split
  · rename_i f
    exact .z (RpT.flat (fun _ _ q => q) d v f h)
  · exact .b h
theorem RpDs.bzs : ∀ {ds : List PyData} {vs : List V}, RpTs (LB B F) (TF F) ds vs → RpDs B F μ n (ds.map PL.bz) vs
  | [], _, h => by cases h; exact .nil
  | d :: ds, _, h => by cases h with | cons a b => exact .cons (RpD.bz a) (RpDs.bzs b)
end

/-! ### an object of the store; the whole state -/
/-- a dict whose keys are tuples, its entries as they stand -/
def kdP (hs : NestedKey → Int) (a : Addr) (xs : List (NestedKey × Addr × Value)) (h : Heap) : Prop :=
  xs.length ≤ sizeLine ∧ (a == sysModules) = false ∧ ∃ o es ep, h.get? a = some o ∧ o.ExactDict ∧ o.data = .dict es ep ∧ es.toList = xs.map (fun x => (⟨hs x.1, .ref x.2.1, x.2.2⟩ : DictEntry)) ∧ (xs.map (·.1)).Nodup
def kdO (hs : NestedKey → Int) (a : Addr) (xs : List (NestedKey × Addr × Value)) : HO := .ext (kdP hs a xs)
def KvN (B F : Hp) (μ : Nat → Addr) (n : Nat) : List (NestedKey × D) → List (NestedKey × Addr × Value) → Prop :=
  Paired fun (p : NestedKey × D) (x : NestedKey × Addr × Value) => p.1 = x.1 ∧ (RpT (LF F) (TF F) p.1.data (.ref x.2.1) ∧ p.1.depth ≤ 8) ∧ ∃ v, RpD B F μ n p.2 v ∧ RelV v x.2.2
def ObRp (B F : Hp) (μ : Nat → Addr) (n : Nat) (H : Hp) (a : Addr) : Ob → Prop
  | .lst ds => ∃ vs, H a = some (.lst vs) ∧ RpDs B F μ n ds vs
  | .dic kvs => ∃ ws, H a = some (.dK ws) ∧ Paired (fun (p : Key × D) (q : Key × V) => p.1 = q.1 ∧ RpD B F μ n p.2 q.2) kvs ws
  | .kd hs kvs => ∃ xs, H a = some (kdO hs a xs) ∧ KvN B F μ n kvs xs
theorem ObRp.there {B F H : Hp} {μ : Nat → Addr} {n : Nat} {a : Addr} {o : Ob} (h : ObRp B F μ n H a o) : ∃ u, H a = some u ∧ Mut (some u) := by
  cases o with
  | lst ds => obtain ⟨vs, e, _⟩ := h; exact ⟨_, e, trivial⟩
  | dic kvs => obtain ⟨vs, e, _⟩ := h; exact ⟨_, e, trivial⟩
  | kd hs kvs => obtain ⟨vs, e, _⟩ := h; exact ⟨_, e, trivial⟩
theorem ObRp.mono {B F F' H H' : Hp} {μ μ' : Nat → Addr} {n n' : Nat} {a : Addr} {o : Ob} (hF : Sub F F') (hn : n ≤ n') (hm : ∀ i, i < n → μ' i = μ i) (ha : H' a = H a) (h : ObRp B F μ n H a o) : ObRp B F' μ' n' H' a o := by
  cases o with
  | lst ds => obtain ⟨vs, e, r⟩ := h; exact ⟨vs, ha.trans e, RpDs.mono hF hn hm _ _ r⟩
  | dic kvs => obtain ⟨ws, e, r⟩ := h; exact ⟨ws, ha.trans e, Paired.mapP r fun p q z => ⟨z.1, RpD.mono hF hn hm _ _ z.2⟩⟩
  | kd hs kvs => obtain ⟨ws, e, r⟩ := h; exact ⟨ws, ha.trans e, Paired.mapP r fun p q ⟨z1, z2, v, z3, z4⟩ => ⟨z1, ⟨RpT.mono (fun _ _ q => hF _ _ q) (fun _ _ q => hF _ _ q) _ _ z2.1, z2.2⟩, v, RpD.mono hF hn hm _ _ z3, z4⟩⟩

/-- the state: B stays (all that stood at the def's entry but the store's own), F0 what was frozen for good at the entry, μ where the store's objects stand, F what is frozen for good -/
structure Rl (B F0 : Hp) (μ : Nat → Addr) (S : Sto) (F H : Hp) : Prop where
  bh : Sub B H
  fh : Sub F H
  f0 : Sub F0 F
  fn : ∀ a o, F a = some o → F0 a = some o ∨ B a = none
  inj : ∀ i j, i < S.length → j < S.length → μ i = μ j → i = j
  nb : ∀ i, i < S.length → B (μ i) = none
  nf : ∀ i, i < S.length → F (μ i) = none
  ob : ∀ i o, S[i]? = some o → ObRp B F μ S.length H (μ i) o
/-- a later state -/
structure Xt (μ : Nat → Addr) (S : Sto) (F : Hp) (μ' : Nat → Addr) (S' : Sto) (F' : Hp) : Prop where
  f : Sub F F'
  n : S.length ≤ S'.length
  m : ∀ i, i < S.length → μ' i = μ i
section
variable {B F0 F F' F'' H H' : Hp} {μ μ' μ'' : Nat → Addr} {S S' S'' : Sto}
theorem Xt.refl : Xt μ S F μ S F := ⟨Sub.refl _, Nat.le_refl _, fun _ _ => rfl⟩
theorem Xt.trans (a : Xt μ S F μ' S' F') (b : Xt μ' S' F' μ'' S'' F'') : Xt μ S F μ'' S'' F'' :=
  ⟨a.f.trans b.f, Nat.le_trans a.n b.n, fun i h => (b.m i (Nat.lt_of_lt_of_le h a.n)).trans (a.m i h)⟩
theorem RpD.xt {d : D} {v : V} (h : RpD B F μ S.length d v) (x : Xt μ S F μ' S' F') : RpD B F' μ' S'.length d v := RpD.mono x.f x.n x.m d v h
theorem RpDs.xt {d : List D} {v : List V} (h : RpDs B F μ S.length d v) (x : Xt μ S F μ' S' F') : RpDs B F' μ' S'.length d v := RpDs.mono x.f x.n x.m d v h
theorem Rl.there (R : Rl B F0 μ S F H) {i : Nat} {o : Ob} (h : S[i]? = some o) : ∃ u, H (μ i) = some u ∧ Mut (some u) := (R.ob i o h).there
theorem Rl.lt {i : Nat} {o : Ob} (h : S[i]? = some o) : i < S.length := (List.getElem?_eq_some_iff.mp h).1
theorem Rl.has (R : Rl B F0 μ S F H) {i : Nat} (h : i < S.length) : ∃ u, H (μ i) = some u := by
  obtain ⟨u, e, _⟩ := R.there (List.getElem?_eq_getElem h)
  exact ⟨u, e⟩
/-- a new object frozen for good -/
theorem Rl.froze (R : Rl B F0 μ S F H) {p : Addr} (u : HO) (hp : H p = none) : Rl B F0 μ S (upd F p u) (upd H p u) ∧ Xt μ S F μ S (upd F p u) := by
  have hF : F p = none := R.fh.non hp
  have hB : B p = none := R.bh.non hp
  have ne : ∀ i, i < S.length → μ i ≠ p := fun i hi e => by
    obtain ⟨o, ho⟩ := R.has hi
    rw [e, hp] at ho; cases ho
  refine ⟨⟨R.bh.trans (Sub.new hp), R.fh.up2, R.f0.trans (Sub.new hF), fun a o e => ?_, R.inj, R.nb, fun i hi => by rw [upd_ne (ne i hi)]; exact R.nf i hi, fun i o h => ?_⟩, ⟨Sub.new hF, Nat.le_refl _, fun _ _ => rfl⟩⟩
  · by_cases h : a = p
    · subst h; exact .inr hB
    · rw [upd_ne h] at e; exact R.fn a o e
  · exact (R.ob i o h).mono (Sub.new hF) (Nat.le_refl _) (fun _ _ => rfl) (by rw [upd_ne (ne i (Rl.lt h))])
/-- a new object of the store -/
def muX (μ : Nat → Addr) (n : Nat) (p : Addr) : Nat → Addr := fun i => if i = n then p else μ i
theorem Rl.grow (R : Rl B F0 μ S F H) {p : Addr} {u : HO} {o : Ob} (hp : H p = none) (ho : ∀ G : Hp, G p = some u → ObRp B F μ S.length G p o) : Rl B F0 (muX μ S.length p) (S ++ [o]) F (upd H p u) ∧ Xt μ S F (muX μ S.length p) (S ++ [o]) F := by
  have hF : F p = none := R.fh.non hp
  have hB : B p = none := R.bh.non hp
  have mo : ∀ i, i < S.length → muX μ S.length p i = μ i := fun i hi => by unfold muX; rw [if_neg (Nat.ne_of_lt hi)]
  have mn : muX μ S.length p S.length = p := by unfold muX; rw [if_pos rfl]
  have ne : ∀ i, i < S.length → μ i ≠ p := fun i hi e => by
    obtain ⟨o, ho⟩ := R.has hi
    rw [e, hp] at ho; cases ho
  have hl : (S ++ [o]).length = S.length + 1 := by simp
  have sp : ∀ i, i < S.length + 1 → i < S.length ∨ i = S.length := fun i h => by omega
  refine ⟨⟨R.bh.trans (Sub.new hp), R.fh.trans (Sub.new hp), R.f0, R.fn, fun i j hi hj e => ?_, fun i hi => ?_, fun i hi => ?_, fun i o' h => ?_⟩, ⟨Sub.refl _, by rw [hl]; omega, mo⟩⟩
  · rw [hl] at hi hj
    rcases sp i hi with hi | rfl
    · rcases sp j hj with hj | rfl
      · rw [mo i hi, mo j hj] at e; exact R.inj i j hi hj e
      · rw [mo i hi, mn] at e; exact absurd e (ne i hi)
    · rcases sp j hj with hj | rfl
      · rw [mo j hj, mn] at e; exact absurd e.symm (ne j hj)
      · rfl
  · rw [hl] at hi
    rcases sp i hi with hi | rfl
    · rw [mo i hi]; exact R.nb i hi
    · rw [mn]; exact hB
  · rw [hl] at hi
    rcases sp i hi with hi | rfl
    · rw [mo i hi]; exact R.nf i hi
    · rw [mn]; exact hF
  · rw [hl]
    by_cases hi : i < S.length
    · rw [List.getElem?_append_left hi] at h
      rw [mo i hi]
      exact (R.ob i o' h).mono (Sub.refl _) (Nat.le_succ _) mo (by rw [upd_ne (ne i hi)])
    · have e : i = S.length := by
        have := Rl.lt h
        rw [hl] at this; omega
      subst e
      rw [List.getElem?_append_right (Nat.le_refl _), Nat.sub_self] at h
      cases h
      rw [mn]
      exact (ho (upd H p u) upd_same).mono (Sub.refl _) (Nat.le_succ _) mo rfl
/-- an object of the store is written -/
theorem Rl.write (R : Rl B F0 μ S F H) {n : Nat} {u : HO} {o : Ob} (hn : n < S.length) (ho : ∀ G : Hp, G (μ n) = some u → ObRp B F μ S.length G (μ n) o) : Rl B F0 μ (S.set n o) F (upd H (μ n) u) ∧ Xt μ S F μ (S.set n o) F := by
  have hl : (S.set n o).length = S.length := by simp
  refine ⟨⟨R.bh.up (R.nb n hn), R.fh.up (R.nf n hn), R.f0, R.fn, fun i j hi hj e => R.inj i j (hl ▸ hi) (hl ▸ hj) e, fun i hi => R.nb i (hl ▸ hi), fun i hi => R.nf i (hl ▸ hi), fun i o' h => ?_⟩, ⟨Sub.refl _, by rw [hl]; exact Nat.le_refl _, fun _ _ => rfl⟩⟩
  rw [hl]
  by_cases hi : i = n
  · subst hi
    rw [List.getElem?_set_self hn] at h
    cases h
    exact ho _ upd_same
  · rw [List.getElem?_set_ne (Ne.symm hi)] at h
    exact (R.ob i o' h).mono (Sub.refl _) (Nat.le_refl _) (fun _ _ => rfl) (by rw [upd_ne fun e => hi (R.inj i n (Rl.lt h) hn e)])
end

/-! ### the def's names -/
def EnvR (B F : Hp) (μ : Nat → Addr) (n : Nat) : Env → St → Prop := Paired fun e s => ∀ d, e = some d → ∃ v, s = some v ∧ RpD B F μ n d v
section
variable {B F0 F F' H : Hp} {μ μ' : Nat → Addr} {S S' : Sto} {env : Env} {σ : St}
theorem EnvR.xt (h : EnvR B F μ S.length env σ) (x : Xt μ S F μ' S' F') : EnvR B F' μ' S'.length env σ := Paired.mapP h fun e s q d hd => by
  obtain ⟨v, h1, h2⟩ := q d hd
  exact ⟨v, h1, h2.xt x⟩
theorem EnvR.get {n : Nat} : ∀ {env : Env} {σ : St} {i : Nat} {d : D}, EnvR B F μ n env σ → env[i]? = some (some d) → ∃ v, σ[i]? = some (some v) ∧ RpD B F μ n d v
  | _, _, _, _, .nil, e => by simp at e
  | _, _, 0, _, .cons r _, e => by
    simp at e
    obtain ⟨v, h1, h2⟩ := r _ e
    exact ⟨v, by simp [h1], h2⟩
  | _, _, i + 1, d, .cons _ t, e => by
    obtain ⟨v, h1, h2⟩ := EnvR.get (i := i) (d := d) t (by simpa using e)
    exact ⟨v, by simpa using h1, h2⟩
theorem EnvR.set {n : Nat} {d : D} {v : V} (hd : RpD B F μ n d v) : ∀ {env : Env} {σ : St} (i : Nat), EnvR B F μ n env σ → EnvR B F μ n (env.set i (some d)) (σ.set i (some v))
  | _, _, _, .nil => .nil
  | _, _, 0, .cons r t => .cons (fun e he => by cases he; exact ⟨v, rfl, hd⟩) t
  | _, _, i + 1, .cons q t => .cons q (EnvR.set hd i t)
theorem EnvR.unset {n : Nat} {w : Option V} : ∀ {env : Env} {σ : St} (i : Nat), EnvR B F μ n env σ → EnvR B F μ n (env.set i none) (σ.set i w)
  | _, _, _, .nil => .nil
  | _, _, 0, .cons r t => .cons (fun e he => by cases he) t
  | _, _, i + 1, .cons q t => .cons q (EnvR.unset i t)
end

/-! ### data seen through the store -/
mutual
inductive Vw (S : Sto) : D → PyData → Prop
  | z {d : PyData} : Vw S (.z d) d
  | b {d : PyData} : Vw S (.b d) d
  | r {n : Nat} {ds : List D} {es : List PyData} : S[n]? = some (.lst ds) → Vws S ds es → Vw S (.r n) (.list es)
  | t {ds : List D} {es : List PyData} : Vws S ds es → Vw S (.t ds) (.tuple es)
inductive Vws (S : Sto) : List D → List PyData → Prop
  | nil : Vws S [] []
  | cons {d : D} {ds : List D} {e : PyData} {es : List PyData} : Vw S d e → Vws S ds es → Vws S (d :: ds) (e :: es)
end
section
variable {B F0 F H : Hp} {μ : Nat → Addr} {S : Sto}
theorem RpT.lent {d : PyData} {v : V} (hb : Sub B H) (h : RpT (LB B F) (TF F) d v) : RpT (LB H F) (TF F) d v :=
  RpT.mono (fun _ _ q => q.imp id fun q => hb.rd q) (fun _ _ q => q) d v h
mutual
theorem Vw.rp (R : Rl B F0 μ S F H) : ∀ (e : PyData) (d : D) (v : V), Vw S d e → RpD B F μ S.length d v → RpT (LB H F) (TF F) e v
  | .none, _, _, w, h => by
    cases w with
    | z => cases h with | z a => cases a; exact .non
    | b => cases h with | b a => cases a; exact .non
  | .bool _, _, _, w, h => by
    cases w with
    | z => cases h with | z a => cases a; exact .bl _
    | b => cases h with | b a => cases a; exact .bl _
  | .int _, _, _, w, h => by
    cases w with
    | z => cases h with | z a => cases a; exact .int _
    | b => cases h with | b a => cases a; exact .int _
  | .str _, _, _, w, h => by
    cases w with
    | z => cases h with | z a => cases a; exact .str _
    | b => cases h with | b a => cases a; exact .str _
  | .dict _, _, _, w, h => by
    cases w with
    | z => cases h with | z a => cases a
    | b => cases h with | b a => cases a
  | .list es, _, _, w, h => by
    cases w with
    | z => cases h with | z a => exact RpT.mono (fun _ _ q => .inl (.inl q)) (fun _ _ q => q) _ _ a
    | b => cases h with | b a => exact a.lent R.bh
    | r e ws =>
      cases h with
      | r hi =>
        obtain ⟨vs, hv, rv⟩ := R.ob _ _ e
        exact .lst (.inr (.inl hv)) (Vws.rp R es _ vs ws rv)
  | .tuple es, _, _, w, h => by
    cases w with
    | z => cases h with | z a => exact RpT.mono (fun _ _ q => .inl (.inl q)) (fun _ _ q => q) _ _ a
    | b => cases h with | b a => exact a.lent R.bh
    | t ws => cases h with | t e rv => exact .tup e (Vws.rp R es _ _ ws rv)
theorem Vws.rp (R : Rl B F0 μ S F H) : ∀ (es : List PyData) (ds : List D) (vs : List V), Vws S ds es → RpDs B F μ S.length ds vs → RpTs (LB H F) (TF F) es vs
  | [], _, _, w, h => by cases w; cases h; exact .nil
  | e :: es, _, _, w, h => by
    cases w with | cons a b => cases h with | cons r s => exact .cons (Vw.rp R e _ _ a r) (Vws.rp R es _ _ b s)
end
mutual
theorem RpT.dp {K : PySem.W.Frag} (hf : Sub F H) : ∀ (d : PyData) (v : V), RpT (LB H F) (TF F) d v → Dp K H v d
  | .none, _, h => by cases h; exact .non
  | .bool _, _, h => by cases h; exact .bl _
  | .int _, _, h => by cases h; exact .int _
  | .str _, _, h => by cases h; exact .str _
  | .list ds, _, h => by cases h with | lst a b => exact .lst (.inl (a.elim (fun q => hf.rd q) id)) (RpTs.dp hf ds _ b)
  | .tuple ds, _, h => by cases h with | tup a b => exact .tup (.inl (.inl (hf _ _ a))) (RpTs.dp hf ds _ b)
  | .dict _, _, h => by cases h
theorem RpTs.dp {K : PySem.W.Frag} (hf : Sub F H) : ∀ (ds : List PyData) (vs : List V), RpTs (LB H F) (TF F) ds vs → DpAll K H vs ds
  | [], _, h => by cases h; exact .nil
  | d :: ds, _, h => by cases h with | cons a b => exact .cons (RpT.dp hf d _ a) (RpTs.dp hf ds _ b)
end
theorem Vws.append : ∀ {ds es : List D} {fs gs : List PyData}, Vws S ds fs → Vws S es gs → Vws S (ds ++ es) (fs ++ gs)
  | [], _, _, _, h, k => by cases h; exact k
  | d :: ds, _, _, _, h, k => by cases h with | cons a b => exact .cons a (Vws.append b k)
theorem Vws.zs : ∀ (ds : List PyData), Vws S (ds.map .z) ds
  | [] => .nil
  | d :: ds => .cons .z (Vws.zs ds)
theorem Vw.bz {d : PyData} : Vw S (PL.bz d) d := by
  unfold PL.bz
  split
  · exact .z
  · exact .b
theorem Vws.bzs : ∀ (ds : List PyData), Vws S (ds.map PL.bz) ds
  | [] => .nil
  | d :: ds => .cons Vw.bz (Vws.bzs ds)
end
end PL

set_option Elab.async false
set_option linter.all false
set_option maxRecDepth 100000
/-! PL, part 2: what an expression wants, over store and names; the rules of expressions -/
namespace PL
open PySem L2

abbrev K1 := D → Sto → Prop
abbrev KX := Ex → Env → Sto → Prop
/-- what an expression, a test, a row of arguments asks -/
abbrev WE := Env → Sto → K1 → KX → Prop
abbrev WT := Env → Sto → (Bool → Sto → Prop) → KX → Prop
abbrev WA := Env → Sto → (List D → Sto → Prop) → KX → Prop
structure KS where
  nx : Env → Sto → Prop
  rt : K1
  ex : KX
  bk : Env → Sto → Prop := fun _ _ => False
  ct : Env → Sto → Prop := fun _ _ => False
abbrev WS := KS → Env → Sto → Prop

/-! where a walk halts -/
structure pReq (c : Prop) (k : Prop) : Prop where
  mk' ::
  out : c ∧ k
structure pGet {α : Type} (o : Option α) (k : α → Prop) : Prop where
  mk' ::
  out : ∃ x, o = some x ∧ k x
structure pIf (b : Bool) (x y : Prop) : Prop where
  mk' ::
  out : if b = true then x else y
theorem pReq.mk {c k : Prop} (h : c) (q : k) : pReq c k := ⟨⟨h, q⟩⟩
theorem pGet.mk {α : Type} {o : Option α} {k : α → Prop} {x : α} (h : o = some x) (q : k x) : pGet o k := ⟨⟨x, h, q⟩⟩
theorem pIf.mk {b : Bool} {x y : Prop} (h1 : b = true → x) (h2 : b = false → y) : pIf b x y := by
  refine ⟨?_⟩
  cases b with
  | true => rw [if_pos rfl]; exact h1 rfl
  | false => rw [if_neg Bool.false_ne_true]; exact h2 rfl
theorem pIf.tt {b : Bool} {x y : Prop} (h : b = true) (q : x) : pIf b x y := pIf.mk (fun _ => q) fun e => by rw [h] at e; cases e
theorem pIf.ff {b : Bool} {x y : Prop} (h : b = false) (q : y) : pIf b x y := pIf.mk (fun e => by rw [h] at e; cases e) fun _ => q

/-! ### the readings -/
def ExR (B F : Hp) (μ : Nat → Addr) (n : Nat) (H : Hp) (x : Ex) (cls : Value) (dd : Option Addr) : Prop :=
  cls = x.c ∧ match x.fs with
    | none => dd = none
    | some fs => ∃ a ws, dd = some a ∧ H a = some (.xd ws) ∧ Paired (fun (p : Str × D) (q : Str × V) => p.1 = q.1 ∧ RpD B F μ n p.2 q.2) fs ws
/-- the state at hand -/
structure Wd where
  μ : Nat → Addr
  S : Sto
  F : Hp
def Fi (B F0 : Hp) (w : Wd) (K : K1) (Q : VK) : Prop := ∀ d S' v H' μ' F', Rl B F0 μ' S' F' H' → Xt w.μ w.S w.F μ' S' F' → RpD B F' μ' S'.length d v → K d S' → Q v H'
def FiT (B F0 : Hp) (w : Wd) (K : Bool → Sto → Prop) (Q : Bool → Hp → Prop) : Prop := ∀ b S' H' μ' F', Rl B F0 μ' S' F' H' → Xt w.μ w.S w.F μ' S' F' → K b S' → Q b H'
def FiA (B F0 : Hp) (w : Wd) (K : List D → Sto → Prop) (Q : List V → Hp → Prop) : Prop := ∀ ds S' vs H' μ' F', Rl B F0 μ' S' F' H' → Xt w.μ w.S w.F μ' S' F' → RpDs B F' μ' S'.length ds vs → K ds S' → Q vs H'
def FiX (B F0 : Hp) (W : WX) (w : Wd) (env : Env) (σ : St) (K : KX) : Prop := ∀ x S' H' μ' F' cls dd, Rl B F0 μ' S' F' H' → Xt w.μ w.S w.F μ' S' F' → ExR B F' μ' S'.length H' x cls dd → K x env S' → W cls dd σ H'
section
variable {B F0 H : Hp} {w w' : Wd} {W : WX} {env : Env} {σ : St}
theorem Fi.xt {K : K1} {Q : VK} (h : Fi B F0 w K Q) (x : Xt w.μ w.S w.F w'.μ w'.S w'.F) : Fi B F0 w' K Q := fun d S v H μ F R X r k => h d S v H μ F R (x.trans X) r k
theorem FiT.xt {K : Bool → Sto → Prop} {Q : Bool → Hp → Prop} (h : FiT B F0 w K Q) (x : Xt w.μ w.S w.F w'.μ w'.S w'.F) : FiT B F0 w' K Q := fun b S H μ F R X k => h b S H μ F R (x.trans X) k
theorem FiA.xt {K : List D → Sto → Prop} {Q : List V → Hp → Prop} (h : FiA B F0 w K Q) (x : Xt w.μ w.S w.F w'.μ w'.S w'.F) : FiA B F0 w' K Q := fun d S v H μ F R X r k => h d S v H μ F R (x.trans X) r k
theorem FiX.xt {K : KX} (h : FiX B F0 W w env σ K) (x : Xt w.μ w.S w.F w'.μ w'.S w'.F) : FiX B F0 W w' env σ K := fun e S H μ F c dd R X r k => h e S H μ F c dd R (x.trans X) r k
end
abbrev RlW (B F0 : Hp) (w : Wd) (H : Hp) : Prop := Rl B F0 w.μ w.S w.F H
abbrev RpW (B : Hp) (w : Wd) (d : D) (v : V) : Prop := RpD B w.F w.μ w.S.length d v
abbrev RpsW (B : Hp) (w : Wd) (d : List D) (v : List V) : Prop := RpDs B w.F w.μ w.S.length d v
def tE (B F0 : Hp) (W : WX) (we : WE) : TE := fun σ H Q => ∃ (w : Wd) (env : Env) (K : K1) (KX : KX), RlW B F0 w H ∧ EnvR B w.F w.μ w.S.length env σ ∧ we env w.S K KX ∧ Fi B F0 w K Q ∧ FiX B F0 W w env σ KX
def tT (B F0 : Hp) (W : WX) (wt : WT) : TT := fun σ H Q => ∃ (w : Wd) (env : Env) (K : Bool → Sto → Prop) (KX : KX), RlW B F0 w H ∧ EnvR B w.F w.μ w.S.length env σ ∧ wt env w.S K KX ∧ FiT B F0 w K Q ∧ FiX B F0 W w env σ KX
def tA (B F0 : Hp) (W : WX) (wa : WA) : TA := fun σ H Q => ∃ (w : Wd) (env : Env) (K : List D → Sto → Prop) (KX : KX), RlW B F0 w H ∧ EnvR B w.F w.μ w.S.length env σ ∧ wa env w.S K KX ∧ FiA B F0 w K Q ∧ FiX B F0 W w env σ KX
/-- how a statement's ends are met -/
structure FiS (B F0 : Hp) (W : WX) (w : Wd) (k : KS) (D : Ends) : Prop where
  nx : ∀ env S σ H μ F, Rl B F0 μ S F H → Xt w.μ w.S w.F μ S F → EnvR B F μ S.length env σ → k.nx env S → D.nx σ H
  rt : Fi B F0 w k.rt D.rt
  bk : ∀ env S σ H μ F, Rl B F0 μ S F H → Xt w.μ w.S w.F μ S F → EnvR B F μ S.length env σ → k.bk env S → D.bk σ H
  ct : ∀ env S σ H μ F, Rl B F0 μ S F H → Xt w.μ w.S w.F μ S F → EnvR B F μ S.length env σ → k.ct env S → D.ct σ H
  ex : ∀ x env S σ H μ F cls dd, Rl B F0 μ S F H → Xt w.μ w.S w.F μ S F → EnvR B F μ S.length env σ → ExR B F μ S.length H x cls dd → k.ex x env S → W cls dd σ H
theorem FiS.xt {B F0 : Hp} {W : WX} {w w' : Wd} {k : KS} {D : Ends} (h : FiS B F0 W w k D) (x : Xt w.μ w.S w.F w'.μ w'.S w'.F) : FiS B F0 W w' k D :=
  ⟨fun e S s H μ F R X r q => h.nx e S s H μ F R (x.trans X) r q, h.rt.xt x, fun e S s H μ F R X r q => h.bk e S s H μ F R (x.trans X) r q, fun e S s H μ F R X r q => h.ct e S s H μ F R (x.trans X) r q,
   fun y e S s H μ F c d R X r q z => h.ex y e S s H μ F c d R (x.trans X) r q z⟩
theorem FiS.toX {B F0 : Hp} {W : WX} {w : Wd} {k : KS} {D : Ends} {env : Env} {σ : St} (h : FiS B F0 W w k D) (e : EnvR B w.F w.μ w.S.length env σ) : FiX B F0 W w env σ k.ex :=
  fun x S H μ F c d R X r q => h.ex x env S σ H μ F c d R X (e.xt X) r q
def tS (B F0 : Hp) (W : WX) (ws : WS) : TS := fun D σ H => ∃ (w : Wd) (env : Env) (k : KS), RlW B F0 w H ∧ EnvR B w.F w.μ w.S.length env σ ∧ ws k env w.S ∧ FiS B F0 W w k D

def PX (X : Cx) (B F0 : Hp) (W : WX) (e : Expr) (we : WE) : Prop := PE X e (tE B F0 W we)
def PXT (X : Cx) (B F0 : Hp) (W : WX) (e : Expr) (wt : WT) : Prop := PT X e (tT B F0 W wt)
def PXW (X : Cx) (B F0 : Hp) (W : WX) (e : Expr) (wt : WT) : Prop := PW X e (tT B F0 W wt)
def PXA (X : Cx) (B F0 : Hp) (W : WX) (es : List Expr) (wa : WA) : Prop := PA X es (tA B F0 W wa)
def PXS (X : Cx) (B F0 : Hp) (W : WX) (st : Stmt) (ws : WS) : Prop := PS X st (tS B F0 W ws)
def PXB (X : Cx) (B F0 : Hp) (W : WX) (st : List Stmt) (ws : WS) : Prop := PSs X st (tS B F0 W ws)
section
variable {X : Cx}
theorem wkE {e : Expr} {t t' : TE} (h : PE X e t) (k : ∀ σ H Q, t' σ H Q → t σ H Q) : PE X e t' := ⟨fun p s σ H Q I q => h.run p s σ H Q I (k σ H Q q)⟩
theorem wkT {e : Expr} {t t' : TT} (h : PT X e t) (k : ∀ σ H Q, t' σ H Q → t σ H Q) : PT X e t' := ⟨fun p s σ H Q I q => h.run p s σ H Q I (k σ H Q q)⟩
theorem wkW {e : Expr} {t t' : TT} (h : PW X e t) (k : ∀ σ H Q, t' σ H Q → t σ H Q) : PW X e t' := ⟨fun wh p s σ H Q I q => h.run wh p s σ H Q I (k σ H Q q)⟩
theorem wkA {e : List Expr} {t t' : TA} (h : PA X e t) (k : ∀ σ H Q, t' σ H Q → t σ H Q) : PA X e t' := ⟨fun pos p s σ H Q I q => h.run pos p s σ H Q I (k σ H Q q)⟩
theorem wkS {e : Stmt} {t t' : TS} (h : PS X e t) (k : ∀ D σ H, t' D σ H → t D σ H) : PS X e t' := ⟨fun p s σ H D I q => h.run p s σ H D I (k D σ H q)⟩
theorem wkB {e : List Stmt} {t t' : TS} (h : PSs X e t) (k : ∀ D σ H, t' D σ H → t D σ H) : PSs X e t' := ⟨fun p s σ H D I q => h.run p s σ H D I (k D σ H q)⟩
end

/-! ### names, constants -/
def wVar (i : Nat) : WE := fun env S K _ => match env[i]? with
  | some (some d) => K d S
  | _ => False
def wC (d : PyData) : WE := fun _ S K _ => K (.z d) S
def wO (a : Addr) : WE := fun _ S K _ => K (.o a) S
section
variable {X : Cx} {B F0 : Hp} {W : WX} {pos : Pos}
theorem xv (i : Nat) {x : Str} (hN : X.N[i]? = some x := by rfl) (hv : Vis X.env.scope x := by first | exact Or.inl rfl | exact Or.inr (Or.inl rfl) | exact Or.inr (Or.inr rfl)) (hd : (x == ("__debug__" : Str)) = false := by decide)
    (hcd : (x == ("__classdict__" : Str)) = false := by decide) : PX X B F0 W (.Name x pos) (wVar i) := wkE (pe_var hN hv hd hcd) fun σ H Q h => by
  obtain ⟨w, env, K, KX, R, E, h, k, _⟩ := h
  unfold wVar at h
  split at h
  · rename_i d e
    obtain ⟨v, h1, h2⟩ := EnvR.get E e
    exact ⟨v, h1, k d w.S v H w.μ w.F R .refl h2 h⟩
  · exact h.elim
theorem xc {e : Expr} {c : V} {d : PyData} (h : PE X e (tC c)) (r : ∀ L T, RpT L T d c) : PX X B F0 W e (wC d) := wkE h fun σ H Q h => by
  obtain ⟨w, env, K, KX, R, E, h, k, _⟩ := h
  exact k _ w.S c H w.μ w.F R .refl (.z (r _ _)) h
theorem xint {i : Int} {j : Nat} : PX X B F0 W (.Constant (.int i) j pos) (wC (.int i)) := xc pe_int fun _ _ => .int i
theorem xbl {b : Bool} {j : Nat} : PX X B F0 W (.Constant (.bool b) j pos) (wC (.bool b)) := xc pe_bl fun _ _ => .bl b
theorem xnon {j : Nat} : PX X B F0 W (.Constant .none j pos) (wC .none) := xc pe_non fun _ _ => .non
theorem xstr {x : Str} {j : Nat} : PX X B F0 W (.Constant (.str x) j pos) (wC (.str x)) := xc pe_str fun _ _ => .str x
/-- a module's constant -/
theorem xglob {x : Str} {v : V} {u : Value} {d : PyData} (hg : Gl X x) (hm : X.mg x = some u) (r : RelV v u) (hd : ∀ L T, RpT L T d v) (hdb : (x == ("__debug__" : Str)) = false := by decide) : PX X B F0 W (.Name x pos) (wC d) :=
  xc (pe_glob hg hm r hdb) hd
theorem xglobO {x : Str} {a : Addr} (hg : Gl X x) (hm : X.mg x = some (.ref a)) (hdb : (x == ("__debug__" : Str)) = false := by decide) : PX X B F0 W (.Name x pos) (wO a) := wkE (pe_glob (v := .ref a) hg hm rfl hdb) fun σ H Q h => by
  obtain ⟨w, env, K, KX, R, E, h, k, _⟩ := h
  exact k _ w.S _ H w.μ w.F R .refl .o h
end

/-! ### operators -/
/-- two values, the store: what is asked -/
abbrev P2 := D → D → Sto → K1 → Prop
abbrev P1 := D → Sto → K1 → Prop
abbrev PL := List D → Sto → K1 → Prop
def r2 (B F0 : Hp) (p : P2) : R2 := fun a b H Q => ∃ (w : Wd) (x y : D) (K : K1), RlW B F0 w H ∧ RpW B w x a ∧ RpW B w y b ∧ p x y w.S K ∧ Fi B F0 w K Q
def r1 (B F0 : Hp) (p : P1) : V → Hp → VK → Prop := fun a H Q => ∃ (w : Wd) (x : D) (K : K1), RlW B F0 w H ∧ RpW B w x a ∧ p x w.S K ∧ Fi B F0 w K Q
def rL (B F0 : Hp) (p : PL) : List V → Hp → VK → Prop := fun vs H Q => ∃ (w : Wd) (xs : List D) (K : K1), RlW B F0 w H ∧ RpsW B w xs vs ∧ p xs w.S K ∧ Fi B F0 w K Q
def rM (B F0 : Hp) (p : D → PL) : V → List V → Hp → VK → Prop := fun v vs H Q => ∃ (w : Wd) (x : D) (xs : List D) (K : K1), RlW B F0 w H ∧ RpW B w x v ∧ RpsW B w xs vs ∧ p x xs w.S K ∧ Fi B F0 w K Q
def w2 (p : P2) (wa wb : WE) : WE := fun env S K KX => wa env S (fun x S1 => wb env S1 (fun y S2 => p x y S2 K) KX) KX
def w1 (p : P1) (wa : WE) : WE := fun env S K KX => wa env S (fun x S1 => p x S1 K) KX
/-- a value that is True or False, as a test -/
def asB (k : Bool → Sto → Prop) : K1 := fun d S => match d with
  | .z (.bool b) => k b S
  | _ => False
def wB (wa : WE) : WT := fun env S K KX => wa env S (asB K) KX
section
variable {X : Cx} {B F0 : Hp} {W : WX} {a b c : Expr} {wa wb wc : WE} {pos : Pos} {p p' : P2}
/-- two operands, then something by their values -/
theorem two {r : R2} (hr : ∀ x y H Q, r2 B F0 p x y H Q → r x y H Q) (σ : St) (H : Hp) (Q : VK) (h : tE B F0 W (w2 p wa wb) σ H Q) : tOp r (tE B F0 W wa) (tE B F0 W wb) σ H Q := by
  obtain ⟨w, env, K, KX, R, E, h, k, kx⟩ := h
  refine ⟨w, env, _, KX, R, E, h, fun x S1 v H1 μ1 F1 R1 X1 r1 h1 => ?_, kx⟩
  refine ⟨⟨μ1, S1, F1⟩, env, _, KX, R1, E.xt X1, h1, fun y S2 u H2 μ2 F2 R2 X2 r2 h2 => ?_, kx.xt X1⟩
  exact hr v u H2 Q ⟨⟨μ2, S2, F2⟩, x, y, K, R2, r1.xt X2, r2, h2, k.xt (X1.trans X2)⟩
theorem xop {op : Operator} (ho : OpR X (binaryOp op) (r2 B F0 p)) (ha : PX X B F0 W a wa) (hb : PX X B F0 W b wb) : PX X B F0 W (.BinOp a op b pos) (w2 p wa wb) := wkE (pe_op ho ha hb) (two fun _ _ _ _ h => h)
theorem xcmp {op : CmpOp} (ho : OpR X (compareOp op) (r2 B F0 p)) (ha : PX X B F0 W a wa) (hb : PX X B F0 W b wb) (hm : behindInMarks op b = false := by rfl) : PX X B F0 W (.Compare a [op] [b] pos) (w2 p wa wb) :=
  wkE (pe_cmpR ho ha hb hm) (two fun _ _ _ _ h => h)
theorem xix (ho : IxR X (r2 B F0 p)) (ha : PX X B F0 W a wa) (hb : PX X B F0 W b wb) (hs : PlainIx b := by exact fun _ _ => rfl) : PX X B F0 W (.Subscript a b pos) (w2 p wa wb) := wkE (pe_ix ho ha hb hs) (two fun _ _ _ _ h => h)
/-- an expression as a test, by its value -/
theorem testOf (σ : St) (H : Hp) (Q : Bool → Hp → Prop) (h : tT B F0 W (wB wa) σ H Q) : tTest (tE B F0 W wa) σ H Q := by
  obtain ⟨w, env, K, KX, R, E, h, k, kx⟩ := h
  refine ⟨w, env, _, KX, R, E, h, fun x S1 v H1 μ1 F1 R1 X1 r1 h1 => ?_, kx⟩
  unfold asB at h1
  split at h1
  · cases r1 with | z q => cases q; exact ⟨_, rfl, k _ S1 H1 μ1 F1 R1 X1 h1⟩
  · exact h1.elim
theorem xtv (h : PX X B F0 W a wa) (he : ∀ whole, isTrue a X.env whole = (do let v ← whole; standAt a.pos; holding [v] (truthy v)) := by intro _; rfl) : PXT X B F0 W a (wB wa) := wkT (pt_val h he) fun σ H Q q => testOf σ H Q q
theorem xtcmp {op : CmpOp} (ho : OpR X (compareOp op) (r2 B F0 p)) (ha : PX X B F0 W a wa) (hb : PX X B F0 W b wb) (hm : behindInMarks op b = false := by rfl) : PXT X B F0 W (.Compare a [op] [b] pos) (wB (w2 p wa wb)) :=
  wkT (pt_cmpR ho ha hb hm) fun σ H Q h => by
    obtain ⟨w, env, K, KX, R, E, h, k, kx⟩ := h
    refine two (fun _ _ _ _ h => h) σ H _ ⟨w, env, asB K, KX, R, E, h, fun x S1 v H1 μ1 F1 R1 X1 r1 h1 => ?_, kx⟩
    unfold asB at h1
    split at h1
    · cases r1 with | z q => cases q; exact ⟨_, rfl, k _ S1 H1 μ1 F1 R1 X1 h1⟩
    · exact h1.elim
/-- a < b < c -/
def w3 (p p' : P2) (wa wb wc : WE) : WE := fun env S K KX => wa env S (fun x S1 => wb env S1 (fun y S2 => p x y S2 (asB fun k S3 => pIf k (wc env S3 (fun z S4 => p' y z S4 K) KX) (K (.z (.bool false)) S3))) KX) KX
theorem asB.out {w : Wd} {d : D} {v : V} {K : Bool → Sto → Prop} {S : Sto} (h : asB K d S) (r : RpW B w d v) : ∃ k, v = .bl k ∧ K k S := by
  unfold asB at h
  split at h
  · cases r with | z q => cases q; exact ⟨_, rfl, h⟩
  · exact h.elim
theorem three {r r' : R2} (hr : ∀ x y H Q, r2 B F0 p x y H Q → r x y H Q) (hr' : ∀ x y H Q, r2 B F0 p' x y H Q → r' x y H Q) (σ : St) (H : Hp) (Q : VK) (h : tE B F0 W (w3 p p' wa wb wc) σ H Q) : tChain r r' (tE B F0 W wa) (tE B F0 W wb) (tE B F0 W wc) σ H Q := by
  obtain ⟨w, env, K, KX, R, E, h, k, kx⟩ := h
  refine ⟨w, env, _, KX, R, E, h, fun x S1 v H1 μ1 F1 R1 X1 r1 h1 => ?_, kx⟩
  refine ⟨⟨μ1, S1, F1⟩, env, _, KX, R1, E.xt X1, h1, fun y S2 u H2 μ2 F2 R2 X2 r2 h2 => ?_, kx.xt X1⟩
  refine hr v u H2 _ ⟨⟨μ2, S2, F2⟩, x, y, _, R2, r1.xt X2, r2, h2, fun z S3 t H3 μ3 F3 R3 X3 r3 h3 => ?_⟩
  obtain ⟨kb, rfl, h3⟩ := asB.out (w := ⟨μ3, S3, F3⟩) h3 r3
  refine ⟨kb, rfl, ?_⟩
  have h3 := h3.out
  cases kb with
  | true =>
    rw [if_pos rfl] at h3 ⊢
    refine ⟨⟨μ3, S3, F3⟩, env, _, KX, R3, E.xt ((X1.trans X2).trans X3), h3, fun z S4 t H4 μ4 F4 R4 X4 r4 h4 => ?_, kx.xt ((X1.trans X2).trans X3)⟩
    exact hr' u t H4 Q ⟨⟨μ4, S4, F4⟩, y, z, K, R4, r2.xt (X3.trans X4), r4, h4, k.xt (((X1.trans X2).trans X3).trans X4)⟩
  | false =>
    rw [if_neg Bool.false_ne_true] at h3 ⊢
    exact k _ S3 _ H3 μ3 F3 R3 ((X1.trans X2).trans X3) (.z (.bl _)) h3
theorem xch {op op' : CmpOp} (ho : OpR X (compareOp op) (r2 B F0 p)) (ho' : OpR X (compareOp op') (r2 B F0 p')) (ha : PX X B F0 W a wa) (hb : PX X B F0 W b wb) (hc : PX X B F0 W c wc)
    (hm : lastMarks [op, op'] [b, c] = false := by rfl) : PX X B F0 W (.Compare a [op, op'] [b, c] pos) (w3 p p' wa wb wc) :=
  wkE (pe_chain ho ho' ha hb hc hm) (three (fun _ _ _ _ h => h) fun _ _ _ _ h => h)
theorem xtch {op op' : CmpOp} (ho : OpR X (compareOp op) (r2 B F0 p)) (ho' : OpR X (compareOp op') (r2 B F0 p')) (ha : PX X B F0 W a wa) (hb : PX X B F0 W b wb) (hc : PX X B F0 W c wc) (hm : lastMarks [op, op'] [b, c] = false := by rfl) : PXT X B F0 W (.Compare a [op, op'] [b, c] pos) (wB (w3 p p' wa wb wc)) :=
  wkT (pt_chain ho ho' ha hb hc hm) fun σ H Q h => by
    obtain ⟨w, env, K, KX, R, E, h, k, kx⟩ := h
    refine three (fun _ _ _ _ h => h) (fun _ _ _ _ h => h) σ H _ ⟨w, env, asB K, KX, R, E, h, fun x S1 v H1 μ1 F1 R1 X1 r1 h1 => ?_, kx⟩
    obtain ⟨kb, rfl, h2⟩ := asB.out (w := ⟨μ1, S1, F1⟩) h1 r1
    exact ⟨kb, rfl, k _ S1 H1 μ1 F1 R1 X1 h2⟩
end

/-! ### and, or, not, if-else -/
def wAnd (t u : WT) : WT := fun env S K KX => t env S (fun c S1 => pIf c (u env S1 K KX) (K false S1)) KX
def wOr (t u : WT) : WT := fun env S K KX => t env S (fun c S1 => pIf c (K true S1) (u env S1 K KX)) KX
def wNot (t : WT) : WT := fun env S K KX => t env S (fun c S1 => K (!c) S1) KX
def wAndV (wa wb : WE) : WE := fun env S K KX => wa env S (asB fun c S1 => pIf c (wb env S1 K KX) (K (.z (.bool false)) S1)) KX
def wOrV (wa wb : WE) : WE := fun env S K KX => wa env S (asB fun c S1 => pIf c (K (.z (.bool true)) S1) (wb env S1 K KX)) KX
def wNotV (wa : WE) : WE := fun env S K KX => wa env S (asB fun c S1 => K (.z (.bool (!c))) S1) KX
def wIfE (t : WT) (wa wb : WE) : WE := fun env S K KX => t env S (fun c S1 => pIf c (wa env S1 K KX) (wb env S1 K KX)) KX
section
variable {X : Cx} {B F0 : Hp} {W : WX} {a b c : Expr} {wa wb : WE} {t u : WT} {pos : Pos} {rest : List Expr}
theorem yand1 (ha : PXT X B F0 W a t) : PXW X B F0 W (.BoolOp .And [a] pos) t := pw_and1 ha
theorem yor1 (ha : PXT X B F0 W a t) : PXW X B F0 W (.BoolOp .Or [a] pos) t := pw_or1 ha
theorem yand (ha : PXT X B F0 W a t) (hb : PXW X B F0 W (.BoolOp .And (b :: rest) pos) u) : PXW X B F0 W (.BoolOp .And (a :: b :: rest) pos) (wAnd t u) := wkW (pw_and ha hb) fun σ H Q h => by
  obtain ⟨w, env, K, KX, R, E, h, k, kx⟩ := h
  refine ⟨w, env, _, KX, R, E, h, fun x S1 H1 μ1 F1 R1 X1 h1 => ?_, kx⟩
  have h1 := h1.out
  dsimp only
  cases x with
  | true => rw [if_pos rfl] at h1 ⊢; exact ⟨⟨μ1, S1, F1⟩, env, K, KX, R1, E.xt X1, h1, k.xt X1, kx.xt X1⟩
  | false => rw [if_neg Bool.false_ne_true] at h1 ⊢; exact k _ S1 H1 μ1 F1 R1 X1 h1
theorem yor (ha : PXT X B F0 W a t) (hb : PXW X B F0 W (.BoolOp .Or (b :: rest) pos) u) : PXW X B F0 W (.BoolOp .Or (a :: b :: rest) pos) (wOr t u) := wkW (pw_or ha hb) fun σ H Q h => by
  obtain ⟨w, env, K, KX, R, E, h, k, kx⟩ := h
  refine ⟨w, env, _, KX, R, E, h, fun x S1 H1 μ1 F1 R1 X1 h1 => ?_, kx⟩
  have h1 := h1.out
  dsimp only
  cases x with
  | false => rw [if_neg Bool.false_ne_true] at h1 ⊢; exact ⟨⟨μ1, S1, F1⟩, env, K, KX, R1, E.xt X1, h1, k.xt X1, kx.xt X1⟩
  | true => rw [if_pos rfl] at h1 ⊢; exact k _ S1 H1 μ1 F1 R1 X1 h1
theorem xtw (h : PXW X B F0 W a t) : PXT X B F0 W a t := h.pt
theorem xtnot (h : PXT X B F0 W a t) : PXT X B F0 W (.UnaryOp .Not a pos) (wNot t) := wkT (pt_not h) fun σ H Q h => by
  obtain ⟨w, env, K, KX, R, E, h, k, kx⟩ := h
  exact ⟨w, env, _, KX, R, E, h, fun x S1 H1 μ1 F1 R1 X1 h1 => k _ S1 H1 μ1 F1 R1 X1 h1, kx⟩
theorem xone {op : BoolOp} (h : PX X B F0 W a wa) : PX X B F0 W (.BoolOp op [a] pos) wa := pe_one h
theorem xand (ha : PX X B F0 W a wa) (hb : PX X B F0 W (.BoolOp .And (b :: rest) pos) wb) : PX X B F0 W (.BoolOp .And (a :: b :: rest) pos) (wAndV wa wb) := wkE (pe_and ha hb) fun σ H Q h => by
  obtain ⟨w, env, K, KX, R, E, h, k, kx⟩ := h
  refine ⟨w, env, _, KX, R, E, h, fun x S1 v H1 μ1 F1 R1 X1 r1 h1 => ?_, kx⟩
  obtain ⟨kb, rfl, h2⟩ := asB.out (w := ⟨μ1, S1, F1⟩) h1 r1
  refine ⟨kb, rfl, ?_⟩
  have h2 := h2.out
  cases kb with
  | true => rw [if_pos rfl] at h2 ⊢; exact ⟨⟨μ1, S1, F1⟩, env, K, KX, R1, E.xt X1, h2, k.xt X1, kx.xt X1⟩
  | false => rw [if_neg Bool.false_ne_true] at h2 ⊢; exact k _ S1 _ H1 μ1 F1 R1 X1 (.z (.bl _)) h2
theorem xor' (ha : PX X B F0 W a wa) (hb : PX X B F0 W (.BoolOp .Or (b :: rest) pos) wb) : PX X B F0 W (.BoolOp .Or (a :: b :: rest) pos) (wOrV wa wb) := wkE (pe_or ha hb) fun σ H Q h => by
  obtain ⟨w, env, K, KX, R, E, h, k, kx⟩ := h
  refine ⟨w, env, _, KX, R, E, h, fun x S1 v H1 μ1 F1 R1 X1 r1 h1 => ?_, kx⟩
  obtain ⟨kb, rfl, h2⟩ := asB.out (w := ⟨μ1, S1, F1⟩) h1 r1
  refine ⟨kb, rfl, ?_⟩
  have h2 := h2.out
  cases kb with
  | false => rw [if_neg Bool.false_ne_true] at h2 ⊢; exact ⟨⟨μ1, S1, F1⟩, env, K, KX, R1, E.xt X1, h2, k.xt X1, kx.xt X1⟩
  | true => rw [if_pos rfl] at h2 ⊢; exact k _ S1 _ H1 μ1 F1 R1 X1 (.z (.bl _)) h2
theorem xnot (ha : PX X B F0 W a wa) : PX X B F0 W (.UnaryOp .Not a pos) (wNotV wa) := wkE (pe_not ha) fun σ H Q h => by
  obtain ⟨w, env, K, KX, R, E, h, k, kx⟩ := h
  refine ⟨w, env, _, KX, R, E, h, fun x S1 v H1 μ1 F1 R1 X1 r1 h1 => ?_, kx⟩
  obtain ⟨kb, rfl, h2⟩ := asB.out (w := ⟨μ1, S1, F1⟩) h1 r1
  exact ⟨kb, rfl, k _ S1 _ H1 μ1 F1 R1 X1 (.z (.bl _)) h2⟩
theorem xife (hc : PXT X B F0 W c t) (ha : PX X B F0 W a wa) (hb : PX X B F0 W b wb) : PX X B F0 W (.IfExp c a b pos) (wIfE t wa wb) := wkE (pe_ifExp hc ha hb) fun σ H Q h => by
  obtain ⟨w, env, K, KX, R, E, h, k, kx⟩ := h
  refine ⟨w, env, _, KX, R, E, h, fun x S1 H1 μ1 F1 R1 X1 h1 => ?_, kx⟩
  have h1 := h1.out
  dsimp only
  cases x with
  | true => rw [if_pos rfl] at h1 ⊢; exact ⟨⟨μ1, S1, F1⟩, env, K, KX, R1, E.xt X1, h1, k.xt X1, kx.xt X1⟩
  | false => rw [if_neg Bool.false_ne_true] at h1 ⊢; exact ⟨⟨μ1, S1, F1⟩, env, K, KX, R1, E.xt X1, h1, k.xt X1, kx.xt X1⟩
end

/-! ### arguments, displays, calls by value -/
def wNil : WA := fun _ S K _ => K [] S
def wCons (wa : WE) (wr : WA) : WA := fun env S K KX => wa env S (fun x S1 => wr env S1 (fun xs S2 => K (x :: xs) S2) KX) KX
/-- a tuple of values: frozen, where all of them are -/
def allZ : List D → Option (List PyData)
  | [] => some []
  | .z d :: ds => (allZ ds).map (d :: ·)
  | _ :: _ => none
def mkT (ds : List D) : D := match allZ ds with
  | some es => .z (.tuple es)
  | none => .t ds
def wTup (wa : WA) : WE := fun env S K KX => wa env S (fun ds S1 => pReq (ds.length ≤ sizeLine) (K (mkT ds) S1)) KX
def wLst (wa : WA) : WE := fun env S K KX => wa env S (fun ds S1 => pReq (ds.length ≤ sizeLine) (K (.r S1.length) (S1 ++ [.lst ds]))) KX
def wCall (p : PL) (wa : WA) : WE := fun env S K KX => wa env S (fun ds S1 => p ds S1 K) KX
def wMeth (p : D → PL) (wo : WE) (wa : WA) : WE := fun env S K KX => wo env S (fun x S1 => wa env S1 (fun ds S2 => p x ds S2 K) KX) KX
theorem allZ_rp {B F : Hp} {μ : Nat → Addr} {n : Nat} : ∀ {ds : List D} {es : List PyData} {vs : List V}, allZ ds = some es → RpDs B F μ n ds vs → RpTs (LF F) (TF F) es vs
  | [], _, _, e, h => by cases h; simp [allZ] at e; subst e; exact .nil
  | .z d :: ds, _, _, e, h => by
    cases h with
    | cons a b =>
      simp only [allZ, Option.map_eq_some_iff] at e
      obtain ⟨es, h1, rfl⟩ := e
      cases a with | z q => exact .cons q (allZ_rp h1 b)
  | .b d :: ds, _, _, e, h => by simp [allZ] at e
  | .r d :: ds, _, _, e, h => by simp [allZ] at e
  | .t d :: ds, _, _, e, h => by simp [allZ] at e
  | .o d :: ds, _, _, e, h => by simp [allZ] at e
  | .y d :: ds, _, _, e, h => by simp [allZ] at e
theorem mkT_rp {B F : Hp} {μ : Nat → Addr} {n : Nat} {ds : List D} {vs : List V} {p : Addr} (hp : F p = some (.tup vs)) (h : RpDs B F μ n ds vs) : RpD B F μ n (mkT ds) (.ref p) := by
  unfold mkT
  split
  · rename_i es e
    exact .z (.tup hp (allZ_rp e h))
  · exact .t hp h
section
variable {X : Cx} {B F0 : Hp} {W : WX} {e o : Expr} {es : List Expr} {we wo : WE} {wa : WA} {pos cpos apos : Pos} {x : Str} {id T : String}
theorem anil : PXA X B F0 W [] wNil := wkA pa_nil fun σ H Q h => by
  obtain ⟨w, env, K, KX, R, E, h, k, kx⟩ := h
  exact k [] w.S [] H w.μ w.F R .refl .nil h
theorem acons (h1 : PX X B F0 W e we) (h2 : PXA X B F0 W es wa) (hs : starEach (e :: es) X.env = (false, eval e X.env) :: starEach es X.env := by rfl) : PXA X B F0 W (e :: es) (wCons we wa) := wkA (pa_cons h1 h2 hs) fun σ H Q h => by
  obtain ⟨w, env, K, KX, R, E, h, k, kx⟩ := h
  refine ⟨w, env, _, KX, R, E, h, fun x S1 v H1 μ1 F1 R1 X1 r1 h1 => ?_, kx⟩
  exact ⟨⟨μ1, S1, F1⟩, env, _, KX, R1, E.xt X1, h1, fun xs S2 vs H2 μ2 F2 R2 X2 r2 h2 => k _ S2 _ H2 μ2 F2 R2 (X1.trans X2) (.cons (r1.xt X2) r2) h2, kx.xt X1⟩
theorem xtup {j : Nat} (h : PXA X B F0 W es wa) : PX X B F0 W (.Tuple es j pos) (wTup wa) := wkE (pe_tup h) fun σ H Q h => by
  obtain ⟨w, env, K, KX, R, E, h, k, kx⟩ := h
  refine ⟨w, env, _, KX, R, E, h, fun xs S1 vs H1 μ1 F1 R1 X1 r1 h1 => ?_, kx⟩
  obtain ⟨z, h1⟩ := h1.out
  refine ⟨by rw [← r1.length]; exact z, fun p hp => ?_⟩
  obtain ⟨R2, X2⟩ := R1.froze (.tup vs) hp
  exact k _ S1 _ _ μ1 _ R2 (X1.trans X2) (mkT_rp upd_same (r1.xt X2)) h1
theorem xlst (h : PXA X B F0 W es wa) : PX X B F0 W (.List es pos) (wLst wa) := wkE (pe_lst h) fun σ H Q h => by
  obtain ⟨w, env, K, KX, R, E, h, k, kx⟩ := h
  refine ⟨w, env, _, KX, R, E, h, fun xs S1 vs H1 μ1 F1 R1 X1 r1 h1 => ?_, kx⟩
  obtain ⟨z, h1⟩ := h1.out
  refine ⟨by rw [← r1.length]; exact z, fun p hp => ?_⟩
  obtain ⟨R2, X2⟩ := R1.grow (u := .lst vs) (o := .lst xs) hp fun G hG => ⟨vs, hG, r1⟩
  have e : muX μ1 S1.length p S1.length = p := by unfold muX; rw [if_pos rfl]
  have r : RpD B F1 (muX μ1 S1.length p) (S1 ++ [Ob.lst xs]).length (.r S1.length) (.ref p) := by
    have q : RpD B F1 (muX μ1 S1.length p) (S1 ++ [Ob.lst xs]).length (.r S1.length) (.ref (muX μ1 S1.length p S1.length)) := .r (by simp)
    rw [e] at q
    exact q
  exact k _ _ _ _ _ _ R2 (X1.trans X2) r h1
/-- arguments, then something by their values -/
theorem args {p : PL} {r : List V → Hp → VK → Prop} (hr : ∀ vs H Q, rL B F0 p vs H Q → r vs H Q) (σ : St) (H : Hp) (Q : VK) (h : tE B F0 W (wCall p wa) σ H Q) : tCB r (tA B F0 W wa) σ H Q := by
  obtain ⟨w, env, K, KX, R, E, h, k, kx⟩ := h
  exact ⟨w, env, _, KX, R, E, h, fun xs S1 vs H1 μ1 F1 R1 X1 r1 h1 => hr vs H1 Q ⟨⟨μ1, S1, F1⟩, xs, K, R1, r1, h1, k.xt X1⟩, kx⟩
theorem xcallB {p : PL} {q : Pos} (hc : CallR X (.builtin id) (rL B F0 p)) (hg : Gl X x) (hm : X.mg x = none) (hv : bootBuiltins x = some (.builtin id)) (ha : PXA X B F0 W (e :: es) wa) (hn : x ≠ "__name__" := by decide) (hdb : (x == ("__debug__" : Str)) = false := by decide)
    (he : starEach (e :: es) X.env = (false, eval e X.env) :: starEach es X.env := by rfl) (hpl : (backTo pos (starEach es X.env)).any (·.1) = false := by rfl) : PX X B F0 W (.Call (.Name x q) (e :: es) [] pos) (wCall p wa) :=
  wkE (pe_callB hc hg hm hv ha hn hdb he hpl) (args fun _ _ _ h => h)
theorem xcallT {p : PL} {q : Pos} (hc : CallR X (.type T) (rL B F0 p)) (hg : Gl X x) (hm : X.mg x = none) (hv : bootBuiltins x = some (.type T)) (ha : PXA X B F0 W (e :: es) wa) (hn : x ≠ "__name__" := by decide) (hdb : (x == ("__debug__" : Str)) = false := by decide)
    (he : starEach (e :: es) X.env = (false, eval e X.env) :: starEach es X.env := by rfl) (hpl : (backTo pos (starEach es X.env)).any (·.1) = false := by rfl) : PX X B F0 W (.Call (.Name x q) (e :: es) [] pos) (wCall p wa) :=
  wkE (pe_callTy hc hg hm hv ha hn hdb he hpl) (args fun _ _ _ h => h)
end

/-! ### slices -/
abbrev WO := Env → Sto → (Option Int → Sto → Prop) → KX → Prop
def wNo : WO := fun _ S K _ => K none S
def wPart (wa : WE) : WO := fun env S K KX => wa env S (fun x S1 => match x with
  | .z (.int i) => K (some i) S1
  | _ => False) KX
def FiO (B F0 : Hp) (w : Wd) (K : Option Int → Sto → Prop) (Q : Option Int → Hp → Prop) : Prop := ∀ b S' H' μ' F', Rl B F0 μ' S' F' H' → Xt w.μ w.S w.F μ' S' F' → K b S' → Q b H'
theorem FiO.xt {B F0 : Hp} {w w' : Wd} {K : Option Int → Sto → Prop} {Q : Option Int → Hp → Prop} (h : FiO B F0 w K Q) (x : Xt w.μ w.S w.F w'.μ w'.S w'.F) : FiO B F0 w' K Q := fun b S H μ F R X k => h b S H μ F R (x.trans X) k
def tO (B F0 : Hp) (W : WX) (wt : WO) : TO := fun σ H Q => ∃ (w : Wd) (env : Env) (K : Option Int → Sto → Prop) (KX : KX), RlW B F0 w H ∧ EnvR B w.F w.μ w.S.length env σ ∧ wt env w.S K KX ∧ FiO B F0 w K Q ∧ FiX B F0 W w env σ KX
def PXO (X : Cx) (B F0 : Hp) (W : WX) (e : Option Expr) (wt : WO) : Prop := PO X e (tO B F0 W wt)
def rSl (B F0 : Hp) (p : D → Option Int → Option Int → Sto → K1 → Prop) : V → Option Int → Option Int → Hp → VK → Prop := fun v lo hi H Q => ∃ (w : Wd) (x : D) (K : K1), RlW B F0 w H ∧ RpW B w x v ∧ p x lo hi w.S K ∧ Fi B F0 w K Q
def wSl (p : D → Option Int → Option Int → Sto → K1 → Prop) (wa : WE) (wl wh : WO) : WE := fun env S K KX => wa env S (fun x S1 => wl env S1 (fun lo S2 => wh env S2 (fun hi S3 => p x lo hi S3 K) KX) KX) KX
section
variable {X : Cx} {B F0 : Hp} {W : WX} {e o : Expr} {we : WE} {wl wh : WO} {lo hi : Option Expr} {pos p2 : Pos}
theorem ono : PXO X B F0 W none wNo := ⟨fun pins s σ H Q I h => by
  obtain ⟨w, env, K, KX, R, E, h, k, kx⟩ := h
  exact po_none.run pins s σ H Q I (k none w.S H w.μ w.F R .refl h)⟩
theorem osome (h1 : PX X B F0 W e we) : PXO X B F0 W (some e) (wPart we) := ⟨fun pins s σ H Q I h => by
  obtain ⟨w, env, K, KX, R, E, h, k, kx⟩ := h
  refine (po_some h1).run pins s σ H Q I ⟨w, env, _, KX, R, E, h, fun x S1 v H1 μ1 F1 R1 X1 r1 h1 => ?_, kx⟩
  dsimp only at h1 ⊢
  split at h1
  · cases r1 with | z q => cases q; exact ⟨_, rfl, k _ S1 H1 μ1 F1 R1 X1 h1⟩
  · exact h1.elim⟩
theorem xsl {p : D → Option Int → Option Int → Sto → K1 → Prop} (hr : SlR X (rSl B F0 p)) (he : PX X B F0 W e we) (hl : PXO X B F0 W lo wl) (hu : PXO X B F0 W hi wh) : PX X B F0 W (.Subscript e (.Slice lo hi none p2) pos) (wSl p we wl wh) :=
  wkE (pe_slice hr he hl hu) fun σ H Q h => by
    obtain ⟨w, env, K, KX, R, E, h, k, kx⟩ := h
    refine ⟨w, env, _, KX, R, E, h, fun x S1 v H1 μ1 F1 R1 X1 r1 h1 => ?_, kx⟩
    refine ⟨⟨μ1, S1, F1⟩, env, _, KX, R1, E.xt X1, h1, fun lo S2 H2 μ2 F2 R2 X2 h2 => ?_, kx.xt X1⟩
    refine ⟨⟨μ2, S2, F2⟩, env, _, KX, R2, E.xt (X1.trans X2), h2, fun hi S3 H3 μ3 F3 R3 X3 h3 => ?_, kx.xt (X1.trans X2)⟩
    exact ⟨⟨μ3, S3, F3⟩, x, K, R3, r1.xt (X2.trans X3), h3, k.xt ((X1.trans X2).trans X3)⟩
end

/-! ### methods of built-in types -/
/-- what a receiver must be -/
def isTy (T : Ty) (S : Sto) (x : D) : Bool := match T, x with
  | .str, .z (.str _) => true
  | .list, .r n => match S[n]? with
    | some (.lst _) => true
    | _ => false
  | .dict, .r n => match S[n]? with
    | some (.dic _) => true
    | _ => false
  | .list, .z (.list _) => true
  | .list, .b (.list _) => true
  | _, _ => false
def wMth (T : Ty) (p : D → PL) (wo : WE) (wa : WA) : WE := fun env S K KX => wo env S (fun x S1 => pReq (isTy T S1 x = true) (wa env S1 (fun ds S2 => p x ds S2 K) KX)) KX
theorem isTy_ok {K : PySem.W.Frag} {T : Ty} {B F0 H : Hp} {w : Wd} {x : D} {v : V} (R : RlW B F0 w H) (r : RpW B w x v) (h : isTy T w.S x = true) : tyV K T.s v H := by
  unfold isTy at h
  split at h
  · cases r with | z q => cases q; exact rfl
  · cases r with
    | r hi =>
      split at h
      · rename_i ds e
        obtain ⟨vs, hv, _⟩ := R.ob _ _ e
        exact .inl ⟨rfl, vs, SqL.of hv⟩
      · cases h
  · cases r with
    | r hi =>
      split at h
      · rename_i ds e
        obtain ⟨vs, hv, _⟩ := R.ob _ _ e
        exact .inr (.inr (.inl ⟨rfl, .inl ⟨_, hv⟩⟩))
      · cases h
  · cases r with | z q => cases q with | lst a b => exact .inl ⟨rfl, _, SqL.of (R.fh _ _ a)⟩
  · cases r with
    | b q =>
      cases q with
      | lst a b => exact .inl ⟨rfl, _, .inl (a.elim (fun z => R.fh.rd z) fun z => R.bh.rd z)⟩
  · cases h
section
variable {X : Cx} {B F0 : Hp} {W : WX} {o e : Expr} {es : List Expr} {wo : WE} {wa : WA} {name : Str} {apos cpos : Pos} {T : Ty} {id : String} {p : D → PL}
theorem xm0 (pa : PlainAttrs T.s) (slot : Slot T.s name id) (hty : typeOf (.builtin id) = pure (.type "method_descriptor")) (hm : MtR X id (rM B F0 p)) (ho : PX X B F0 W o wo)
    (hbase : attributeBase o name X.env (eval o X.env) = eval o X.env := by rfl) (hline : (apos.endLine == cpos.line) = true := by rfl) : PX X B F0 W (.Call (.Attribute o name apos) [] [] cpos) (wMth T p wo wNil) :=
  wkE (pe_bm0 pa slot hty hm ho hbase hline) fun σ H Q h => by
    obtain ⟨w, env, K, KX, R, E, h, k, kx⟩ := h
    refine ⟨w, env, _, KX, R, E, h, fun x S1 v H1 μ1 F1 R1 X1 r1 h1 => ?_, kx⟩
    obtain ⟨ty, h1⟩ := h1.out
    exact ⟨isTy_ok (w := ⟨μ1, S1, F1⟩) R1 r1 ty, ⟨μ1, S1, F1⟩, x, [], K, R1, r1, .nil, h1, k.xt X1⟩
theorem xm1 (pa : PlainAttrs T.s) (slot : Slot T.s name id) (hty : typeOf (.builtin id) = pure (.type "method_descriptor")) (hm : MtR X id (rM B F0 p)) (ho : PX X B F0 W o wo) (ha : PXA X B F0 W (e :: es) wa)
    (hbase : attributeBase o name X.env (eval o X.env) = eval o X.env := by rfl)
    (hfew : ((backTo cpos (starEach (e :: es) X.env)).all (fun x => !x.1) && (backToKw cpos (keywordEach [] X.env)).all (fun x => x.1.isSome)
      && decide ((e :: es).length + ([] : List Keyword).length + (if ([] : List Keyword).isEmpty then 0 else 1) < 30)) = true := by rfl)
    (hline : (apos.endLine == cpos.line) = true := by rfl) (hs : starEach (e :: es) X.env = (false, eval e X.env) :: starEach es X.env := by rfl) (hplain : (backTo cpos (starEach es X.env)).any (·.1) = false := by rfl) :
    PX X B F0 W (.Call (.Attribute o name apos) (e :: es) [] cpos) (wMth T p wo wa) :=
  wkE (pe_bm pa slot hty hm ho ha hbase hfew hline hs hplain) fun σ H Q h => by
    obtain ⟨w, env, K, KX, R, E, h, k, kx⟩ := h
    refine ⟨w, env, _, KX, R, E, h, fun x S1 v H1 μ1 F1 R1 X1 r1 h1 => ?_, kx⟩
    obtain ⟨ty, h1⟩ := h1.out
    refine ⟨isTy_ok (w := ⟨μ1, S1, F1⟩) R1 r1 ty, ⟨μ1, S1, F1⟩, env, _, KX, R1, E.xt X1, h1, fun xs S2 vs H2 μ2 F2 R2 X2 r2 h2 => ?_, kx.xt X1⟩
    exact ⟨⟨μ2, S2, F2⟩, x, xs, K, R2, r1.xt X2, r2, h2, k.xt (X1.trans X2)⟩
end
end PL

set_option Elab.async false
set_option linter.all false
set_option maxRecDepth 100000
/-! PL, part 3: operators, subscripts, built-in calls and methods, over data -/
namespace PL
open PySem L2

/-- the items of a list, of a tuple -/
def lsD (S : Sto) : D → Option (List D)
  | .z (.list ds) => some (ds.map .z)
  | .b (.list ds) => some (ds.map bz)
  | .r n => match S[n]? with
    | some (.lst ds) => some ds
    | _ => none
  | _ => none
def tpD : D → Option (List D)
  | .z (.tuple ds) => some (ds.map .z)
  | .b (.tuple ds) => some (ds.map bz)
  | .t ds => some ds
  | _ => none
/-- the items of either -/
def sqD (S : Sto) : D → Option (List D)
  | .z (.tuple ds) => some (ds.map .z)
  | .b (.tuple ds) => some (ds.map bz)
  | .t ds => some ds
  | x => lsD S x
def lenD (S : Sto) : D → Option Nat
  | .z (.list ds) => some ds.length
  | .b (.list ds) => some ds.length
  | .z (.tuple ds) => some ds.length
  | .b (.tuple ds) => some ds.length
  | .t ds => some ds.length
  | .r n => match S[n]? with
    | some (.lst ds) => some ds.length
    | some (.dic kvs) => some kvs.length
    | _ => none
  | _ => none
/-- an item by its place, from either end -/
def atD {α : Type} (xs : List α) : Int → Option α
  | .ofNat k => xs[k]?
  | .negSucc k => if k < xs.length then xs[xs.length - (k + 1)]? else none
def ixD (S : Sto) : D → Int → Option D
  | .z (.list ds), i => (atD ds i).map .z
  | .b (.list ds), i => (atD ds i).map bz
  | .z (.tuple ds), i => (atD ds i).map .z
  | .b (.tuple ds), i => (atD ds i).map bz
  | .t ds, i => atD ds i
  | .r n, i => match S[n]? with
    | some (.lst ds) => atD ds i
    | _ => none
  | _, _ => none
theorem atD_neg {α : Type} (xs : List α) (k : Nat) : atD xs (Int.negSucc k) = if k < xs.length then xs[xs.length - (k + 1)]? else none := rfl
theorem atD_atI {α : Type} {xs : List α} {i : Int} {x : α} (h : atD xs i = some x) : atI xs i = some x := by
  cases i with
  | ofNat k => exact atI_nat h
  | negSucc k =>
    rw [atD_neg] at h
    split at h
    · rename_i hk
      have e : ixN xs.length (Int.negSucc k) = some (xs.length - (k + 1)) := by
        unfold ixN
        rw [if_neg (by omega), if_pos (by omega)]
        congr 1
        omega
      unfold atI
      rw [e]
      exact h
    · cases h
section
variable {K : PySem.W.Frag} {B F0 H : Hp} {w : Wd}
theorem lsD_ok {x : D} {v : V} {ds : List D} (R : RlW B F0 w H) (r : RpW B w x v) (h : lsD w.S x = some ds) : ∃ a vs, v = .ref a ∧ Rd H a (.lst vs) ∧ RpsW B w ds vs := by
  unfold lsD at h
  split at h
  · cases h; cases r with | z q => cases q with | lst a b => exact ⟨_, _, rfl, .inl (R.fh _ _ a), RpDs.zs b⟩
  · cases h; cases r with | b q => cases q with | lst a b => exact ⟨_, _, rfl, a.elim (fun z => R.fh.rd z) fun z => R.bh.rd z, RpDs.bzs b⟩
  · split at h
    · rename_i e
      cases h; cases r with | r hi => obtain ⟨vs, hv, rv⟩ := R.ob _ _ e; exact ⟨_, vs, rfl, .inl hv, rv⟩
    · cases h
  · cases h
theorem tpD_ok {x : D} {v : V} {ds : List D} (R : RlW B F0 w H) (r : RpW B w x v) (h : tpD x = some ds) : ∃ a vs, v = .ref a ∧ H a = some (.tup vs) ∧ RpsW B w ds vs := by
  unfold tpD at h
  split at h
  · cases h; cases r with | z q => cases q with | tup a b => exact ⟨_, _, rfl, R.fh _ _ a, RpDs.zs b⟩
  · cases h; cases r with | b q => cases q with | tup a b => exact ⟨_, _, rfl, R.fh _ _ a, RpDs.bzs b⟩
  · cases h; cases r with | t a b => exact ⟨_, _, rfl, R.fh _ _ a, b⟩
  · cases h
theorem tpD_okF {x : D} {v : V} {ds : List D} (R : RlW B F0 w H) (r : RpW B w x v) (h : tpD x = some ds) : ∃ a vs, v = .ref a ∧ H a = some (.tup vs) ∧ w.F a = some (.tup vs) ∧ RpsW B w ds vs := by
  unfold tpD at h
  split at h
  · cases h; cases r with | z q => cases q with | tup a b => exact ⟨_, _, rfl, R.fh _ _ a, a, RpDs.zs b⟩
  · cases h; cases r with | b q => cases q with | tup a b => exact ⟨_, _, rfl, R.fh _ _ a, a, RpDs.bzs b⟩
  · cases h; cases r with | t a b => exact ⟨_, _, rfl, R.fh _ _ a, a, b⟩
  · cases h
theorem sqD_ok {x : D} {v : V} {ds : List D} (R : RlW B F0 w H) (r : RpW B w x v) (h : sqD w.S x = some ds) : ∃ a vs, v = .ref a ∧ (SqL K H a vs ∨ SqT K H a vs) ∧ RpsW B w ds vs := by
  unfold sqD at h
  split at h
  · cases h; cases r with | z q => cases q with | tup a b => exact ⟨_, _, rfl, .inr (.inl (.inl (R.fh _ _ a))), RpDs.zs b⟩
  · cases h; cases r with | b q => cases q with | tup a b => exact ⟨_, _, rfl, .inr (.inl (.inl (R.fh _ _ a))), RpDs.bzs b⟩
  · cases h; cases r with | t a b => exact ⟨_, _, rfl, .inr (.inl (.inl (R.fh _ _ a))), b⟩
  · obtain ⟨a, vs, e, h1, h2⟩ := lsD_ok R r h
    exact ⟨a, vs, e, .inl (.inl h1), h2⟩
theorem ixD_ok {x d : D} {v : V} {i : Int} (R : RlW B F0 w H) (r : RpW B w x v) (h : ixD w.S x i = some d) : ∃ a vs u, v = .ref a ∧ (SqL K H a vs ∨ SqT K H a vs) ∧ atI vs i = some u ∧ RpW B w d u := by
  have key : ∀ {ds : List D} {vs : List V}, RpsW B w ds vs → atD ds i = some d → ∃ u, atI vs i = some u ∧ RpW B w d u := fun {ds vs} rv e => by
    cases i with
    | ofNat k =>
      obtain ⟨u, h1, h2⟩ := RpDs.get rv e
      exact ⟨u, atI_nat h1, h2⟩
    | negSucc k =>
      have e2 : atD ds (Int.negSucc k) = some d := e
      rw [atD_neg] at e
      split at e
      · rename_i hk
        obtain ⟨u, h1, h2⟩ := RpDs.get rv e
        refine ⟨u, atD_atI ?_, h2⟩
        have hl : vs.length = ds.length := rv.length.symm
        rw [atD_neg, hl, if_pos hk]
        exact h1
      · cases e
  have mp : ∀ {f : PyData → D} {ds : List PyData}, (atD ds i).map f = some d → atD (ds.map f) i = some d := fun {f ds} e => by
    cases i with
    | ofNat k => show (ds.map f)[k]? = _; rw [List.getElem?_map]; exact e
    | negSucc k =>
      rw [atD_neg] at e ⊢
      rw [List.length_map]
      split at e
      · rename_i hk
        rw [if_pos hk, List.getElem?_map]; exact e
      · simp at e
  unfold ixD at h
  split at h
  · cases r with | z q => cases q with | lst a b => obtain ⟨u, h1, h2⟩ := key (RpDs.zs b) (mp h); exact ⟨_, _, u, rfl, .inl (.inl (.inl (R.fh _ _ a))), h1, h2⟩
  · cases r with | b q => cases q with | lst a b => obtain ⟨u, h1, h2⟩ := key (RpDs.bzs b) (mp h); exact ⟨_, _, u, rfl, .inl (.inl (a.elim (fun z => R.fh.rd z) fun z => R.bh.rd z)), h1, h2⟩
  · cases r with | z q => cases q with | tup a b => obtain ⟨u, h1, h2⟩ := key (RpDs.zs b) (mp h); exact ⟨_, _, u, rfl, .inr (.inl (.inl (R.fh _ _ a))), h1, h2⟩
  · cases r with | b q => cases q with | tup a b => obtain ⟨u, h1, h2⟩ := key (RpDs.bzs b) (mp h); exact ⟨_, _, u, rfl, .inr (.inl (.inl (R.fh _ _ a))), h1, h2⟩
  · cases r with | t a b => obtain ⟨u, h1, h2⟩ := key b h; exact ⟨_, _, u, rfl, .inr (.inl (.inl (R.fh _ _ a))), h1, h2⟩
  · split at h
    · rename_i e
      cases r with | r hi => obtain ⟨vs, hv, rv⟩ := R.ob _ _ e; obtain ⟨u, h1, h2⟩ := key rv h; exact ⟨_, _, u, rfl, .inl (.inl (.inl hv)), h1, h2⟩
    · cases h
  · cases h
end

/-! ### the ends of operations -/
section
variable {B F0 H : Hp} {w : Wd} {K : K1} {Q : VK}
theorem Fi.data {d : PyData} {v : V} (k : Fi B F0 w K Q) (R : RlW B F0 w H) (r : ∀ L T, RpT L T d v) (h : K (.z d) w.S) : Q v H := k _ w.S v H w.μ w.F R .refl (.z (r _ _)) h
theorem Fi.int {i : Int} (k : Fi B F0 w K Q) (R : RlW B F0 w H) (h : K (.z (.int i)) w.S) : Q (.int i) H := k.data R (fun _ _ => .int i) h
theorem Fi.bl {i : Bool} (k : Fi B F0 w K Q) (R : RlW B F0 w H) (h : K (.z (.bool i)) w.S) : Q (.bl i) H := k.data R (fun _ _ => .bl i) h
theorem Fi.str {i : Str} (k : Fi B F0 w K Q) (R : RlW B F0 w H) (h : K (.z (.str i)) w.S) : Q (.str i) H := k.data R (fun _ _ => .str i) h
theorem Fi.non (k : Fi B F0 w K Q) (R : RlW B F0 w H) (h : K (.z .none) w.S) : Q .non H := k.data R (fun _ _ => .non) h
/-- a new list -/
theorem Fi.newL {ds : List D} {vs : List V} (k : Fi B F0 w K Q) (R : RlW B F0 w H) (r : RpsW B w ds vs) (h : K (.r w.S.length) (w.S ++ [.lst ds])) {p : Addr} (hp : H p = none) : Q (.ref p) (upd H p (.lst vs)) := by
  obtain ⟨R2, X2⟩ := R.grow (u := .lst vs) (o := .lst ds) hp fun G hG => ⟨vs, hG, r⟩
  have e : muX w.μ w.S.length p w.S.length = p := by unfold muX; rw [if_pos rfl]
  have q : RpD B w.F (muX w.μ w.S.length p) (w.S ++ [Ob.lst ds]).length (.r w.S.length) (.ref (muX w.μ w.S.length p w.S.length)) := .r (by simp)
  rw [e] at q
  exact k _ _ _ _ _ _ R2 X2 q h
/-- a new tuple -/
theorem Fi.newT {ds : List D} {vs : List V} (k : Fi B F0 w K Q) (R : RlW B F0 w H) (r : RpsW B w ds vs) (h : K (mkT ds) w.S) {p : Addr} (hp : H p = none) : Q (.ref p) (upd H p (.tup vs)) := by
  obtain ⟨R2, X2⟩ := R.froze (.tup vs) hp
  exact k _ _ _ _ _ _ R2 X2 (mkT_rp upd_same (r.xt X2)) h
/-- a list is written -/
theorem Fi.setL {n : Nat} {ds : List D} {vs : List V} {d : D} {v : V} (k : Fi B F0 w K Q) (R : RlW B F0 w H) (hn : n < w.S.length) (r : RpsW B w ds vs) (rd : RpW B w d v) (h : K d (w.S.set n (.lst ds))) : Q v (upd H (w.μ n) (.lst vs)) := by
  obtain ⟨R2, X2⟩ := R.write (u := .lst vs) (o := .lst ds) hn fun G hG => ⟨vs, hG, r⟩
  exact k _ _ _ _ _ _ R2 X2 (rd.xt X2) h
end
def lsR (S : Sto) (n : Nat) : Option (List D) := match S[n]? with
  | some (.lst ds) => some ds
  | _ => none
theorem lsR_ok {B F0 H : Hp} {w : Wd} {n : Nat} {ds : List D} (R : RlW B F0 w H) (h : lsR w.S n = some ds) : n < w.S.length ∧ ∃ vs, H (w.μ n) = some (.lst vs) ∧ RpsW B w ds vs := by
  unfold lsR at h
  split at h
  · rename_i e
    cases h
    obtain ⟨vs, hv, rv⟩ := R.ob _ _ e
    exact ⟨Rl.lt e, vs, hv, rv⟩
  · cases h

/-! ### arithmetic and + -/
def pCat : P2 := fun x y S K => pGet (lsD S x) fun xs => pGet (lsD S y) fun ys => pReq (xs.length + ys.length ≤ sizeLine) (K (.r S.length) (S ++ [.lst (xs ++ ys)]))
def pAdd : P2 := fun x y S K => match x, y with
  | .z (.int i), .z (.int j) => K (.z (.int (i + j))) S
  | .z (.str a), .z (.str b) => pReq (a.length + b.length ≤ sizeLine) (K (.z (.str (a ++ b))) S)
  | x, y => match tpD x, tpD y with
    | some xs, some ys => pReq (xs.length + ys.length ≤ sizeLine) (K (mkT (xs ++ ys)) S)
    | _, _ => pCat x y S K
def pSub : P2 := fun x y S K => match x, y with
  | .z (.int i), .z (.int j) => K (.z (.int (i - j))) S
  | _, _ => False
/-- k times a text -/
def strRep (x : Str) (k : Nat) : Str := ⟨(List.replicate k x.cps.toList).flatten.toArray⟩
def pMul : P2 := fun x y S K => match x, y with
  | .z (.int i), .z (.int j) => pReq (CMul i j) (K (.z (.int (i * j))) S)
  | .z (.str a), .z (.int j) => pReq (0 ≤ j ∧ j ≤ 1000 ∧ a.length ≤ 1000) (K (.z (.str (strRep a j.toNat))) S)
  | .r n, .z (.int j) => pGet (lsR S n) fun xs => pReq (-(2 ^ 63) ≤ j ∧ j < 2 ^ 63 ∧ xs.length * j.toNat ≤ sizeLine) (K (.r S.length) (S ++ [.lst (List.replicate j.toNat xs).flatten]))
  | _, _ => False
def pDiv : P2 := fun x y S K => match x, y with
  | .z (.int i), .z (.int j) => pReq (j ≠ 0 ∧ j.natAbs < 1073741824) (K (.z (.int (i.fdiv j))) S)
  | _, _ => False
def pMod : P2 := fun x y S K => match x, y with
  | .z (.int i), .z (.int j) => pReq (j ≠ 0) (K (.z (.int (i.fmod j))) S)
  | _, _ => False
def pPow : P2 := fun x y S K => match x, y with
  | .z (.int i), .z (.int j) => pReq (0 ≤ j ∧ j ≤ 1000000 ∧ i.natAbs < 2 ^ 64) (K (.z (.int (i ^ j.toNat))) S)
  | _, _ => False
def pShl : P2 := fun x y S K => match x, y with
  | .z (.int i), .z (.int j) => pReq (0 ≤ j ∧ j ≤ 1000000 ∧ i.natAbs < 2 ^ 64) (K (.z (.int (i * 2 ^ j.toNat))) S)
  | _, _ => False
def pShr : P2 := fun x y S K => match x, y with
  | .z (.int i), .z (.int j) => pReq (0 ≤ j) (K (.z (.int (i / 2 ^ j.toNat))) S)
  | _, _ => False
def pAnd : P2 := fun x y S K => match x, y with
  | .z (.int i), .z (.int j) => K (.z (.int (Builtin.bitAnd i j))) S
  | _, _ => False
def pOr : P2 := fun x y S K => match x, y with
  | .z (.int i), .z (.int j) => K (.z (.int (Builtin.bitOr i j))) S
  | _, _ => False
theorem rpInt {B : Hp} {w : Wd} {i : Int} {v : V} (r : RpW B w (.z (.int i)) v) : v = .int i := by cases r with | z q => cases q; rfl
theorem rpStr {B : Hp} {w : Wd} {i : Str} {v : V} (r : RpW B w (.z (.str i)) v) : v = .str i := by cases r with | z q => cases q; rfl
theorem rpBl {B : Hp} {w : Wd} {i : Bool} {v : V} (r : RpW B w (.z (.bool i)) v) : v = .bl i := by cases r with | z q => cases q; rfl
theorem strRep_ok (x : Str) : ∀ k : Nat, (List.replicate k x.cps).foldl (· ++ ·) #[] = (strRep x k).cps := by
  have h : ∀ (k : Nat) (acc : Array Nat), (List.replicate k x.cps).foldl (· ++ ·) acc = acc ++ (List.replicate k x.cps.toList).flatten.toArray := by
    intro k
    induction k with
    | zero => intro acc; simp
    | succ k ih => intro acc; rw [List.replicate_succ, List.foldl_cons, ih, List.replicate_succ, List.flatten_cons]; apply Array.ext'; simp
  intro k
  rw [h]; simp [strRep]
section
variable {X : Cx} {B F0 : Hp}
theorem catR {f : Value → Value → Sem Value} (hf : ∀ {pins : List (Addr × Obj)} {s : Shared} {σ : St} {H : Hp} {l b : Addr} {xs zs : List V} {Q : VK}, Inv X pins σ H s → Rd H l (.lst xs) → Rd H b (.lst zs) → xs.length + zs.length ≤ sizeLine → (∀ p, H p = none → Q (.ref p) (upd H p (.lst (xs ++ zs)))) →
    wpAny (model X.prog X.w) X.A (f (.ref l) (.ref b)) (EP X pins σ Q) X.xe s) : OpR X f (r2 B F0 pCat) := by
  intro pins s σ H x y v u Q I rx ry h
  obtain ⟨w, dx, dy, K, R, r1, r2, h, k⟩ := h
  obtain ⟨xs, e1, h⟩ := h.out
  obtain ⟨ys, e2, h⟩ := h.out
  obtain ⟨hz, h⟩ := h.out
  obtain ⟨a, vs, rfl, d1, q1⟩ := lsD_ok R r1 e1
  obtain ⟨b, us, rfl, d2, q2⟩ := lsD_ok R r2 e2
  cases rx; cases ry
  exact hf I d1 d2 (by rw [← q1.length, ← q2.length]; exact hz) fun p hp => k.newL R (q1.append q2) h hp
theorem cat_lists {pins : List (Addr × Obj)} {s : Shared} {σ : St} {H : Hp} {l b : Addr} {xs zs : List V} {Q : VK} (I : Inv X pins σ H s) (h1 : Rd H l (.lst xs)) (h2 : Rd H b (.lst zs)) (hz : xs.length + zs.length ≤ sizeLine)
    (q : ∀ p, H p = none → Q (.ref p) (upd H p (.lst (xs ++ zs)))) : wpAny (model X.prog X.w) X.A (binaryOp .Add (.ref l) (.ref b)) (EP X pins σ Q) X.xe s := by
  obtain ⟨z1, its, n, v1, e1⟩ := h1.ok I.hok
  obtain ⟨z2, jts, m, v2, e2⟩ := h2.ok I.hok
  have l1 := v1.length
  have l2 := v2.length
  refine PySem.P.add_list e1 e2 ?_ ?_
  · have ea : its.toArray ++ jts.toArray = (its ++ jts).toArray := by simp
    rw [ea]
    exact ⟨.ref _, _, I.lnew (t' := s.toks) (v1.append v2) (by simp; omega), rfl, q _ I.fresh⟩
  · simp; omega
theorem oAdd : OpR X (binaryOp .Add) (r2 B F0 pAdd) := by
  intro pins s σ H x y v u Q I rx ry h
  obtain ⟨w, dx, dy, K, R, q1, q2, h, k⟩ := h
  unfold pAdd at h
  split at h
  · rw [rpInt q1] at rx; rw [rpInt q2] at ry
    exact op_add pins s σ H _ _ v u Q I rx ry ⟨_, _, rfl, rfl, k.int R h⟩
  · obtain ⟨hz, h⟩ := h.out
    rw [rpStr q1] at rx; rw [rpStr q2] at ry
    exact op_add_str pins s σ H _ _ v u Q I rx ry ⟨_, _, rfl, rfl, hz, k.str R h⟩
  split at h
  · rename_i xs ys e1 e2
    obtain ⟨hz, h⟩ := h.out
    obtain ⟨a, vs, rfl, ha, fa, ra⟩ := tpD_okF R q1 e1
    obtain ⟨b, us, rfl, hb, fb, rb⟩ := tpD_okF R q2 e2
    refine op_catA pins s σ H _ _ v u Q I rx ry ⟨a, b, vs, us, rfl, rfl, .inl (.inl ha), .inl (.inl hb), by rw [← ra.length, ← rb.length]; exact hz, fun z => ?_, fun _ z => ?_, fun _ _ p hp => k.newT R (ra.append rb) h hp⟩
    · subst z
      cases ra
      exact k _ w.S _ H w.μ w.F R .refl (mkT_rp fb rb) h
    · subst z
      cases rb
      rw [List.append_nil] at h
      exact k _ w.S _ H w.μ w.F R .refl (mkT_rp fa ra) h
  · exact catR (B := B) (F0 := F0) (fun {_ _ _ _ _ _ _ _ _} I a b c d => cat_lists I a b c d) pins s σ H _ _ v u Q I rx ry ⟨w, _, _, K, R, q1, q2, h, k⟩
/-- two ints, by a rule -/
theorem intOp {op : Operator} {g : Int → Int → Int} {C : Int → Int → Prop} {p : P2} (ho : OpR X (binaryOp op) (rI C fun i j => .int (g i j))) (hp : ∀ x y S K, p x y S K → ∃ i j, x = .z (.int i) ∧ y = .z (.int j) ∧ C i j ∧ K (.z (.int (g i j))) S) : OpR X (binaryOp op) (r2 B F0 p) := by
  intro pins s σ H x y v u Q I rx ry h
  obtain ⟨w, dx, dy, K, R, q1, q2, h, k⟩ := h
  obtain ⟨i, j, rfl, rfl, hc, h5⟩ := hp _ _ _ _ h
  rw [rpInt q1] at rx; rw [rpInt q2] at ry
  exact ho pins s σ H _ _ v u Q I rx ry ⟨_, _, rfl, rfl, hc, k.int R h5⟩
theorem intOp0 {op : Operator} {g : Int → Int → Int} {p : P2} (ho : OpR X (binaryOp op) (rI0 fun i j => .int (g i j))) (hp : ∀ x y S K, p x y S K → ∃ i j, x = .z (.int i) ∧ y = .z (.int j) ∧ K (.z (.int (g i j))) S) : OpR X (binaryOp op) (r2 B F0 p) := by
  intro pins s σ H x y v u Q I rx ry h
  obtain ⟨w, dx, dy, K, R, q1, q2, h, k⟩ := h
  obtain ⟨i, j, rfl, rfl, h5⟩ := hp _ _ _ _ h
  rw [rpInt q1] at rx; rw [rpInt q2] at ry
  exact ho pins s σ H _ _ v u Q I rx ry ⟨_, _, rfl, rfl, k.int R h5⟩
theorem oSub : OpR X (binaryOp .Sub) (r2 B F0 pSub) := intOp0 op_sub fun x y S K h => by
  unfold pSub at h; split at h
  · exact ⟨_, _, rfl, rfl, h⟩
  · exact h.elim
theorem RpDs.rep {B : Hp} {w : Wd} {ds : List D} {vs : List V} (h : RpsW B w ds vs) : ∀ k : Nat, RpsW B w (List.replicate k ds).flatten (List.replicate k vs).flatten
  | 0 => .nil
  | k + 1 => by
    rw [List.replicate_succ, List.replicate_succ, List.flatten_cons, List.flatten_cons]
    exact h.append (RpDs.rep h k)
theorem oMul : OpR X (binaryOp .Mult) (r2 B F0 pMul) := by
  intro pins s σ H x y v u Q I rx ry h
  obtain ⟨w, dx, dy, K, R, q1, q2, h, k⟩ := h
  unfold pMul at h
  split at h
  · obtain ⟨hc, h⟩ := h.out
    rw [rpInt q1] at rx; rw [rpInt q2] at ry
    exact op_mul pins s σ H _ _ v u Q I rx ry ⟨_, _, rfl, rfl, hc, k.int R h⟩
  · rename_i a j
    obtain ⟨⟨h0, h1, h2⟩, h⟩ := h.out
    rw [rpStr q1] at rx; rw [rpInt q2] at ry
    obtain ⟨t, rfl⟩ := rx
    obtain ⟨t', rfl⟩ := ry
    have hm : a.length * j.toNat ≤ 1000000 := Nat.le_trans (Nat.mul_le_mul h2 (show j.toNat ≤ 1000 by omega)) (by decide)
    refine PySem.P.mul_str (by rw [decide_eq_false (by omega), decide_eq_false (by omega)]; rfl) (fun hn _ => ?_) (fun _ _ => ?_) ?_
    · have e : (1000 : Int) ≤ (2 ^ 63 - 1) / j := (Int.le_ediv_iff_mul_le (by omega)).mpr (by omega)
      omega
    · unfold Builtin.Str.tooLong
      exact decide_eq_false (by rw [sizeLine_eq]; omega)
    · have fin : ∀ t, EP X pins σ Q (.str (strRep a j.toNat) t) s := fun t => ⟨.str _, H, I, ⟨t, rfl⟩, k.str R h⟩
      have fin' : ∀ t n, EP X pins σ Q (.str (strRep a j.toNat) t) { s with toks := n } := fun t n => ⟨.str _, H, I.tok n, ⟨t, rfl⟩, k.str R h⟩
      by_cases c1 : j < 1
      · rw [if_pos c1]
        have e : strRep a j.toNat = Str.empty := by
          have : j.toNat = 0 := by omega
          rw [this]; rfl
        rw [e] at fin'
        exact ⟨by decide, fin' _ _⟩
      · rw [if_neg c1]
        by_cases c2 : (j == 1 || a.length == 0) = true
        · rw [if_pos c2]
          have e : strRep a j.toNat = a := by
            rcases Bool.or_eq_true_iff.mp c2 with c | c
            · have : j.toNat = 1 := by have := eq_of_beq c; omega
              rw [this]
              simp [strRep]
            · have hl : a.cps.toList = [] := by
                have := eq_of_beq c
                exact List.eq_nil_of_length_eq_zero this
              have ha : a = ⟨#[]⟩ := by
                cases a with | mk cps => simp at hl; rw [hl]
              rw [ha]; simp [strRep]
          rw [e] at fin
          exact fin t
        · rw [if_neg c2, strRep_ok]
          have e : (⟨(strRep a j.toNat).cps⟩ : Str) = strRep a j.toNat := rfl
          rw [e]
          refine ⟨?_, fin' _ _⟩
          show (strRep a j.toNat).length ≤ _
          have : (strRep a j.toNat).length = j.toNat * a.length := by
            show (strRep a j.toNat).cps.size = _
            simp [strRep, Str.length]
          rw [this, Nat.mul_comm, sizeLine_eq]; omega
  · rename_i n j
    obtain ⟨xs, e1, h⟩ := h.out
    obtain ⟨⟨h1, h2, hz⟩, h⟩ := h.out
    rw [rpInt q2] at ry
    obtain ⟨hn, vs, hv, rv⟩ := lsR_ok R e1
    cases q1
    exact op_rep pins s σ H _ _ v u Q I rx ry ⟨w.μ n, _, vs, rfl, rfl, hv, h1, h2, by rw [← rv.length]; exact hz, fun p hp => k.newL R (RpDs.rep rv j.toNat) h hp⟩
  · exact h.elim
theorem oDiv : OpR X (binaryOp .FloorDiv) (r2 B F0 pDiv) := intOp op_fdivN fun x y S K h => by
  unfold pDiv at h; split at h
  · obtain ⟨hc, h⟩ := h.out; exact ⟨_, _, rfl, rfl, hc, h⟩
  · exact h.elim
theorem oMod : OpR X (binaryOp .Mod) (r2 B F0 pMod) := intOp op_modN fun x y S K h => by
  unfold pMod at h; split at h
  · obtain ⟨hc, h⟩ := h.out; exact ⟨_, _, rfl, rfl, hc, h⟩
  · exact h.elim
theorem oPow : OpR X (binaryOp .Pow) (r2 B F0 pPow) := intOp op_pow fun x y S K h => by
  unfold pPow at h; split at h
  · obtain ⟨hc, h⟩ := h.out; exact ⟨_, _, rfl, rfl, hc, h⟩
  · exact h.elim
theorem oShl : OpR X (binaryOp .LShift) (r2 B F0 pShl) := intOp op_shl fun x y S K h => by
  unfold pShl at h; split at h
  · obtain ⟨hc, h⟩ := h.out; exact ⟨_, _, rfl, rfl, hc, h⟩
  · exact h.elim
theorem oShr : OpR X (binaryOp .RShift) (r2 B F0 pShr) := intOp op_shr fun x y S K h => by
  unfold pShr at h; split at h
  · obtain ⟨hc, h⟩ := h.out; exact ⟨_, _, rfl, rfl, hc, h⟩
  · exact h.elim
theorem oAnd : OpR X (binaryOp .BitAnd) (r2 B F0 pAnd) := intOp0 op_and fun x y S K h => by
  unfold pAnd at h; split at h
  · exact ⟨_, _, rfl, rfl, h⟩
  · exact h.elim
theorem oOr : OpR X (binaryOp .BitOr) (r2 B F0 pOr) := intOp0 op_or fun x y S K h => by
  unfold pOr at h; split at h
  · exact ⟨_, _, rfl, rfl, h⟩
  · exact h.elim
end
end PL

set_option Elab.async false
set_option linter.all false
set_option maxRecDepth 100000
/-! PL, part 4: comparisons, subscripts, calls and methods by value -/
namespace PL
open PySem L2

abbrev B2 := D → D → Sto → (Bool → Prop) → Prop
def cB (p : B2) : P2 := fun x y S K => p x y S fun b => K (.z (.bool b)) S
/-- any data: by what is seen -/
structure bEqG (x y : D) (S : Sto) (k : Bool → Prop) : Prop where
  out : ∃ d e, Vw S x d ∧ Vw S y e ∧ SeqAt.shaped d = true ∧ SeqAt.shaped e = true ∧ k (PyData.eqv d e)
def bEq : B2 := fun x y S k => match x, y with
  | .z (.int i), .z (.int j) => k (decide (i = j))
  | .z (.str i), .z (.str j) => k (decide (i = j))
  | .z (.bool i), .z (.bool j) => k (decide (i = j))
  | x, y => bEqG x y S k
def bNe : B2 := fun x y S k => bEq x y S fun b => k (!b)
def bI (g : Int → Int → Bool) : B2 := fun x y _ k => match x, y with
  | .z (.int i), .z (.int j) => k (g i j)
  | _, _ => False
abbrev bLt : B2 := bI fun i j => decide (i < j)
abbrev bLe : B2 := bI fun i j => decide (i ≤ j)
abbrev bGt : B2 := bI fun i j => decide (j < i)
abbrev bGe : B2 := bI fun i j => decide (j ≤ i)
def isN : D → Bool
  | .z .none => true
  | .b .none => true
  | _ => false
def bIs : B2 := fun x y _ k => match x, y with
  | x, .z .none => k (isN x)
  | .z (.bool a), .z (.bool b) => k (decide (a = b))
  | _, _ => False
def bIsNot : B2 := fun x y S k => bIs x y S fun b => k (!b)
/-- a dict's key -/
def keyD : D → Option Key
  | .z (.int i) => some (.inl i)
  | .z (.str s) => some (.inr s)
  | _ => none
def dcD (S : Sto) : D → Option (List (Key × D))
  | .r n => match S[n]? with
    | some (.dic kvs) => some kvs
    | _ => none
  | _ => none
def hasD (kvs : List (Key × D)) (k : Key) : Bool := kvs.any fun p => decide (p.1 = k)
structure bInG (x y : D) (S : Sto) (k : Bool → Prop) : Prop where
  out : (∃ d ds, Vw S x d ∧ Vw S y (.list ds) ∧ SeqAt.shaped d = true ∧ SeqAt.shaped (.list ds) = true ∧ k (ds.any fun z => PyData.eqv z d)) ∨
  (∃ (s : Str) (ss : List Str), x = .z (.str s) ∧ Vw S y (.tuple (ss.map .str)) ∧ k (decide (s ∈ ss)))
def bIn : B2 := fun x y S k => match y with
  | .z (.str s) => match x with
    | .z (.str ⟨⟨[c]⟩⟩) => k (decide (c ∈ s.cps.toList))
    | x => bInG x (.z (.str s)) S k
  | .r n => pGet S[n]? fun o => match o with
    | .dic kvs => pGet (keyD x) fun κ => k (hasD kvs κ)
    | .lst _ => bInG x (.r n) S k
    | .kd _ _ => False
  | y => bInG x y S k
def bNotIn : B2 := fun x y S k => bIn x y S fun b => k (!b)

section
variable {X : Cx} {B F0 : Hp}
theorem cmpR {f : Value → Value → Sem Value} {p : B2}
    (hf : ∀ {pins : List (Addr × Obj)} {s : Shared} {σ : St} {H : Hp} {x y : V} {v u : Value} {w : Wd} {dx dy : D} {k : Bool → Prop} {Q : VK}, Inv X pins σ H s → RelV x v → RelV y u → RlW B F0 w H → RpW B w dx x → RpW B w dy y → p dx dy w.S k → (∀ b, k b → Q (.bl b) H) →
      wpAny (model X.prog X.w) X.A (f v u) (EP X pins σ Q) X.xe s) : OpR X f (r2 B F0 (cB p)) := by
  intro pins s σ H x y v u Q I rx ry h
  obtain ⟨w, dx, dy, K, R, q1, q2, h, k⟩ := h
  exact hf I rx ry R q1 q2 h fun b hb => k.bl R hb
theorem eq_int_dec (i j : Int) : decide (V.int i = V.int j) = decide (i = j) := by rw [dec_int]; exact Bool.beq_eq_decide_eq i j
theorem eq_str_dec (i j : Str) : decide (V.str i = V.str j) = decide (i = j) := by rw [dec_str]; by_cases h : i = j <;> simp [h]
theorem eq_bl_dec (i j : Bool) : decide (V.bl i = V.bl j) = decide (i = j) := by rw [dec_bl]; by_cases h : i = j <;> simp [h]
theorem oEq (hu : X.A.units + 100 < cLine) : OpR X (compareOp .Eq) (r2 B F0 (cB bEq)) := cmpR fun {pins s σ H x y v u w dx dy k Q} I rx ry R q1 q2 h kb => by
  unfold bEq at h
  split at h
  · rw [rpInt q1] at rx; rw [rpInt q2] at ry
    exact op_eq pins s σ H _ _ v u Q I rx ry ⟨rfl, by rw [eq_int_dec]; exact kb _ h⟩
  · rw [rpStr q1] at rx; rw [rpStr q2] at ry
    exact op_eq pins s σ H _ _ v u Q I rx ry ⟨rfl, by rw [eq_str_dec]; exact kb _ h⟩
  · rw [rpBl q1] at rx; rw [rpBl q2] at ry
    exact op_eq pins s σ H _ _ v u Q I rx ry ⟨rfl, by rw [eq_bl_dec]; exact kb _ h⟩
  · have h := h.out
    obtain ⟨d, e, w1, w2, s1, s2, h⟩ := h
    exact op_eqD (by omega) pins s σ H x y v u Q I rx ry ⟨d, e, RpT.dp R.fh _ _ (Vw.rp R _ _ _ w1 q1), RpT.dp R.fh _ _ (Vw.rp R _ _ _ w2 q2), s1, s2, kb _ h⟩
theorem oNe (hu : X.A.units + 100 < cLine) : OpR X (compareOp .NotEq) (r2 B F0 (cB bNe)) := cmpR fun {pins s σ H x y v u w dx dy k Q} I rx ry R q1 q2 h kb => by
  unfold bNe bEq at h
  split at h
  · rw [rpInt q1] at rx; rw [rpInt q2] at ry
    exact op_ne pins s σ H _ _ v u Q I rx ry ⟨rfl, by rw [eq_int_dec]; exact kb _ h⟩
  · rw [rpStr q1] at rx; rw [rpStr q2] at ry
    exact op_ne pins s σ H _ _ v u Q I rx ry ⟨rfl, by rw [eq_str_dec]; exact kb _ h⟩
  · rw [rpBl q1] at rx; rw [rpBl q2] at ry
    exact op_ne pins s σ H _ _ v u Q I rx ry ⟨rfl, by rw [eq_bl_dec]; exact kb _ h⟩
  · have h := h.out
    obtain ⟨d, e, w1, w2, s1, s2, h⟩ := h
    exact op_neD (by omega) pins s σ H x y v u Q I rx ry ⟨d, e, RpT.dp R.fh _ _ (Vw.rp R _ _ _ w1 q1), RpT.dp R.fh _ _ (Vw.rp R _ _ _ w2 q2), s1, s2, kb _ h⟩
theorem cmpI {op : CmpOp} {g : Int → Int → Bool} (ho : OpR X (compareOp op) (rI0 fun i j => .bl (g i j))) : OpR X (compareOp op) (r2 B F0 (cB (bI g))) := cmpR fun {pins s σ H x y v u w dx dy k Q} I rx ry R q1 q2 h kb => by
  unfold bI at h
  split at h
  · rw [rpInt q1] at rx; rw [rpInt q2] at ry
    exact ho pins s σ H _ _ v u Q I rx ry ⟨_, _, rfl, rfl, kb _ h⟩
  · exact h.elim
theorem oLt : OpR X (compareOp .Lt) (r2 B F0 (cB bLt)) := cmpI op_lt
theorem oLe : OpR X (compareOp .LtE) (r2 B F0 (cB bLe)) := cmpI op_le
theorem oGt : OpR X (compareOp .Gt) (r2 B F0 (cB bGt)) := cmpI op_gt
theorem oGe : OpR X (compareOp .GtE) (r2 B F0 (cB bGe)) := cmpI op_ge
theorem isN_ok {w : Wd} {d : D} {v : V} (r : RpW B w d v) : decide (v = .non) = isN d := by
  cases d with
  | z d => cases r with | z q => cases q <;> rfl
  | b d => cases r with | b q => cases q <;> rfl
  | r n => cases r; rfl
  | t ds => cases r; rfl
  | o a => cases r; rfl
  | y T => cases r; rfl
theorem oIs : OpR X (compareOp .Is) (r2 B F0 (cB bIs)) := cmpR fun {pins s σ H x y v u w dx dy k Q} I rx ry R q1 q2 h kb => by
  unfold bIs at h
  split at h
  · have e : y = .non := by cases q2 with | z q => cases q; rfl
    exact op_isN pins s σ H x y v u Q I rx ry ⟨e, by rw [isN_ok q1]; exact kb _ h⟩
  · exact op_is_bl pins s σ H x y v u Q I rx ry ⟨_, _, rpBl q1, rpBl q2, kb _ h⟩
  · exact h.elim
theorem oIsNot : OpR X (compareOp .IsNot) (r2 B F0 (cB bIsNot)) := cmpR fun {pins s σ H x y v u w dx dy k Q} I rx ry R q1 q2 h kb => by
  unfold bIsNot bIs at h
  split at h
  · have e : y = .non := by cases q2 with | z q => cases q; rfl
    exact op_notN pins s σ H x y v u Q I rx ry ⟨e, by rw [isN_ok q1]; exact kb _ h⟩
  · exact op_isnot_bl pins s σ H x y v u Q I rx ry ⟨_, _, rpBl q1, rpBl q2, kb _ h⟩
  · exact h.elim
theorem keyD_ok {w : Wd} {d : D} {v : V} {κ : Key} (r : RpW B w d v) (h : keyD d = some κ) : v = kV κ := by
  unfold keyD at h
  split at h
  · cases h; exact rpInt r
  · cases h; exact rpStr r
  · cases h
end

/-! ### dicts -/
def getD' (kvs : List (Key × D)) (k : Key) : Option D := (kvs.find? fun p => decide (p.1 = k)).map (·.2)
def putD (kvs : List (Key × D)) (k : Key) (v : D) : List (Key × D) := if hasD kvs k = true then kvs.map (fun p => if p.1 = k then (p.1, v) else p) else kvs ++ [(k, v)]
def KvR (B F : Hp) (μ : Nat → Addr) (n : Nat) : List (Key × D) → List (Key × V) → Prop := Paired fun (p : Key × D) (q : Key × V) => p.1 = q.1 ∧ RpD B F μ n p.2 q.2
section
variable {B F0 H : Hp} {w : Wd}
abbrev KvW (B : Hp) (w : Wd) (kvs : List (Key × D)) (ws : List (Key × V)) : Prop := KvR B w.F w.μ w.S.length kvs ws
theorem KvR.get {kvs : List (Key × D)} {ws : List (Key × V)} (h : KvW B w kvs ws) (k : Key) : (getD' kvs k = none ∧ valV ws k = none) ∨ ∃ d v, getD' kvs k = some d ∧ valV ws k = some v ∧ RpW B w d v := by
  induction h with
  | nil => exact .inl ⟨rfl, rfl⟩
  | @cons p q ps qs r t ih =>
    by_cases e : p.1 = k
    · refine .inr ⟨p.2, q.2, ?_, ?_, r.2⟩
      · unfold getD'; rw [List.find?_cons_of_pos (by simp [e])]; rfl
      · exact valV_pos (r.1 ▸ e)
    · have e' : ¬ q.1 = k := r.1 ▸ e
      have h1 : getD' (p :: ps) k = getD' ps k := by unfold getD'; rw [List.find?_cons_of_neg (by simp [e])]
      rw [h1, valV_neg e']
      exact ih
theorem hasD_get {kvs : List (Key × D)} {k : Key} : hasD kvs k = (getD' kvs k).isSome := by
  induction kvs with
  | nil => rfl
  | cons p ps ih =>
    by_cases e : p.1 = k
    · simp [hasD, getD', List.find?_cons, e]
    · unfold hasD getD' at *
      rw [List.any_cons, List.find?_cons_of_neg (by simp [e]), ih]
      simp [e]
theorem KvR.has {kvs : List (Key × D)} {ws : List (Key × V)} (h : KvW B w kvs ws) (k : Key) : (ws.any fun kv => decide (kv.1 = k)) = hasD kvs k := by
  induction h with
  | nil => rfl
  | @cons p q ps qs r t ih => unfold hasD at *; rw [List.any_cons, List.any_cons, ih, r.1]
theorem KvR.put {kvs : List (Key × D)} {ws : List (Key × V)} {d : D} {v : V} (h : KvW B w kvs ws) (k : Key) (rd : RpW B w d v) : KvW B w (putD kvs k d) (putK ws k v) := by
  have hh := h.has k
  unfold putD putK
  by_cases c : hasD kvs k = true
  · rw [if_pos c, if_pos (by rw [hh]; exact c)]
    clear hh c
    induction h with
    | nil => exact .nil
    | @cons p q ps qs r t ih =>
      refine .cons ?_ ih
      show (if p.1 = k then (p.1, d) else p).1 = (if q.1 = k then (q.1, v) else q).1 ∧ RpD B w.F w.μ w.S.length (if p.1 = k then (p.1, d) else p).2 (if q.1 = k then (q.1, v) else q).2
      rw [← r.1]
      by_cases e : p.1 = k
      · rw [if_pos e, if_pos e]; exact ⟨rfl, rd⟩
      · rw [if_neg e, if_neg e]; exact r
  · rw [if_neg c, if_neg (by rw [hh]; exact c)]
    exact Paired.snoc h ⟨rfl, rd⟩
def dcR (S : Sto) (n : Nat) : Option (List (Key × D)) := match S[n]? with
  | some (.dic kvs) => some kvs
  | _ => none
theorem dcR_ok {n : Nat} {kvs : List (Key × D)} (R : RlW B F0 w H) (h : dcR w.S n = some kvs) : n < w.S.length ∧ ∃ ws, H (w.μ n) = some (.dK ws) ∧ KvW B w kvs ws := by
  unfold dcR at h
  split at h
  · rename_i e
    cases h
    obtain ⟨ws, hv, rv⟩ := R.ob _ _ e
    exact ⟨Rl.lt e, ws, hv, rv⟩
  · cases h
theorem Fi.setK {K : K1} {Q : VK} {n : Nat} {ds : List (Key × D)} {vs : List (Key × V)} {d : D} {v : V} (k : Fi B F0 w K Q) (R : RlW B F0 w H) (hn : n < w.S.length) (r : KvW B w ds vs) (rd : RpW B w d v) (h : K d (w.S.set n (.dic ds))) : Q v (upd H (w.μ n) (.dK vs)) := by
  obtain ⟨R2, X2⟩ := R.write (u := .dK vs) (o := .dic ds) hn fun G hG => ⟨vs, hG, r⟩
  exact k _ _ _ _ _ _ R2 X2 (rd.xt X2) h
end

section
variable {X : Cx} {B F0 : Hp}
theorem inV_strs (z : Str) : ∀ zs : List Str, inV (.str z) (zs.map V.str) = decide (z ∈ zs)
  | [] => rfl
  | c :: cs => by
    have h : inV (.str z) ((c :: cs).map V.str) = (eqV (V.str c) (V.str z) || inV (.str z) (cs.map V.str)) := rfl
    have e : eqV (V.str c) (V.str z) = decide (c = z) := by
      show (c == z) = decide (c = z)
      by_cases hc : c = z <;> simp [hc]
    rw [h, e, inV_strs z cs]
    by_cases hc : c = z
    · simp [hc]
    · have hz : ¬ z = c := fun e => hc e.symm
      simp [hc, hz]
theorem inG {neg : Bool} (hu : X.A.units + 100 < cLine) {pins : List (Addr × Obj)} {s : Shared} {σ : St} {H : Hp} {x y : V} {v u : Value} {w : Wd} {dx dy : D} {k : Bool → Prop} {Q : VK} (I : Inv X pins σ H s) (rx : RelV x v) (ry : RelV y u) (R : RlW B F0 w H) (q1 : RpW B w dx x) (q2 : RpW B w dy y) (h : bInG dx dy w.S k) (kb : ∀ b, k b → Q (.bl (if neg then !b else b)) H) :
    wpAny (model X.prog X.w) X.A (compareOp (if neg then .NotIn else .In) v u) (EP X pins σ Q) X.xe s := by
  have h := h.out
  rcases h with ⟨d, ds, w1, w2, s1, s2, h⟩ | ⟨z, zs, rfl, w2, h⟩
  · have a := RpT.dp (K := X.K) R.fh _ _ (Vw.rp R _ _ _ w1 q1)
    have b := RpT.dp (K := X.K) R.fh _ _ (Vw.rp R _ _ _ w2 q2)
    cases neg with
    | true => exact op_notInD (by omega) pins s σ H x y v u Q I rx ry ⟨d, ds, a, b, s1, s2, kb _ h⟩
    | false => exact op_inD (by omega) pins s σ H x y v u Q I rx ry ⟨d, ds, a, b, s1, s2, kb _ h⟩
  · cases rpStr q1
    have a := Vw.rp R _ _ _ w2 q2
    cases a with
    | tup h1 h2 =>
      have hv : ∀ (ss : List Str) (vs : List V), RpTs (LB H w.F) (TF w.F) (ss.map .str) vs → vs = ss.map V.str := fun ss => by
        induction ss with
        | nil => intro vs q; cases q; rfl
        | cons c cs ih => intro vs q; cases q with | cons q1 q2 => cases q1; rw [ih _ q2]; rfl
      have e := hv zs _ h2
      subst e
      have hin := inV_strs z zs
      have hq : (TF w.F) _ (zs.map V.str) := h1
      have hfl : (zs.map V.str).all flatV = true := by simp [flatV]
      cases neg with
      | true => exact op_notIn_seq pins s σ H _ _ v u Q I rx ry ⟨_, _, rfl, .inr (.inl (.inl (R.fh _ _ hq))), rfl, hfl, by rw [hin]; exact kb _ h⟩
      | false => exact op_in_seq pins s σ H _ _ v u Q I rx ry ⟨_, _, rfl, .inr (.inl (.inl (R.fh _ _ hq))), rfl, hfl, by rw [hin]; exact kb _ h⟩
theorem inR {neg : Bool} (hu : X.A.units + 100 < cLine) {pins : List (Addr × Obj)} {s : Shared} {σ : St} {H : Hp} {x y : V} {v u : Value} {w : Wd} {dx dy : D} {k : Bool → Prop} {Q : VK} (I : Inv X pins σ H s) (rx : RelV x v) (ry : RelV y u) (R : RlW B F0 w H) (q1 : RpW B w dx x) (q2 : RpW B w dy y) (h : bIn dx dy w.S k) (kb : ∀ b, k b → Q (.bl (if neg then !b else b)) H) :
    wpAny (model X.prog X.w) X.A (compareOp (if neg then .NotIn else .In) v u) (EP X pins σ Q) X.xe s := by
  unfold bIn at h
  split at h
  · split at h
    · rw [rpStr q1] at rx; rw [rpStr q2] at ry
      cases neg with
      | true => exact op_notIn_sign pins s σ H _ _ v u Q I rx ry ⟨_, _, rfl, rfl, kb _ h⟩
      | false => exact op_in_sign pins s σ H _ _ v u Q I rx ry ⟨_, _, rfl, rfl, kb _ h⟩
    · exact inG hu I rx ry R q1 q2 h kb
  · rename_i n
    obtain ⟨o, e, h⟩ := h.out
    cases o with
    | kd _ _ => exact h.elim
    | dic kvs =>
      dsimp only at h
      obtain ⟨κ, hκ, h⟩ := h.out
      obtain ⟨hn, ws, hv, rv⟩ := dcR_ok (n := n) R (show dcR w.S n = some kvs by unfold dcR; rw [e])
      have ey := keyD_ok q1 hκ
      subst ey
      cases q2 with
      | r hi =>
        cases ry
        have g : DGet H (w.μ n) (kV κ) (valV ws κ) := DGet.k hv
        have eb : (valV ws κ).isSome = hasD kvs κ := by
          rw [hasD_get]
          rcases rv.get κ with ⟨a, b⟩ | ⟨d, v, a, b, _⟩ <;> rw [a, b] <;> rfl
        cases neg with
        | true => exact d_notIn (by omega) I g rx fun s3 I3 => ⟨.bl _, H, I3, rfl, by rw [eb]; exact kb _ h⟩
        | false => exact d_in (by omega) I g rx fun s3 I3 => ⟨.bl _, H, I3, rfl, by rw [eb]; exact kb _ h⟩
    | lst _ => exact inG hu I rx ry R q1 q2 h kb
  · exact inG hu I rx ry R q1 q2 h kb
theorem oIn (hu : X.A.units + 100 < cLine) : OpR X (compareOp .In) (r2 B F0 (cB bIn)) := cmpR fun I rx ry R q1 q2 h kb => inR (neg := false) hu I rx ry R q1 q2 h kb
theorem oNotIn (hu : X.A.units + 100 < cLine) : OpR X (compareOp .NotIn) (r2 B F0 (cB bNotIn)) := cmpR fun {_ _ _ _ _ _ _ _ _ _ _ k _} I rx ry R q1 q2 h kb => inR (neg := true) (k := fun b => k (!b)) hu I rx ry R q1 q2 h fun b hb => kb _ hb

/-! ### subscripts -/
def pIx : P2 := fun x y S K => match x, y with
  | .z (.str s), .z (.int i) => pReq (s.length ≤ sizeLine) (pGet (atD s.cps.toList i) fun c => K (.z (.str ⟨⟨[c]⟩⟩)) S)
  | .r n, y => pGet S[n]? fun o => match o with
    | .dic kvs => pGet (keyD y) fun κ => pGet (getD' kvs κ) fun d => K d S
    | .lst ds => match y with
      | .z (.int i) => pGet (atD ds i) fun d => K d S
      | _ => False
    | .kd _ _ => False
  | x, .z (.int i) => pGet (ixD S x i) fun d => K d S
  | _, _ => False
theorem ixD_r {S : Sto} {n : Nat} {ds : List D} {i : Int} {d : D} (e : S[n]? = some (.lst ds)) (h : atD ds i = some d) : ixD S (.r n) i = some d := by
  show (match S[n]? with | some (.lst ds) => atD ds i | _ => none) = some d
  rw [e]; exact h
theorem ixSeq {value slice : Expr} {pins : List (Addr × Obj)} {s : Shared} {σ : St} {H : Hp} {v u : Value} {a : Addr} {vs : List V} {i : Int} {z : V} {Q : VK} (I : Inv X pins σ H s) (rx : RelV (.ref a) v) (ry : RelV (.int i) u) (hs : SqL X.K H a vs ∨ SqT X.K H a vs) (ha : atI vs i = some z) (q : Q z H)
    (e : subscripted slice false v u = operate [v, u] (getItem v u)) : wpAny (model X.prog X.w) X.A (PyProof.Rows.subscriptTail value slice v u) (EP X pins σ Q) X.xe s := by
  rcases hs with hs | hs
  · exact ix_list value slice pins s σ H _ _ v u Q I rx ry ⟨_, _, _, _, rfl, rfl, hs, ha, q⟩ e
  · exact ix_tup value slice pins s σ H _ _ v u Q I rx ry ⟨_, _, _, _, rfl, rfl, hs, ha, q⟩ e
theorem oIx (hu : X.A.units + 100 < cLine) : IxR X (r2 B F0 pIx) := by
  intro value slice pins s σ H x y v u Q I rx ry h es
  obtain ⟨w, dx, dy, K, R, q1, q2, h, k⟩ := h
  unfold pIx at h
  split at h
  · obtain ⟨hz, h⟩ := h.out
    obtain ⟨c, hc, h⟩ := h.out
    rw [rpStr q1] at rx; rw [rpInt q2] at ry
    exact ix_str value slice pins s σ H _ _ v u Q I rx ry ⟨_, _, _, rfl, rfl, hz, atD_atI hc, k.str R h⟩ es
  · rename_i n
    obtain ⟨o, e, h⟩ := h.out
    cases o with
    | kd _ _ => exact h.elim
    | dic kvs =>
      dsimp only at h
      obtain ⟨κ, hκ, h⟩ := h.out
      obtain ⟨d, hd, h⟩ := h.out
      obtain ⟨hn, ws, hv, rv⟩ := dcR_ok (n := n) R (show dcR w.S n = some kvs by unfold dcR; rw [e])
      have ey := keyD_ok q2 hκ
      subst ey
      cases q1 with
      | r hi =>
        cases rx
        rcases rv.get κ with ⟨a, b⟩ | ⟨d', z, a, b, rd⟩
        · rw [hd] at a; cases a
        · rw [hd] at a; cases a
          have g : DGet H (w.μ n) (kV κ) (some z) := by rw [← b]; exact DGet.k hv
          unfold PyProof.Rows.subscriptTail
          have hT := dict_typeIs I g
          refine wpAny_bind ?_
          rw [getitemInPython_of_ne hT.not_modules]
          refine wpAny_bind (wpAny_specialOf hT PySem.F.slot_dict_getitem.lookup ?_)
          have fin : wpAny (model X.prog X.w) X.A (subscripted slice false (.ref (w.μ n)) u) (fun r s₃ => wpAny (model X.prog X.w) X.A (letTemporaryGo value (.ref (w.μ n)) r >>= fun _ => pure r) (EP X pins σ Q) X.xe s₃) X.xe s := by
            rw [es]
            exact wpAny_operating (d_getItem (by omega) I g ry fun w' s3 I3 rw' => wpAny_bind (wpAny_letTemporaryGo (wpAny_pure ⟨z, H, I3, rw', k d w.S z H w.μ w.F R .refl rd h⟩)))
          first
            | exact wpAny_pure (wpAny_bind fin)
            | exact wpAny_bind fin
            | exact fin
    | lst ds =>
      dsimp only at h
      split at h
      · obtain ⟨d, hd, h⟩ := h.out
        rw [rpInt q2] at ry
        obtain ⟨a, vs, z, rfl, hs, ha, rd⟩ := ixD_ok (K := X.K) R q1 (ixD_r e hd)
        exact ixSeq I rx ry hs ha (k d w.S z H w.μ w.F R .refl rd h) es
      · exact h.elim
  · obtain ⟨d, hd, h⟩ := h.out
    rw [rpInt q2] at ry
    obtain ⟨a, vs, z, rfl, hs, ha, rd⟩ := ixD_ok (K := X.K) R q1 hd
    exact ixSeq I rx ry hs ha (k d w.S z H w.μ w.F R .refl rd h) es
  · exact h.elim
end

/-! ### slices -/
def cutL {α : Type} (xs : List α) (lo hi : Option Int) : List α := (xs.drop (HT.sIx xs.length 0 lo)).take (HT.sIx xs.length xs.length hi - HT.sIx xs.length 0 lo)
def pSl : D → Option Int → Option Int → Sto → K1 → Prop := fun x lo hi S K => match x with
  | .z (.str s) => pReq (s.length ≤ sizeLine) (K (.z (.str (cutS s lo hi))) S)
  | x => match tpD x with
    | some ds => K (mkT (cutL ds lo hi)) S
    | none => pGet (lsD S x) fun ds => K (.r S.length) (S ++ [.lst (cutL ds lo hi)])
section
variable {X : Cx} {B F0 : Hp}
theorem RpDs.cut {B : Hp} {w : Wd} {ds : List D} {vs : List V} (h : RpsW B w ds vs) (lo hi : Option Int) : RpsW B w (cutL ds lo hi) (cutV vs lo hi) := by
  unfold cutL cutV
  rw [h.length]
  exact (RpDs.drop _ h).take _
theorem oSl : SlR X (rSl B F0 pSl) := by
  intro pins s σ H x v vl vu lo hi sl Q I rx hs pl pu h
  obtain ⟨w, d, K, R, r, h, k⟩ := h
  unfold pSl at h
  split at h
  · obtain ⟨hz, h⟩ := h.out
    exact sl_str pins s σ H _ v vl vu lo hi sl Q I rx hs pl pu ⟨_, rpStr r, hz, k.str R h⟩
  split at h
  · rename_i ds e
    obtain ⟨a, vs, rfl, ha, fa, ra⟩ := tpD_okF R r e
    refine sl_tupA pins s σ H _ v vl vu lo hi sl Q I rx hs pl pu ⟨a, vs, rfl, .inl (.inl ha), fun z => ?_, fun _ p hp => k.newT R (ra.cut lo hi) h hp⟩
    have e2 : cutL ds lo hi = ds := by
      unfold cutL
      rw [ra.length, z.1, z.2, List.drop_zero, Nat.sub_zero, ← ra.length, List.take_length]
    rw [e2] at h
    exact k _ w.S _ H w.μ w.F R .refl (mkT_rp fa ra) h
  obtain ⟨ds, e, h⟩ := h.out
  obtain ⟨a, vs, rfl, d1, q1⟩ := lsD_ok R r e
  exact sl_list pins s σ H _ v vl vu lo hi sl Q I rx hs pl pu ⟨a, vs, rfl, .inl d1, fun p hp => k.newL R (q1.cut lo hi) h hp⟩
end
end PL

set_option Elab.async false
set_option linter.all false
set_option maxRecDepth 100000
/-! PL, part 5: built-in calls and methods by value -/
namespace PL
open PySem L2

/-! ### isinstance against a built-in type -/
def tyD (S : Sto) : D → Option Ty
  | .z .none => some .none
  | .z (.bool _) => some .bool
  | .z (.int _) => some .int
  | .z (.str _) => some .str
  | .z (.list _) => some .list
  | .z (.tuple _) => some .tuple
  | .b (.list _) => some .list
  | .b (.tuple _) => some .tuple
  | .t _ => some .tuple
  | .r n => match S[n]? with
    | some (.lst _) => some .list
    | some (.dic _) => some .dict
    | _ => none
  | _ => none
/-- a value of the type a is one of b -/
def isT : Ty → Ty → Bool
  | .int, .int => true | .bool, .bool => true | .bool, .int => true | .str, .str => true | .list, .list => true | .tuple, .tuple => true | .dict, .dict => true | _, _ => false
theorem isT_kit (a b : Ty) (hb : b ≠ .none) : kitB a.s b.s = some (isT a b) := by
  cases a <;> cases b <;> first | exact absurd rfl hb | decide +kernel
def pIsi : PL := fun xs S K => match xs with
  | [x, .y T] => match T with
    | .none => False
    | T => pGet (tyD S x) fun t => K (.z (.bool (isT t T))) S
  | _ => False
theorem tyD_ok {K : PySem.W.Frag} {B F0 H : Hp} {w : Wd} {x : D} {v : V} {t : Ty} (R : RlW B F0 w H) (r : RpW B w x v) (h : tyD w.S x = some t) : TyX K H v (.type t.s) := by
  have rd : ∀ {a : Addr} {vs : List V}, Rd H a (.lst vs) → TyX K H (.ref a) (.type "list") := fun q => q.elim (fun q => .base (.lst q)) fun ⟨_, q⟩ => .base (.frz q)
  unfold tyD at h
  split at h
  · cases h; cases r with | z q => cases q; exact .base .non
  · cases h; cases r with | z q => cases q; exact .base (.bl _)
  · cases h; cases r with | z q => cases q; exact .base (.int _)
  · cases h; cases r with | z q => cases q; exact .base (.str _)
  · cases h; cases r with | z q => cases q with | lst a b => exact .base (.lst (R.fh _ _ a))
  · cases h; cases r with | z q => cases q with | tup a b => exact .base (.tup (R.fh _ _ a))
  · cases h; cases r with | b q => cases q with | lst a b => exact rd (a.elim (fun z => R.fh.rd z) fun z => R.bh.rd z)
  · cases h; cases r with | b q => cases q with | tup a b => exact .base (.tup (R.fh _ _ a))
  · cases h; cases r with | t a b => exact .base (.tup (R.fh _ _ a))
  · cases r with
    | r hi =>
      split at h
      · rename_i e; cases h; obtain ⟨vs, hv, _⟩ := R.ob _ _ e; exact .base (.lst hv)
      · rename_i e; cases h; obtain ⟨vs, hv, _⟩ := R.ob _ _ e; exact .base (.dK hv)
      · cases h
  · cases h
section
variable {X : Cx} {B F0 : Hp}
theorem callR {f : Value} {p : PL} (hf : ∀ {pins : List (Addr × Obj)} {s : Shared} {σ : St} {H : Hp} {vs : List V} {us : List Value} {w : Wd} {ds : List D} {K : K1} {Q : VK}, Inv X pins σ H s → Vals vs us → RlW B F0 w H → RpsW B w ds vs → p ds w.S K → Fi B F0 w K Q →
    wpAny (model X.prog X.w) X.A (call f us) (EP X pins σ Q) X.xe s) : CallR X f (rL B F0 p) := by
  intro pins s σ H vs us Q I r h
  obtain ⟨w, ds, K, R, q, h, k⟩ := h
  exact hf I r R q h k
theorem methR {id : String} {p : D → PL} (hf : ∀ {pins : List (Addr × Obj)} {s : Shared} {σ : St} {H : Hp} {x : V} {v : Value} {vs : List V} {us : List Value} {w : Wd} {d : D} {ds : List D} {K : K1} {Q : VK}, Inv X pins σ H s → RelV x v → Vals vs us → RlW B F0 w H → RpW B w d x → RpsW B w ds vs → p d ds w.S K → Fi B F0 w K Q →
    wpAny (model X.prog X.w) X.A (call (.builtin id) (v :: us)) (EP X pins σ Q) X.xe s) : MtR X id (rM B F0 p) := by
  intro pins s σ H x vs v us Q I rx r h
  obtain ⟨w, d, ds, K, R, q, qs, h, k⟩ := h
  exact hf I rx r R q qs h k
theorem oIsi : CallR X (.builtin "isinstance") (rL B F0 pIsi) := callR fun {pins s σ H vs us w ds K Q} I r R q h k => by
  unfold pIsi at h
  split at h
  · rename_i x T
    cases q with
    | cons q1 q2 =>
      cases q2 with
      | cons q2 q3 =>
        cases q3
        cases q2
        have key : T ≠ .none → (pGet (tyD w.S x) fun t => K (.z (.bool (isT t T))) w.S) → wpAny (model X.prog X.w) X.A (call (.builtin "isinstance") us) (EP X pins σ Q) X.xe s := fun hT h => by
          obtain ⟨t, e, h⟩ := h.out
          exact call_isi pins s σ H _ us Q I r ⟨_, _, _, _, _, rfl, .ty _, tyD_ok (K := X.K) R q1 e, kit_ty (isT_kit t T hT), k.bl R h⟩
        cases T with
        | none => exact False.elim h
        | _ => exact key (by intro z; cases z) h
  · exact h.elim

/-! ### len, list, tuple, int, str, min, max, sum, any, all -/
def pLen : PL := fun xs S K => match xs with
  | [.z (.str s)] => pReq (s.length ≤ sizeLine) (K (.z (.int s.length)) S)
  | [x] => pGet (lenD S x) fun n => K (.z (.int n)) S
  | _ => False
def pList : PL := fun xs S K => match xs with
  | [x] => pGet (sqD S x) fun ds => K (.r S.length) (S ++ [.lst ds])
  | _ => False
def pTuple : PL := fun xs S K => match xs with
  | [x] => pGet (lsD S x) fun ds => K (mkT ds) S
  | _ => False
def pInt : PL := fun xs S K => match xs with
  | [.z (.int i)] => K (.z (.int i)) S
  | [.z (.bool b)] => K (.z (.int (if b then 1 else 0))) S
  | _ => False
def pMax2 : PL := fun xs S K => match xs with
  | [.z (.int i), .z (.int j)] => K (.z (.int (if j > i then j else i))) S
  | _ => False
def pMin2 : PL := fun xs S K => match xs with
  | [.z (.int i), .z (.int j)] => K (.z (.int (if j < i then j else i))) S
  | _ => False
/-- a list of truths, of ints -/
def pAll : PL := fun xs S K => match xs with
  | [x] => pGet (lsD S x) fun ds => ∃ bs : List Bool, ds = bs.map (fun b => .z (.bool b)) ∧ K (.z (.bool (bs.all id))) S
  | _ => False
def pAny : PL := fun xs S K => match xs with
  | [x] => pGet (lsD S x) fun ds => ∃ bs : List Bool, ds = bs.map (fun b => .z (.bool b)) ∧ K (.z (.bool (bs.any id))) S
  | _ => False
def pSum : PL := fun xs S K => match xs with
  | [x] => pGet (lsD S x) fun ds => ∃ ns : List Int, ds = ns.map (fun n => .z (.int n)) ∧ K (.z (.int ns.sum)) S
  | _ => False
theorem RpDs.one {B : Hp} {w : Wd} {d : D} {vs : List V} (h : RpsW B w [d] vs) : ∃ v, vs = [v] ∧ RpW B w d v := by
  cases h with | cons a b => cases b; exact ⟨_, rfl, a⟩
theorem RpDs.two {B : Hp} {w : Wd} {d e : D} {vs : List V} (h : RpsW B w [d, e] vs) : ∃ v u, vs = [v, u] ∧ RpW B w d v ∧ RpW B w e u := by
  cases h with | cons a b => cases b with | cons b c => cases c; exact ⟨_, _, rfl, a, b⟩
theorem RpDs.bls {B : Hp} {w : Wd} : ∀ {bs : List Bool} {vs : List V}, RpsW B w (bs.map fun b => .z (.bool b)) vs → vs = bs.map V.bl
  | [], _, h => by cases h; rfl
  | b :: bs, _, h => by cases h with | cons a t => rw [rpBl a, RpDs.bls t]; rfl
theorem RpDs.ints {B : Hp} {w : Wd} : ∀ {bs : List Int} {vs : List V}, RpsW B w (bs.map fun b => .z (.int b)) vs → vs = bs.map V.int
  | [], _, h => by cases h; rfl
  | b :: bs, _, h => by cases h with | cons a t => rw [rpInt a, RpDs.ints t]; rfl
theorem RpDs.strs {B : Hp} {w : Wd} : ∀ {bs : List Str} {vs : List V}, RpsW B w (bs.map fun b => .z (.str b)) vs → vs = bs.map V.str
  | [], _, h => by cases h; rfl
  | b :: bs, _, h => by cases h with | cons a t => rw [rpStr a, RpDs.strs t]; rfl
theorem lenD_ok {K : PySem.W.Frag} {H : Hp} {w : Wd} {x : D} {v : V} {n : Nat} (R : RlW B F0 w H) (r : RpW B w x v) (h : lenD w.S x = some n) : (∃ a vs, v = .ref a ∧ vs.length = n ∧ (SqL K H a vs ∨ SqT K H a vs)) ∨ ∃ a kvs, v = .ref a ∧ H a = some (.dK kvs) ∧ kvs.length = n := by
  unfold lenD at h
  split at h
  · cases h; cases r with | z q => cases q with | lst a b => exact .inl ⟨_, _, rfl, b.length.symm, .inl (.inl (.inl (R.fh _ _ a)))⟩
  · cases h; cases r with | b q => cases q with | lst a b => exact .inl ⟨_, _, rfl, b.length.symm, .inl (.inl (a.elim (fun z => R.fh.rd z) fun z => R.bh.rd z))⟩
  · cases h; cases r with | z q => cases q with | tup a b => exact .inl ⟨_, _, rfl, b.length.symm, .inr (.inl (.inl (R.fh _ _ a)))⟩
  · cases h; cases r with | b q => cases q with | tup a b => exact .inl ⟨_, _, rfl, b.length.symm, .inr (.inl (.inl (R.fh _ _ a)))⟩
  · cases h; cases r with | t a b => exact .inl ⟨_, _, rfl, b.length.symm, .inr (.inl (.inl (R.fh _ _ a)))⟩
  · cases r with
    | r hi =>
      split at h
      · rename_i e; cases h; obtain ⟨vs, hv, rv⟩ := R.ob _ _ e; exact .inl ⟨_, _, rfl, rv.length.symm, .inl (.inl (.inl hv))⟩
      · rename_i e; cases h; obtain ⟨vs, hv, rv⟩ := R.ob _ _ e; exact .inr ⟨_, _, rfl, hv, (Paired.length rv).symm⟩
      · cases h
  · cases h
theorem oLen : CallR X (.builtin "len") (rL B F0 pLen) := callR fun {pins s σ H vs us w ds K Q} I r R q h k => by
  unfold pLen at h
  split at h
  · obtain ⟨hz, h⟩ := h.out
    obtain ⟨v, rfl, q9⟩ := q.one
    rw [rpStr q9] at r
    exact call_len_str pins s σ H _ us Q I r ⟨_, rfl, hz, k.int R h⟩
  · obtain ⟨n, e, h⟩ := h.out
    obtain ⟨v, rfl, q9⟩ := q.one
    rcases lenD_ok (K := X.K) R q9 e with ⟨a, vs, rfl, rfl, hs⟩ | ⟨a, kvs, rfl, hd, rfl⟩
    · exact call_len_seq pins s σ H _ us Q I r ⟨a, vs, rfl, hs, k.int R h⟩
    · exact call_lenD pins s σ H _ us Q I r ⟨a, kvs, rfl, hd, k.int R h⟩
  · exact h.elim
theorem oList : CallR X (.type "list") (rL B F0 pList) := callR fun {pins s σ H vs us w ds K Q} I r R q h k => by
  unfold pList at h
  split at h
  · obtain ⟨ds, e, h⟩ := h.out
    obtain ⟨v, rfl, q9⟩ := q.one
    obtain ⟨a, vs, rfl, hs, rv⟩ := sqD_ok (K := X.K) R q9 e
    exact call_list_of pins s σ H _ us Q I r ⟨a, vs, rfl, hs, fun p hp => k.newL R rv h hp⟩
  · exact h.elim
theorem oTuple : CallR X (.type "tuple") (rL B F0 pTuple) := callR fun {pins s σ H vs us w ds K Q} I r R q h k => by
  unfold pTuple at h
  split at h
  · obtain ⟨ds, e, h⟩ := h.out
    obtain ⟨v, rfl, q9⟩ := q.one
    obtain ⟨a, vs, rfl, hs, rv⟩ := lsD_ok R q9 e
    exact call_tuple_of pins s σ H _ us Q I r ⟨a, vs, rfl, .inl ⟨.inl hs, fun p hp => k.newT R rv h hp⟩⟩
  · exact h.elim
theorem oInt : CallR X (.type "int") (rL B F0 pInt) := callR fun {pins s σ H vs us w ds K Q} I r R q h k => by
  unfold pInt at h
  split at h
  · obtain ⟨v, rfl, q9⟩ := q.one
    rw [rpInt q9] at r
    exact call_int1 pins s σ H _ us Q I r (.inl ⟨_, rfl, k.int R h⟩)
  · obtain ⟨v, rfl, q9⟩ := q.one
    rw [rpBl q9] at r
    exact call_int1 pins s σ H _ us Q I r (.inr ⟨_, rfl, k.int R h⟩)
  · exact h.elim
theorem oMax2 (hc : X.calm = true) : CallR X (.builtin "max") (rL B F0 pMax2) := callR fun {pins s σ H vs us w ds K Q} I r R q h k => by
  unfold pMax2 at h
  split at h
  · obtain ⟨v, u, rfl, q1, q2⟩ := q.two
    rw [rpInt q1, rpInt q2] at r
    exact call_max2 hc pins s σ H _ us Q I r ⟨_, _, rfl, k.int R h⟩
  · exact h.elim
theorem oMin2 (hc : X.calm = true) : CallR X (.builtin "min") (rL B F0 pMin2) := callR fun {pins s σ H vs us w ds K Q} I r R q h k => by
  unfold pMin2 at h
  split at h
  · obtain ⟨v, u, rfl, q1, q2⟩ := q.two
    rw [rpInt q1, rpInt q2] at r
    exact call_min2 hc pins s σ H _ us Q I r ⟨_, _, rfl, k.int R h⟩
  · exact h.elim
theorem oAll (hc : X.calm = true) : CallR X (.builtin "all") (rL B F0 pAll) := callR fun {pins s σ H vs us w ds K Q} I r R q h k => by
  unfold pAll at h
  split at h
  · obtain ⟨ds, e, bs, rfl, h⟩ := h.out
    obtain ⟨v, rfl, q9⟩ := q.one
    obtain ⟨a, vs, rfl, hs, rv⟩ := lsD_ok R q9 e
    rw [rv.bls] at hs
    exact cr_all hc pins s σ H _ us Q I r ⟨a, bs, rfl, .inl hs, k.bl R h⟩
  · exact h.elim
theorem oAny (hc : X.calm = true) : CallR X (.builtin "any") (rL B F0 pAny) := callR fun {pins s σ H vs us w ds K Q} I r R q h k => by
  unfold pAny at h
  split at h
  · obtain ⟨ds, e, bs, rfl, h⟩ := h.out
    obtain ⟨v, rfl, q9⟩ := q.one
    obtain ⟨a, vs, rfl, hs, rv⟩ := lsD_ok R q9 e
    rw [rv.bls] at hs
    exact cr_any hc pins s σ H _ us Q I r ⟨a, bs, rfl, .inl hs, k.bl R h⟩
  · exact h.elim
theorem oSum (hc : X.calm = true) : CallR X (.builtin "sum") (rL B F0 pSum) := callR fun {pins s σ H vs us w ds K Q} I r R q h k => by
  unfold pSum at h
  split at h
  · obtain ⟨ds, e, bs, rfl, h⟩ := h.out
    obtain ⟨v, rfl, q9⟩ := q.one
    obtain ⟨a, vs, rfl, hs, rv⟩ := lsD_ok R q9 e
    rw [rv.ints] at hs
    exact cr_sum hc pins s σ H _ us Q I r ⟨a, bs, rfl, .inl hs, k.int R h⟩
  · exact h.elim

/-! ### methods of lists -/
def pApp : D → PL := fun x xs S K => match x, xs with
  | .r n, [y] => pGet (lsR S n) fun ds => pReq (ds.length < sizeLine) (K (.z .none) (S.set n (.lst (ds ++ [y]))))
  | _, _ => False
def pExt : D → PL := fun x xs S K => match x, xs with
  | .r n, [y] => pGet (lsR S n) fun ds => pGet (lsD S y) fun es => pReq (ds.length + es.length ≤ sizeLine) (K (.z .none) (S.set n (.lst (ds ++ es))))
  | _, _ => False
def pPop : D → PL := fun x xs S K => match x, xs with
  | .r n, [] => pGet (lsR S n) fun ds => pGet ds[ds.length - 1]? fun d => K d (S.set n (.lst ds.dropLast))
  | .r n, [.z (.int (.ofNat i))] => pGet (lsR S n) fun ds => pGet ds[i]? fun d => pReq (i < 9223372036854775808) (K d (S.set n (.lst (ds.eraseIdx i))))
  | _, _ => False
def pClear : D → PL := fun x xs S K => match x, xs with
  | .r n, [] => pGet (lsR S n) fun _ => K (.z .none) (S.set n (.lst []))
  | _, _ => False
def pRev : D → PL := fun x xs S K => match x, xs with
  | .r n, [] => pGet (lsR S n) fun ds => K (.z .none) (S.set n (.lst ds.reverse))
  | _, _ => False
/-- the first place of a datum -/
def idxD (ds : List PyData) (d : PyData) : Option Nat := ds.findIdx? fun z => PyData.eqv z d
def pIndex : D → PL := fun x xs S K => match xs with
  | [y] => ∃ ds d, Vw S x (.list ds) ∧ Vw S y d ∧ SeqAt.shaped (.list ds) = true ∧ SeqAt.shaped d = true ∧ pGet (idxD ds d) fun j => K (.z (.int j)) S
  | _ => False
theorem oApp : MtR X "list.append" (rM B F0 pApp) := methR fun {pins s σ H x v vs us w d ds K Q} I rx r R q qs h k => by
  unfold pApp at h
  split at h
  · rename_i n y
    obtain ⟨ds, e, h⟩ := h.out
    obtain ⟨hz, h⟩ := h.out
    obtain ⟨hn, ws, hv, rv⟩ := lsR_ok R e
    obtain ⟨u, rfl, q1⟩ := qs.one
    cases q
    exact mt_append pins s σ H _ _ v us Q I rx r ⟨w.μ n, ws, u, rfl, rfl, hv, by rw [← rv.length]; exact hz, k.setL R hn (rv.append (.cons q1 .nil)) (.z .non) h⟩
  · exact h.elim
theorem ext_lists {pins : List (Addr × Obj)} {s : Shared} {σ : St} {H : Hp} {l b : Addr} {xs zs : List V} {Q : VK} (I : Inv X pins σ H s) (h1 : H l = some (.lst xs)) (h2 : Rd H b (.lst zs)) (hz : xs.length + zs.length ≤ sizeLine)
    (q : Q .non (upd H l (.lst (xs ++ zs)))) : wpAny (model X.prog X.w) X.A (call (.builtin "list.extend") [.ref l, .ref b]) (EP X pins σ Q) X.xe s := by
  obtain ⟨z1, its, n, v1, l1, e1⟩ := I.lstM h1
  obtain ⟨z2, jts, m, v2, e2⟩ := h2.ok I.hok
  have l2 := v2.length
  have small : its.toArray.size + jts.toArray.size ≤ sizeLine := by simp; omega
  refine call_meets PySem.F.slot_list_extend ⟨_, e1, rfl⟩ PySem.F.entry_list_extend (PySem.F.args_list_extend_2 _ _)
    (AutoSeq1.list_extend_list_list_0 l its.toArray n b jts.toArray m (by rw [notLongL small, Bool.and_false]; exact Bool.false_ne_true) (by simp; omega) (by omega)) ⟨e1, e2, ?_⟩
  exact ⟨.non, _, I.lset (its' := its ++ jts) h1 e1 (by simp) (v1.append v2) (by simp; omega), rfl, q⟩
theorem oExt : MtR X "list.extend" (rM B F0 pExt) := methR fun {pins s σ H x v vs us w d ds K Q} I rx r R q qs h k => by
  unfold pExt at h
  split at h
  · rename_i n y
    obtain ⟨ds, e, h⟩ := h.out
    obtain ⟨es, e2, h⟩ := h.out
    obtain ⟨hz, h⟩ := h.out
    obtain ⟨hn, ws, hv, rv⟩ := lsR_ok R e
    obtain ⟨u, rfl, q1⟩ := qs.one
    obtain ⟨b, zs, rfl, hb, rb⟩ := lsD_ok R q1 e2
    cases q
    cases rx
    rw [Vals.ref1 r]
    exact ext_lists I hv hb (by rw [← rv.length, ← rb.length]; exact hz) (k.setL R hn (rv.append rb) (.z .non) h)
  · exact h.elim
theorem oPop : MtR X "list.pop" (rM B F0 pPop) := methR fun {pins s σ H x v vs us w d ds K Q} I rx r R q qs h k => by
  unfold pPop at h
  split at h
  · rename_i n
    obtain ⟨ds, e, h⟩ := h.out
    obtain ⟨d, e2, h⟩ := h.out
    obtain ⟨hn, ws, hv, rv⟩ := lsR_ok R e
    cases qs
    cases q
    obtain ⟨u, hu, ru⟩ := rv.get e2
    rw [rv.length] at hu
    exact mt_pop pins s σ H _ _ v us Q I rx r ⟨w.μ n, ws, u, rfl, rfl, hv, hu, k.setL R hn rv.dropLast ru h⟩
  · rename_i n i
    obtain ⟨ds, e, h⟩ := h.out
    obtain ⟨d, e2, h⟩ := h.out
    obtain ⟨hi, h⟩ := h.out
    obtain ⟨hn, ws, hv, rv⟩ := lsR_ok R e
    obtain ⟨u0, rfl, q1⟩ := qs.one
    cases rpInt q1
    cases q
    obtain ⟨u, hu, ru⟩ := rv.get e2
    have hlt : i < ws.length := (List.getElem?_eq_some_iff.mp hu).1
    have h0 : (0 : Int) ≤ Int.ofNat i := Int.natCast_nonneg i
    have h1 : Int.ofNat i < (ws.length : Int) := Int.ofNat_lt.mpr hlt
    have hx : seqIndex? (Int.ofNat i) ws.length = some i := (ixN_seq (show ixN ws.length (Int.ofNat i) = some i by unfold ixN; rw [if_pos h0, if_pos h1]; rfl)).1
    exact mt_popAt pins s σ H _ _ v us Q I rx r ⟨w.μ n, ws, _, i, u, rfl, rfl, hv, by have : (0 : Int) ≤ Int.ofNat i := Int.natCast_nonneg i; omega, Int.ofNat_lt.mpr hi, hx, hu, k.setL R hn (rv.erase i) ru h⟩
  · exact h.elim
theorem oClear : MtR X "list.clear" (rM B F0 pClear) := methR fun {pins s σ H x v vs us w d ds K Q} I rx r R q qs h k => by
  unfold pClear at h
  split at h
  · rename_i n
    obtain ⟨ds, e, h⟩ := h.out
    obtain ⟨hn, ws, hv, rv⟩ := lsR_ok R e
    cases qs
    cases q
    exact mt_clear pins s σ H _ _ v us Q I rx r ⟨w.μ n, ws, rfl, rfl, hv, k.setL R hn .nil (.z .non) h⟩
  · exact h.elim
theorem oRev : MtR X "list.reverse" (rM B F0 pRev) := methR fun {pins s σ H x v vs us w d ds K Q} I rx r R q qs h k => by
  unfold pRev at h
  split at h
  · rename_i n
    obtain ⟨ds, e, h⟩ := h.out
    obtain ⟨hn, ws, hv, rv⟩ := lsR_ok R e
    cases qs
    cases q
    exact mt_reverse pins s σ H _ _ v us Q I rx r ⟨w.μ n, ws, rfl, rfl, hv, k.setL R hn rv.rev (.z .non) h⟩
  · exact h.elim
theorem oIndex (hu : X.A.units + 100 < cLine) : MtR X "list.index" (rM B F0 pIndex) := methR fun {pins s σ H x v vs us w d ds K Q} I rx r R q qs h k => by
  unfold pIndex at h
  split at h
  · obtain ⟨es, e, w1, w2, s1, s2, h⟩ := h
    obtain ⟨j, hj, h⟩ := h.out
    obtain ⟨u, rfl, q1⟩ := qs.one
    have a := RpT.dp (K := X.K) R.fh _ _ (Vw.rp R _ _ _ w1 q)
    have b := RpT.dp (K := X.K) R.fh _ _ (Vw.rp R _ _ _ w2 q1)
    obtain ⟨p, rfl⟩ : ∃ p, x = .ref p := by cases a; exact ⟨_, rfl⟩
    obtain ⟨hl, hj1, hj2⟩ := List.findIdx?_eq_some_iff_getElem.mp hj
    refine mt_indexD (by omega) pins s σ H _ _ v us Q I rx r ⟨p, u, e, es, j, es[j], rfl, rfl, a, b, s1, s2, List.getElem?_eq_getElem hl, hj1, fun m z' hm hz => ?_, k.int R h⟩
    obtain ⟨hm', rfl⟩ := List.getElem?_eq_some_iff.mp hz
    simpa using hj2 m hm
  · exact h.elim
end
end PL

set_option Elab.async false
set_option linter.all false
set_option maxRecDepth 100000
/-! PL, part 6: statements, targets, loops -/
namespace PL
open PySem L2

/-! ### targets -/
abbrev WG := D → Env → Sto → (Env → Sto → Prop) → Prop
abbrev WGs := List D → Env → Sto → (Env → Sto → Prop) → Prop
def FiG (B F0 : Hp) (w : Wd) (K : Env → Sto → Prop) (Q : St → Hp → Prop) : Prop := ∀ env S σ H μ F, Rl B F0 μ S F H → Xt w.μ w.S w.F μ S F → EnvR B F μ S.length env σ → K env S → Q σ H
theorem FiG.xt {B F0 : Hp} {w w' : Wd} {K : Env → Sto → Prop} {Q : St → Hp → Prop} (h : FiG B F0 w K Q) (x : Xt w.μ w.S w.F w'.μ w'.S w'.F) : FiG B F0 w' K Q := fun e S s H μ F R X r q => h e S s H μ F R (x.trans X) r q
def tG (B F0 : Hp) (g : WG) : TG := fun v σ H Q => ∃ (w : Wd) (env : Env) (d : D) (K : Env → Sto → Prop), RlW B F0 w H ∧ EnvR B w.F w.μ w.S.length env σ ∧ RpW B w d v ∧ g d env w.S K ∧ FiG B F0 w K Q
def tGs (B F0 : Hp) (g : WGs) : TGs := fun vs σ H Q => ∃ (w : Wd) (env : Env) (ds : List D) (K : Env → Sto → Prop), RlW B F0 w H ∧ EnvR B w.F w.μ w.S.length env σ ∧ RpsW B w ds vs ∧ g ds env w.S K ∧ FiG B F0 w K Q
def PXG (X : Cx) (B F0 : Hp) (e : Expr) (g : WG) : Prop := PG X e (tG B F0 g)
def PXGs (X : Cx) (B F0 : Hp) (es : List Expr) (g : WGs) : Prop := PGs X es (tGs B F0 g)
def gN (i : Nat) : WG := fun d env S K => K (env.set i (some d)) S
def gE : WGs := fun ds env S K => match ds with
  | [] => K env S
  | _ => False
def gC (g : WG) (gs : WGs) : WGs := fun ds env S K => match ds with
  | d :: r => g d env S fun env1 S1 => gs r env1 S1 K
  | [] => False
def tpN (n : Nat) (d : D) : Option (List D) := match tpD d with
  | some ds => if ds.length = n then some ds else none
  | none => none
def gT (n : Nat) (gs : WGs) : WG := fun d env S K => pGet (tpN n d) fun ds => gs ds env S K
/-- o[i] = v: lists and dicts -/
def pSet (o i v : D) (S : Sto) (K : Sto → Prop) : Prop := match o with
  | .r n => pGet S[n]? fun o => match o with
    | .lst ds => match i with
      | .z (.int k) => pGet (ixN ds.length k) fun j => K (S.set n (.lst (ds.set j v)))
      | _ => False
    | .dic kvs => pGet (keyD i) fun κ => pReq (kvs.length < sizeLine) (K (S.set n (.dic (putD kvs κ v))))
    | .kd _ _ => False
  | _ => False
def gS (wo wi : WE) : WG := fun v env S K => wo env S (fun o S1 => wi env S1 (fun i S2 => pSet o i v S2 fun S3 => K env S3) fun _ _ _ => False) fun _ _ _ => False
section
variable {X : Cx} {B F0 : Hp} {W : WX} {pos : Pos}
theorem wkG {e : Expr} {t t' : TG} (h : PG X e t) (k : ∀ v σ H Q, t' v σ H Q → t v σ H Q) : PG X e t' := ⟨fun p s σ H v u Q I r q => h.run p s σ H v u Q I r (k v σ H Q q)⟩
theorem wkGs {e : List Expr} {t t' : TGs} (h : PGs X e t) (k : ∀ v σ H Q, t' v σ H Q → t v σ H Q) : PGs X e t' := ⟨fun p s σ H v u Q I r q => h.run p s σ H v u Q I r (k v σ H Q q)⟩
theorem xgn (i : Nat) {x : Str} (hN : X.N.Nodup) (hi : X.N[i]? = some x := by rfl) (hx : Loc X.env.scope x := by first | exact Or.inl rfl | exact Or.inr rfl) (hf : X.fn x = true ∨ X.env.scope.names.lookup x = some .local := by first | exact .inl rfl | exact .inr rfl | assumption) : PXG X B F0 (.Name x pos) (gN i) :=
  wkG (pg_name hN hi hx hf) fun v σ H Q h => by
    obtain ⟨w, env, d, K, R, E, r, h, k⟩ := h
    exact k _ _ _ _ _ _ R .refl (EnvR.set r i E) h
theorem xge : PXGs X B F0 [] gE := wkGs pgs_nil fun vs σ H Q h => by
  obtain ⟨w, env, ds, K, R, E, r, h, k⟩ := h
  unfold gE at h
  split at h
  · cases r; exact ⟨rfl, k _ _ _ _ _ _ R .refl E h⟩
  · exact h.elim
theorem xgc {e : Expr} {es : List Expr} {g : WG} {gs : WGs} (h1 : PXG X B F0 e g) (h2 : PXGs X B F0 es gs) (hs : (assignEach (e :: es) X.env).map (·.2) = assign e X.env :: (assignEach es X.env).map (·.2) := by rfl) : PXGs X B F0 (e :: es) (gC g gs) :=
  wkGs (pgs_cons h1 h2 hs) fun vs σ H Q h => by
    obtain ⟨w, env, ds, K, R, E, r, h, k⟩ := h
    unfold gC at h
    split at h
    · cases r with
      | cons r1 r2 =>
        refine ⟨_, _, rfl, w, env, _, _, R, E, r1, h, fun env1 S1 σ1 H1 μ1 F1 R1 X1 E1 h1 => ?_⟩
        exact ⟨⟨μ1, S1, F1⟩, env1, _, K, R1, E1, r2.xt X1, h1, k.xt X1⟩
    · exact h.elim
theorem xgt {es : List Expr} {j n : Nat} {gs : WGs} (hc : X.calm = true) (h : PXGs X B F0 es gs) (hn : (assignEach es X.env).length = n := by rfl) (hst : (assignEach es X.env).findIdx? (·.1) = none := by rfl) : PXG X B F0 (.Tuple es j pos) (gT n gs) :=
  wkG (pg_tup hc h hn hst) fun v σ H Q h => by
    obtain ⟨w, env, d, K, R, E, r, h, k⟩ := h
    obtain ⟨ds, e, h⟩ := h.out
    unfold tpN at e
    split at e
    · rename_i ds' e1
      split at e
      · rename_i hl
        cases e
        obtain ⟨a, vs, rfl, ha, rv⟩ := tpD_ok R r e1
        exact ⟨a, vs, rfl, .inl (.inl ha), by rw [← rv.length]; exact hl, w, env, _, K, R, E, rv, h, k⟩
      · cases e
    · cases e
theorem oSet (hu : X.A.units + 100 < cLine) : PSet X (fun o i v H Q => ∃ (w : Wd) (do' di dv : D) (K : Sto → Prop), RlW B F0 w H ∧ RpW B w do' o ∧ RpW B w di i ∧ RpW B w dv v ∧ pSet do' di dv w.S K ∧ ∀ S' H' μ' F', Rl B F0 μ' S' F' H' → Xt w.μ w.S w.F μ' S' F' → K S' → Q H') := by
  intro pins s σ H o i v ov iv u Q I ro ri rv h
  obtain ⟨w, d1, d2, d3, K, R, q1, q2, q3, h, k⟩ := h
  unfold pSet at h
  split at h
  · rename_i n
    obtain ⟨o, e, h⟩ := h.out
    cases o with
    | lst ds =>
      dsimp only at h
      split at h
      · obtain ⟨j, hj, h⟩ := h.out
        obtain ⟨hn, ws, hv, rw'⟩ := lsR_ok (n := n) R (show lsR w.S n = some ds by unfold lsR; rw [e])
        cases q1
        have e2 := rpInt q2
        subst e2
        refine set_list pins s σ H _ _ v ov iv u Q I ro ri rv ⟨_, ws, _, j, rfl, rfl, hv, by rw [← rw'.length]; exact hj, ?_⟩
        obtain ⟨R2, X2⟩ := R.write (u := .lst (ws.set j v)) (o := .lst (ds.set j d3)) hn fun G hG => ⟨_, hG, rw'.set q3 j⟩
        exact k _ _ _ _ R2 X2 h
      · exact h.elim
    | kd _ _ => exact h.elim
    | dic kvs =>
      dsimp only at h
      obtain ⟨κ, hκ, h⟩ := h.out
      obtain ⟨hz, h⟩ := h.out
      obtain ⟨hn, ws, hv, rw'⟩ := dcR_ok (n := n) R (show dcR w.S n = some kvs by unfold dcR; rw [e])
      have ey := keyD_ok q2 hκ
      subst ey
      cases q1
      cases ro
      have g : DPut H (w.μ n) (kV κ) v (upd H (w.μ n) (.dK (putK ws κ v))) := DPut.k hv (by rw [← Paired.length rw']; exact hz)
      obtain ⟨R2, X2⟩ := R.write (u := .dK (putK ws κ v)) (o := .dic (putD kvs κ d3)) hn fun G hG => ⟨_, hG, KvR.put rw' κ q3⟩
      exact d_setItem (by omega) I g ri rv fun s3 I3 => ⟨_, I3, k _ _ _ _ R2 X2 h⟩
  · exact h.elim
theorem xgs {o i : Expr} {wo wi : WE} (hu : X.A.units + 100 < cLine) (ho : PX X B F0 W o wo) (hi : PX X B F0 W i wi) (ha : ∀ v, assign (.Subscript o i pos) X.env v = (do
      let ov ← holding [v] (eval o X.env)
      let iv ← holding [v, ov] (eval i X.env)
      standAt pos
      holding [v, ov, iv] (setItem ov iv v)
      release [v, ov, iv] []) := by intro _; rfl) : PXG X B F0 (.Subscript o i pos) (gS wo wi) := wkG (pg_sub ho hi (oSet (B := B) (F0 := F0) hu) ha) fun v σ H Q h => by
  obtain ⟨w, env, d, K, R, E, r, h, k⟩ := h
  refine ⟨w, env, _, _, R, E, h, fun x S1 v1 H1 μ1 F1 R1 X1 r1 h1 => ?_, fun _ _ _ _ _ _ _ _ _ _ h => h.elim⟩
  refine ⟨⟨μ1, S1, F1⟩, env, _, _, R1, E.xt X1, h1, fun y S2 v2 H2 μ2 F2 R2 X2 r2 h2 => ?_, fun _ _ _ _ _ _ _ _ _ _ h => h.elim⟩
  exact ⟨⟨μ2, S2, F2⟩, x, y, d, _, R2, r1.xt X2, r2, r.xt (X1.trans X2), h2, fun S3 H3 μ3 F3 R3 X3 h3 => k env S3 σ H3 μ3 F3 R3 ((X1.trans X2).trans X3) (E.xt ((X1.trans X2).trans X3)) h3⟩
end

/-! ### simple statements -/
def wNext : WS := fun k env S => k.nx env S
def wSeq (a b : WS) : WS := fun k env S => a { k with nx := fun env1 S1 => b k env1 S1 } env S
def wDrop (we : WE) : WS := fun k env S => we env S (fun _ S1 => k.nx env S1) k.ex
def wRet (we : WE) : WS := fun k env S => we env S k.rt k.ex
def wRetN : WS := fun k _ S => k.rt (.z .none) S
def wAsg (we : WE) (g : WG) : WS := fun k env S => we env S (fun d S1 => g d env S1 k.nx) k.ex
def wIf (t : WT) (a b : WS) : WS := fun k env S => t env S (fun c S1 => pIf c (a k env S1) (b k env S1)) k.ex
def wBrk : WS := fun k env S => k.bk env S
def wCnt : WS := fun k env S => k.ct env S
def wAug (p : P2) (i : Nat) (we : WE) : WS := fun k env S => match env[i]? with
  | some (some d) => we env S (fun e S1 => p d e S1 fun d' S2 => k.nx (env.set i (some d')) S2) k.ex
  | _ => False
section
variable {X : Cx} {B F0 : Hp} {W : WX} {e c : Expr} {we : WE} {st : Stmt} {rest body orelse : List Stmt} {a b : WS} {t : WT} {pos : Pos}
theorem bnil : PXB X B F0 W [] wNext := wkB pss_nil fun D σ H h => by
  obtain ⟨w, env, k, R, E, h, f⟩ := h
  exact f.nx _ _ _ _ _ _ R .refl E h
theorem bone (h : PXS X B F0 W st a) : PXB X B F0 W [st] a := pss_one h
theorem bcons (h1 : PXS X B F0 W st a) (h2 : PXB X B F0 W rest b) : PXB X B F0 W (st :: rest) (wSeq a b) := wkB (pss_cons h1 h2) fun D σ H h => by
  obtain ⟨w, env, k, R, E, h, f⟩ := h
  refine ⟨w, env, _, R, E, h, ⟨fun env1 S1 σ1 H1 μ1 F1 R1 X1 E1 h1 => ?_, f.rt, f.bk, f.ct, f.ex⟩⟩
  exact ⟨⟨μ1, S1, F1⟩, env1, k, R1, E1, h1, f.xt X1⟩
theorem xexpr (he : PX X B F0 W e we) (hs : swapsWith e none pos.line X.env = pure false := by rfl) : PXS X B F0 W (.Expr e pos) (wDrop we) := wkS (ps_expr he hs) fun D σ H h => by
  obtain ⟨w, env, k, R, E, h, f⟩ := h
  exact ⟨w, env, _, _, R, E, h, fun d S1 v H1 μ1 F1 R1 X1 r1 h1 => f.nx _ _ _ _ _ _ R1 X1 (E.xt X1) h1, f.toX E⟩
theorem xdoc {x : Str} {j : Nat} {pos' : Pos} : PXS X B F0 W (.Expr (.Constant (.str x) j pos) pos') wNext := wkS ps_doc fun D σ H h => by
  obtain ⟨w, env, k, R, E, h, f⟩ := h
  exact f.nx _ _ _ _ _ _ R .refl E h
theorem xpass : PXS X B F0 W (.Pass pos) wNext := wkS ps_pass fun D σ H h => by
  obtain ⟨w, env, k, R, E, h, f⟩ := h
  exact f.nx _ _ _ _ _ _ R .refl E h
theorem xbrk : PXS X B F0 W (.Break pos) wBrk := wkS ps_break fun D σ H h => by
  obtain ⟨w, env, k, R, E, h, f⟩ := h
  exact f.bk _ _ _ _ _ _ R .refl E h
theorem xcnt : PXS X B F0 W (.Continue pos) wCnt := wkS ps_continue fun D σ H h => by
  obtain ⟨w, env, k, R, E, h, f⟩ := h
  exact f.ct _ _ _ _ _ _ R .refl E h
theorem xret (he : PX X B F0 W e we) : PXS X B F0 W (.Return (some e) pos) (wRet we) := wkS (ps_ret he) fun D σ H h => by
  obtain ⟨w, env, k, R, E, h, f⟩ := h
  exact ⟨w, env, _, _, R, E, h, f.rt, f.toX E⟩
theorem xretN : PXS X B F0 W (.Return none pos) wRetN := wkS ps_retN fun D σ H h => by
  obtain ⟨w, env, k, R, E, h, f⟩ := h
  exact f.rt _ _ _ _ _ _ R .refl (.z .non) h
theorem xif (hc : PXT X B F0 W c t) (h1 : PXB X B F0 W body a) (h2 : PXB X B F0 W orelse b) : PXS X B F0 W (.If c body orelse pos) (wIf t a b) := wkS (ps_if hc h1 h2) fun D σ H h => by
  obtain ⟨w, env, k, R, E, h, f⟩ := h
  refine ⟨w, env, _, _, R, E, h, fun x S1 H1 μ1 F1 R1 X1 h1 => ?_, f.toX E⟩
  have h1 := h1.out
  dsimp only
  cases x with
  | true => rw [if_pos rfl] at h1 ⊢; exact ⟨⟨μ1, S1, F1⟩, env, k, R1, E.xt X1, h1, f.xt X1⟩
  | false => rw [if_neg Bool.false_ne_true] at h1 ⊢; exact ⟨⟨μ1, S1, F1⟩, env, k, R1, E.xt X1, h1, f.xt X1⟩
theorem xasg {tg : Expr} {g : WG} (he : PX X B F0 W e we) (hg : PXG X B F0 tg g) (hs : swapsWithSole [tg] e pos.line X.env = pure false := by rfl) (hw : swappedStores [tg] e X.env = pure none := by rfl)
    (h1 : (assignEach [tg] X.env).map (·.2) = [assign tg X.env] := by rfl) : PXS X B F0 W (.Assign [tg] e pos) (wAsg we g) := wkS (ps_asg he hg hs hw h1) fun D σ H h => by
  obtain ⟨w, env, k, R, E, h, f⟩ := h
  refine ⟨w, env, _, _, R, E, h, fun d S1 v H1 μ1 F1 R1 X1 r1 h1 => ?_, f.toX E⟩
  exact ⟨⟨μ1, S1, F1⟩, env, d, k.nx, R1, E.xt X1, r1, h1, fun env2 S2 σ2 H2 μ2 F2 R2 X2 E2 h2 => f.nx _ _ _ _ _ _ R2 (X1.trans X2) E2 h2⟩
theorem xaug {p : P2} (i : Nat) {x : Str} {op : Operator} {pos' : Pos} (ho : OpR X (inplaceOp op) (r2 B F0 p)) (hN : X.N.Nodup) (he : PX X B F0 W e we) (hi : X.N[i]? = some x := by rfl) (hx : Loc X.env.scope x := by first | exact Or.inl rfl | exact Or.inr rfl)
    (hf : X.fn x = true ∨ X.env.scope.names.lookup x = some .local := by first | exact .inl rfl | exact .inr rfl | assumption) : PXS X B F0 W (.AugAssign (.Name x pos') op e pos) (wAug p i we) :=
  wkS (ps_aug (ti := r2 B F0 p) hN hi hx he (fun pins s σ H x y v u Q I rx ry h => ho pins s σ H x y v u Q I rx ry h) hf) fun D σ H h => by
    obtain ⟨w, env, k, R, E, h, f⟩ := h
    unfold wAug at h
    split at h
    · rename_i d e1
      obtain ⟨v, h1, h2⟩ := EnvR.get E e1
      refine ⟨v, h1, w, env, _, _, R, E, h, fun d2 S1 u H1 μ1 F1 R1 X1 r1 q1 => ?_, f.toX E⟩
      refine ⟨⟨μ1, S1, F1⟩, d, d2, _, R1, h2.xt X1, r1, q1, fun d3 S2 z H2 μ2 F2 R2 X2 r2 q2 => ?_⟩
      exact f.nx _ _ _ _ _ _ R2 (X1.trans X2) (EnvR.set r2 i (E.xt (X1.trans X2))) q2
    · exact h.elim
end
section
variable {X : Cx} {B F0 : Hp}
theorem intOpI {op : Operator} {g : Int → Int → Int} {C : Int → Int → Prop} {p : P2} (ho : OpR X (inplaceOp op) (rI C fun i j => .int (g i j))) (hp : ∀ x y S K, p x y S K → ∃ i j, x = .z (.int i) ∧ y = .z (.int j) ∧ C i j ∧ K (.z (.int (g i j))) S) : OpR X (inplaceOp op) (r2 B F0 p) := by
  intro pins s σ H x y v u Q I rx ry h
  obtain ⟨w, dx, dy, K, R, q1, q2, h, k⟩ := h
  obtain ⟨i, j, rfl, rfl, hc, h5⟩ := hp _ _ _ _ h
  rw [rpInt q1] at rx; rw [rpInt q2] at ry
  exact ho pins s σ H _ _ v u Q I rx ry ⟨_, _, rfl, rfl, hc, k.int R h5⟩
def pAddI : P2 := fun x y S K => match x, y with
  | .z (.int i), .z (.int j) => K (.z (.int (i + j))) S
  | _, _ => False
/-- // by a positive one -/
def pDivI : P2 := fun x y S K => match x, y with
  | .z (.int i), .z (.int j) => pReq (0 < j ∧ j < 1073741824) (K (.z (.int (i / j))) S)
  | _, _ => False
theorem oAddI : OpR X (inplaceOp .Add) (r2 B F0 pAddI) := by
  intro pins s σ H x y v u Q I rx ry h
  obtain ⟨w, dx, dy, K, R, q1, q2, h, k⟩ := h
  unfold pAddI at h
  split at h
  · rw [rpInt q1] at rx; rw [rpInt q2] at ry
    exact iop_add pins s σ H _ _ v u Q I rx ry ⟨_, _, rfl, rfl, k.int R h⟩
  · exact h.elim
theorem oSubI : OpR X (inplaceOp .Sub) (r2 B F0 pSub) := by
  intro pins s σ H x y v u Q I rx ry h
  obtain ⟨w, dx, dy, K, R, q1, q2, h, k⟩ := h
  unfold pSub at h
  split at h
  · rw [rpInt q1] at rx; rw [rpInt q2] at ry
    exact iop_sub pins s σ H _ _ v u Q I rx ry ⟨_, _, rfl, rfl, k.int R h⟩
  · exact h.elim
theorem oDivI : OpR X (inplaceOp .FloorDiv) (r2 B F0 pDivI) := intOpI iop_fdiv fun x y S K h => by
  unfold pDivI at h; split at h
  · obtain ⟨hc, h⟩ := h.out; exact ⟨_, _, rfl, rfl, hc, h⟩
  · exact h.elim
end
end PL

set_option Elab.async false
set_option linter.all false
set_option maxRecDepth 100000
/-! PL, part 7: what is walked; for, while -/
namespace PL
open PySem L2

/-- what a loop walks: its items, and what must stand at each turn -/
structure Src where
  items : List D
  ok : Sto → Prop
abbrev WI := Env → Sto → (Src → Sto → Prop) → KX → Prop
/-- a walk of the layer gives the items of src -/
structure SrcOk (B F0 : Hp) (w0 : Wd) (src : Src) (J : It) (G : Hp → Prop) (Y : Nat → Hp → V → Hp → Prop) : Prop where
  walk : Walk J src.items.length G Y
  good : ∀ (w : Wd) H, RlW B F0 w H → Xt w0.μ w0.S w0.F w.μ w.S w.F → src.ok w.S → G H
  item : ∀ (w : Wd) H i x H', i < src.items.length → RlW B F0 w H → Xt w0.μ w0.S w0.F w.μ w.S w.F → src.ok w.S → Y i H x H' → ∃ (w' : Wd) (d : D), src.items[i]? = some d ∧ w'.S = w.S ∧ RlW B F0 w' H' ∧ Xt w.μ w.S w.F w'.μ w'.S w'.F ∧ RpW B w' d x
def tI (B F0 : Hp) (W : WX) (wi : WI) : TI := fun σ H R => ∃ (w : Wd) (env : Env) (K : Src → Sto → Prop) (KX : KX), RlW B F0 w H ∧ EnvR B w.F w.μ w.S.length env σ ∧ wi env w.S K KX ∧ FiX B F0 W w env σ KX ∧
  ∀ src S' H' μ' F' J G Y, Rl B F0 μ' S' F' H' → Xt w.μ w.S w.F μ' S' F' → K src S' → SrcOk B F0 ⟨μ', S', F'⟩ src J G Y → R J H'
def PXI (X : Cx) (B F0 : Hp) (W : WX) (tg iter : Expr) (wi : WI) : Prop := PI X tg iter (tI B F0 W wi)
section
variable {X : Cx} {B F0 : Hp} {W : WX} {tg e : Expr} {we : WE} {wa : WA} {pos p : Pos}
theorem wkI {iter : Expr} {t t' : TI} (h : PI X tg iter t) (k : ∀ σ H Q, t' σ H Q → t σ H Q) : PI X tg iter t' := ⟨fun p s σ H R I q => h.run p s σ H R I (k σ H R q)⟩
/-- items that stand, by any walk that gives them as they are -/
theorem SrcOk.at {w0 : Wd} {src : Src} {J : It} {G : Hp → Prop} {vs : List V} (hw : Walk J vs.length G (YAt vs)) (hl : src.items.length = vs.length) (hg : ∀ (w : Wd) H, RlW B F0 w H → Xt w0.μ w0.S w0.F w.μ w.S w.F → src.ok w.S → G H)
    (hr : RpsW B w0 src.items vs) : SrcOk B F0 w0 src J G (YAt vs) := ⟨by rw [hl]; exact hw, hg, fun w H i x H' _ R X1 ho y => by
  obtain ⟨rfl, hx⟩ := y
  obtain ⟨d, hd, rd⟩ := RpDs.getV hr hx
  exact ⟨w, d, hd, rfl, R, .refl, rd.xt X1⟩⟩
def srcD (S : Sto) : D → Option Src
  | .z (.list ds) => some ⟨ds.map .z, fun _ => True⟩
  | .b (.list ds) => some ⟨ds.map bz, fun _ => True⟩
  | .r n => match S[n]? with
    | some (.lst ds) => some ⟨ds, fun S => S[n]? = some (.lst ds)⟩
    | _ => none
  | .z (.tuple ds) => some ⟨ds.map .z, fun _ => True⟩
  | .b (.tuple ds) => some ⟨ds.map bz, fun _ => True⟩
  | .t ds => some ⟨ds, fun _ => True⟩
  | .z (.str s) => some ⟨s.cps.toList.map fun c => .z (.str ⟨⟨[c]⟩⟩), fun _ => True⟩
  | _ => none
def wIt (we : WE) : WI := fun env S K KX => we env S (fun x S1 => pGet (srcD S1 x) fun src => K src S1) KX
/-- a list, a tuple, a text -/
def iAny (K : PySem.W.Frag) (tl : TE) : TI := fun σ H R => tl σ H fun x H1 => (∃ a vs, x = .ref a ∧ SqL K H1 a vs ∧ R (Itl K a) H1) ∨ (∃ a vs, x = .ref a ∧ SqT K H1 a vs ∧ R (Itt K a) H1) ∨ ∃ z, x = .str z ∧ R (Its z) H1
theorem pi_any {tl : TE} (he : PE X e tl) : PI X tg e (iAny X.K tl) := by
  refine ⟨fun pins s σ H R I hw => thn (he.run pins s σ H _ I hw) fun v s1 ⟨x, H1, J, rx, qx⟩ => ?_⟩
  have one : ∀ {o : Obj} {tn : Nat → Heap → Prop} {Jt : It}, Turn X.prog X.w X.K tg Jt [s1.heap.objs.size] s1.heap.objs.size tn → tn 0 (s1.heap.push o) → R Jt H1 → PIE X pins σ tg R (.ref s1.heap.objs.size) { s1 with heap := s1.heap.push o } := fun {o tn Jt} T t0 q =>
    ⟨s1.heap.objs.size, [s1.heap.objs.size], tn, Jt, H1, rfl, J.kept (t' := s1.toks) fun b o e => Heap.get?_push_of_some _ e, T, t0, fun b hb => by
      have e : b = s1.heap.objs.size := by simpa using hb
      rw [e]
      exact J.fpOk (Nat.le_refl _) (J.hok.fresh (Nat.le_refl _)), q⟩
  rcases qx with ⟨a, vs, rfl, hq, q⟩ | ⟨a, vs, rfl, hq, q⟩ | ⟨z, rfl, q⟩
  · cases rx
    obtain ⟨its, rv, pl, _⟩ := J.list hq
    exact wpAny_pyIter_list pl.isList (one (turn_list a _) ⟨_, Heap.get?_push_size _ rfl, rfl, rfl⟩ q)
  · cases rx
    obtain ⟨its, rv, pl, _⟩ := J.tuple hq
    exact wpAny_pyIter_tuple (show s1.heap.IsTuple a its.toArray from pl) (one (turn_tuple a _) ⟨_, Heap.get?_push_size _ rfl, rfl, rfl⟩ q)
  · obtain ⟨t, rfl⟩ := rx
    cases hc : z.cps.all (· < 128)
    · exact wpAny_pyIter_wide hc (one (turn_str _ z t "str_iterator" (.inr rfl)) ⟨_, Heap.get?_push_size _ rfl, rfl, rfl⟩ q)
    · exact wpAny_pyIter_ascii hc (one (turn_str _ z t "str_ascii_iterator" (.inl rfl)) ⟨_, Heap.get?_push_size _ rfl, rfl, rfl⟩ q)
theorem rd_sq {K : PySem.W.Frag} {H : Hp} {a : Addr} {vs : List V} (h : Rd H a (.lst vs)) : SqL K H a vs := .inl h
theorem srcD_ok {K : PySem.W.Frag} {w : Wd} {H : Hp} {x : D} {v : V} {src : Src} {R : It → Hp → Prop} (r : RpW B w x v) (R1 : RlW B F0 w H) (e : srcD w.S x = some src) (k : ∀ J G Y, SrcOk B F0 w src J G Y → R J H) :
    (∃ a vs, v = .ref a ∧ SqL K H a vs ∧ R (Itl K a) H) ∨ (∃ a vs, v = .ref a ∧ SqT K H a vs ∧ R (Itt K a) H) ∨ ∃ z, v = .str z ∧ R (Its z) H := by
  unfold srcD at e
  split at e
  · cases e
    cases r with
    | z q => cases q with | lst a b => exact .inl ⟨_, _, rfl, rd_sq (.inl (R1.fh _ _ a)), k _ _ _ (.at walk_list (by simp [b.length]) (fun w' H' R' X' _ => rd_sq (.inl (R'.fh _ _ (X'.f _ _ a)))) (RpDs.zs b))⟩
  · cases e
    cases r with
    | b q =>
      cases q with
      | lst a b =>
        have all : ∀ (w' : Wd) (H' : Hp), RlW B F0 w' H' → Xt w.μ w.S w.F w'.μ w'.S w'.F → Rd H' _ (.lst _) := fun w' H' R' X' => a.elim (fun z => R'.fh.rd (X'.f.rd z)) fun z => R'.bh.rd z
        exact .inl ⟨_, _, rfl, rd_sq (all w H R1 .refl), k _ _ _ (.at walk_list (by simp [b.length]) (fun w' H' R' X' _ => rd_sq (all w' H' R' X')) (RpDs.bzs b))⟩
  · rename_i n
    split at e
    · rename_i ds e1
      cases e
      cases r with
      | r hi =>
        obtain ⟨vs, hv, rv⟩ := R1.ob _ _ e1
        have em : ∀ (w' : Wd), Xt w.μ w.S w.F w'.μ w'.S w'.F → w'.μ n = w.μ n := fun w' X' => X'.m n (Rl.lt e1)
        have there : ∀ (w' : Wd) (H' : Hp), RlW B F0 w' H' → Xt w.μ w.S w.F w'.μ w'.S w'.F → w'.S[n]? = some (.lst ds) → ∃ us, SqL K H' (w.μ n) us ∧ RpsW B w' ds us := fun w' H' R' X' ho => by
          obtain ⟨us, hu, ru⟩ := R'.ob _ _ ho
          rw [em w' X'] at hu
          exact ⟨us, rd_sq (.inl hu), ru⟩
        refine .inl ⟨_, _, rfl, rd_sq (.inl hv), k _ (fun H => ∃ us, SqL K H (w.μ n) us ∧ us.length = ds.length) (fun i H x H' => H' = H ∧ ∀ us, SqL K H (w.μ n) us → us[i]? = some x) ⟨⟨?_, ?_, ?_⟩, ?_, ?_⟩⟩
        · rintro i H2 hi2 ⟨us, hu, hl⟩
          have hi3 : i < us.length := by rw [hl]; exact hi2
          exact ⟨us, us[i], hu, List.getElem?_eq_getElem hi3⟩
        · rintro H2 ⟨us, hu, hl⟩
          exact ⟨us, hu, by rw [hl]; exact Nat.le_refl _⟩
        · exact fun i H x H' _ _ y => y
        · intro w' H' R' X' ho
          obtain ⟨us, h1, h2⟩ := there w' H' R' X' ho
          exact ⟨us, h1, h2.length.symm⟩
        · intro w' H' i x H2 _ R' X' ho y
          obtain ⟨rfl, y⟩ := y
          obtain ⟨us, h1, h2⟩ := there w' _ R' X' ho
          obtain ⟨d, hd, rd⟩ := RpDs.getV h2 (y us h1)
          exact ⟨w', d, hd, rfl, R', .refl, rd⟩
    · cases e
  · cases e
    cases r with
    | z q => cases q with | tup a b => exact .inr (.inl ⟨_, _, rfl, .inl (.inl (R1.fh _ _ a)), k _ _ _ (.at walk_tup (by simp [b.length]) (fun w' H' R' X' _ => .inl (.inl (R'.fh _ _ (X'.f _ _ a)))) (RpDs.zs b))⟩)
  · cases e
    cases r with
    | b q => cases q with | tup a b => exact .inr (.inl ⟨_, _, rfl, .inl (.inl (R1.fh _ _ a)), k _ _ _ (.at walk_tup (by simp [b.length]) (fun w' H' R' X' _ => .inl (.inl (R'.fh _ _ (X'.f _ _ a)))) (RpDs.bzs b))⟩)
  · cases e
    cases r with
    | t a b => exact .inr (.inl ⟨_, _, rfl, .inl (.inl (R1.fh _ _ a)), k _ _ _ (.at walk_tup b.length (fun w' H' R' X' _ => .inl (.inl (R'.fh _ _ (X'.f _ _ a)))) b)⟩)
  · rename_i z
    cases e
    have := rpStr r
    subst this
    refine .inr (.inr ⟨z, rfl, k (Its z) (fun _ => True) (fun i H v H' => H' = H ∧ ∃ c, z.cps[i]? = some c ∧ v = .str ⟨#[c]⟩) ⟨?_, fun _ _ _ _ _ => trivial, fun w' H' i x H2 _ R' X' _ y => ?_⟩⟩)
    · simpa using walk_str (z := z)
    · obtain ⟨rfl, c, hc, rfl⟩ := y
      refine ⟨w', .z (.str ⟨⟨[c]⟩⟩), ?_, rfl, R', .refl, .z (.str _)⟩
      have hc' : z.cps.toList[i]? = some c := by rw [Array.getElem?_toList]; exact hc
      simp [hc']
  · cases e
theorem xit (he : PX X B F0 W e we) : PXI X B F0 W tg e (wIt we) := wkI (pi_any he) fun σ H Q h => by
  obtain ⟨w, env, K, KX, R, E, h, kx, q⟩ := h
  refine ⟨w, env, _, KX, R, E, h, fun x S1 v H1 μ1 F1 R1 X1 r1 h1 => ?_, kx⟩
  obtain ⟨src, e, h1⟩ := h1.out
  exact srcD_ok (w := ⟨μ1, S1, F1⟩) (R := Q) r1 R1 e fun J G Y ok => q src S1 H1 μ1 F1 J G Y R1 X1 h1 ok
/-- range(n), range(a, b) -/
def rgD (lo : Int) (n : Nat) : Src := ⟨(List.range n).map fun (i : Nat) => .z (.int (lo + (i : Int))), fun _ => True⟩
def wRg1 (wa : WA) : WI := fun env S K KX => wa env S (fun xs S1 => match xs with
  | [.z (.int j)] => pReq (-1000000 < j ∧ j < 1000000) (K (rgD 0 j.toNat) S1)
  | _ => False) KX
def wRg2 (wa : WA) : WI := fun env S K KX => wa env S (fun xs S1 => match xs with
  | [.z (.int i), .z (.int j)] => pReq (-1000000 < i ∧ i < 1000000 ∧ -1000000 < j ∧ j < 1000000) (K (rgD i (j - i).toNat) S1)
  | _ => False) KX
theorem rgD_ok {w : Wd} {lo : Int} {n : Nat} : SrcOk B F0 w (rgD lo n) (Itr lo n) (fun _ => True) (YFn fun i => .int (lo + (i : Int))) := ⟨by simpa [rgD] using walk_range (lo := lo) (n := n), fun _ _ _ _ _ => trivial, fun w' H i x H' hi R X1 _ y => by
  obtain ⟨rfl, rfl⟩ := y
  have hi2 : i < n := by simpa [rgD] using hi
  refine ⟨w', .z (.int (lo + (i : Int))), ?_, rfl, R, .refl, .z (.int _)⟩
  show ((List.range n).map _)[i]? = _
  rw [List.getElem?_map, List.getElem?_range hi2]
  rfl⟩
theorem xrg1 {a : Expr} (hg : Gl X "range") (hm : X.mg "range" = none) (ha : PXA X B F0 W [a] wa) (hs : starEach [a] X.env = [(false, eval a X.env)] := by rfl) : PXI X B F0 W tg (.Call (.Name "range" p) [a] [] pos) (wRg1 wa) := wkI (pi_range1 hg hm ha hs) fun σ H Q h => by
  obtain ⟨w, env, K, KX, R, E, h, kx, q⟩ := h
  refine ⟨w, env, _, KX, R, E, h, fun xs S1 vs H1 μ1 F1 R1 X1 r1 h1 => ?_, kx⟩
  dsimp only at h1
  split at h1
  · obtain ⟨hz, h1⟩ := h1.out
    obtain ⟨v, rfl, r2⟩ := RpDs.one (w := ⟨μ1, S1, F1⟩) r1
    have := rpInt (w := ⟨μ1, S1, F1⟩) r2
    subst this
    exact ⟨_, rfl, by omega, by omega, q _ S1 H1 μ1 F1 _ _ _ R1 X1 h1 rgD_ok⟩
  · exact h1.elim
theorem xrg2 {a b : Expr} (hg : Gl X "range") (hm : X.mg "range" = none) (ha : PXA X B F0 W [a, b] wa) (hs : starEach [a, b] X.env = [(false, eval a X.env), (false, eval b X.env)] := by rfl) (hs2 : starEach [b] X.env = [(false, eval b X.env)] := by rfl) :
    PXI X B F0 W tg (.Call (.Name "range" p) [a, b] [] pos) (wRg2 wa) := wkI (pi_range2 hg hm ha hs hs2) fun σ H Q h => by
  obtain ⟨w, env, K, KX, R, E, h, kx, q⟩ := h
  refine ⟨w, env, _, KX, R, E, h, fun xs S1 vs H1 μ1 F1 R1 X1 r1 h1 => ?_, kx⟩
  dsimp only at h1
  split at h1
  · obtain ⟨hz, h1⟩ := h1.out
    obtain ⟨v, u, rfl, r2, r3⟩ := RpDs.two (w := ⟨μ1, S1, F1⟩) r1
    have := rpInt (w := ⟨μ1, S1, F1⟩) r2
    subst this
    have := rpInt (w := ⟨μ1, S1, F1⟩) r3
    subst this
    exact ⟨_, _, rfl, ⟨by omega, by omega, by omega, by omega⟩, q _ S1 H1 μ1 F1 _ _ _ R1 X1 h1 rgD_ok⟩
  · exact h1.elim
/-! enumerate(list), zip(list, list), reversed(list) -/
/-- a list that is walked: its items, and that it stands -/
def lsSrc (S : Sto) : D → Option Src
  | .z (.list ds) => some ⟨ds.map .z, fun _ => True⟩
  | .b (.list ds) => some ⟨ds.map bz, fun _ => True⟩
  | .r n => match S[n]? with
    | some (.lst ds) => some ⟨ds, fun S => S[n]? = some (.lst ds)⟩
    | _ => none
  | _ => none
/-- what such a source is in the heap: at a the list stands, while ok -/
structure Lsd (K : PySem.W.Frag) (B F0 : Hp) (w0 : Wd) (src : Src) (a : Addr) : Prop where
  at_ : ∀ (w : Wd) H, RlW B F0 w H → Xt w0.μ w0.S w0.F w.μ w.S w.F → src.ok w.S → ∃ vs, SqL K H a vs ∧ RpsW B w src.items vs
theorem lsSrc_ok {K : PySem.W.Frag} {w : Wd} {H : Hp} {x : D} {v : V} {src : Src} (r : RpW B w x v) (R1 : RlW B F0 w H) (e : lsSrc w.S x = some src) : ∃ a, v = .ref a ∧ Lsd K B F0 w src a ∧ src.ok w.S := by
  unfold lsSrc at e
  split at e
  · cases e
    cases r with
    | z q => cases q with | lst a b => exact ⟨_, rfl, ⟨fun w' H' R' X' _ => ⟨_, rd_sq (.inl (R'.fh _ _ (X'.f _ _ a))), (RpDs.zs (B := B) (μ := w.μ) (n := w.S.length) b).xt X'⟩⟩, trivial⟩
  · cases e
    cases r with
    | b q => cases q with | lst a b => exact ⟨_, rfl, ⟨fun w' H' R' X' _ => ⟨_, rd_sq (a.elim (fun z => R'.fh.rd (X'.f.rd z)) fun z => R'.bh.rd z), (RpDs.bzs (B := B) (μ := w.μ) (n := w.S.length) b).xt X'⟩⟩, trivial⟩
  · rename_i n
    split at e
    · rename_i ds e1
      cases e
      cases r with
      | r hi =>
        refine ⟨_, rfl, ⟨fun w' H' R' X' ho => ?_⟩, e1⟩
        obtain ⟨us, hu, ru⟩ := R'.ob _ _ ho
        rw [X'.m n hi] at hu
        exact ⟨us, rd_sq (.inl hu), ru⟩
    · cases e
  · cases e
def enumSrc (src : Src) : Src := ⟨src.items.mapIdx fun i d => mkT [.z (.int (i : Int)), d], src.ok⟩
def zipSrc (s1 s2 : Src) : Src := ⟨List.zipWith (fun a b => mkT [a, b]) s1.items s2.items, fun S => s1.ok S ∧ s2.ok S⟩
def revSrc (src : Src) : Src := ⟨src.items.reverse, src.ok⟩
def wEn (wa : WA) : WI := fun env S K KX => wa env S (fun xs S1 => match xs with
  | [x] => pGet (lsSrc S1 x) fun src => K (enumSrc src) S1
  | _ => False) KX
def wZp (wa : WA) : WI := fun env S K KX => wa env S (fun xs S1 => match xs with
  | [x, y] => pGet (lsSrc S1 x) fun s1 => pGet (lsSrc S1 y) fun s2 => K (zipSrc s1 s2) S1
  | _ => False) KX
def wRv (wa : WA) : WI := fun env S K KX => wa env S (fun xs S1 => match xs with
  | [x] => pGet (lsSrc S1 x) fun src => K (revSrc src) S1
  | _ => False) KX
theorem new_pair {w : Wd} {H : Hp} {T : Addr} {x y : V} {d e : D} (R : RlW B F0 w H) (hT : H T = none) (r1 : RpW B w d x) (r2 : RpW B w e y) : ∃ w' : Wd, w'.S = w.S ∧ RlW B F0 w' (upd H T (.tup [x, y])) ∧ Xt w.μ w.S w.F w'.μ w'.S w'.F ∧ RpW B w' (mkT [d, e]) (.ref T) := by
  obtain ⟨R2, X2⟩ := R.froze (.tup [x, y]) hT
  exact ⟨⟨w.μ, w.S, upd w.F T (.tup [x, y])⟩, rfl, R2, X2, mkT_rp upd_same (.cons (r1.xt X2) (.cons (r2.xt X2) .nil))⟩
theorem enum_ok {K : PySem.W.Frag} {w0 : Wd} {src : Src} {a : Addr} (h : Lsd K B F0 w0 src a) : SrcOk B F0 w0 (enumSrc src) (Ite K a) (fun H => ∃ vs, SqL K H a vs ∧ vs.length = src.items.length)
    (fun i H v H' => ∃ T x, v = .ref T ∧ H T = none ∧ H' = upd H T (.tup [.int (i : Nat), x]) ∧ ∀ xs, SqL K H a xs → xs[i]? = some x) := by
  have hl : (enumSrc src).items.length = src.items.length := by simp [enumSrc]
  refine ⟨⟨?_, ?_, fun i H x H' _ _ y => y⟩, ?_, ?_⟩
  · rintro i H hi ⟨vs, h1, h2⟩
    rw [hl] at hi
    have : i < vs.length := by omega
    exact ⟨vs, vs[i], h1, List.getElem?_eq_getElem this⟩
  · rintro H ⟨vs, h1, h2⟩
    exact ⟨vs, h1, by rw [hl]; omega⟩
  · intro w H R X1 ho
    obtain ⟨vs, h1, h2⟩ := h.at_ w H R X1 ho
    exact ⟨vs, h1, h2.length.symm⟩
  · intro w H i x H' hi R X1 ho y
    obtain ⟨T, z, rfl, hT, rfl, hz⟩ := y
    obtain ⟨vs, h1, h2⟩ := h.at_ w H R X1 ho
    obtain ⟨d, hd, rd⟩ := RpDs.getV h2 (hz vs h1)
    obtain ⟨w', e1, e2, e3, e4⟩ := new_pair (d := .z (.int (i : Nat))) R hT (.z (.int _)) rd
    exact ⟨w', _, by simp [enumSrc, hd], e1, e2, e3, e4⟩
theorem zip_ok {K : PySem.W.Frag} {w0 : Wd} {s1 s2 : Src} {a b : Addr} (h1 : Lsd K B F0 w0 s1 a) (h2 : Lsd K B F0 w0 s2 b) : SrcOk B F0 w0 (zipSrc s1 s2) (Itz K a b) (fun H => ∃ xs ys, SqL K H a xs ∧ SqL K H b ys ∧ xs.length = s1.items.length ∧ ys.length = s2.items.length)
    (fun i H v H' => ∃ T x y, v = .ref T ∧ H T = none ∧ H' = upd H T (.tup [x, y]) ∧ (∀ xs, SqL K H a xs → xs[i]? = some x) ∧ ∀ ys, SqL K H b ys → ys[i]? = some y) := by
  have hl : (zipSrc s1 s2).items.length = min s1.items.length s2.items.length := by simp [zipSrc]
  refine ⟨⟨?_, ?_, fun i H x H' _ _ y => y⟩, ?_, ?_⟩
  · rintro i H hi ⟨xs, ys, q1, q2, l1, l2⟩
    rw [hl] at hi
    have a1 : i < xs.length := by omega
    have a2 : i < ys.length := by omega
    exact ⟨xs, ys, xs[i], ys[i], q1, q2, List.getElem?_eq_getElem a1, List.getElem?_eq_getElem a2⟩
  · rintro H ⟨xs, ys, q1, q2, l1, l2⟩
    exact ⟨xs, ys, q1, q2, by rw [hl]; omega⟩
  · intro w H R X1 ho
    obtain ⟨xs, q1, r1⟩ := h1.at_ w H R X1 ho.1
    obtain ⟨ys, q2, r2⟩ := h2.at_ w H R X1 ho.2
    exact ⟨xs, ys, q1, q2, r1.length.symm, r2.length.symm⟩
  · intro w H i x H' hi R X1 ho y
    obtain ⟨T, z, u, rfl, hT, rfl, hz, hu⟩ := y
    obtain ⟨xs, q1, r1⟩ := h1.at_ w H R X1 ho.1
    obtain ⟨ys, q2, r2⟩ := h2.at_ w H R X1 ho.2
    obtain ⟨d, hd, rd⟩ := RpDs.getV r1 (hz xs q1)
    obtain ⟨e, he, re⟩ := RpDs.getV r2 (hu ys q2)
    obtain ⟨w', e1, e2, e3, e4⟩ := new_pair R hT rd re
    exact ⟨w', _, by simp [zipSrc, List.getElem?_zipWith, hd, he], e1, e2, e3, e4⟩
theorem rev_ok {K : PySem.W.Frag} {w0 : Wd} {src : Src} {a : Addr} (h : Lsd K B F0 w0 src a) : SrcOk B F0 w0 (revSrc src) (Itv K a src.items.length) (fun H => ∃ vs, SqL K H a vs ∧ vs.length = src.items.length)
    (fun i H x H' => H' = H ∧ ∀ xs, SqL K H a xs → xs[src.items.length - 1 - i]? = some x) := by
  have hl : (revSrc src).items.length = src.items.length := by simp [revSrc]
  refine ⟨⟨?_, fun H _ => by rw [hl]; exact Nat.le_refl _, fun i H x H' _ _ y => y⟩, ?_, ?_⟩
  · rintro i H hi ⟨vs, h1, h2⟩
    rw [hl] at hi
    have : src.items.length - 1 - i < vs.length := by omega
    exact ⟨hi, vs, vs[src.items.length - 1 - i], h1, List.getElem?_eq_getElem this⟩
  · intro w H R X1 ho
    obtain ⟨vs, h1, h2⟩ := h.at_ w H R X1 ho
    exact ⟨vs, h1, h2.length.symm⟩
  · intro w H i x H' hi R X1 ho y
    obtain ⟨rfl, hz⟩ := y
    obtain ⟨vs, h1, h2⟩ := h.at_ w _ R X1 ho
    obtain ⟨d, hd, rd⟩ := RpDs.getV h2 (hz vs h1)
    rw [hl] at hi
    exact ⟨w, d, by show src.items.reverse[i]? = _; rw [List.getElem?_reverse hi]; exact hd, rfl, R, .refl, rd⟩
theorem xen {elts : List Expr} {kk : Nat} {tpos : Pos} (hg : Gl X "enumerate") (hm : X.mg "enumerate" = none) (ha : PXA X B F0 W [e] wa) (hs : starEach [e] X.env = [(false, eval e X.env)] := by rfl) : PXI X B F0 W (.Tuple elts kk tpos) (.Call (.Name "enumerate" p) [e] [] pos) (wEn wa) :=
  wkI (pi_enum hg hm ha hs) fun σ H Q h => by
    obtain ⟨w, env, K, KX, R, E, h, kx, q⟩ := h
    refine ⟨w, env, _, KX, R, E, h, fun xs S1 vs H1 μ1 F1 R1 X1 r1 h1 => ?_, kx⟩
    dsimp only at h1
    split at h1
    · obtain ⟨src, e1, h1⟩ := h1.out
      obtain ⟨v, rfl, r2⟩ := RpDs.one (w := ⟨μ1, S1, F1⟩) r1
      obtain ⟨a, rfl, hl, ho⟩ := lsSrc_ok (K := X.K) (w := ⟨μ1, S1, F1⟩) r2 R1 e1
      obtain ⟨us, hu, _⟩ := hl.at_ ⟨μ1, S1, F1⟩ H1 R1 .refl ho
      exact ⟨a, us, rfl, hu, q _ S1 H1 μ1 F1 _ _ _ R1 X1 h1 (enum_ok hl)⟩
    · exact h1.elim
theorem xzp {e2 : Expr} {elts : List Expr} {kk : Nat} {tpos : Pos} (hg : Gl X "zip") (hm : X.mg "zip" = none) (ha : PXA X B F0 W [e, e2] wa) (hs : starEach [e, e2] X.env = (false, eval e X.env) :: starEach [e2] X.env := by rfl) (hpl : (backTo pos (starEach [e2] X.env)).any (·.1) = false := by rfl) :
    PXI X B F0 W (.Tuple elts kk tpos) (.Call (.Name "zip" p) [e, e2] [] pos) (wZp wa) :=
  wkI (pi_zip hg hm ha hs hpl) fun σ H Q h => by
    obtain ⟨w, env, K, KX, R, E, h, kx, q⟩ := h
    refine ⟨w, env, _, KX, R, E, h, fun xs S1 vs H1 μ1 F1 R1 X1 r1 h1 => ?_, kx⟩
    dsimp only at h1
    split at h1
    · obtain ⟨src1, e1, h1⟩ := h1.out
      obtain ⟨src2, e2, h1⟩ := h1.out
      obtain ⟨v, u, rfl, r2, r3⟩ := RpDs.two (w := ⟨μ1, S1, F1⟩) r1
      obtain ⟨a, rfl, hl, ho⟩ := lsSrc_ok (K := X.K) (w := ⟨μ1, S1, F1⟩) r2 R1 e1
      obtain ⟨us, hu, _⟩ := hl.at_ ⟨μ1, S1, F1⟩ H1 R1 .refl ho
      obtain ⟨b, rfl, hl2, ho2⟩ := lsSrc_ok (K := X.K) (w := ⟨μ1, S1, F1⟩) r3 R1 e2
      obtain ⟨us2, hu2, _⟩ := hl2.at_ ⟨μ1, S1, F1⟩ H1 R1 .refl ho2
      exact ⟨a, b, us, us2, rfl, hu, hu2, q _ S1 H1 μ1 F1 _ _ _ R1 X1 h1 (zip_ok hl hl2)⟩
    · exact h1.elim
theorem xrv (hg : Gl X "reversed") (hm : X.mg "reversed" = none) (ha : PXA X B F0 W [e] wa) (hs : starEach [e] X.env = [(false, eval e X.env)] := by rfl) : PXI X B F0 W tg (.Call (.Name "reversed" p) [e] [] pos) (wRv wa) :=
  wkI (pi_reversed hg hm ha hs) fun σ H Q h => by
    obtain ⟨w, env, K, KX, R, E, h, kx, q⟩ := h
    refine ⟨w, env, _, KX, R, E, h, fun xs S1 vs H1 μ1 F1 R1 X1 r1 h1 => ?_, kx⟩
    dsimp only at h1
    split at h1
    · obtain ⟨src, e1, h1⟩ := h1.out
      obtain ⟨v, rfl, r2⟩ := RpDs.one (w := ⟨μ1, S1, F1⟩) r1
      obtain ⟨a, rfl, hl, ho⟩ := lsSrc_ok (K := X.K) (w := ⟨μ1, S1, F1⟩) r2 R1 e1
      obtain ⟨us, hu, ru⟩ := hl.at_ ⟨μ1, S1, F1⟩ H1 R1 .refl ho
      refine ⟨a, us, rfl, hu, ?_⟩
      rw [← ru.length]
      exact q _ S1 H1 μ1 F1 _ _ _ R1 X1 h1 (rev_ok hl)
    · exact h1.elim
end

/-! ### for, while -/
def pForGo (src : Src) (g : WG) (body : WS) (k : KS) : List D → Env → Sto → Prop
  | [] => fun env S => src.ok S ∧ k.nx env S
  | d :: ds => fun env S => src.ok S ∧ g d env S fun env1 S1 => body { k with nx := pForGo src g body k ds, ct := pForGo src g body k ds, bk := k.nx } env1 S1
structure pFor (src : Src) (g : WG) (body : WS) (k : KS) (ds : List D) (env : Env) (S : Sto) : Prop where
  go : pForGo src g body k ds env S
theorem pFor.nil {src : Src} {g : WG} {body : WS} {k : KS} {env : Env} {S : Sto} : pFor src g body k [] env S = (src.ok S ∧ k.nx env S) := propext ⟨fun h => h.go, fun h => ⟨h⟩⟩
theorem pFor.cons {src : Src} {g : WG} {body : WS} {k : KS} {d : D} {ds : List D} {env : Env} {S : Sto} : pFor src g body k (d :: ds) env S = (src.ok S ∧ g d env S fun env1 S1 => body { k with nx := pFor src g body k ds, ct := pFor src g body k ds, bk := k.nx } env1 S1) := by
  have e : pFor src g body k ds = pForGo src g body k ds := by funext e s; exact propext ⟨fun h => h.go, fun h => ⟨h⟩⟩
  rw [e]; exact propext ⟨fun h => h.go, fun h => ⟨h⟩⟩
def wFor (wi : WI) (g : WG) (body : WS) : WS := fun k env S => wi env S (fun src S1 => pFor src g body k src.items env S1) k.ex
/-- by an invariant over (measure, names, store) -/
structure pWhile (t : WT) (body : WS) (k : KS) (env : Env) (S : Sto) : Prop where
  ex : ∃ P : Nat → Env → Sto → Prop, (∃ m, P m env S) ∧ ∀ m env S, P m env S →
  t env S (fun b S1 => pIf b (body { k with nx := fun env2 S2 => ∃ m', m' < m ∧ P m' env2 S2, ct := fun env2 S2 => ∃ m', m' < m ∧ P m' env2 S2, bk := k.nx } env S1) (k.nx env S1)) k.ex
def wWhile (t : WT) (body : WS) : WS := fun k env S => pWhile t body k env S
section
variable {X : Cx} {B F0 : Hp} {W : WX} {tg iter c : Expr} {body : List Stmt} {wi : WI} {g : WG} {b : WS} {t : WT} {pos : Pos}
theorem xfor (hp : PassesOwn (model X.prog X.w) X.A X.env X.xe) (hc : X.calm = true) (hi : PXI X B F0 W tg iter wi) (hg : PXG X B F0 tg g) (hb : PXB X B F0 W body b) (hs : ∀ x, foldedSetIterable iter X.env x = pure x := by intro _; rfl) : PXS X B F0 W (.For tg iter body [] pos) (wFor wi g b) :=
  wkS (ps_for hp hc hi hg hb hs) fun D σ H h => by
    obtain ⟨w, env, k, R, E, h, f⟩ := h
    refine ⟨w, env, _, _, R, E, h, f.toX E, fun src S1 H1 μ1 F1 J G Y R1 X1 h1 ok => ?_⟩
    refine for_it ok.walk (fun i σ2 H2 => ∃ (w2 : Wd) (env2 : Env), RlW B F0 w2 H2 ∧ Xt μ1 S1 F1 w2.μ w2.S w2.F ∧ EnvR B w2.F w2.μ w2.S.length env2 σ2 ∧ pFor src g b k (src.items.drop i) env2 w2.S) ?_ ?_ ?_ ?_
    · exact ⟨⟨μ1, S1, F1⟩, env, R1, .refl, E.xt X1, h1⟩
    · rintro i σ2 H2 _ ⟨w2, env2, R2, X2, E2, h2⟩
      refine ok.good w2 H2 R2 X2 ?_
      cases hd : src.items.drop i with
      | nil => rw [hd, pFor.nil] at h2; exact h2.1
      | cons d ds => rw [hd, pFor.cons] at h2; exact h2.1
    · rintro i x σ2 H2 H3 hi ⟨w2, env2, R2, X2, E2, h2⟩ y
      rw [List.drop_eq_getElem_cons hi, pFor.cons] at h2
      obtain ⟨ho, h2⟩ := h2
      obtain ⟨w3, d, hd, eS, R3, X3, rd⟩ := ok.item w2 H2 i x H3 hi R2 X2 ho y
      have ed : src.items[i] = d := Option.some.inj ((List.getElem?_eq_getElem hi).symm.trans hd)
      rw [ed, ← eS] at h2
      refine ⟨w3, env2, d, _, R3, E2.xt X3, rd, h2, fun env4 S4 σ4 H4 μ4 F4 R4 X4 E4 h4 => ?_⟩
      have X24 := X2.trans (X3.trans X4)
      refine ⟨⟨μ4, S4, F4⟩, env4, _, R4, E4, h4, ⟨fun env5 S5 σ5 H5 μ5 F5 R5 X5 E5 h5 => ?_, f.rt.xt (X1.trans X24), fun env5 S5 σ5 H5 μ5 F5 R5 X5 E5 h5 => ?_, fun env5 S5 σ5 H5 μ5 F5 R5 X5 E5 h5 => ?_, fun y5 env5 S5 σ5 H5 μ5 F5 c5 d5 R5 X5 E5 r5 h5 => ?_⟩⟩
      · exact ⟨⟨μ5, S5, F5⟩, env5, R5, X24.trans X5, E5, h5⟩
      · exact f.nx _ _ _ _ _ _ R5 ((X1.trans X24).trans X5) E5 h5
      · exact ⟨⟨μ5, S5, F5⟩, env5, R5, X24.trans X5, E5, h5⟩
      · exact f.ex _ _ _ _ _ _ _ _ _ R5 ((X1.trans X24).trans X5) E5 r5 h5
    · rintro σ2 H2 ⟨w2, env2, R2, X2, E2, h2⟩
      rw [List.drop_length, pFor.nil] at h2
      exact f.nx _ _ _ _ _ _ R2 (X1.trans X2) E2 h2.2
theorem xwhile (hp : PassesOwn (model X.prog X.w) X.A X.env X.xe) (hc : PXT X B F0 W c t) (hb : PXB X B F0 W body b) : PXS X B F0 W (.While c body [] pos) (wWhile t b) := wkS (ps_while hp hc hb) fun D σ H h => by
  obtain ⟨w, env, k, R, E, h, f⟩ := h
  unfold wWhile at h
  have h := h.ex
  obtain ⟨P, ⟨m0, p0⟩, turn⟩ := h
  refine ⟨fun m σ2 H2 => ∃ (w2 : Wd) (env2 : Env), RlW B F0 w2 H2 ∧ Xt w.μ w.S w.F w2.μ w2.S w2.F ∧ EnvR B w2.F w2.μ w2.S.length env2 σ2 ∧ P m env2 w2.S, ⟨m0, w, env, R, .refl, E, p0⟩, ?_⟩
  rintro m σ2 H2 ⟨w2, env2, R2, X2, E2, p2⟩
  refine ⟨w2, env2, _, _, R2, E2, turn m env2 w2.S p2, fun kb S3 H3 μ3 F3 R3 X3 h3 => ?_, (f.xt X2).toX E2⟩
  have h3 := h3.out
  dsimp only
  cases kb with
  | true =>
    rw [if_pos rfl] at h3 ⊢
    refine ⟨fun σ4 H4 => ∃ m', m' < m ∧ ∃ (w4 : Wd) (env4 : Env), RlW B F0 w4 H4 ∧ Xt w.μ w.S w.F w4.μ w4.S w4.F ∧ EnvR B w4.F w4.μ w4.S.length env4 σ4 ∧ P m' env4 w4.S, fun σ4 H4 h => h, ?_⟩
    have X23 := X2.trans X3
    refine ⟨⟨μ3, S3, F3⟩, env2, _, R3, E2.xt X3, h3, ⟨fun env5 S5 σ5 H5 μ5 F5 R5 X5 E5 h5 => ?_, f.rt.xt X23, fun env5 S5 σ5 H5 μ5 F5 R5 X5 E5 h5 => ?_, fun env5 S5 σ5 H5 μ5 F5 R5 X5 E5 h5 => ?_, fun y5 env5 S5 σ5 H5 μ5 F5 c5 d5 R5 X5 E5 r5 h5 => ?_⟩⟩
    · obtain ⟨m', hm, p5⟩ := h5; exact ⟨m', hm, ⟨μ5, S5, F5⟩, env5, R5, X23.trans X5, E5, p5⟩
    · exact f.nx _ _ _ _ _ _ R5 (X23.trans X5) E5 h5
    · obtain ⟨m', hm, p5⟩ := h5; exact ⟨m', hm, ⟨μ5, S5, F5⟩, env5, R5, X23.trans X5, E5, p5⟩
    · exact f.ex _ _ _ _ _ _ _ _ _ R5 (X23.trans X5) E5 r5 h5
  | false =>
    rw [if_neg Bool.false_ne_true] at h3 ⊢
    exact f.nx _ _ _ _ _ _ R3 (X2.trans X3) (E2.xt X3) h3
end
end PL

set_option Elab.async false
set_option linter.all false
set_option maxRecDepth 100000
/-! PL, part 8: list comprehensions -/
namespace PL
open PySem L2

def W0 : WX := fun _ _ _ _ => False
def X0 : KX := fun _ _ _ => False
theorem fix0 {B F0 : Hp} {w : Wd} {env : Env} {σ : St} {W : WX} : FiX B F0 W w env σ X0 := fun _ _ _ _ _ _ _ _ _ _ h => h.elim
def wipeE (env : Env) : List Nat → Env
  | [] => env
  | v :: vs => (wipeE env vs).set v none
theorem EnvR.wipe {B F : Hp} {μ : Nat → Addr} {n : Nat} {env : Env} {σ : St} (E : EnvR B F μ n env σ) : ∀ vs : List Nat, EnvR B F μ n (wipeE env vs) (L2.wipe σ vs)
  | [] => E
  | v :: vs => EnvR.unset v (EnvR.wipe E vs)
theorem wipe_set {σ : St} {i : Nat} {x : Option V} : ∀ {vs : List Nat}, i ∈ vs → L2.wipe (σ.set i x) vs = L2.wipe σ vs
  | [], h => by cases h
  | v :: vs, h => by
    show (L2.wipe (σ.set i x) vs).set v none = (L2.wipe σ vs).set v none
    by_cases hm : i ∈ vs
    · rw [wipe_set hm]
    · have e : i = v := (List.mem_cons.mp h).resolve_right hm
      subst e
      have comm : ∀ (us : List Nat) (τ : St), i ∉ us → L2.wipe (τ.set i x) us = (L2.wipe τ us).set i x := by
        intro us
        induction us with
        | nil => intro τ _; rfl
        | cons u us ih =>
          intro τ hu
          have h1 : i ∉ us := fun z => hu (List.mem_cons_of_mem _ z)
          have h2 : i ≠ u := fun z => hu (by rw [z]; exact List.mem_cons_self)
          show (L2.wipe (τ.set i x) us).set u none = ((L2.wipe τ us).set u none).set i x
          rw [ih τ h1, List.set_comm _ _ h2]
      rw [comm vs σ hm, List.set_set]
theorem wipe_idem {σ : St} : ∀ (vs : List Nat), L2.wipe (L2.wipe σ vs) vs = L2.wipe σ vs
  | [] => rfl
  | v :: vs => by
    have h : L2.wipe ((L2.wipe σ vs).set v none) (v :: vs) = L2.wipe (L2.wipe σ vs) (v :: vs) := wipe_set List.mem_cons_self
    show L2.wipe ((L2.wipe σ vs).set v none) (v :: vs) = (L2.wipe σ vs).set v none
    rw [h]
    show (L2.wipe (L2.wipe σ vs) vs).set v none = _
    rw [wipe_idem vs]
/-- a comprehension's target: names of its own -/
structure TgOk (K : PySem.W.Frag) (B F0 : Hp) (g : TG) (tg : D → Env → Option Env) (vs : List Nat) : Prop where
  run : ∀ (w : Wd) (H : Hp) (d : D) (v : V) (env env2 : Env) (σ : St) (Q : St → Hp → Prop), RlW B F0 w H → RpW B w d v → EnvR B w.F w.μ w.S.length env σ → tg d env = some env2 →
    (∀ σ2, EnvR B w.F w.μ w.S.length env2 σ2 → L2.wipe σ2 vs = L2.wipe σ vs → Q σ2 H) → g v σ H Q
def tgN (i : Nat) : D → Env → Option Env := fun d env => some (env.set i (some d))
def setE : Env → List Nat → List D → Option Env
  | env, [], [] => some env
  | env, i :: is, d :: ds => setE (env.set i (some d)) is ds
  | _, _, _ => none
def tgT (is : List Nat) : D → Env → Option Env := fun d env => match tpD d with
  | some ds => setE env is ds
  | none => none
section
variable {K : PySem.W.Frag} {B F0 : Hp}
theorem tgok_name {i : Nat} {vs : List Nat} (hi : i ∈ vs := by simp) : TgOk K B F0 (gName i) (tgN i) vs := ⟨fun w H d v env env2 σ Q R r E e k => by
  cases e
  exact k _ (EnvR.set r i E) (wipe_set hi)⟩
def gNames : List Nat → TGs
  | [] => gNil
  | i :: is => gCons (gName i) (gNames is)
theorem gNames_ok {w : Wd} {H : Hp} {vs : List Nat} {Q : St → Hp → Prop} : ∀ {is : List Nat} {ds : List D} {us : List V} {env env2 : Env} {σ σ0 : St}, (∀ i ∈ is, i ∈ vs) → RpsW B w ds us → EnvR B w.F w.μ w.S.length env σ → setE env is ds = some env2 → L2.wipe σ vs = L2.wipe σ0 vs →
    (∀ σ2, EnvR B w.F w.μ w.S.length env2 σ2 → L2.wipe σ2 vs = L2.wipe σ0 vs → Q σ2 H) → gNames is us σ H Q ∧ us.length = is.length
  | [], [], _, _, _, _, _, _, r, E, e, hw, k => by
    cases r
    cases e
    exact ⟨⟨rfl, k _ E hw⟩, rfl⟩
  | [], _ :: _, _, _, _, _, _, _, _, _, e, _, _ => by cases e
  | _ :: _, [], _, _, _, _, _, _, _, _, e, _, _ => by cases e
  | i :: is, d :: ds, _, env, env2, σ, σ0, hv, r, E, e, hw, k => by
    cases r with
    | cons r1 r2 =>
      obtain ⟨h1, h2⟩ := gNames_ok (is := is) (fun j hj => hv j (List.mem_cons_of_mem _ hj)) r2 (EnvR.set r1 i E) e ((wipe_set (hv i List.mem_cons_self)).trans hw) k
      exact ⟨⟨_, _, rfl, h1⟩, by simp [h2]⟩
theorem tgok_tup {is : List Nat} {vs : List Nat} {n : Nat} (hn : is.length = n := by rfl) (hi : ∀ i ∈ is, i ∈ vs := by decide) : TgOk K B F0 (gTup K n (gNames is)) (tgT is) vs := ⟨fun w H d v env env2 σ Q R r E e k => by
  unfold tgT at e
  split at e
  · rename_i ds e1
    obtain ⟨a, us, rfl, ha, ru⟩ := tpD_ok R r e1
    obtain ⟨h1, h2⟩ := gNames_ok hi ru E e rfl k
    exact ⟨a, us, rfl, .inl (.inl ha), h2.trans hn, h1⟩
  · cases e⟩
end

def pLcGo (src : Src) (tg : D → Env → Option Env) (wt : WT) (we : WE) (L : Nat) (env : Env) (fin : Sto → Prop) : List D → Sto → Prop
  | [] => fun S => src.ok S ∧ fin S
  | d :: ds => fun S => src.ok S ∧ pGet (tg d env) fun env2 => wt env2 S (fun b S1 => pIf b (we env2 S1 (fun y S2 => pGet (lsR S2 L) fun acc => pReq (acc.length < sizeLine) (pLcGo src tg wt we L env fin ds (S2.set L (.lst (acc ++ [y]))))) X0) (pLcGo src tg wt we L env fin ds S1)) X0
structure pLc (src : Src) (tg : D → Env → Option Env) (wt : WT) (we : WE) (L : Nat) (env : Env) (fin : Sto → Prop) (ds : List D) (S : Sto) : Prop where
  go : pLcGo src tg wt we L env fin ds S
theorem pLc.nil {src : Src} {tg : D → Env → Option Env} {wt : WT} {we : WE} {L : Nat} {env : Env} {fin : Sto → Prop} {S : Sto} : pLc src tg wt we L env fin [] S = (src.ok S ∧ fin S) := propext ⟨fun h => h.go, fun h => ⟨h⟩⟩
theorem pLc.cons {src : Src} {tg : D → Env → Option Env} {wt : WT} {we : WE} {L : Nat} {env : Env} {fin : Sto → Prop} {d : D} {ds : List D} {S : Sto} : pLc src tg wt we L env fin (d :: ds) S = (src.ok S ∧ pGet (tg d env) fun env2 => wt env2 S (fun b S1 => pIf b (we env2 S1 (fun y S2 => pGet (lsR S2 L) fun acc => pReq (acc.length < sizeLine) (pLc src tg wt we L env fin ds (S2.set L (.lst (acc ++ [y]))))) X0) (pLc src tg wt we L env fin ds S1)) X0) := by
  have e : pLc src tg wt we L env fin ds = pLcGo src tg wt we L env fin ds := by funext s; exact propext ⟨fun h => h.go, fun h => ⟨h⟩⟩
  rw [e]; exact propext ⟨fun h => h.go, fun h => ⟨h⟩⟩
def wLc (wi : WI) (tg : D → Env → Option Env) (wt : WT) (we : WE) (vs : List Nat) : WE := fun env S K KX => wi env S (fun src S1 => pLc src tg wt we S1.length (wipeE env vs) (fun S2 => K (.r S1.length) S2) src.items (S1 ++ [.lst []])) KX
/-- no test -/
def wYes : WT := fun _ S K _ => K true S
section
variable {X : Cx} {B F0 : Hp} {W : WX}
theorem lc_wk {wi : WI} {g : TG} {tg : D → Env → Option Env} {wt : WT} {we : WE} {vs : List Nat} (hg : TgOk X.K B F0 g tg vs) {σ : St} {H : Hp} {Q : VK} (h : tE B F0 W (wLc wi tg wt we vs) σ H Q) : tLc (tI B F0 W wi) g (tT B F0 W0 wt) (tE B F0 W0 we) vs σ H Q := by
  obtain ⟨w, env, K, KX, R, E, h, k, kx⟩ := h
  refine ⟨w, env, _, KX, R, E, h, kx, fun src S1 H1 μ1 F1 J G Y R1 X1 h1 ok => fun Dl hD => ?_⟩
  obtain ⟨Rg, Xg⟩ := R1.grow (u := .lst []) (o := .lst []) hD fun G hG => ⟨[], hG, .nil⟩
  refine lc_it ok.walk (fun i H2 => ∃ (w2 : Wd), RlW B F0 w2 H2 ∧ Xt (muX μ1 S1.length Dl) (S1 ++ [.lst []]) F1 w2.μ w2.S w2.F ∧ pLc src tg wt we S1.length (wipeE env vs) (fun S2 => K (.r S1.length) S2) (src.items.drop i) w2.S) ?_ ?_ ?_ ?_
  · exact ⟨⟨_, _, _⟩, Rg, .refl, h1⟩
  · rintro i H2 _ ⟨w2, R2, X2, h2⟩
    refine ok.good w2 H2 R2 (Xg.trans X2) ?_
    cases hd : src.items.drop i with
    | nil => rw [hd, pLc.nil] at h2; exact h2.1
    | cons d ds => rw [hd, pLc.cons] at h2; exact h2.1
  · rintro i x H2 H3 hi ⟨w2, R2, X2, h2⟩ y
    rw [List.drop_eq_getElem_cons hi, pLc.cons] at h2
    obtain ⟨ho, h2⟩ := h2
    obtain ⟨env2, he2, h2⟩ := h2.out
    obtain ⟨w3, d, hd, eS, R3, X3, rd⟩ := ok.item w2 H2 i x H3 hi R2 (Xg.trans X2) ho y
    have ed : src.items[i] = d := Option.some.inj ((List.getElem?_eq_getElem hi).symm.trans hd)
    rw [ed] at he2
    rw [← eS] at h2
    have X13 : Xt w.μ w.S w.F w3.μ w3.S w3.F := (X1.trans Xg).trans (X2.trans X3)
    refine hg.run w3 H3 d x (wipeE env vs) env2 (L2.wipe σ vs) _ R3 rd ((E.xt X13).wipe vs) he2 fun σ2 E2 hw2 => ⟨hw2.trans (wipe_idem vs), ?_⟩
    refine ⟨w3, env2, _, X0, R3, E2, h2, fun b S4 H4 μ4 F4 R4 X4 h4 => ?_, fix0⟩
    have h4 := h4.out
    dsimp only
    cases b with
    | false =>
      rw [if_neg Bool.false_ne_true] at h4 ⊢
      exact ⟨⟨μ4, S4, F4⟩, R4, X2.trans (X3.trans X4), h4⟩
    | true =>
      rw [if_pos rfl] at h4 ⊢
      refine ⟨⟨μ4, S4, F4⟩, env2, _, X0, R4, E2.xt X4, h4, fun yd S5 yv H5 μ5 F5 R5 X5 r5 h5 => ?_, fix0⟩
      obtain ⟨acc, ea, h5⟩ := h5.out
      obtain ⟨hz, h5⟩ := h5.out
      obtain ⟨hn, as, hv, ra⟩ := lsR_ok (w := ⟨μ5, S5, F5⟩) R5 ea
      have X25 := X2.trans (X3.trans (X4.trans X5))
      have eD : μ5 S1.length = Dl := by
        have := X25.m S1.length (by simp)
        rw [this]
        unfold muX
        rw [if_pos rfl]
      have hv : H5 (μ5 S1.length) = some (.lst as) := hv
      rw [eD] at hv
      refine ⟨as, hv, by rw [← ra.length]; exact hz, ?_⟩
      obtain ⟨R6, X6⟩ := R5.write (u := .lst (as ++ [yv])) (o := .lst (acc ++ [yd])) hn fun G hG => ⟨_, hG, ra.append (.cons r5 .nil)⟩
      rw [eD] at R6
      exact ⟨⟨μ5, _, F5⟩, R6, X25.trans X6, h5⟩
  · rintro H2 ⟨w2, R2, X2, h2⟩
    rw [List.drop_length, pLc.nil] at h2
    have eD : w2.μ S1.length = Dl := by
      have := X2.m S1.length (by simp)
      rw [this]
      unfold muX
      rw [if_pos rfl]
    have hlt : S1.length < w2.S.length := Nat.lt_of_lt_of_le (by simp) X2.n
    have r : RpD B w2.F w2.μ w2.S.length (.r S1.length) (.ref (w2.μ S1.length)) := .r hlt
    rw [eD] at r
    exact k _ _ _ _ _ _ R2 ((X1.trans Xg).trans X2) r h2.2
variable {elt tg iter : Expr} {ifs : List Expr} {scope : Scope} {own : List (Str × Nat)} {pos spos : Pos} {wi : WI} {g : TG} {tgd : D → Env → Option Env} {wt : WT} {we : WE}
def PXTs (X : Cx) (B F0 : Hp) (ifs : List Expr) (wt : WT) : Prop := PTs X ifs (tT B F0 W0 wt)
theorem tsNil : PXTs X B F0 [] wYes := ⟨fun pins s σ H Q I h => by
  obtain ⟨w, env, K, KX, R, E, h, k, _⟩ := h
  exact pts_nil.run pins s σ H Q I (k true w.S H w.μ w.F R .refl h)⟩
theorem tsOne {c : Expr} (h : PXT X B F0 W0 c wt) : PXTs X B F0 [c] wt := pts_one h
theorem xlc (hc : X.calm = true) (hN : X.N.Nodup) (hi : PXI X B F0 W tg iter wi) (ok : BlkOk X.N X.env.scope scope own)
    (hg : ∀ (s : Shared) (H : Hp) (C : Addr) (cl : List (Str × Addr)) (fp : List Addr), PG (X.blk s H scope (compEnvC scope cl C X.env) fp) tg g) (hk : TgOk X.K B F0 g tgd (own.map (·.2)))
    (ht : ∀ (s : Shared) (H : Hp) (C : Addr) (cl : List (Str × Addr)) (fp : List Addr), PXTs (X.blk s H scope (compEnvC scope cl C X.env) fp) B F0 ifs wt)
    (he : ∀ (s : Shared) (H : Hp) (C : Addr) (cl : List (Str × Addr)) (fp : List Addr), PX (X.blk s H scope (compEnvC scope cl C X.env) fp) B F0 W0 elt we) (hs : ∀ x, foldedSetIterable iter X.env x = pure x := by intro _; rfl) :
    PX X B F0 W (.ListComp elt [⟨tg, iter, ifs, 0⟩] scope pos) (wLc wi tgd wt we (own.map (·.2))) := wkE (pe_lc hc hN hi ok hg ht he hs) fun σ H Q h => lc_wk hk h
theorem xsetLc {i : Nat} {y : Str} {py : Pos} (hc : X.calm = true) (hN : X.N.Nodup) (hy : X.N[i]? = some y) (hyl : X.env.scope.names.lookup y = some .local)
    (hsw : swapsWith (.ListComp elt [⟨tg, iter, ifs, 0⟩] scope pos) (some (.Name y py)) spos.line X.env = pure true) (hi : PXI X B F0 W tg iter wi) (ok : BlkOk X.N X.env.scope scope own)
    (hg : ∀ (s : Shared) (H : Hp) (C : Addr) (cl : List (Str × Addr)) (fp : List Addr), PG (X.blk s H scope (compEnvC scope cl C X.env) fp) tg g) (hk : TgOk X.K B F0 g tgd (own.map (·.2)))
    (ht : ∀ (s : Shared) (H : Hp) (C : Addr) (cl : List (Str × Addr)) (fp : List Addr), PXTs (X.blk s H scope (compEnvC scope cl C X.env) fp) B F0 ifs wt)
    (he : ∀ (s : Shared) (H : Hp) (C : Addr) (cl : List (Str × Addr)) (fp : List Addr), PX (X.blk s H scope (compEnvC scope cl C X.env) fp) B F0 W0 elt we) (hs : ∀ x, foldedSetIterable iter X.env x = pure x := by intro _; rfl) :
    PXS X B F0 W (.Assign [.Name y py] (.ListComp elt [⟨tg, iter, ifs, 0⟩] scope pos) spos) (wAsg (wLc wi tgd wt we (own.map (·.2))) (gN i)) := wkS (ps_setLc hc hN hy hyl hsw hi ok hg ht he hs) fun Dn σ H h => by
  obtain ⟨w, env, k, R, E, h, f⟩ := h
  refine lc_wk hk ⟨w, env, _, _, R, E, h, fun d S1 v H1 μ1 F1 R1 X1 r1 h1 => ?_, f.toX E⟩
  exact f.nx _ _ _ _ _ _ R1 X1 (EnvR.set r1 i (E.xt X1)) h1
end
end PL

set_option Elab.async false
set_option linter.all false
set_option maxRecDepth 100000
/-! PL, part 9: defs: promises over data, calls, data frozen at the end of a call -/
namespace PL
open PySem L2

abbrev KF := Ex → Sto → Prop
/-- a def's promise: its arguments, the store, what is wanted -/
abbrev Spc := List D → Sto → K1 → KF → Prop
def spOf (sp : Spc) : Sp := fun vs H Q E => ∃ (B F0 : Hp) (w : Wd) (ds : List D) (K : K1) (KX : KF), RlW B F0 w H ∧ RpsW B w ds vs ∧ sp ds w.S K KX ∧ Fi B F0 w K Q ∧
  ∀ x S' H' μ' F' cls dd, Rl B F0 μ' S' F' H' → Xt w.μ w.S w.F μ' S' F' → ExR B F' μ' S'.length H' x cls dd → KX x S' → E cls dd H'
structure pCall (sp : Spc) (ds : List D) (S : Sto) (K : K1) (KX : KF) : Prop where
  mk' ::
  out : sp ds S K KX
theorem pCall.mk {sp : Spc} {ds : List D} {S : Sto} {K : K1} {KX : KF} (h : sp ds S K KX) : pCall sp ds S K KX := ⟨h⟩
def wFn (sp : Spc) (dvs : List D) (wa : WA) : WE := fun env S K KX => wa env S (fun ds S1 => pCall sp (ds ++ dvs) S1 K fun x S2 => KX x env S2) KX
/-- defaults -/
def litV : PyData → Option V
  | .none => some .non
  | .bool b => some (.bl b)
  | .int i => some (.int i)
  | .str x => some (.str x)
  | _ => none
structure Dft (dvs : List D) (ds : List Value) : Prop where
  ok : ∃ vs : List V, Vals vs ds ∧ ∀ B w, RpsW B w dvs vs
theorem dft0 : Dft [] [] := ⟨[], .nil, fun _ _ => .nil⟩
section
variable {X : Cx} {B F0 : Hp} {W : WX} {e : Expr} {es : List Expr} {wa : WA} {x : Str} {p pos : Pos} {k : Nat} {f : Addr} {fd : FuncData} {ps : List Str} {sp : Spc} {dvs : List D} {dd : List Value}
theorem xcall (G : FnOk X.prog X.w X.K X.mg X.base (L2.CX X.prog X.w) k f fd ps (spOf sp)) (hr : Room k X.A) (hg : Gl X x) (hm : X.mg x = some (.ref f)) (hk : PySem.W.keepIn X.K (.ref f) = true) (hb : Binds X.K fd ps dd) (hd : Dft dvs dd) (tk : Takes X W) (ha : PXA X B F0 W (e :: es) wa)
    (hdb : (x == ("__debug__" : Str)) = false := by decide) (he : starEach (e :: es) X.env = (false, eval e X.env) :: starEach es X.env := by rfl) (hpl : (backTo pos (starEach es X.env)).any (·.1) = false := by rfl) : PX X B F0 W (.Call (.Name x p) (e :: es) [] pos) (wFn sp dvs wa) := by
  obtain ⟨vsd, hv, hrp⟩ := hd.ok
  refine wkE (pe_callSD (E := fun σ cls d H => W cls d σ H) G hr hg hm hk hb hv (fun σ => passAt tk σ) ha hdb he hpl) fun σ H Q h => ?_
  obtain ⟨w, env, K, KX, R, E, h, k, kx⟩ := h
  refine ⟨w, env, _, _, R, E, h, fun ds S1 vs H1 μ1 F1 R1 X1 r1 h1 => ?_, kx⟩
  have happ : ∀ {a b : List D} {u v : List V}, RpDs B F1 μ1 S1.length a u → RpDs B F1 μ1 S1.length b v → RpDs B F1 μ1 S1.length (a ++ b) (u ++ v) := fun a b => a.append b
  exact ⟨B, F0, ⟨μ1, S1, F1⟩, ds ++ dvs, K, _, R1, happ r1 (hrp B ⟨μ1, S1, F1⟩), h1.out, k.xt X1, fun y S2 H2 μ2 F2 cls dd R2 X2 r2 h2 => kx y S2 H2 μ2 F2 cls dd R2 (X1.trans X2) r2 h2⟩
end

/-! ### a def of the text -/
def startE (N : List Str) (ds : List D) : Env := ds.map some ++ List.replicate (N.length - ds.length) none
theorem startE_ok {B F : Hp} {μ : Nat → Addr} {n : Nat} {N : List Str} : ∀ {ds : List D} {vs : List V}, RpDs B F μ n ds vs → EnvR B F μ n (startE N ds) (L2.start N vs) := by
  intro ds vs r
  unfold startE L2.start
  rw [r.length]
  generalize N.length - vs.length = j
  have h2 : ∀ j : Nat, EnvR B F μ n (List.replicate j none) (List.replicate j none) := by
    intro j
    induction j with
    | zero => exact .nil
    | succ j ih => exact .cons (fun d hd => by cases hd) ih
  clear N
  induction ds generalizing vs with
  | nil => cases r; exact h2 j
  | cons d ds ih => cases r with | cons a b => exact .cons (fun e he => by cases he; exact ⟨_, rfl, a⟩) (ih b)
def wE (E : XK) : WX := fun cls d _ H => E cls d H
theorem hu_px {A : Around} {k : Nat} (hr : Room k A) : A.units + 100 < cLine := by have := hr.un; omega
theorem fnpx {P : Program} {w : World} {K : PySem.W.Frag} {mg : Str → Option Value} {base : Heap} {x qual : Str} {st : Stmt} {f : Addr} {fd : FuncData} {N ps : List Str} {k : Nat} {sp : Spc} {ws : WS} (F : Fun K x qual st f fd) (S : FnScope N ps (defScope st))
    (hl : ∀ ds S K KX, sp ds S K KX → ds.length = ps.length)
    (hb : ∀ (cdv : Value) (A : Around) (outer : List PySem.Env) (s : Shared) (H : Hp) (E : XK) (B F0 : Hp), Room k (A.deeper (PyProof.Rows.envOfC qual (defScope st) s.heap.objs.size f cdv)) → Takes (cxOf (L2.CX P w) P w K mg base N qual (defScope st) f cdv A outer s H E) (wE E) →
      PassesOwn (model P w) (cxOf (L2.CX P w) P w K mg base N qual (defScope st) f cdv A outer s H E).A (cxOf (L2.CX P w) P w K mg base N qual (defScope st) f cdv A outer s H E).env (cxOf (L2.CX P w) P w K mg base N qual (defScope st) f cdv A outer s H E).xe →
      PXB (cxOf (L2.CX P w) P w K mg base N qual (defScope st) f cdv A outer s H E) B F0 (wE E) (defBody st) ws)
    (hs : ∀ ds S K KX, sp ds S K KX → ws { nx := fun _ S1 => K (.z .none) S1, rt := K, ex := fun y _ S1 => KX y S1 } (startE N ds) S) : FnOk P w K mg base (L2.CX P w) (k + 1) f fd ps (spOf sp) := by
  refine F.okX S (fun vs H Q E h => ?_) (fun cdv A outer s H vs Q E hr h => ?_)
  · obtain ⟨B, F0, w', ds, K', KX, _, r, h, _⟩ := h
    rw [← r.length]
    exact hl _ _ _ _ h
  · obtain ⟨B, F0, w', ds, K', KX, R, r, h, k', kx⟩ := h
    refine ⟨_, hb cdv A outer s H E B F0 hr (takes_of rfl rfl rfl rfl) (passes_of rfl), w', _, _, R, startE_ok r, hs _ _ _ _ h, ⟨fun env S σ H μ F R X _ q => ?_, k', fun _ _ _ _ _ _ _ _ _ q => q.elim, fun _ _ _ _ _ _ _ _ _ q => q.elim, fun y env S σ H μ F cls dd R X _ r q => ?_⟩⟩
    · exact k' _ _ _ _ _ _ R X (.z .non) q
    · exact kx y S H μ F cls dd R X r q

/-! ### what is handed back is frozen -/
mutual
inductive Vz (S : Sto) : D → PyData → Prop
  | z {d : PyData} : Vz S (.z d) d
  | r {n : Nat} {ds : List D} {es : List PyData} : S[n]? = some (.lst ds) → Vzs S ds es → Vz S (.r n) (.list es)
  | t {ds : List D} {es : List PyData} : Vzs S ds es → Vz S (.t ds) (.tuple es)
inductive Vzs (S : Sto) : List D → List PyData → Prop
  | nil : Vzs S [] []
  | cons {d : D} {ds : List D} {e : PyData} {es : List PyData} : Vz S d e → Vzs S ds es → Vzs S (d :: ds) (e :: es)
end
theorem Vzs.zs {S : Sto} : ∀ (ds : List PyData), Vzs S (ds.map .z) ds
  | [] => .nil
  | d :: ds => .cons .z (Vzs.zs ds)
open Classical in
/-- F with all of the store frozen -/
noncomputable def fz (μ : Nat → Addr) (n : Nat) (F H : Hp) : Hp := fun a => match F a with
  | some o => some o
  | none => if ∃ i, i < n ∧ μ i = a then H a else none
section
variable {B F0 F F' H H' : Hp} {μ μ' : Nat → Addr} {S S' : Sto}
theorem fz_sub : Sub F (fz μ S.length F H) := fun a o h => by unfold fz; rw [h]
theorem fz_at {i : Nat} (hi : i < S.length) (hF : F (μ i) = none) : fz μ S.length F H (μ i) = H (μ i) := by
  unfold fz; rw [hF]; exact if_pos ⟨i, hi, rfl⟩
theorem fz_cases {a : Addr} {o : HO} (h : fz μ S.length F H a = some o) : F a = some o ∨ (F a = none ∧ (∃ i, i < S.length ∧ μ i = a) ∧ H a = some o) := by
  unfold fz at h
  split at h
  · rename_i e; cases h; exact .inl e
  · rename_i e
    by_cases c : ∃ i, i < S.length ∧ μ i = a
    · exact .inr ⟨e, c, (if_pos c).symm.trans h⟩
    · rw [if_neg c] at h; cases h
mutual
theorem Vz.rp (R : Rl B F0 μ S F H) : ∀ (e : PyData) (d : D) (v : V), Vz S d e → RpD B F μ S.length d v → RpT (LF (fz μ S.length F H)) (TF (fz μ S.length F H)) e v
  | .none, _, _, w, h => by cases w with | z => cases h with | z a => cases a; exact .non
  | .bool _, _, _, w, h => by cases w with | z => cases h with | z a => cases a; exact .bl _
  | .int _, _, _, w, h => by cases w with | z => cases h with | z a => cases a; exact .int _
  | .str _, _, _, w, h => by cases w with | z => cases h with | z a => cases a; exact .str _
  | .dict _, _, _, w, h => by cases w with | z => cases h with | z a => cases a
  | .list es, _, _, w, h => by
    cases w with
    | z => cases h with | z a => exact RpT.mono (fun _ _ q => fz_sub _ _ q) (fun _ _ q => fz_sub _ _ q) _ _ a
    | r e ws =>
      cases h with
      | r hi =>
        obtain ⟨vs, hv, rv⟩ := R.ob _ _ e
        exact .lst (show fz μ S.length F H _ = _ by rw [fz_at hi (R.nf _ hi)]; exact hv) (Vzs.rp R es _ vs ws rv)
  | .tuple es, _, _, w, h => by
    cases w with
    | z => cases h with | z a => exact RpT.mono (fun _ _ q => fz_sub _ _ q) (fun _ _ q => fz_sub _ _ q) _ _ a
    | t ws => cases h with | t e rv => exact .tup (fz_sub _ _ e) (Vzs.rp R es _ _ ws rv)
theorem Vzs.rp (R : Rl B F0 μ S F H) : ∀ (es : List PyData) (ds : List D) (vs : List V), Vzs S ds es → RpDs B F μ S.length ds vs → RpTs (LF (fz μ S.length F H)) (TF (fz μ S.length F H)) es vs
  | [], _, _, w, h => by cases w; cases h; exact .nil
  | e :: es, _, _, w, h => by
    cases w with | cons a b => cases h with | cons r s => exact .cons (Vz.rp R e _ _ a r) (Vzs.rp R es _ _ b s)
end
/-- back in the caller's state -/
theorem Rl.back (R : Rl B F0 μ S F H) (R' : Rl H F μ' S' F' H') (x : Sub F F') : Rl B F0 μ S (fz μ' S'.length F' H') H' ∧ Xt μ S F μ S (fz μ' S'.length F' H') := by
  have s1 : Sub F (fz μ' S'.length F' H') := x.trans fz_sub
  refine ⟨⟨R.bh.trans R'.bh, fun a o h => ?_, R.f0.trans s1, fun a o h => ?_, R.inj, R.nb, fun i hi => ?_, fun i o h => ?_⟩, ⟨s1, Nat.le_refl _, fun _ _ => rfl⟩⟩
  · rcases fz_cases h with h | ⟨_, _, h⟩
    · exact R'.fh a o h
    · exact h
  · rcases fz_cases h with h | ⟨_, ⟨i, hi, rfl⟩, _⟩
    · rcases R'.fn a o h with q | q
      · exact R.fn a o q
      · exact .inr (R.bh.non q)
    · exact .inr (R.bh.non (R'.nb i hi))
  · obtain ⟨u, hu⟩ := R.has hi
    cases q : fz μ' S'.length F' H' (μ i) with
    | none => rfl
    | some o =>
      rcases fz_cases q with h | ⟨_, ⟨j, hj, e⟩, _⟩
      · rcases R'.fn _ o h with q | q
        · rw [R.nf i hi] at q; cases q
        · rw [hu] at q; cases q
      · have := R'.nb j hj
        rw [e, hu] at this; cases this
  · obtain ⟨u, hu⟩ := R.has (Rl.lt h)
    exact (R.ob i o h).mono s1 (Nat.le_refl _) (fun _ _ => rfl) ((R'.bh _ _ hu).trans hu.symm)
end
/-- an exception's fields frozen -/
def ExV (S : Sto) (x x' : Ex) : Prop := x'.c = x.c ∧ match x.fs, x'.fs with
  | none, none => True
  | some fs, some gs => Paired (fun (p q : Str × D) => p.1 = q.1 ∧ ∃ e, Vz S p.2 e ∧ q.2 = .z e) fs gs
  | _, _ => False
/-- a promise over data alone -/
abbrev Fsp := List PyData → (PyData → Prop) → (Ex → Prop) → Prop
/-- as callers use it -/
def frz (p : Fsp) : Spc := fun ds S K KX => ∃ es, Vws S ds es ∧ p es (fun d => K (.z d) S) fun x => KX x S
/-- as its body keeps it -/
def lent (p : Fsp) : Spc := fun ds S K KX => ∃ es kd kx, ds = es.map bz ∧ S = [] ∧ p es kd kx ∧ (∀ d S' e, Vz S' d e → kd e → K d S') ∧ ∀ x S' x', ExV S' x x' → kx x' → KX x S'
theorem FnOk.frz {P : Program} {w : World} {K : PySem.W.Frag} {mg : Str → Option Value} {base : Heap} {CX : CXT} {k : Nat} {f : Addr} {fd : FuncData} {ps : List Str} {p : Fsp} (h : FnOk P w K mg base CX k f fd ps (spOf (lent p))) : FnOk P w K mg base CX k f fd ps (spOf (PL.frz p)) := by
  refine h.imp fun vs H Q E q => ?_
  obtain ⟨B, F0, w, ds, K, KX, R, r, ⟨es, vw, q⟩, k, kx⟩ := q
  have R0 : Rl H w.F w.μ [] w.F H := ⟨Sub.refl _, R.fh, Sub.refl _, fun a o e => .inl e, fun i j hi => absurd hi (Nat.not_lt_zero _), fun i hi => absurd hi (Nat.not_lt_zero _), fun i hi => absurd hi (Nat.not_lt_zero _), fun i o e => by simp at e⟩
  refine ⟨H, w.F, ⟨w.μ, [], w.F⟩, es.map bz, fun d S' => ∃ e, Vz S' d e ∧ K (.z e) w.S, fun x S' => ∃ x', ExV S' x x' ∧ KX x' w.S, R0, RpDs.bzs (Vws.rp R _ _ _ vw r), ⟨es, _, _, rfl, rfl, q, fun d S' e a b => ⟨e, a, b⟩, fun x S' x' a b => ⟨x', a, b⟩⟩, ?_, ?_⟩
  · rintro d S' v H' μ' F' R' X' r' ⟨e, he, hk⟩
    obtain ⟨R2, X2⟩ := R.back R' X'.f
    exact k _ _ _ _ _ _ R2 X2 (.z (Vz.rp R' e d v he r')) hk
  · rintro x S' H' μ' F' cls dd R' X' r' ⟨x', ⟨hc, hf⟩, hk⟩
    obtain ⟨R2, X2⟩ := R.back R' X'.f
    refine kx x' _ _ _ _ cls dd R2 X2 ⟨by rw [hc]; exact r'.1, ?_⟩ hk
    obtain ⟨_, r2⟩ := r'
    cases h1 : x.fs with
    | none =>
      cases h2 : x'.fs with
      | none => rw [h1] at r2; exact r2
      | some gs => rw [h1, h2] at hf; exact hf.elim
    | some fs =>
      cases h2 : x'.fs with
      | none => rw [h1, h2] at hf; exact hf.elim
      | some gs =>
        rw [h1] at r2
        rw [h1, h2] at hf
        obtain ⟨a, ws, e1, e2, e3⟩ := r2
        refine ⟨a, ws, e1, e2, ?_⟩
        clear e2 h1 h2
        induction hf generalizing ws with
        | nil => cases e3; exact .nil
        | cons q t ih =>
          cases e3 with
          | cons r1 r2 =>
            obtain ⟨n1, e, ve, q2⟩ := q
            refine .cons ⟨n1.symm.trans r1.1, ?_⟩ (ih _ r2)
            rw [q2]
            exact .z (Vz.rp R' e _ _ ve r1.2)
end PL

set_option Elab.async false
set_option linter.all false
set_option maxRecDepth 100000
/-! PL, part 10: short words for derivations: own defs, built-in names, loops -/
namespace PL
open PySem L2

/-- a def of the module, as its callers know it -/
structure Fc (P : Program) (w : World) (K : PySem.W.Frag) (mg : Str → Option Value) (base : Heap) (x : Str) (k : Nat) (ps : List Str) (sp : Spc) : Prop where
  ex : ∃ (f : Addr) (fd : FuncData), FnOk P w K mg base (L2.CX P w) k f fd ps (spOf sp) ∧ mg x = some (.ref f) ∧ PySem.W.keepIn K (.ref f) = true ∧ Binds K fd ps []
theorem Fc.frz {P : Program} {w : World} {K : PySem.W.Frag} {mg : Str → Option Value} {base : Heap} {x : Str} {k : Nat} {ps : List Str} {p : Fsp} (c : Fc P w K mg base x k ps (lent p)) : Fc P w K mg base x k ps (PL.frz p) := by
  obtain ⟨f, fd, h, r⟩ := c.ex
  exact ⟨f, fd, FnOk.frz h, r⟩
section
variable {X : Cx} {B F0 : Hp} {W : WX} {e : Expr} {es : List Expr} {wa : WA} {x : Str} {p pos : Pos} {k : Nat} {ps : List Str} {sp : Spc}
theorem xfc (c : Fc X.prog X.w X.K X.mg X.base x k ps sp) (hr : Room k X.A) (tk : Takes X W) (hg : Gl X x) (ha : PXA X B F0 W (e :: es) wa)
    (hdb : (x == ("__debug__" : Str)) = false := by decide) (he : starEach (e :: es) X.env = (false, eval e X.env) :: starEach es X.env := by rfl) (hpl : (backTo pos (starEach es X.env)).any (·.1) = false := by rfl) : PX X B F0 W (.Call (.Name x p) (e :: es) [] pos) (wFn sp [] wa) := by
  obtain ⟨f, fd, h, hm, hk, hb⟩ := c.ex
  exact xcall h hr hg hm hk hb dft0 tk ha hdb he hpl
def wTy (T : Ty) : WE := fun _ S K _ => K (.y T) S
theorem xty {T : Ty} (hg : Gl X x) (hm : X.mg x = none) (hv : bootBuiltins x = some (.type T.s)) (hn : x ≠ "__name__" := by decide) (hd : (x == ("__debug__" : Str)) = false := by decide) : PX X B F0 W (.Name x pos) (wTy T) :=
  wkE (pe_bltn (v := .ty T.s) hg hm hv rfl hn hd) fun σ H Q h => by
    obtain ⟨w, env, K, KX, R, E, h, k, _⟩ := h
    exact k _ w.S _ H w.μ w.F R .refl .y h
end
theorem bb_len : bootBuiltins "len" = some (.builtin "len") := by decide +kernel
theorem bb_isinstance : bootBuiltins "isinstance" = some (.builtin "isinstance") := by decide +kernel
theorem bb_all : bootBuiltins "all" = some (.builtin "all") := by decide +kernel
theorem bb_any : bootBuiltins "any" = some (.builtin "any") := by decide +kernel
theorem bb_sum : bootBuiltins "sum" = some (.builtin "sum") := by decide +kernel
theorem bb_max : bootBuiltins "max" = some (.builtin "max") := by decide +kernel
theorem bb_min : bootBuiltins "min" = some (.builtin "min") := by decide +kernel
theorem bb_sorted : bootBuiltins "sorted" = some (.builtin "sorted") := by decide +kernel
theorem bb_list : bootBuiltins "list" = some (.type "list") := by decide +kernel
theorem bb_tuple : bootBuiltins "tuple" = some (.type "tuple") := by decide +kernel
theorem bb_int : bootBuiltins "int" = some (.type "int") := by decide +kernel
theorem bb_str : bootBuiltins "str" = some (.type "str") := by decide +kernel
theorem bb_bool : bootBuiltins "bool" = some (.type "bool") := by decide +kernel
theorem bb_set : bootBuiltins "set" = some (.type "set") := by decide +kernel
theorem bb_dict : bootBuiltins "dict" = some (.type "dict") := by decide +kernel
/-! {} -/
def wDic : WE := fun _ S K _ => K (.r S.length) (S ++ [.dic []])
section
variable {X : Cx} {B F0 : Hp} {W : WX} {pos : Pos}
theorem xdic : PX X B F0 W (.Dict [] [] pos) wDic := wkE pe_dnewK fun σ H Q h p hp => by
  obtain ⟨w, env, K, KX, R, E, h, k, _⟩ := h
  obtain ⟨R2, X2⟩ := R.grow (u := .dK []) (o := .dic []) hp fun G hG => ⟨[], hG, .nil⟩
  have e : muX w.μ w.S.length p w.S.length = p := by unfold muX; rw [if_pos rfl]
  have q : RpD B w.F (muX w.μ w.S.length p) (w.S ++ [Ob.dic []]).length (.r w.S.length) (.ref (muX w.μ w.S.length p w.S.length)) := .r (by simp)
  rw [e] at q
  exact k _ _ _ _ _ _ R2 X2 q h
end
/-! the law: its script -/
def noLs (K : PySem.W.Frag) : Bool := K.all fun p => match p.2.cls with
  | .type n => n != "list"
  | _ => true
theorem lk_mem {β : Type} {a : Nat} {b : β} : ∀ {l : List (Nat × β)}, l.lookup a = some b → (a, b) ∈ l
  | [], h => by simp at h
  | (k, v) :: l, h => by
    by_cases e : a = k
    · subst e; simp at h; subst h; exact List.mem_cons_self
    · have : (a == k) = false := beq_eq_false_iff_ne.mpr e
      simp only [List.lookup_cons, this] at h
      exact List.mem_cons_of_mem _ (lk_mem h)
theorem noLs_ok {K : PySem.W.Frag} (h : noLs K = true) {a : Addr} {o : Obj} (e : K.lookup a = some o) : o.cls ≠ .type "list" := by
  unfold noLs at h
  have hm : (a, o) ∈ K := lk_mem e
  have q := List.all_eq_true.mp h _ hm
  intro z
  simp only [z] at q
  exact absurd q (by decide)
/-- the law is told True at every script -/
def lawSp : Spc := fun ds S K _ => ∃ ns : List Int, ds = [.b (.list (ns.map .int))] ∧ S = [] ∧ ns.length ≤ 63 ∧ ∀ S', K (.z (.bool true)) S'
def spLawP (K : PySem.W.Frag) : Sp := fun vs H Q _ => ∃ (a : Addr) (ns : List Int), vs = [.ref a] ∧ SqL K H a (ns.map V.int) ∧ ns.length ≤ 63 ∧ ∀ H', Q (.bl true) H'
theorem law_imp {P : Program} {w : World} {K : PySem.W.Frag} {mg : Str → Option Value} {base : Heap} {CX : CXT} {k : Nat} {f : Addr} {fd : FuncData} {ps : List Str} (hK : noLs K = true) (h : FnOk P w K mg base CX k f fd ps (spOf lawSp)) : FnOk P w K mg base CX k f fd ps (spLawP K) := by
  refine h.imp fun vs H Q E q => ?_
  obtain ⟨a, ns, rfl, hs, hl, q⟩ := q
  have hr : Rd H a (.lst (ns.map V.int)) := by
    rcases hs with hs | ⟨o, its, n, e, hc, _⟩
    · exact hs
    · exact absurd hc (noLs_ok hK e)
  have R0 : Rl H (fun _ => none) (fun i => i) [] (fun _ => none) H := ⟨Sub.refl _, fun a o e => (by cases e), Sub.refl _, fun a o e => (by cases e), fun i j hi => absurd hi (Nat.not_lt_zero _), fun i hi => absurd hi (Nat.not_lt_zero _), fun i hi => absurd hi (Nat.not_lt_zero _), fun i o e => (by simp at e)⟩
  have allI : ∀ ns : List Int, RpTs (LB H fun _ => none) (TF fun _ => none) (ns.map .int) (ns.map V.int) := fun ns => by
    induction ns with
    | nil => exact .nil
    | cons n ns ih => exact .cons (.int n) ih
  refine ⟨H, _, ⟨fun i => i, [], fun _ => none⟩, _, fun d _ => d = .z (.bool true), fun _ _ => False, R0, .cons (.b (.lst (.inr hr) (allI ns))) .nil, ⟨ns, rfl, rfl, hl, fun _ => rfl⟩, fun d S v H' μ F R X r e => ?_, fun _ _ _ _ _ _ _ _ _ _ h => h.elim⟩
  subst e
  cases r with | z q1 => cases q1; exact q _
/-! -n; a module's own constants -/
def pNeg : P1 := fun x S K => match x with
  | .z (.int i) => K (.z (.int (-i))) S
  | _ => False
section
variable {X : Cx} {B F0 : Hp} {W : WX} {a : Expr} {wa : WE} {pos : Pos} {p : P1} {x : Str}
theorem xun {op : UnaryOp} (ho : UnR X (unaryOp op) (r1 B F0 p)) (ha : PX X B F0 W a wa) : PX X B F0 W (.UnaryOp op a pos) (w1 p wa) := wkE (pe_un ho ha) fun σ H Q h => by
  obtain ⟨w, env, K, KX, R, E, h, k, kx⟩ := h
  exact ⟨w, env, _, KX, R, E, h, fun d S1 v H1 μ1 F1 R1 X1 q1 h1 => ⟨⟨μ1, S1, F1⟩, d, K, R1, q1, h1, k.xt X1⟩, kx⟩
theorem oNeg : UnR X (unaryOp .USub) (r1 B F0 pNeg) := by
  intro pins s σ H v u Q I rx h
  obtain ⟨w, d, K, R, q, h, k⟩ := h
  unfold pNeg at h
  split at h
  · rw [rpInt q] at rx
    exact un_neg pins s σ H _ u Q I rx ⟨_, rfl, k.int R h⟩
  · exact h.elim
theorem xgS {z : Str} (hg : Gl X x) (h : ∃ t, X.mg x = some (.str z t)) (hdb : (x == ("__debug__" : Str)) = false := by decide) : PX X B F0 W (.Name x pos) (wC (.str z)) := by
  obtain ⟨t, e⟩ := h
  exact xglob (v := .str z) hg e ⟨t, rfl⟩ (fun _ _ => .str z) hdb
theorem xgI {z : Int} (hg : Gl X x) (h : ∃ t, X.mg x = some (.int z t)) (hdb : (x == ("__debug__" : Str)) = false := by decide) : PX X B F0 W (.Name x pos) (wC (.int z)) := by
  obtain ⟨t, e⟩ := h
  exact xglob (v := .int z) hg e ⟨t, rfl⟩ (fun _ _ => .int z) hdb
end
end PL

set_option Elab.async false
set_option linter.all false
set_option maxRecDepth 100000
/-! PL, part 11: promises over typed data; loops and comprehensions in plain Lean; lemmas about data -/
namespace PL
open PySem L2

/-- typed arguments, a precondition, the answer -/
def fsp {α : Type} (enc : α → List PyData) (pre : α → Prop) (out : α → PyData) : Fsp := fun es k _ => ∃ a, es = enc a ∧ pre a ∧ k (out a)
theorem fsp_len {α : Type} {enc : α → List PyData} {pre : α → Prop} {out : α → PyData} {n : Nat} (h : ∀ a, (enc a).length = n) : ∀ ds S K KX, lent (fsp enc pre out) ds S K KX → ds.length = n := by
  rintro ds S K KX ⟨es, kd, kx, rfl, rfl, ⟨a, rfl, _, _⟩, _⟩
  rw [List.length_map]; exact h a
abbrev ends (K : K1) (KX : KF) : KS := { nx := fun _ S1 => K (.z .none) S1, rt := K, ex := fun y _ S1 => KX y S1 }
theorem fsp_ok {α : Type} {enc : α → List PyData} {pre : α → Prop} {out : α → PyData} {ws : WS} {N : List Str} (h : ∀ a, pre a → ∀ K KX, (∀ d S', Vz S' d (out a) → K d S') → ws (ends K KX) (startE N ((enc a).map bz)) []) :
    ∀ ds S K KX, lent (fsp enc pre out) ds S K KX → ws { nx := fun _ S1 => K (.z .none) S1, rt := K, ex := fun y _ S1 => KX y S1 } (startE N ds) S := by
  rintro ds S K KX ⟨es, kd, kx, rfl, rfl, ⟨a, rfl, hp, hk⟩, hK, _⟩
  exact h a hp K KX fun d S' v => hK d S' _ v hk
/-- a call of such a def -/
theorem fsp_call {α : Type} {enc : α → List PyData} {pre : α → Prop} {out : α → PyData} {ds : List D} {S : Sto} {K : K1} {KX : KF} (a : α) (v : Vws S ds (enc a)) (hp : pre a) (h : K (.z (out a)) S) : pCall (frz (fsp enc pre out)) ds S K KX := pCall.mk ⟨_, v, a, rfl, hp, h⟩
/-- .. of one that may raise -/
def fspX {α : Type} (enc : α → List PyData) (pre : α → Prop) (out : α → Except Ex PyData) : Fsp := fun es k kx => ∃ a, es = enc a ∧ pre a ∧ match out a with
  | .ok d => k d
  | .error x => kx x

theorem sz_le {n : Nat} (h : Nat.ble n 1000 = true) : n ≤ sizeLine := Nat.le_trans (Nat.le_of_ble_eq_true h) (by decide)
theorem sz_lt {n : Nat} (h : Nat.ble n 1000 = true) : n < sizeLine := Nat.lt_of_le_of_lt (Nat.le_of_ble_eq_true h) (by decide)
theorem sz_le6 {n : Nat} (h : n ≤ 1000000) : n ≤ sizeLine := Nat.le_trans h (by decide)
theorem sz_lt6 {n : Nat} (h : n ≤ 1000000) : n < sizeLine := Nat.lt_of_le_of_lt h (by decide)
/-! ### places -/
theorem atD_in {α : Type} {xs : List α} {i : Int} (h0 : 0 ≤ i) (h1 : i < xs.length) : atD xs i = some (xs[i.toNat]'(by omega)) := by
  obtain ⟨j, rfl⟩ : ∃ j : Nat, i = (j : Int) := ⟨i.toNat, by omega⟩
  show xs[j]? = _
  have hj : j < xs.length := by omega
  rw [List.getElem?_eq_getElem hj]
  rfl
theorem atD_nat {α : Type} {xs : List α} {j : Nat} {x : α} (h : xs[j]? = some x) : atD xs (j : Int) = some x := h
theorem atD_map {α β : Type} (f : α → β) (xs : List α) (i : Int) : atD (xs.map f) i = (atD xs i).map f := by
  cases i with
  | ofNat k => show (xs.map f)[k]? = (xs[k]?).map f; rw [List.getElem?_map]
  | negSucc k =>
    rw [atD_neg, atD_neg, List.length_map]
    split
    · rw [List.getElem?_map]
    · rfl
theorem ixD_bL {α : Type} {S : Sto} {f : α → PyData} {xs : List α} {i : Int} {x : α} (h : atD xs i = some x) : ixD S (.b (.list (xs.map f))) i = some (bz (f x)) := by
  show (atD (xs.map f) i).map bz = _
  rw [atD_map, h]; rfl
theorem ixD_zL {α : Type} {S : Sto} {f : α → PyData} {xs : List α} {i : Int} {x : α} (h : atD xs i = some x) : ixD S (.z (.list (xs.map f))) i = some (.z (f x)) := by
  show (atD (xs.map f) i).map D.z = _
  rw [atD_map, h]; rfl
theorem bz_flat {d : PyData} (h : flatT d = true) : bz d = .z d := by unfold bz; rw [if_pos h]
theorem bz_list {ds : List PyData} : bz (.list ds) = .b (.list ds) := by unfold bz; rw [if_neg (by simp [flatT])]

/-! ### comprehensions whose element and test are plain: f of the item, where t holds -/
theorem pLc_map {α : Type} {src : Src} {tg : D → Env → Option Env} {wt : WT} {we : WE} {env : Env} {fin : Sto → Prop} {S : Sto} {xs : List α} (it f : α → D) (t : α → Bool) (hz : xs.length < 1000000) (hok : ∀ acc, src.ok (S ++ [.lst acc]))
    (ht : ∀ x ∈ xs, ∃ env2, tg (it x) env = some env2 ∧ (∀ (S1 : Sto) (K : Bool → Sto → Prop), (∃ acc, S1 = S ++ [.lst acc]) → K (t x) S1 → wt env2 S1 K X0) ∧ (t x = true → ∀ (S1 : Sto) (K : K1), (∃ acc, S1 = S ++ [.lst acc]) → K (f x) S1 → we env2 S1 K X0))
    (hf : fin (S ++ [.lst ((xs.filter t).map f)])) : pLc src tg wt we S.length env fin (xs.map it) (S ++ [.lst []]) := by
  have go : ∀ (done rest : List α), xs = done ++ rest → pLc src tg wt we S.length env fin (rest.map it) (S ++ [.lst ((done.filter t).map f)]) := by
    intro done rest
    induction rest generalizing done with
    | nil =>
      intro e
      rw [List.append_nil] at e
      subst e
      rw [List.map_nil, pLc.nil]
      exact ⟨hok _, hf⟩
    | cons d ds ih =>
      intro e
      rw [List.map_cons, pLc.cons]
      have hm : d ∈ xs := by rw [e]; simp
      obtain ⟨env2, h1, h2, h3⟩ := ht d hm
      refine ⟨hok _, pGet.mk h1 (h2 _ _ ⟨_, rfl⟩ (pIf.mk (fun c => ?_) fun c => ?_))⟩
      · refine h3 c _ _ ⟨_, rfl⟩ (pGet.mk (x := (done.filter t).map f) ?_ (pReq.mk ?_ ?_))
        · unfold lsR; simp
        · have h4 := List.length_filter_le t done
          have h5 : xs.length = done.length + (ds.length + 1) := by rw [e]; simp
          have h6 : ((done.filter t).map f).length < 1000000 := by rw [List.length_map]; omega
          exact Nat.lt_of_lt_of_le h6 (by rw [sizeLine_eq]; decide)
        · have ih2 := ih (done ++ [d]) (by rw [e]; simp)
          have es : (S ++ [Ob.lst ((done.filter t).map f)]).set S.length (.lst ((done.filter t).map f ++ [f d])) = S ++ [.lst (((done ++ [d]).filter t).map f)] := by
            simp [List.filter_append, c]
          rw [es]; exact ih2
      · have ih2 := ih (done ++ [d]) (by rw [e]; simp)
        have es : (done ++ [d]).filter t = done.filter t := by simp [List.filter_append, c]
        rw [es] at ih2
        exact ih2
  exact go [] xs rfl
/-- without a test -/
theorem pLc_all {α : Type} {src : Src} {tg : D → Env → Option Env} {we : WE} {env : Env} {fin : Sto → Prop} {S : Sto} {xs : List α} (it f : α → D) (hz : xs.length < 1000000) (hok : ∀ acc, src.ok (S ++ [.lst acc]))
    (he : ∀ x ∈ xs, ∃ env2, tg (it x) env = some env2 ∧ ∀ (S1 : Sto) (K : K1), (∃ acc, S1 = S ++ [.lst acc]) → K (f x) S1 → we env2 S1 K X0)
    (hf : fin (S ++ [.lst (xs.map f)])) : pLc src tg wYes we S.length env fin (xs.map it) (S ++ [.lst []]) := by
  refine pLc_map it f (fun _ => true) hz hok (fun d hd => ?_) (by rw [List.filter_eq_self.mpr fun _ _ => rfl]; exact hf)
  obtain ⟨env2, h1, h2⟩ := he d hd
  exact ⟨env2, h1, fun S1 K _ h => h, fun _ => h2⟩
/-- over a range -/
theorem pLc_rg {lo : Int} {n : Nat} {tg : D → Env → Option Env} {we : WE} {env : Env} {fin : Sto → Prop} {S : Sto} (f : Nat → D) (hz : n < 1000000)
    (he : ∀ i, i < n → ∃ env2, tg (.z (.int (lo + (i : Int)))) env = some env2 ∧ ∀ (S1 : Sto) (K : K1), (∃ acc, S1 = S ++ [.lst acc]) → K (f i) S1 → we env2 S1 K X0)
    (hf : fin (S ++ [.lst ((List.range n).map f)])) : pLc (rgD lo n) tg wYes we S.length env fin (rgD lo n).items (S ++ [.lst []]) :=
  pLc_all (xs := List.range n) (fun i => .z (.int (lo + (i : Int)))) f (by rw [List.length_range]; exact hz) (fun _ => trivial) (fun i hi => he i (List.mem_range.mp hi)) hf
/-! ### loops by an invariant over the turn -/
theorem pFor_each {src : Src} {g : WG} {body : WS} {k : KS} {items : List D} {env : Env} {S : Sto} (I : Nat → Env → Sto → Prop) (h0 : I 0 env S) (hok : ∀ i env S, i ≤ items.length → I i env S → src.ok S)
    (hs : ∀ i d env S (Q : Env → Sto → Prop), items[i]? = some d → I i env S → (∀ env' S', I (i + 1) env' S' → Q env' S') → g d env S fun env1 S1 => body { k with nx := Q, ct := Q, bk := k.nx } env1 S1)
    (hd : ∀ env S, I items.length env S → k.nx env S) : pFor src g body k items env S := by
  have go : ∀ (rest : List D) (i : Nat) env S, items.drop i = rest → i ≤ items.length → I i env S → pFor src g body k rest env S := by
    intro rest
    induction rest with
    | nil =>
      intro i env S e hi h
      rw [pFor.nil]
      have : i = items.length := by
        have := congrArg List.length e
        rw [List.length_drop] at this
        simp at this
        omega
      subst this
      exact ⟨hok _ _ _ (Nat.le_refl _) h, hd _ _ h⟩
    | cons d ds ih =>
      intro i env S e hi h
      rw [pFor.cons]
      have hlt : i < items.length := by
        have := congrArg List.length e
        rw [List.length_drop] at this
        simp at this
        omega
      have hget : items[i]? = some d := by
        have := congrArg (fun l => l[0]?) e
        simpa using this
      exact ⟨hok _ _ _ hi h, hs i d env S _ hget h fun env' S' h' => ih (i + 1) env' S' (by rw [← List.drop_drop, e]; rfl) hlt h'⟩
  exact go _ 0 env S rfl (Nat.zero_le _) h0
theorem pFor_range {lo : Int} {n : Nat} {g : WG} {body : WS} {k : KS} {env : Env} {S : Sto} (I : Nat → Env → Sto → Prop) (h0 : I 0 env S)
    (hs : ∀ (i : Nat) env S (Q : Env → Sto → Prop), i < n → I i env S → (∀ env' S', I (i + 1) env' S' → Q env' S') → g (.z (.int (lo + (i : Int)))) env S fun env1 S1 => body { k with nx := Q, ct := Q, bk := k.nx } env1 S1)
    (hd : ∀ env S, I n env S → k.nx env S) : pFor (rgD lo n) g body k (rgD lo n).items env S := by
  have hl : (rgD lo n).items.length = n := by simp [rgD]
  refine pFor_each I h0 (fun _ _ _ _ _ => trivial) (fun i d env S Q hi h hQ => ?_) (fun env S h => hd env S (by rw [hl] at h; exact h))
  have hlt : i < n := by
    have := (List.getElem?_eq_some_iff.mp hi).1
    rw [hl] at this; exact this
  have : d = .z (.int (lo + (i : Int))) := by
    have e : (rgD lo n).items[i]? = some (.z (.int (lo + (i : Int)))) := by
      show ((List.range n).map _)[i]? = _
      rw [List.getElem?_map, List.getElem?_range hlt]; rfl
    exact Option.some.inj (hi.symm.trans e)
  subst this
  exact hs i env S Q hlt h hQ
theorem pWhile_by {t : WT} {body : WS} {k : KS} {env : Env} {S : Sto} (P : Nat → Env → Sto → Prop) (m : Nat) (h0 : P m env S)
    (hs : ∀ m env S (Q : Env → Sto → Prop), P m env S → (∀ m' env' S', m' < m → P m' env' S' → Q env' S') → t env S (fun b S1 => pIf b (body { k with nx := Q, ct := Q, bk := k.nx } env S1) (k.nx env S1)) k.ex) : pWhile t body k env S := by
  exact ⟨⟨P, ⟨m, h0⟩, fun m env S h => hs m env S _ h fun m' env' S' hm h' => ⟨m', hm, h'⟩⟩⟩
/-! ### what lies further down the store -/
theorem sto_last {S : Sto} {o : Ob} : (S ++ [o])[S.length]? = some o := by simp
theorem sto_app {S T : Sto} {n : Nat} {o : Ob} (h : S[n]? = some o) : (S ++ T)[n]? = some o := by
  rw [List.getElem?_append_left (List.getElem?_eq_some_iff.mp h).1]; exact h
theorem lsD_at {S : Sto} {n : Nat} {ds : List D} (h : S[n]? = some (.lst ds)) : lsD S (.r n) = some ds := by
  show (match S[n]? with | some (.lst ds) => some ds | _ => none) = some ds
  rw [h]
theorem lsR_at {S : Sto} {n : Nat} {ds : List D} (h : S[n]? = some (.lst ds)) : lsR S n = some ds := by unfold lsR; rw [h]
theorem lenD_at {S : Sto} {n : Nat} {ds : List D} (h : S[n]? = some (.lst ds)) : lenD S (.r n) = some ds.length := by
  show (match S[n]? with | some (.lst ds) => some ds.length | some (.dic kvs) => some kvs.length | _ => none) = some ds.length
  rw [h]
theorem allZ_map {α : Type} (f : α → PyData) : ∀ xs : List α, allZ (xs.map fun x => .z (f x)) = some (xs.map f)
  | [] => rfl
  | x :: xs => by simp [allZ, allZ_map f xs]
theorem mkT_map {α : Type} (f : α → PyData) (xs : List α) : mkT (xs.map fun x => .z (f x)) = .z (.tuple (xs.map f)) := by unfold mkT; rw [allZ_map]
theorem Vzs.map {S : Sto} {α : Type} (f : α → PyData) : ∀ xs : List α, Vzs S (xs.map fun x => .z (f x)) (xs.map f)
  | [] => .nil
  | x :: xs => .cons .z (Vzs.map f xs)
theorem Vws.map {S : Sto} {α : Type} (f : α → PyData) : ∀ xs : List α, Vws S (xs.map fun x => .z (f x)) (xs.map f)
  | [] => .nil
  | x :: xs => .cons .z (Vws.map f xs)
theorem lst_eq {a b : List D} {gs : Sto} (h : a = b) : Ob.lst a :: gs = Ob.lst b :: gs := by rw [h]
theorem range_snoc {α : Type} (f : Nat → α) (n : Nat) : (List.range (n + 1)).map f = (List.range n).map f ++ [f n] := by rw [List.range_succ, List.map_append]; rfl
theorem set0_app {A B : Ob} {gs T : Sto} : List.set (A :: gs ++ T) 0 B = B :: (gs ++ T) := rfl
theorem set0 {A B : Ob} {gs : Sto} : List.set (A :: gs) 0 B = B :: gs := rfl
end PL

set_option Elab.async false
set_option linter.all false
set_option maxRecDepth 100000
/-! PL, part 12: the shape of data; equality of data -/
namespace PL
open PySem L2

/-- texts of real signs, at most n deep -/
def Shp (n : Nat) (d : PyData) : Prop := d.canLay0 = true ∧ d.depth ≤ n
theorem Shp.ok {n : Nat} {d : PyData} (h : Shp n d) (hn : n ≤ 64 := by decide) : SeqAt.shaped d = true := by
  unfold SeqAt.shaped
  rw [h.1, decide_eq_true (Nat.le_trans h.2 hn)]; rfl
theorem Shp.refl {n : Nat} {d : PyData} (h : Shp n d) : PyData.eqv d d = true := SeqAt.eqv_refl d h.1
theorem Shp.mono {n m : Nat} {d : PyData} (h : Shp n d) (hm : n ≤ m) : Shp m d := ⟨h.1, Nat.le_trans h.2 hm⟩
theorem Shp.int {n : Nat} {i : Int} : Shp n (.int i) := ⟨by simp [PyData.canLay0], by simp [PyData.depth]⟩
theorem Shp.bool {n : Nat} {i : Bool} : Shp n (.bool i) := ⟨by simp [PyData.canLay0], by simp [PyData.depth]⟩
theorem Shp.none {n : Nat} : Shp n .none := ⟨by simp [PyData.canLay0], by simp [PyData.depth]⟩
theorem Shp.str {n : Nat} {x : Str} (h : PyData.strOk x = true) : Shp n (.str x) := ⟨by simpa [PyData.canLay0] using h, by simp [PyData.depth]⟩
theorem shpAll {n : Nat} : ∀ {ds : List PyData}, (∀ d ∈ ds, Shp n d) → PyData.canLayAll0 ds = true ∧ PyData.depthAll ds ≤ n
  | [], _ => ⟨by simp [PyData.canLayAll0], by simp [PyData.depthAll]⟩
  | d :: ds, h => by
    obtain ⟨h1, h2⟩ := shpAll fun e he => h e (List.mem_cons_of_mem _ he)
    have h3 := h d List.mem_cons_self
    refine ⟨by simp [PyData.canLayAll0, h1, h3.1], ?_⟩
    simp only [PyData.depthAll]
    exact Nat.max_le.mpr ⟨h3.2, h2⟩
theorem Shp.list {n : Nat} {ds : List PyData} (h : ∀ d ∈ ds, Shp n d) : Shp (n + 1) (.list ds) := by
  obtain ⟨h1, h2⟩ := shpAll h
  refine ⟨by simpa [PyData.canLay0] using h1, ?_⟩
  simp only [PyData.depth]; omega
theorem Shp.tuple {n : Nat} {ds : List PyData} (h : ∀ d ∈ ds, Shp n d) : Shp (n + 1) (.tuple ds) := by
  obtain ⟨h1, h2⟩ := shpAll h
  refine ⟨by simpa [PyData.canLay0] using h1, ?_⟩
  simp only [PyData.depth]; omega
theorem Shp.lists {α : Type} {n : Nat} {f : α → PyData} {xs : List α} (h : ∀ x ∈ xs, Shp n (f x)) : Shp (n + 1) (.list (xs.map f)) := .list fun d hd => by
  obtain ⟨x, hx, rfl⟩ := List.mem_map.mp hd
  exact h x hx
theorem Shp.tup2 {n : Nat} {a b : PyData} (h1 : Shp n a) (h2 : Shp n b) : Shp (n + 1) (.tuple [a, b]) := .tuple fun d hd => by
  simp only [List.mem_cons, List.not_mem_nil, or_false] at hd
  rcases hd with rfl | rfl <;> assumption
theorem Shp.tup3 {n : Nat} {a b c : PyData} (h1 : Shp n a) (h2 : Shp n b) (h3 : Shp n c) : Shp (n + 1) (.tuple [a, b, c]) := .tuple fun d hd => by
  simp only [List.mem_cons, List.not_mem_nil, or_false] at hd
  rcases hd with rfl | rfl | rfl <;> assumption
theorem Shp.tup4 {n : Nat} {a b c e : PyData} (h1 : Shp n a) (h2 : Shp n b) (h3 : Shp n c) (h4 : Shp n e) : Shp (n + 1) (.tuple [a, b, c, e]) := .tuple fun d hd => by
  simp only [List.mem_cons, List.not_mem_nil, or_false] at hd
  rcases hd with rfl | rfl | rfl | rfl <;> assumption
/-- two things seen as one datum are equal -/
theorem eq_same {n : Nat} {S : Sto} {x y : D} {d : PyData} {k : Bool → Prop} (h1 : Vw S x d) (h2 : Vw S y d) (hs : Shp n d) (hn : n ≤ 64) (hk : k true) : bEqG x y S k := by
  exact ⟨⟨d, d, h1, h2, hs.ok hn, hs.ok hn, by rw [hs.refl]; exact hk⟩⟩
/-- by a decided equality -/
theorem eq_dec {n : Nat} {S : Sto} {x y : D} {d e : PyData} {k : Bool → Prop} {b : Bool} (h1 : Vw S x d) (h2 : Vw S y e) (hs : Shp n d) (ht : Shp n e) (hn : n ≤ 64) (hb : PyData.eqv d e = b) (hk : k b) : bEqG x y S k := by
  exact ⟨⟨d, e, h1, h2, hs.ok hn, ht.ok hn, by rw [hb]; exact hk⟩⟩
end PL

set_option Elab.async false
set_option linter.all false
set_option maxRecDepth 100000
/-! PL, part 13: answers with fresh lists in them, which the caller may write -/
namespace PL
open PySem L2

/-- an answer: frozen data, a fresh list, a tuple -/
inductive RT where
  | z (d : PyData)
  | l (rs : List RT)
  | t (rs : List RT)
mutual
/-- as the caller's store takes it in, from the place n on -/
def al : RT → Nat → D × Sto
  | .z d, _ => (.z d, [])
  | .l rs, n => (.r (n + (als rs n).2.length), (als rs n).2 ++ [.lst (als rs n).1])
  | .t rs, n => (.t (als rs n).1, (als rs n).2)
def als : List RT → Nat → List D × Sto
  | [], _ => ([], [])
  | r :: rs, n => ((al r n).1 :: (als rs (n + (al r n).2.length)).1, (al r n).2 ++ (als rs (n + (al r n).2.length)).2)
end
theorem als_zs (n : Nat) : ∀ es : List PyData, als (es.map .z) n = (es.map .z, [])
  | [] => by simp [als]
  | e :: es => by simp [als, al, als_zs n es]
mutual
/-- frozen data that reads no place of U -/
inductive Vu (S : Sto) (U : List Nat) : D → PyData → Prop
  | z {d : PyData} : Vu S U (.z d) d
  | r {n : Nat} {ds : List D} {es : List PyData} : n ∉ U → S[n]? = some (.lst ds) → Vus S U ds es → Vu S U (.r n) (.list es)
  | t {ds : List D} {es : List PyData} : Vus S U ds es → Vu S U (.t ds) (.tuple es)
inductive Vus (S : Sto) (U : List Nat) : List D → List PyData → Prop
  | nil : Vus S U [] []
  | cons {d : D} {ds : List D} {e : PyData} {es : List PyData} : Vu S U d e → Vus S U ds es → Vus S U (d :: ds) (e :: es)
end
mutual
/-- an answer seen in a store; the places of its fresh lists -/
inductive VR (S : Sto) (U : List Nat) : D → RT → List Nat → Prop
  | z {d : D} {e : PyData} : Vu S U d e → VR S U d (.z e) []
  | l {n : Nat} {ds : List D} {rs : List RT} {ns : List Nat} : S[n]? = some (.lst ds) → VRs S U ds rs ns → VR S U (.r n) (.l rs) (ns ++ [n])
  | t {ds : List D} {rs : List RT} {ns : List Nat} : VRs S U ds rs ns → VR S U (.t ds) (.t rs) ns
inductive VRs (S : Sto) (U : List Nat) : List D → List RT → List Nat → Prop
  | nil : VRs S U [] [] []
  | cons {d : D} {ds : List D} {r : RT} {rs : List RT} {ns ms : List Nat} : VR S U d r ns → VRs S U ds rs ms → VRs S U (d :: ds) (r :: rs) (ns ++ ms)
end
theorem VRs.zs {S : Sto} {U : List Nat} {α : Type} (f : α → PyData) : ∀ xs : List α, VRs S U (xs.map fun x => .z (f x)) (xs.map fun x => .z (f x)) []
  | [] => .nil
  | x :: xs => .cons (ns := []) (.z .z) (VRs.zs f xs)
open Classical in
noncomputable def fu (μ : Nat → Addr) (n : Nat) (U : List Nat) (F H : Hp) : Hp := fun a => match F a with
  | some o => some o
  | none => if ∃ i, i < n ∧ i ∉ U ∧ μ i = a then H a else none
section
variable {B F0 F F' H H' : Hp} {μ μ' μ2 : Nat → Addr} {S S' : Sto} {U : List Nat}
theorem fu_sub : Sub F (fu μ S.length U F H) := fun a o h => by unfold fu; rw [h]
theorem fu_at {i : Nat} (hi : i < S.length) (hu : i ∉ U) (hF : F (μ i) = none) : fu μ S.length U F H (μ i) = H (μ i) := by
  unfold fu; rw [hF]; exact if_pos ⟨i, hi, hu, rfl⟩
theorem fu_cases {a : Addr} {o : HO} (h : fu μ S.length U F H a = some o) : F a = some o ∨ (F a = none ∧ (∃ i, i < S.length ∧ i ∉ U ∧ μ i = a) ∧ H a = some o) := by
  unfold fu at h
  split at h
  · rename_i e; cases h; exact .inl e
  · rename_i e
    by_cases c : ∃ i, i < S.length ∧ i ∉ U ∧ μ i = a
    · exact .inr ⟨e, c, (if_pos c).symm.trans h⟩
    · rw [if_neg c] at h; cases h
mutual
theorem Vu.rp (R : Rl B F0 μ S F H) : ∀ (e : PyData) (d : D) (v : V), Vu S U d e → RpD B F μ S.length d v → RpT (LF (fu μ S.length U F H)) (TF (fu μ S.length U F H)) e v
  | .none, _, _, w, h => by cases w with | z => cases h with | z a => cases a; exact .non
  | .bool _, _, _, w, h => by cases w with | z => cases h with | z a => cases a; exact .bl _
  | .int _, _, _, w, h => by cases w with | z => cases h with | z a => cases a; exact .int _
  | .str _, _, _, w, h => by cases w with | z => cases h with | z a => cases a; exact .str _
  | .dict _, _, _, w, h => by cases w with | z => cases h with | z a => cases a
  | .list es, _, _, w, h => by
    cases w with
    | z => cases h with | z a => exact RpT.mono (fun _ _ q => fu_sub _ _ q) (fun _ _ q => fu_sub _ _ q) _ _ a
    | r nu e ws =>
      cases h with
      | r hi =>
        obtain ⟨vs, hv, rv⟩ := R.ob _ _ e
        exact .lst (show fu μ S.length U F H _ = _ by rw [fu_at hi nu (R.nf _ hi)]; exact hv) (Vus.rp R es _ vs ws rv)
  | .tuple es, _, _, w, h => by
    cases w with
    | z => cases h with | z a => exact RpT.mono (fun _ _ q => fu_sub _ _ q) (fun _ _ q => fu_sub _ _ q) _ _ a
    | t ws => cases h with | t e rv => exact .tup (fu_sub _ _ e) (Vus.rp R es _ _ ws rv)
theorem Vus.rp (R : Rl B F0 μ S F H) : ∀ (es : List PyData) (ds : List D) (vs : List V), Vus S U ds es → RpDs B F μ S.length ds vs → RpTs (LF (fu μ S.length U F H)) (TF (fu μ S.length U F H)) es vs
  | [], _, _, w, h => by cases w; cases h; exact .nil
  | e :: es, _, _, w, h => by
    cases w with | cons a b => cases h with | cons r s => exact .cons (Vu.rp R e _ _ a r) (Vus.rp R es _ _ b s)
end
end
section
variable {B F0 F H H' A : Hp} {μ μ2 : Nat → Addr} {S : Sto} {U : List Nat} {N : Nat}
/-- what the caller holds then -/
def Got (B : Hp) (F2 : Hp) (μ μ2 : Nat → Addr) (N : Nat) (H : Hp) (ns : List Nat) (T : Sto) : Prop := T.length = ns.length ∧ ∀ (j n : Nat) (o : Ob), ns[j]? = some n → T[j]? = some o → ObRp B F2 μ2 N H (μ n) o
theorem Got.app {F2 : Hp} {ns ms : List Nat} {T T2 : Sto} (h1 : Got A F2 μ μ2 N H ns T) (h2 : Got A F2 μ μ2 N H ms T2) : Got A F2 μ μ2 N H (ns ++ ms) (T ++ T2) := by
  refine ⟨by simp [h1.1, h2.1], fun j n o hn ho => ?_⟩
  by_cases hj : j < ns.length
  · rw [List.getElem?_append_left hj] at hn
    rw [List.getElem?_append_left (by rw [h1.1]; exact hj)] at ho
    exact h1.2 j n o hn ho
  · rw [List.getElem?_append_right (by omega)] at hn
    rw [List.getElem?_append_right (by rw [h1.1]; omega), h1.1] at ho
    exact h2.2 _ n o hn ho
mutual
theorem VR.rp (R : Rl B F0 μ S F H) : ∀ (rt : RT) (d : D) (v : V) (ns : List Nat) (m : Nat), VR S U d rt ns → RpD B F μ S.length d v → (∀ j n, ns[j]? = some n → μ2 (m + j) = μ n) → m + ns.length ≤ N →
    RpD A (fu μ S.length U F H) μ2 N (al rt m).1 v ∧ Got A (fu μ S.length U F H) μ μ2 N H ns (al rt m).2
  | .z e, d, v, ns, m, w, h, hm, hN => by
    cases w with
    | z w => exact ⟨by unfold al; exact .z (Vu.rp R e d v w h), by unfold al; exact ⟨rfl, fun j n o a b => by simp at a⟩⟩
  | .t rs, d, v, ns, m, w, h, hm, hN => by
    cases w with
    | t w =>
      cases h with
      | t e rv =>
        obtain ⟨r1, g1⟩ := VRs.rp R rs _ _ ns m w rv hm hN
        unfold al
        exact ⟨.t (fu_sub _ _ e) r1, g1⟩
  | .l rs, d, v, ns, m, w, h, hm, hN => by
    cases w with
    | @l n ds _ ns e w =>
      cases h with
      | r hi =>
        obtain ⟨vs, hv, rv⟩ := R.ob _ _ e
        rw [List.length_append, List.length_singleton] at hN
        obtain ⟨r1, g1⟩ := VRs.rp R rs ds vs ns m w rv (fun j k hk => hm j k (by rw [List.getElem?_append_left (List.getElem?_eq_some_iff.mp hk).1]; exact hk)) (by omega)
        have e1 : μ2 (m + ns.length) = μ n := hm _ _ (by simp)
        unfold al
        refine ⟨?_, g1.app ⟨rfl, fun j k o a b => ?_⟩⟩
        · rw [g1.1, ← e1]; exact .r (by omega)
        · have hj : j = 0 := by
            have := (List.getElem?_eq_some_iff.mp a).1
            simp at this; exact this
          subst hj
          cases a; cases b
          exact ⟨vs, hv, r1⟩
theorem VRs.rp (R : Rl B F0 μ S F H) : ∀ (rs : List RT) (ds : List D) (vs : List V) (ns : List Nat) (m : Nat), VRs S U ds rs ns → RpDs B F μ S.length ds vs → (∀ j n, ns[j]? = some n → μ2 (m + j) = μ n) → m + ns.length ≤ N →
    RpDs A (fu μ S.length U F H) μ2 N (als rs m).1 vs ∧ Got A (fu μ S.length U F H) μ μ2 N H ns (als rs m).2
  | [], _, _, ns, m, w, h, hm, hN => by
    cases w; cases h
    unfold als
    exact ⟨.nil, rfl, fun j n o a b => by simp at a⟩
  | r :: rs, _, _, ns, m, w, h, hm, hN => by
    cases w with
    | @cons d ds _ _ ns ms w1 w2 =>
      cases h with
      | cons h1 h2 =>
        rw [List.length_append] at hN
        obtain ⟨r1, g1⟩ := VR.rp R r d _ ns m w1 h1 (fun j k hk => hm j k (by rw [List.getElem?_append_left (List.getElem?_eq_some_iff.mp hk).1]; exact hk)) (by omega)
        obtain ⟨r2, g2⟩ := VRs.rp R rs ds _ ms (m + (al r m).2.length) w2 h2 (fun j k hk => by
          rw [g1.1, Nat.add_assoc]
          refine hm _ k ?_
          rw [List.getElem?_append_right (by omega), Nat.add_sub_cancel_left]
          exact hk) (by rw [g1.1]; omega)
        unfold als
        exact ⟨.cons r1 r2, g1.app g2⟩
end
end
section
variable {B F0 F F' H H' : Hp} {μ μ' : Nat → Addr} {S S' : Sto} {U : List Nat}
def muU (μ μ' : Nat → Addr) (n : Nat) (U : List Nat) : Nat → Addr := fun i => if i < n then μ i else μ' (U.getD (i - n) 0)
/-- back in the caller's state, with the fresh lists -/
theorem Rl.backU (R : Rl B F0 μ S F H) (R' : Rl H F μ' S' F' H') (x : Sub F F') {T : Sto} (hU : ∀ n ∈ U, n < S'.length) (nd : U.Nodup) (g : Got B (fu μ' S'.length U F' H') μ' (muU μ μ' S.length U) (S.length + U.length) H' U T) :
    Rl B F0 (muU μ μ' S.length U) (S ++ T) (fu μ' S'.length U F' H') H' ∧ Xt μ S F (muU μ μ' S.length U) (S ++ T) (fu μ' S'.length U F' H') := by
  have s1 : Sub F (fu μ' S'.length U F' H') := x.trans fu_sub
  have m1 : ∀ i, i < S.length → muU μ μ' S.length U i = μ i := fun i hi => if_pos hi
  have hl : (S ++ T).length = S.length + U.length := by rw [List.length_append, g.1]
  have m2 : ∀ i, i < S.length + U.length → i < S.length ∨ ∃ j n, i = S.length + j ∧ U[j]? = some n ∧ n ∈ U ∧ muU μ μ' S.length U i = μ' n := by
    intro i hi
    by_cases h : i < S.length
    · exact .inl h
    · have hj : i - S.length < U.length := by omega
      refine .inr ⟨i - S.length, U[i - S.length], by omega, List.getElem?_eq_getElem hj, List.getElem_mem hj, ?_⟩
      unfold muU
      rw [if_neg h, List.getD_eq_getElem?_getD, List.getElem?_eq_getElem hj]
      rfl
  have ne : ∀ i n, i < S.length → n ∈ U → μ i ≠ μ' n := fun i n hi hn e => by
    obtain ⟨u, hu⟩ := R.has hi
    have := R'.nb n (hU n hn)
    rw [← e, hu] at this; cases this
  refine ⟨⟨R.bh.trans R'.bh, fun a o h => ?_, R.f0.trans s1, fun a o h => ?_, fun i j hi hj e => ?_, fun i hi => ?_, fun i hi => ?_, fun i o h => ?_⟩, ⟨s1, by rw [hl]; omega, m1⟩⟩
  · rcases fu_cases h with h | ⟨_, _, h⟩
    · exact R'.fh a o h
    · exact h
  · rcases fu_cases h with h | ⟨_, ⟨i, hi, _, rfl⟩, _⟩
    · rcases R'.fn a o h with q | q
      · exact R.fn a o q
      · exact .inr (R.bh.non q)
    · exact .inr (R.bh.non (R'.nb i hi))
  · rw [hl] at hi hj
    rcases m2 i hi with hi | ⟨a, n, rfl, ha, hn, e1⟩
    · rcases m2 j hj with hj | ⟨b, m, rfl, hb, hm, e2⟩
      · rw [m1 i hi, m1 j hj] at e; exact R.inj i j hi hj e
      · rw [m1 i hi, e2] at e; exact absurd e (ne i m hi hm)
    · rcases m2 j hj with hj | ⟨b, m, rfl, hb, hm, e2⟩
      · rw [e1, m1 j hj] at e; exact absurd e.symm (ne j n hj hn)
      · rw [e1, e2] at e
        have := R'.inj n m (hU n hn) (hU m hm) e
        subst this
        have h1 := (List.getElem?_eq_some_iff.mp ha).1
        have := (List.getElem?_inj h1 nd).mp (ha.trans hb.symm)
        rw [this]
  · rw [hl] at hi
    rcases m2 i hi with hi | ⟨a, n, rfl, ha, hn, e1⟩
    · rw [m1 i hi]; exact R.nb i hi
    · rw [e1]; exact R.bh.non (R'.nb n (hU n hn))
  · rw [hl] at hi
    rcases m2 i hi with hi | ⟨a, n, rfl, ha, hn, e1⟩
    · rw [m1 i hi]
      obtain ⟨u, hu⟩ := R.has hi
      cases q : fu μ' S'.length U F' H' (μ i) with
      | none => rfl
      | some o =>
        rcases fu_cases q with h | ⟨_, ⟨j, hj, _, e⟩, _⟩
        · rcases R'.fn _ o h with q | q
          · rw [R.nf i hi] at q; cases q
          · rw [hu] at q; cases q
        · have := R'.nb j hj
          rw [e, hu] at this; cases this
    · rw [e1]
      cases q : fu μ' S'.length U F' H' (μ' n) with
      | none => rfl
      | some o =>
        rcases fu_cases q with h | ⟨_, ⟨j, hj, hjU, e⟩, _⟩
        · rw [R'.nf n (hU n hn)] at h; cases h
        · have := R'.inj j n hj (hU n hn) e
          subst this
          exact absurd hn hjU
  · have hi := Rl.lt h
    rw [hl] at hi ⊢
    rcases m2 i hi with hi | ⟨a, n, rfl, ha, hn, e1⟩
    · rw [List.getElem?_append_left hi] at h
      rw [m1 i hi]
      obtain ⟨u, hu⟩ := R.has hi
      exact (R.ob i o h).mono s1 (Nat.le_add_right _ _) m1 ((R'.bh _ _ hu).trans hu.symm)
    · rw [List.getElem?_append_right (by omega), Nat.add_sub_cancel_left] at h
      rw [e1]
      exact g.2 a n o ha h
end
mutual
theorem VR.lt {S : Sto} {U : List Nat} : ∀ (rt : RT) (d : D) (ns : List Nat), VR S U d rt ns → ∀ n ∈ ns, n < S.length
  | .z _, _, _, w, n, hn => by cases w; simp at hn
  | .t rs, _, _, w, n, hn => by cases w with | t w => exact VRs.lt rs _ _ w n hn
  | .l rs, _, _, w, n, hn => by
    cases w with
    | l e w =>
      simp only [List.mem_append, List.mem_singleton] at hn
      rcases hn with hn | rfl
      · exact VRs.lt rs _ _ w n hn
      · exact (List.getElem?_eq_some_iff.mp e).1
theorem VRs.lt {S : Sto} {U : List Nat} : ∀ (rs : List RT) (ds : List D) (ns : List Nat), VRs S U ds rs ns → ∀ n ∈ ns, n < S.length
  | [], _, _, w, n, hn => by cases w; simp at hn
  | r :: rs, _, _, w, n, hn => by
    cases w with
    | cons w1 w2 =>
      rcases List.mem_append.mp hn with hn | hn
      · exact VR.lt r _ _ w1 n hn
      · exact VRs.lt rs _ _ w2 n hn
end
abbrev Fsr := List PyData → (RT → Prop) → (Ex → Prop) → Prop
def frr (p : Fsr) : Spc := fun ds S K KX => ∃ es, Vws S ds es ∧ p es (fun rt => K (al rt S.length).1 (S ++ (al rt S.length).2)) fun x => KX x S
def lentR (p : Fsr) : Spc := fun ds S K KX => ∃ es kd kx, ds = es.map bz ∧ S = [] ∧ p es kd kx ∧ (∀ d S' rt U, VR S' U d rt U → U.Nodup → kd rt → K d S') ∧ ∀ x S' x', ExV S' x x' → kx x' → KX x S'
theorem FnOk.frr {P : Program} {w : World} {K : PySem.W.Frag} {mg : Str → Option Value} {base : Heap} {CX : CXT} {k : Nat} {f : Addr} {fd : FuncData} {ps : List Str} {p : Fsr} (h : FnOk P w K mg base CX k f fd ps (spOf (lentR p))) : FnOk P w K mg base CX k f fd ps (spOf (PL.frr p)) := by
  refine h.imp fun vs H Q E q => ?_
  obtain ⟨B, F0, w, ds, K, KX, R, r, ⟨es, vw, q⟩, k, kx⟩ := q
  have R0 : Rl H w.F w.μ [] w.F H := ⟨Sub.refl _, R.fh, Sub.refl _, fun a o e => .inl e, fun i j hi => absurd hi (Nat.not_lt_zero _), fun i hi => absurd hi (Nat.not_lt_zero _), fun i hi => absurd hi (Nat.not_lt_zero _), fun i o e => by simp at e⟩
  refine ⟨H, w.F, ⟨w.μ, [], w.F⟩, es.map bz, fun d S' => ∃ rt U, VR S' U d rt U ∧ U.Nodup ∧ K (al rt w.S.length).1 (w.S ++ (al rt w.S.length).2), fun x S' => ∃ x', ExV S' x x' ∧ KX x' w.S, R0, RpDs.bzs (Vws.rp R _ _ _ vw r), ⟨es, _, _, rfl, rfl, q, fun d S' rt U a nd b => ⟨rt, U, a, nd, b⟩, fun x S' x' a b => ⟨x', a, b⟩⟩, ?_, ?_⟩
  · rintro d S' v H' μ' F' R' X' r' ⟨rt, U, hv, nd, hk⟩
    have hm : ∀ j n, U[j]? = some n → muU w.μ μ' w.S.length U (w.S.length + j) = μ' n := fun j n h => by
      unfold muU
      rw [if_neg (by omega), Nat.add_sub_cancel_left, List.getD_eq_getElem?_getD, h]; rfl
    obtain ⟨r2, g2⟩ := VR.rp (A := B) (N := w.S.length + U.length) R' rt d v U w.S.length hv r' hm (Nat.le_refl _)
    obtain ⟨R2, X2⟩ := R.backU R' X'.f (VR.lt rt d U hv) nd g2
    refine k _ _ _ _ _ _ R2 X2 ?_ hk
    rw [List.length_append, g2.1]
    exact r2
  · rintro x S' H' μ' F' cls dd R' X' r' ⟨x', ⟨hc, hf⟩, hk⟩
    obtain ⟨R2, X2⟩ := R.back R' X'.f
    refine kx x' _ _ _ _ cls dd R2 X2 ⟨by rw [hc]; exact r'.1, ?_⟩ hk
    obtain ⟨_, r2⟩ := r'
    cases h1 : x.fs with
    | none =>
      cases h2 : x'.fs with
      | none => rw [h1] at r2; exact r2
      | some gs => rw [h1, h2] at hf; exact hf.elim
    | some fs =>
      cases h2 : x'.fs with
      | none => rw [h1, h2] at hf; exact hf.elim
      | some gs =>
        rw [h1] at r2
        rw [h1, h2] at hf
        obtain ⟨a, ws, e1, e2, e3⟩ := r2
        refine ⟨a, ws, e1, e2, ?_⟩
        clear e2 h1 h2
        induction hf generalizing ws with
        | nil => cases e3; exact .nil
        | cons q t ih =>
          cases e3 with
          | cons r1 r2 =>
            obtain ⟨n1, e, ve, q2⟩ := q
            refine .cons ⟨n1.symm.trans r1.1, ?_⟩ (ih _ r2)
            rw [q2]
            exact .z (Vz.rp R' e _ _ ve r1.2)
theorem Fc.frr {P : Program} {w : World} {K : PySem.W.Frag} {mg : Str → Option Value} {base : Heap} {x : Str} {k : Nat} {ps : List Str} {p : Fsr} (c : Fc P w K mg base x k ps (lentR p)) : Fc P w K mg base x k ps (PL.frr p) := by
  obtain ⟨f, fd, h, r⟩ := c.ex
  exact ⟨f, fd, FnOk.frr h, r⟩
/-- typed -/
def fsr {α : Type} (enc : α → List PyData) (pre : α → Prop) (out : α → RT) : Fsr := fun es k _ => ∃ a, es = enc a ∧ pre a ∧ k (out a)
theorem fsr_len {α : Type} {enc : α → List PyData} {pre : α → Prop} {out : α → RT} {n : Nat} (h : ∀ a, (enc a).length = n) : ∀ ds S K KX, lentR (fsr enc pre out) ds S K KX → ds.length = n := by
  rintro ds S K KX ⟨es, kd, kx, rfl, rfl, ⟨a, rfl, _, _⟩, _⟩
  rw [List.length_map]; exact h a
theorem fsr_ok {α : Type} {enc : α → List PyData} {pre : α → Prop} {out : α → RT} {ws : WS} {N : List Str} (h : ∀ a, pre a → ∀ K KX, (∀ d S' U, VR S' U d (out a) U → U.Nodup → K d S') → ws (ends K KX) (startE N ((enc a).map bz)) []) :
    ∀ ds S K KX, lentR (fsr enc pre out) ds S K KX → ws { nx := fun _ S1 => K (.z .none) S1, rt := K, ex := fun y _ S1 => KX y S1 } (startE N ds) S := by
  rintro ds S K KX ⟨es, kd, kx, rfl, rfl, ⟨a, rfl, hp, hk⟩, hK, _⟩
  exact h a hp K KX fun d S' U v nd => hK d S' _ U v nd hk
theorem fsr_call {α : Type} {enc : α → List PyData} {pre : α → Prop} {out : α → RT} {ds : List D} {S : Sto} {K : K1} {KX : KF} (a : α) (v : Vws S ds (enc a)) (hp : pre a) (h : K (al (out a) S.length).1 (S ++ (al (out a) S.length).2)) : pCall (frr (fsr enc pre out)) ds S K KX := pCall.mk ⟨_, v, a, rfl, hp, h⟩
/-- a fresh list of frozen things -/
def lz {α : Type} (f : α → PyData) (xs : List α) : RT := .l (xs.map fun x => .z (f x))
theorem als_lz {α : Type} (f : α → PyData) (n : Nat) : ∀ xs : List α, als (xs.map fun x => RT.z (f x)) n = (xs.map fun x => .z (f x), [])
  | [] => by simp [als]
  | e :: es => by simp [als, al, als_lz f n es]
theorem al_lz {α : Type} (f : α → PyData) (xs : List α) (n : Nat) : al (lz f xs) n = (.r n, [.lst (xs.map fun x => .z (f x))]) := by
  unfold lz al
  rw [als_lz]
  rfl
theorem VR.lz {S : Sto} {n : Nat} {α : Type} {f : α → PyData} {xs : List α} (h : S[n]? = some (.lst (xs.map fun x => .z (f x)))) : VR S [n] (.r n) (PL.lz f xs) [n] := .l (ns := []) h (VRs.zs f xs)
theorem fsl_call {α β : Type} {enc : α → List PyData} {pre : α → Prop} {f : β → PyData} {out : α → List β} {ds : List D} {S : Sto} {K : K1} {KX : KF} (a : α) (v : Vws S ds (enc a)) (hp : pre a) (h : K (.r S.length) (S ++ [.lst ((out a).map fun x => .z (f x))])) : pCall (frr (fsr enc pre fun a => lz f (out a))) ds S K KX :=
  fsr_call a v hp (by rw [al_lz]; exact h)
/-! views stay, where the store only grows -/
mutual
theorem Vw.sub {S S' : Sto} (h : ∀ (n : Nat) (o : Ob), S[n]? = some o → S'[n]? = some o) : ∀ (e : PyData) (d : D), Vw S d e → Vw S' d e
  | .none, _, w => by cases w <;> constructor
  | .bool _, _, w => by cases w <;> constructor
  | .int _, _, w => by cases w <;> constructor
  | .str _, _, w => by cases w <;> constructor
  | .dict _, _, w => by cases w <;> constructor
  | .list es, _, w => by
    cases w with
    | z => exact .z
    | b => exact .b
    | r e ws => exact .r (h _ _ e) (Vws.sub h es _ ws)
  | .tuple es, _, w => by
    cases w with
    | z => exact .z
    | b => exact .b
    | t ws => exact .t (Vws.sub h es _ ws)
theorem Vws.sub {S S' : Sto} (h : ∀ (n : Nat) (o : Ob), S[n]? = some o → S'[n]? = some o) : ∀ (es : List PyData) (ds : List D), Vws S ds es → Vws S' ds es
  | [], _, w => by cases w; exact .nil
  | e :: es, _, w => by cases w with | cons a b => exact .cons (Vw.sub h e _ a) (Vws.sub h es _ b)
end
theorem Vw.app {S T : Sto} {d : D} {e : PyData} (h : Vw S d e) : Vw (S ++ T) d e := Vw.sub (fun _ _ => sto_app) e d h
theorem Vws.app {S T : Sto} {d : List D} {e : List PyData} (h : Vws S d e) : Vws (S ++ T) d e := Vws.sub (fun _ _ => sto_app) e d h
/-! comprehensions whose elements make lists too -/
theorem pLc_each {src : Src} {tg : D → Env → Option Env} {wt : WT} {we : WE} {L : Nat} {env : Env} {fin : Sto → Prop} {items : List D} {S : Sto} (I : Nat → Sto → Prop) (h0 : I 0 S) (hok : ∀ i S, i ≤ items.length → I i S → src.ok S)
    (hs : ∀ i d S (Q : Sto → Prop), items[i]? = some d → I i S → (∀ S', I (i + 1) S' → Q S') → pGet (tg d env) fun env2 => wt env2 S (fun c S1 => pIf c (we env2 S1 (fun x S2 => pGet (lsR S2 L) fun xs => pReq (xs.length < sizeLine) (Q (S2.set L (.lst (xs ++ [x]))))) X0) (Q S1)) X0)
    (hd : ∀ S, I items.length S → fin S) : pLc src tg wt we L env fin items S := by
  have go : ∀ (rest : List D) (i : Nat) S, items.drop i = rest → i ≤ items.length → I i S → pLc src tg wt we L env fin rest S := by
    intro rest
    induction rest with
    | nil =>
      intro i S e hi h
      rw [pLc.nil]
      have : i = items.length := by
        have := congrArg List.length e
        rw [List.length_drop] at this
        simp at this
        omega
      subst this
      exact ⟨hok _ _ (Nat.le_refl _) h, hd _ h⟩
    | cons d ds ih =>
      intro i S e hi h
      rw [pLc.cons]
      have hlt : i < items.length := by
        have := congrArg List.length e
        rw [List.length_drop] at this
        simp at this
        omega
      have hget : items[i]? = some d := by
        have := congrArg (fun l => l[0]?) e
        simpa using this
      exact ⟨hok _ _ hi h, hs i d S _ hget h fun S' h' => ih (i + 1) S' (by rw [← List.drop_drop, e]; rfl) hlt h'⟩
  exact go _ 0 S rfl (Nat.zero_le _) h0
end PL

set_option Elab.async false
set_option linter.all false
set_option maxRecDepth 100000
/-! PL, part 14: the law's head: facts of the defs by names -/
namespace PL
open PySem PySem.Spec PyProof.Rows L2

theorem fun_of {K : PySem.W.Frag} {x q : Str} {st : Stmt} {f : Addr} {fd : FuncData} (F : FunD K x q (defArgs st) (defBody st) (defScope st) [] [] f fd) : Fun K x q st f fd := by
  obtain ⟨oc, od, dV, kV, doc, pm, an, cdv, ct, osl, h1, h2, h3, h4, h5⟩ := F.ex
  have e : dV = .none := h4.elim (fun z => z.2) fun z => absurd rfl z.1
  subst e
  exact ⟨⟨oc, od, kV, doc, pm, an, cdv, ct, osl, h1, h2, h3⟩, F.kp⟩
abbrev dd (x : Str) (st : Stmt) : He.DefD := ⟨(x, none), x, x, defArgs st, defBody st, defScope st, [], []⟩
/-! the Hook, with a word about lists -/
def obsP (fa : List He.Fa) (fn : List He.DefD) (K : PySem.W.Frag) : Bool × He.AlD := (noLs K, He.obsD fa fn K)
def SaysP (fa : List He.Fa) (fn : List He.DefD) (K : PySem.W.Frag) : Prop := obsP fa fn K = (true, He.valD fn)
theorem SaysP.ls {fa : List He.Fa} {fn : List He.DefD} {K : PySem.W.Frag} (h : SaysP fa fn K) : noLs K = true := congrArg (fun z : Bool × He.AlD => z.1) h
theorem SaysP.sd {fa : List He.Fa} {fn : List He.DefD} {K : PySem.W.Frag} (h : SaysP fa fn K) : He.SaysD fa fn K := congrArg (fun z : Bool × He.AlD => z.2) h
def obsPG (n : Nat) (fa : List He.Fa) (fn : List He.DefD) (g : Addr → Option Obj) : Bool × He.AlD := obsP fa fn (He.frG g (He.asD g n))
def hookP (n : Nat) (fa : List He.Fa) (fn : List He.DefD) : PySem.W.Hook where
  α := Bool × He.AlD
  obs := fun s => obsPG n fa fn s.heap.get?
  val := fun _ => (true, He.valD fn)
  says := fun _ h => ∃ K : PySem.W.Frag, K.In h ∧ SaysP fa fn K
  of := fun _ _ e => ⟨_, He.frG_in, e⟩
  keeps := fun _ _ _ ⟨K, hK, c⟩ k => ⟨K, PySem.W.Frag.In.keeps hK k, c⟩
theorem obsPG_eq {n : Nat} {fa : List He.Fa} {fn : List He.DefD} {g : Addr → Option Obj} {s : Shared} (h : ∀ a, g a = s.heap.get? a) : obsPG n fa fn g = (hookP n fa fn).obs s := by
  have e : g = s.heap.get? := funext h
  rw [e] <;> rfl
/-- a def as its callers know it, by its place among the facts -/
theorem fc_mk {P : Program} {w : World} {K : PySem.W.Frag} {mg : Str → Option Value} {base h : Heap} {x : Str} {k : Nat} {ps : List Str} {sp : Spc} {st : Stmt} {fd : FuncData} (X : K.In h) (G : h.Ns mainGlobals mg) (FD : FunD K x x (defArgs st) (defBody st) (defScope st) [] [] (He.fAd K (x, none)) fd)
    (ok : FnOk P w K mg base (L2.CX P w) k (He.fAd K (x, none)) fd ps (spOf sp)) (g : (He.Fa.glo x).ok K = true)
    (hb : ∀ (kV doc pm : Value) (an : Option Addr) (cdv ct : Value) (us : List Value), us.length = ps.length → bindArgs (PySem.W.fnOf x x (defArgs st) (defBody st) (defScope st) .none kV doc pm an cdv ct) ⟨us, []⟩ = pure (ps.zip us)) : Fc P w K mg base x k ps sp :=
  ⟨_, fd, ok, He.glo_ok X G g, FD.kp, (fun_of FD).binds hb⟩
/-- the end -/
theorem pl_end {l : PySem.W.OpenLaw} {q : Program} {loose : List Str} {XP : (Str → Option Value) → Heap → Prop} {d : DefRec} {x : Str} {k n : Nat} {fa : List He.Fa} {fn : List He.DefD} {st : Stmt}
    (hn : l.most = some 63) (hd : d.name = ("law" : Str)) (hdf : d.params.defaults = []) (hr : Room k callerA)
    (hb : ∀ (kV doc pm : Value) (an : Option Addr) (cdv ct : Value) (us : List Value), us.length = [x].length → bindArgs (PySem.W.fnOf "law" "law" (defArgs st) (defBody st) (defScope st) .none kV doc pm an cdv ct) ⟨us, []⟩ = pure ([x].zip us))
    (F : ∀ (w : World) (K : PySem.W.Frag) (h : Heap) (mg : Str → Option Value), K.In h → h.Ns mainGlobals mg → SaysP fa fn K → ∃ fd, FunD K "law" "law" (defArgs st) (defBody st) (defScope st) [] [] (He.fAd K ("law", none)) fd ∧ mg ("law" : Str) = some (.ref (He.fAd K ("law", none))) ∧ ∀ base : Heap, FnOk l.prog w K mg base (L2.CX l.prog w) k (He.fAd K ("law", none)) fd [x] (spOf lawSp)) :
    PySem.W.WalkO q loose XP (hookP n fa fn).says l.row.toRowW d [] (fun f vs => PySem.call f vs) := by
  refine Att.attach_call hn hdf fun w s₀ s₁ mg mb fa' o pm cd doc a vs ns G Y ho hd' hcd hmg hobj hints hlen hg => ?_
  obtain ⟨K, KX, c⟩ := Y
  obtain ⟨fd, FD, e, hF⟩ := F w K _ mg KX G.T.g c
  have hmg2 : mg ("law" : Str) = some (.ref fa') := by rw [← hd]; exact hmg
  rw [e] at hmg2
  cases hmg2
  exact law_call KX G.T.g G.T.b G.T.builtins G.T.nolimit hg hobj hints (Nat.le_trans hlen (by decide)) hr (fun base _ _ => law_imp c.ls (hF base)) (fun s u => FD.bindsA (ps := [x]) hb s [u] rfl) (fun H hO hS => ⟨a, ns, rfl, hS, hlen, fun _ => rfl⟩) fun H e s' ⟨_, _, _, _, _, _, _, _, _, _, _, _, z⟩ => z
end PL

set_option Elab.async false
set_option linter.all false
set_option maxRecDepth 100000
/-! PL, part 15: promises of an answer that is any fit one; promises over the caller's own store -/
namespace PL
open PySem L2

def fsq {α β : Type} (enc : α → List PyData) (pre : α → Prop) (post : α → β → Prop) (out : β → PyData) : Fsp := fun es k _ => ∃ a, es = enc a ∧ pre a ∧ ∀ b, post a b → k (out b)
theorem fsq_len {α β : Type} {enc : α → List PyData} {pre : α → Prop} {post : α → β → Prop} {out : β → PyData} {n : Nat} (h : ∀ a, (enc a).length = n) : ∀ ds S K KX, lent (fsq enc pre post out) ds S K KX → ds.length = n := by
  rintro ds S K KX ⟨es, kd, kx, rfl, rfl, ⟨a, rfl, _, _⟩, _⟩
  rw [List.length_map]; exact h a
theorem fsq_ok {α β : Type} {enc : α → List PyData} {pre : α → Prop} {post : α → β → Prop} {out : β → PyData} {ws : WS} {N : List Str} (h : ∀ a, pre a → ∀ K KX, (∀ d S' b, Vz S' d (out b) → post a b → K d S') → ws (ends K KX) (startE N ((enc a).map bz)) []) :
    ∀ ds S K KX, lent (fsq enc pre post out) ds S K KX → ws { nx := fun _ S1 => K (.z .none) S1, rt := K, ex := fun y _ S1 => KX y S1 } (startE N ds) S := by
  rintro ds S K KX ⟨es, kd, kx, rfl, rfl, ⟨a, rfl, hp, hk⟩, hK, _⟩
  exact h a hp K KX fun d S' b v q => hK d S' _ v (hk b q)
theorem fsq_call {α β : Type} {enc : α → List PyData} {pre : α → Prop} {post : α → β → Prop} {out : β → PyData} {ds : List D} {S : Sto} {K : K1} {KX : KF} (a : α) (v : Vws S ds (enc a)) (hp : pre a) (h : ∀ b, post a b → K (.z (out b)) S) : pCall (frz (fsq enc pre post out)) ds S K KX :=
  pCall.mk ⟨_, v, a, rfl, hp, h⟩
/-! .. with fresh lists -/
def fsrq {α β : Type} (enc : α → List PyData) (pre : α → Prop) (post : α → β → Prop) (out : β → RT) : Fsr := fun es k _ => ∃ a, es = enc a ∧ pre a ∧ ∀ b, post a b → k (out b)
theorem fsrq_len {α β : Type} {enc : α → List PyData} {pre : α → Prop} {post : α → β → Prop} {out : β → RT} {n : Nat} (h : ∀ a, (enc a).length = n) : ∀ ds S K KX, lentR (fsrq enc pre post out) ds S K KX → ds.length = n := by
  rintro ds S K KX ⟨es, kd, kx, rfl, rfl, ⟨a, rfl, _, _⟩, _⟩
  rw [List.length_map]; exact h a
theorem fsrq_ok {α β : Type} {enc : α → List PyData} {pre : α → Prop} {post : α → β → Prop} {out : β → RT} {ws : WS} {N : List Str} (h : ∀ a, pre a → ∀ K KX, (∀ d S' b U, VR S' U d (out b) U → U.Nodup → post a b → K d S') → ws (ends K KX) (startE N ((enc a).map bz)) []) :
    ∀ ds S K KX, lentR (fsrq enc pre post out) ds S K KX → ws { nx := fun _ S1 => K (.z .none) S1, rt := K, ex := fun y _ S1 => KX y S1 } (startE N ds) S := by
  rintro ds S K KX ⟨es, kd, kx, rfl, rfl, ⟨a, rfl, hp, hk⟩, hK, _⟩
  exact h a hp K KX fun d S' b U v nd q => hK d S' _ U v nd (hk b q)
theorem fsrq_call {α β : Type} {enc : α → List PyData} {pre : α → Prop} {post : α → β → Prop} {out : β → RT} {ds : List D} {S : Sto} {K : K1} {KX : KF} (a : α) (v : Vws S ds (enc a)) (hp : pre a) (h : ∀ b, post a b → K (al (out b) S.length).1 (S ++ (al (out b) S.length).2)) : pCall (frr (fsrq enc pre post out)) ds S K KX :=
  pCall.mk ⟨_, v, a, rfl, hp, h⟩
theorem fslq_call {α β : Type} {enc : α → List PyData} {pre : α → Prop} {f : β → PyData} {post : α → List β → Prop} {ds : List D} {S : Sto} {K : K1} {KX : KF} (a : α) (v : Vws S ds (enc a)) (hp : pre a) (h : ∀ b, post a b → K (.r S.length) (S ++ [.lst (b.map fun x => .z (f x))])) : pCall (frr (fsrq enc pre post fun b => lz f b)) ds S K KX :=
  fsrq_call a v hp fun b hb => by rw [al_lz]; exact h b hb
/-! .. over the caller's store: it may write what it was handed -/
def fsm {α : Type} (pre : α → List D → Sto → Prop) (post : α → D → Sto → Sto → Prop) : Spc := fun ds S K _ => ∃ a, pre a ds S ∧ ∀ d S', post a d S S' → K d S'
theorem fsm_len {α : Type} {pre : α → List D → Sto → Prop} {post : α → D → Sto → Sto → Prop} {n : Nat} (h : ∀ a ds S, pre a ds S → ds.length = n) : ∀ ds S K KX, fsm pre post ds S K KX → ds.length = n := by
  rintro ds S K KX ⟨a, hp, _⟩
  exact h a ds S hp
theorem fsm_ok {α : Type} {pre : α → List D → Sto → Prop} {post : α → D → Sto → Sto → Prop} {ws : WS} {N : List Str} (h : ∀ a ds S, pre a ds S → ∀ K KX, (∀ d S', post a d S S' → K d S') → ws (ends K KX) (startE N ds) S) :
    ∀ ds S K KX, fsm pre post ds S K KX → ws { nx := fun _ S1 => K (.z .none) S1, rt := K, ex := fun y _ S1 => KX y S1 } (startE N ds) S := by
  rintro ds S K KX ⟨a, hp, hk⟩
  exact h a ds S hp K KX hk
theorem fsm_call {α : Type} {pre : α → List D → Sto → Prop} {post : α → D → Sto → Sto → Prop} {ds : List D} {S : Sto} {K : K1} {KX : KF} (a : α) (hp : pre a ds S) (h : ∀ d S', post a d S S' → K d S') : pCall (fsm pre post) ds S K KX := pCall.mk ⟨a, hp, h⟩
/-- what stays but at the places U -/
def Keep (U : List Nat) (S S' : Sto) : Prop := ∀ (n : Nat) (o : Ob), n ∉ U → S[n]? = some o → S'[n]? = some o
theorem Keep.refl {U : List Nat} {S : Sto} : Keep U S S := fun _ _ _ h => h
theorem Keep.trans {U : List Nat} {S T R : Sto} (a : Keep U S T) (b : Keep U T R) : Keep U S R := fun n o h e => b n o h (a n o h e)
theorem Keep.app {U : List Nat} {S T : Sto} : Keep U S (S ++ T) := fun _ _ _ h => sto_app h
theorem Keep.set {U : List Nat} {S : Sto} {n : Nat} {o : Ob} (h : n ∈ U) : Keep U S (S.set n o) := fun m _ hm e => by
  rw [List.getElem?_set_ne (fun z : n = m => hm (by rw [← z]; exact h))]; exact e
theorem Keep.mono {U V : List Nat} {S T : Sto} (h : ∀ n ∈ U, n ∈ V) (k : Keep U S T) : Keep V S T := fun n o hn e => k n o (fun z => hn (h n z)) e
/-! for the walk -/
theorem pGet.ex {α : Type} {o : Option α} {k : α → Prop} {P : α → Prop} (h : ∃ x, o = some x ∧ P x) (q : ∀ x, P x → k x) : pGet o k := by
  obtain ⟨x, e, hp⟩ := h
  exact pGet.mk e (q x hp)
theorem isTy_l {S : Sto} {n : Nat} {ds : List D} (h : S[n]? = some (.lst ds)) : isTy .list S (.r n) = true := by
  show (match S[n]? with | some (.lst _) => true | _ => false) = true
  rw [h]
theorem isTy_d {S : Sto} {n : Nat} {kvs : List (Key × D)} (h : S[n]? = some (.dic kvs)) : isTy .dict S (.r n) = true := by
  show (match S[n]? with | some (.dic _) => true | _ => false) = true
  rw [h]
theorem sqD_at {S : Sto} {n : Nat} {ds : List D} (h : S[n]? = some (.lst ds)) : sqD S (.r n) = some ds := lsD_at h
theorem srcD_at {S : Sto} {n : Nat} {ds : List D} (h : S[n]? = some (.lst ds)) : srcD S (.r n) = some ⟨ds, fun S => S[n]? = some (.lst ds)⟩ := by
  show (match S[n]? with | some (.lst ds) => _ | _ => _) = _
  rw [h]
theorem tyD_l {S : Sto} {n : Nat} {ds : List D} (h : S[n]? = some (.lst ds)) : tyD S (.r n) = some .list := by
  show (match S[n]? with | some (.lst _) => _ | some (.dic _) => _ | _ => _) = _
  rw [h]
theorem ixN_at {n i : Nat} (h : i < n) : ixN n (0 + (i : Int)) = some i := by
  rw [Int.zero_add]
  unfold ixN
  split
  · simp [h]
  · omega
theorem sto_r {A T : Sto} {k : Nat} {o : Ob} (h : T[k]? = some o) : (A ++ T)[A.length + k]? = some o := by
  rw [List.getElem?_append_right (Nat.le_add_right _ _), Nat.add_sub_cancel_left]; exact h
theorem sto_r0 {A T : Sto} {a : Ob} : (A ++ a :: T)[A.length]? = some a := by simp
theorem sto_r1 {A T : Sto} {a b : Ob} : (A ++ a :: b :: T)[A.length + 1]? = some b := sto_r rfl
theorem sto_r2 {A T : Sto} {a b c : Ob} : (A ++ a :: b :: c :: T)[A.length + 2]? = some c := sto_r rfl
theorem sto_r3 {A T : Sto} {a b c d : Ob} : (A ++ a :: b :: c :: d :: T)[A.length + 3]? = some d := sto_r rfl
theorem sto_r4 {A T : Sto} {a b c d e : Ob} : (A ++ a :: b :: c :: d :: e :: T)[A.length + 4]? = some e := sto_r rfl
/-- a loop over the data of a list -/
theorem pFor_xs {α : Type} {src : Src} {g : WG} {body : WS} {k : KS} {env : Env} {S : Sto} (xs : List α) (f : α → D) (e : src.items = xs.map f) (I : Nat → Env → Sto → Prop) (h0 : I 0 env S) (hok : ∀ i env S, i ≤ xs.length → I i env S → src.ok S)
    (hs : ∀ i x env S (Q : Env → Sto → Prop), xs[i]? = some x → I i env S → (∀ env' S', I (i + 1) env' S' → Q env' S') → g (f x) env S fun env1 S1 => body { k with nx := Q, ct := Q, bk := k.nx } env1 S1)
    (hd : ∀ env S, I xs.length env S → k.nx env S) : pFor src g body k src.items env S := by
  have hl : src.items.length = xs.length := by rw [e, List.length_map]
  refine pFor_each I h0 (fun i env S hi h => hok i env S (by omega) h) (fun i d env S Q hi h hQ => ?_) (fun env S h => hd env S (by rw [← hl]; exact h))
  rw [e, List.getElem?_map] at hi
  cases hx : xs[i]? with
  | none => rw [hx] at hi; simp at hi
  | some x =>
    rw [hx] at hi
    simp at hi
    subst hi
    exact hs i x env S Q hx h hQ
theorem fmod_b {a b : Int} (h : 0 < b) : 0 ≤ a.fmod b ∧ a.fmod b < b := ⟨Int.fmod_nonneg_of_pos a h, Int.fmod_lt_of_pos a h⟩
end PL

set_option Elab.async false
set_option linter.all false
set_option maxRecDepth 100000
/-! PL, part 16: what is never reached -/
namespace PL
open PySem L2

def wNever : WS := fun _ _ _ => False
theorem xnever {X : Cx} {B F0 : Hp} {W : WX} {st : Stmt} : PXS X B F0 W st wNever := ⟨fun pins s σ H D I h => by
  obtain ⟨w, env, k, _, _, h, _⟩ := h
  exact h.elim⟩
theorem ixN_nat {n i : Nat} (h : i < n) : ixN n (i : Int) = some i := by
  have := ixN_at h
  rw [Int.zero_add] at this
  exact this
/-- a loop that ends with False at the first item that is not p -/
theorem pFor_allB {α : Type} {src : Src} {g : WG} {body : WS} {k : KS} {env : Env} {S : Sto} (xs : List α) (f : α → D) (p : α → Bool) (J : Env → Prop) (e : src.items = xs.map f) (hok : src.ok S) (h0 : J env)
    (hs : ∀ x env (Q : Env → Sto → Prop), x ∈ xs → J env → (p x = true → ∀ env', J env' → Q env' S) → (p x = false → k.rt (.z (.bool false)) S) → g (f x) env S fun env1 S1 => body { k with nx := Q, ct := Q, bk := k.nx } env1 S1)
    (hd : xs.all p = true → ∀ env, J env → k.nx env S) (hf : xs.all p = false → k.rt (.z (.bool false)) S) : pFor src g body k src.items env S := by
  refine pFor_xs xs f e (fun i env S1 => S1 = S ∧ J env ∧ (xs.take i).all p = true) ⟨rfl, h0, by simp⟩ (fun i env S1 _ h => by rw [h.1]; exact hok) ?_ ?_
  · rintro i x env S1 Q hx ⟨rfl, hj, ha⟩ hQ
    refine hs x env Q (List.mem_of_getElem? hx) hj (fun hp env' hj' => hQ env' _ ⟨rfl, hj', ?_⟩) (fun hp => hf ?_)
    · rw [List.take_add_one, hx, List.all_append, ha, Option.toList_some]
      simp [hp]
    · cases h : xs.all p with
      | false => rfl
      | true =>
        have := List.all_eq_true.mp h x (List.mem_of_getElem? hx)
        rw [hp] at this; cases this
  · rintro env S1 ⟨rfl, hj, ha⟩
    rw [List.take_length] at ha
    exact hd ha env hj
end PL

set_option Elab.async false
set_option linter.all false
set_option maxRecDepth 100000
/-! PL, part 17: raise; try .. except; what a caught exception is -/
namespace PL
open PySem L2

/-- a class of the program that is a ValueError -/
structure ExcF (K : PySem.W.Frag) (mg : Str → Option Value) (x : Str) (C : Addr) : Prop where
  q : PySem.W.excIn K C He.veBase "ValueError.__new__" = true
  k : PySem.W.keepIn K (.ref C) = true
  s : PySem.W.subIn K (.ref C) (.type "BaseException") = some true
  t : PySem.W.typeIn K (.ref C) = some (.type "type")
  g : mg x = some (.ref C)
def wRaise (C : Addr) : WS := fun k env S => k.ex ⟨.ref C, none⟩ env S
section
variable {X : Cx} {B F0 : Hp} {W : WX} {x m : Str} {C : Addr} {p p2 p3 pos : Pos} {j : Nat}
theorem xraise (hc : X.calm = true) (tk : Takes X W) (F : ExcF X.K X.mg x C) (hg : Gl X x) (hdb : (x == ("__debug__" : Str)) = false := by decide) : PXS X B F0 W (.Raise (some (.Call (.Name x p) [.Constant (.str m) j p2] [] p3)) none pos) (wRaise C) :=
  wkS (ps_raise hc tk (pmk_own PySem.F.excBase_ValueError F.q F.g F.k (raises_own F.s F.t) hg hdb)) fun D σ H h => by
    obtain ⟨w, env, k, R, E, h, f⟩ := h
    exact f.ex _ _ _ _ _ _ _ _ _ R .refl E ⟨rfl, rfl⟩ h
end
/-- try: b, except .. as (slot i): h. kn: the classes that may come, mt: which of them are caught -/
def wTryAs (kn : Value → Prop) (mt : Value → Bool) (i : Nat) (b : WS) (h : Addr → Value → WS) : WS := fun k env S =>
  b { k with ex := fun x env1 S1 => pReq (kn x.c ∧ x.fs = none) (pIf (mt x.c) (∀ a, h a x.c { nx := fun e2 S2 => k.nx (e2.set i none) S2, rt := k.rt, ex := fun _ _ _ => False, bk := fun e2 S2 => k.bk (e2.set i none) S2, ct := fun e2 S2 => k.ct (e2.set i none) S2 } (env1.set i (some (.o a))) S1) (k.ex x env1 S1)) } env S
section
variable {X : Cx} {B F0 : Hp} {W : WX} {x n : Str} {c : Value} {i : Nat} {body suite : List Stmt} {b₀ : Stmt} {np pos pos' : Pos} {b : WS} {h : Addr → Value → WS} {kn : Value → Prop} {mt : Value → Bool}
theorem EnvR.setN {B F : Hp} {μ : Nat → Addr} {n : Nat} {env : Env} {σ : St} (E : EnvR B F μ n env σ) (i : Nat) (w : Option V) : EnvR B F μ n (env.set i none) (σ.set i w) := EnvR.unset i E
theorem xtryas (hs : X.stack = X.env :: X.outer) (hf : X.env.frame = some X.env.locals) (hN : X.N.Nodup) (hi : X.N[i]? = some n) (hln : X.env.kindOf n = some .local) (hc : Names X x c) (tk : Takes X W)
    (hb : ∀ (W' : WX) (pn : List (Addr × Obj)) (xe : Value → Shared → Prop), Takes (X.tr pn xe) W' → PassesOwn (model X.prog X.w) X.A X.env xe → PXB (X.tr pn xe) B F0 W' body b)
    (hm : ∀ v, kn v → PySem.W.exmOne X.K v c = some (mt v))
    (hh : ∀ (a : Addr) (oe : Obj) (v : Value) (pn : List (Addr × Obj)), kn v → Zc v none oe → (∃ vs, oe.data = .fields vs) → PXB (X.suite a ((a, oe) :: pn)) B F0 (fun _ _ _ _ => False) (b₀ :: suite) (h a v)) :
    PXS X B F0 W (.Try body [.ExceptHandler (some (.Name x np)) (some n) (b₀ :: suite) pos'] [] [] pos) (wTryAs kn mt i b h) := by
  refine wkS (ps_try_as hs hf hN hi hln hc tk (tb := fun W' => tS B F0 W' b) (ts := fun a cls d => fun D σ H => kn cls ∧ d = none ∧ tS B F0 (fun _ _ _ _ => False) (h a cls) D σ H) hb fun a oe cls d pn hz hd => ?_) fun D σ H h' => ?_
  · refine ⟨fun pins s σ H D I q => ?_⟩
    obtain ⟨hk, rfl, q⟩ := q
    exact (hh a oe cls pn hk hz hd).run pins s σ H D I q
  · obtain ⟨w, env, k, R, E, h', f⟩ := h'
    refine ⟨w, env, _, R, E, h', ?_⟩
    refine ⟨f.nx, f.rt, f.bk, f.ct, fun y env1 S1 σ1 H1 μ1 F1 cls dd R1 X1 E1 r1 q => ?_⟩
    obtain ⟨⟨hk, hfs⟩, q⟩ := q.out
    have hc1 : cls = y.c := r1.1
    have hd1 : dd = none := by
      have := r1.2
      rw [hfs] at this
      exact this
    subst hc1 hd1
    refine ⟨mt y.c, hm _ hk, fun hb => ?_, fun hb => ?_⟩
    · intro a ha
      have q := q.out
      rw [if_pos hb] at q
      refine ⟨hk, rfl, ⟨μ1, S1, F1⟩, _, _, R1, EnvR.set .o i E1, q a, ?_⟩
      have f2 := f.xt (w' := ⟨μ1, S1, F1⟩) X1
      exact ⟨fun e2 S2 σ2 H2 μ2 F2 R2 X2 E2 z => f2.nx _ _ _ _ _ _ R2 X2 (E2.setN i none) z, f2.rt, fun e2 S2 σ2 H2 μ2 F2 R2 X2 E2 z => f2.bk _ _ _ _ _ _ R2 X2 (E2.setN i none) z,
        fun e2 S2 σ2 H2 μ2 F2 R2 X2 E2 z => f2.ct _ _ _ _ _ _ R2 X2 (E2.setN i none) z, fun _ _ _ _ _ _ _ _ _ _ _ _ _ z => z⟩
    · have q := q.out
      rw [if_neg (by rw [hb]; exact Bool.false_ne_true)] at q
      exact f.ex y env1 S1 σ1 H1 μ1 F1 y.c none R1 X1 E1 r1 q
end
/-- isinstance(e, y), e the exception that the suite holds -/
def wIsE (i : Nat) (a : Addr) (b : Bool) : WE := fun env S K _ => pReq (env[i]? = some (some (.o a))) (K (.z (.bool b)) S)
section
variable {X : Cx} {B F0 : Hp} {W : WX} {x y n : Str} {C D : Addr} {i : Nat} {a : Addr} {b : Bool} {oe : Obj} {pn : List (Addr × Obj)} {p p2 p3 pos : Pos}
theorem xisE0 {c : V} {cv : Value} {e2 : Expr} (he2 : PE (X.suite a ((a, oe) :: pn)) e2 (tC c)) (hcv : ∀ u, RelV c u → u = cv) (ek : PySem.W.kitOne X.K (.ref D) cv = some b) (Cf : ExcC X.K D) (hz : Zc (.ref D) none oe) (hd : ∃ vs, oe.data = .fields vs) (hgi : Gl (X.suite a ((a, oe) :: pn)) "isinstance") (hmi : X.mg "isinstance" = none)
    (hv : PE (X.suite a ((a, oe) :: pn)) (.Name n p) (tVar i)) (he : starEach [.Name n p, e2] X.env = (false, eval (.Name n p) X.env) :: starEach [e2] X.env := by rfl) (hpl : (backTo pos (starEach [e2] X.env)).any (·.1) = false := by rfl)
    (hs : starEach [e2] X.env = (false, eval e2 X.env) :: starEach [] X.env := by rfl) :
    PX (X.suite a ((a, oe) :: pn)) B F0 W (.Call (.Name "isinstance" p2) [.Name n p, e2] [] pos) (wIsE i a b) :=
  wkE (pe_callB (X := X.suite a ((a, oe) :: pn)) (call_isE Cf hz hd) hgi hmi bb_isinstance (pa_cons hv (pa_cons he2 pa_nil hs) he) (by decide) (by decide) he hpl) fun σ H Q h => by
    obtain ⟨w, env, K, KX, R, E, h, k, _⟩ := h
    obtain ⟨h1, h⟩ := h.out
    obtain ⟨v, h2, r⟩ := EnvR.get E h1
    cases r
    refine ⟨_, h2, ?_⟩
    refine ⟨c, cv, b, rfl, hcv, ek, k _ w.S _ H w.μ w.F R .refl (.z (.bl _)) h⟩
theorem xisE (ek : PySem.W.kitOne X.K (.ref D) (.ref C) = some b) (Cf : ExcC X.K D) (hz : Zc (.ref D) none oe) (hd : ∃ vs, oe.data = .fields vs) (hgi : Gl (X.suite a ((a, oe) :: pn)) "isinstance") (hmi : X.mg "isinstance" = none) (hg : Gl (X.suite a ((a, oe) :: pn)) y) (hm : X.mg y = some (.ref C))
    (hv : PE (X.suite a ((a, oe) :: pn)) (.Name n p) (tVar i)) (hdb : (y == ("__debug__" : Str)) = false := by decide) (he : starEach [.Name n p, .Name y p3] X.env = (false, eval (.Name n p) X.env) :: starEach [.Name y p3] X.env := by rfl) (hpl : (backTo pos (starEach [.Name y p3] X.env)).any (·.1) = false := by rfl)
    (hs : starEach [.Name y p3] X.env = (false, eval (.Name y p3) X.env) :: starEach [] X.env := by rfl) :
    PX (X.suite a ((a, oe) :: pn)) B F0 W (.Call (.Name "isinstance" p2) [.Name n p, .Name y p3] [] pos) (wIsE i a b) :=
  xisE0 (pe_glob (X := X.suite a ((a, oe) :: pn)) (v := .ref C) hg hm rfl hdb) (fun u r => by cases r; rfl) ek Cf hz hd hgi hmi hv he hpl hs
theorem xisV (ek : PySem.W.kitOne X.K (.ref D) (.type "ValueError") = some b) (Cf : ExcC X.K D) (hz : Zc (.ref D) none oe) (hd : ∃ vs, oe.data = .fields vs) (hgi : Gl (X.suite a ((a, oe) :: pn)) "isinstance") (hmi : X.mg "isinstance" = none) (hg : Gl (X.suite a ((a, oe) :: pn)) "ValueError") (hm : X.mg "ValueError" = none)
    (hv : PE (X.suite a ((a, oe) :: pn)) (.Name n p) (tVar i)) (he : starEach [.Name n p, .Name "ValueError" p3] X.env = (false, eval (.Name n p) X.env) :: starEach [.Name "ValueError" p3] X.env := by rfl) (hpl : (backTo pos (starEach [.Name "ValueError" p3] X.env)).any (·.1) = false := by rfl)
    (hs : starEach [.Name "ValueError" p3] X.env = (false, eval (.Name "ValueError" p3) X.env) :: starEach [] X.env := by rfl) :
    PX (X.suite a ((a, oe) :: pn)) B F0 W (.Call (.Name "isinstance" p2) [.Name n p, .Name "ValueError" p3] [] pos) (wIsE i a b) :=
  xisE0 (pe_bltn (X := X.suite a ((a, oe) :: pn)) (v := .ty "ValueError") (u := .type "ValueError") hg hm PyProof.Rows.Boot.«ValueError» rfl (by decide) (by decide)) (fun u r => by cases r; rfl) ek Cf hz hd hgi hmi hv he hpl hs
end
/-- what the walks say of the classes: where they stand, which may come, which are caught, what they are -/
structure EcK where
  cl : Str → Addr
  kn : Value → Prop
  mt : Str → Value → Bool
  kd : Value → Str → Bool
/-- of these classes any is a ValueError and a PathError, and else itself alone -/
def tabE (x y : Str) : Bool := decide (x = y) || (decide (y = "PathError") || decide (y = "ValueError"))
structure EcOk (ec : EcK) (raised checked : List Str) : Prop where
  kn : ∀ x ∈ raised, ec.kn (.ref (ec.cl x))
  mt : ∀ x ∈ raised, ∀ y ∈ checked, ec.mt y (.ref (ec.cl x)) = tabE x y
  kd : ∀ x ∈ raised, ∀ y ∈ checked, ec.kd (.ref (ec.cl x)) y = tabE x y
/-! promises of defs that may raise -/
def fsrX {α : Type} (enc : α → List PyData) (pre : α → Prop) (out : α → Except Value RT) : Fsr := fun es k kx => ∃ a, es = enc a ∧ pre a ∧ (∀ r, out a = .ok r → k r) ∧ ∀ v, out a = .error v → kx ⟨v, none⟩
theorem fsrX_len {α : Type} {enc : α → List PyData} {pre : α → Prop} {out : α → Except Value RT} {n : Nat} (h : ∀ a, (enc a).length = n) : ∀ ds S K KX, lentR (fsrX enc pre out) ds S K KX → ds.length = n := by
  rintro ds S K KX ⟨es, kd, kx, rfl, rfl, ⟨a, rfl, _, _⟩, _⟩
  rw [List.length_map]; exact h a
theorem fsrX_ok {α : Type} {enc : α → List PyData} {pre : α → Prop} {out : α → Except Value RT} {ws : WS} {N : List Str} (h : ∀ a, pre a → ∀ K KX, (∀ r, out a = .ok r → ∀ d S' U, VR S' U d r U → U.Nodup → K d S') → (∀ v, out a = .error v → ∀ S', KX ⟨v, none⟩ S') → ws (ends K KX) (startE N ((enc a).map bz)) []) :
    ∀ ds S K KX, lentR (fsrX enc pre out) ds S K KX → ws { nx := fun _ S1 => K (.z .none) S1, rt := K, ex := fun y _ S1 => KX y S1 } (startE N ds) S := by
  rintro ds S K KX ⟨es, kd, kx, rfl, rfl, ⟨a, rfl, hp, hk, hx⟩, hK, hX⟩
  exact h a hp K KX (fun r e d S' U v nd => hK d S' _ U v nd (hk r e)) fun v e S' => hX _ S' ⟨v, none⟩ ⟨rfl, trivial⟩ (hx v e)
theorem fsrX_call {α : Type} {enc : α → List PyData} {pre : α → Prop} {out : α → Except Value RT} {ds : List D} {S : Sto} {K : K1} {KX : KF} (a : α) (v : Vws S ds (enc a)) (hp : pre a) (h : ∀ r, out a = .ok r → K (al r S.length).1 (S ++ (al r S.length).2)) (hx : ∀ v, out a = .error v → KX ⟨v, none⟩ S) :
    pCall (frr (fsrX enc pre out)) ds S K KX := pCall.mk ⟨_, v, a, rfl, hp, h, hx⟩
end PL

set_option Elab.async false
set_option linter.all false
set_option maxRecDepth 100000
/-! PL, part 18: the head with further facts; facts of the classes -/
namespace PL
open PySem PySem.Spec PyProof.Rows L2

def obsQ (bf : PySem.W.Frag → Bool) (fa : List He.Fa) (fn : List He.DefD) (K : PySem.W.Frag) : Bool × He.AlD := (noLs K && bf K, He.obsD fa fn K)
def SaysQ (bf : PySem.W.Frag → Bool) (fa : List He.Fa) (fn : List He.DefD) (K : PySem.W.Frag) : Prop := obsQ bf fa fn K = (true, He.valD fn)
theorem SaysQ.ls {bf : PySem.W.Frag → Bool} {fa : List He.Fa} {fn : List He.DefD} {K : PySem.W.Frag} (h : SaysQ bf fa fn K) : noLs K = true := (Bool.and_eq_true_iff.mp (congrArg (fun z : Bool × He.AlD => z.1) h)).1
theorem SaysQ.bf {bf : PySem.W.Frag → Bool} {fa : List He.Fa} {fn : List He.DefD} {K : PySem.W.Frag} (h : SaysQ bf fa fn K) : bf K = true := (Bool.and_eq_true_iff.mp (congrArg (fun z : Bool × He.AlD => z.1) h)).2
theorem SaysQ.sd {bf : PySem.W.Frag → Bool} {fa : List He.Fa} {fn : List He.DefD} {K : PySem.W.Frag} (h : SaysQ bf fa fn K) : He.SaysD fa fn K := congrArg (fun z : Bool × He.AlD => z.2) h
def obsQG (n : Nat) (bf : PySem.W.Frag → Bool) (fa : List He.Fa) (fn : List He.DefD) (g : Addr → Option Obj) : Bool × He.AlD := obsQ bf fa fn (He.frG g (He.asD g n))
def hookQ (n : Nat) (bf : PySem.W.Frag → Bool) (fa : List He.Fa) (fn : List He.DefD) : PySem.W.Hook where
  α := Bool × He.AlD
  obs := fun s => obsQG n bf fa fn s.heap.get?
  val := fun _ => (true, He.valD fn)
  says := fun _ h => ∃ K : PySem.W.Frag, K.In h ∧ SaysQ bf fa fn K
  of := fun _ _ e => ⟨_, He.frG_in, e⟩
  keeps := fun _ _ _ ⟨K, hK, c⟩ k => ⟨K, PySem.W.Frag.In.keeps hK k, c⟩
theorem obsQG_eq {n : Nat} {bf : PySem.W.Frag → Bool} {fa : List He.Fa} {fn : List He.DefD} {g : Addr → Option Obj} {s : Shared} (h : ∀ a, g a = s.heap.get? a) : obsQG n bf fa fn g = (hookQ n bf fa fn).obs s := by
  have e : g = s.heap.get? := funext h
  rw [e] <;> rfl
theorem pl_endQ {l : PySem.W.OpenLaw} {q : Program} {loose : List Str} {XP : (Str → Option Value) → Heap → Prop} {d : DefRec} {x : Str} {k n : Nat} {bf : PySem.W.Frag → Bool} {fa : List He.Fa} {fn : List He.DefD} {st : Stmt}
    (hn : l.most = some 63) (hd : d.name = ("law" : Str)) (hdf : d.params.defaults = []) (hr : Room k callerA)
    (hb : ∀ (kV doc pm : Value) (an : Option Addr) (cdv ct : Value) (us : List Value), us.length = [x].length → bindArgs (PySem.W.fnOf "law" "law" (defArgs st) (defBody st) (defScope st) .none kV doc pm an cdv ct) ⟨us, []⟩ = pure ([x].zip us))
    (F : ∀ (w : World) (K : PySem.W.Frag) (h : Heap) (mg : Str → Option Value), K.In h → h.Ns mainGlobals mg → SaysQ bf fa fn K → ∃ fd, FunD K "law" "law" (defArgs st) (defBody st) (defScope st) [] [] (He.fAd K ("law", none)) fd ∧ mg ("law" : Str) = some (.ref (He.fAd K ("law", none))) ∧ ∀ base : Heap, FnOk l.prog w K mg base (L2.CX l.prog w) k (He.fAd K ("law", none)) fd [x] (spOf lawSp)) :
    PySem.W.WalkO q loose XP (hookQ n bf fa fn).says l.row.toRowW d [] (fun f vs => PySem.call f vs) := by
  refine Att.attach_call hn hdf fun w s₀ s₁ mg mb fa' o pm cd doc a vs ns G Y ho hd' hcd hmg hobj hints hlen hg => ?_
  obtain ⟨K, KX, c⟩ := Y
  obtain ⟨fd, FD, e, hF⟩ := F w K _ mg KX G.T.g c
  have hmg2 : mg ("law" : Str) = some (.ref fa') := by rw [← hd]; exact hmg
  rw [e] at hmg2
  cases hmg2
  exact law_call KX G.T.g G.T.b G.T.builtins G.T.nolimit hg hobj hints (Nat.le_trans hlen (by decide)) hr (fun base _ _ => law_imp c.ls (hF base)) (fun s u => FD.bindsA (ps := [x]) hb s [u] rfl) (fun H hO hS => ⟨a, ns, rfl, hS, hlen, fun _ => rfl⟩) fun H e s' ⟨_, _, _, _, _, _, _, _, _, _, _, _, z⟩ => z
/-! the classes -/
def ecOf (K : PySem.W.Frag) (raised : List Str) : EcK :=
  ⟨He.ga K, fun v => v ∈ raised.map (fun x => Value.ref (He.ga K x)), fun y v => (PySem.W.exmOne K v (.ref (He.ga K y))).getD false, fun v y => (PySem.W.kitOne K v (if y = "ValueError" then .type "ValueError" else .ref (He.ga K y))).getD false⟩
def clV (K : PySem.W.Frag) (y : Str) : Value := if y = "ValueError" then .type "ValueError" else .ref (He.ga K y)
def excCB (K : PySem.W.Frag) (D : Addr) : Bool :=
  decide (PySem.W.findIn K (.ref D) "__getattribute__" = some (some (.builtin "BaseException.__getattribute__"))) && (decide (PySem.W.findIn K (.ref D) "__getattr__" = some none) && (decide (PySem.W.subIn K (.ref D) (.type "BaseException") = some true) &&
  (PySem.W.hasDictIn K D && (decide (PySem.W.findIn K (.ref D) "__class__" = some (some (.builtin "object.__class__"))) && (decide (PySem.W.specialIn K (.builtin "object.__class__") "__get__" = some (some (.builtin "getset_descriptor.__get__"))) &&
  (decide (PySem.W.takesIn K (.builtin "object.__class__") = some true) && decide (PySem.W.mroIn K D (.type "object") = some true)))))))
/-- raised: classes that may come; handled: classes of except clauses; checked: classes that isinstance is asked of -/
def bfE (raised handled checked : List Str) (K : PySem.W.Frag) : Bool :=
  raised.all fun x => (He.Fa.exc x).ok K && (excCB K (He.ga K x) && ((handled.all fun y => decide (PySem.W.exmOne K (.ref (He.ga K x)) (.ref (He.ga K y)) = some (tabE x y))) && checked.all fun y => decide (PySem.W.kitOne K (.ref (He.ga K x)) (clV K y) = some (tabE x y))))
section
variable {raised handled checked : List Str} {K : PySem.W.Frag} {mg : Str → Option Value}
theorem bfE_at (h : bfE raised handled checked K = true) {x : Str} (hx : x ∈ raised) : (He.Fa.exc x).ok K = true ∧ excCB K (He.ga K x) = true ∧ (∀ y ∈ handled, PySem.W.exmOne K (.ref (He.ga K x)) (.ref (He.ga K y)) = some (tabE x y)) ∧ ∀ y ∈ checked, PySem.W.kitOne K (.ref (He.ga K x)) (clV K y) = some (tabE x y) := by
  have := List.all_eq_true.mp h x hx
  simp only [Bool.and_eq_true, List.all_eq_true, decide_eq_true_eq] at this
  exact ⟨this.1, this.2.1, this.2.2.1, this.2.2.2⟩
theorem ec_F (h : bfE raised handled checked K = true) {x : Str} (hx : x ∈ raised) (g : mg x = some (.ref (He.ga K x))) : ExcF K mg x ((ecOf K raised).cl x) := by
  obtain ⟨a, b, c, d⟩ := He.exc_ok (bfE_at h hx).1
  exact ⟨a, b, c, d, g⟩
theorem ec_m (h : bfE raised handled checked K = true) {y : Str} (hy : y ∈ handled) : ∀ v, (ecOf K raised).kn v → PySem.W.exmOne K v (.ref ((ecOf K raised).cl y)) = some ((ecOf K raised).mt y v) := by
  intro v hv
  obtain ⟨x, hx, rfl⟩ := List.mem_map.mp hv
  have := (bfE_at h hx).2.2.1 y hy
  show _ = some ((PySem.W.exmOne K (.ref (He.ga K x)) (.ref (He.ga K y))).getD false)
  rw [this]; exact this
theorem ec_k0 (h : bfE raised handled checked K = true) {y : Str} (hy : y ∈ checked) : ∀ v, (ecOf K raised).kn v → PySem.W.kitOne K v (clV K y) = some ((ecOf K raised).kd v y) := by
  intro v hv
  obtain ⟨x, hx, rfl⟩ := List.mem_map.mp hv
  have := (bfE_at h hx).2.2.2 y hy
  show _ = some ((PySem.W.kitOne K (.ref (He.ga K x)) (clV K y)).getD false)
  rw [this]; rfl
theorem ec_k (h : bfE raised handled checked K = true) {y : Str} (hy : y ∈ checked) (hn : y ≠ "ValueError") : ∀ v, (ecOf K raised).kn v → PySem.W.kitOne K v (.ref ((ecOf K raised).cl y)) = some ((ecOf K raised).kd v y) := by
  intro v hv
  have := ec_k0 h hy v hv
  unfold clV at this
  rw [if_neg hn] at this
  exact this
theorem ec_ve (h : bfE raised handled checked K = true) (hy : ("ValueError" : Str) ∈ checked) : ∀ v, (ecOf K raised).kn v → PySem.W.kitOne K v (.type "ValueError") = some ((ecOf K raised).kd v "ValueError") := by
  intro v hv
  have := ec_k0 h hy v hv
  unfold clV at this
  rw [if_pos rfl] at this
  exact this
theorem ec_c (h : bfE raised handled checked K = true) : ∀ v, (ecOf K raised).kn v → ∃ D, v = .ref D ∧ ExcC K D := by
  intro v hv
  obtain ⟨x, hx, rfl⟩ := List.mem_map.mp hv
  have := (bfE_at h hx).2.1
  unfold excCB at this
  simp only [Bool.and_eq_true, decide_eq_true_eq] at this
  obtain ⟨a, b, c, d, e, f, g, i⟩ := this
  exact ⟨_, rfl, a, b, c, d, e, f, g, i⟩
theorem ec_ok (h : bfE raised handled checked K = true) : EcOk (ecOf K raised) raised (handled ++ checked) ∨ True := .inr trivial
theorem ec_okm (h : bfE raised handled checked K = true) : (∀ x ∈ raised, (ecOf K raised).kn (.ref ((ecOf K raised).cl x))) ∧ (∀ x ∈ raised, ∀ y ∈ handled, (ecOf K raised).mt y (.ref ((ecOf K raised).cl x)) = tabE x y) ∧ ∀ x ∈ raised, ∀ y ∈ checked, (ecOf K raised).kd (.ref ((ecOf K raised).cl x)) y = tabE x y := by
  refine ⟨fun x hx => List.mem_map.mpr ⟨x, hx, rfl⟩, fun x hx y hy => ?_, fun x hx y hy => ?_⟩
  · show ((PySem.W.exmOne K (.ref (He.ga K x)) (.ref (He.ga K y))).getD false) = _
    rw [(bfE_at h hx).2.2.1 y hy]; rfl
  · show ((PySem.W.kitOne K (.ref (He.ga K x)) (clV K y)).getD false) = _
    rw [(bfE_at h hx).2.2.2 y hy]; rfl
end
/-- what the pure proofs ask of the classes -/
structure EcP (ec : EcK) (raised handled checked : List Str) : Prop where
  kn : ∀ x ∈ raised, ec.kn (.ref (ec.cl x))
  mt : ∀ x ∈ raised, ∀ y ∈ handled, ec.mt y (.ref (ec.cl x)) = tabE x y
  kd : ∀ x ∈ raised, ∀ y ∈ checked, ec.kd (.ref (ec.cl x)) y = tabE x y
theorem ec_p {raised handled checked : List Str} {K : PySem.W.Frag} (h : bfE raised handled checked K = true) : EcP (ecOf K raised) raised handled checked := ⟨(ec_okm h).1, (ec_okm h).2.1, (ec_okm h).2.2⟩
end PL

set_option Elab.async false
set_option linter.all false
set_option maxRecDepth 100000
/-! PL, part 19: insert, join -/
namespace PL
open PySem L2

def pIns : D → PL := fun x xs S K => match x, xs with
  | .r n, [.z (.int i), y] => pGet (lsR S n) fun ds => pReq (ds.length < sizeLine ∧ 0 ≤ i ∧ i < 2 ^ 63) (K (.z .none) (S.set n (.lst (ds.take i.toNat ++ [y] ++ ds.drop i.toNat))))
  | _, _ => False
def pJoin : D → PL := fun x xs S K => match x, xs with
  | .z (.str a), [y] => pGet (sqD S y) fun ds => ∃ ys : List Str, ds = ys.map (fun s => .z (.str s)) ∧ pReq ((ys.map (·.length)).sum + ys.length * a.length ≤ 16777216) (K (.z (.str (Txt.join a ys))) S)
  | _, _ => False
section
variable {X : Cx} {B F0 : Hp}
theorem oIns : MtR X "list.insert" (rM B F0 pIns) := methR fun {pins s σ H x v vs us w d ds K Q} I rx r R q qs h k => by
  unfold pIns at h
  split at h
  · rename_i n i y
    obtain ⟨ds, e, h⟩ := h.out
    obtain ⟨⟨hz, h0, h1⟩, h⟩ := h.out
    obtain ⟨hn, ws, hv, rv⟩ := lsR_ok R e
    obtain ⟨u1, u2, rfl, q1, q2⟩ := qs.two
    cases rpInt q1
    cases q
    exact mt_insert pins s σ H _ _ v us Q I rx r ⟨w.μ n, ws, i, u2, rfl, rfl, hv, by rw [← rv.length]; exact hz, h0, h1, k.setL R hn (((rv.take i.toNat).append (.cons q2 .nil)).append (rv.drop i.toNat)) (.z .non) h⟩
  · exact h.elim
theorem oJoin : MtR X "str.join" (rM B F0 pJoin) := methR fun {pins s σ H x v vs us w d ds K Q} I rx r R q qs h k => by
  unfold pJoin at h
  split at h
  · rename_i a y
    obtain ⟨ds, e, h⟩ := h.out
    obtain ⟨ys, rfl, h⟩ := h
    obtain ⟨hz, h⟩ := h.out
    obtain ⟨u, rfl, q1⟩ := qs.one
    obtain ⟨p, ws, rfl, hs, rw'⟩ := sqD_ok (K := X.K) R q1 e
    have ev := RpDs.strs rw'
    subst ev
    exact mt_join pins s σ H _ _ v us Q I rx r ⟨a, p, ys, rpStr q, rfl, hs, hz, k.str R h⟩
  · exact h.elim
end
end PL

set_option Elab.async false
set_option linter.all false
set_option maxRecDepth 100000
/-! PL, part 20: loops and comprehensions by what they go over -/
namespace PL
open PySem L2

/-- a loop that ends early with one value where the test fails; the store may grow -/
theorem pFor_allS {α : Type} {src : Src} {g : WG} {body : WS} {k : KS} {env : Env} {S : Sto} (xs : List α) (f : α → D) (p : α → Bool) (r : D) (J : Env → Sto → Prop) (e : src.items = xs.map f) (hok : ∀ env S, J env S → src.ok S) (h0 : J env S)
    (hs : ∀ x env S (Q : Env → Sto → Prop), x ∈ xs → J env S → (p x = true → ∀ env' S', J env' S' → Q env' S') → (p x = false → ∀ S', k.rt r S') → g (f x) env S fun env1 S1 => body { k with nx := Q, ct := Q, bk := k.nx } env1 S1)
    (hd : xs.all p = true → ∀ env S, J env S → k.nx env S) (hf : xs.all p = false → ∀ S, k.rt r S) : pFor src g body k src.items env S := by
  refine pFor_xs xs f e (fun i env S1 => J env S1 ∧ (xs.take i).all p = true) ⟨h0, by simp⟩ (fun i env S1 _ h => hok _ _ h.1) ?_ ?_
  · rintro i x env S1 Q hx ⟨hj, ha⟩ hQ
    refine hs x env S1 Q (List.mem_of_getElem? hx) hj (fun hp env' S' hj' => hQ env' S' ⟨hj', ?_⟩) (fun hp => hf ?_)
    · rw [List.take_add_one, hx, List.all_append, ha, Option.toList_some]
      simp [hp]
    · cases h : xs.all p with
      | false => rfl
      | true =>
        have := List.all_eq_true.mp h x (List.mem_of_getElem? hx)
        rw [hp] at this; cases this
  · rintro env S1 ⟨hj, ha⟩
    rw [List.take_length] at ha
    exact hd ha env S1 hj
theorem pLc_allE {α : Type} {src : Src} {tg : D → Env → Option Env} {we : WE} {env : Env} {fin : Sto → Prop} {S : Sto} (xs : List α) (it f : α → D) (e : src.items = xs.map it) (hz : xs.length < 1000000) (hok : ∀ acc, src.ok (S ++ [.lst acc]))
    (he : ∀ x ∈ xs, ∃ env2, tg (it x) env = some env2 ∧ ∀ (S1 : Sto) (K : K1), (∃ acc, S1 = S ++ [.lst acc]) → K (f x) S1 → we env2 S1 K X0)
    (hf : fin (S ++ [.lst (xs.map f)])) : pLc src tg wYes we S.length env fin src.items (S ++ [.lst []]) := by
  rw [e]; exact pLc_all it f hz hok he hf
theorem pLc_mapE {α : Type} {src : Src} {tg : D → Env → Option Env} {wt : WT} {we : WE} {env : Env} {fin : Sto → Prop} {S : Sto} (xs : List α) (it f : α → D) (t : α → Bool) (e : src.items = xs.map it) (hz : xs.length < 1000000) (hok : ∀ acc, src.ok (S ++ [.lst acc]))
    (ht : ∀ x ∈ xs, ∃ env2, tg (it x) env = some env2 ∧ (∀ (S1 : Sto) (K : Bool → Sto → Prop), (∃ acc, S1 = S ++ [.lst acc]) → K (t x) S1 → wt env2 S1 K X0) ∧ (t x = true → ∀ (S1 : Sto) (K : K1), (∃ acc, S1 = S ++ [.lst acc]) → K (f x) S1 → we env2 S1 K X0))
    (hf : fin (S ++ [.lst ((xs.filter t).map f)])) : pLc src tg wt we S.length env fin src.items (S ++ [.lst []]) := by
  rw [e]; exact pLc_map it f t hz hok ht hf
end PL

set_option Elab.async false
set_option linter.all false
set_option maxRecDepth 100000
set_option maxHeartbeats 1000000
/-! PL, part 21: list(reversed(list)) -/
namespace PL
open PySem PySem.Spec PyProof.Rows L2
section
variable {prog : Program} {w : World} {A : Around} {E : Value → Shared → Prop} {s : Shared} {it l : Addr} {items : Array Value}
theorem lrv_hint {i : Int} {Q : Bool → Shared → Prop} (hit : s.heap.IsRevIter it l i) (h : Q false s) : wpAny (model prog w) A (Builtin.List.listLengthHint (.ref it)) Q E s := by
  have hT : s.TypeIs (.ref it) "list_reverseiterator" := Heap.IsRevIter.typeIs hit
  unfold Builtin.List.listLengthHint
  refine wpAny_bind (wpAny_specialOf hT RT.nolen_lri ?_)
  show wpAny _ A (specialOf (Value.ref it) (Str.ofString "__length_hint__") >>= _) _ _ _
  refine wpAny_bind (wpAny_specialOf hT RT.hint_lri ?_)
  generalize hid : ("list_reverseiterator.__length_hint__" : String) = id0
  wp_delta
  rw [show splitId id0 = some ("list_reverseiterator", "__length_hint__") from by subst hid; decide +kernel]
  subst hid
  refine wpAny_bind (wpAny_isInstance (b := true) hT (by rw [isSubtype_type]; kernel_rfl) ?_)
  exact wpAny_pure h
abbrev RevP (items : Array Value) : Nat → Value → Prop := fun i v => items[items.size - 1 - i]? = some v
theorem lrv_extend {R : Result → Shared → Prop} (hh : A.handled = none) (S : Addr) (hSi : S ≠ it) (hSl : S ≠ l) (hne : l ≠ it) (res : Value) (c₀ : Nat)
    (hit : s.heap.IsRevIter it l ((items.size : Int) - 1)) (hl : s.heap.IsList l items) (hS : s.heap.get? S = some { cls := .type "list", data := .seq #[] c₀ })
    (hR : ∀ h' tk acc' c', (∀ b o, b ≠ S → b ≠ it → s.heap.get? b = some o → h'.get? b = some o) → h'.get? S = some { cls := .type "list", dict := none, data := .seq acc' c', slots := #[] } → ItemsOf (RevP items) acc' items.size → R (.ok (.ret res)) { s with heap := h', toks := tk }) (hn : items.size ≤ sizeLine) :
    wpAny (model prog w) A.in1 (Builtin.List.listExtendWith (.ref S) (.ref it) res)
      (fun fin s' => match fin with | .done f => R (.ok f) s' | .again c' => c'.quiet = true ∧ codeAny (model prog w) A c' R s') (fun e s' => R (.error e) s') s := by
  have hSf : S ∉ [it, l] := by simp only [List.mem_cons, List.not_mem_nil, or_false, not_or]; exact ⟨hSi, hSl⟩
  have W := (Walks.listRev (prog := prog) (w := w) (A := A.in1) hh it l hne items).toS
  have e0 : ((items.size : Nat) : Int) - 1 - ((0 : Nat) : Int) = (items.size : Int) - 1 := by omega
  have key : ∀ (h : Heap) (c₁ tk : Nat), h.IsRevIter it l ((items.size : Int) - 1) → h.IsList l items → (∀ b o, b ≠ S → s.heap.get? b = some o → h.get? b = some o) →
      h.get? S = some { cls := .type "list", data := .seq #[] c₁ } → codeAny (model prog w) A (.builtin "list.extend.loop" ⟨[.ref S, .ref it, res], []⟩) R { s with heap := h, toks := tk } := by
    intro h c₁ tk hst hst2 hk hS₁
    refine codeAny_extend_loopS W hn S hSf res items.size 0 _ #[] c₁ rfl (Nat.zero_le _) ⟨Nat.zero_le _, by rw [e0]; exact hst, hst2⟩ hS₁ (ItemsOf.nil _) fun s' acc' c' hm hS' hacc => ?_
    rw [Moved.eq_with hm]
    refine hR s'.heap s'.toks acc' c' (fun b o hb hb2 e => hm.heap b o (fun hmem => ?_) (hk b o hb e)) hS' hacc
    rcases List.mem_cons.mp hmem with e' | hmem
    · exact hb e'
    · exact hb2 (List.mem_singleton.mp hmem)
  have hT : s.TypeIs (.ref it) "list_reverseiterator" := Heap.IsRevIter.typeIs hit
  unfold Builtin.List.listExtendWith
  refine wpAny_bind (wpAny_typeOf hT ?_)
  have h1 : Builtin.List.listSameRef (.ref S) (.ref it) = false := by simp [Builtin.List.listSameRef, hSi]
  have h2 : (Value.type "list_reverseiterator" == Value.type "list") = false := by decide
  have h3 : (Value.type "list_reverseiterator" == Value.type "tuple") = false := by decide
  simp only [h1, h2, h3, Bool.or_false, Bool.false_eq_true, if_false]
  refine wpAny_bind (wpAny_pyIter_revIter hit ?_)
  refine wpAny_bind (wpAny_holding (lrv_hint hit ?_))
  refine wpAny_ite_split (fun _ => ?_) (fun _ => wpAny_pure ⟨plainId_quiet PySem.F.plain_extend_loop _, key _ c₀ _ hit hl (fun b o _ e => e) hS⟩)
  refine wpAny_bind (wpAny_rule ?_)
  refine wpAny_bind ?_
  show wpAny _ _ (updateSeq S (·.push .none) >>= fun _ => updateSeq S (·.pop)) _ _ _
  refine wpAny_bind (wpAny_updateSeq hS rfl ?_)
  have hS₂ := Heap.get?_update_self (Obj.mapSeq (·.push Value.none)) hS rfl
  refine wpAny_updateSeq (hz := by seq_fits) hS₂ rfl ?_
  have hS₃ := Heap.get?_update_self (Obj.mapSeq (·.pop)) hS₂ rfl
  have oth : ∀ b o, b ≠ S → s.heap.get? b = some o → ((s.heap.update S (Obj.mapSeq (·.push Value.none))).update S (Obj.mapSeq (·.pop))).get? b = some o :=
    fun b o hb e => (Heap.get?_update_other _ _ (Ne.symm hb)).trans ((Heap.get?_update_other _ _ (Ne.symm hb)).trans e)
  obtain ⟨ol, hol, cl, nl, dl⟩ := id hl
  refine wpAny_pure ⟨plainId_quiet PySem.F.plain_extend_loop _, key _ _ _ (hit.at fun o e => oth _ o (Ne.symm hSi) e) ?_ oth hS₃⟩
  exact ⟨ol, oth _ _ (Ne.symm hSl) hol, cl, nl, dl⟩
theorem lrv_call {Q : Value → Shared → Prop} (hh : A.handled = none) (hne : l ≠ it)
    (hit : s.heap.IsRevIter it l ((items.size : Int) - 1)) (hl : s.heap.IsList l items) (hn : items.size ≤ sizeLine)
    (hQ : ∀ h' tk acc' c', (∀ b o, b ≠ it → s.heap.get? b = some o → h'.get? b = some o) → h'.get? s.heap.objs.size = some { cls := .type "list", dict := none, data := .seq acc' c', slots := #[] } → ItemsOf (RevP items) acc' items.size → Q (.ref s.heap.objs.size) { s with heap := h', toks := tk }) :
    wpAny (model prog w) A (call (.type "list") [.ref it]) Q E s := by
  refine callType_codes (Q₁ := fun obj s₁ => obj = .ref s.heap.objs.size ∧ s₁ = { s with heap := s.heap.push { cls := .type "list", data := .seq #[] } }) PySem.F.called_list (PySem.F.typeCall_list_1 _) PySem.F.entry_list_init
    (code_list_new _ ⟨rfl, rfl⟩) fun obj s₁ h₁ => ?_
  obtain ⟨rfl, rfl⟩ := h₁
  have hS : (s.heap.push { cls := .type "list", data := .seq #[] }).get? s.heap.objs.size = some { cls := .type "list", data := .seq #[] } := Heap.get?_push_size _ rfl
  obtain ⟨oi, hoi, _⟩ := id hit
  obtain ⟨ol, hol, cl, nl, dl⟩ := id hl
  have hSi : s.heap.objs.size ≠ it := Nat.ne_of_gt (Heap.lt_size hoi)
  have hSl : s.heap.objs.size ≠ l := Nat.ne_of_gt (Heap.lt_size hol)
  refine ⟨⟨_, hS, rfl⟩, PySem.F.args_list_init_2 _ _, ?_⟩
  generalize hS0 : s.heap.objs.size = S at *
  have hit1 := hit.at (h' := s.heap.push { cls := .type "list", data := .seq #[] }) fun o e => Heap.get?_push_of_some _ e
  have hl1 : (s.heap.push { cls := .type "list", data := .seq #[] }).IsList l items := hl.push _
  show wpAny _ _ (do let old ← Builtin.List.listItems (.ref S); Builtin.List.listUpdate (.ref S) (fun _ => #[]); letGo old.toList.reverse; Builtin.List.listExtendWith (.ref S) (.ref it) .none) _ _ _
  refine wpAny_bind ?_
  unfold Builtin.List.listItems
  refine wpAny_bind (wpAny_seqItems hS rfl (wpAny_pure ?_))
  show wpAny _ _ (updateSeq S (fun _ => #[]) >>= fun _ => letGo (#[] : Array Value).toList.reverse >>= fun _ => Builtin.List.listExtendWith (.ref S) (.ref it) .none) _ _ _
  refine wpAny_bind (wpAny_updateSeq hS rfl ?_)
  have hS₂ := Heap.get?_update_self (Obj.mapSeq (fun _ => (#[] : Array Value))) hS rfl
  have oth : ∀ b o, b ≠ S → (s.heap.push { cls := .type "list", data := .seq #[] }).get? b = some o → ((s.heap.push { cls := .type "list", data := .seq #[] }).update S (Obj.mapSeq (fun _ => (#[] : Array Value)))).get? b = some o :=
    fun b o hb e => (Heap.get?_update_other _ _ (Ne.symm hb)).trans e
  refine wpAny_bind (wpAny_letGo ?_)
  obtain ⟨ol1, hol1, cl1, nl1, dl1⟩ := id hl1
  refine lrv_extend (A := A.in1) hh S hSi hSl hne .none _ (hit1.at fun o e => oth _ o (Ne.symm hSi) e) ⟨ol1, oth _ _ (Ne.symm hSl) hol1, cl1, nl1, dl1⟩ hS₂ (fun h' tk acc' c' hk hS' hacc => ?_) hn
  exact ⟨rfl, hQ h' tk acc' c' (fun b o hb e => hk b o (by rw [← hS0]; exact Nat.ne_of_lt (Heap.lt_size e)) hb (oth b o (by rw [← hS0]; exact Nat.ne_of_lt (Heap.lt_size e)) (Heap.get?_push_of_some _ e))) hS' hacc⟩
end
section
variable {X : Cx}
/-- list(reversed(x)), x a list: a new list -/
def tLstRev (K : PySem.W.Frag) (te : TE) : TE := fun σ H Q => te σ H fun v H1 => ∃ (a : Addr) (xs : List V), v = .ref a ∧ SqL K H1 a xs ∧ ∀ q, H1 q = none → Q (.ref q) (upd H1 q (.lst xs.reverse))
theorem pe_lstRev {e : Expr} {te : TE} {p p2 pos pos2 : Pos} (hc : X.calm = true) (hg : Gl X "list") (hm : X.mg "list" = none) (hg2 : Gl X "reversed") (hm2 : X.mg "reversed" = none) (he : PE X e te)
    (hs : starEach [e] X.env = (false, eval e X.env) :: starEach [] X.env := by rfl)
    (hs2 : starEach [.Call (.Name "reversed" p2) [e] [] pos2] X.env = (false, eval (.Call (.Name "reversed" p2) [e] [] pos2) X.env) :: starEach [] X.env := by rfl) :
    PE X (.Call (.Name "list" p) [.Call (.Name "reversed" p2) [e] [] pos2] [] pos) (tLstRev X.K te) := by
  refine ⟨fun pins s σ H Q I h => ?_⟩
  refine Call_ (ld_blt I hg hm boot_list (PyProof.Rows.callWith_type1 (args_cons (Call_ (ld_blt I hg2 hm2 PyProof.Rows.boot_reversed (PyProof.Rows.callWith_type1 (args_cons (thn (he.run pins s σ H _ I h) fun u s1 ⟨v, H1, I1, r1, q1⟩ => args_nil ?_) hs) hs rfl))) hs2) hs2 rfl))
  obtain ⟨a, xs, ev, hq, q⟩ := q1
  subst ev
  obtain rfl : u = Value.ref a := r1
  obtain ⟨its, rv, p', hz⟩ := I1.list hq
  refine call_reversed_list p'.isList (args_nil ?_)
  have k0 : ∀ b o, s1.heap.get? b = some o → (s1.heap.push (revObj a ((its.toArray.size : Int) - 1))).get? b = some o := fun b o e => Heap.get?_push_of_some _ e
  have I2 : Inv X pins σ H1 { s1 with heap := s1.heap.push (revObj a ((its.toArray.size : Int) - 1)) } := I1.kept (t' := s1.toks) k0
  have hf := I1.fpOk (H' := H1) (b := s1.heap.objs.size) (Nat.le_refl _) (I1.hok.fresh (Nat.le_refl _))
  have hl := p'.isList
  obtain ⟨ol, hol, _⟩ := id hl
  have hne : a ≠ s1.heap.objs.size := Nat.ne_of_lt (Heap.lt_size hol)
  have hn : its.toArray.size ≤ sizeLine := by rw [List.size_toArray, ← rv.length]; exact hz
  refine lrv_call (s := { s1 with heap := s1.heap.push (revObj a ((its.toArray.size : Int) - 1)) }) (I1.ok.hd hc) hne ⟨_, Heap.get?_push_size _ rfl, rfl, rfl⟩ (hl.push _) hn fun h' tk acc c' hk hS hi => ?_
  refine ⟨.ref (s1.heap.push (revObj a ((its.toArray.size : Int) - 1))).objs.size, _, I2.turnedNew (t' := tk) (ch := [s1.heap.objs.size]) (fun b o hb e => hk b o (by simpa using hb) e) (fun b hb => by rw [List.mem_singleton.mp hb]; exact hf) (Nat.le_refl _)
    (show ObjOk X.prog X.w _ h' _ (.lst xs.reverse) from ⟨by rw [List.length_reverse]; exact hz, acc.toList, c', RT.vals_rev rv hi, ?_⟩), rfl, q _ (I2.hok.fresh (Nat.le_refl _))⟩
  rw [Array.toArray_toList]
  exact hS
end
def wLRev (we : WE) : WE := fun env S K KX => we env S (fun x S1 => pGet (lsD S1 x) fun ds => K (.r S1.length) (S1 ++ [.lst ds.reverse])) KX
theorem xlrev {X : Cx} {B F0 : Hp} {W : WX} {e : Expr} {we : WE} {p p2 pos pos2 : Pos} (hc : X.calm = true) (hg : Gl X "list") (hm : X.mg "list" = none) (hg2 : Gl X "reversed") (hm2 : X.mg "reversed" = none) (he : PX X B F0 W e we)
    (hs : starEach [e] X.env = (false, eval e X.env) :: starEach [] X.env := by rfl)
    (hs2 : starEach [.Call (.Name "reversed" p2) [e] [] pos2] X.env = (false, eval (.Call (.Name "reversed" p2) [e] [] pos2) X.env) :: starEach [] X.env := by rfl) :
    PX X B F0 W (.Call (.Name "list" p) [.Call (.Name "reversed" p2) [e] [] pos2] [] pos) (wLRev we) := wkE (pe_lstRev hc hg hm hg2 hm2 he hs hs2) fun σ H Q h => by
  obtain ⟨w, env, K, KX, R, E, h, k, kx⟩ := h
  refine ⟨w, env, _, KX, R, E, h, fun x S1 v H1 μ1 F1 R1 X1 r1 h1 => ?_, kx⟩
  obtain ⟨ds, e, h1⟩ := h1.out
  obtain ⟨a, vs, rfl, hs, rv⟩ := lsD_ok (w := ⟨μ1, S1, F1⟩) R1 r1 e
  exact ⟨a, vs, rfl, .inl hs, fun q hq => (k.xt X1).newL (w := ⟨μ1, S1, F1⟩) R1 rv.rev h1 hq⟩
end PL

set_option Elab.async false
set_option linter.all false
set_option maxRecDepth 100000
set_option maxHeartbeats 2000000
/-! PL, part 22: sorted(set(xs)), len(set(xs)), xs a list of texts -/
namespace PL
open PySem PySem.Spec PyProof.Rows L2

/-! ### a set of texts whose table can be walked -/
def txtOf (e : Int × Value) : Str := match e.2 with
  | .str k _ => k
  | _ => Str.ofString ""
def IsTxt (w : World) (e : Int × Value) : Prop := ∃ k tk, e.2 = Value.str k tk ∧ e.1 = hashStr w k
/-- ks: the members in the table's order -/
structure TxtSet (w : World) (h : Heap) (a : Addr) (ks : List Str) : Prop where
  out : ∃ o es ep t, h.get? a = some o ∧ o.ExactSet ∧ o.data = .set es ep t ∧ (∀ e ∈ es.toList, IsTxt w e) ∧ es.toList.map txtOf = ks ∧ ks.Nodup ∧
    es.size < scanBound ∧ t.fits es.size = true ∧ Ris t.place.toList ∧ (w.params.followText "set-order" = true ∨ t.led = true)
section
variable {P : Program} {w : World} {h h' : Heap} {a : Addr} {ks : List Str}
theorem TxtSet.at (R : TxtSet w h a ks) (k : ∀ o, h.get? a = some o → h'.get? a = some o) : TxtSet w h' a ks := by
  obtain ⟨o, es, ep, t, ho, r⟩ := R.out
  exact ⟨o, es, ep, t, k o ho, r⟩
theorem txt_elems {l : List (Int × Value)} (g : ∀ e ∈ l, IsTxt w e) : ElemsOf (PySem.strKind P w) l := fun e he => by
  obtain ⟨k, tk, h1, h2⟩ := g e he
  exact ⟨⟨k, by rw [h1]; exact beq_self_eq_true k, h2⟩, by rw [h1] <;> rfl⟩
theorem txt_is {e : Int × Value} (g : IsTxt w e) (k : Str) : (PySem.strKind P w).is k e.2 = true ↔ txtOf e = k := by
  obtain ⟨k0, tk, h1, _⟩ := g
  unfold txtOf
  rw [h1]
  show ((k0 == k) = true) ↔ k0 = k
  exact beq_iff_eq
theorem txt_mem {l : List (Int × Value)} (g : ∀ e ∈ l, IsTxt w e) (k : Str) : k ∈ l.map txtOf ↔ ∃ e ∈ l, (PySem.strKind P w).is k e.2 = true := by
  rw [List.mem_map]
  exact ⟨fun ⟨e, he, q⟩ => ⟨e, he, (txt_is (g e he) k).2 q⟩, fun ⟨e, he, q⟩ => ⟨e, he, (txt_is (g e he) k).1 q⟩⟩
end
section
variable {P : Program} {w : World} {A : Around} {E : Value → Shared → Prop} {s : Shared} {a : Addr} {ks : List Str}
theorem txt_tail {g : Bool → Sem Unit} (hg : ∀ (b : Bool) (s₁ : Shared) (Q' : Unit → Shared → Prop), Q' () s₁ → wpAny (model P w) A (g b) Q' E s₁)
    {o : Obj} {es : Array (Int × Value)} {ep : Nat} {t : SetTable} (ho : s.heap.get? a = some o) (hex : o.ExactSet) (hd : o.data = .set es ep t)
    {es1 : Array (Int × Value)} {t2 : SetTable} (g1 : ∀ e ∈ es1.toList, IsTxt w e) (nd1 : (es1.toList.map txtOf).Nodup)
    (hb1 : es1.size < scanBound) (hf2 : t2.fits es1.size = true) (hr : Ris t2.place.toList) (hl : w.params.followText "set-order" = true ∨ t2.led = true) {wasDummy : Bool} {R : Option Bool → Shared → Prop}
    (hR : ∀ h' ks', Heap.SameBut a s.heap h' → ks'.Perm (es1.toList.map txtOf) → TxtSet w h' a ks' → R (some true) { s with heap := h' }) :
    wpAny (model P w) A (do
        storeSet a es1 t2
        if (!wasDummy && t2.tooFull) = true then do
            g (relayAll t2 es1 (SetTable.grown es1.size)).2.2
            storeSet a (relayAll t2 es1 (SetTable.grown es1.size)).1 (relayAll t2 es1 (SetTable.grown es1.size)).2.1
            pure (some true)
          else pure (some true)) R E s := by
  have sb1 := Heap.SameBut.update s.heap a (Obj.putSet es1 t2)
  refine wpAny_bind (wpAny_storeSet_of ho hd ?_ (fits_of_scanBound hb1))
  have ho1 := L2.store_at (es' := es1) (t' := t2) ho hd
  split
  case isFalse => exact wpAny_pure (hR _ _ sb1 (.refl _) ⟨_, es1, _, t2, ho1, hex, rfl, g1, rfl, nd1, hb1, hf2, hr, hl⟩)
  case isTrue =>
    have c1 := relayAll_perm t2 es1 (SetTable.grown es1.size)
    have c2 := relayAll_fits t2 es1 (SetTable.grown es1.size)
    have c3 := L2.relayAll_ris t2 es1 (SetTable.grown es1.size)
    have c4 := L2.relayAll_led t2 es1 (SetTable.grown es1.size)
    revert c1 c2 c3 c4
    generalize relayAll t2 es1 (SetTable.grown es1.size) = Z
    obtain ⟨es2, t3, gv⟩ := Z
    intro c1 c2 c3 c4
    dsimp only at c1 c2 c3 c4 ⊢
    have hz : es2.size = es1.size := by
      have := c1.length_eq
      rwa [Array.length_toList, Array.length_toList] at this
    refine wpAny_bind (hg _ _ _ (wpAny_bind (wpAny_storeSet_of ho1 rfl ?_ (fits_of_scanBound (by omega)))))
    refine wpAny_pure (hR _ (es2.toList.map txtOf) (sb1.trans (Heap.SameBut.update _ a _)) (c1.map txtOf)
      ⟨_, es2, _, t3, L2.store_at (es' := es2) (t' := t3) ho1 rfl, hex, rfl, fun e he => g1 e (c1.mem_iff.mp he), rfl, (c1.map txtOf).nodup_iff.mpr nd1, by omega, c2, c3, hl.imp id fun z => by rw [c4]; exact z⟩)
/-- the members behind an add -/
def addTo (ks : List Str) (k : Str) : List Str := if k ∈ ks then ks else ks ++ [k]
theorem txt_add {k : Str} {tk : Tok} {Q : Bool → Shared → Prop} (R : TxtSet w s.heap a ks) (room : ks.length + 1 < scanBound)
    (hQ : ∀ b h' ks', Heap.SameBut a s.heap h' → ks'.Perm (addTo ks k) → TxtSet w h' a ks' → Q b { s with heap := h' }) :
    wpAny (model P w) A (setAddHashed a (.str k tk) ((PySem.strKind P w).hash k)) Q E s := by
  have R0 := R
  obtain ⟨o, es, ep, t, ho, hex, hd, g, hk, nd, hb, hf, hr, hl⟩ := R.out
  have hkey : (PySem.strKind P w).is k (.str k tk) = true := beq_self_eq_true k
  have hsc : (Value.str k tk).scannable = true := rfl
  have hel : ElemsOf (PySem.strKind P w) es.toList := txt_elems g
  have hsz : es.size = ks.length := by rw [← hk, List.length_map, Array.length_toList]
  unfold setAddHashed setAddHashedIn
  refine wpAny_holding (wpAny_bind (wpAny_setState_of ho hd hf ?_))
  dsimp only
  rw [byScan_of hsc hb hel]
  simp only [↓reduceIte]
  unfold setAddByScan
  refine wpAny_bind ?_
  refine wpAny_bind (wpAny_rule ?_)
  refine wpAny_bind (wpAny_setScan_of hkey ho hd hf hel ?_)
  have hmem := txt_mem (P := P) g k
  rw [hk] at hmem
  cases hfi : List.findIdx? (fun e => (PySem.strKind P w).is k e.2) es.toList with
  | some j =>
    dsimp only
    obtain ⟨hj, pj, _⟩ := List.findIdx?_eq_some_iff_getElem.mp hfi
    have hin : k ∈ ks := hmem.2 ⟨es.toList[j], List.getElem_mem hj, pj⟩
    refine wpAny_pure (wpAny_pure (hQ _ s.heap ks (Heap.SameBut.refl a s.heap) ?_ R0))
    unfold addTo
    rw [if_pos hin]
  | none =>
    dsimp only
    have hnk : k ∉ ks := fun z => by
      obtain ⟨e, he, q⟩ := hmem.1 z
      rw [List.findIdx?_eq_none_iff.mp hfi e he] at q
      cases q
    have gw : ∀ (b : Bool) {s₁ : Shared} {Q' : Unit → Shared → Prop}, Q' () s₁ → wpAny (model P w) A (match b with | true => rule "set.scan.the-table-gave-way" | false => pure ()) Q' E s₁ :=
      fun b s₁ Q' q => by cases b <;> first | exact wpAny_pure q | exact wpAny_rule q
    have c1 := layNew_perm t es ((PySem.strKind P w).hash k) (.str k tk)
    have c2 := layNew_fits t es ((PySem.strKind P w).hash k) (.str k tk)
    have c3 := L2.layNew_ris t es ((PySem.strKind P w).hash k) (.str k tk) hr
    have c4 := L2.layNew_led t es ((PySem.strKind P w).hash k) (.str k tk)
    revert c1 c2 c3 c4
    generalize layNew t es ((PySem.strKind P w).hash k) (.str k tk) = Z
    obtain ⟨es1, t1, wasDummy, gave⟩ := Z
    intro c1 c2 c3 c4
    dsimp only at c1 c2 c3 c4 ⊢
    rw [Array.toList_push] at c1
    have pk : (es1.toList.map txtOf).Perm (ks ++ [k]) := by
      have := c1.map txtOf
      rwa [List.map_append, hk] at this
    have g1 : ∀ e ∈ es1.toList, IsTxt w e := fun e he => by
      rcases List.mem_append.mp (c1.mem_iff.mp he) with z | z
      · exact g e z
      · rw [List.mem_singleton.mp z]; exact ⟨k, tk, rfl, rfl⟩
    have nd1 : (es1.toList.map txtOf).Nodup := pk.nodup_iff.mpr (List.nodup_append.mpr ⟨nd, by simp, fun x hx y hy e => hnk (by rw [← List.mem_singleton.mp hy, ← e]; exact hx)⟩)
    have hb1 : es1.size < scanBound := by
      have := pk.length_eq
      rw [List.length_map, Array.length_toList, List.length_append] at this
      simp at this
      omega
    have led : w.params.followText "set-order" = true ∨ t1.led = true := hl.imp id fun z => by rw [c4]; exact z
    have fin : ∀ h' ks', Heap.SameBut a s.heap h' → ks'.Perm (es1.toList.map txtOf) → TxtSet w h' a ks' → Q true { s with heap := h' } := fun h' ks' sb pm r => by
      refine hQ true h' ks' sb ?_ r
      unfold addTo
      rw [if_neg hnk]
      exact pm.trans pk
    refine wpAny_bind (gw _ ?_)
    split
    · refine wpAny_bind ?_
      rw [hashByValue_scannable 8 hsc]
      refine wpAny_pure ?_
      refine txt_tail ?_ ho hex hd g1 nd1 hb1 ?_ ?_ ?_ ?_
      · intro b s₁ Q' q; cases b <;> first | exact wpAny_pure q | exact wpAny_rule q
      · first | (split <;> first | exact c2 | exact SetTable.fits_plain_off c2) | exact c2
      · first | (split <;> exact c3) | exact c3
      · first | (split <;> exact led) | exact led
      · intro h' ks' sb pm r; dsimp only; exact wpAny_pure (fin h' ks' sb pm r)
    · refine wpAny_bind (wpAny_pure ?_)
      simp only [↓reduceIte]
      refine txt_tail ?_ ho hex hd g1 nd1 hb1 c2 c3 led ?_
      · intro b s₁ Q' q; cases b <;> first | exact wpAny_pure q | exact wpAny_rule q
      · intro h' ks' sb pm r; dsimp only; exact wpAny_pure (fin h' ks' sb pm r)
end
/-! ### set(xs), xs a list of texts -/
def Held (w : World) (h : Heap) (a : Addr) (xs : List Str) : Prop := ∃ ks, TxtSet w h a ks ∧ ks.length ≤ xs.length ∧ ∀ k, k ∈ ks ↔ k ∈ xs
theorem mem_addTo {ks xs : List Str} {k : Str} (h : ∀ j, j ∈ ks ↔ j ∈ xs) (j : Str) : j ∈ addTo ks k ↔ j ∈ xs ++ [k] := by
  unfold addTo
  rw [List.mem_append, List.mem_singleton, ← h j]
  split
  · rename_i hk
    exact ⟨.inl, fun z => z.elim id fun e => e ▸ hk⟩
  · rw [List.mem_append, List.mem_singleton]
theorem len_addTo (ks : List Str) (k : Str) : (addTo ks k).length ≤ ks.length + 1 := by
  unfold addTo
  split
  · exact Nat.le_succ _
  · simp
section
variable {P : Program} {w : World} {A : Around} {E : Value → Shared → Prop} {s : Shared}
theorem txt_fresh {h : Heap} {a : Addr} (ho : h.get? a = some { cls := .type "set", dict := none, data := .set #[] 0 (.fresh 0 0 (!w.params.followText "set-order")) }) : Held w h a [] :=
  ⟨[], ⟨_, #[], 0, _, ho, ⟨rfl, rfl, rfl⟩, rfl, (fun e he => by simp at he), rfl, List.nodup_nil, by decide, by rfl, List.Pairwise.nil, by
    show _ ∨ (!w.params.followText "set-order") = true
    cases w.params.followText "set-order"
    · exact .inr rfl
    · exact .inl rfl⟩, Nat.le_refl _, fun _ => Iff.rfl⟩
theorem txt_loop {I : Addr} {fp wr : List Addr} {G : Array GenState → Array GenState → Prop} {n : Nat} {Pv : Nat → Value → Prop} {St : Nat → Shared → Prop} {R : Result → Shared → Prop}
    (W : WalksS P w A.in1 I fp wr G n Pv St) (S : Addr) (hSf : S ∉ fp) (xs : List Str) (hn : n = xs.length) (hb : xs.length + 1 < scanBound) (hval : ∀ i v, Pv i v → ∃ k t, xs[i]? = some k ∧ v = .str k t) :
    ∀ (k i : Nat) (s : Shared), n - i = k → i ≤ n → St i s → Held w s.heap S (xs.take i) →
      (∀ s', Moved (S :: wr) G s s' → Held w s'.heap S xs → R (.ok (.ret .none)) s') →
      codeAny (model P w) A (.builtin "set.update.loop" ⟨[.ref S, .ref I], []⟩) R s := by
  have hSw : S ∉ wr := fun h => hSf (W.sub _ h)
  have hsub : ∀ b ∈ wr, b ∈ S :: wr := fun b hb => List.mem_cons_of_mem _ hb
  intro k
  induction k with
  | zero =>
    intro i s hk' hi hst ⟨ks, hS, hc, hm⟩ hR
    obtain rfl : i = n := by omega
    refine codeAny_builtin F.entry_set_update_loop ?_
    rw [Around.under_plainId F.plain_set_update_loop _]
    show wpAny _ A.in1 (pyNext (.ref I) >>= _) _ _ s
    refine wpAny_bind (W.done s _ _ hst fun s' mv => ?_)
    show wpAny _ A.in1 (ret Value.none) _ _ s'
    rw [List.take_of_length_le (by omega)] at hc hm
    exact wpAny_pure (hR s' (mv.mono hsub) ⟨ks, hS.at fun o e => mv.heap S o hSw e, hc, hm⟩)
  | succ k ih =>
    intro i s hk' hi hst ⟨ks, hS, hc, hm⟩ hR
    have hlt : i < n := by omega
    refine codeAny_builtin F.entry_set_update_loop ?_
    rw [Around.under_plainId F.plain_set_update_loop _]
    show wpAny _ A.in1 (pyNext (.ref I) >>= _) _ _ s
    refine wpAny_bind (W.item i s _ _ hlt hst fun v s' hP hst' mv => ?_)
    obtain ⟨z, t, hz, rfl⟩ := hval i v hP
    have hS' : TxtSet w s'.heap S ks := hS.at fun o e => mv.heap S o hSw e
    show wpAny _ A.in1 (holding [Value.str z t] (setAdd S (.str z t)) >>= _) _ _ s'
    refine wpAny_bind (wpAny_holding ?_)
    unfold setAdd
    refine wpAny_holding ?_
    refine wpAny_bind ((PySem.strKind P w).pyHash (k := z) (beq_self_eq_true z) ?_)
    have hl : ks.length ≤ i := by rw [List.length_take] at hc; omega
    refine txt_add (s := { s' with toks := s'.toks + 1 }) hS' (by omega) fun b h' ks' sb pm hS2 => ?_
    have hS3 : Held w h' S (xs.take (i + 1)) := by
      rw [List.take_add_one, hz]
      refine ⟨ks', hS2, ?_, fun j => by rw [pm.mem_iff]; exact mem_addTo hm j⟩
      have := len_addTo ks z
      rw [pm.length_eq]
      simp only [Option.toList_some, List.length_append, List.length_singleton]
      omega
    refine wpAny_pure ⟨plainId_quiet F.plain_set_update_loop _, ih (i + 1) _ (by omega) hlt (W.frame _ s' _ _ hst' (Nat.le_succ _) fun b hb o e => ?_) hS3 fun s'' mv2 hS'' => ?_⟩
    · rw [sb.2 b (fun h : b = S => hSf (by rw [← h]; exact hb))]; exact e
    · refine hR s'' (Moved.trans W.gtrans ((mv.mono hsub).then_heap (Nat.le_succ _) fun b o hb e => ?_) mv2) hS''
      rw [sb.2 b (fun h : b = S => hb (by rw [h]; exact List.mem_cons_self))]; exact e
end
end PL

set_option Elab.async false
set_option linter.all false
set_option maxRecDepth 100000
set_option maxHeartbeats 3200000
/-! PL, part 23: the calls -/
namespace PL
open PySem PySem.Spec PyProof.Rows L2
theorem txt_at : ∀ {vs : List Value} {xs : List Str}, StrsAre vs xs → ∀ (i : Nat) (v : Value), vs[i]? = some v → ∃ k t, xs[i]? = some k ∧ v = .str k t
  | _, _, .nil, i, v, h => by simp at h
  | _, _, .cons x t r, 0, v, h => by
    simp at h
    exact ⟨x, t, rfl, h.symm⟩
  | _, _, .cons x t r, i + 1, v, h => by
    obtain ⟨k, u, h1, h2⟩ := txt_at r i v (by simpa using h)
    exact ⟨k, u, by simpa using h1, h2⟩
section
variable {P : Program} {w : World} {A : Around} {E : Value → Shared → Prop} {s : Shared}
abbrev emptySet (w : World) : Obj := { cls := .type "set", dict := none, data := .set #[] 0 (.fresh 0 0 (!w.params.followText "set-order")) }
theorem txt_init {l : Addr} {items : Array Value} {xs : List Str} {a : Addr} {R : Result → Shared → Prop} (hh : A.handled = none) (hl : s.heap.IsList l items) (hit : StrsAre items.toList xs) (hb : xs.length + 1 < scanBound)
    (ha : s.heap.get? a = some (emptySet w)) (hne : a ≠ l)
    (h : ∀ s', Held w s'.heap a xs → (∀ b o, b ≠ a → s.heap.get? b = some o → s'.heap.get? b = some o) → s' = { s with heap := s'.heap, toks := s'.toks } → R (.ok (.ret .none)) s') :
    wpAny (model P w) A.in1 (Builtin.«set.__init__» ⟨[.ref a, .ref l], []⟩)
      (fun fin s' => match fin with | .done f => R (.ok f) s' | .again c' => c'.quiet = true ∧ codeAny (model P w) A c' R s') (fun e s' => R (.error e) s') s := by
  have hisz : items.size = xs.length := by
    have q := StrsAre.length hit
    rw [Array.length_toList] at q
    exact q
  obtain ⟨ol, hol, hcl, nl, hdl⟩ := hl
  obtain ⟨ocls, odict, odata, oslots⟩ := ol
  simp only at hcl hdl
  subst hcl; subst hdl
  have hsls := F.sub_list_set
  have hslf := F.sub_list_frozenset
  have hne2 : (Value.type "list" == Value.type "dict") = false := by decide
  have hl1 : s.heap.IsList l items := ⟨_, hol, rfl, nl, rfl⟩
  unfold Builtin.«set.__init__» noKeywords Builtin.Frozenset.updateFrom
  generalize hPI : pyIter = PI
  wp_walk
  subst hPI
  refine wpAny_pyIter_list hl1 ?_
  refine wpAny_bind (wpAny_runValue ?_)
  have hla : l < s.heap.objs.size := Heap.lt_size hol
  have haa : a < s.heap.objs.size := Heap.lt_size ha
  have hh3 : A.in1.in1.handled = none := by simp [hh]
  have hSf : a ∉ [s.heap.objs.size, l] := by
    simp only [List.mem_cons, List.mem_singleton, List.not_mem_nil, or_false, not_or]
    exact ⟨Nat.ne_of_lt haa, hne⟩
  have hval : ∀ (i : Nat) (v : Value), items[i]? = some v → ∃ k t, xs[i]? = some k ∧ v = .str k t := fun i v hv => by
    have q : items.toList[i]? = some v := by rw [Array.getElem?_toList]; exact hv
    exact txt_at hit i v q
  refine txt_loop ((Walks.list hh3 _ l (Nat.ne_of_lt hla) items).toS) a hSf xs hisz hb hval (items.size - 0) 0 _ (by omega) (Nat.zero_le _) ⟨⟨_, Heap.get?_push_size _ rfl, rfl, rfl⟩, hl1.push _⟩ (txt_fresh (Heap.get?_push_of_some _ ha)) fun s' hm hS' => ?_
  show wpAny _ _ _ _ _ _
  refine wpAny_pure ?_
  show wpAny _ _ (ret Value.none) _ _ _
  refine wpAny_pure (h s' hS' (fun b o hb e => ?_) ?_)
  · have hb0 : b < s.heap.objs.size := Heap.lt_size e
    exact hm.heap b o (by simp only [List.mem_cons, List.mem_singleton, List.not_mem_nil, or_false, not_or]; exact ⟨hb, Nat.ne_of_lt hb0⟩) (Heap.get?_push_of_some _ e)
  · exact (Moved.eq_with hm :)
theorem txt_call {l : Addr} {items : Array Value} {xs : List Str} {Q : Value → Shared → Prop} (hh : A.handled = none) (hl : s.heap.IsList l items) (hit : StrsAre items.toList xs) (hb : xs.length + 1 < scanBound)
    (h : ∀ (h' : Heap) (tk : Nat), Held w h' s.heap.objs.size xs → (∀ b o, s.heap.get? b = some o → h'.get? b = some o) → Q (.ref s.heap.objs.size) { s with heap := h', toks := tk }) :
    wpAny (model P w) A (call (.type "set") [.ref l]) Q E s := by
  obtain ⟨c, tl, hmro⟩ := F.called_set.mro
  have hmade := F.called_set.made
  have hsub := F.called_set.sub
  refine wpAny_call (codeAny_of_tree ?_)
  show wpAny _ _ (callAny (.type "set") _) _ _ _
  refine wpAny_pure ⟨Code.quiet_builtin _ (by decide +kernel), codeAny_builtin F.entry_type_call ?_⟩
  rw [Around.under_plain (weight_type_call_type "set" [.ref l] []) rfl]
  have h1 := F.called_set.notType
  have h2 := F.called_set.canCreate
  have hct := F.typeCall_set_1 (.ref l)
  repeat (any_goals (first | assumption | wp_step))
  refine codeAny_mono (L2.code_set_led1 (.ref l) (E := E) (Q₁ := fun obj s₁ => obj = .ref s.heap.objs.size ∧ s₁ = { s with heap := s.heap.push (emptySet w) }) ⟨rfl, rfl⟩) fun r s₁ hr => ?_
  cases r with
  | error e => exact hr
  | ok fl =>
    cases fl with
    | ret obj =>
      obtain ⟨rfl, rfl⟩ := hr
      have hS : (s.heap.push (emptySet w)).get? s.heap.objs.size = some (emptySet w) := Heap.get?_push_size _ rfl
      have hT : Shared.TypeIs { s with heap := s.heap.push (emptySet w) } (.ref s.heap.objs.size) "set" := ⟨_, hS, rfl⟩
      have hli := F.called_set.init.lookup
      have hbi := F.called_set.init.bind (.ref s.heap.objs.size)
      obtain ⟨ol, hol, _⟩ := id hl
      have hla : l < s.heap.objs.size := Heap.lt_size hol
      repeat (any_goals (first | assumption | wp_step))
      refine codeAny_mono (codeAny_call_builtin (R := wants (fun r s₂ => r = .none ∧ ∃ h' tk, s₂ = { s with heap := h', toks := tk } ∧ Held w h' s.heap.objs.size xs ∧ (∀ b o, s.heap.get? b = some o → h'.get? b = some o)) E) F.called_set.init.plain F.entry_set_init (check_set_init_1 hT
        (txt_init (R := wants (fun r s₂ => r = .none ∧ ∃ h' tk, s₂ = { s with heap := h', toks := tk } ∧ Held w h' s.heap.objs.size xs ∧ (∀ b o, s.heap.get? b = some o → h'.get? b = some o)) E) hh (hl.push _) hit hb hS (Nat.ne_of_gt hla) fun s' hH hk e => ⟨rfl, s'.heap, s'.toks, e, hH, fun b o e => hk b o (Nat.ne_of_lt (Heap.lt_size e)) (Heap.get?_push_of_some _ e)⟩))) fun r₂ s₂ hr₂ => ?_
      cases r₂ with
      | error e => exact hr₂
      | ok fl₂ =>
        cases fl₂ with
        | ret r =>
          obtain ⟨rfl, h', tk, rfl, hH, hk⟩ := hr₂
          repeat (any_goals (first | assumption | wp_step))
          exact h _ _ hH hk
        | _ => exact hr₂.elim
    | _ => exact hr.elim
end
end PL

set_option Elab.async false
set_option linter.all false
set_option maxRecDepth 100000
set_option maxHeartbeats 3200000
/-! PL, part 24: sorted and the number of members; the rules -/
namespace PL
open PySem PySem.Spec PyProof.Rows L2
section
variable {P : Program} {w : World} {A : Around} {E : Value → Shared → Prop} {s : Shared} {a : Addr} {ks : List Str}
theorem txt_strs : ∀ {vs : List Value}, (∀ v ∈ vs, ∃ k t, v = Value.str k t) → StrsAre vs (vs.map fun v => match v with | .str k _ => k | _ => Str.ofString "")
  | [], _ => .nil
  | v :: vs, h => by
    obtain ⟨k, t, rfl⟩ := h v List.mem_cons_self
    exact .cons k t (txt_strs fun u hu => h u (List.mem_cons_of_mem _ hu))
theorem txt_sorted {Q : Value → Shared → Prop} (R : TxtSet w s.heap a ks) (hh : A.handled = none) (h64 : ks.length < 64)
    (hQ : ∀ s' p (out : Array Value) (c : Nat) (ys : List Str), (∀ b o, s.heap.get? b = some o → s'.heap.get? b = some o) → s'.gens = s.gens → s'.os = s.os → s.heap.objs.size ≤ p →
      s'.heap.get? p = some (seqObj "list" out c) → StrsAre out.toList ys → ys.Perm ks → sortedS ys = true → Q (.ref p) s') :
    wpAny (model P w) A (call (.builtin "sorted") [.ref a]) Q E s := by
  obtain ⟨o, es, ep, t, ho, hex, hd, g, hk, nd, hb, hf, hr, hl⟩ := R.out
  refine Calls.call_function_entry kind_sorted plain_sorted entry_sorted (args_sorted1 _) ?_
  unfold Builtin.«sorted»
  refine wpAny_bind (m := checkCount "sorted" 1 1 _) (wpAny_pure ?_)
  refine wpAny_bind (L2.collect_set (A := A.in1) hh ⟨o, ho, hex.1, hd⟩ hf hb hr hl fun s1 vs k1 hz g1 o1 pm => ?_)
  have hvs : ∀ v ∈ vs, ∃ k t, v = Value.str k t := fun v hv => by
    obtain ⟨e, he, q⟩ := List.mem_map.mp (pm.mem_iff.mp hv)
    obtain ⟨k, tk, h1, _⟩ := g e he
    exact ⟨k, tk, by rw [← q]; exact h1⟩
  have hI := txt_strs hvs
  have pk : (vs.map fun v => match v with | .str k _ => k | _ => Str.ofString "").Perm ks := by
    have q := pm.map fun v => match v with | .str k _ => k | _ => Str.ofString ""
    rw [List.map_map] at q
    rw [← hk]
    exact q
  generalize (vs.map fun v => match v with | .str k _ => k | _ => Str.ofString "") = zs at hI pk
  have hvl : vs.length = ks.length := by rw [hI.length, pk.length_eq]
  refine wpAny_bind (wpAny_newList ?_ (by rw [hvl, sizeLine_eq]; omega))
  have hoL : (s1.heap.push (seqObj "list" vs.toArray 0)).get? s1.heap.objs.size = some (seqObj "list" vs.toArray 0) := Heap.get?_push_size _ rfl
  refine wpAny_bind (wpAny_holding (wpAny_call_entry slot_list_sort ⟨_, hoL, rfl⟩ entry_list_sort
    (list_sort_treeK strKind_oneLt hoL hI.keysOf (fun v₁ v₂ rest e => keyKind_strs (by rw [← e]; exact hI)) (by rw [hvl]; exact h64) fun st' hp hs => ⟨_, rfl, ?_⟩) (args_list_sort _)))
  obtain ⟨ys, q1, q2, q3⟩ := sorted_out_str hI hp hs
  obtain ⟨c, hc⟩ := sortedHeap_at (vs := vs) (out := (arrOf st').map (·.2)) hoL
  refine wpAny_pure ⟨_, rfl, hQ _ s1.heap.objs.size ((arrOf st').map (·.2)).toList.toArray c ys (fun b u e => ?_) g1 o1 hz (by rw [Array.toArray_toList]; exact hc) (by simpa using q1) (q2.trans pk) q3⟩
  have q := k1 b u e
  have hlt := Heap.lt_size q
  show (sortedHeap (s1.heap.push (seqObj "list" vs.toArray 0)) s1.heap.objs.size vs _).get? b = some u
  rw [sortedHeap_old (Nat.ne_of_lt hlt) (by rw [size_push']; exact Nat.lt_succ_of_lt hlt)]
  exact Heap.get?_push_of_some _ q
end
/-! ### the rules -/
def SameMem (ys xs : List Str) : Prop := ys.Nodup ∧ ∀ k, k ∈ ys ↔ k ∈ xs
section
variable {X : Cx}
def tSortSet (K : PySem.W.Frag) (te : TE) : TE := fun σ H Q => te σ H fun v H1 => ∃ (a : Addr) (xs : List Str), v = .ref a ∧ SqL K H1 a (xs.map V.str) ∧ xs.length < 64 ∧
  ∀ (ys : List Str) q, SameMem ys xs → sortedS ys = true → H1 q = none → Q (.ref q) (upd H1 q (.lst (ys.map V.str)))
def tLenSetS (K : PySem.W.Frag) (te : TE) : TE := fun σ H Q => te σ H fun v H1 => ∃ (a : Addr) (xs : List Str), v = .ref a ∧ SqL K H1 a (xs.map V.str) ∧ xs.length < 64 ∧
  ∀ (ys : List Str), SameMem ys xs → Q (.int ys.length) H1
theorem TxtSet.nodup {w : World} {h : Heap} {a : Addr} {ks : List Str} (R : TxtSet w h a ks) : ks.Nodup := by
  obtain ⟨o, es, ep, t, ho, hex, hd, g, hk, nd, _⟩ := R.out
  exact nd
theorem pe_sortSet {e : Expr} {te : TE} {p p2 pos pos2 : Pos} (hc : X.calm = true) (hg : Gl X "sorted") (hm : X.mg "sorted" = none) (hg2 : Gl X "set") (hm2 : X.mg "set" = none) (he : PE X e te)
    (hs : starEach [e] X.env = (false, eval e X.env) :: starEach [] X.env := by rfl) :
    PE X (.Call (.Name "sorted" p) [.Call (.Name "set" p2) [e] [] pos2] [] pos) (tSortSet X.K te) := by
  refine ⟨fun pins s σ H Q I h => ?_⟩
  refine Call_ (ld_blt I hg hm boot_sorted ?_)
  refine PyProof.Rows.callWith_builtin1 (PyProof.Rows.args_cons ?_ rfl) rfl rfl
  refine Call_ (ld_blt I hg2 hm2 boot_set ?_)
  refine PyProof.Rows.callWith_type1 (PyProof.Rows.args_cons (thn (he.run pins s σ H _ I h) fun v s1 ⟨x, H1, I1, r1, q1⟩ => PyProof.Rows.args_nil ?_) hs) hs rfl
  obtain ⟨l, xs, rfl, hq, h64, q1⟩ := q1
  cases r1
  obtain ⟨its, r, pl, hz⟩ := I1.list hq
  refine txt_call (I1.ok.hd hc) pl.isList (xs := xs) (by simpa using r.strs) (by unfold scanBound; omega) fun h' tk ⟨ks, hS, hl, hmem⟩ hk => ?_
  refine PyProof.Rows.args_nil ?_
  have I2 : Inv X pins σ H1 { s1 with heap := h', toks := tk } := I1.kept hk
  obtain ⟨sx, hsx⟩ : ∃ sx : Shared, sx = { s1 with heap := h', toks := tk } := ⟨_, rfl⟩
  rw [← hsx] at I2 ⊢
  have hS : TxtSet X.w sx.heap s1.heap.objs.size ks := by rw [hsx]; exact hS
  refine txt_sorted hS (I1.ok.hd hc) (by omega) fun s' p out c ys k g o hp hg hi hpm hso => ?_
  have hlen : (ys.map V.str).length ≤ sizeLine := by rw [List.length_map, hpm.length_eq, sizeLine_eq]; omega
  have hn : H1 p = none := I2.hok.fresh hp
  have J : Inv X pins σ (upd H1 p (.lst (ys.map V.str))) { sx with heap := s'.heap, gens := s'.gens, drawn := s'.drawn, toks := s'.toks } :=
    I2.call (ch := []) (Un.laid k hp hn) (I2.hok.laid k hp ⟨hlen, out.toList, c, vals_of_strs hi, hg⟩) (by rw [g]; exact I2.bare) (fun _ z => nomatch z)
  have e : s' = { sx with heap := s'.heap, gens := s'.gens, drawn := s'.drawn, toks := s'.toks } := by
    clear hsx I2 hS
    cases s'
    cases sx
    cases o
    rfl
  rw [e]
  exact ⟨.ref p, _, J, rfl, q1 ys p ⟨hpm.nodup_iff.mpr hS.nodup, fun j => by rw [hpm.mem_iff]; exact hmem j⟩ hso hn⟩
theorem pe_lenSetS {e : Expr} {te : TE} {p p2 pos pos2 : Pos} (hc : X.calm = true) (hg : Gl X "len") (hm : X.mg "len" = none) (hg2 : Gl X "set") (hm2 : X.mg "set" = none) (he : PE X e te)
    (hs : starEach [e] X.env = (false, eval e X.env) :: starEach [] X.env := by rfl) :
    PE X (.Call (.Name "len" p) [.Call (.Name "set" p2) [e] [] pos2] [] pos) (tLenSetS X.K te) := by
  refine ⟨fun pins s σ H Q I h => ?_⟩
  refine Call_ (ld_blt I hg hm boot_len ?_)
  refine PyProof.Rows.callWith_builtin1 (PyProof.Rows.args_cons ?_ rfl) rfl rfl
  refine Call_ (ld_blt I hg2 hm2 boot_set ?_)
  refine PyProof.Rows.callWith_type1 (PyProof.Rows.args_cons (thn (he.run pins s σ H _ I h) fun v s1 ⟨x, H1, I1, r1, q1⟩ => PyProof.Rows.args_nil ?_) hs) hs rfl
  obtain ⟨l, xs, rfl, hq, h64, q1⟩ := q1
  cases r1
  obtain ⟨its, r, pl, hz⟩ := I1.list hq
  refine txt_call (I1.ok.hd hc) pl.isList (xs := xs) (by simpa using r.strs) (by unfold scanBound; omega) fun h' tk ⟨ks, hS, hl, hmem⟩ hk => ?_
  refine PyProof.Rows.args_nil ?_
  have I2 : Inv X pins σ H1 { s1 with heap := h', toks := tk } := I1.kept hk
  have nd := hS.nodup
  obtain ⟨o, es, ep, t, ho, hex, hd, g, hk2, _, hb, hf, _⟩ := hS.out
  have hn : es.size = ks.length := by rw [← hk2, List.length_map, Array.length_toList]
  refine call_len_set ho hex hd hf (by rw [hn] <;> omega) ⟨.int ks.length, H1, I2.tok _, ⟨_, by rw [hn]⟩, q1 ks ⟨nd, hmem⟩⟩
end
def wSortSet (we : WE) : WE := fun env S K KX => we env S (fun x S1 => pGet (lsD S1 x) fun ds => ∃ xs : List Str, ds = xs.map (fun s => .z (.str s)) ∧ pReq (xs.length < 64) (∀ ys, SameMem ys xs → sortedS ys = true → K (.r S1.length) (S1 ++ [.lst (ys.map fun s => .z (.str s))]))) KX
def wLenSet (we : WE) : WE := fun env S K KX => we env S (fun x S1 => pGet (lsD S1 x) fun ds => ∃ xs : List Str, ds = xs.map (fun s => .z (.str s)) ∧ pReq (xs.length < 64) (∀ ys, SameMem ys xs → K (.z (.int ys.length)) S1)) KX
theorem rp_strs {B : Hp} {w : Wd} : ∀ ys : List Str, RpsW B w (ys.map fun s => .z (.str s)) (ys.map V.str)
  | [] => .nil
  | y :: ys => .cons (.z (.str y)) (rp_strs ys)
section
variable {X : Cx} {B F0 : Hp} {W : WX} {e : Expr} {we : WE} {p p2 pos pos2 : Pos}
theorem xsortset (hc : X.calm = true) (hg : Gl X "sorted") (hm : X.mg "sorted" = none) (hg2 : Gl X "set") (hm2 : X.mg "set" = none) (he : PX X B F0 W e we)
    (hs : starEach [e] X.env = (false, eval e X.env) :: starEach [] X.env := by rfl) :
    PX X B F0 W (.Call (.Name "sorted" p) [.Call (.Name "set" p2) [e] [] pos2] [] pos) (wSortSet we) := wkE (pe_sortSet hc hg hm hg2 hm2 he hs) fun σ H Q h => by
  obtain ⟨w, env, K, KX, R, E, h, k, kx⟩ := h
  refine ⟨w, env, _, KX, R, E, h, fun x S1 v H1 μ1 F1 R1 X1 r1 h1 => ?_, kx⟩
  obtain ⟨ds, e, xs, rfl, h1⟩ := h1.out
  obtain ⟨h64, h1⟩ := h1.out
  obtain ⟨a, vs, rfl, hs, rv⟩ := lsD_ok (w := ⟨μ1, S1, F1⟩) R1 r1 e
  have ev := RpDs.strs rv
  subst ev
  exact ⟨a, xs, rfl, .inl hs, h64, fun ys q hm hs hq => (k.xt X1).newL (w := ⟨μ1, S1, F1⟩) R1 (rp_strs ys) (h1 ys hm hs) hq⟩
theorem xlenset (hc : X.calm = true) (hg : Gl X "len") (hm : X.mg "len" = none) (hg2 : Gl X "set") (hm2 : X.mg "set" = none) (he : PX X B F0 W e we)
    (hs : starEach [e] X.env = (false, eval e X.env) :: starEach [] X.env := by rfl) :
    PX X B F0 W (.Call (.Name "len" p) [.Call (.Name "set" p2) [e] [] pos2] [] pos) (wLenSet we) := wkE (pe_lenSetS hc hg hm hg2 hm2 he hs) fun σ H Q h => by
  obtain ⟨w, env, K, KX, R, E, h, k, kx⟩ := h
  refine ⟨w, env, _, KX, R, E, h, fun x S1 v H1 μ1 F1 R1 X1 r1 h1 => ?_, kx⟩
  obtain ⟨ds, e, xs, rfl, h1⟩ := h1.out
  obtain ⟨h64, h1⟩ := h1.out
  obtain ⟨a, vs, rfl, hs, rv⟩ := lsD_ok (w := ⟨μ1, S1, F1⟩) R1 r1 e
  have ev := RpDs.strs rv
  subst ev
  exact ⟨a, xs, rfl, .inl hs, h64, fun ys hm => (k.xt X1).int (w := ⟨μ1, S1, F1⟩) R1 (h1 ys hm)⟩
end
/-! ### sorted: a list of texts, a dict whose keys are texts -/
structure pAny' {α : Type} (p : α → Prop) (k : α → Prop) : Prop where
  mk' ::
  out : ∃ x, p x ∧ k x
theorem pAny'.mk {α : Type} {p : α → Prop} {k : α → Prop} (x : α) (h : p x) (q : k x) : pAny' p k := ⟨⟨x, h, q⟩⟩
/-- the texts of a list, the keys of a dict -/
def textsOf (S : Sto) (x : D) (ks : List Str) : Prop := lsD S x = some (ks.map fun s => .z (.str s)) ∨ ∃ n kvs, x = .r n ∧ dcR S n = some kvs ∧ kvs.map (·.1) = ks.map Sum.inr
theorem kv_keys {B : Hp} {w : Wd} : ∀ {kvs : List (Key × D)} {ws : List (Key × V)}, KvW B w kvs ws → ws.map (·.1) = kvs.map (·.1)
  | [], _, h => by cases h; rfl
  | _ :: _, _, h => by cases h with | cons a t => rw [List.map_cons, List.map_cons, kv_keys t, a.1]
end PL

set_option Elab.async false
set_option linter.all false
set_option maxRecDepth 100000
set_option maxHeartbeats 1000000
/-! PL, part 25: data in their order: <, sorted -/
namespace PL
open PySem L2

/-! ### a < b -/
structure bLtG (x y : D) (S : Sto) (k : Bool → Prop) : Prop where
  out : ∃ d e, Vw S x d ∧ Vw S y e ∧ PySem.W.alike d e = true ∧ d ≠ .none ∧ d.depth ≤ 64 ∧ k (PySem.W.dataLt d e)
def bLtD : B2 := fun x y S k => match x, y with
  | .z (.int i), .z (.int j) => k (decide (i < j))
  | x, y => bLtG x y S k
theorem lt_mk {S : Sto} {x y : D} {d e : PyData} {k : Bool → Prop} (h1 : Vw S x d) (h2 : Vw S y e) (ha : PySem.W.alike d e = true) (hn : d ≠ .none) (hd : d.depth ≤ 64) (hk : k (PySem.W.dataLt d e)) : bLtG x y S k := ⟨⟨d, e, h1, h2, ha, hn, hd, hk⟩⟩
section
variable {X : Cx} {B F0 : Hp}
theorem oLtD (hu : X.A.units + 100 < cLine) : OpR X (compareOp .Lt) (r2 B F0 (cB bLtD)) := cmpR fun {pins s σ H x y v u w dx dy k Q} I rx ry R q1 q2 h kb => by
  unfold bLtD at h
  split at h
  · rw [rpInt q1] at rx; rw [rpInt q2] at ry
    exact op_lt pins s σ H _ _ v u Q I rx ry ⟨_, _, rfl, rfl, kb _ h⟩
  · obtain ⟨d, e, w1, w2, ha, hn, hd, h⟩ := h.out
    obtain ⟨as, r1⟩ := Dp.reads I d x v (RpT.dp R.fh _ _ (Vw.rp R _ _ _ w1 q1)) rx
    obtain ⟨bs, r2⟩ := Dp.reads I e y u (RpT.dp R.fh _ _ (Vw.rp R _ _ _ w2 q2)) ry
    have hm : min d.depth e.depth ≤ d.depth := Nat.min_le_left _ _
    exact PySem.W.lt_data r1 r2 ha hn (by omega) ⟨.bl _, H, I, rfl, kb _ h⟩
/-! ### sorted(xs) -/
/-- the items with what they are seen as -/
structure SortIn (S : Sto) (x : D) (bs : List (D × PyData)) : Prop where
  ls : lsD S x = some (bs.map (·.1))
  vw : ∀ b ∈ bs, Vw S b.1 b.2
  al : PySem.W.AllAlike (bs.map (·.2))
  so : PySem.W.Sortable (bs.map (·.2))
  dp : ∀ b ∈ bs, b.2.depth ≤ 64
  sz : bs.length ≤ sizeLine
abbrev sortB (bs : List (D × PyData)) : List (D × PyData) := bs.mergeSort (PySem.W.dataLe false (·.2))
structure SortOk (S : Sto) (x : D) (K : K1) : Prop where
  out : (∃ bs, SortIn S x bs ∧ K (.r S.length) (S ++ [.lst ((sortB bs).map (·.1))])) ∨
    ∃ n kvs ks, x = .r n ∧ dcR S n = some kvs ∧ kvs.map (·.1) = ks.map Sum.inr ∧ ks.length < 64 ∧ ∀ ys, ys.Perm ks → PyProof.Rows.sortedS ys = true → K (.r S.length) (S ++ [.lst (ys.map fun s => .z (.str s))])
def pSorted : PL := fun xs S K => match xs with
  | [x] => SortOk S x K
  | _ => False
theorem each_of {B : Hp} {w : Wd} : ∀ {bs : List (D × PyData)} {vs : List V} {us : List Value}, RpsW B w (bs.map (·.1)) vs → Vals vs us → PySem.W.EachIs (fun (v : Value) (b : D × PyData) => ∃ x : V, RelV x v ∧ RpW B w b.1 x) us bs
  | [], _, _, r, t => by cases r; cases t; exact .nil
  | b :: bs, _, _, r, t => by
    cases r with
    | cons r1 r2 => cases t with | cons t1 t2 => exact .cons ⟨_, t1, r1⟩ (each_of r2 t2)
theorem of_each {B : Hp} {w : Wd} : ∀ {us : List Value} {bs : List (D × PyData)}, PySem.W.EachIs (fun (v : Value) (b : D × PyData) => ∃ x : V, RelV x v ∧ RpW B w b.1 x) us bs → ∃ vs, RpsW B w (bs.map (·.1)) vs ∧ Vals vs us
  | _, _, .nil => ⟨[], .nil, .nil⟩
  | _, _, .cons ⟨x, h1, h2⟩ t => by
    obtain ⟨vs, q1, q2⟩ := of_each t
    exact ⟨x :: vs, .cons h2 q1, .cons h1 q2⟩
theorem each_reads {B : Hp} {pins : List (Addr × Obj)} {s : Shared} {σ : St} {H : Hp} {w : Wd} (I : Inv X pins σ H s) (R : RlW B F0 w H) : ∀ {us : List Value} {bs : List (D × PyData)}, (∀ b ∈ bs, Vw w.S b.1 b.2) → PySem.W.EachIs (fun (v : Value) (b : D × PyData) => ∃ x : V, RelV x v ∧ RpW B w b.1 x) us bs →
    PySem.W.EachIs (fun v b => ∃ as, Reads s.heap v b.2 as) us bs
  | _, _, _, .nil => .nil
  | _, _, hv, .cons ⟨x, h1, h2⟩ t => .cons (Dp.reads I _ x _ (RpT.dp R.fh _ _ (Vw.rp R _ _ _ (hv _ List.mem_cons_self) h2)) h1) (each_reads I R (fun b hb => hv b (List.mem_cons_of_mem _ hb)) t)
theorem oSorted (hu : X.A.units + 100 < cLine) (hc : X.calm = true) : CallR X (.builtin "sorted") (rL B F0 pSorted) := callR fun {pins s σ H vs us w ds K Q} I r R q h k => by
  unfold pSorted at h
  split at h
  · obtain ⟨v, rfl, q9⟩ := q.one
    rcases h.out with ⟨bs, hi, h2⟩ | ⟨n, kvs, ks, rfl, e, hk, h64, h2⟩
    · obtain ⟨a, xs, rfl, hs, rv⟩ := lsD_ok (w := w) R q9 hi.ls
      obtain ⟨u, rfl, ru⟩ := vals1 r
      cases ru
      obtain ⟨its, rt, pl, hz⟩ := I.list (.inl hs)
      have E0 := each_of rv rt
      refine PySem.W.sorted_data (bs := bs) (enc := (·.2)) pl.isList E0 (each_reads I R hi.vw E0) hi.al hi.so hi.sz (fun b hb => by have := hi.dp b hb; omega) fun out hl hE => ?_
      obtain ⟨zs, z1, z2⟩ := of_each hE
      obtain ⟨ep, he'⟩ := PyProof.Rows.sortedAll_at s.heap its out.toArray
      have hlen : zs.length ≤ sizeLine := by rw [z2.length, hl]; exact hi.sz
      exact ⟨.ref _, upd H (s.heap.objs.size + 1) (.lst zs), I.laid (t' := s.toks) (fun _ _ => PyProof.Rows.sortedAll_old) (Nat.le_succ _) ⟨hlen, out, ep, z2, he'⟩, rfl, k.newL R z1 h2 (I.hok.fresh (Nat.le_succ _))⟩
    · obtain ⟨hn, ws, hv, rv⟩ := dcR_ok R e
      cases q9
      exact call_sortedD hc pins s σ H _ us Q I r ⟨_, ws, ks, rfl, .inl hv, by rw [kv_keys rv]; exact hk, h64, fun ys p hp hs hq => k.newL R (rp_strs ys) (h2 ys hp hs) hq⟩
  · exact h.elim
end
end PL

set_option Elab.async false
set_option linter.all false
set_option maxRecDepth 100000
/-! PL, part 26: calls without arguments -/
namespace PL
open PySem L2
section
variable {X : Cx} {B F0 : Hp} {W : WX} {x : Str} {p pos : Pos} {k : Nat} {ps : List Str} {sp : Spc}
theorem xfc0 (c : Fc X.prog X.w X.K X.mg X.base x k ps sp) (hr : Room k X.A) (tk : Takes X W) (hg : Gl X x) (hdb : (x == ("__debug__" : Str)) = false := by decide) : PX X B F0 W (.Call (.Name x p) [] [] pos) (wFn sp [] wNil) := by
  obtain ⟨f, fd, G, hm, hk, hb⟩ := c.ex
  obtain ⟨vsd, hv, hrp⟩ := dft0.ok
  have pe0 : PE X (.Call (.Name x p) [] [] pos) (tCallSD (spOf sp) vsd (fun σ cls d H => W cls d σ H) tNil) := by
    refine ⟨fun pins s σ H Q I h => ?_⟩
    refine wpAny_Call_Name_kw (ld_glob I hg hm ?_ hdb)
    exact PySem.W.callWith_K0 I.kIn hk (run_fnSD (us := []) G hr hb hv (passAt tk σ) I .nil h)
  refine wkE pe0 fun σ H Q h => ?_
  obtain ⟨w, env, K, KX, R, E, h, k, kx⟩ := h
  have happ : ∀ {a b : List D} {u v : List V}, RpDs B w.F w.μ w.S.length a u → RpDs B w.F w.μ w.S.length b v → RpDs B w.F w.μ w.S.length (a ++ b) (u ++ v) := fun a b => a.append b
  exact ⟨B, F0, w, [] ++ [], K, _, R, happ .nil (hrp B w), h.out, k, fun y S2 H2 μ2 F2 cls dd R2 X2 r2 h2 => kx y S2 H2 μ2 F2 cls dd R2 X2 r2 h2⟩
end
/-! ### x[::-1], x a list -/
section
variable {X : Cx} {B F0 : Hp} {W : WX} {e : Expr} {we : WE} {p1 p2 p3 pos : Pos} {k : Nat}
theorem xrevL (he : PX X B F0 W e we) : PX X B F0 W (.Subscript e (.Slice none none (some (.UnaryOp .USub (.Constant (.int 1) k p1) p2)) p3) pos) (wLRev we) := wkE (pe_revL he) fun σ H Q h => by
  obtain ⟨w, env, K, KX, R, E, h, k, kx⟩ := h
  refine ⟨w, env, _, KX, R, E, h, fun x S1 v H1 μ1 F1 R1 X1 r1 h1 => ?_, kx⟩
  obtain ⟨ds, e, h1⟩ := h1.out
  obtain ⟨a, vs, rfl, hs, rv⟩ := lsD_ok (w := ⟨μ1, S1, F1⟩) R1 r1 e
  exact ⟨a, vs, rfl, .inl hs, fun q hq => (k.xt X1).newL (w := ⟨μ1, S1, F1⟩) R1 rv.rev h1 hq⟩
end
/-! ### comprehensions whose items lay new objects -/
theorem pLc_xsG {α : Type} {src : Src} {tg : D → Env → Option Env} {we : WE} {env : Env} {fin : Sto → Prop} {S : Sto} (xs : List α) (it f : α → D) (e : src.items = xs.map it) (hz : xs.length < 1000000) (hok : ∀ acc T, src.ok (S ++ (.lst acc :: T)))
    (he : ∀ (i : Nat) (x : α), xs[i]? = some x → ∃ env2, tg (it x) env = some env2 ∧ ∀ (acc : List D) (T : Sto) (K : K1), (∀ T', K (f x) (S ++ (.lst acc :: (T ++ T')))) → we env2 (S ++ (.lst acc :: T)) K X0)
    (hf : ∀ T, fin (S ++ (.lst (xs.map f) :: T))) : pLc src tg wYes we S.length env fin src.items (S ++ [.lst []]) := by
  have hl : src.items.length = xs.length := by rw [e, List.length_map]
  refine pLc_each (fun j S' => j ≤ xs.length ∧ ∃ T, S' = S ++ (.lst ((xs.take j).map f) :: T)) ⟨Nat.zero_le _, [], rfl⟩ (fun i S' _ h => by obtain ⟨_, T, rfl⟩ := h; exact hok _ _) ?_ ?_
  · rintro j d _ Q hj ⟨_, T, rfl⟩ hQ
    rw [e, List.getElem?_map] at hj
    cases hx : xs[j]? with
    | none => rw [hx] at hj; cases hj
    | some x =>
      rw [hx] at hj
      obtain rfl := Option.some.inj hj
      have hlt := (List.getElem?_eq_some_iff.mp hx).1
      obtain ⟨env2, h1, h2⟩ := he j x hx
      refine pGet.mk h1 (pIf.tt rfl (h2 _ T _ fun T' => ?_))
      refine pGet.mk (x := (xs.take j).map f) (lsR_at (by simp)) (pReq.mk (sz_lt6 (by rw [List.length_map, List.length_take]; omega)) (hQ _ ⟨hlt, T ++ T', ?_⟩))
      rw [List.set_append_right _ _ (Nat.le_refl _), Nat.sub_self, List.take_add_one, hx]
      simp
  · rintro S' ⟨_, T, rfl⟩
    rw [hl, List.take_length]
    exact hf T
theorem pLc_rgG {lo : Int} {n : Nat} {tg : D → Env → Option Env} {we : WE} {env : Env} {fin : Sto → Prop} {S : Sto} (f : Nat → D) (hz : n < 1000000)
    (he : ∀ i, i < n → ∃ env2, tg (.z (.int (lo + (i : Int)))) env = some env2 ∧ ∀ (acc : List D) (T : Sto) (K : K1), (∀ T', K (f i) (S ++ (.lst acc :: (T ++ T')))) → we env2 (S ++ (.lst acc :: T)) K X0)
    (hf : ∀ T, fin (S ++ (.lst ((List.range n).map f) :: T))) : pLc (rgD lo n) tg wYes we S.length env fin (rgD lo n).items (S ++ [.lst []]) :=
  pLc_xsG (List.range n) (fun i => .z (.int (lo + (i : Int)))) f rfl (by rw [List.length_range]; exact hz) (fun _ _ => trivial) (fun i x hx => by
    have hi := (List.getElem?_eq_some_iff.mp hx).1
    rw [List.length_range] at hi
    rw [List.getElem?_range hi] at hx
    cases hx
    exact he i hi) hf
end PL

set_option Elab.async false
set_option linter.all false
set_option maxRecDepth 100000
/-! PL, part 27: an answer handed on as it came -/
namespace PL
open PySem L2
mutual
theorem al_vr : ∀ (r : RT) (S T : Sto), ∃ ns, (∀ U, VR (S ++ ((al r S.length).2 ++ T)) U (al r S.length).1 r ns) ∧ ns.Nodup ∧ ∀ m ∈ ns, S.length ≤ m ∧ m < S.length + (al r S.length).2.length
  | .z d, S, T => ⟨[], fun U => by unfold al; exact .z .z, List.nodup_nil, fun _ h => by cases h⟩
  | .l rs, S, T => by
    obtain ⟨ns, h1, h2, h3⟩ := als_vr rs S ([.lst (als rs S.length).1] ++ T)
    unfold al
    refine ⟨ns ++ [S.length + (als rs S.length).2.length], fun U => .l ?_ (by rw [List.append_assoc]; exact h1 U), List.nodup_append.mpr ⟨h2, by simp, fun a ha b hb e => ?_⟩, fun m hm => ?_⟩
    · rw [List.getElem?_append_right (by omega), List.append_assoc, List.getElem?_append_right (by omega), show S.length + (als rs S.length).2.length - S.length - (als rs S.length).2.length = 0 by omega]
      rfl
    · have := h3 a ha
      simp at hb
      omega
    · rw [List.length_append, List.length_singleton]
      rcases List.mem_append.mp hm with hm | hm
      · have := h3 m hm; omega
      · simp at hm; omega
  | .t rs, S, T => by
    obtain ⟨ns, h1, h2, h3⟩ := als_vr rs S T
    unfold al
    exact ⟨ns, fun U => .t (h1 U), h2, h3⟩
theorem als_vr : ∀ (rs : List RT) (S T : Sto), ∃ ns, (∀ U, VRs (S ++ ((als rs S.length).2 ++ T)) U (als rs S.length).1 rs ns) ∧ ns.Nodup ∧ ∀ m ∈ ns, S.length ≤ m ∧ m < S.length + (als rs S.length).2.length
  | [], S, T => ⟨[], fun U => by unfold als; exact .nil, List.nodup_nil, fun _ h => by cases h⟩
  | r :: rs, S, T => by
    obtain ⟨ns, h1, h2, h3⟩ := al_vr r S ((als rs (S.length + (al r S.length).2.length)).2 ++ T)
    obtain ⟨ms, k1, k2, k3⟩ := als_vr rs (S ++ (al r S.length).2) T
    rw [List.length_append] at k1 k3
    unfold als
    refine ⟨ns ++ ms, fun U => .cons (by rw [List.append_assoc]; exact h1 U) (by rw [List.append_assoc, ← List.append_assoc]; exact k1 U), List.nodup_append.mpr ⟨h2, k2, fun a ha b hb e => ?_⟩, fun m hm => ?_⟩
    · have := h3 a ha
      have := k3 b hb
      omega
    · rw [List.length_append]
      rcases List.mem_append.mp hm with hm | hm
      · have := h3 m hm; omega
      · have := k3 m hm; omega
end
theorem ret_al {r : RT} {S : Sto} {K : K1} (h : ∀ d S' U, VR S' U d r U → U.Nodup → K d S') : K (al r S.length).1 (S ++ (al r S.length).2) := by
  obtain ⟨U, h1, h2, _⟩ := al_vr r S []
  simp only [List.append_nil] at h1
  exact h _ _ U (h1 U) h2
/-- a comprehension of fresh lists -/
theorem pLc_nest {α : Type} {src : Src} {tg : D → Env → Option Env} {we : WE} {env : Env} {fin : Sto → Prop} {S : Sto} (xs : List α) (it : α → D) (rows : α → List D) (e : src.items = xs.map it) (hz : xs.length < 1000000) (hok : ∀ acc T, src.ok (S ++ (.lst acc :: T)))
    (he : ∀ x ∈ xs, ∃ env2, tg (it x) env = some env2 ∧ ∀ (S1 : Sto) (K : K1), (∃ acc T, S1 = S ++ (.lst acc :: T)) → K (.r S1.length) (S1 ++ [.lst (rows x)]) → we env2 S1 K X0)
    (hf : fin (S ++ (.lst ((List.range xs.length).map fun i => .r (S.length + 1 + i)) :: xs.map fun x => .lst (rows x)))) : pLc src tg wYes we S.length env fin src.items (S ++ [.lst []]) := by
  have hl : src.items.length = xs.length := by rw [e, List.length_map]
  refine pLc_each (fun j S' => j ≤ xs.length ∧ S' = S ++ (.lst ((List.range j).map fun i => .r (S.length + 1 + i)) :: (xs.take j).map fun x => .lst (rows x))) ⟨Nat.zero_le _, rfl⟩ (fun i S' _ h => by obtain ⟨_, rfl⟩ := h; exact hok _ _) ?_ ?_
  · rintro j d _ Q hj ⟨_, rfl⟩ hQ
    rw [e, List.getElem?_map] at hj
    cases hx : xs[j]? with
    | none => rw [hx] at hj; cases hj
    | some x =>
      rw [hx] at hj
      obtain rfl := Option.some.inj hj
      have hlt := (List.getElem?_eq_some_iff.mp hx).1
      obtain ⟨env2, h1, h2⟩ := he x (List.mem_of_getElem? hx)
      refine pGet.mk h1 (pIf.tt rfl (h2 _ _ ⟨_, _, rfl⟩ ?_))
      refine pGet.mk (x := (List.range j).map fun i => .r (S.length + 1 + i)) (lsR_at (by simp)) (pReq.mk (sz_lt6 (by rw [List.length_map, List.length_range]; omega)) (hQ _ ⟨hlt, ?_⟩))
      rw [List.append_assoc, List.set_append_right _ _ (Nat.le_refl _), Nat.sub_self, List.take_add_one, hx, List.range_succ, List.map_append, List.map_append]
      have el : (S ++ (Ob.lst ((List.range j).map fun i => D.r (S.length + 1 + i)) :: (xs.take j).map fun x => Ob.lst (rows x))).length = S.length + 1 + j := by
        rw [List.length_append, List.length_cons, List.length_map, List.length_take]; omega
      rw [el]
      rfl
  · rintro S' ⟨_, rfl⟩
    rw [hl, List.take_length]
    exact hf
end PL

set_option Elab.async false
set_option linter.all false
set_option maxRecDepth 100000
/-! PL, part 28: dicts whose keys are tuples of tuples: setdefault, get -/
namespace PL
open PySem L2
abbrev HX := NestedKey → Int
mutual
/-- the key that a datum is -/
def nkOf : PyData → Option NestedKey
  | .none => some .none
  | .int i => some (.num i)
  | .str x => some (.text x)
  | .tuple ds => (nksOf ds).map .tup
  | _ => none
def nksOf : List PyData → Option (List NestedKey)
  | [] => some []
  | d :: ds => match nkOf d, nksOf ds with
    | some k, some ks => some (k :: ks)
    | _, _ => none
end
mutual
theorem nkOf_data : ∀ (d : PyData) (k : NestedKey), nkOf d = some k → k.data = d
  | .none, _, h => by simp [nkOf] at h; subst h; simp [NestedKey.data]
  | .int i, _, h => by simp [nkOf] at h; subst h; simp [NestedKey.data]
  | .str x, _, h => by simp [nkOf] at h; subst h; simp [NestedKey.data]
  | .tuple ds, k, h => by
    rw [nkOf] at h
    cases e : nksOf ds with
    | none => rw [e] at h; cases h
    | some ks => rw [e] at h; cases h; rw [NestedKey.data, nksOf_data ds ks e]
  | .bool _, _, h => by simp [nkOf] at h
  | .list _, _, h => by simp [nkOf] at h
  | .dict _, _, h => by simp [nkOf] at h
theorem nksOf_data : ∀ (ds : List PyData) (ks : List NestedKey), nksOf ds = some ks → NestedKey.datas ks = ds
  | [], _, h => by simp [nksOf] at h; subst h; simp [NestedKey.datas]
  | d :: ds, ks, h => by
    rw [nksOf] at h
    cases e1 : nkOf d with
    | none => rw [e1] at h; cases h
    | some k =>
      cases e2 : nksOf ds with
      | none => rw [e1, e2] at h; cases h
      | some ks2 =>
        rw [e1, e2] at h
        cases h
        rw [NestedKey.datas, nkOf_data d k e1, nksOf_data ds ks2 e2]
end
/-- a value that is a key -/
def keyN : D → Option NestedKey
  | .z (.tuple ds) => (nksOf ds).bind fun ks => if (NestedKey.tup ks).depth ≤ 8 then some (.tup ks) else none
  | _ => none
theorem keyN_z {y : D} {k : NestedKey} (h : keyN y = some k) : y = .z k.data ∧ k.depth ≤ 8 ∧ ∃ ks, k = .tup ks := by
  unfold keyN at h
  split at h
  · rename_i ds
    cases e : nksOf ds with
    | none => rw [e] at h; cases h
    | some ks =>
      rw [e] at h
      dsimp only [Option.bind] at h
      split at h
      · rename_i c
        cases h
        rw [NestedKey.data, nksOf_data ds ks e]
        exact ⟨rfl, c, ks, rfl⟩
      · cases h
  · cases h
section
variable {P : Program} {w : World} {F H : Hp} {h : Heap}
mutual
theorem nk_is (ok : HOk P w H h) (hF : Sub F H) : ∀ (k : NestedKey) (v : V) (u : Value), RpT (LF F) (TF F) k.data v → RelV v u → NestedIs h k u
  | .none, v, u, r, q => by
    rw [NestedKey.data] at r
    cases r
    cases (show u = Value.none from q)
    exact .none
  | .num i, v, u, r, q => by
    rw [NestedKey.data] at r
    cases r
    obtain ⟨t, rfl⟩ := (show ∃ t, u = Value.int i t from q)
    exact .int i t
  | .text x, v, u, r, q => by
    rw [NestedKey.data] at r
    cases r
    obtain ⟨t, rfl⟩ := (show ∃ t, u = Value.str x t from q)
    exact .text x t
  | .tup ks, v, u, r, q => by
    rw [NestedKey.data] at r
    cases r with
    | tup e rs =>
      rename_i a vs
      cases (show u = Value.ref a from q)
      obtain ⟨_, its, rv, o, h1, h2, n, h3⟩ := (show ObjOk P w H h a (.tup vs) from ok a _ (hF _ _ e))
      exact .tup h1 h2 h3 (by simpa using nks_is ok hF ks vs its rs rv)
theorem nks_is (ok : HOk P w H h) (hF : Sub F H) : ∀ (ks : List NestedKey) (vs : List V) (us : List Value), RpTs (LF F) (TF F) (NestedKey.datas ks) vs → Vals vs us → NestedAll h ks us
  | [], vs, us, r, q => by
    rw [NestedKey.datas] at r
    cases r; cases q
    exact .nil
  | k :: ks, vs, us, r, q => by
    rw [NestedKey.datas] at r
    cases r with
    | cons r1 r2 =>
      cases q with
      | cons q1 q2 => exact .cons (nk_is ok hF k _ _ r1 q1) (nks_is ok hF ks _ _ r2 q2)
end
end
/-- what the dict holds at the key -/
def kAt (kvs : List (NestedKey × D)) (k : NestedKey) : Option D := (kvs.find? fun p => decide (p.1 = k)).map (·.2)
/-- the dict at n; an empty one is any dict -/
inductive KdAt (hx : HX) (S : Sto) (n : Nat) : List (NestedKey × D) → Prop
  | kd {kvs : List (NestedKey × D)} : S[n]? = some (.kd hx kvs) → KdAt hx S n kvs
  | nil : S[n]? = some (.dic []) → KdAt hx S n []
section
variable {B F0 F H : Hp} {μ : Nat → Addr} {S : Sto} {n : Nat} {kvs : List (NestedKey × D)}
theorem kn_at {xs : List (NestedKey × Addr × Value)} (h : KvN B F μ n kvs xs) (k : NestedKey) :
    (kAt kvs k = none ∧ atKey xs k = none) ∨ ∃ d p v, kAt kvs k = some d ∧ atKey xs k = some p ∧ RpD B F μ n d v ∧ RelV v p.2 := by
  induction h with
  | nil => exact .inl ⟨rfl, rfl⟩
  | @cons p x ps xs r t ih =>
    obtain ⟨e, _, v, r1, r2⟩ := r
    unfold kAt atKey
    rw [List.find?_cons, List.find?_cons, ← e]
    by_cases c : p.1 = k
    · simp only [c, decide_true, Option.map_some]
      exact .inr ⟨_, _, v, rfl, rfl, r1, r2⟩
    · simp only [c, decide_false]
      exact ih
theorem kn_keys {P : Program} {w : World} {h : Heap} {xs : List (NestedKey × Addr × Value)} (ok : HOk P w H h) (hF : Sub F H) (q : KvN B F μ n kvs xs) : ∀ x ∈ xs, (nestedKind P w).is h x.1 x.2.1 := by
  induction q with
  | nil => intro x hx; cases hx
  | @cons p x ps xs r t ih =>
    intro y hy
    rcases List.mem_cons.mp hy with e | hy
    · subst e
      obtain ⟨e, ⟨r1, r2⟩, _⟩ := r
      rw [← e]
      exact ⟨nk_is ok hF p.1 (.ref y.2.1) (.ref y.2.1) r1 rfl, r2⟩
    · exact ih y hy
end
section
variable {X : Cx} {pins : List (Addr × Obj)} {σ : St} {H : Hp} {s : Shared} {B F0 : Hp} {w : Wd} {n : Nat} {kvs : List (NestedKey × D)}
theorem kd_there (I : Inv X pins σ H s) (R : RlW B F0 w H) (h : KdAt (fun k => k.hash X.w) w.S n kvs) :
    n < w.S.length ∧ Mut (H (w.μ n)) ∧ (w.μ n == sysModules) = false ∧ ∃ xs, xs.length = kvs.length ∧ KvN B w.F w.μ w.S.length kvs xs ∧ xs.length ≤ sizeLine ∧ s.heap.DictOfH (nestedKind X.prog X.w) (w.μ n) xs := by
  cases h with
  | kd e =>
    obtain ⟨xs, hH, q⟩ := R.ob _ _ e
    obtain ⟨⟨z, hd, o, es, ep, h1, h2, h3, h4, h5⟩, _⟩ := (show ObjOk X.prog X.w H s.heap (w.μ n) (.ext _) from I.hok _ _ hH)
    exact ⟨Rl.lt e, by rw [hH]; trivial, hd, xs, (Paired.length q).symm, q, z, o, es, ep, h1, h2, h3, h4, kn_keys I.hok R.fh q, h5⟩
  | nil e =>
    obtain ⟨ws, hH, q⟩ := R.ob _ _ e
    cases q
    obtain ⟨z, hd, vs, rel, o, es, ep, h1, h2, h3, _, h5, _⟩ := (show ObjOk X.prog X.w H s.heap (w.μ n) (.dK []) from I.hok _ _ hH)
    cases rel
    have h6 : es.toList = [] := by
      cases hes : es.toList with
      | nil => rfl
      | cons a b => rw [hes] at h5; cases h5
    exact ⟨Rl.lt e, by rw [hH]; trivial, hd, [], rfl, .nil, Nat.zero_le _, o, es, ep, h1, h2, h3, h6, fun _ h => (by cases h), List.nodup_nil⟩
theorem kd_type (I : Inv X pins σ H s) (R : RlW B F0 w H) (h : KdAt (fun k => k.hash X.w) w.S n kvs) : s.TypeIs (.ref (w.μ n)) "dict" ∧ ∀ a, Value.ref (w.μ n) = .ref a → ∃ ob, s.heap.get? a = some ob ∧ ob.dict = none := by
  obtain ⟨_, _, _, xs, _, _, _, o, es, ep, h1, h2, _⟩ := kd_there I R h
  exact ⟨⟨o, h1, h2.1⟩, fun a e => by cases e; exact ⟨o, h1, h2.2.1⟩⟩
end
/-- a dict whose keys are tuples, or an empty one -/
def isKd (S : Sto) : D → Bool
  | .r n => match S[n]? with
    | some (.kd _ _) => true
    | some (.dic []) => true
    | _ => false
  | _ => false
structure KSetd (hx : HX) (x y z : D) (S : Sto) (K : K1) : Prop where
  out : ∃ n k kvs, x = .r n ∧ keyN y = some k ∧ KdAt hx S n kvs ∧ kvs.length < sizeLine ∧ (∀ d, kAt kvs k = some d → K d S) ∧ (kAt kvs k = none → K z (S.set n (.kd hx (kvs ++ [(k, z)]))))
structure KGet (hx : HX) (x y z : D) (S : Sto) (K : K1) : Prop where
  out : ∃ n k kvs, x = .r n ∧ keyN y = some k ∧ KdAt hx S n kvs ∧ K ((kAt kvs k).getD z) S
structure KTy (hx : HX) (x : D) (S : Sto) : Prop where
  out : ∃ n kvs, x = .r n ∧ KdAt hx S n kvs
def wKM (f : D → D → D → Sto → K1 → Prop) (hx : HX) (wo : WE) (wa : WA) : WE := fun env S K KX => wo env S (fun x S1 => pReq (KTy hx x S1) (wa env S1 (fun ds S2 => match ds with
  | [y, z] => f x y z S2 K
  | _ => False) KX)) KX
def wKSetd (hx : HX) : WE → WA → WE := wKM (KSetd hx) hx
def wKGet (hx : HX) : WE → WA → WE := wKM (KGet hx) hx
section
variable {X : Cx} {B F0 : Hp} {W : WX} {o e : Expr} {es : List Expr} {wo : WE} {wa : WA} {name : Str} {apos cpos : Pos} {id : String} {f : D → D → D → Sto → K1 → Prop}
/-- a method of such a dict -/
theorem xkm (slot : Slot "dict" name id) (hty : typeOf (.builtin id) = pure (.type "method_descriptor"))
    (hm : ∀ {pins : List (Addr × Obj)} {s : Shared} {σ : St} {H : Hp} {w : Wd} {x y z : D} {vx vy vz : V} {ux uy uz : Value} {K : K1} {Q : VK}, Inv X pins σ H s → RlW B F0 w H → RpW B w x vx → RpW B w y vy → RpW B w z vz → RelV vx ux → RelV vy uy → RelV vz uz → f x y z w.S K → Fi B F0 w K Q →
      wpAny (model X.prog X.w) X.A (call (.builtin id) [ux, uy, uz]) (EP X pins σ Q) X.xe s)
    (ho : PX X B F0 W o wo) (ha : PXA X B F0 W (e :: es) wa)
    (hbase : attributeBase o name X.env (eval o X.env) = eval o X.env := by rfl)
    (hfew : ((backTo cpos (starEach (e :: es) X.env)).all (fun x => !x.1) && (backToKw cpos (keywordEach [] X.env)).all (fun x => x.1.isSome)
      && decide ((e :: es).length + ([] : List Keyword).length + (if ([] : List Keyword).isEmpty then 0 else 1) < 30)) = true := by rfl)
    (hline : (apos.endLine == cpos.line) = true := by rfl) (hs : starEach (e :: es) X.env = (false, eval e X.env) :: starEach es X.env := by rfl) (hplain : (backTo cpos (starEach es X.env)).any (·.1) = false := by rfl) :
    PX X B F0 W (.Call (.Attribute o name apos) (e :: es) [] cpos) (wKM f (fun k => k.hash X.w) wo wa) := by
  refine ⟨fun pins s σ H Q I h => ?_⟩
  obtain ⟨w, env, K, KX, R, E, h, k, kx⟩ := h
  refine wpAny_Call_method_late hbase hfew hline rfl (thn (ho.run pins s σ H (fun x H1 => ∃ (w1 : Wd) (d : D), RlW B F0 w1 H1 ∧ Xt w.μ w.S w.F w1.μ w1.S w1.F ∧ RpW B w1 d x ∧ pReq (KTy (fun k => k.hash X.w) d w1.S) (wa env w1.S (fun ds S2 => match ds with
    | [y, z] => f d y z S2 K
    | _ => False) KX)) I ⟨w, env, _, KX, R, E, h, fun x S1 v H1 μ1 F1 R1 X1 r1 h1 => ⟨⟨μ1, S1, F1⟩, x, R1, X1, r1, h1⟩, kx⟩) fun v s1 ⟨x, H1, I1, r1, w1, d, R1, X1, rd, h1⟩ => ?_)
  obtain ⟨⟨n, kvs, rfl, hk⟩, h1⟩ := h1.out
  cases rd with
  | r hn =>
    cases (show v = Value.ref (w1.μ n) from r1)
    obtain ⟨t1, t2⟩ := kd_type I1 R1 hk
    refine ⟨"dict", id, PySem.F.plainAttrs_dict, slot, hty, t1, t2, ?_⟩
    have hA := ha.run cpos pins s1 σ H1 (fun vs H2 => ∃ (w2 : Wd) (ds : List D), RlW B F0 w2 H2 ∧ Xt w1.μ w1.S w1.F w2.μ w2.S w2.F ∧ RpsW B w2 ds vs ∧ (match ds with
      | [y, z] => f (.r n) y z w2.S K
      | _ => False)) I1 ⟨w1, env, _, KX, R1, E.xt X1, h1, fun xs S2 vs H2 μ2 F2 R2 X2 r2 h2 => ⟨⟨μ2, S2, F2⟩, xs, R2, X2, r2, h2⟩, kx.xt X1⟩
    rw [hs] at hA ⊢
    refine Calls.callWith_builtin (by show (false || (backTo cpos (starEach es X.env)).any (·.1)) = false; rw [hplain] <;> rfl) (Calls.evalArgs_plain ?_)
    refine thn hA fun us s2 ⟨vs, H2, I2, r2, w2, ds, R2, X2, rds, h2⟩ => ?_
    split at h2
    · rename_i y z
      cases rds with
      | cons ry rds =>
        cases rds with
        | cons rz rds =>
          cases rds
          cases r2 with
          | cons q1 r2 =>
            cases r2 with
            | cons q2 r2 =>
              cases r2
              have hx : RpW B w2 (.r n) (.ref (w2.μ n)) := .r (Nat.lt_of_lt_of_le hn X2.n)
              have em : w2.μ n = w1.μ n := X2.m n hn
              rw [← em]
              exact hm I2 R2 hx ry rz rfl q1 q2 h2 (k.xt (X1.trans X2))
    · exact h2.elim
end
section
variable {X : Cx} {B F0 : Hp} {W : WX} {pins : List (Addr × Obj)} {s : Shared} {σ : St} {H : Hp} {w : Wd} {x y z : D} {vx vy vz : V} {ux uy uz : Value} {K : K1} {Q : VK}
theorem key_is {k : NestedKey} (I : Inv X pins σ H s) (R : RlW B F0 w H) (ry : RpW B w y vy) (qy : RelV vy uy) (e : keyN y = some k) : ∃ b, uy = .ref b ∧ (nestedKind X.prog X.w).is s.heap k b ∧ RpT (LF w.F) (TF w.F) k.data (.ref b) := by
  obtain ⟨rfl, hd, ks, rfl⟩ := keyN_z e
  cases ry with
  | z r =>
    have r0 := r
    rw [NestedKey.data] at r
    cases r with
    | tup a rs =>
      rename_i b vs
      cases (show uy = Value.ref b from qy)
      exact ⟨b, rfl, ⟨nk_is I.hok R.fh _ _ _ r0 rfl, hd⟩, r0⟩
theorem m_kget (hu : X.A.units + 100 < cLine) (I : Inv X pins σ H s) (R : RlW B F0 w H) (rx : RpW B w x vx) (ry : RpW B w y vy) (rz : RpW B w z vz) (qx : RelV vx ux) (qy : RelV vy uy) (qz : RelV vz uz) (h : KGet (fun k => k.hash X.w) x y z w.S K) (k : Fi B F0 w K Q) :
    wpAny (model X.prog X.w) X.A (call (.builtin "dict.get") [ux, uy, uz]) (EP X pins σ Q) X.xe s := by
  obtain ⟨n, κ, kvs, rfl, hκ, hk, h⟩ := h.out
  cases rx with
  | r hn =>
    cases (show ux = Value.ref (w.μ n) from qx)
    obtain ⟨b, rfl, hkey, _⟩ := key_is I R ry qy hκ
    obtain ⟨_, _, hd, xs, _, q, hz, hx⟩ := kd_there I R hk
    refine call_meetsIn F.slot_dict_get hx.typeIs F.entry_dict_get (F.args_dict_get_3 _ _ _) (meetsH_dict_get_default (nestedKind X.prog X.w) (w.μ n) b hd uz) ⟨by show X.A.units + 1 + 8 < cLine; omega, κ, xs, hkey, hx, ?_⟩
    rcases kn_at q κ with ⟨h1, h2⟩ | ⟨d, p, v, h1, h2, h3, h4⟩
    · rw [h1] at h
      rw [h2]
      exact ⟨vz, H, I.tok _, qz, k _ _ _ _ _ _ R .refl rz h⟩
    · rw [h1] at h
      rw [h2]
      exact ⟨v, H, I.tok _, h4, k _ _ _ _ _ _ R .refl h3 h⟩
theorem m_ksetd (hu : X.A.units + 100 < cLine) (I : Inv X pins σ H s) (R : RlW B F0 w H) (rx : RpW B w x vx) (ry : RpW B w y vy) (rz : RpW B w z vz) (qx : RelV vx ux) (qy : RelV vy uy) (qz : RelV vz uz) (h : KSetd (fun k => k.hash X.w) x y z w.S K) (k : Fi B F0 w K Q) :
    wpAny (model X.prog X.w) X.A (call (.builtin "dict.setdefault") [ux, uy, uz]) (EP X pins σ Q) X.xe s := by
  obtain ⟨n, κ, kvs, rfl, hκ, hk, hl, h, h'⟩ := h.out
  cases rx with
  | r hn =>
    cases (show ux = Value.ref (w.μ n) from qx)
    obtain ⟨b, rfl, hkey, hrb⟩ := key_is I R ry qy hκ
    obtain ⟨_, hmu, hd, xs, hxl, q, hz, hx⟩ := kd_there I R hk
    have hdp := (keyN_z hκ).2.1
    refine call_setdefault_heap (knd := nestedKind X.prog X.w) (by show X.A.units + 1 + 8 < cLine; omega) hkey hd hx (fun p hp => ?_) (fun hn2 h2 hm hs => ?_) hz
    · rcases kn_at q κ with ⟨h1, h2⟩ | ⟨d, p', v, h1, h2, h3, h4⟩
      · rw [h2] at hp; cases hp
      · rw [h2] at hp; cases hp
        exact ⟨v, H, I.tok _, h4, k _ _ _ _ _ _ R .refl h3 (h d h1)⟩
    · have h1 : kAt kvs κ = none := by
        rcases kn_at q κ with ⟨h1, _⟩ | ⟨d, p', v, _, h2, _⟩
        · exact h1
        · rw [h2] at hn2; cases hn2
      rw [storedH_new hn2] at hm
      have hP : kdP (fun k => k.hash X.w) (w.μ n) (xs ++ [(κ, b, uz)]) h2 := by
        obtain ⟨o, es, ep, g1, g2, g3, g4, _, g6⟩ := hm
        exact ⟨by rw [List.length_append, List.length_singleton, hxl]; omega, hd, o, es, ep, g1, g2, g3, g4, g6⟩
      have new : ObjOk X.prog X.w (upd H (w.μ n) (kdO (fun k => k.hash X.w) (w.μ n) (xs ++ [(κ, b, uz)]))) h2 (w.μ n) (kdO (fun k => k.hash X.w) (w.μ n) (xs ++ [(κ, b, uz)])) :=
        ⟨hP, let ⟨o, _, _, g1, _⟩ := hm; ⟨o, g1⟩, fun a1 a2 ⟨p1, p2, o, es, ep, g1, g2⟩ st => ⟨p1, p2, o, es, ep, st o g1, g2⟩⟩
      have I2 := d_write (t' := s.toks + (nestedKind X.prog X.w).draws κ) I hmu hs (let ⟨o, _, _, g1, _⟩ := hm; ⟨o, g1⟩) new
      have q2 : KvN B w.F w.μ w.S.length (kvs ++ [(κ, z)]) (xs ++ [(κ, b, uz)]) := Paired.snoc q ⟨rfl, ⟨hrb, hdp⟩, vz, rz, qz⟩
      obtain ⟨R2, X2⟩ := R.write (n := n) (u := kdO (fun k => k.hash X.w) (w.μ n) (xs ++ [(κ, b, uz)])) (o := .kd (fun k => k.hash X.w) (kvs ++ [(κ, z)])) hn fun G hG => ⟨_, hG, q2⟩
      exact ⟨vz, _, I2, qz, k _ _ _ _ _ _ R2 X2 (rz.xt X2) (h' h1)⟩
end
section
variable {X : Cx} {B F0 : Hp} {W : WX} {o e : Expr} {es : List Expr} {wo : WE} {wa : WA} {apos cpos : Pos}
theorem xksetd (hu : X.A.units + 100 < cLine) (ho : PX X B F0 W o wo) (ha : PXA X B F0 W (e :: es) wa)
    (hbase : attributeBase o "setdefault" X.env (eval o X.env) = eval o X.env := by rfl)
    (hfew : ((backTo cpos (starEach (e :: es) X.env)).all (fun x => !x.1) && (backToKw cpos (keywordEach [] X.env)).all (fun x => x.1.isSome)
      && decide ((e :: es).length + ([] : List Keyword).length + (if ([] : List Keyword).isEmpty then 0 else 1) < 30)) = true := by rfl)
    (hline : (apos.endLine == cpos.line) = true := by rfl) (hs : starEach (e :: es) X.env = (false, eval e X.env) :: starEach es X.env := by rfl) (hplain : (backTo cpos (starEach es X.env)).any (·.1) = false := by rfl) :
    PX X B F0 W (.Call (.Attribute o "setdefault" apos) (e :: es) [] cpos) (wKSetd (fun k => k.hash X.w) wo wa) :=
  xkm PySem.F.slot_dict_setdefault PySem.F.type_dict_setdefault (fun I R rx ry rz qx qy qz h k => m_ksetd hu I R rx ry rz qx qy qz h k) ho ha hbase hfew hline hs hplain
theorem xkget (hu : X.A.units + 100 < cLine) (ho : PX X B F0 W o wo) (ha : PXA X B F0 W (e :: es) wa)
    (hbase : attributeBase o "get" X.env (eval o X.env) = eval o X.env := by rfl)
    (hfew : ((backTo cpos (starEach (e :: es) X.env)).all (fun x => !x.1) && (backToKw cpos (keywordEach [] X.env)).all (fun x => x.1.isSome)
      && decide ((e :: es).length + ([] : List Keyword).length + (if ([] : List Keyword).isEmpty then 0 else 1) < 30)) = true := by rfl)
    (hline : (apos.endLine == cpos.line) = true := by rfl) (hs : starEach (e :: es) X.env = (false, eval e X.env) :: starEach es X.env := by rfl) (hplain : (backTo cpos (starEach es X.env)).any (·.1) = false := by rfl) :
    PX X B F0 W (.Call (.Attribute o "get" apos) (e :: es) [] cpos) (wKGet (fun k => k.hash X.w) wo wa) :=
  xkm PySem.F.slot_dict_get PySem.F.type_dict_get (fun I R rx ry rz qx qy qz h k => m_kget hu I R rx ry rz qx qy qz h k) ho ha hbase hfew hline hs hplain
end
end PL

set_option Elab.async false
set_option linter.all false
set_option maxRecDepth 100000
/-! PL, part 29: fresh answers as frozen ones; count; the least and the greatest of a list -/
namespace PL
open PySem L2
mutual
def rtD : RT → PyData
  | .z d => d
  | .l rs => .list (rtDs rs)
  | .t rs => .tuple (rtDs rs)
def rtDs : List RT → List PyData
  | [] => []
  | r :: rs => rtD r :: rtDs rs
end
theorem rtDs_map {α : Type} (f : α → RT) : ∀ xs : List α, rtDs (xs.map f) = xs.map fun x => rtD (f x)
  | [] => by simp [rtDs]
  | x :: xs => by rw [List.map_cons, rtDs, rtDs_map f xs]; rfl
theorem rtDs_zs {α : Type} (f : α → PyData) (xs : List α) : rtDs (xs.map fun x => .z (f x)) = xs.map f := by
  rw [rtDs_map]
  exact List.map_congr_left fun x _ => by rw [rtD]
theorem rtD_lz {α : Type} (f : α → PyData) (xs : List α) : rtD (lz f xs) = .list (xs.map f) := by
  unfold lz
  rw [rtD, rtDs_zs]
mutual
theorem Vu.vz {S : Sto} {U : List Nat} : ∀ (e : PyData) (d : D), Vu S U d e → Vz S d e
  | .none, _, h => by cases h with | z => exact .z
  | .bool _, _, h => by cases h with | z => exact .z
  | .int _, _, h => by cases h with | z => exact .z
  | .str _, _, h => by cases h with | z => exact .z
  | .dict _, _, h => by cases h with | z => exact .z
  | .list es, _, h => by
    cases h with
    | z => exact .z
    | r _ e ws => exact .r e (Vus.vz es _ ws)
  | .tuple es, _, h => by
    cases h with
    | z => exact .z
    | t ws => exact .t (Vus.vz es _ ws)
theorem Vus.vz {S : Sto} {U : List Nat} : ∀ (es : List PyData) (ds : List D), Vus S U ds es → Vzs S ds es
  | [], _, h => by cases h; exact .nil
  | e :: es, _, h => by cases h with | cons a b => exact .cons (Vu.vz e _ a) (Vus.vz es _ b)
end
mutual
theorem VR.vz {S : Sto} {U : List Nat} : ∀ (r : RT) (d : D) (ns : List Nat), VR S U d r ns → Vz S d (rtD r)
  | .z e, _, _, h => by cases h with | z w => rw [rtD]; exact Vu.vz e _ w
  | .l rs, _, _, h => by cases h with | l e w => rw [rtD]; exact .r e (VRs.vz rs _ _ w)
  | .t rs, _, _, h => by cases h with | t w => rw [rtD]; exact .t (VRs.vz rs _ _ w)
theorem VRs.vz {S : Sto} {U : List Nat} : ∀ (rs : List RT) (ds : List D) (ns : List Nat), VRs S U ds rs ns → Vzs S ds (rtDs rs)
  | [], _, _, h => by cases h; rw [rtDs]; exact .nil
  | r :: rs, _, _, h => by cases h with | cons a b => rw [rtDs]; exact .cons (VR.vz r _ _ a) (VRs.vz rs _ _ b)
end
/-- who keeps a promise of fresh lists keeps one of frozen ones -/
theorem lentR_lent {α β : Type} {enc : α → List PyData} {pre : α → Prop} {post : α → β → Prop} {out : β → RT} {o2 : β → PyData} (ho : ∀ b, rtD (out b) = o2 b) {ds : List D} {S : Sto} {K : K1} {KX : KF} (h : lent (fsq enc pre post o2) ds S K KX) : lentR (fsrq enc pre post out) ds S K KX := by
  obtain ⟨es, kd, kx, h1, h2, ⟨a, e, hp, hk⟩, hK, hX⟩ := h
  exact ⟨es, fun r => kd (rtD r), kx, h1, h2, ⟨a, e, hp, fun b hb => by show kd (rtD (out b)); rw [ho]; exact hk b hb⟩, fun d S' r U v _ q => hK d S' _ (VR.vz r _ _ v) q, hX⟩
theorem lentR_lent1 {α : Type} {enc : α → List PyData} {pre : α → Prop} {out : α → RT} {o2 : α → PyData} (ho : ∀ b, rtD (out b) = o2 b) {ds : List D} {S : Sto} {K : K1} {KX : KF} (h : lent (fsp enc pre o2) ds S K KX) : lentR (fsr enc pre out) ds S K KX := by
  obtain ⟨es, kd, kx, h1, h2, ⟨a, e, hp, hk⟩, hK, hX⟩ := h
  exact ⟨es, fun r => kd (rtD r), kx, h1, h2, ⟨a, e, hp, by show kd (rtD (out a)); rw [ho]; exact hk⟩, fun d S' r U v _ q => hK d S' _ (VR.vz r _ _ v) q, hX⟩
/-! list.count -/
def pCount : D → PL := fun x xs S K => match xs with
  | [y] => ∃ ds d, Vw S x (.list ds) ∧ Vw S y d ∧ SeqAt.shaped (.list ds) = true ∧ SeqAt.shaped d = true ∧ K (.z (.int ((ds.countP fun z => PyData.eqv z d : Nat) : Int))) S
  | _ => False
section
variable {X : Cx} {B F0 : Hp}
def rCountD (K : PySem.W.Frag) : V → List V → Hp → VK → Prop := fun x xs H Q => ∃ (a : Addr) (y : V) (d : PyData) (ds : List PyData), x = V.ref a ∧ xs = [y] ∧ Dp K H (V.ref a) (.list ds) ∧ Dp K H y d ∧ SeqAt.shaped (.list ds) = true ∧ SeqAt.shaped d = true ∧ Q (.int ((ds.countP fun z => PyData.eqv z d : Nat) : Int)) H
theorem mt_countD (hu : X.A.units + 65 < cLine) : MtR X "list.count" (rCountD X.K) := by
  intro pins s σ H x xs v us Q I rx rxs h
  obtain ⟨a, y, d, ds, rfl, rfl, hl, hy, sl, sd, q⟩ := h
  cases rx
  cases rxs with
  | cons ry rt =>
    rename_i uy ut
    cases rt
    obtain ⟨bs, r1⟩ := Dp.reads I d y uy hy ry
    have hxs : PyData.canLayAll0 ds = true := SeqAt.canLay_of_shaped sl
    have hroom : X.A.units + 1 + min (PyData.depthAll ds) d.depth < cLine := by
      have h64 : d.depth ≤ 64 := by
        unfold SeqAt.shaped at sd
        exact of_decide_eq_true (Bool.and_eq_true_iff.mp sd).2
      have := Nat.min_le_right (PyData.depthAll ds) d.depth
      omega
    cases hl with
    | lst hs ha =>
      obtain ⟨its, rv, ⟨⟨cls, dd, data, sls⟩, n, ho, hc, hdn, hdt⟩, hlen⟩ := I.list hs
      simp only at hc hdt
      subst hc hdt
      obtain ⟨as, h4⟩ := Dp.readsAll I ds _ its ha rv
      have hmap : its.map (SeqAt.readOf s.heap) = ds := SeqAt.readsAll_map ds its as hxs h4
      refine call_meets PySem.F.slot_list_count ⟨_, ho, rfl⟩ PySem.F.entry_list_count (PySem.F.args_list_count_2 _ _)
        (SeqAt.list_countAt a its.toArray n dd sls uy (fun u => PyData.eqv (SeqAt.readOf s.heap u) d)) ⟨ho, SeqAt.items_eqAt (vs := its.toArray) (show ReadsAll s.heap its.toArray.toList ds as from h4) r1 hxs (SeqAt.canLay_of_shaped sd) hroom, ?_⟩
      have ec : its.toArray.toList.countP (fun u => PyData.eqv (SeqAt.readOf s.heap u) d) = ds.countP fun z => PyData.eqv z d := by
        rw [← hmap, List.countP_map]; rfl
      refine ⟨.int ((ds.countP fun z => PyData.eqv z d : Nat) : Int), H, I.tok _, ⟨s.toks, ?_⟩, q⟩
      show Value.int ((its.toArray.toList.countP (fun u => PyData.eqv (SeqAt.readOf s.heap u) d) : Nat) : Int) s.toks = _
      rw [ec]
theorem oCount (hu : X.A.units + 100 < cLine) : MtR X "list.count" (rM B F0 pCount) := methR fun {pins s σ H x v vs us w d ds K Q} I rx r R q qs h k => by
  unfold pCount at h
  split at h
  · obtain ⟨es, e, w1, w2, s1, s2, h⟩ := h
    obtain ⟨u, rfl, q1⟩ := qs.one
    have a := RpT.dp (K := X.K) R.fh _ _ (Vw.rp R _ _ _ w1 q)
    have b := RpT.dp (K := X.K) R.fh _ _ (Vw.rp R _ _ _ w2 q1)
    obtain ⟨p, rfl⟩ : ∃ p, x = .ref p := by cases a; exact ⟨_, rfl⟩
    exact mt_countD (by omega) pins s σ H _ _ v us Q I rx r ⟨p, u, e, es, rfl, rfl, a, b, s1, s2, k.int R h⟩
  · exact h.elim
/-! min, max of a list of whole numbers -/
def pMin1 : PL := fun xs S K => match xs with
  | [x] => pGet (lsD S x) fun ds => ∃ ns : List Int, ds = ns.map (fun n => .z (.int n)) ∧ 0 < ns.length ∧ ∀ m, m ∈ ns → (∀ y, y ∈ ns → m ≤ y) → K (.z (.int m)) S
  | _ => False
def pMax1 : PL := fun xs S K => match xs with
  | [x] => pGet (lsD S x) fun ds => ∃ ns : List Int, ds = ns.map (fun n => .z (.int n)) ∧ 0 < ns.length ∧ ∀ m, m ∈ ns → (∀ y, y ∈ ns → y ≤ m) → K (.z (.int m)) S
  | _ => False
theorem oMin1 (hc : X.calm = true) : CallR X (.builtin "min") (rL B F0 pMin1) := callR fun {pins s σ H vs us w ds K Q} I r R q h k => by
  unfold pMin1 at h
  split at h
  · obtain ⟨ds, e, ns, rfl, hn, h⟩ := h.out
    obtain ⟨v, rfl, q9⟩ := q.one
    obtain ⟨a, vs, rfl, hs, rv⟩ := lsD_ok R q9 e
    rw [rv.ints] at hs
    exact cr_min hc pins s σ H _ us Q I r ⟨a, ns, rfl, .inl hs, hn, fun m h1 h2 => k.int R (h m h1 h2)⟩
  · exact h.elim
theorem oMax1 (hc : X.calm = true) : CallR X (.builtin "max") (rL B F0 pMax1) := callR fun {pins s σ H vs us w ds K Q} I r R q h k => by
  unfold pMax1 at h
  split at h
  · obtain ⟨ds, e, ns, rfl, hn, h⟩ := h.out
    obtain ⟨v, rfl, q9⟩ := q.one
    obtain ⟨a, vs, rfl, hs, rv⟩ := lsD_ok R q9 e
    rw [rv.ints] at hs
    exact cr_max hc pins s σ H _ us Q I r ⟨a, ns, rfl, .inl hs, hn, fun m h1 h2 => k.int R (h m h1 h2)⟩
  · exact h.elim
end
end PL

set_option Elab.async false
set_option linter.all false
set_option maxRecDepth 100000
set_option maxHeartbeats 3200000
/-! PL, part 30: sorted(set(xs)), len(set(xs)), xs a list of whole numbers from 0 to less than 64 -/
namespace PL
open PySem PySem.Spec PyProof.Rows L2
/-- of whole numbers there -/
def Fits (ns : List Int) : Prop := ∀ k ∈ ns, 0 ≤ k ∧ k < 62
theorem nd_few : ∀ {l : List Int} {m : List Int}, l.Nodup → (∀ x ∈ l, x ∈ m) → l.length ≤ m.length
  | [], m, _, _ => Nat.zero_le _
  | x :: l, m, nd, h => by
    obtain ⟨h1, h2⟩ := List.nodup_cons.mp nd
    have := nd_few (l := l) (m := m.erase x) h2 fun y hy => (List.mem_erase_of_ne fun e => h1 (by rw [← e]; exact hy)).mpr (h y (List.mem_cons_of_mem _ hy))
    have hx := h x List.mem_cons_self
    rw [List.length_erase_of_mem hx] at this
    have := List.length_pos_of_mem hx
    rw [List.length_cons]; omega
theorem fits_few {ns : List Int} (h : Fits ns) {l : List Int} (nd : l.Nodup) (hl : ∀ x ∈ l, x ∈ ns) : l.length ≤ 62 := by
  have := nd_few (m := (List.range 62).map fun n : Nat => (n : Int)) nd fun x hx => by
    have := h x (hl x hx)
    exact List.mem_map.mpr ⟨x.toNat, List.mem_range.mpr (by omega), by omega⟩
  simpa using this
theorem setR_few {w : World} {h : Heap} {a : Addr} {ns ms : List Int} {c : Nat} (hf : Fits ns) (hm : ∀ x ∈ ms, x ∈ ns) (R : SetR w h a (fun j => decide (j ∈ ms)) c) : c ≤ 62 := by
  obtain ⟨o, es, ep, t, ho, hex, hd, g, nd, hk, hb, hfi, hn, _⟩ := R
  have := fits_few hf nd fun x hx => hm x (of_decide_eq_true ((hk x).mpr hx))
  rw [List.length_map, Array.length_toList, hn] at this
  exact this
section
variable {P : Program} {w : World} {A : Around} {E : Value → Shared → Prop} {s : Shared}
theorem int_loop {I : Addr} {fp wr : List Addr} {G : Array GenState → Array GenState → Prop} {n : Nat} {Pv : Nat → Value → Prop} {St : Nat → Shared → Prop} {R : Result → Shared → Prop}
    (W : WalksS P w A.in1 I fp wr G n Pv St) (S : Addr) (hSf : S ∉ fp) (ns : List Int) (hn : n = ns.length) (hb : Fits ns) (hval : ∀ i v, Pv i v → ∃ k t, ns[i]? = some k ∧ v = .int k t) :
    ∀ (k i : Nat) (s : Shared), n - i = k → i ≤ n → St i s → (∃ c, SetR w s.heap S (fun j => decide (j ∈ ns.take i)) c) →
      (∀ s' c, Moved (S :: wr) G s s' → SetR w s'.heap S (fun j => decide (j ∈ ns)) c → R (.ok (.ret .none)) s') →
      codeAny (model P w) A (.builtin "set.update.loop" ⟨[.ref S, .ref I], []⟩) R s := by
  have hSw : S ∉ wr := fun h => hSf (W.sub _ h)
  have hsub : ∀ b ∈ wr, b ∈ S :: wr := fun b hb => List.mem_cons_of_mem _ hb
  intro k
  induction k with
  | zero =>
    intro i s hk' hi hst ⟨c, hS⟩ hR
    have hin : i = n := by omega
    subst hin
    refine codeAny_builtin F.entry_set_update_loop ?_
    rw [Around.under_plainId F.plain_set_update_loop _]
    show wpAny _ A.in1 (pyNext (.ref I) >>= _) _ _ s
    refine wpAny_bind (W.done s _ _ hst fun s' hm => ?_)
    show wpAny _ A.in1 (ret Value.none) _ _ s'
    have e : ns.take i = ns := List.take_of_length_le (by omega)
    rw [e] at hS
    exact wpAny_pure (hR s' c (hm.mono hsub) (hS.at fun o e => hm.heap S o hSw e))
  | succ k ih =>
    intro i s hk' hi hst ⟨c, hS⟩ hR
    have hlt : i < n := by omega
    refine codeAny_builtin F.entry_set_update_loop ?_
    rw [Around.under_plainId F.plain_set_update_loop _]
    show wpAny _ A.in1 (pyNext (.ref I) >>= _) _ _ s
    refine wpAny_bind (W.item i s _ _ hlt hst fun v s' hP hst' hm => ?_)
    obtain ⟨z, t, hz, rfl⟩ := hval i v hP
    have hS' : SetR w s'.heap S (fun j => decide (j ∈ ns.take i)) c := hS.at fun o e => hm.heap S o hSw e
    have hc := setR_few hb (fun x hx => List.mem_of_mem_take hx) hS'
    show wpAny _ A.in1 (holding [Value.int z t] (setAdd S (.int z t)) >>= _) _ _ s'
    refine wpAny_bind (wpAny_holding ?_)
    unfold setAdd
    refine wpAny_holding ?_
    refine wpAny_bind ((intKind P w).pyHash (k := z) (intKind_is _ _ _ _) ?_)
    refine setR_add_hashed (s := { s' with toks := s'.toks + 1 }) hS' (by unfold scanBound; omega) fun h' hsb hS2 => ?_
    have hS3 : SetR w h' S (fun j => decide (j ∈ ns.take (i + 1))) (if decide (z ∈ ns.take i) = true then c else c + 1) := hS2.congr fun j => by
      rw [List.take_add_one, hz]
      simp [List.mem_append]
    refine wpAny_pure ⟨plainId_quiet F.plain_set_update_loop _, ih (i + 1) _ (by omega) hlt (W.frame _ s' _ _ hst' (Nat.le_succ _) fun b hb o e => ?_) ⟨_, hS3⟩ fun s'' c2 hm'' hS'' => ?_⟩
    · rw [hsb.2 b (fun h : b = S => hSf (by rw [← h]; exact hb))]; exact e
    · refine hR s'' c2 (Moved.trans W.gtrans ((hm.mono hsub).then_heap (Nat.le_succ _) fun b o hb e => ?_) hm'') hS''
      rw [hsb.2 b (fun h : b = S => hb (by rw [h]; exact List.mem_cons_self))]; exact e
theorem int_at : ∀ {vs : List Value} {xs : List Int}, IntsAre vs xs → ∀ (i : Nat) (v : Value), vs[i]? = some v → ∃ k t, xs[i]? = some k ∧ v = .int k t
  | _, _, .nil, i, v, h => by simp at h
  | _, _, .cons x t r, 0, v, h => by
    simp at h
    exact ⟨x, t, rfl, h.symm⟩
  | _, _, .cons x t r, i + 1, v, h => by
    obtain ⟨k, u, h1, h2⟩ := int_at r i v (by simpa using h)
    exact ⟨k, u, by simpa using h1, h2⟩
theorem int_init {l : Addr} {items : Array Value} {xs : List Int} {a : Addr} {R : Result → Shared → Prop} (hh : A.handled = none) (hl : s.heap.IsList l items) (hit : IntsAre items.toList xs) (hb : Fits xs)
    (ha : s.heap.get? a = some (emptySet w)) (hne : a ≠ l)
    (h : ∀ s' c, SetR w s'.heap a (fun j => decide (j ∈ xs)) c → (∀ b o, b ≠ a → s.heap.get? b = some o → s'.heap.get? b = some o) → s' = { s with heap := s'.heap, toks := s'.toks } → R (.ok (.ret .none)) s') :
    wpAny (model P w) A.in1 (Builtin.«set.__init__» ⟨[.ref a, .ref l], []⟩)
      (fun fin s' => match fin with | .done f => R (.ok f) s' | .again c' => c'.quiet = true ∧ codeAny (model P w) A c' R s') (fun e s' => R (.error e) s') s := by
  have hisz : items.size = xs.length := by
    have q := IntsAre.length hit
    rw [Array.length_toList] at q
    exact q
  obtain ⟨ol, hol, hcl, nl, hdl⟩ := hl
  obtain ⟨ocls, odict, odata, oslots⟩ := ol
  simp only at hcl hdl
  subst hcl; subst hdl
  have hsls := F.sub_list_set
  have hslf := F.sub_list_frozenset
  have hne2 : (Value.type "list" == Value.type "dict") = false := by decide
  have hl1 : s.heap.IsList l items := ⟨_, hol, rfl, nl, rfl⟩
  unfold Builtin.«set.__init__» noKeywords Builtin.Frozenset.updateFrom
  generalize hPI : pyIter = PI
  wp_walk
  subst hPI
  refine wpAny_pyIter_list hl1 ?_
  refine wpAny_bind (wpAny_runValue ?_)
  have hla : l < s.heap.objs.size := Heap.lt_size hol
  have haa : a < s.heap.objs.size := Heap.lt_size ha
  have hh3 : A.in1.in1.handled = none := by simp [hh]
  have hSf : a ∉ [s.heap.objs.size, l] := by
    simp only [List.mem_cons, List.mem_singleton, List.not_mem_nil, or_false, not_or]
    exact ⟨Nat.ne_of_lt haa, hne⟩
  have hval : ∀ (i : Nat) (v : Value), items[i]? = some v → ∃ k t, xs[i]? = some k ∧ v = .int k t := fun i v hv => by
    have q : items.toList[i]? = some v := by rw [Array.getElem?_toList]; exact hv
    exact int_at hit i v q
  refine int_loop ((Walks.list hh3 _ l (Nat.ne_of_lt hla) items).toS) a hSf xs hisz hb hval (items.size - 0) 0 _ (by omega) (Nat.zero_le _) ⟨⟨_, Heap.get?_push_size _ rfl, rfl, rfl⟩, hl1.push _⟩ ⟨0, setR_new_at (ns := xs) (Heap.get?_push_of_some _ ha)⟩ fun s' c hm hS' => ?_
  show wpAny _ _ _ _ _ _
  refine wpAny_pure ?_
  show wpAny _ _ (ret Value.none) _ _ _
  refine wpAny_pure (h s' c hS' (fun b o hb e => ?_) ?_)
  · have hb0 : b < s.heap.objs.size := Heap.lt_size e
    exact hm.heap b o (by simp only [List.mem_cons, List.mem_singleton, List.not_mem_nil, or_false, not_or]; exact ⟨hb, Nat.ne_of_lt hb0⟩) (Heap.get?_push_of_some _ e)
  · exact (Moved.eq_with hm :)
theorem int_call {l : Addr} {items : Array Value} {xs : List Int} {Q : Value → Shared → Prop} (hh : A.handled = none) (hl : s.heap.IsList l items) (hit : IntsAre items.toList xs) (hb : Fits xs)
    (h : ∀ (h' : Heap) (tk c : Nat), SetR w h' s.heap.objs.size (fun j => decide (j ∈ xs)) c → (∀ b o, s.heap.get? b = some o → h'.get? b = some o) → Q (.ref s.heap.objs.size) { s with heap := h', toks := tk }) :
    wpAny (model P w) A (call (.type "set") [.ref l]) Q E s := by
  obtain ⟨c, tl, hmro⟩ := F.called_set.mro
  have hmade := F.called_set.made
  have hsub := F.called_set.sub
  refine wpAny_call (codeAny_of_tree ?_)
  show wpAny _ _ (callAny (.type "set") _) _ _ _
  refine wpAny_pure ⟨Code.quiet_builtin _ (by decide +kernel), codeAny_builtin F.entry_type_call ?_⟩
  rw [Around.under_plain (weight_type_call_type "set" [.ref l] []) rfl]
  have h1 := F.called_set.notType
  have h2 := F.called_set.canCreate
  have hct := F.typeCall_set_1 (.ref l)
  repeat (any_goals (first | assumption | wp_step))
  refine codeAny_mono (L2.code_set_led1 (.ref l) (E := E) (Q₁ := fun obj s₁ => obj = .ref s.heap.objs.size ∧ s₁ = { s with heap := s.heap.push (emptySet w) }) ⟨rfl, rfl⟩) fun r s₁ hr => ?_
  cases r with
  | error e => exact hr
  | ok fl =>
    cases fl with
    | ret obj =>
      obtain ⟨rfl, rfl⟩ := hr
      have hS : (s.heap.push (emptySet w)).get? s.heap.objs.size = some (emptySet w) := Heap.get?_push_size _ rfl
      have hT : Shared.TypeIs { s with heap := s.heap.push (emptySet w) } (.ref s.heap.objs.size) "set" := ⟨_, hS, rfl⟩
      have hli := F.called_set.init.lookup
      have hbi := F.called_set.init.bind (.ref s.heap.objs.size)
      obtain ⟨ol, hol, _⟩ := id hl
      have hla : l < s.heap.objs.size := Heap.lt_size hol
      repeat (any_goals (first | assumption | wp_step))
      refine codeAny_mono (codeAny_call_builtin (R := wants (fun r s₂ => r = .none ∧ ∃ h' tk c, s₂ = { s with heap := h', toks := tk } ∧ SetR w h' s.heap.objs.size (fun j => decide (j ∈ xs)) c ∧ (∀ b o, s.heap.get? b = some o → h'.get? b = some o)) E) F.called_set.init.plain F.entry_set_init (check_set_init_1 hT
        (int_init (R := wants (fun r s₂ => r = .none ∧ ∃ h' tk c, s₂ = { s with heap := h', toks := tk } ∧ SetR w h' s.heap.objs.size (fun j => decide (j ∈ xs)) c ∧ (∀ b o, s.heap.get? b = some o → h'.get? b = some o)) E) hh (hl.push _) hit hb hS (Nat.ne_of_gt hla) fun s' c hH hk e => ⟨rfl, s'.heap, s'.toks, c, e, hH, fun b o e => hk b o (Nat.ne_of_lt (Heap.lt_size e)) (Heap.get?_push_of_some _ e)⟩))) fun r₂ s₂ hr₂ => ?_
      cases r₂ with
      | error e => exact hr₂
      | ok fl₂ =>
        cases fl₂ with
        | ret r =>
          obtain ⟨rfl, h', tk, c, rfl, hH, hk⟩ := hr₂
          repeat (any_goals (first | assumption | wp_step))
          exact h _ _ c hH hk
        | _ => exact hr₂.elim
    | _ => exact hr.elim
end
/-- the numbers of a list, rising, each once -/
def SetOfI (ys xs : List Int) : Prop := ys.Pairwise (· < ·) ∧ ∀ k, k ∈ ys ↔ k ∈ xs
section
variable {X : Cx}
def tSortSetI (K : PySem.W.Frag) (te : TE) : TE := fun σ H Q => te σ H fun v H1 => ∃ (a : Addr) (xs : List Int), v = .ref a ∧ SqL K H1 a (xs.map V.int) ∧ Fits xs ∧
  ∀ (ys : List Int) q, SetOfI ys xs → H1 q = none → Q (.ref q) (upd H1 q (.lst (ys.map V.int)))
theorem pe_sortSetI {e : Expr} {te : TE} {p p2 pos pos2 : Pos} (hc : X.calm = true) (hg : Gl X "sorted") (hm : X.mg "sorted" = none) (hg2 : Gl X "set") (hm2 : X.mg "set" = none) (he : PE X e te)
    (hs : starEach [e] X.env = (false, eval e X.env) :: starEach [] X.env := by rfl) :
    PE X (.Call (.Name "sorted" p) [.Call (.Name "set" p2) [e] [] pos2] [] pos) (tSortSetI X.K te) := by
  refine ⟨fun pins s σ H Q I h => ?_⟩
  refine Call_ (ld_blt I hg hm boot_sorted ?_)
  refine PyProof.Rows.callWith_builtin1 (PyProof.Rows.args_cons ?_ rfl) rfl rfl
  refine Call_ (ld_blt I hg2 hm2 boot_set ?_)
  refine PyProof.Rows.callWith_type1 (PyProof.Rows.args_cons (thn (he.run pins s σ H _ I h) fun v s1 ⟨x, H1, I1, r1, q1⟩ => PyProof.Rows.args_nil ?_) hs) hs rfl
  obtain ⟨l, xs, rfl, hq, hf, q1⟩ := q1
  cases r1
  obtain ⟨its, r, pl, hz⟩ := I1.list hq
  refine int_call (I1.ok.hd hc) pl.isList (xs := xs) (by simpa using r.ints) hf fun h' tk c hS hk => ?_
  refine PyProof.Rows.args_nil ?_
  have I2 : Inv X pins σ H1 { s1 with heap := h', toks := tk } := I1.kept hk
  obtain ⟨sx, hsx⟩ : ∃ sx : Shared, sx = { s1 with heap := h', toks := tk } := ⟨_, rfl⟩
  rw [← hsx] at I2 ⊢
  have hS : SetR X.w sx.heap s1.heap.objs.size (fun j => decide (j ∈ xs)) c := by rw [hsx]; exact hS
  have h64 : c < 64 := by have := setR_few hf (fun x hx => hx) hS; omega
  refine sorted_set hS (I1.ok.hd hc) h64 fun s' p out c2 ns k g o hp hg hi hso hm2 hl2 => ?_
  have hlen : (ns.map V.int).length ≤ sizeLine := by rw [List.length_map, hl2, sizeLine_eq]; omega
  have hn : H1 p = none := I2.hok.fresh hp
  have J : Inv X pins σ (upd H1 p (.lst (ns.map V.int))) { sx with heap := s'.heap, gens := s'.gens, drawn := s'.drawn, toks := s'.toks } :=
    I2.call (ch := []) (Un.laid k hp hn) (I2.hok.laid k hp ⟨hlen, out.toList, c2, vals_of_ints hi, hg⟩) (by rw [g]; exact I2.bare) (fun _ z => nomatch z)
  have e : s' = { sx with heap := s'.heap, gens := s'.gens, drawn := s'.drawn, toks := s'.toks } := by
    clear hsx I2 hS
    cases s'
    cases sx
    cases o
    rfl
  rw [e]
  exact ⟨.ref p, _, J, rfl, q1 ns p ⟨hso, fun j => by rw [hm2]; exact decide_eq_true_iff⟩ hn⟩
end
/-- sorted(set(..)) of whole numbers, of texts -/
def wSortSet2 (we : WE) : WE := fun env S K KX => we env S (fun x S1 => pGet (lsD S1 x) fun ds => ∃ xs : List Int, ds = xs.map (fun s => .z (.int s)) ∧ Fits xs ∧ ∀ ys, SetOfI ys xs → K (.r S1.length) (S1 ++ [.lst (ys.map fun s => .z (.int s))])) KX
theorem rp_ints {B : Hp} {w : Wd} : ∀ ys : List Int, RpsW B w (ys.map fun s => .z (.int s)) (ys.map V.int)
  | [] => .nil
  | y :: ys => .cons (.z (.int y)) (rp_ints ys)
section
variable {X : Cx} {B F0 : Hp} {W : WX} {e : Expr} {we : WE} {p p2 pos pos2 : Pos}
theorem xsortsetI (hc : X.calm = true) (hg : Gl X "sorted") (hm : X.mg "sorted" = none) (hg2 : Gl X "set") (hm2 : X.mg "set" = none) (he : PX X B F0 W e we)
    (hs : starEach [e] X.env = (false, eval e X.env) :: starEach [] X.env := by rfl) :
    PX X B F0 W (.Call (.Name "sorted" p) [.Call (.Name "set" p2) [e] [] pos2] [] pos) (wSortSet2 we) := wkE (pe_sortSetI hc hg hm hg2 hm2 he hs) fun σ H Q h => by
  obtain ⟨w, env, K, KX, R, E, h, k, kx⟩ := h
  refine ⟨w, env, _, KX, R, E, h, fun x S1 v H1 μ1 F1 R1 X1 r1 h1 => ?_, kx⟩
  obtain ⟨ds, e, xs, rfl, hf, h1⟩ := h1.out
  obtain ⟨a, vs, rfl, hs, rv⟩ := lsD_ok (w := ⟨μ1, S1, F1⟩) R1 r1 e
  have ev := RpDs.ints rv
  subst ev
  exact ⟨a, xs, rfl, .inl hs, hf, fun ys q hm hq => (k.xt X1).newL (w := ⟨μ1, S1, F1⟩) R1 (rp_ints ys) (h1 ys hm) hq⟩
end
end PL

set_option Elab.async false
set_option linter.all false
set_option maxRecDepth 100000
/-! ND, part 1: nets, answers, as data; what is in a thing, where a step goes -/
namespace ND
open PySem L2 PL

structure Step where
  lab : Str
  by_ : Bool
  num : Int
structure Tell where
  lab : Str
  name : Str
  by_ : Bool
  num : Int
inductive Thing where
  | plain | part (s : Int) | sort (q : Int)
inductive Ans where
  | opn | thing (t : Int) | none_ (at_ : Int) | torn (at_ : Int)
structure Quest where
  scope : Int
  state : Int
  path : List Str
abbrev Scope := List Step × List Tell
structure Net where
  scopes : List Scope
  things : List Thing
  quests : List Quest
inductive Goal where
  | to (s : Int) | opn (q : Int) | no
def eStep (s : Step) : PyData := .tuple [.str s.lab, .str (if s.by_ then "by" else "to"), .int s.num]
def eTell (s : Tell) : PyData := .tuple [.str s.lab, .str s.name, .str (if s.by_ then "by" else "thing"), .int s.num]
def eThing : Thing → PyData
  | .plain => .tuple [.str "plain", .int 0]
  | .part s => .tuple [.str "part", .int s]
  | .sort q => .tuple [.str "sort", .int q]
def eAns : Ans → PyData
  | .opn => .none
  | .thing t => .tuple [.str "thing", .int t]
  | .none_ a => .tuple [.str "none", .int a]
  | .torn a => .tuple [.str "torn", .int a]
def eQuest (q : Quest) : PyData := .tuple [.int q.scope, .int q.state, .tuple (q.path.map .str)]
def eScope (s : Scope) : PyData := .tuple [.list (s.1.map eStep), .list (s.2.map eTell)]
def eNet (n : Net) : PyData := .tuple [.list (n.scopes.map eScope), .list (n.things.map eThing), .list (n.quests.map eQuest)]
def eAnss (a : List Ans) : PyData := .list (a.map eAns)
def eGoal : Goal → PyData
  | .to s => .tuple [.str "to", .int s]
  | .opn q => .tuple [.str "open", .int q]
  | .no => .tuple [.str "no", .int 0]

/-- the things' sorts are questions that have answers, their answers are things there -/
structure InOk (net : Net) (ans : List Ans) : Prop where
  sort : ∀ (q : Int), Thing.sort q ∈ net.things → 0 ≤ q ∧ q < ans.length
  ans : ∀ (t : Int), Ans.thing t ∈ ans → 0 ≤ t ∧ t < net.things.length
def getI {α : Type} (xs : List α) (d : α) (i : Int) : α := xs.getD i.toNat d
def inside (net : Net) (ans : List Ans) (t : Int) : Goal := match getI net.things .plain t with
  | .part s => .to s
  | .plain => .no
  | .sort q => match getI ans .opn q with
    | .opn => .opn q
    | .thing t => match getI net.things .plain t with
      | .part s => .to s
      | _ => .no
    | _ => .no
theorem getI_at {α : Type} {xs : List α} {d : α} {i : Int} (h : 0 ≤ i ∧ i < xs.length) : atD xs i = some (getI xs d i) := by
  rw [atD_in h.1 h.2]
  unfold getI
  rw [List.getD_eq_getElem?_getD, List.getElem?_eq_getElem (by omega)]
  rfl
theorem getI_mem {α : Type} {xs : List α} {d : α} {i : Int} (h : 0 ≤ i ∧ i < xs.length) : getI xs d i ∈ xs := by
  have := getI_at (d := d) h
  rw [atD_in h.1 h.2] at this
  rw [← Option.some.inj this]
  exact List.getElem_mem _
/-! no lists within -/
theorem flat_strs : ∀ xs : List Str, flatTs (xs.map .str) = true
  | [] => rfl
  | x :: xs => by simp [flatTs, flatT, flat_strs xs]
theorem bzQ (q : Quest) : bz (eQuest q) = .z (eQuest q) := bz_flat (by simp [eQuest, flatT, flatTs, flat_strs])
theorem bzT (t : Thing) : bz (eThing t) = .z (eThing t) := by cases t <;> rfl
theorem bzA (a : Ans) : bz (eAns a) = .z (eAns a) := by cases a <;> rfl
theorem bzG (g : Goal) : bz (eGoal g) = .z (eGoal g) := by cases g <;> rfl
theorem bzS (s : Step) : bz (eStep s) = .z (eStep s) := rfl
theorem bzL (t : Tell) : bz (eTell t) = .z (eTell t) := rfl
end ND

set_option Elab.async false
set_option linter.all false
set_option maxRecDepth 100000
/-! ND, part 2: a net in the store -/
namespace ND
open PySem L2 PL

theorem cutL_map {α β : Type} (f : α → β) (xs : List α) (lo hi : Option Int) : cutL (xs.map f) lo hi = (cutL xs lo hi).map f := by
  unfold cutL; rw [List.length_map, List.map_take, List.map_drop]
theorem cutL_len {α : Type} (xs : List α) (lo hi : Option Int) : (cutL xs lo hi).length ≤ xs.length := by
  unfold cutL; rw [List.length_take, List.length_drop]; omega
theorem cutL_mem {α : Type} {xs : List α} {lo hi : Option Int} {x : α} (h : x ∈ cutL xs lo hi) : x ∈ xs := List.mem_of_mem_drop (List.mem_of_mem_take h)
theorem bz_ints (ns : List Int) : (ns.map PyData.int).map bz = ns.map fun i => .z (.int i) := by rw [List.map_map]; rfl

/-- a scope, its two lists at two places -/
def scD (p : Nat × Nat) : D := .t [.r p.1, .r p.2]
structure ScIn (S : Sto) (p : Nat × Nat) (s : Scope) : Prop where
  a : S[p.1]? = some (.lst (s.1.map fun x => .z (eStep x)))
  b : S[p.2]? = some (.lst (s.2.map fun x => .z (eTell x)))
theorem ScIn.vw {S : Sto} {p : Nat × Nat} {s : Scope} (h : ScIn S p s) : Vw S (scD p) (eScope s) :=
  .t (.cons (.r h.a (Vws.map _ _)) (.cons (.r h.b (Vws.map _ _)) .nil))
theorem ScIn.sub {S S' : Sto} {p : Nat × Nat} {s : Scope} (h : ScIn S p s) (k : ∀ (n : Nat) (o : Ob), S[n]? = some o → S'[n]? = some o) : ScIn S' p s := ⟨k _ _ h.a, k _ _ h.b⟩
inductive ScsIn (S : Sto) : List (Nat × Nat) → List Scope → Prop
  | nil : ScsIn S [] []
  | cons {p : Nat × Nat} {s : Scope} {ps : List (Nat × Nat)} {ss : List Scope} : ScIn S p s → ScsIn S ps ss → ScsIn S (p :: ps) (s :: ss)
theorem ScsIn.vws {S : Sto} : ∀ {ps : List (Nat × Nat)} {ss : List Scope}, ScsIn S ps ss → Vws S (ps.map scD) (ss.map eScope)
  | [], _, h => by cases h; exact .nil
  | p :: ps, _, h => by cases h with | cons a b => exact .cons a.vw b.vws
theorem ScsIn.sub {S S' : Sto} (k : ∀ (n : Nat) (o : Ob), S[n]? = some o → S'[n]? = some o) : ∀ {ps : List (Nat × Nat)} {ss : List Scope}, ScsIn S ps ss → ScsIn S' ps ss
  | [], _, h => by cases h; exact .nil
  | p :: ps, _, h => by cases h with | cons a b => exact .cons (a.sub k) (b.sub k)
/-- n empty scopes from the place L on -/
def emp (L n : Nat) : List (Nat × Nat) := (List.range n).map fun k => (L + 2 * k, L + 2 * k + 1)
def noSc : Scope := ([], [])
theorem emp_in {S T : Sto} {L : Nat} (hL : S.length = L) (n : Nat) : ScsIn (S ++ (List.replicate (2 * n) (.lst []) ++ T)) (emp L n) (List.replicate n noSc) := by
  have go : ∀ (ks : List Nat), (∀ k ∈ ks, k < n) → ScsIn (S ++ (List.replicate (2 * n) (.lst []) ++ T)) (ks.map fun k => (L + 2 * k, L + 2 * k + 1)) (List.replicate ks.length noSc) := by
    intro ks
    induction ks with
    | nil => intro _; exact .nil
    | cons k ks ih =>
      intro h
      have hk := h k List.mem_cons_self
      refine .cons ⟨?_, ?_⟩ (ih fun j hj => h j (List.mem_cons_of_mem _ hj))
      · show (S ++ _)[L + 2 * k]? = _
        rw [List.getElem?_append_right (by omega), List.getElem?_append_left (by rw [List.length_replicate]; omega), List.getElem?_replicate, if_pos (by omega)]; rfl
      · show (S ++ _)[L + 2 * k + 1]? = _
        rw [List.getElem?_append_right (by omega), List.getElem?_append_left (by rw [List.length_replicate]; omega), List.getElem?_replicate, if_pos (by omega)]; rfl
  have := go (List.range n) fun k hk => List.mem_range.mp hk
  rw [List.length_range] at this
  exact this
abbrev weEmp : WE := wTup (wCons (wLst wNil) (wCons (wLst wNil) wNil))
/-- [([], []) for .. in range(n)] -/
theorem pLc_emp {lo : Int} {n : Nat} {i : Nat} {env : PL.Env} {fin : Sto → Prop} {S : Sto} (hz : n < 1000000) (hf : fin (S ++ .lst ((emp (S.length + 1) n).map scD) :: List.replicate (2 * n) (.lst []))) :
    pLc (rgD lo n) (tgN i) wYes weEmp S.length env fin (rgD lo n).items (S ++ [.lst []]) := by
  have hl : (rgD lo n).items.length = n := by simp [rgD]
  refine pLc_each (fun j S' => j ≤ n ∧ S' = S ++ .lst ((emp (S.length + 1) j).map scD) :: List.replicate (2 * j) (.lst [])) ⟨Nat.zero_le _, rfl⟩ (fun _ _ _ _ => trivial) ?_ ?_
  · rintro j d _ Q hj ⟨hj2, rfl⟩ hQ
    have hlt : j < n := by rw [← hl]; exact (List.getElem?_eq_some_iff.mp hj).1
    refine pGet.mk rfl ?_
    refine pIf.tt rfl ?_
    refine pReq.mk (sz_le rfl) ?_
    refine pReq.mk (sz_le rfl) ?_
    refine pReq.mk (sz_le rfl) ?_
    refine pGet.mk (x := (emp (S.length + 1) j).map scD) ?_ (pReq.mk ?_ ?_)
    · rw [List.append_assoc, List.append_assoc]
      exact lsR_at (List.getElem?_append_right (Nat.le_refl _) |>.trans (by rw [Nat.sub_self]; rfl))
    · rw [List.length_map]
      refine sz_lt6 ?_
      unfold emp
      rw [List.length_map, List.length_range]
      omega
    · refine hQ _ ⟨hlt, ?_⟩
      rw [List.append_assoc, List.append_assoc, List.set_append_right _ _ (Nat.le_refl _), Nat.sub_self]
      have e1 : emp (S.length + 1) (j + 1) = emp (S.length + 1) j ++ [(S.length + 1 + 2 * j, S.length + 1 + 2 * j + 1)] := by
        unfold emp; rw [range_snoc]
      have e2 : List.replicate (2 * (j + 1)) (Ob.lst []) = List.replicate (2 * j) (.lst []) ++ [.lst [], .lst []] := by
        rw [show 2 * (j + 1) = 2 * j + 2 by omega, ← List.replicate_append_replicate]; rfl
      rw [e1, e2, List.map_append]
      have e3 : (S ++ Ob.lst ((emp (S.length + 1) j).map scD) :: List.replicate (2 * j) (Ob.lst [])).length = S.length + 1 + 2 * j := by simp; omega
      have e4 : ((S ++ Ob.lst ((emp (S.length + 1) j).map scD) :: List.replicate (2 * j) (Ob.lst [])) ++ [Ob.lst []]).length = S.length + 1 + 2 * j + 1 := by simp; omega
      show S ++ (Ob.lst (_ ++ [D.t [.r _, .r _]]) :: _) = _
      rw [e3, e4]
      rfl
  · rintro S' ⟨_, rfl⟩
    rw [hl]
    exact hf
end ND

set_option Elab.async false
set_option linter.all false
set_option maxRecDepth 100000
/-! ND, part 3: words; nets that are all right; a net's scopes that may be written -/
namespace ND
open PySem L2 PL

/-- n small letters -/
def LwN (n : Nat) (x : Str) : Prop := x.cps.toList.length = n ∧ ∀ c ∈ x.cps.toList, 97 ≤ c ∧ c < 123
def isNm (x : Str) : Prop := ∃ n, 1 ≤ n ∧ n ≤ 8 ∧ LwN n x
theorem LwN.nil : LwN 0 (Str.ofString "") := ⟨rfl, fun c h => by cases h⟩
theorem LwN.len {n : Nat} {x : Str} (h : LwN n x) : x.length = n := by
  rw [← h.1]; show x.cps.size = _; simp
theorem LwN.ok {n : Nat} {x : Str} (h : LwN n x) : PyData.strOk x = true := by
  unfold PyData.strOk
  rw [Array.all_eq_true']
  intro c hc
  have := h.2 c (by simpa using hc)
  simp; omega
theorem isNm.ok {x : Str} (h : isNm x) : PyData.strOk x = true := by
  obtain ⟨n, _, _, h⟩ := h; exact h.ok
theorem app_list (x y : Str) : (x ++ y).cps.toList = x.cps.toList ++ y.cps.toList := by
  show (x.cps ++ y.cps).toList = _
  simp
theorem LwN.snoc {n : Nat} {x : Str} {c : Nat} (h : LwN n x) (h1 : 97 ≤ c) (h2 : c < 123) : LwN (n + 1) (x ++ ⟨⟨[c]⟩⟩) := by
  constructor
  · rw [app_list, List.length_append, h.1]; rfl
  · intro d hd
    rw [app_list, List.mem_append] at hd
    rcases hd with hd | hd
    · exact h.2 d hd
    · have : d = c := by simpa using hd
      subst this; exact ⟨h1, h2⟩
theorem one_len (c : Nat) : (⟨⟨[c]⟩⟩ : Str).length = 1 := rfl
def alpha : List Nat := [97, 98, 99, 100, 101, 102, 103, 104, 105, 106, 107, 108, 109, 110, 111, 112, 113, 114, 115, 116, 117, 118, 119, 120, 121, 122]
theorem alpha_eq : (Str.ofString "abcdefghijklmnopqrstuvwxyz").cps.toList = alpha := by decide +kernel
theorem alpha_at {i : Int} (h : 0 ≤ i ∧ i < 26) : ∃ c, atD (Str.ofString "abcdefghijklmnopqrstuvwxyz").cps.toList i = some c ∧ 97 ≤ c ∧ c < 123 := by
  rw [alpha_eq]
  obtain ⟨m, rfl⟩ : ∃ m : Nat, i = (m : Int) := ⟨i.toNat, by omega⟩
  have hm : m < 26 := by omega
  have key : ∀ m : Fin 26, ∃ c, alpha[m.val]? = some c ∧ 97 ≤ c ∧ c < 123 := by decide
  exact key ⟨m, hm⟩
theorem getA {α : Type} {xs : List α} {i : Int} (h : 0 ≤ i ∧ i < xs.length) : ∃ x, atD xs i = some x ∧ x ∈ xs := ⟨_, atD_in h.1 h.2, List.getElem_mem _⟩

theorem ixD_zA {α : Type} {S : Sto} {f : α → PyData} {xs : List α} {i : Int} (h : 0 ≤ i ∧ i < xs.length) : ∃ d, ixD S (.z (.list (xs.map f))) i = some d ∧ ∃ x, x ∈ xs ∧ d = .z (f x) := by
  obtain ⟨x, e, hx⟩ := getA h
  exact ⟨_, ixD_zL e, x, hx, rfl⟩
theorem ixD_bA {α : Type} {S : Sto} {f : α → PyData} {xs : List α} {i : Int} (h : 0 ≤ i ∧ i < xs.length) : ∃ d, ixD S (.b (.list (xs.map f))) i = some d ∧ ∃ x, x ∈ xs ∧ d = bz (f x) := by
  obtain ⟨x, e, hx⟩ := getA h
  exact ⟨_, ixD_bL e, x, hx, rfl⟩
/-! what a net keeps to -/
def StepOk (ns nq : Nat) (x : Step) : Prop := PyData.strOk x.lab = true ∧ 0 ≤ x.num ∧ x.num < (if x.by_ = true then nq else ns : Nat)
def TellOk (nt nq : Nat) (x : Tell) : Prop := PyData.strOk x.lab = true ∧ PyData.strOk x.name = true ∧ 0 ≤ x.num ∧ x.num < (if x.by_ = true then nq else nt : Nat)
def ThingOk (ns nq : Nat) : Thing → Prop
  | .plain => True
  | .part s => 0 ≤ s ∧ s < ns
  | .sort q => 0 ≤ q ∧ q < nq
structure QuestOk (ns : Nat) (q : Quest) : Prop where
  s : 0 ≤ q.scope ∧ q.scope < ns
  t : 0 ≤ q.state
  p1 : q.path ≠ []
  p6 : q.path.length ≤ 6
  ok : ∀ x ∈ q.path, PyData.strOk x = true
def ScopeOk (ns nt nq : Nat) (s : Scope) : Prop := (∀ x ∈ s.1, StepOk ns nq x) ∧ ∀ x ∈ s.2, TellOk nt nq x
structure NetOk (n : Net) : Prop where
  sc : ∀ s ∈ n.scopes, ScopeOk n.scopes.length n.things.length n.quests.length s
  th : ∀ t ∈ n.things, ThingOk n.scopes.length n.quests.length t
  qs : ∀ q ∈ n.quests, QuestOk n.scopes.length q
def AnsOk (nt : Nat) : Ans → Prop
  | .thing t => 0 ≤ t ∧ t < nt
  | _ => True
theorem inOk_of {n : Net} {a : List Ans} (h : NetOk n) (hl : a.length = n.quests.length) (ha : ∀ x ∈ a, AnsOk n.things.length x) : InOk n a :=
  ⟨fun q hq => by have := h.th _ hq; rw [hl]; exact this, fun t ht => ha _ ht⟩
/-! shapes -/
theorem shQ {q : Quest} (h : ∀ x ∈ q.path, PyData.strOk x = true) : Shp 2 (eQuest q) := .tup3 .int .int (.tuple fun d hd => by
  obtain ⟨x, hx, rfl⟩ := List.mem_map.mp hd
  exact .str (h x hx))
theorem shT (t : Thing) : Shp 2 (eThing t) := by cases t <;> exact .mono (.tup2 (n := 0) (.str (by decide +kernel)) .int) (by decide)
theorem shA (t : Ans) : Shp 2 (eAns t) := by cases t <;> first | exact .none | exact .mono (.tup2 (n := 0) (.str (by decide +kernel)) .int) (by decide)
theorem shAs (a : List Ans) : Shp 3 (eAnss a) := .lists fun t _ => shA t
theorem shS {x : Step} (h : PyData.strOk x.lab = true) : Shp 1 (eStep x) := .tup3 (.str h) (by cases x.by_ <;> exact .str (by decide +kernel)) .int
theorem shL {x : Tell} (h : PyData.strOk x.lab = true) (h2 : PyData.strOk x.name = true) : Shp 1 (eTell x) := .tup4 (.str h) (.str h2) (by cases x.by_ <;> exact .str (by decide +kernel)) .int
theorem shSc {ns nt nq : Nat} {s : Scope} (h : ScopeOk ns nt nq s) : Shp 3 (eScope s) := .tup2 (.lists fun x hx => shS (h.1 x hx).1) (.lists fun x hx => shL (h.2 x hx).1 (h.2 x hx).2.1)
theorem shN {n : Net} (h : NetOk n) : Shp 5 (eNet n) := .tup3 (.lists fun s hs => shSc (h.sc s hs)) (.mono (.lists fun t _ => shT t) (by decide)) (.mono (.lists fun q hq => shQ (h.qs q hq).ok) (by decide))

/-! scopes that may be written -/
def plcs (ps : List (Nat × Nat)) : List Nat := ps.flatMap fun p => [p.1, p.2]
structure ScsAt (S : Sto) (n0 : Nat) (ps : List (Nat × Nat)) (ss : List Scope) : Prop where
  l : S[n0]? = some (.lst (ps.map scD))
  i : ScsIn S ps ss
  nd : (n0 :: plcs ps).Nodup
theorem ScsAt.app {S T : Sto} {n0 : Nat} {ps : List (Nat × Nat)} {ss : List Scope} (h : ScsAt S n0 ps ss) : ScsAt (S ++ T) n0 ps ss := ⟨sto_app h.l, h.i.sub fun _ _ => sto_app, h.nd⟩
theorem ScsAt.vw {S : Sto} {n0 : Nat} {ps : List (Nat × Nat)} {ss : List Scope} (h : ScsAt S n0 ps ss) : Vw S (.r n0) (.list (ss.map eScope)) := .r h.l h.i.vws
theorem ScsIn.len {S : Sto} : ∀ {ps : List (Nat × Nat)} {ss : List Scope}, ScsIn S ps ss → ps.length = ss.length
  | [], _, h => by cases h; rfl
  | p :: ps, _, h => by cases h with | cons a b => simp [ScsIn.len b]
theorem ScsIn.get {S : Sto} : ∀ {ps : List (Nat × Nat)} {ss : List Scope} {i : Nat} {p : Nat × Nat}, ScsIn S ps ss → ps[i]? = some p → ∃ s, ss[i]? = some s ∧ ScIn S p s
  | [], _, _, _, h, e => by simp at e
  | p :: ps, _, 0, _, h, e => by cases h with | cons a b => simp at e; subst e; exact ⟨_, rfl, a⟩
  | p :: ps, _, i + 1, q, h, e => by
    cases h with
    | cons a b =>
      obtain ⟨s, h1, h2⟩ := ScsIn.get (i := i) (p := q) b (by simpa using e)
      exact ⟨s, by simpa using h1, h2⟩
/-- a write at a place of none of these -/
theorem ScsIn.keep {S : Sto} {n : Nat} {o : Ob} : ∀ {ps : List (Nat × Nat)} {ss : List Scope}, ScsIn S ps ss → n ∉ plcs ps → ScsIn (S.set n o) ps ss
  | [], _, h, _ => by cases h; exact .nil
  | p :: ps, _, h, hn => by
    cases h with
    | cons a b =>
      have h1 : n ≠ p.1 := fun e => hn (by simp [plcs, e])
      have h2 : n ≠ p.2 := fun e => hn (by simp [plcs, e])
      have h3 : n ∉ plcs ps := fun e => hn (by
        show n ∈ [p.1, p.2] ++ plcs ps
        exact List.mem_append_right _ e)
      exact .cons ⟨by rw [List.getElem?_set_ne h1]; exact a.a, by rw [List.getElem?_set_ne h2]; exact a.b⟩ (ScsIn.keep b h3)
theorem ScIn.lt1 {S : Sto} {p : Nat × Nat} {s : Scope} (h : ScIn S p s) : p.1 < S.length := (List.getElem?_eq_some_iff.mp h.a).1
theorem ScIn.lt2 {S : Sto} {p : Nat × Nat} {s : Scope} (h : ScIn S p s) : p.2 < S.length := (List.getElem?_eq_some_iff.mp h.b).1
/-- the steps of one are written -/
theorem ScsIn.put1 {S : Sto} {xs : List Step} : ∀ {ps : List (Nat × Nat)} {ss : List Scope} {i : Nat} {p : Nat × Nat} {s : Scope}, ScsIn S ps ss → (plcs ps).Nodup → ps[i]? = some p → ss[i]? = some s → ScsIn (S.set p.1 (.lst (xs.map fun x => .z (eStep x)))) ps (ss.set i (xs, s.2))
  | [], _, _, _, _, h, _, e, _ => by simp at e
  | p :: ps, _, 0, q, s, h, nd, e, e2 => by
    cases h with
    | cons a b =>
      simp at e e2
      subst e; subst e2
      have nd2 : (p.1 :: p.2 :: plcs ps).Nodup := nd
      have h12 : p.1 ≠ p.2 := fun z => by rw [z] at nd2; simp at nd2
      have h3 : p.1 ∉ plcs ps := fun z => by
        have := List.nodup_cons.mp nd2
        exact this.1 (List.mem_cons_of_mem _ z)
      exact .cons ⟨by rw [List.getElem?_set_self a.lt1], by rw [List.getElem?_set_ne h12]; exact a.b⟩ (b.keep h3)
  | p :: ps, _, i + 1, q, s, h, nd, e, e2 => by
    cases h with
    | cons a b =>
      have nd2 : (p.1 :: p.2 :: plcs ps).Nodup := nd
      have hq : q ∈ ps := List.mem_of_getElem? (i := i) (by simpa using e)
      have hq1 : q.1 ∈ plcs ps := List.mem_flatMap.mpr ⟨q, hq, by simp⟩
      have h1 := (List.nodup_cons.mp nd2).1
      have h2 := (List.nodup_cons.mp (List.nodup_cons.mp nd2).2).1
      have n1 : q.1 ≠ p.1 := fun z => h1 (by rw [← z]; exact List.mem_cons_of_mem _ hq1)
      have n2 : q.1 ≠ p.2 := fun z => h2 (by rw [← z]; exact hq1)
      exact .cons ⟨by rw [List.getElem?_set_ne n1]; exact a.a, by rw [List.getElem?_set_ne n2]; exact a.b⟩ (ScsIn.put1 b (List.nodup_cons.mp (List.nodup_cons.mp nd2).2).2 (by simpa using e) (by simpa using e2))
/-- the tellings -/
theorem ScsIn.put2 {S : Sto} {xs : List Tell} : ∀ {ps : List (Nat × Nat)} {ss : List Scope} {i : Nat} {p : Nat × Nat} {s : Scope}, ScsIn S ps ss → (plcs ps).Nodup → ps[i]? = some p → ss[i]? = some s → ScsIn (S.set p.2 (.lst (xs.map fun x => .z (eTell x)))) ps (ss.set i (s.1, xs))
  | [], _, _, _, _, h, _, e, _ => by simp at e
  | p :: ps, _, 0, q, s, h, nd, e, e2 => by
    cases h with
    | cons a b =>
      simp at e e2
      subst e; subst e2
      have nd2 : (p.1 :: p.2 :: plcs ps).Nodup := nd
      have h12 : p.2 ≠ p.1 := fun z => by rw [z] at nd2; simp at nd2
      have h3 : p.2 ∉ plcs ps := (List.nodup_cons.mp (List.nodup_cons.mp nd2).2).1
      exact .cons ⟨by rw [List.getElem?_set_ne h12]; exact a.a, by rw [List.getElem?_set_self a.lt2]⟩ (b.keep h3)
  | p :: ps, _, i + 1, q, s, h, nd, e, e2 => by
    cases h with
    | cons a b =>
      have nd2 : (p.1 :: p.2 :: plcs ps).Nodup := nd
      have hq : q ∈ ps := List.mem_of_getElem? (i := i) (by simpa using e)
      have hq1 : q.2 ∈ plcs ps := List.mem_flatMap.mpr ⟨q, hq, by simp⟩
      have h1 := (List.nodup_cons.mp nd2).1
      have h2 := (List.nodup_cons.mp (List.nodup_cons.mp nd2).2).1
      have n1 : q.2 ≠ p.1 := fun z => h1 (by rw [← z]; exact List.mem_cons_of_mem _ hq1)
      have n2 : q.2 ≠ p.2 := fun z => h2 (by rw [← z]; exact hq1)
      exact .cons ⟨by rw [List.getElem?_set_ne n1]; exact a.a, by rw [List.getElem?_set_ne n2]; exact a.b⟩ (ScsIn.put2 b (List.nodup_cons.mp (List.nodup_cons.mp nd2).2).2 (by simpa using e) (by simpa using e2))
theorem mem_plcs {ps : List (Nat × Nat)} {p : Nat × Nat} (h : p ∈ ps) : p.1 ∈ plcs ps ∧ p.2 ∈ plcs ps := ⟨List.mem_flatMap.mpr ⟨p, h, by simp⟩, List.mem_flatMap.mpr ⟨p, h, by simp⟩⟩
theorem ScsAt.put1 {S : Sto} {n0 : Nat} {ps : List (Nat × Nat)} {ss : List Scope} {i : Nat} {p : Nat × Nat} {s : Scope} {xs : List Step} (h : ScsAt S n0 ps ss) (e : ps[i]? = some p) (e2 : ss[i]? = some s) : ScsAt (S.set p.1 (.lst (xs.map fun x => .z (eStep x)))) n0 ps (ss.set i (xs, s.2)) := by
  have hm := mem_plcs (List.mem_of_getElem? e)
  have nd := List.nodup_cons.mp h.nd
  exact ⟨by rw [List.getElem?_set_ne (fun z => nd.1 (by rw [← z]; exact hm.1))]; exact h.l, h.i.put1 nd.2 e e2, h.nd⟩
theorem ScsAt.put2 {S : Sto} {n0 : Nat} {ps : List (Nat × Nat)} {ss : List Scope} {i : Nat} {p : Nat × Nat} {s : Scope} {xs : List Tell} (h : ScsAt S n0 ps ss) (e : ps[i]? = some p) (e2 : ss[i]? = some s) : ScsAt (S.set p.2 (.lst (xs.map fun x => .z (eTell x)))) n0 ps (ss.set i (s.1, xs)) := by
  have hm := mem_plcs (List.mem_of_getElem? e)
  have nd := List.nodup_cons.mp h.nd
  exact ⟨by rw [List.getElem?_set_ne (fun z => nd.1 (by rw [← z]; exact hm.2))]; exact h.l, h.i.put2 nd.2 e e2, h.nd⟩
theorem ScsIn.lt {S : Sto} : ∀ {ps : List (Nat × Nat)} {ss : List Scope}, ScsIn S ps ss → ∀ m ∈ plcs ps, m < S.length
  | [], _, _, m, hm => by cases hm
  | p :: ps, _, h, m, hm => by
    cases h with
    | cons a b =>
      have hm : m ∈ p.1 :: p.2 :: plcs ps := hm
      rcases List.mem_cons.mp hm with rfl | hm
      · exact a.lt1
      · rcases List.mem_cons.mp hm with rfl | hm
        · exact a.lt2
        · exact b.lt m hm
theorem ScsAt.lt {S : Sto} {n0 : Nat} {ps : List (Nat × Nat)} {ss : List Scope} (h : ScsAt S n0 ps ss) : ∀ m ∈ n0 :: plcs ps, m < S.length := fun m hm => by
  rcases List.mem_cons.mp hm with rfl | hm
  · exact (List.getElem?_eq_some_iff.mp h.l).1
  · exact h.i.lt m hm
theorem emp_plcs (L n : Nat) : (∀ m ∈ plcs (emp L n), L ≤ m ∧ m < L + 2 * n) ∧ (plcs (emp L n)).Nodup := by
  induction n with
  | zero => exact ⟨fun m h => (by cases h), List.nodup_nil⟩
  | succ n ih =>
    have e : plcs (emp L (n + 1)) = plcs (emp L n) ++ [L + 2 * n, L + 2 * n + 1] := by
      unfold emp plcs
      rw [List.range_succ, List.map_append, List.flatMap_append]
      rfl
    rw [e]
    refine ⟨fun m hm => ?_, ?_⟩
    · rcases List.mem_append.mp hm with h | h
      · have := ih.1 m h; omega
      · simp at h; omega
    · rw [List.nodup_append]
      refine ⟨ih.2, by simp, fun a ha b hb => ?_⟩
      have := ih.1 a ha
      simp at hb; omega
theorem emp_len (L n : Nat) : (emp L n).length = n := by unfold emp; rw [List.length_map, List.length_range]
/-- the scopes just made -/
theorem emp_at {S : Sto} (n : Nat) : ScsAt (S ++ .lst ((emp (S.length + 1) n).map scD) :: List.replicate (2 * n) (.lst [])) S.length (emp (S.length + 1) n) (List.replicate n noSc) := by
  refine ⟨by simp, ?_, ?_⟩
  · have := emp_in (S := S ++ [Ob.lst ((emp (S.length + 1) n).map scD)]) (T := []) (L := S.length + 1) (by simp) n
    rw [List.append_nil, List.append_assoc] at this
    exact this
  · have := emp_plcs (S.length + 1) n
    exact List.nodup_cons.mpr ⟨fun h => by have := this.1 _ h; omega, this.2⟩
theorem set_len {α : Type} {xs : List α} {i : Nat} {x : α} : (xs.set i x).length = xs.length := List.length_set
theorem mem_set' {α : Type} {xs : List α} {i : Nat} {x y : α} (h : y ∈ xs.set i x) : y ∈ xs ∨ y = x := List.mem_or_eq_of_mem_set h
end ND

set_option Elab.async false
set_option linter.all false
set_option maxRecDepth 100000
/-! ND, part 4: copies of scopes -/
namespace ND
open PySem L2 PL

def cps (ss : List Scope) : Sto := ss.flatMap fun s => [.lst (s.1.map fun x => .z (eStep x)), .lst (s.2.map fun x => .z (eTell x))]
theorem cps_app (a b : List Scope) : cps (a ++ b) = cps a ++ cps b := List.flatMap_append
theorem cps_len (ss : List Scope) : (cps ss).length = 2 * ss.length := by
  induction ss with
  | nil => rfl
  | cons s ss ih =>
    show ([_, _] ++ cps ss).length = _
    rw [List.length_append, ih, List.length_cons]
    simp; omega
theorem cps_get : ∀ {ss : List Scope} {i : Nat} {s : Scope}, ss[i]? = some s → (cps ss)[2 * i]? = some (.lst (s.1.map fun x => .z (eStep x))) ∧ (cps ss)[2 * i + 1]? = some (.lst (s.2.map fun x => .z (eTell x)))
  | [], _, _, h => by simp at h
  | t :: ss, 0, s, h => by simp at h; subst h; exact ⟨rfl, rfl⟩
  | t :: ss, i + 1, s, h => by
    have := cps_get (ss := ss) (i := i) (s := s) (by simpa using h)
    have e1 : 2 * (i + 1) = 2 * i + 2 := by omega
    rw [e1]
    exact this
theorem cps_in {S T : Sto} {L : Nat} (hL : S.length = L) (ss : List Scope) : ScsIn (S ++ (cps ss ++ T)) (emp L ss.length) ss := by
  have go : ∀ (done rest : List Scope), ss = done ++ rest → ScsIn (S ++ (cps ss ++ T)) (((List.range rest.length).map (· + done.length)).map fun k => (L + 2 * k, L + 2 * k + 1)) rest := by
    intro done rest
    induction rest generalizing done with
    | nil => intro _; exact .nil
    | cons s rest ih =>
      intro e
      have hs : ss[done.length]? = some s := by rw [e]; simp
      obtain ⟨g1, g2⟩ := cps_get hs
      have hlt : done.length < ss.length := (List.getElem?_eq_some_iff.mp hs).1
      have hc := cps_len ss
      have ih2 := ih (done ++ [s]) (by rw [e]; simp)
      have e2 : (List.range (s :: rest).length).map (· + done.length) = done.length :: (List.range rest.length).map (· + (done ++ [s]).length) := by
        rw [List.length_cons, List.range_succ_eq_map, List.map_cons, List.map_map]
        congr 1
        · omega
        · refine List.map_congr_left fun k _ => ?_
          simp; omega
      rw [e2, List.map_cons]
      refine .cons ⟨?_, ?_⟩ ih2
      · show (S ++ _)[L + 2 * done.length]? = _
        rw [List.getElem?_append_right (by omega), List.getElem?_append_left (by omega), ← hL, Nat.add_sub_cancel_left]; exact g1
      · show (S ++ _)[L + 2 * done.length + 1]? = _
        rw [List.getElem?_append_right (by omega), List.getElem?_append_left (by omega), ← hL]
        rw [show S.length + 2 * done.length + 1 - S.length = 2 * done.length + 1 by omega]; exact g2
  have := go [] ss rfl
  simpa [emp] using this
theorem cps_at {S : Sto} (ss : List Scope) : ScsAt (S ++ .lst ((emp (S.length + 1) ss.length).map scD) :: cps ss) S.length (emp (S.length + 1) ss.length) ss := by
  refine ⟨by simp, ?_, ?_⟩
  · have := cps_in (S := S ++ [Ob.lst ((emp (S.length + 1) ss.length).map scD)]) (T := []) (L := S.length + 1) (by simp) ss
    rw [List.append_nil, List.append_assoc] at this
    exact this
  · have := emp_plcs (S.length + 1) ss.length
    exact List.nodup_cons.mpr ⟨fun h => by have := this.1 _ h; omega, this.2⟩
theorem wVar_at {i : Nat} {env : PL.Env} {S : Sto} {K : K1} {KX : KX} {d : D} (h : env[i]? = some (some d)) (k : K d S) : wVar i env S K KX := by
  unfold wVar; rw [h]; exact k
abbrev weCopy (a b : Nat) : WE := wTup (wCons (wCall pList (wCons (wVar a) wNil)) (wCons (wCall pList (wCons (wVar b) wNil)) wNil))
/-- an item that is seen as a scope -/
def SeenSc (S : Sto) (d : D) (s : Scope) : Prop := ∃ x y, tpD d = some [x, y] ∧ ∀ T, sqD (S ++ T) x = some (s.1.map fun x => .z (eStep x)) ∧ sqD (S ++ T) y = some (s.2.map fun x => .z (eTell x))
theorem ScIn.seen {S : Sto} {p : Nat × Nat} {s : Scope} (h : ScIn S p s) : SeenSc S (scD p) s := ⟨_, _, rfl, fun T => ⟨sqD_at (sto_app h.a), sqD_at (sto_app h.b)⟩⟩
theorem bzs_steps (s : List Step) : (s.map eStep).map bz = s.map fun x => .z (eStep x) := by rw [List.map_map]; rfl
theorem bzs_tells (s : List Tell) : (s.map eTell).map bz = s.map fun x => .z (eTell x) := by rw [List.map_map]; rfl
theorem bz_scope (s : Scope) : bz (eScope s) = .b (eScope s) := by
  unfold bz
  rw [if_neg]
  simp [eScope, flatT, flatTs]
theorem seen_b {S : Sto} (s : Scope) : SeenSc S (bz (eScope s)) s := by
  rw [bz_scope]
  refine ⟨.b (.list (s.1.map eStep)), .b (.list (s.2.map eTell)), ?_, fun T => ⟨?_, ?_⟩⟩
  · show some ([PyData.list _, PyData.list _].map bz) = _
    rw [List.map_cons, List.map_cons, bz_list, bz_list]; rfl
  · show some ((s.1.map eStep).map bz) = _
    rw [bzs_steps]
  · show some ((s.2.map eTell).map bz) = _
    rw [bzs_tells]
theorem seen_z {S : Sto} (s : Scope) : SeenSc S (.z (eScope s)) s := by
  refine ⟨.z (.list (s.1.map eStep)), .z (.list (s.2.map eTell)), rfl, fun T => ⟨?_, ?_⟩⟩
  · show some ((s.1.map eStep).map D.z) = _
    rw [List.map_map]; rfl
  · show some ((s.2.map eTell).map D.z) = _
    rw [List.map_map]; rfl
/-- [(list(a), list(b)) for a, b in ..] -/
theorem pLc_copy {src : Src} {ss : List Scope} {a b : Nat} {env : PL.Env} {fin : Sto → Prop} {S : Sto} (hz : ss.length < 1000000) (hlen : src.items.length = ss.length) (hok : ∀ acc T, src.ok (S ++ (.lst acc :: T)))
    (hit : ∀ (i : Nat) (d : D) (s : Scope), src.items[i]? = some d → ss[i]? = some s → SeenSc S d s) (ha : ∀ x y, ((env.set a (some x)).set b (some y))[a]? = some (some x)) (hb : ∀ x y, ((env.set a (some x)).set b (some y))[b]? = some (some y))
    (hf : fin (S ++ .lst ((emp (S.length + 1) ss.length).map scD) :: cps ss)) : pLc src (tgT [a, b]) wYes (weCopy a b) S.length env fin src.items (S ++ [.lst []]) := by
  refine pLc_each (fun j S' => j ≤ ss.length ∧ S' = S ++ .lst ((emp (S.length + 1) j).map scD) :: cps (ss.take j)) ⟨Nat.zero_le _, rfl⟩ ?_ ?_ ?_
  · rintro j _ _ ⟨_, rfl⟩
    exact hok _ _
  · rintro j d _ Q hj ⟨_, rfl⟩ hQ
    have hlt : j < ss.length := by rw [← hlen]; exact (List.getElem?_eq_some_iff.mp hj).1
    have hs := List.getElem?_eq_getElem hlt
    obtain ⟨x, y, htp, hxy⟩ := hit j d _ hj hs
    have htl : (ss.take j).length = j := by rw [List.length_take]; omega
    have hcl := cps_len (ss.take j)
    rw [htl] at hcl
    generalize ss[j] = s at hs hxy
    refine pGet.mk (x := (env.set a (some x)).set b (some y)) (by unfold tgT; rw [htp]; rfl) ?_
    refine pIf.tt rfl ?_
    have e3 : (S ++ Ob.lst ((emp (S.length + 1) j).map scD) :: cps (ss.take j)).length = S.length + 1 + 2 * j := by rw [List.length_append, List.length_cons, hcl]; omega
    have hx := (hxy (Ob.lst ((emp (S.length + 1) j).map scD) :: cps (ss.take j))).1
    have hy := (hxy (Ob.lst ((emp (S.length + 1) j).map scD) :: (cps (ss.take j) ++ [.lst (s.1.map fun x => .z (eStep x))]))).2
    dsimp only [weCopy, wTup, wCons, wCall, wNil, pList]
    refine wVar_at (ha _ _) ?_
    refine pGet.mk hx ?_
    try dsimp only
    refine wVar_at (hb _ _) ?_
    rw [List.append_assoc]
    refine pGet.mk hy ?_
    refine pReq.mk (sz_le rfl) ?_
    refine pGet.mk (x := (emp (S.length + 1) j).map scD) ?_ (pReq.mk ?_ ?_)
    · rw [List.append_assoc]
      exact lsR_at (List.getElem?_append_right (Nat.le_refl _) |>.trans (by rw [Nat.sub_self]; rfl))
    · rw [List.length_map, emp_len]
      exact sz_lt6 (by omega)
    · refine hQ _ ⟨hlt, ?_⟩
      rw [List.append_assoc, List.set_append_right _ _ (Nat.le_refl _), Nat.sub_self]
      have e1 : emp (S.length + 1) (j + 1) = emp (S.length + 1) j ++ [(S.length + 1 + 2 * j, S.length + 1 + 2 * j + 1)] := by
        unfold emp; rw [range_snoc]
      have e2 : cps (ss.take (j + 1)) = cps (ss.take j) ++ [.lst (s.1.map fun x => .z (eStep x)), .lst (s.2.map fun x => .z (eTell x))] := by
        rw [List.take_add_one, hs, cps_app]; rfl
      rw [e1, e2, List.map_append]
      have e4 : (S ++ (Ob.lst ((emp (S.length + 1) j).map scD) :: cps (ss.take j) ++ [Ob.lst (s.1.map fun x => .z (eStep x))])).length = S.length + 1 + 2 * j + 1 := by
        rw [← List.append_assoc, List.length_append, e3]; rfl
      show S ++ (Ob.lst (_ ++ [D.t [.r _, .r _]]) :: _) = _
      rw [e3, e4]
      generalize cps (ss.take j) = C
      have e5 : ∀ A B : Ob, (C ++ [A]) ++ [B] = C ++ [A, B] := fun A B => by rw [List.append_assoc]; rfl
      exact congrArg (fun Z => S ++ Ob.lst _ :: Z) (e5 _ _)
  · rintro S' ⟨_, rfl⟩
    rw [hlen, List.take_length]
    exact hf
end ND

set_option Elab.async false
set_option linter.all false
set_option maxRecDepth 100000
/-! NE, part 1: nets of rows, in the store; they may be written -/
namespace NE
open PySem L2 PL

/-! rows of any words -/
structure XStep where
  lab : Str
  kind : Str
  num : Int
structure XTell where
  lab : Str
  name : Str
  kind : Str
  num : Int
structure XThing where
  kind : Str
  num : Int
structure XQuest where
  scope : Int
  state : Int
  path : List Str
abbrev XScope := List XStep × List XTell
structure XNet where
  scopes : List XScope
  things : List XThing
  quests : List XQuest
def eS (s : XStep) : PyData := .tuple [.str s.lab, .str s.kind, .int s.num]
def eL (s : XTell) : PyData := .tuple [.str s.lab, .str s.name, .str s.kind, .int s.num]
def eT (s : XThing) : PyData := .tuple [.str s.kind, .int s.num]
def eQ (q : XQuest) : PyData := .tuple [.int q.scope, .int q.state, .tuple (q.path.map .str)]
def eSc (s : XScope) : PyData := .tuple [.list (s.1.map eS), .list (s.2.map eL)]
def eN (n : XNet) : PyData := .tuple [.list (n.scopes.map eSc), .list (n.things.map eT), .list (n.quests.map eQ)]
theorem flat_strs : ∀ xs : List Str, flatTs (xs.map .str) = true
  | [] => rfl
  | x :: xs => by simp [flatTs, flatT, flat_strs xs]
theorem bzS (s : XStep) : bz (eS s) = .z (eS s) := rfl
theorem bzL (s : XTell) : bz (eL s) = .z (eL s) := rfl
theorem bzT (s : XThing) : bz (eT s) = .z (eT s) := rfl
theorem bzQ (q : XQuest) : bz (eQ q) = .z (eQ q) := bz_flat (by simp [eQ, flatT, flatTs, flat_strs])
theorem bzSc (s : XScope) : bz (eSc s) = .b (eSc s) := by
  unfold bz
  rw [if_neg]
  simp [eSc, flatT, flatTs]
theorem bzN (n : XNet) : bz (eN n) = .b (eN n) := by
  unfold bz
  rw [if_neg]
  simp [eN, flatT, flatTs]
abbrev zS (s : XStep) : D := .z (eS s)
abbrev zL (s : XTell) : D := .z (eL s)
abbrev zT (s : XThing) : D := .z (eT s)
abbrev zQ (s : XQuest) : D := .z (eQ s)
theorem bzsS (s : List XStep) : (s.map eS).map bz = s.map zS := by rw [List.map_map]; rfl
theorem bzsL (s : List XTell) : (s.map eL).map bz = s.map zL := by rw [List.map_map]; rfl
theorem bzsT (s : List XThing) : (s.map eT).map bz = s.map zT := by rw [List.map_map]; rfl
theorem bzsQ (s : List XQuest) : (s.map eQ).map bz = s.map zQ := by
  rw [List.map_map]; exact List.map_congr_left fun q _ => bzQ q
/-! in the store -/
def scD (p : Nat × Nat) : D := .t [.r p.1, .r p.2]
def plcs (ps : List (Nat × Nat)) : List Nat := ps.flatMap fun p => [p.1, p.2]
structure ScIn (S : Sto) (p : Nat × Nat) (s : XScope) : Prop where
  a : S[p.1]? = some (.lst (s.1.map zS))
  b : S[p.2]? = some (.lst (s.2.map zL))
theorem ScIn.vw {S : Sto} {p : Nat × Nat} {s : XScope} (h : ScIn S p s) : Vw S (scD p) (eSc s) := .t (.cons (.r h.a (Vws.map _ _)) (.cons (.r h.b (Vws.map _ _)) .nil))
theorem ScIn.lt1 {S : Sto} {p : Nat × Nat} {s : XScope} (h : ScIn S p s) : p.1 < S.length := (List.getElem?_eq_some_iff.mp h.a).1
theorem ScIn.lt2 {S : Sto} {p : Nat × Nat} {s : XScope} (h : ScIn S p s) : p.2 < S.length := (List.getElem?_eq_some_iff.mp h.b).1
inductive ScsIn (S : Sto) : List (Nat × Nat) → List XScope → Prop
  | nil : ScsIn S [] []
  | cons {p : Nat × Nat} {s : XScope} {ps : List (Nat × Nat)} {ss : List XScope} : ScIn S p s → ScsIn S ps ss → ScsIn S (p :: ps) (s :: ss)
section
variable {S : Sto} {n : Nat} {o : Ob}
theorem ScsIn.vws : ∀ {ps : List (Nat × Nat)} {ss : List XScope}, ScsIn S ps ss → Vws S (ps.map scD) (ss.map eSc)
  | [], _, h => by cases h; exact .nil
  | p :: ps, _, h => by cases h with | cons a b => exact .cons a.vw b.vws
theorem ScsIn.len : ∀ {ps : List (Nat × Nat)} {ss : List XScope}, ScsIn S ps ss → ps.length = ss.length
  | [], _, h => by cases h; rfl
  | p :: ps, _, h => by cases h with | cons a b => simp [ScsIn.len b]
theorem ScsIn.get : ∀ {ps : List (Nat × Nat)} {ss : List XScope} {i : Nat} {p : Nat × Nat}, ScsIn S ps ss → ps[i]? = some p → ∃ s, ss[i]? = some s ∧ ScIn S p s
  | [], _, _, _, h, e => by simp at e
  | p :: ps, _, 0, _, h, e => by cases h with | cons a b => simp at e; subst e; exact ⟨_, rfl, a⟩
  | p :: ps, _, i + 1, q, h, e => by
    cases h with
    | cons a b =>
      obtain ⟨s, h1, h2⟩ := ScsIn.get (i := i) (p := q) b (by simpa using e)
      exact ⟨s, by simpa using h1, h2⟩
theorem ScsIn.at {ps : List (Nat × Nat)} {ss : List XScope} {i : Nat} (h : ScsIn S ps ss) (hi : i < ss.length) : ∃ p s, ps[i]? = some p ∧ ss[i]? = some s ∧ ScIn S p s := by
  have hp : ps[i]? = some (ps[i]'(by rw [h.len]; exact hi)) := List.getElem?_eq_getElem _
  obtain ⟨s, h1, h2⟩ := h.get hp
  exact ⟨_, s, hp, h1, h2⟩
theorem ScsIn.lt : ∀ {ps : List (Nat × Nat)} {ss : List XScope}, ScsIn S ps ss → ∀ m ∈ plcs ps, m < S.length
  | [], _, _, m, hm => by cases hm
  | p :: ps, _, h, m, hm => by
    cases h with
    | cons a b =>
      have hm : m ∈ p.1 :: p.2 :: plcs ps := hm
      rcases List.mem_cons.mp hm with rfl | hm
      · exact a.lt1
      · rcases List.mem_cons.mp hm with rfl | hm
        · exact a.lt2
        · exact b.lt m hm
theorem ScsIn.sub {S' : Sto} : ∀ {ps : List (Nat × Nat)} {ss : List XScope}, ScsIn S ps ss → (∀ m ∈ plcs ps, ∀ o, S[m]? = some o → S'[m]? = some o) → ScsIn S' ps ss
  | [], _, h, _ => by cases h; exact .nil
  | p :: ps, _, h, k => by
    cases h with
    | cons a b =>
      have hm : ∀ m ∈ plcs ps, m ∈ plcs (p :: ps) := fun m hm => List.mem_cons_of_mem _ (List.mem_cons_of_mem _ hm)
      exact .cons ⟨k _ List.mem_cons_self _ a.a, k _ (List.mem_cons_of_mem _ List.mem_cons_self) _ a.b⟩ (ScsIn.sub b fun m h => k m (hm m h))
theorem ScsIn.app {T : Sto} {ps : List (Nat × Nat)} {ss : List XScope} (h : ScsIn S ps ss) : ScsIn (S ++ T) ps ss := h.sub fun _ _ _ => sto_app
theorem ScsIn.keep {ps : List (Nat × Nat)} {ss : List XScope} (h : ScsIn S ps ss) (hn : n ∉ plcs ps) : ScsIn (S.set n o) ps ss := h.sub fun m hm o e => by
  rw [List.getElem?_set_ne (fun z : n = m => hn (by rw [z]; exact hm))]; exact e
theorem ScsIn.snoc : ∀ {ps : List (Nat × Nat)} {ss : List XScope} {p : Nat × Nat} {s : XScope}, ScsIn S ps ss → ScIn S p s → ScsIn S (ps ++ [p]) (ss ++ [s])
  | [], _, _, _, h, k => by cases h; exact .cons k .nil
  | p :: ps, _, _, _, h, k => by cases h with | cons a b => exact .cons a (ScsIn.snoc b k)
theorem mem_plcs {ps : List (Nat × Nat)} {p : Nat × Nat} (h : p ∈ ps) : p.1 ∈ plcs ps ∧ p.2 ∈ plcs ps := ⟨List.mem_flatMap.mpr ⟨p, h, by simp⟩, List.mem_flatMap.mpr ⟨p, h, by simp⟩⟩
theorem ScsIn.put1 {xs : List XStep} : ∀ {ps : List (Nat × Nat)} {ss : List XScope} {i : Nat} {p : Nat × Nat} {s : XScope}, ScsIn S ps ss → (plcs ps).Nodup → ps[i]? = some p → ss[i]? = some s → ScsIn (S.set p.1 (.lst (xs.map zS))) ps (ss.set i (xs, s.2))
  | [], _, _, _, _, h, _, e, _ => by simp at e
  | p :: ps, _, 0, q, s, h, nd, e, e2 => by
    cases h with
    | cons a b =>
      simp at e e2
      subst e; subst e2
      have nd2 : (p.1 :: p.2 :: plcs ps).Nodup := nd
      have h12 : p.1 ≠ p.2 := fun z => by rw [z] at nd2; simp at nd2
      have h3 : p.1 ∉ plcs ps := fun z => (List.nodup_cons.mp nd2).1 (List.mem_cons_of_mem _ z)
      exact .cons ⟨by rw [List.getElem?_set_self a.lt1], by rw [List.getElem?_set_ne h12]; exact a.b⟩ (b.keep h3)
  | p :: ps, _, i + 1, q, s, h, nd, e, e2 => by
    cases h with
    | cons a b =>
      have nd2 : (p.1 :: p.2 :: plcs ps).Nodup := nd
      have hq1 := (mem_plcs (List.mem_of_getElem? (i := i) (show ps[i]? = some q by simpa using e))).1
      have h1 := (List.nodup_cons.mp nd2).1
      have h2 := (List.nodup_cons.mp (List.nodup_cons.mp nd2).2).1
      have n1 : q.1 ≠ p.1 := fun z => h1 (by rw [← z]; exact List.mem_cons_of_mem _ hq1)
      have n2 : q.1 ≠ p.2 := fun z => h2 (by rw [← z]; exact hq1)
      exact .cons ⟨by rw [List.getElem?_set_ne n1]; exact a.a, by rw [List.getElem?_set_ne n2]; exact a.b⟩ (ScsIn.put1 b (List.nodup_cons.mp (List.nodup_cons.mp nd2).2).2 (by simpa using e) (by simpa using e2))
theorem ScsIn.put2 {xs : List XTell} : ∀ {ps : List (Nat × Nat)} {ss : List XScope} {i : Nat} {p : Nat × Nat} {s : XScope}, ScsIn S ps ss → (plcs ps).Nodup → ps[i]? = some p → ss[i]? = some s → ScsIn (S.set p.2 (.lst (xs.map zL))) ps (ss.set i (s.1, xs))
  | [], _, _, _, _, h, _, e, _ => by simp at e
  | p :: ps, _, 0, q, s, h, nd, e, e2 => by
    cases h with
    | cons a b =>
      simp at e e2
      subst e; subst e2
      have nd2 : (p.1 :: p.2 :: plcs ps).Nodup := nd
      have h12 : p.2 ≠ p.1 := fun z => by rw [z] at nd2; simp at nd2
      have h3 : p.2 ∉ plcs ps := (List.nodup_cons.mp (List.nodup_cons.mp nd2).2).1
      exact .cons ⟨by rw [List.getElem?_set_ne h12]; exact a.a, by rw [List.getElem?_set_self a.lt2]⟩ (b.keep h3)
  | p :: ps, _, i + 1, q, s, h, nd, e, e2 => by
    cases h with
    | cons a b =>
      have nd2 : (p.1 :: p.2 :: plcs ps).Nodup := nd
      have hq1 := (mem_plcs (List.mem_of_getElem? (i := i) (show ps[i]? = some q by simpa using e))).2
      have h1 := (List.nodup_cons.mp nd2).1
      have h2 := (List.nodup_cons.mp (List.nodup_cons.mp nd2).2).1
      have n1 : q.2 ≠ p.1 := fun z => h1 (by rw [← z]; exact List.mem_cons_of_mem _ hq1)
      have n2 : q.2 ≠ p.2 := fun z => h2 (by rw [← z]; exact hq1)
      exact .cons ⟨by rw [List.getElem?_set_ne n1]; exact a.a, by rw [List.getElem?_set_ne n2]; exact a.b⟩ (ScsIn.put2 b (List.nodup_cons.mp (List.nodup_cons.mp nd2).2).2 (by simpa using e) (by simpa using e2))
end
/-- a whole net: the places of its three lists, of its scopes' lists; all of them different -/
structure NetAt (S : Sto) (n0 n1 n2 : Nat) (ps : List (Nat × Nat)) (n : XNet) : Prop where
  l : S[n0]? = some (.lst (ps.map scD))
  i : ScsIn S ps n.scopes
  t : S[n1]? = some (.lst (n.things.map zT))
  q : S[n2]? = some (.lst (n.quests.map zQ))
  nd : (n0 :: n1 :: n2 :: plcs ps).Nodup
section
variable {S : Sto} {n0 n1 n2 : Nat} {ps : List (Nat × Nat)} {n : XNet}
abbrev nPl (n0 n1 n2 : Nat) (ps : List (Nat × Nat)) : List Nat := n0 :: n1 :: n2 :: plcs ps
theorem NetAt.vw (h : NetAt S n0 n1 n2 ps n) : Vw S (.t [.r n0, .r n1, .r n2]) (eN n) := .t (.cons (.r h.l h.i.vws) (.cons (.r h.t (Vws.map _ _)) (.cons (.r h.q (Vws.map _ _)) .nil)))
theorem NetAt.sub {S' : Sto} (h : NetAt S n0 n1 n2 ps n) (k : ∀ m ∈ nPl n0 n1 n2 ps, ∀ o, S[m]? = some o → S'[m]? = some o) : NetAt S' n0 n1 n2 ps n :=
  ⟨k _ (by simp) _ h.l, h.i.sub fun m hm => k m (by simp [hm]), k _ (by simp) _ h.t, k _ (by simp) _ h.q, h.nd⟩
theorem NetAt.app {T : Sto} (h : NetAt S n0 n1 n2 ps n) : NetAt (S ++ T) n0 n1 n2 ps n := h.sub fun _ _ _ => sto_app
theorem NetAt.keep {U : List Nat} {S' : Sto} (h : NetAt S n0 n1 n2 ps n) (k : Keep U S S') (d : ∀ m ∈ U, m ∉ nPl n0 n1 n2 ps) : NetAt S' n0 n1 n2 ps n := h.sub fun m hm o e => k m o (fun z => d m z hm) e
theorem NetAt.lt (h : NetAt S n0 n1 n2 ps n) : ∀ m ∈ nPl n0 n1 n2 ps, m < S.length := fun m hm => by
  rcases List.mem_cons.mp hm with rfl | hm
  · exact (List.getElem?_eq_some_iff.mp h.l).1
  rcases List.mem_cons.mp hm with rfl | hm
  · exact (List.getElem?_eq_some_iff.mp h.t).1
  rcases List.mem_cons.mp hm with rfl | hm
  · exact (List.getElem?_eq_some_iff.mp h.q).1
  · exact h.i.lt m hm
theorem NetAt.nds (h : NetAt S n0 n1 n2 ps n) : n0 ≠ n1 ∧ n0 ≠ n2 ∧ n1 ≠ n2 ∧ n0 ∉ plcs ps ∧ n1 ∉ plcs ps ∧ n2 ∉ plcs ps ∧ (plcs ps).Nodup := by
  have a := List.nodup_cons.mp h.nd
  have b := List.nodup_cons.mp a.2
  have c := List.nodup_cons.mp b.2
  refine ⟨fun z => a.1 (by simp [z]), fun z => a.1 (by simp [z]), fun z => b.1 (by simp [z]), fun z => a.1 (by simp [z]), fun z => b.1 (by simp [z]), c.1, c.2⟩
theorem NetAt.put1 {i : Nat} {p : Nat × Nat} {s : XScope} {xs : List XStep} (h : NetAt S n0 n1 n2 ps n) (e : ps[i]? = some p) (e2 : n.scopes[i]? = some s) : NetAt (S.set p.1 (.lst (xs.map zS))) n0 n1 n2 ps ⟨n.scopes.set i (xs, s.2), n.things, n.quests⟩ := by
  obtain ⟨_, _, _, a, b, c, d⟩ := h.nds
  have hm := (mem_plcs (List.mem_of_getElem? e)).1
  exact ⟨by rw [List.getElem?_set_ne (fun z => a (by rw [← z]; exact hm))]; exact h.l, h.i.put1 d e e2, by rw [List.getElem?_set_ne (fun z => b (by rw [← z]; exact hm))]; exact h.t, by rw [List.getElem?_set_ne (fun z => c (by rw [← z]; exact hm))]; exact h.q, h.nd⟩
theorem NetAt.put2 {i : Nat} {p : Nat × Nat} {s : XScope} {xs : List XTell} (h : NetAt S n0 n1 n2 ps n) (e : ps[i]? = some p) (e2 : n.scopes[i]? = some s) : NetAt (S.set p.2 (.lst (xs.map zL))) n0 n1 n2 ps ⟨n.scopes.set i (s.1, xs), n.things, n.quests⟩ := by
  obtain ⟨_, _, _, a, b, c, d⟩ := h.nds
  have hm := (mem_plcs (List.mem_of_getElem? e)).2
  exact ⟨by rw [List.getElem?_set_ne (fun z => a (by rw [← z]; exact hm))]; exact h.l, h.i.put2 d e e2, by rw [List.getElem?_set_ne (fun z => b (by rw [← z]; exact hm))]; exact h.t, by rw [List.getElem?_set_ne (fun z => c (by rw [← z]; exact hm))]; exact h.q, h.nd⟩
theorem NetAt.putT {xs : List XThing} (h : NetAt S n0 n1 n2 ps n) : NetAt (S.set n1 (.lst (xs.map zT))) n0 n1 n2 ps ⟨n.scopes, xs, n.quests⟩ := by
  obtain ⟨h01, h02, h12, a, b, c, d⟩ := h.nds
  exact ⟨by rw [List.getElem?_set_ne h01.symm]; exact h.l, h.i.keep b, by rw [List.getElem?_set_self (h.lt n1 (by simp))], by rw [List.getElem?_set_ne h12]; exact h.q, h.nd⟩
theorem NetAt.putQ {xs : List XQuest} (h : NetAt S n0 n1 n2 ps n) : NetAt (S.set n2 (.lst (xs.map zQ))) n0 n1 n2 ps ⟨n.scopes, n.things, xs⟩ := by
  obtain ⟨h01, h02, h12, a, b, c, d⟩ := h.nds
  exact ⟨by rw [List.getElem?_set_ne h02.symm]; exact h.l, h.i.keep c, by rw [List.getElem?_set_ne h12.symm]; exact h.t, by rw [List.getElem?_set_self (h.lt n2 (by simp))], h.nd⟩
theorem plcs_app (a b : List (Nat × Nat)) : plcs (a ++ b) = plcs a ++ plcs b := List.flatMap_append
/-- a scope more, its lists just made -/
theorem NetAt.more {s : XScope} {T : Sto} (h : NetAt S n0 n1 n2 ps n) : NetAt ((S ++ (.lst (s.1.map zS) :: .lst (s.2.map zL) :: T)).set n0 (.lst ((ps ++ [(S.length, S.length + 1)]).map scD))) n0 n1 n2 (ps ++ [(S.length, S.length + 1)]) ⟨n.scopes ++ [s], n.things, n.quests⟩ := by
  obtain ⟨h01, h02, h12, a, b, c, d⟩ := h.nds
  have hlt := h.lt
  have hn0 : n0 < S.length := hlt n0 (by simp)
  have g : ∀ (m : Nat) (o : Ob), m ≠ n0 → (S ++ (.lst (s.1.map zS) :: .lst (s.2.map zL) :: T))[m]? = some o → ((S ++ (.lst (s.1.map zS) :: .lst (s.2.map zL) :: T)).set n0 (.lst ((ps ++ [(S.length, S.length + 1)]).map scD)))[m]? = some o := fun m o hm e => by
    rw [List.getElem?_set_ne hm.symm]; exact e
  refine ⟨by rw [List.getElem?_set_self (by rw [List.length_append]; omega)], ScsIn.snoc (h.i.sub fun m hm o e => g m o (fun z => a (by rw [← z]; exact hm)) (sto_app e)) ⟨g _ _ (Nat.ne_of_gt hn0) (by simp), g _ _ (Nat.ne_of_gt (Nat.lt_succ_of_lt hn0)) sto_r1⟩, g _ _ h01.symm (sto_app h.t), g _ _ h02.symm (sto_app h.q), ?_⟩
  rw [plcs_app]
  have e : n0 :: n1 :: n2 :: (plcs ps ++ plcs [(S.length, S.length + 1)]) = (n0 :: n1 :: n2 :: plcs ps) ++ [S.length, S.length + 1] := rfl
  rw [e, List.nodup_append]
  refine ⟨h.nd, by simp, fun x hx y hy => ?_⟩
  have := hlt x hx
  simp at hy
  omega
end
end NE

set_option Elab.async false
set_option linter.all false
set_option maxRecDepth 100000
/-! NE, part 2: nets made, copied, handed back -/
namespace NE
open PySem L2 PL
open ND (cutL_map cutL_len cutL_mem bz_ints LwN isNm alpha alpha_eq alpha_at getA ixD_zA ixD_bA app_list one_len)

def cps (ss : List XScope) : Sto := ss.flatMap fun s => [.lst (s.1.map zS), .lst (s.2.map zL)]
def emp (L n : Nat) : List (Nat × Nat) := (List.range n).map fun k => (L + 2 * k, L + 2 * k + 1)
def noSc : XScope := ([], [])
theorem emp_len (L n : Nat) : (emp L n).length = n := by unfold emp; rw [List.length_map, List.length_range]
theorem emp_snoc (L n : Nat) : emp L (n + 1) = emp L n ++ [(L + 2 * n, L + 2 * n + 1)] := by unfold emp; rw [range_snoc]
theorem cps_app (a b : List XScope) : cps (a ++ b) = cps a ++ cps b := List.flatMap_append
theorem cps_len (ss : List XScope) : (cps ss).length = 2 * ss.length := by
  induction ss with
  | nil => rfl
  | cons s ss ih =>
    show ([_, _] ++ cps ss).length = _
    rw [List.length_append, ih, List.length_cons]
    simp; omega
theorem cps_in {S T : Sto} {L : Nat} (hL : S.length = L) (ss : List XScope) : ScsIn (S ++ (cps ss ++ T)) (emp L ss.length) ss := by
  have go : ∀ (n : Nat) (ss : List XScope), ss.length = n → ∀ T, ScsIn (S ++ (cps ss ++ T)) (emp L ss.length) ss := by
    intro n
    induction n with
    | zero => intro ss h T; cases ss with | nil => exact .nil | cons _ _ => simp at h
    | succ n ih =>
      intro ss h T
      obtain ⟨ini, s, rfl⟩ : ∃ ini s, ss = ini ++ [s] := ⟨ss.dropLast, ss.getLast (by intro e; rw [e] at h; simp at h), (List.dropLast_concat_getLast _).symm⟩
      have hi : ini.length = n := by simp at h; exact h
      have hc := cps_len ini
      rw [List.length_append, List.length_singleton, emp_snoc, cps_app, List.append_assoc]
      refine (ih ini hi (cps [s] ++ T)).snoc ⟨?_, ?_⟩
      · show (S ++ _)[L + 2 * ini.length]? = _
        rw [List.getElem?_append_right (by omega), List.getElem?_append_right (by omega), show L + 2 * ini.length - S.length - (cps ini).length = 0 by omega]; rfl
      · show (S ++ _)[L + 2 * ini.length + 1]? = _
        rw [List.getElem?_append_right (by omega), List.getElem?_append_right (by omega), show L + 2 * ini.length + 1 - S.length - (cps ini).length = 1 by omega]; rfl
  exact go _ ss rfl T
theorem emp_plcs (L n : Nat) : (∀ m ∈ plcs (emp L n), L ≤ m ∧ m < L + 2 * n) ∧ (plcs (emp L n)).Nodup := by
  induction n with
  | zero => exact ⟨fun m h => (by cases h), List.nodup_nil⟩
  | succ n ih =>
    rw [emp_snoc, plcs_app]
    have e : plcs [(L + 2 * n, L + 2 * n + 1)] = [L + 2 * n, L + 2 * n + 1] := rfl
    rw [e]
    refine ⟨fun m hm => ?_, ?_⟩
    · rcases List.mem_append.mp hm with h | h
      · have := ih.1 m h; omega
      · simp at h; omega
    · rw [List.nodup_append]
      refine ⟨ih.2, by simp, fun a ha b hb => ?_⟩
      have := ih.1 a ha
      simp at hb; omega
/-! comprehensions -/
abbrev weEmp : WE := wTup (wCons (wLst wNil) (wCons (wLst wNil) wNil))
/-- [([], []) for .. in range(n)] -/
theorem pLc_emp {lo : Int} {n : Nat} {i : Nat} {env : PL.Env} {fin : Sto → Prop} {S : Sto} (hz : n < 1000000) (hf : fin (S ++ .lst ((emp (S.length + 1) n).map scD) :: cps (List.replicate n noSc))) :
    pLc (rgD lo n) (tgN i) wYes weEmp S.length env fin (rgD lo n).items (S ++ [.lst []]) := by
  have hl : (rgD lo n).items.length = n := by simp [rgD]
  refine pLc_each (fun j S' => j ≤ n ∧ S' = S ++ .lst ((emp (S.length + 1) j).map scD) :: cps (List.replicate j noSc)) ⟨Nat.zero_le _, rfl⟩ (fun _ _ _ _ => trivial) ?_ ?_
  · rintro j d _ Q hj ⟨hj2, rfl⟩ hQ
    have hlt : j < n := by rw [← hl]; exact (List.getElem?_eq_some_iff.mp hj).1
    have hcl := cps_len (List.replicate j noSc)
    rw [List.length_replicate] at hcl
    refine pGet.mk rfl ?_
    refine pIf.tt rfl ?_
    refine pReq.mk (sz_le rfl) ?_
    refine pReq.mk (sz_le rfl) ?_
    refine pReq.mk (sz_le rfl) ?_
    refine pGet.mk (x := (emp (S.length + 1) j).map scD) ?_ (pReq.mk ?_ ?_)
    · rw [List.append_assoc, List.append_assoc]
      exact lsR_at (List.getElem?_append_right (Nat.le_refl _) |>.trans (by rw [Nat.sub_self]; rfl))
    · rw [List.length_map, emp_len]
      exact sz_lt6 (by omega)
    · refine hQ _ ⟨hlt, ?_⟩
      rw [List.append_assoc, List.append_assoc, List.set_append_right _ _ (Nat.le_refl _), Nat.sub_self]
      have e2 : cps (List.replicate (j + 1) noSc) = cps (List.replicate j noSc) ++ [.lst [], .lst []] := by
        rw [List.replicate_succ', cps_app]; rfl
      rw [emp_snoc, e2, List.map_append]
      have e3 : (S ++ Ob.lst ((emp (S.length + 1) j).map scD) :: cps (List.replicate j noSc)).length = S.length + 1 + 2 * j := by rw [List.length_append, List.length_cons, hcl]; omega
      have e4 : ((S ++ Ob.lst ((emp (S.length + 1) j).map scD) :: cps (List.replicate j noSc)) ++ [Ob.lst []]).length = S.length + 1 + 2 * j + 1 := by rw [List.length_append, e3]; rfl
      show S ++ (Ob.lst (_ ++ [D.t [.r _, .r _]]) :: _) = _
      rw [e3, e4]
      rfl
  · rintro S' ⟨_, rfl⟩
    rw [hl]
    exact hf
abbrev weCopy (a b : Nat) : WE := wTup (wCons (wCall pList (wCons (wVar a) wNil)) (wCons (wCall pList (wCons (wVar b) wNil)) wNil))
/-- an item that is seen as a scope -/
def SeenSc (S : Sto) (d : D) (s : XScope) : Prop := ∃ x y, tpD d = some [x, y] ∧ ∀ T, sqD (S ++ T) x = some (s.1.map zS) ∧ sqD (S ++ T) y = some (s.2.map zL)
theorem ScIn.seen {S : Sto} {p : Nat × Nat} {s : XScope} (h : ScIn S p s) : SeenSc S (scD p) s := ⟨_, _, rfl, fun T => ⟨sqD_at (sto_app h.a), sqD_at (sto_app h.b)⟩⟩
theorem seen_b {S : Sto} (s : XScope) : SeenSc S (bz (eSc s)) s := by
  rw [bzSc]
  refine ⟨.b (.list (s.1.map eS)), .b (.list (s.2.map eL)), ?_, fun T => ⟨?_, ?_⟩⟩
  · show some ([PyData.list _, PyData.list _].map bz) = _
    rw [List.map_cons, List.map_cons, bz_list, bz_list]; rfl
  · show some ((s.1.map eS).map bz) = _
    rw [bzsS]
  · show some ((s.2.map eL).map bz) = _
    rw [bzsL]
theorem wVar_at {i : Nat} {env : PL.Env} {S : Sto} {K : K1} {KX : KX} {d : D} (h : env[i]? = some (some d)) (k : K d S) : wVar i env S K KX := by
  unfold wVar; rw [h]; exact k
/-- [(list(a), list(b)) for a, b in ..] -/
theorem pLc_copy {src : Src} {ss : List XScope} {a b : Nat} {env : PL.Env} {fin : Sto → Prop} {S : Sto} (hz : ss.length < 1000000) (hlen : src.items.length = ss.length) (hok : ∀ acc T, src.ok (S ++ (.lst acc :: T)))
    (hit : ∀ (i : Nat) (d : D) (s : XScope), src.items[i]? = some d → ss[i]? = some s → SeenSc S d s) (ha : ∀ x y, ((env.set a (some x)).set b (some y))[a]? = some (some x)) (hb : ∀ x y, ((env.set a (some x)).set b (some y))[b]? = some (some y))
    (hf : fin (S ++ .lst ((emp (S.length + 1) ss.length).map scD) :: cps ss)) : pLc src (tgT [a, b]) wYes (weCopy a b) S.length env fin src.items (S ++ [.lst []]) := by
  refine pLc_each (fun j S' => j ≤ ss.length ∧ S' = S ++ .lst ((emp (S.length + 1) j).map scD) :: cps (ss.take j)) ⟨Nat.zero_le _, rfl⟩ ?_ ?_ ?_
  · rintro j _ _ ⟨_, rfl⟩
    exact hok _ _
  · rintro j d _ Q hj ⟨_, rfl⟩ hQ
    have hlt : j < ss.length := by rw [← hlen]; exact (List.getElem?_eq_some_iff.mp hj).1
    have hs := List.getElem?_eq_getElem hlt
    obtain ⟨x, y, htp, hxy⟩ := hit j d _ hj hs
    have htl : (ss.take j).length = j := by rw [List.length_take]; omega
    have hcl := cps_len (ss.take j)
    rw [htl] at hcl
    generalize ss[j] = s at hs hxy
    refine pGet.mk (x := (env.set a (some x)).set b (some y)) (by unfold tgT; rw [htp]; rfl) ?_
    refine pIf.tt rfl ?_
    have e3 : (S ++ Ob.lst ((emp (S.length + 1) j).map scD) :: cps (ss.take j)).length = S.length + 1 + 2 * j := by rw [List.length_append, List.length_cons, hcl]; omega
    have hx := (hxy (Ob.lst ((emp (S.length + 1) j).map scD) :: cps (ss.take j))).1
    have hy := (hxy (Ob.lst ((emp (S.length + 1) j).map scD) :: (cps (ss.take j) ++ [.lst (s.1.map zS)]))).2
    dsimp only [weCopy, wTup, wCons, wCall, wNil, pList]
    refine wVar_at (ha _ _) ?_
    refine pGet.mk hx ?_
    try dsimp only
    refine wVar_at (hb _ _) ?_
    rw [List.append_assoc]
    refine pGet.mk hy ?_
    refine pReq.mk (sz_le rfl) ?_
    refine pGet.mk (x := (emp (S.length + 1) j).map scD) ?_ (pReq.mk ?_ ?_)
    · rw [List.append_assoc]
      exact lsR_at (List.getElem?_append_right (Nat.le_refl _) |>.trans (by rw [Nat.sub_self]; rfl))
    · rw [List.length_map, emp_len]
      exact sz_lt6 (by omega)
    · refine hQ _ ⟨hlt, ?_⟩
      rw [List.append_assoc, List.set_append_right _ _ (Nat.le_refl _), Nat.sub_self]
      have e2 : cps (ss.take (j + 1)) = cps (ss.take j) ++ [.lst (s.1.map zS), .lst (s.2.map zL)] := by
        rw [List.take_add_one, hs, cps_app]; rfl
      rw [emp_snoc, e2, List.map_append]
      have e4 : (S ++ (Ob.lst ((emp (S.length + 1) j).map scD) :: cps (ss.take j) ++ [Ob.lst (s.1.map zS)])).length = S.length + 1 + 2 * j + 1 := by
        rw [← List.append_assoc, List.length_append, e3]; rfl
      show S ++ (Ob.lst (_ ++ [D.t [.r _, .r _]]) :: _) = _
      rw [e3, e4]
      generalize cps (ss.take j) = C
      have e5 : ∀ A B : Ob, (C ++ [A]) ++ [B] = C ++ [A, B] := fun A B => by rw [List.append_assoc]; rfl
      exact congrArg (fun Z => S ++ Ob.lst _ :: Z) (e5 _ _)
  · rintro S' ⟨_, rfl⟩
    rw [hlen, List.take_length]
    exact hf
/-! handed back -/
def rSc (s : XScope) : RT := .t [lz eS s.1, lz eL s.2]
def rN (n : XNet) : RT := .t [.l (n.scopes.map rSc), lz eT n.things, lz eQ n.quests]
theorem al_sc (s : XScope) (n : Nat) : al (rSc s) n = (scD (n, n + 1), [.lst (s.1.map zS), .lst (s.2.map zL)]) := by
  unfold rSc al
  simp only [als, al_lz]
  rfl
theorem als_scs : ∀ (ss : List XScope) (n : Nat), als (ss.map rSc) n = ((emp n ss.length).map scD, cps ss)
  | [], n => by unfold als; rfl
  | s :: ss, n => by
    rw [List.map_cons]
    unfold als
    rw [al_sc, als_scs ss]
    have e : emp n (s :: ss).length = (n, n + 1) :: emp (n + 2) ss.length := by
      unfold emp
      rw [List.length_cons, List.range_succ_eq_map, List.map_cons, List.map_map]
      congr 1
      refine List.map_congr_left fun k _ => ?_
      simp; omega
    rw [e]
    rfl
theorem al_net (n : XNet) (L : Nat) : al (rN n) L = (.t [.r (L + 2 * n.scopes.length), .r (L + 2 * n.scopes.length + 1), .r (L + 2 * n.scopes.length + 2)],
    cps n.scopes ++ [.lst ((emp L n.scopes.length).map scD), .lst (n.things.map zT), .lst (n.quests.map zQ)]) := by
  unfold rN al
  simp only [als, al, als_scs, al_lz, cps_len, List.length_append, List.length_cons, List.length_nil, List.append_nil, List.append_assoc]
  rfl
/-- a call that hands back a net: where it stands then -/
theorem al_at (S : Sto) (n : XNet) : NetAt (S ++ (al (rN n) S.length).2) (S.length + 2 * n.scopes.length) (S.length + 2 * n.scopes.length + 1) (S.length + 2 * n.scopes.length + 2) (emp S.length n.scopes.length) n := by
  rw [al_net]
  have hc := cps_len n.scopes
  have hl : (S ++ cps n.scopes).length = S.length + 2 * n.scopes.length := by rw [List.length_append, hc]
  have hp := emp_plcs S.length n.scopes.length
  refine ⟨?_, cps_in rfl _, ?_, ?_, ?_⟩
  · rw [← List.append_assoc, ← hl]; simp
  · rw [← List.append_assoc, ← hl]; exact sto_r1
  · rw [← List.append_assoc, ← hl]; exact sto_r2
  · have h1 : ∀ m, S.length + 2 * n.scopes.length ≤ m → m ∉ plcs (emp S.length n.scopes.length) := fun m hm z => by have := hp.1 m z; omega
    refine List.nodup_cons.mpr ⟨?_, List.nodup_cons.mpr ⟨?_, List.nodup_cons.mpr ⟨h1 _ (by omega), hp.2⟩⟩⟩
    · simp only [List.mem_cons, not_or]
      exact ⟨by omega, by omega, h1 _ (by omega)⟩
    · simp only [List.mem_cons, not_or]
      exact ⟨by omega, h1 _ (by omega)⟩
theorem VRs.scs {S : Sto} {U : List Nat} : ∀ {ps : List (Nat × Nat)} {ss : List XScope}, ScsIn S ps ss → VRs S U (ps.map scD) (ss.map rSc) (plcs ps)
  | [], _, h => by cases h; exact .nil
  | p :: ps, _, h => by
    cases h with
    | cons a b =>
      refine .cons (ns := [p.1, p.2]) (.t ?_) (VRs.scs b)
      exact .cons (ns := [p.1]) (.l (ns := []) a.a (VRs.zs _ _)) (.cons (ns := [p.2]) (ms := []) (.l (ns := []) a.b (VRs.zs _ _)) .nil)
/-- the net is what is handed back -/
theorem NetAt.vr {S : Sto} {n0 n1 n2 : Nat} {ps : List (Nat × Nat)} {n : XNet} (h : NetAt S n0 n1 n2 ps n) : ∃ U, VR S U (.t [.r n0, .r n1, .r n2]) (rN n) U ∧ U.Nodup := by
  refine ⟨(plcs ps ++ [n0]) ++ ([n1] ++ ([n2] ++ [])), .t (.cons (.l h.l (VRs.scs h.i)) (.cons (.l (ns := []) h.t (VRs.zs _ _)) (.cons (.l (ns := []) h.q (VRs.zs _ _)) .nil))), ?_⟩
  have := h.nd
  have e : (n0 :: n1 :: n2 :: plcs ps) = [n0, n1, n2] ++ plcs ps := rfl
  rw [e] at this
  have p : ((plcs ps ++ [n0]) ++ ([n1] ++ ([n2] ++ []))).Perm ([n0, n1, n2] ++ plcs ps) := by
    rw [List.append_assoc]
    exact List.perm_append_comm
  exact p.nodup_iff.mpr this
/-- from lists of its own -/
theorem netAt_mk {S : Sto} {n0 n1 n2 : Nat} {ps : List (Nat × Nat)} {n : XNet} (l : S[n0]? = some (.lst (ps.map scD))) (i : ScsIn S ps n.scopes) (t : S[n1]? = some (.lst (n.things.map zT))) (q : S[n2]? = some (.lst (n.quests.map zQ))) (nd : (n0 :: n1 :: n2 :: plcs ps).Nodup) : NetAt S n0 n1 n2 ps n := ⟨l, i, t, q, nd⟩
/-! shapes -/
def strOks (n : XNet) : Prop := (∀ s ∈ n.scopes, (∀ x ∈ s.1, PyData.strOk x.lab = true ∧ PyData.strOk x.kind = true) ∧ ∀ x ∈ s.2, PyData.strOk x.lab = true ∧ PyData.strOk x.name = true ∧ PyData.strOk x.kind = true) ∧ (∀ t ∈ n.things, PyData.strOk t.kind = true) ∧ ∀ q ∈ n.quests, ∀ x ∈ q.path, PyData.strOk x = true
theorem shSc {s : XScope} (h : (∀ x ∈ s.1, PyData.strOk x.lab = true ∧ PyData.strOk x.kind = true) ∧ ∀ x ∈ s.2, PyData.strOk x.lab = true ∧ PyData.strOk x.name = true ∧ PyData.strOk x.kind = true) : Shp 3 (eSc s) :=
  .tup2 (.lists fun x hx => .tup3 (.str (h.1 x hx).1) (.str (h.1 x hx).2) .int) (.lists fun x hx => .tup4 (.str (h.2 x hx).1) (.str (h.2 x hx).2.1) (.str (h.2 x hx).2.2) .int)
theorem shN {n : XNet} (h : strOks n) : Shp 5 (eN n) := .tup3 (.lists fun s hs => shSc (h.1 s hs)) (.mono (.lists fun t ht => .tup2 (n := 0) (.str (h.2.1 t ht)) .int) (by decide))
  (.mono (.lists fun q hq => .tup3 (n := 1) .int .int (.tuple fun d hd => by
    obtain ⟨x, hx, rfl⟩ := List.mem_map.mp hd
    exact .str (h.2.2 q hq x hx))) (by decide))
end NE

set_option Elab.async false
set_option linter.all false
set_option maxRecDepth 100000
/-! NE, part 3: calls that hand back nets -/
namespace PL
open PySem L2
mutual
theorem Vz.of_z {S' : Sto} : ∀ (e : PyData) (d : D), Vz [] d e → Vz S' d e
  | .none, _, h => by cases h; exact .z
  | .bool _, _, h => by cases h; exact .z
  | .int _, _, h => by cases h; exact .z
  | .str _, _, h => by cases h; exact .z
  | .dict _, _, h => by cases h; exact .z
  | .list es, _, h => by
    cases h with
    | z => exact .z
    | r e ws => simp at e
  | .tuple es, _, h => by
    cases h with
    | z => exact .z
    | t ws => exact .t (Vzs.of_z0 es _ ws)
theorem Vzs.of_z0 {S' : Sto} : ∀ (es : List PyData) (ds : List D), Vzs [] ds es → Vzs S' ds es
  | [], _, h => by cases h; exact .nil
  | e :: es, _, h => by cases h with | cons a b => exact .cons (Vz.of_z e _ a) (Vzs.of_z0 es _ b)
end
theorem Vzs.of_z {S' : Sto} {es : List PyData} {ds : List D} (h : Vzs [] ds es) : Vzs S' ds es := Vzs.of_z0 es ds h
end PL
namespace NE
open PySem L2 PL
abbrev lSc (n : XNet) : PyData := .list (n.scopes.map eSc)
abbrev lTh (n : XNet) : PyData := .list (n.things.map eT)
abbrev lQu (n : XNet) : PyData := .list (n.quests.map eQ)
theorem bz_scs (n : XNet) : (n.scopes.map eSc).map bz = n.scopes.map fun s => bz (eSc s) := List.map_map
theorem al_ge {S : Sto} {n : XNet} : ∀ m ∈ nPl (S.length + 2 * n.scopes.length) (S.length + 2 * n.scopes.length + 1) (S.length + 2 * n.scopes.length + 2) (emp S.length n.scopes.length), S.length ≤ m := by
  intro m hm
  have := emp_plcs S.length n.scopes.length
  simp only [nPl, List.mem_cons] at hm
  rcases hm with rfl | rfl | rfl | hm
  · omega
  · omega
  · omega
  · exact (this.1 m hm).1
theorem net_call {K : K1} {S : Sto} {n : XNet} (h : ∀ (S1 : Sto) (a b c : Nat) (ps : List (Nat × Nat)), NetAt S1 a b c ps n → Keep [] S S1 → (∀ m ∈ nPl a b c ps, S.length ≤ m) → K (.t [.r a, .r b, .r c]) S1) : K (al (rN n) S.length).1 (S ++ (al (rN n) S.length).2) := by
  have hA := al_at S n
  have e : (al (rN n) S.length).1 = .t [.r (S.length + 2 * n.scopes.length), .r (S.length + 2 * n.scopes.length + 1), .r (S.length + 2 * n.scopes.length + 2)] := by rw [al_net]
  rw [e]
  exact h _ _ _ _ _ hA Keep.app al_ge
theorem args3 {S : Sto} {a b c : Nat} {ps : List (Nat × Nat)} {n : XNet} (h : NetAt S a b c ps n) : Vws S [.r a, .r b, .r c] [lSc n, lTh n, lQu n] := .cons (.r h.l h.i.vws) (.cons (.r h.t (Vws.map _ _)) (.cons (.r h.q (Vws.map _ _)) .nil))
theorem NetAt.all {S S' : Sto} {a b c : Nat} {ps : List (Nat × Nat)} {n : XNet} (h : NetAt S a b c ps n) (k : Keep [] S S') : NetAt S' a b c ps n := h.keep k fun m hm => by cases hm
/-- the older net is not in the way -/
theorem NetAt.apart {S S' : Sto} {a b c a' b' c' : Nat} {ps ps' : List (Nat × Nat)} {n : XNet} (h : NetAt S a b c ps n) (k : Keep (nPl a' b' c' ps') S S') (d : ∀ m ∈ nPl a b c ps, ∀ m' ∈ nPl a' b' c' ps', m ≠ m') : NetAt S' a b c ps n := h.keep k fun m hm z => d m z m hm rfl
theorem netq_call {α : Type} {enc : α → List PyData} {pre : α → Prop} {post : α → XNet → Prop} {ds : List D} {S : Sto} {K : K1} {KX : KF} (a : α) (v : Vws S ds (enc a)) (hp : pre a)
    (h : ∀ n, post a n → ∀ (S1 : Sto) (a b c : Nat) (ps : List (Nat × Nat)), NetAt S1 a b c ps n → Keep [] S S1 → (∀ m ∈ nPl a b c ps, S.length ≤ m) → K (.t [.r a, .r b, .r c]) S1) : pCall (frr (fsrq enc pre post rN)) ds S K KX := fsrq_call a v hp fun n hn => net_call (h n hn)
theorem netr_call {α : Type} {enc : α → List PyData} {pre : α → Prop} {out : α → XNet} {ds : List D} {S : Sto} {K : K1} {KX : KF} (a : α) (v : Vws S ds (enc a)) (hp : pre a)
    (h : ∀ (S1 : Sto) (x b c : Nat) (ps : List (Nat × Nat)), NetAt S1 x b c ps (out a) → Keep [] S S1 → (∀ m ∈ nPl x b c ps, S.length ≤ m) → K (.t [.r x, .r b, .r c]) S1) : pCall (frr (fsr enc pre fun a => rN (out a))) ds S K KX := fsr_call a v hp (net_call h)
theorem copied (n : XNet) {K : K1} (hk : ∀ d S' U, VR S' U d (rN n) U → U.Nodup → K d S') : K (.t [.r 0, .r (List.length (Ob.lst ((emp 1 n.scopes.length).map scD) :: cps n.scopes)), .r (List.length (Ob.lst ((emp 1 n.scopes.length).map scD) :: cps n.scopes ++ [Ob.lst (n.things.map zT)]))]) (Ob.lst ((emp 1 n.scopes.length).map scD) :: cps n.scopes ++ [Ob.lst (n.things.map zT)] ++ [Ob.lst (n.quests.map zQ)]) := by
  have h3 := cps_len n.scopes
  have hp := emp_plcs 1 n.scopes.length
  have hA : NetAt ([Ob.lst ((emp 1 n.scopes.length).map scD)] ++ cps n.scopes ++ [Ob.lst (n.things.map zT)] ++ [Ob.lst (n.quests.map zQ)]) 0 (1 + 2 * n.scopes.length) (1 + 2 * n.scopes.length + 1) (emp 1 n.scopes.length) n := by
    have hl : ([Ob.lst ((emp 1 n.scopes.length).map scD)] ++ cps n.scopes).length = 1 + 2 * n.scopes.length := by simp [h3]; omega
    have h1 : ∀ m, 1 + 2 * n.scopes.length ≤ m → m ∉ plcs (emp 1 n.scopes.length) := fun m hm z => by have := hp.1 m z; omega
    refine ⟨rfl, ?_, ?_, ?_, ?_⟩
    · have := cps_in (S := [Ob.lst ((emp 1 n.scopes.length).map scD)]) (T := [Ob.lst (n.things.map zT), Ob.lst (n.quests.map zQ)]) (L := 1) rfl n.scopes
      rw [← List.append_assoc] at this
      rw [List.append_assoc]
      exact this
    · rw [← hl]; exact sto_app sto_last
    · rw [← hl, List.append_assoc]; exact sto_r1
    · refine List.nodup_cons.mpr ⟨?_, List.nodup_cons.mpr ⟨?_, List.nodup_cons.mpr ⟨h1 _ (by omega), hp.2⟩⟩⟩
      · simp only [List.mem_cons, not_or]
        exact ⟨by omega, by omega, fun z => by have := hp.1 0 z; omega⟩
      · simp only [List.mem_cons, not_or]
        exact ⟨by omega, h1 _ (by omega)⟩
  obtain ⟨U, hv, hu⟩ := hA.vr
  have e1 : (Ob.lst ((emp 1 n.scopes.length).map scD) :: cps n.scopes).length = 1 + 2 * n.scopes.length := by rw [List.length_cons, h3]; omega
  have e2 : (Ob.lst ((emp 1 n.scopes.length).map scD) :: cps n.scopes ++ [Ob.lst (n.things.map zT)]).length = 1 + 2 * n.scopes.length + 1 := by rw [List.length_append, e1]; rfl
  rw [e1, e2]
  exact hk _ _ U hv hu
end NE

set_option Elab.async false
set_option linter.all false
set_option maxRecDepth 100000
/-! OR, part 1: pairs of labels, what follows from them; the searches -/
namespace OR
open PySem

abbrev Pr := Str × Str
inductive Reach (ps : List Pr) : Str → Str → Prop
  | one {a b : Str} : (a, b) ∈ ps → Reach ps a b
  | step {a b c : Str} : Reach ps a b → (b, c) ∈ ps → Reach ps a c
section
variable {ps : List Pr}
theorem Reach.trans {a b c : Str} (h : Reach ps a b) (k : Reach ps b c) : Reach ps a c := by
  induction k with
  | one h1 => exact .step h h1
  | step _ h2 ih => exact .step ih h2
theorem Reach.head {a b c : Str} (h : (a, b) ∈ ps) (k : Reach ps b c) : Reach ps a c := (Reach.one h).trans k
theorem Reach.fst {a b : Str} (h : Reach ps a b) : ∃ c, (a, c) ∈ ps := by
  induction h with
  | one h => exact ⟨_, h⟩
  | step _ _ ih => exact ih
theorem Reach.snd {a b : Str} (h : Reach ps a b) : ∃ c, (c, b) ∈ ps := by
  cases h with
  | one h => exact ⟨_, h⟩
  | step _ h => exact ⟨_, h⟩
/-! the labels just behind one -/
def addN (f : List Str) (w : Str) : List Str := if w ∈ f then f else f ++ [w]
def nextsL (ps : List Pr) (l : Str) : List Str := ps.foldl (fun f p => if p.1 = l then addN f p.2 else f) []
theorem nexts_snoc (ps : List Pr) (p : Pr) (l : Str) : nextsL (ps ++ [p]) l = if p.1 = l then addN (nextsL ps l) p.2 else nextsL ps l := by
  unfold nextsL
  rw [List.foldl_append]; rfl
theorem addN_mem {f : List Str} {w x : Str} : x ∈ addN f w ↔ x ∈ f ∨ x = w := by
  unfold addN
  split
  · rename_i h
    exact ⟨.inl, fun z => z.elim id fun e => e ▸ h⟩
  · simp
theorem addN_nodup {f : List Str} {w : Str} (h : f.Nodup) : (addN f w).Nodup := by
  unfold addN
  split
  · exact h
  · rename_i hn
    exact List.nodup_append.mpr ⟨h, by simp, fun x hx y hy e => hn (by rw [← List.mem_singleton.mp hy, ← e]; exact hx)⟩
theorem addN_len (f : List Str) (w : Str) : (addN f w).length ≤ f.length + 1 := by
  unfold addN
  split
  · exact Nat.le_succ _
  · simp
theorem nexts_ok (l : Str) : ∀ (n : Nat) (ps : List Pr), ps.length = n → (∀ w, w ∈ nextsL ps l ↔ (l, w) ∈ ps) ∧ (nextsL ps l).Nodup ∧ (nextsL ps l).length ≤ ps.length := by
  intro n
  induction n with
  | zero =>
    intro ps h
    obtain rfl := List.length_eq_zero_iff.mp h
    exact ⟨fun w => by simp [nextsL], by simp [nextsL], by simp [nextsL]⟩
  | succ n ih =>
    intro ps h
    obtain ⟨qs, p, rfl⟩ : ∃ qs p, ps = qs ++ [p] := ⟨ps.dropLast, ps.getLast (by intro e; rw [e] at h; simp at h), (List.dropLast_concat_getLast _).symm⟩
    obtain ⟨h1, h2, h3⟩ := ih qs (by simp at h; exact h)
    rw [nexts_snoc]
    split
    · rename_i e
      refine ⟨fun w => ?_, addN_nodup h2, ?_⟩
      · rw [addN_mem, h1, List.mem_append, List.mem_singleton]
        constructor
        · rintro (z | z)
          · exact .inl z
          · right; rw [z, ← e]
        · rintro (z | z)
          · exact .inl z
          · right; rw [← z]
      · have := addN_len (nextsL qs l) p.2
        simp; omega
    · rename_i e
      refine ⟨fun w => ?_, h2, by simp; omega⟩
      rw [h1, List.mem_append, List.mem_singleton]
      exact ⟨.inl, fun z => z.elim id fun z => absurd (by rw [← z]) e⟩
theorem nexts_mem {l w : Str} : w ∈ nextsL ps l ↔ (l, w) ∈ ps := (nexts_ok l _ ps rfl).1 w
theorem nexts_nodup (l : Str) : (nextsL ps l).Nodup := (nexts_ok l _ ps rfl).2.1
theorem nexts_len (l : Str) : (nextsL ps l).length ≤ ps.length := (nexts_ok l _ ps rfl).2.2
/-- few are unlike -/
theorem nodup_le {α : Type} [DecidableEq α] : ∀ {a b : List α}, a.Nodup → (∀ x ∈ a, x ∈ b) → a.length ≤ b.length
  | [], _, _, _ => Nat.zero_le _
  | x :: a, b, nd, h => by
    have hx := h x List.mem_cons_self
    have := nodup_le (a := a) (b := b.erase x) (List.nodup_cons.mp nd).2 fun y hy => by
      have : y ≠ x := fun e => (List.nodup_cons.mp nd).1 (e ▸ hy)
      exact (List.mem_erase_of_ne this).mpr (h y (List.mem_cons_of_mem _ hy))
    rw [List.length_erase_of_mem hx] at this
    have hp := List.length_pos_of_mem hx
    simp; omega
/-! ### all below -/
structure DInv (ps : List Pr) (l : Str) (ks ws : List Str) : Prop where
  nd : ks.Nodup
  re : ∀ k ∈ ks, Reach ps l k
  wk : ∀ w ∈ ws, w = l ∨ w ∈ ks
  cl : ∀ x, (x = l ∨ x ∈ ks) → x ∉ ws → ∀ y, (x, y) ∈ ps → y ∈ ks
def meas (ps : List Pr) (ks ws : List Str) : Nat := 2 * (ps.length - ks.length) + ws.length
theorem DInv.start (l : Str) : DInv ps l [] [l] := ⟨List.nodup_nil, fun _ h => (by cases h), fun w h => .inl (List.mem_singleton.mp h), fun x hx hn => by
  rcases hx with rfl | h
  · exact absurd List.mem_cons_self hn
  · cases h⟩
theorem reach_len {l : Str} {ks : List Str} (nd : ks.Nodup) (re : ∀ k ∈ ks, Reach ps l k) : ks.length ≤ ps.length := by
  have := nodup_le (b := ps.map (·.2)) nd fun k hk => by
    obtain ⟨c, hc⟩ := (re k hk).snd
    exact List.mem_map.mpr ⟨_, hc, rfl⟩
  rwa [List.length_map] at this
theorem DInv.len {l : Str} {ks ws : List Str} (h : DInv ps l ks ws) : ks.length ≤ ps.length := reach_len h.nd h.re
/-- amid the labels behind here: i of them are looked at -/
structure DIn (ps : List Pr) (l here : Str) (ks ws0 : List Str) (i : Nat) (ks' ws' : List Str) : Prop where
  nd : ks'.Nodup
  re : ∀ k ∈ ks', Reach ps l k
  wk : ∀ w ∈ ws', w = l ∨ w ∈ ks'
  up : ∀ k ∈ ks, k ∈ ks'
  ne : ∀ k ∈ (nextsL ps here).take i, k ∈ ks'
  wu : ∀ w ∈ ws0, w ∈ ws'
  nw : ∀ k ∈ ks', k ∉ ks → k ∈ ws'
  ms : meas ps ks' ws' ≤ meas ps ks ws0
theorem DInv.pop {l here : Str} {ks ws0 : List Str} (h : DInv ps l ks (ws0 ++ [here])) : DIn ps l here ks ws0 0 ks ws0 :=
  ⟨h.nd, h.re, fun w hw => h.wk w (List.mem_append_left _ hw), fun _ h => h, fun k hk => (by simp at hk), fun _ h => h, fun k h1 h2 => absurd h1 h2, Nat.le_refl _⟩
theorem DIn.old {l here : Str} {ks ws0 ks' ws' : List Str} {i : Nat} {w : Str} (h : DIn ps l here ks ws0 i ks' ws') (hw : (nextsL ps here)[i]? = some w) (hk : w ∈ ks') : DIn ps l here ks ws0 (i + 1) ks' ws' :=
  ⟨h.nd, h.re, h.wk, h.up, fun k hk2 => by
    rw [List.take_add_one, hw] at hk2
    rcases List.mem_append.mp hk2 with z | z
    · exact h.ne k z
    · simp at z; rw [z]; exact hk, h.wu, h.nw, h.ms⟩
theorem DIn.new {l here : Str} {ks ws0 ks' ws' : List Str} {i : Nat} {w : Str} (h : DIn ps l here ks ws0 i ks' ws') (hh : here = l ∨ here ∈ ks) (hw : (nextsL ps here)[i]? = some w) (hk : w ∉ ks') : DIn ps l here ks ws0 (i + 1) (ks' ++ [w]) (ws' ++ [w]) := by
  have hp : (here, w) ∈ ps := nexts_mem.mp (List.mem_of_getElem? hw)
  have hr : Reach ps l w := by
    rcases hh with rfl | hh
    · exact .one hp
    · exact .step (h.re _ (h.up _ hh)) hp
  have nd2 : (ks' ++ [w]).Nodup := List.nodup_append.mpr ⟨h.nd, by simp, fun x hx y hy e => hk (by rw [← List.mem_singleton.mp hy, ← e]; exact hx)⟩
  have re2 : ∀ k ∈ ks' ++ [w], Reach ps l k := fun k hk2 => by
    rcases List.mem_append.mp hk2 with z | z
    · exact h.re k z
    · rw [List.mem_singleton.mp z]; exact hr
  refine ⟨nd2, re2, fun v hv => ?_, fun k hk2 => List.mem_append_left _ (h.up k hk2), fun k hk2 => ?_, fun v hv => List.mem_append_left _ (h.wu v hv), fun k h1 h2 => ?_, ?_⟩
  · rcases List.mem_append.mp hv with z | z
    · exact (h.wk v z).imp id fun z => List.mem_append_left _ z
    · exact .inr (List.mem_append_right _ z)
  · rw [List.take_add_one, hw] at hk2
    rcases List.mem_append.mp hk2 with z | z
    · exact List.mem_append_left _ (h.ne k z)
    · simp at z; rw [z]; simp
  · rcases List.mem_append.mp h1 with z | z
    · exact List.mem_append_left _ (h.nw k z h2)
    · exact List.mem_append_right _ z
  · have h1 := reach_len nd2 re2
    have h2 := h.ms
    unfold meas at *
    rw [List.length_append, List.length_append] at *
    simp at *
    omega
theorem DIn.done {l here : Str} {ks ws0 ks' ws' : List Str} (h : DIn ps l here ks ws0 (nextsL ps here).length ks' ws') (h0 : DInv ps l ks (ws0 ++ [here])) : DInv ps l ks' ws' ∧ meas ps ks' ws' < meas ps ks (ws0 ++ [here]) := by
  refine ⟨⟨h.nd, h.re, h.wk, fun x hx hn y hy => ?_⟩, ?_⟩
  · by_cases e : x = here
    · subst e
      exact h.ne y (by rw [List.take_length]; exact nexts_mem.mpr hy)
    · have hx' : x = l ∨ x ∈ ks := by
        rcases hx with z | z
        · exact .inl z
        · by_cases hk : x ∈ ks
          · exact .inr hk
          · exact absurd (h.nw x z hk) hn
      refine h.up y (h0.cl x hx' (fun z => ?_) y hy)
      rcases List.mem_append.mp z with z | z
      · exact hn (h.wu x z)
      · exact e (List.mem_singleton.mp z)
  · have := h.ms
    unfold meas at *
    simp; omega
theorem DInv.fin {l : Str} {ks : List Str} (h : DInv ps l ks []) (w : Str) : w ∈ ks ↔ Reach ps l w := by
  refine ⟨h.re w, fun hr => ?_⟩
  induction hr with
  | one hp => exact h.cl l (.inl rfl) (by simp) _ hp
  | step _ hp ih => exact h.cl _ (.inr ih) (by simp) _ hp
end
end OR

set_option Elab.async false
set_option linter.all false
set_option maxRecDepth 100000
/-! OR, part 2: a chain -/
namespace OR
open PySem
section
variable {ps : List Pr} {one other : Str}
def lastOf (a : Str) (t : List Str) : Str := (a :: t).getLast (by simp)
theorem last_nil (a : Str) : lastOf a [] = a := rfl
theorem last_snoc (a b : Str) (t : List Str) : lastOf a (t ++ [b]) = b := by
  show ((a :: t) ++ [b]).getLast (by simp) = b
  first | exact List.getLast_concat .. | exact List.getLast_append_singleton .. | simp
/-- step by step -/
def Walk (ps : List Pr) (a : Str) (t : List Str) : Prop := ∀ (i : Nat) (x y : Str), (a :: t)[i]? = some x → (a :: t)[i + 1]? = some y → (x, y) ∈ ps
theorem Walk.nil (a : Str) : Walk ps a [] := fun i x y h1 h2 => by simp at h2
theorem last_at (a : Str) (t : List Str) : (a :: t)[t.length]? = some (lastOf a t) := by
  unfold lastOf
  rw [List.getLast_eq_getElem, List.getElem?_eq_getElem (by simp)]
  simp
theorem Walk.snoc {a b : Str} {t : List Str} (h : Walk ps a t) (hb : (lastOf a t, b) ∈ ps) : Walk ps a (t ++ [b]) := by
  intro i x y h1 h2
  rw [show a :: (t ++ [b]) = (a :: t) ++ [b] from rfl] at h1 h2
  have hi : i + 1 < ((a :: t) ++ [b]).length := (List.getElem?_eq_some_iff.mp h2).1
  have hi : i + 1 < t.length + 2 := by simpa using hi
  rw [List.getElem?_append_left (by simp; omega)] at h1
  by_cases e : i = t.length
  · subst e
    rw [last_at] at h1
    rw [List.getElem?_append_right (by simp)] at h2
    simp at h2
    cases h1
    rw [← h2]; exact hb
  · rw [List.getElem?_append_left (by simp; omega)] at h2
    exact h i x y h1 h2
/-- all that follows one is come and is no end -/
def Exp (ps : List Pr) (other : Str) (ks : List Str) (x : Str) : Prop := ∀ y, (x, y) ∈ ps → y ∈ ks ∧ y ≠ other
theorem Exp.up {ks ks' : List Str} {x : Str} (h : Exp ps other ks x) (u : ∀ k ∈ ks, k ∈ ks') : Exp ps other ks' x := fun y hy => ⟨u y (h y hy).1, (h y hy).2⟩
structure Wy (ps : List Pr) (one other : Str) (ks : List Str) (w t : List Str) : Prop where
  e : w = one :: t
  wk : Walk ps one t
  nd : t.Nodup
  ks : ∀ x ∈ t, x ∈ ks
  no : other ∉ t
  rg : one ∈ t → lastOf one t = one
theorem Wy.up {ks ks' w t : List Str} (h : Wy ps one other ks w t) (u : ∀ k ∈ ks, k ∈ ks') : Wy ps one other ks' w t := ⟨h.e, h.wk, h.nd, fun x hx => u x (h.ks x hx), h.no, h.rg⟩
structure BInv (ps : List Pr) (one other : Str) (ks : List Str) (ws : List (List Str)) : Prop where
  nd : ks.Nodup
  sb : ∀ k ∈ ks, ∃ c, (c, k) ∈ ps
  wy : ∀ w ∈ ws, ∃ t, Wy ps one other ks w t
  cl : ∀ x, (x = one ∨ x ∈ ks) → (∃ t, (one :: t) ∈ ws ∧ lastOf one t = x) ∨ Exp ps other ks x
  st : (∀ w ∈ ws, w = [one]) ∨ Exp ps other ks one
def measB (ps : List Pr) (ks : List Str) (ws : List (List Str)) : Nat := 2 * (ps.length - ks.length) + ws.length
theorem BInv.start : BInv ps one other [] [[one]] := ⟨List.nodup_nil, fun _ h => (by cases h), fun w hw => by
  rw [List.mem_singleton.mp hw]
  exact ⟨[], rfl, .nil _, List.nodup_nil, fun _ h => (by cases h), fun h => (by cases h), fun h => (by cases h)⟩, fun x hx => (by
  rcases hx with rfl | h
  · exact .inl ⟨[], List.mem_cons_self, rfl⟩
  · cases h), Or.inl fun w hw => List.mem_singleton.mp hw⟩
theorem sub_len {ks : List Str} (nd : ks.Nodup) (sb : ∀ k ∈ ks, ∃ c, (c, k) ∈ ps) : ks.length ≤ ps.length := by
  have := nodup_le (b := ps.map (·.2)) nd fun k hk => by
    obtain ⟨c, hc⟩ := sb k hk
    exact List.mem_map.mpr ⟨_, hc, rfl⟩
  rwa [List.length_map] at this
/-- amid what follows a way's last label -/
structure BIn (ps : List Pr) (one other : Str) (t : List Str) (ks : List Str) (ws0 : List (List Str)) (i : Nat) (ks' : List Str) (ws' : List (List Str)) : Prop where
  nd : ks'.Nodup
  sb : ∀ k ∈ ks', ∃ c, (c, k) ∈ ps
  wy : ∀ w ∈ ws', ∃ t, Wy ps one other ks' w t
  up : ∀ k ∈ ks, k ∈ ks'
  ne : ∀ k ∈ (nextsL ps (lastOf one t)).take i, k ∈ ks' ∧ k ≠ other
  wu : ∀ w ∈ ws0, w ∈ ws'
  nw : ∀ k ∈ ks', k ∉ ks → ∃ u, (one :: u) ∈ ws' ∧ lastOf one u = k
  me : Wy ps one other ks' (one :: t) t
  st : t = [] ∨ Exp ps other ks' one
  ms : measB ps ks' ws' ≤ measB ps ks ws0
theorem BInv.pop {w : List Str} {ks : List Str} {ws0 : List (List Str)} (h : BInv ps one other ks (w :: ws0)) : ∃ t, w = one :: t ∧ BIn ps one other t ks ws0 0 ks ws0 := by
  obtain ⟨t, ht⟩ := h.wy w List.mem_cons_self
  refine ⟨t, ht.e, h.nd, h.sb, fun w hw => h.wy w (List.mem_cons_of_mem _ hw), fun _ h => h, fun k hk => (by simp at hk), fun _ h => h, fun k h1 h2 => absurd h1 h2, ?_, ?_, Nat.le_refl _⟩
  · rw [← ht.e]; exact ht
  · rcases h.st with z | z
    · have := z w List.mem_cons_self
      rw [ht.e] at this
      exact .inl (by injection this)
    · exact .inr z
theorem BIn.old {t : List Str} {ks : List Str} {ws0 : List (List Str)} {i : Nat} {ks' : List Str} {ws' : List (List Str)} {w : Str} (h : BIn ps one other t ks ws0 i ks' ws') (hw : (nextsL ps (lastOf one t))[i]? = some w) (ho : w ≠ other) (hk : w ∈ ks') : BIn ps one other t ks ws0 (i + 1) ks' ws' :=
  ⟨h.nd, h.sb, h.wy, h.up, fun k hk2 => by
    rw [List.take_add_one, hw] at hk2
    rcases List.mem_append.mp hk2 with z | z
    · exact h.ne k z
    · simp at z; rw [z]; exact ⟨hk, ho⟩, h.wu, h.nw, h.me, h.st, h.ms⟩
theorem BIn.new {t : List Str} {ks : List Str} {ws0 : List (List Str)} {i : Nat} {ks' : List Str} {ws' : List (List Str)} {w : Str} (h : BIn ps one other t ks ws0 i ks' ws') (hw : (nextsL ps (lastOf one t))[i]? = some w) (ho : w ≠ other) (hk : w ∉ ks') :
    BIn ps one other t ks ws0 (i + 1) (ks' ++ [w]) (ws' ++ [(one :: t) ++ [w]]) := by
  have hp : (lastOf one t, w) ∈ ps := nexts_mem.mp (List.mem_of_getElem? hw)
  have u : ∀ k ∈ ks', k ∈ ks' ++ [w] := fun k hk => List.mem_append_left _ hk
  have nd2 : (ks' ++ [w]).Nodup := List.nodup_append.mpr ⟨h.nd, by simp, fun x hx y hy e => hk (by rw [← List.mem_singleton.mp hy, ← e]; exact hx)⟩
  have sb2 : ∀ k ∈ ks' ++ [w], ∃ c, (c, k) ∈ ps := fun k hk2 => by
    rcases List.mem_append.mp hk2 with z | z
    · exact h.sb k z
    · rw [List.mem_singleton.mp z]; exact ⟨_, hp⟩
  have no1 : one ∉ t := fun z => by
    rcases h.st with e | e
    · rw [e] at z; cases z
    · have hl := h.me.rg z
      rw [hl] at hp
      exact hk (e w hp).1
  refine ⟨nd2, sb2, fun v hv => ?_, fun k hk2 => u k (h.up k hk2), fun k hk2 => ?_, fun v hv => List.mem_append_left _ (h.wu v hv), fun k h1 h2 => ?_, h.me.up u, h.st.imp id fun e => e.up u, ?_⟩
  · rcases List.mem_append.mp hv with z | z
    · obtain ⟨t', ht'⟩ := h.wy v z
      exact ⟨t', ht'.up u⟩
    · rw [List.mem_singleton.mp z]
      refine ⟨t ++ [w], rfl, h.me.wk.snoc hp, ?_, fun x hx => ?_, fun z => ?_, fun z => ?_⟩
      · exact List.nodup_append.mpr ⟨h.me.nd, by simp, fun x hx y hy e => hk (by rw [← List.mem_singleton.mp hy, ← e]; exact h.me.ks x hx)⟩
      · rcases List.mem_append.mp hx with z | z
        · exact u x (h.me.ks x z)
        · exact List.mem_append_right _ z
      · rcases List.mem_append.mp z with z | z
        · exact h.me.no z
        · exact ho (List.mem_singleton.mp z).symm
      · rcases List.mem_append.mp z with z | z
        · exact absurd z no1
        · rw [last_snoc]; exact (List.mem_singleton.mp z).symm
  · rw [List.take_add_one, hw] at hk2
    rcases List.mem_append.mp hk2 with z | z
    · exact ⟨u k (h.ne k z).1, (h.ne k z).2⟩
    · simp at z; rw [z]; exact ⟨by simp, ho⟩
  · rcases List.mem_append.mp h1 with z | z
    · obtain ⟨v, hv, hl⟩ := h.nw k z h2
      exact ⟨v, List.mem_append_left _ hv, hl⟩
    · refine ⟨t ++ [w], List.mem_append_right _ (List.mem_singleton.mpr rfl), ?_⟩
      rw [last_snoc]; exact (List.mem_singleton.mp z).symm
  · have h1 := sub_len nd2 sb2
    have h2 := h.ms
    unfold measB at *
    rw [List.length_append, List.length_append] at *
    simp at *
    omega
theorem BIn.done {t : List Str} {ks : List Str} {ws0 : List (List Str)} {ks' : List Str} {ws' : List (List Str)} (h : BIn ps one other t ks ws0 (nextsL ps (lastOf one t)).length ks' ws') (h0 : BInv ps one other ks ((one :: t) :: ws0)) : BInv ps one other ks' ws' ∧ measB ps ks' ws' < measB ps ks ((one :: t) :: ws0) := by
  have ex : Exp ps other ks' (lastOf one t) := fun y hy => h.ne y (by rw [List.take_length]; exact nexts_mem.mpr hy)
  refine ⟨⟨h.nd, h.sb, h.wy, fun x hx => ?_, ?_⟩, ?_⟩
  · by_cases hk : x = one ∨ x ∈ ks
    · rcases h0.cl x hk with ⟨v, hv, hl⟩ | e
      · rcases List.mem_cons.mp hv with e | hv
        · injection e with _ e
          subst e
          rw [← hl]; exact .inr ex
        · exact .inl ⟨v, h.wu _ hv, hl⟩
      · exact .inr (e.up h.up)
    · refine .inl (h.nw x ?_ fun z => hk (.inr z))
      rcases hx with z | z
      · exact absurd (.inl z) hk
      · exact z
  · rcases h.st with e | e
    · subst e
      exact .inr ex
    · exact .inr e
  · have := h.ms
    unfold measB at *
    simp; omega
/-- a chain, no label on the way twice -/
structure Chn (ps : List Pr) (a b : Str) (c t : List Str) : Prop where
  e : c = (a :: t) ++ [b]
  wk : Walk ps a (t ++ [b])
  n1 : (t ++ [b]).Nodup
  n2 : (a :: t).Nodup
theorem BIn.found {t : List Str} {ks : List Str} {ws0 : List (List Str)} {i : Nat} {ks' : List Str} {ws' : List (List Str)} (h : BIn ps one other t ks ws0 i ks' ws') (hw : (nextsL ps (lastOf one t))[i]? = some other) : Chn ps one other ((one :: t) ++ [other]) t := by
  have hp : (lastOf one t, other) ∈ ps := nexts_mem.mp (List.mem_of_getElem? hw)
  refine ⟨rfl, h.me.wk.snoc hp, List.nodup_append.mpr ⟨h.me.nd, by simp, fun x hx y hy e => h.me.no (by rw [← List.mem_singleton.mp hy, ← e]; exact hx)⟩, List.nodup_cons.mpr ⟨fun z => ?_, h.me.nd⟩⟩
  rcases h.st with e | e
  · rw [e] at z; cases z
  · have hl := h.me.rg z
    rw [hl] at hp
    exact (e other hp).2 rfl
theorem walk_reach {a : Str} : ∀ (n : Nat) (t : List Str), t.length = n → t ≠ [] → Walk ps a t → Reach ps a (lastOf a t) := by
  intro n
  induction n with
  | zero => intro t h hn; exact absurd (List.length_eq_zero_iff.mp h) hn
  | succ n ih =>
    intro t h hn hw
    obtain ⟨u, x, rfl⟩ : ∃ u x, t = u ++ [x] := ⟨t.dropLast, t.getLast hn, (List.dropLast_concat_getLast _).symm⟩
    rw [last_snoc]
    have hl : (lastOf a u, x) ∈ ps := hw u.length _ _ (by rw [show a :: (u ++ [x]) = (a :: u) ++ [x] from rfl, List.getElem?_append_left (by simp)]; exact last_at a u) (by simp)
    have hw2 : Walk ps a u := fun i y z h1 h2 => by
      have hi : i + 1 < (a :: u).length := (List.getElem?_eq_some_iff.mp h2).1
      refine hw i y z ?_ ?_
      · rw [show a :: (u ++ [x]) = (a :: u) ++ [x] from rfl, List.getElem?_append_left (by omega)]; exact h1
      · rw [show a :: (u ++ [x]) = (a :: u) ++ [x] from rfl, List.getElem?_append_left hi]; exact h2
    by_cases hu : u = []
    · subst hu; exact .one hl
    · exact .step (ih u (by simp at h; exact h) hu hw2) hl
theorem Chn.reach {a b : Str} {c t : List Str} (h : Chn ps a b c t) : Reach ps a b := by
  have := walk_reach _ (t ++ [b]) rfl (by simp) h.wk
  rwa [last_snoc] at this
theorem BInv.none {ks : List Str} (h : BInv ps one other ks []) : ¬ Reach ps one other := by
  have ex : ∀ x, (x = one ∨ x ∈ ks) → Exp ps other ks x := fun x hx => (h.cl x hx).elim (fun ⟨_, z, _⟩ => by cases z) id
  have key : ∀ y, Reach ps one y → y ∈ ks ∧ y ≠ other := by
    intro y hr
    induction hr with
    | one hp => exact ex one (.inl rfl) _ hp
    | step _ hp ih => exact ex _ (.inr ih.1) _ hp
  exact fun hr => (key other hr).2 rfl
end
end OR

set_option Elab.async false
set_option linter.all false
set_option maxRecDepth 100000
/-! OR, part 3: labels and pairs in their order -/
namespace OR
open PySem PyProof.Rows
def SLt (a b : Str) : Prop := a.cps.toList < b.cps.toList
theorem SLt.irr (a : Str) : ¬ SLt a a := List.lt_irrefl _
theorem SLt.tr {a b c : Str} (h : SLt a b) (k : SLt b c) : SLt a c := List.lt_trans h k
theorem SLt.tri (a b : Str) : SLt a b ∨ a = b ∨ SLt b a := by
  unfold SLt
  by_cases h : a.cps.toList < b.cps.toList
  · exact .inl h
  · by_cases k : b.cps.toList < a.cps.toList
    · exact .inr (.inr k)
    · exact .inr (.inl (PySem.W.str_of_cps (List.le_antisymm (List.not_lt.mp k) (List.not_lt.mp h))))
theorem SLt.nodup {ys : List Str} (h : ys.Pairwise SLt) : ys.Nodup := h.imp fun {a b} h e => by subst e; exact SLt.irr _ h
theorem le_of_rising : ∀ (p : Str) (l : List Str), risingS p l = true → (p :: l).Pairwise fun a b => ¬ SLt b a
  | p, [], _ => List.pairwise_singleton _ _
  | p, x :: r, h => by
    unfold risingS at h
    rw [Bool.and_eq_true] at h
    have ih := le_of_rising x r h.2
    have h1 : ¬ SLt x p := fun z => by
      have := h.1
      rw [ltCps_eq, decide_eq_true (show x.cps.toList < p.cps.toList from z)] at this
      cases this
    refine List.pairwise_cons.mpr ⟨fun y hy => ?_, ih⟩
    rcases List.mem_cons.mp hy with rfl | hy
    · exact h1
    · have h2 := (List.pairwise_cons.mp ih).1 y hy
      intro z
      rcases SLt.tri p x with k | k | k
      · exact h2 (z.tr k)
      · subst k; exact h2 z
      · exact h1 k
theorem strict_of {ys : List Str} (nd : ys.Nodup) (h : sortedS ys = true) : ys.Pairwise SLt := by
  cases ys with
  | nil => exact List.Pairwise.nil
  | cons x r =>
    have := le_of_rising x r h
    refine (this.and nd).imp fun {a b} ⟨h1, h2⟩ => ?_
    rcases SLt.tri a b with k | k | k
    · exact k
    · exact absurd k h2
    · exact absurd k h1
theorem uniq_of {α : Type} {r : α → α → Prop} (irr : ∀ a, ¬ r a a) (tr : ∀ a b c, r a b → r b c → r a c) : ∀ {l m : List α}, l.Pairwise r → m.Pairwise r → (∀ x, x ∈ l ↔ x ∈ m) → l = m
  | [], [], _, _, _ => rfl
  | [], y :: m, _, _, h => by have := (h y).mpr List.mem_cons_self; cases this
  | x :: l, [], _, _, h => by have := (h x).mp List.mem_cons_self; cases this
  | x :: l, y :: m, h1, h2, h => by
    obtain ⟨a1, a2⟩ := List.pairwise_cons.mp h1
    obtain ⟨b1, b2⟩ := List.pairwise_cons.mp h2
    have e : x = y := by
      rcases List.mem_cons.mp ((h x).mp List.mem_cons_self) with e | e
      · exact e
      · rcases List.mem_cons.mp ((h y).mpr List.mem_cons_self) with e2 | e2
        · exact e2.symm
        · exact absurd (tr _ _ _ (b1 x e) (a1 y e2)) (irr _)
    subst e
    rw [uniq_of irr tr a2 b2 fun z => ?_]
    constructor
    · intro hz
      rcases List.mem_cons.mp ((h z).mp (List.mem_cons_of_mem _ hz)) with e | e
      · subst e; exact absurd (a1 z hz) (irr z)
      · exact e
    · intro hz
      rcases List.mem_cons.mp ((h z).mpr (List.mem_cons_of_mem _ hz)) with e | e
      · subst e; exact absurd (b1 z hz) (irr z)
      · exact e
/-! pairs -/
def PLt (p q : Pr) : Prop := SLt p.1 q.1 ∨ (p.1 = q.1 ∧ SLt p.2 q.2)
theorem PLt.irr (a : Pr) : ¬ PLt a a := fun h => h.elim (SLt.irr _) fun h => SLt.irr _ h.2
theorem PLt.tr (a b c : Pr) (h : PLt a b) (k : PLt b c) : PLt a c := by
  rcases h with h | ⟨e, h⟩
  · rcases k with k | ⟨e2, k⟩
    · exact .inl (h.tr k)
    · exact .inl (by rw [← e2]; exact h)
  · rcases k with k | ⟨e2, k⟩
    · exact .inl (by rw [e]; exact k)
    · exact .inr ⟨e.trans e2, h.tr k⟩
abbrev eP (p : Pr) : PyData := .tuple [.str p.1, .str p.2]
theorem eqv_str (a b : Str) : PyData.eqv (.str a) (.str b) = decide (a = b) := by
  simp [PyData.eqv]
  by_cases h : a = b <;> simp [h]
instance (a b : Str) : Decidable (SLt a b) := inferInstanceAs (Decidable (a.cps.toList < b.cps.toList))
theorem lt_str (a b : Str) : PySem.W.dataLt (.str a) (.str b) = decide (SLt a b) := PySem.W.dataLt_str a b
theorem lt_pair {p q : Pr} (h : PLt p q) : PySem.W.dataLt (eP p) (eP q) = true := by
  rw [PySem.W.dataLt_pair (by simp [PySem.W.alike]) (by simp [PySem.W.alike]), eqv_str, eqv_str, lt_str, lt_str]
  rcases h with h | ⟨e, h⟩
  · have : p.1 ≠ q.1 := fun z => by rw [z] at h; exact SLt.irr _ h
    rw [if_neg (by rw [decide_eq_false this]; decide)]
    exact decide_eq_true h
  · have : p.2 ≠ q.2 := fun z => by rw [z] at h; exact SLt.irr _ h
    rw [if_pos (by rw [decide_eq_true e]), if_neg (by rw [decide_eq_false this]; decide)]
    exact decide_eq_true h
/-- what follows, in its order -/
structure Ord (ps rs : List Pr) : Prop where
  so : rs.Pairwise PLt
  me : ∀ a b, (a, b) ∈ rs ↔ Reach ps a b
theorem Ord.uniq {ps rs rs' : List Pr} (h : Ord ps rs) (k : Ord ps rs') : rs = rs' := uniq_of PLt.irr PLt.tr h.so k.so fun ⟨a, b⟩ => (h.me a b).trans (k.me a b).symm
/-- amid: the labels ys, i of them are done; of the next one j of the labels behind it -/
structure OIn (ps : List Pr) (done : List Str) (rs : List Pr) : Prop where
  so : rs.Pairwise PLt
  me : ∀ a b, (a, b) ∈ rs ↔ a ∈ done ∧ Reach ps a b
theorem OIn.next {ps : List Pr} {done : List Str} {rs : List Pr} {y : Str} {bs : List Str} (h : OIn ps done rs) (hy : ∀ d ∈ done, SLt d y) (hb : bs.Pairwise SLt) (hm : ∀ w, w ∈ bs ↔ Reach ps y w) : OIn ps (done ++ [y]) (rs ++ bs.map fun b => (y, b)) := by
  refine ⟨List.pairwise_append.mpr ⟨h.so, List.pairwise_map.mpr (hb.imp fun h => .inr ⟨rfl, h⟩), fun p hp q hq => ?_⟩, fun a b => ?_⟩
  · obtain ⟨b, _, rfl⟩ := List.mem_map.mp hq
    exact .inl (hy _ ((h.me p.1 p.2).mp hp).1)
  · rw [List.mem_append, h.me, List.mem_append, List.mem_singleton, List.mem_map]
    constructor
    · rintro (⟨h1, h2⟩ | ⟨c, hc, e⟩)
      · exact ⟨.inl h1, h2⟩
      · injection e with e1 e2
        subst e1; subst e2
        exact ⟨.inr rfl, (hm _).mp hc⟩
    · rintro ⟨h1 | h1, h2⟩
      · exact .inl ⟨h1, h2⟩
      · subst h1
        exact .inr ⟨b, (hm b).mpr h2, rfl⟩
theorem OIn.fin {ps : List Pr} {done : List Str} {rs : List Pr} (h : OIn ps done rs) (hd : ∀ k, k ∈ done ↔ k ∈ ps.map (·.1)) : Ord ps rs := ⟨h.so, fun a b => by
  rw [h.me]
  refine ⟨fun h => h.2, fun hr => ⟨?_, hr⟩⟩
  obtain ⟨c, hc⟩ := hr.fst
  exact (hd a).mpr (List.mem_map.mpr ⟨_, hc, rfl⟩)⟩
end OR

set_option Elab.async false
set_option linter.all false
set_option maxRecDepth 100000
/-! TB, part 1: tables in the store -/
namespace TB
open PySem L2 PL
open NE (scD plcs mem_plcs plcs_app emp emp_len emp_snoc emp_plcs)
abbrev XSt := List (Str × Int) × List Str
abbrev eG (g : Str × Int) : PyData := .tuple [.str g.1, .int g.2]
abbrev zG (g : Str × Int) : D := .z (eG g)
abbrev zW (s : Str) : D := .z (.str s)
def eSt (s : XSt) : PyData := .tuple [.list (s.1.map eG), .list (s.2.map .str)]
structure ScIn (S : Sto) (p : Nat × Nat) (s : XSt) : Prop where
  a : S[p.1]? = some (.lst (s.1.map zG))
  b : S[p.2]? = some (.lst (s.2.map zW))
theorem ScIn.vw {S : Sto} {p : Nat × Nat} {s : XSt} (h : ScIn S p s) : Vw S (scD p) (eSt s) := .t (.cons (.r h.a (Vws.map _ _)) (.cons (.r h.b (Vws.map _ _)) .nil))
theorem ScIn.lt1 {S : Sto} {p : Nat × Nat} {s : XSt} (h : ScIn S p s) : p.1 < S.length := (List.getElem?_eq_some_iff.mp h.a).1
theorem ScIn.lt2 {S : Sto} {p : Nat × Nat} {s : XSt} (h : ScIn S p s) : p.2 < S.length := (List.getElem?_eq_some_iff.mp h.b).1
inductive ScsIn (S : Sto) : List (Nat × Nat) → List XSt → Prop
  | nil : ScsIn S [] []
  | cons {p : Nat × Nat} {s : XSt} {ps : List (Nat × Nat)} {ss : List XSt} : ScIn S p s → ScsIn S ps ss → ScsIn S (p :: ps) (s :: ss)
section
variable {S : Sto} {n : Nat} {o : Ob}
theorem ScsIn.vws : ∀ {ps : List (Nat × Nat)} {ss : List XSt}, ScsIn S ps ss → Vws S (ps.map scD) (ss.map eSt)
  | [], _, h => by cases h; exact .nil
  | p :: ps, _, h => by cases h with | cons a b => exact .cons a.vw b.vws
theorem ScsIn.len : ∀ {ps : List (Nat × Nat)} {ss : List XSt}, ScsIn S ps ss → ps.length = ss.length
  | [], _, h => by cases h; rfl
  | p :: ps, _, h => by cases h with | cons a b => simp [ScsIn.len b]
theorem ScsIn.get : ∀ {ps : List (Nat × Nat)} {ss : List XSt} {i : Nat} {p : Nat × Nat}, ScsIn S ps ss → ps[i]? = some p → ∃ s, ss[i]? = some s ∧ ScIn S p s
  | [], _, _, _, h, e => by simp at e
  | p :: ps, _, 0, _, h, e => by cases h with | cons a b => simp at e; subst e; exact ⟨_, rfl, a⟩
  | p :: ps, _, i + 1, q, h, e => by
    cases h with
    | cons a b =>
      obtain ⟨s, h1, h2⟩ := ScsIn.get (i := i) (p := q) b (by simpa using e)
      exact ⟨s, by simpa using h1, h2⟩
theorem ScsIn.at {ps : List (Nat × Nat)} {ss : List XSt} {i : Nat} (h : ScsIn S ps ss) (hi : i < ss.length) : ∃ p s, ps[i]? = some p ∧ ss[i]? = some s ∧ ScIn S p s := by
  have hp : ps[i]? = some (ps[i]'(by rw [h.len]; exact hi)) := List.getElem?_eq_getElem _
  obtain ⟨s, h1, h2⟩ := h.get hp
  exact ⟨_, s, hp, h1, h2⟩
theorem ScsIn.lt : ∀ {ps : List (Nat × Nat)} {ss : List XSt}, ScsIn S ps ss → ∀ m ∈ plcs ps, m < S.length
  | [], _, _, m, hm => by cases hm
  | p :: ps, _, h, m, hm => by
    cases h with
    | cons a b =>
      have hm : m ∈ p.1 :: p.2 :: plcs ps := hm
      rcases List.mem_cons.mp hm with rfl | hm
      · exact a.lt1
      · rcases List.mem_cons.mp hm with rfl | hm
        · exact a.lt2
        · exact b.lt m hm
theorem ScsIn.sub {S' : Sto} : ∀ {ps : List (Nat × Nat)} {ss : List XSt}, ScsIn S ps ss → (∀ m ∈ plcs ps, ∀ o, S[m]? = some o → S'[m]? = some o) → ScsIn S' ps ss
  | [], _, h, _ => by cases h; exact .nil
  | p :: ps, _, h, k => by
    cases h with
    | cons a b =>
      have hm : ∀ m ∈ plcs ps, m ∈ plcs (p :: ps) := fun m hm => List.mem_cons_of_mem _ (List.mem_cons_of_mem _ hm)
      exact .cons ⟨k _ List.mem_cons_self _ a.a, k _ (List.mem_cons_of_mem _ List.mem_cons_self) _ a.b⟩ (ScsIn.sub b fun m h => k m (hm m h))
theorem ScsIn.app {T : Sto} {ps : List (Nat × Nat)} {ss : List XSt} (h : ScsIn S ps ss) : ScsIn (S ++ T) ps ss := h.sub fun _ _ _ => sto_app
theorem ScsIn.keep {ps : List (Nat × Nat)} {ss : List XSt} (h : ScsIn S ps ss) (hn : n ∉ plcs ps) : ScsIn (S.set n o) ps ss := h.sub fun m hm o e => by
  rw [List.getElem?_set_ne (fun z : n = m => hn (by rw [z]; exact hm))]; exact e
theorem ScsIn.snoc : ∀ {ps : List (Nat × Nat)} {ss : List XSt} {p : Nat × Nat} {s : XSt}, ScsIn S ps ss → ScIn S p s → ScsIn S (ps ++ [p]) (ss ++ [s])
  | [], _, _, _, h, k => by cases h; exact .cons k .nil
  | p :: ps, _, _, _, h, k => by cases h with | cons a b => exact .cons a (ScsIn.snoc b k)
theorem ScsIn.put1 {xs : List (Str × Int)} : ∀ {ps : List (Nat × Nat)} {ss : List XSt} {i : Nat} {p : Nat × Nat} {s : XSt}, ScsIn S ps ss → (plcs ps).Nodup → ps[i]? = some p → ss[i]? = some s → ScsIn (S.set p.1 (.lst (xs.map zG))) ps (ss.set i (xs, s.2))
  | [], _, _, _, _, h, _, e, _ => by simp at e
  | p :: ps, _, 0, q, s, h, nd, e, e2 => by
    cases h with
    | cons a b =>
      simp at e e2
      subst e; subst e2
      have nd2 : (p.1 :: p.2 :: plcs ps).Nodup := nd
      have h12 : p.1 ≠ p.2 := fun z => by rw [z] at nd2; simp at nd2
      have h3 : p.1 ∉ plcs ps := fun z => (List.nodup_cons.mp nd2).1 (List.mem_cons_of_mem _ z)
      exact .cons ⟨by rw [List.getElem?_set_self a.lt1], by rw [List.getElem?_set_ne h12]; exact a.b⟩ (b.keep h3)
  | p :: ps, _, i + 1, q, s, h, nd, e, e2 => by
    cases h with
    | cons a b =>
      have nd2 : (p.1 :: p.2 :: plcs ps).Nodup := nd
      have hq1 := (mem_plcs (List.mem_of_getElem? (i := i) (show ps[i]? = some q by simpa using e))).1
      have h1 := (List.nodup_cons.mp nd2).1
      have h2 := (List.nodup_cons.mp (List.nodup_cons.mp nd2).2).1
      have n1 : q.1 ≠ p.1 := fun z => h1 (by rw [← z]; exact List.mem_cons_of_mem _ hq1)
      have n2 : q.1 ≠ p.2 := fun z => h2 (by rw [← z]; exact hq1)
      exact .cons ⟨by rw [List.getElem?_set_ne n1]; exact a.a, by rw [List.getElem?_set_ne n2]; exact a.b⟩ (ScsIn.put1 b (List.nodup_cons.mp (List.nodup_cons.mp nd2).2).2 (by simpa using e) (by simpa using e2))
theorem ScsIn.put2 {xs : List Str} : ∀ {ps : List (Nat × Nat)} {ss : List XSt} {i : Nat} {p : Nat × Nat} {s : XSt}, ScsIn S ps ss → (plcs ps).Nodup → ps[i]? = some p → ss[i]? = some s → ScsIn (S.set p.2 (.lst (xs.map zW))) ps (ss.set i (s.1, xs))
  | [], _, _, _, _, h, _, e, _ => by simp at e
  | p :: ps, _, 0, q, s, h, nd, e, e2 => by
    cases h with
    | cons a b =>
      simp at e e2
      subst e; subst e2
      have nd2 : (p.1 :: p.2 :: plcs ps).Nodup := nd
      have h12 : p.2 ≠ p.1 := fun z => by rw [z] at nd2; simp at nd2
      have h3 : p.2 ∉ plcs ps := (List.nodup_cons.mp (List.nodup_cons.mp nd2).2).1
      exact .cons ⟨by rw [List.getElem?_set_ne h12]; exact a.a, by rw [List.getElem?_set_self a.lt2]⟩ (b.keep h3)
  | p :: ps, _, i + 1, q, s, h, nd, e, e2 => by
    cases h with
    | cons a b =>
      have nd2 : (p.1 :: p.2 :: plcs ps).Nodup := nd
      have hq1 := (mem_plcs (List.mem_of_getElem? (i := i) (show ps[i]? = some q by simpa using e))).2
      have h1 := (List.nodup_cons.mp nd2).1
      have h2 := (List.nodup_cons.mp (List.nodup_cons.mp nd2).2).1
      have n1 : q.2 ≠ p.1 := fun z => h1 (by rw [← z]; exact List.mem_cons_of_mem _ hq1)
      have n2 : q.2 ≠ p.2 := fun z => h2 (by rw [← z]; exact hq1)
      exact .cons ⟨by rw [List.getElem?_set_ne n1]; exact a.a, by rw [List.getElem?_set_ne n2]; exact a.b⟩ (ScsIn.put2 b (List.nodup_cons.mp (List.nodup_cons.mp nd2).2).2 (by simpa using e) (by simpa using e2))
end
def cps (ss : List XSt) : Sto := ss.flatMap fun s => [.lst (s.1.map zG), .lst (s.2.map zW)]
theorem cps_app (a b : List XSt) : cps (a ++ b) = cps a ++ cps b := List.flatMap_append
theorem cps_len (ss : List XSt) : (cps ss).length = 2 * ss.length := by
  induction ss with
  | nil => rfl
  | cons s ss ih =>
    show ([_, _] ++ cps ss).length = _
    rw [List.length_append, ih, List.length_cons]
    simp; omega
theorem cps_in {S T : Sto} {L : Nat} (hL : S.length = L) (ss : List XSt) : ScsIn (S ++ (cps ss ++ T)) (emp L ss.length) ss := by
  have go : ∀ (n : Nat) (ss : List XSt), ss.length = n → ∀ T, ScsIn (S ++ (cps ss ++ T)) (emp L ss.length) ss := by
    intro n
    induction n with
    | zero => intro ss h T; cases ss with | nil => exact .nil | cons _ _ => simp at h
    | succ n ih =>
      intro ss h T
      obtain ⟨ini, s, rfl⟩ : ∃ ini s, ss = ini ++ [s] := ⟨ss.dropLast, ss.getLast (by intro e; rw [e] at h; simp at h), (List.dropLast_concat_getLast _).symm⟩
      have hi : ini.length = n := by simp at h; exact h
      have hc := cps_len ini
      rw [List.length_append, List.length_singleton, emp_snoc, cps_app, List.append_assoc]
      refine (ih ini hi (cps [s] ++ T)).snoc ⟨?_, ?_⟩
      · show (S ++ _)[L + 2 * ini.length]? = _
        rw [List.getElem?_append_right (by omega), List.getElem?_append_right (by omega), show L + 2 * ini.length - S.length - (cps ini).length = 0 by omega]; rfl
      · show (S ++ _)[L + 2 * ini.length + 1]? = _
        rw [List.getElem?_append_right (by omega), List.getElem?_append_right (by omega), show L + 2 * ini.length + 1 - S.length - (cps ini).length = 1 by omega]; rfl
  exact go _ ss rfl T
def rSt (s : XSt) : RT := .t [lz eG s.1, lz PyData.str s.2]
theorem al_sc (s : XSt) (n : Nat) : al (rSt s) n = (scD (n, n + 1), [.lst (s.1.map zG), .lst (s.2.map zW)]) := by
  unfold rSt al
  simp only [als, al_lz]
  rfl
theorem als_scs : ∀ (ss : List XSt) (n : Nat), als (ss.map rSt) n = ((emp n ss.length).map scD, cps ss)
  | [], n => by unfold als; rfl
  | s :: ss, n => by
    rw [List.map_cons]
    unfold als
    rw [al_sc, als_scs ss]
    have e : emp n (s :: ss).length = (n, n + 1) :: emp (n + 2) ss.length := by
      unfold emp
      rw [List.length_cons, List.range_succ_eq_map, List.map_cons, List.map_map]
      congr 1
      refine List.map_congr_left fun k _ => ?_
      simp; omega
    rw [e]
    rfl
theorem VRs.scs {S : Sto} {U : List Nat} : ∀ {ps : List (Nat × Nat)} {ss : List XSt}, ScsIn S ps ss → VRs S U (ps.map scD) (ss.map rSt) (plcs ps)
  | [], _, h => by cases h; exact .nil
  | p :: ps, _, h => by
    cases h with
    | cons a b =>
      refine .cons (ns := [p.1, p.2]) (.t ?_) (VRs.scs b)
      exact .cons (ns := [p.1]) (.l (ns := []) a.a (VRs.zs _ _)) (.cons (ns := [p.2]) (ms := []) (.l (ns := []) a.b (VRs.zs _ _)) .nil)

structure XTab where
  states : List XSt
  inner : Int
  order : List OR.Pr
def eTab (t : XTab) : PyData := .tuple [.list (t.states.map eSt), .int t.inner, .list (t.order.map OR.eP)]
def rTab (t : XTab) : RT := .t [.l (t.states.map rSt), .z (.int t.inner), lz OR.eP t.order]
theorem bzSt (s : XSt) : bz (eSt s) = .b (eSt s) := by
  unfold bz
  rw [if_neg]
  simp [eSt, flatT, flatTs]
end TB

set_option Elab.async false
set_option linter.all false
set_option maxRecDepth 100000
/-! TB, part 2: sorted rows -/
namespace TB
open PySem L2 PL
open OR (SLt PLt eP)
open NE (scD plcs emp emp_len emp_snoc emp_plcs)
theorem perm_strict {α : Type} {le : α → α → Bool} : ∀ {m s : List α}, s.Perm m → s.Pairwise (fun a b => le a b = true) → m.Pairwise (fun a b => le b a = false) → s = m
  | [], s, h, _, _ => h.eq_nil
  | x :: m, [], h, _, _ => by have := h.length_eq; simp at this
  | x :: m, y :: r, h, hs, hm => by
    have e : y = x := by
      have hy : y ∈ x :: m := h.mem_iff.mp List.mem_cons_self
      rcases List.mem_cons.mp hy with e | hy
      · exact e
      · have hx : x ∈ y :: r := h.mem_iff.mpr List.mem_cons_self
        rcases List.mem_cons.mp hx with e | hx
        · exact e.symm
        · have a1 := (List.pairwise_cons.mp hs).1 x hx
          have a2 := (List.pairwise_cons.mp hm).1 y hy
          rw [a2] at a1; cases a1
    subst e
    rw [perm_strict h.cons_inv (List.pairwise_cons.mp hs).2 (List.pairwise_cons.mp hm).2]
theorem sort_eq {α : Type} {k : α → PyData} {l m : List α} (hp : m.Perm l) (hs : m.Pairwise fun a b => PySem.W.dataLt (k a) (k b) = true) : l.mergeSort (PySem.W.dataLe false k) = m :=
  perm_strict ((List.mergeSort_perm l _).trans hp.symm) (PySem.W.sort_pairwise (PySem.W.sortLe_total _ _ _) l) (hs.imp fun h => by
    show (!PySem.W.dataLt _ _) = false
    rw [h]; rfl)
instance (a b : OR.Pr) : Decidable (PLt a b) := inferInstanceAs (Decidable (_ ∨ _))
theorem lt_g {p q : Str × Int} (h : SLt p.1 q.1) : PySem.W.dataLt (eG p) (eG q) = true := by
  rw [PySem.W.dataLt_pair (by simp [PySem.W.alike]) (by simp [PySem.W.alike]), OR.eqv_str, OR.lt_str]
  have : p.1 ≠ q.1 := fun z => by rw [z] at h; exact SLt.irr _ h
  rw [if_neg (by rw [decide_eq_false this]; decide)]
  exact decide_eq_true h
theorem al_tab (t : XTab) (n : Nat) : al (rTab t) n = (.t [.r (n + 2 * t.states.length), .z (.int t.inner), .r (n + 2 * t.states.length + 1)], cps t.states ++ [.lst ((emp n t.states.length).map scD), .lst (t.order.map fun p => .z (eP p))]) := by
  unfold rTab al
  simp only [als, al_lz]
  unfold al
  rw [als_scs]
  have hc := cps_len t.states
  simp [als, hc, Nat.add_assoc]
theorem shG {g : Str × Int} (h : PyData.strOk g.1 = true) : Shp 2 (eG g) := .tuple fun d hd => by
  rcases List.mem_cons.mp hd with rfl | hd
  · exact .mono (.str (n := 0) h) (by decide)
  · rcases List.mem_cons.mp hd with rfl | hd
    · exact .mono (.int (n := 0)) (by decide)
    · cases hd
theorem PLt_tri (a b : OR.Pr) : PLt a b ∨ a = b ∨ PLt b a := by
  rcases SLt.tri a.1 b.1 with h | h | h
  · exact .inl (.inl h)
  · rcases SLt.tri a.2 b.2 with k | k | k
    · exact .inl (.inr ⟨h, k⟩)
    · exact .inr (.inl (Prod.ext h k))
    · exact .inr (.inr (.inr ⟨h.symm, k⟩))
  · exact .inr (.inr (.inl h))
theorem sort_pairs {rs : List OR.Pr} (nd : rs.Nodup) : (rs.mergeSort (PySem.W.dataLe false eP)).Pairwise PLt := by
  have h1 : (rs.mergeSort (PySem.W.dataLe false eP)).Pairwise fun a b => PySem.W.dataLe false eP a b = true := PySem.W.sort_pairwise (PySem.W.sortLe_total _ _ _) rs
  have h2 : (rs.mergeSort (PySem.W.dataLe false eP)).Nodup := (List.mergeSort_perm rs _).nodup_iff.mpr nd
  refine (h1.and h2).imp fun {a b} ⟨k1, k2⟩ => ?_
  have k1 : (!PySem.W.dataLt (eP b) (eP a)) = true := k1
  rcases PLt_tri a b with h | h | h
  · exact h
  · exact absurd h k2
  · rw [OR.lt_pair h] at k1; cases k1
theorem sort_ord {ps rs : List OR.Pr} (nd : rs.Nodup) (h : ∀ a b, (a, b) ∈ rs ↔ OR.Reach ps a b) : OR.Ord ps (rs.mergeSort (PySem.W.dataLe false eP)) :=
  ⟨sort_pairs nd, fun a b => by rw [(List.mergeSort_perm rs _).mem_iff]; exact h a b⟩
end TB

set_option Elab.async false
set_option linter.all false
set_option maxRecDepth 100000
/-! OD, part 1: the order of data -/
namespace OD
open PySem PySem.W PyProof.Rows
theorem lt_irr (d : PyData) : dataLt d d = false := (listOrd itemOrd).irrefl _
theorem lt_tr {a b c : PyData} (h : dataLt a b = true) (k : dataLt b c = true) : dataLt a c = true := (listOrd itemOrd).trans _ _ _ h k
theorem eqv_toks {x y : PyData} (h : alike x y = true) (e : keyToks x = keyToks y) : PyData.eqv x y = true := by
  cases he : PyData.eqv x y with
  | true => rfl
  | false =>
    have := (toks_eqv x y h).2 he [] [.inl 0]
    have h2 : PyProof.Rows.lexLt itemOrd (keyToks y) (keyToks y) = false := lex_irrefl _
    rw [e, lex_pre, h2] at this
    exact absurd (show true = false from this) (by decide)
theorem lt_tri {x y : PyData} (h : alike x y = true) (a : dataLt x y = false) (b : dataLt y x = false) : PyData.eqv x y = true :=
  eqv_toks h ((listOrd itemOrd).total _ _ a b)
/-- the rows rise -/
def Up {α : Type} (k : α → PyData) (l : List α) : Prop := l.Pairwise fun a b => dataLt (k a) (k b) = true
section
variable {α : Type} {k : α → PyData} {l m : List α}
theorem Up.uniq (h : Up k l) (h2 : Up k m) (e : ∀ x, x ∈ l ↔ x ∈ m) : l = m :=
  OR.uniq_of (r := fun a b => dataLt (k a) (k b) = true) (fun a h => by rw [lt_irr] at h; cases h) (fun _ _ _ h k => lt_tr h k) h h2 e
theorem Up.nodup (h : Up k l) : l.Nodup := h.imp fun {a b} h e => by subst e; rw [lt_irr] at h; cases h
theorem up_sort (nd : l.Nodup) (al : ∀ a ∈ l, ∀ b ∈ l, alike (k a) (k b) = true) (ej : ∀ a ∈ l, ∀ b ∈ l, PyData.eqv (k a) (k b) = true → a = b) : Up k (l.mergeSort (dataLe false k)) := by
  have h1 : (l.mergeSort (dataLe false k)).Pairwise fun a b => dataLe false k a b = true := sort_pairwise (sortLe_total _ _ _) l
  have h2 : (l.mergeSort (dataLe false k)).Nodup := (List.mergeSort_perm l _).nodup_iff.mpr nd
  have hm : ∀ x, x ∈ l.mergeSort (dataLe false k) → x ∈ l := fun x hx => (List.mergeSort_perm l _).mem_iff.mp hx
  refine (List.Pairwise.and_mem.mp (h1.and h2)).imp fun {a b} ⟨ha, hb, k1, k2⟩ => ?_
  have k1 : (!dataLt (k b) (k a)) = true := k1
  cases hc : dataLt (k a) (k b) with
  | true => rfl
  | false => exact absurd (ej a (hm a ha) b (hm b hb) (lt_tri (al a (hm a ha) b (hm b hb)) hc (by cases h : dataLt (k b) (k a) with | true => rw [h] at k1; cases k1 | false => rfl))) k2
theorem sort_up (h : Up k m) (p : m.Perm l) : l.mergeSort (dataLe false k) = m := TB.sort_eq p h
end
end OD

set_option Elab.async false
set_option linter.all false
set_option maxRecDepth 100000
/-! WY, part 1: ways, in plain Lean -/
namespace WY
open PySem L2 PL ND
/-! where a step goes -/
def goal (net : Net) (ans : List Ans) (st : ND.Step) : Goal := if st.by_ = true then (match getI ans .opn st.num with
    | .opn => .opn st.num
    | .thing t => inside net ans t
    | _ => .no) else .to st.num
structure World where
  net : Net
  ans : List Ans
  tab : TB.XTab
structure Mk where
  sc : Int
  ix : Int
  deriving DecidableEq
def eMk (m : Mk) : PyData := .tuple [.int m.sc, .str "step", .int m.ix]
structure Row where
  ms : List Mk
  sc : Int
  st : Int
  deriving DecidableEq
def eRow (r : Row) : PyData := .tuple [.list (r.ms.map eMk), .int r.sc, .int r.st]
def nextS (t : TB.XTab) (st : Int) (lab : Str) : Option Int := ((getI t.states ([], []) st).1.find? fun g => decide (g.1 = lab)).map (·.2)
def steps (W : World) (sc : Int) : List ND.Step := (getI W.net.scopes ([], []) sc).1
def tells (W : World) (sc : Int) : List ND.Tell := (getI W.net.scopes ([], []) sc).2
def leads (W : World) (r : Row) (x : ND.Step) : Option (Int × Int) := match nextS W.tab r.st x.lab with
  | none => none
  | some t => match goal W.net W.ans x with
    | .to n => if n = r.sc ∨ n ∈ r.ms.map (·.sc) then none else some (n, t)
    | _ => none
def lgr (W : World) (r : Row) (i : Nat) (x : ND.Step) : Option Row := (leads W r x).map fun p => ⟨r.ms ++ [⟨r.sc, i⟩], p.1, p.2⟩
def lgrs (W : World) (r : Row) : Nat → List ND.Step → List Row
  | _, [] => []
  | i, x :: xs => (lgr W r i x).toList ++ lgrs W r (i + 1) xs
def longer (W : World) (r : Row) : List Row := lgrs W r 0 (steps W r.sc)
section
variable {W : World} {r q : Row}
theorem lgrs_snoc {x : ND.Step} : ∀ {xs : List ND.Step} {i : Nat}, lgrs W r i (xs ++ [x]) = lgrs W r i xs ++ (lgr W r (i + xs.length) x).toList
  | [], i => by simp [lgrs]
  | y :: xs, i => by
    rw [List.cons_append]
    unfold lgrs
    rw [lgrs_snoc, List.append_assoc, List.length_cons, show i + 1 + xs.length = i + (xs.length + 1) by omega]
theorem mem_lgrs : ∀ {xs : List ND.Step} {i : Nat}, q ∈ lgrs W r i xs ↔ ∃ j x, xs[j]? = some x ∧ lgr W r (i + j) x = some q
  | [], i => by simp [lgrs]
  | y :: xs, i => by
    unfold lgrs
    rw [List.mem_append, mem_lgrs (xs := xs)]
    constructor
    · rintro (h | ⟨j, x, h1, h2⟩)
      · exact ⟨0, y, rfl, by simpa using h⟩
      · exact ⟨j + 1, x, by simpa using h1, by rw [← h2, show i + (j + 1) = i + 1 + j by omega]⟩
    · rintro ⟨j, x, h1, h2⟩
      cases j with
      | zero => simp at h1; subst h1; exact .inl (by simpa using h2)
      | succ j => exact .inr ⟨j, x, by simpa using h1, by rw [← h2, show i + (j + 1) = i + 1 + j by omega]⟩
theorem mem_longer : q ∈ longer W r ↔ ∃ (j : Nat) (x : ND.Step), (steps W r.sc)[j]? = some x ∧ lgr W r j x = some q := by
  unfold longer
  rw [mem_lgrs]
  constructor
  · rintro ⟨j, x, h1, h2⟩; exact ⟨j, x, h1, by rwa [Nat.zero_add] at h2⟩
  · rintro ⟨j, x, h1, h2⟩; exact ⟨j, x, h1, by rwa [Nat.zero_add]⟩
theorem lgr_ms {i : Nat} {x : ND.Step} (h : lgr W r i x = some q) : q.ms = r.ms ++ [⟨r.sc, i⟩] := by
  unfold lgr at h
  cases e : leads W r x with
  | none => rw [e] at h; cases h
  | some p => rw [e] at h; cases h; rfl
theorem longer_ms (h : q ∈ longer W r) : ∃ i : Nat, q.ms = r.ms ++ [⟨r.sc, i⟩] := by
  obtain ⟨j, x, _, h⟩ := mem_longer.mp h
  exact ⟨j, lgr_ms h⟩
theorem lgrs_len : ∀ {xs : List ND.Step} {i : Nat}, (lgrs W r i xs).length ≤ xs.length
  | [], i => Nat.le_refl _
  | y :: xs, i => by
    unfold lgrs
    rw [List.length_append, List.length_cons]
    have := lgrs_len (xs := xs) (i := i + 1)
    cases lgr W r i y <;> simp <;> omega
theorem lgrs_nodup : ∀ {xs : List ND.Step} {i : Nat}, (lgrs W r i xs).Nodup
  | [], i => List.nodup_nil
  | y :: xs, i => by
    unfold lgrs
    refine List.nodup_append.mpr ⟨by cases lgr W r i y <;> simp, lgrs_nodup, fun a ha b hb e => ?_⟩
    subst e
    obtain ⟨j, x, _, h2⟩ := mem_lgrs.mp hb
    have h1 := lgr_ms (by simpa using ha)
    rw [lgr_ms h2] at h1
    have := List.append_cancel_left h1
    simp at this
    omega
/-! how many -/
def wt (B : Nat) : Nat → Nat
  | 0 => 1
  | n + 1 => 1 + B * wt B n
theorem wt_pos {B : Nat} : ∀ n, 1 ≤ wt B n
  | 0 => Nat.le_refl _
  | n + 1 => by unfold wt; omega
structure TOk (t : TB.XTab) : Prop where
  go : ∀ s ∈ t.states, ∀ g ∈ s.1, PyData.strOk g.1 = true ∧ 0 ≤ g.2 ∧ g.2 < t.states.length
  en : ∀ s ∈ t.states, ∀ w ∈ s.2, PyData.strOk w = true
  od : ∀ p ∈ t.order, PyData.strOk p.1 = true ∧ PyData.strOk p.2 = true
  n1 : 1 ≤ t.states.length
  n9 : t.states.length ≤ 9
  ir : 0 ≤ t.inner ∧ t.inner < t.states.length
  nr : ∀ p ∈ t.order, p.1 ≠ p.2
  tr : ∀ p ∈ t.order, ∀ q ∈ t.order, p.2 = q.1 → (p.1, q.2) ∈ t.order
/-- a net, its table, answers -/
structure WB (W : World) : Prop where
  net : NetOk W.net
  len : W.ans.length = W.net.quests.length
  an : ∀ x ∈ W.ans, AnsOk W.net.things.length x
  tab : TOk W.tab
  qst : ∀ q ∈ W.net.quests, q.state < W.tab.states.length
structure RowOk (W : World) (r : Row) : Prop where
  sc : 0 ≤ r.sc ∧ r.sc < W.net.scopes.length
  st : 0 ≤ r.st ∧ r.st < W.tab.states.length
  ms : ∀ m ∈ r.ms, (0 ≤ m.sc ∧ m.sc < W.net.scopes.length) ∧ 0 ≤ m.ix ∧ m.ix < (steps W m.sc).length
  nd : (r.ms.map (·.sc) ++ [r.sc]).Nodup
theorem inOk (h : WB W) : InOk W.net W.ans := inOk_of h.net h.len h.an
theorem nextS_ok {t : TB.XTab} (h : TOk t) {st n : Int} {l : Str} (hs : 0 ≤ st ∧ st < t.states.length) (e : nextS t st l = some n) : 0 ≤ n ∧ n < t.states.length := by
  unfold nextS at e
  have hm := getI_mem (d := (([], []) : TB.XSt)) hs
  generalize getI t.states ([], []) st = s at e hm
  cases hf : s.1.find? fun g => decide (g.1 = l) with
  | none => rw [hf] at e; cases e
  | some g => rw [hf] at e; cases e; exact (h.go s hm g (List.mem_of_find?_eq_some hf)).2
theorem steps_in (h : WB W) {sc : Int} (hs : 0 ≤ sc ∧ sc < W.net.scopes.length) : ∀ x ∈ steps W sc, StepOk W.net.scopes.length W.net.quests.length x := (h.net.sc _ (getI_mem (d := (([], []) : ND.Scope)) hs)).1
theorem inside_to (h : WB W) {t n : Int} (ht : 0 ≤ t ∧ t < W.net.things.length) (e : inside W.net W.ans t = .to n) : 0 ≤ n ∧ n < W.net.scopes.length := by
  unfold inside at e
  have hm := getI_mem (d := Thing.plain) ht
  generalize getI W.net.things .plain t = x at e hm
  cases x with
  | plain => cases e
  | part s => cases e; exact h.net.th _ hm
  | sort q =>
    have hq := (inOk h).sort _ hm
    have hm2 := getI_mem (d := Ans.opn) hq
    dsimp only at e
    generalize getI W.ans .opn q = y at e hm2
    cases y with
    | opn => cases e
    | none_ a => cases e
    | torn a => cases e
    | thing u =>
      have hm3 := getI_mem (d := Thing.plain) ((inOk h).ans u hm2)
      dsimp only at e
      generalize getI W.net.things .plain u = z at e hm3
      cases z with
      | plain => cases e
      | part s => cases e; exact h.net.th _ hm3
      | sort q => cases e
theorem by_ok (h : WB W) {x : ND.Step} (hx : StepOk W.net.scopes.length W.net.quests.length x) (hb : x.by_ = true) : 0 ≤ x.num ∧ x.num < W.ans.length := by
  have h2 := hx.2.2
  rw [if_pos hb] at h2
  exact ⟨hx.2.1, by rw [h.len]; exact h2⟩
theorem goal_to (h : WB W) {x : ND.Step} {n : Int} (hx : StepOk W.net.scopes.length W.net.quests.length x) (e : goal W.net W.ans x = .to n) : 0 ≤ n ∧ n < W.net.scopes.length := by
  unfold goal at e
  by_cases hb : x.by_ = true
  · rw [if_pos hb] at e
    have hm := getI_mem (d := Ans.opn) (by_ok h hx hb)
    generalize getI W.ans .opn x.num = y at e hm
    cases y with
    | opn => cases e
    | none_ a => cases e
    | torn a => cases e
    | thing u => exact inside_to h ((inOk h).ans u hm) e
  · rw [if_neg hb] at e
    have h2 := hx.2.2
    rw [if_neg hb] at h2
    cases e
    exact ⟨hx.2.1, h2⟩
theorem leads_some {x : ND.Step} {p : Int × Int} (e : leads W r x = some p) : nextS W.tab r.st x.lab = some p.2 ∧ goal W.net W.ans x = .to p.1 ∧ p.1 ≠ r.sc ∧ p.1 ∉ r.ms.map (·.sc) := by
  unfold leads at e
  cases h1 : nextS W.tab r.st x.lab with
  | none => rw [h1] at e; cases e
  | some t =>
    rw [h1] at e
    dsimp only at e
    cases h2 : goal W.net W.ans x with
    | opn a => rw [h2] at e; cases e
    | no => rw [h2] at e; cases e
    | to n =>
      rw [h2] at e
      dsimp only at e
      by_cases c : n = r.sc ∨ n ∈ r.ms.map (·.sc)
      · rw [if_pos c] at e; cases e
      · rw [if_neg c] at e; cases e
        exact ⟨rfl, rfl, fun z => c (.inl z), fun z => c (.inr z)⟩
theorem lgr_some {i : Nat} {x : ND.Step} (h : lgr W r i x = some q) : leads W r x = some (q.sc, q.st) ∧ q.ms = r.ms ++ [⟨r.sc, i⟩] := by
  unfold lgr at h
  cases e : leads W r x with
  | none => rw [e] at h; cases h
  | some p => rw [e] at h; cases h; exact ⟨rfl, rfl⟩
theorem lgr_ok (h : WB W) (hr : RowOk W r) {i : Nat} {x : ND.Step} (hx : (steps W r.sc)[i]? = some x) (e : lgr W r i x = some q) : RowOk W q := by
  obtain ⟨e1, e2⟩ := lgr_some e
  obtain ⟨h1, h2, h3, h4⟩ := leads_some e1
  have hi := (List.getElem?_eq_some_iff.mp hx).1
  refine ⟨goal_to h (steps_in h hr.sc x (List.mem_of_getElem? hx)) h2, nextS_ok h.tab hr.st h1, fun m hm => ?_, ?_⟩
  · rw [e2] at hm
    rcases List.mem_append.mp hm with hm | hm
    · exact hr.ms m hm
    · simp at hm; subst hm
      exact ⟨hr.sc, by dsimp only; omega, by dsimp only; omega⟩
  · rw [e2, List.map_append]
    refine List.nodup_append.mpr ⟨hr.nd, by simp, fun a ha b hb e => ?_⟩
    simp at hb
    subst hb; subst e
    rcases List.mem_append.mp ha with ha | ha
    · exact h4 ha
    · simp at ha; exact h3 ha
theorem longer_ok (h : WB W) (hr : RowOk W r) (hq : q ∈ longer W r) : RowOk W q := by
  obtain ⟨j, x, h1, h2⟩ := mem_longer.mp hq
  exact lgr_ok h hr h1 h2
theorem nd_le {α : Type} [DecidableEq α] : ∀ {l m : List α}, l.Nodup → (∀ x ∈ l, x ∈ m) → l.length ≤ m.length
  | [], m, _, _ => Nat.zero_le _
  | x :: l, m, nd, h => by
    obtain ⟨h1, h2⟩ := List.nodup_cons.mp nd
    have := nd_le (l := l) (m := m.erase x) h2 fun y hy => (List.mem_erase_of_ne fun e => h1 (by rw [← e]; exact hy)).mpr (h y (List.mem_cons_of_mem _ hy))
    have hx := h x List.mem_cons_self
    rw [List.length_erase_of_mem hx] at this
    have := List.length_pos_of_mem hx
    rw [List.length_cons]; omega
theorem RowOk.len (h : RowOk W r) : r.ms.length < W.net.scopes.length := by
  have := nd_le (m := (List.range W.net.scopes.length).map fun n : Nat => (n : Int)) h.nd fun x hx => by
    have hb : 0 ≤ x ∧ x < W.net.scopes.length := by
      rcases List.mem_append.mp hx with hx | hx
      · obtain ⟨m, hm, rfl⟩ := List.mem_map.mp hx
        exact (h.ms m hm).1
      · simp at hx; subst hx; exact h.sc
    exact List.mem_map.mpr ⟨x.toNat, List.mem_range.mpr (by omega), by omega⟩
  simp at this
  omega
/-! gone step by step -/
inductive Gone (W : World) (sc st : Int) : Row → Prop
  | nil : Gone W sc st ⟨[], sc, st⟩
  | step {r q : Row} : Gone W sc st r → q ∈ longer W r → Gone W sc st q
variable {sc st : Int}
theorem Gone.ok (h : WB W) (h0 : RowOk W ⟨[], sc, st⟩) (g : Gone W sc st r) : RowOk W r := by
  induction g with
  | nil => exact h0
  | step _ hq ih => exact longer_ok h ih hq
theorem Gone.fn (g : Gone W sc st r) : ∀ {q : Row}, Gone W sc st q → r.ms = q.ms → r = q := by
  induction g with
  | nil =>
    intro q g e
    cases g with
    | nil => rfl
    | step _ hq => obtain ⟨i, h⟩ := longer_ms hq; rw [h] at e; simp at e
  | step g hq ih =>
    intro q g2 e
    obtain ⟨i, x, h1, h2⟩ := mem_longer.mp hq
    cases g2 with
    | nil => rw [lgr_ms h2] at e; simp at e
    | step g3 hq3 =>
      obtain ⟨j, y, k1, k2⟩ := mem_longer.mp hq3
      rw [lgr_ms h2, lgr_ms k2] at e
      obtain ⟨e1, e2⟩ := List.append_inj' e rfl
      have e3 := ih g3 e1
      subst e3
      simp at e2
      have e2 : i = j := by omega
      subst e2
      rw [h1] at k1; cases k1
      rw [h2] at k2; cases k2
      rfl
theorem Gone.at (g : Gone W sc st r) : ∀ {j : Nat} {m : Mk}, r.ms[j]? = some m → ∃ (p q : Row) (x : ND.Step) (i : Nat), Gone W sc st p ∧ p.ms = r.ms.take j ∧ m = ⟨p.sc, i⟩ ∧ (steps W p.sc)[i]? = some x ∧ lgr W p i x = some q ∧ Gone W sc st q ∧ q.ms = r.ms.take (j + 1) := by
  induction g with
  | nil => intro j m h; simp at h
  | @step p q g hq ih =>
    intro j m h
    obtain ⟨i, x, h1, h2⟩ := mem_longer.mp hq
    have e := lgr_ms h2
    by_cases c : j < p.ms.length
    · rw [e, List.getElem?_append_left c] at h
      obtain ⟨p2, q2, x2, i2, k1, k2, k3, k4, k5, k6, k7⟩ := ih h
      refine ⟨p2, q2, x2, i2, k1, ?_, k3, k4, k5, k6, ?_⟩
      · rw [k2, e, List.take_append_of_le_length (by omega)]
      · rw [k7, e, List.take_append_of_le_length (by omega)]
    · have hl := (List.getElem?_eq_some_iff.mp h).1
      have hj : j = p.ms.length := by rw [e] at hl; simp at hl; omega
      rw [e, List.getElem?_append_right (by omega), hj, Nat.sub_self] at h
      cases h
      refine ⟨p, q, x, i, g, ?_, rfl, h1, h2, .step g hq, ?_⟩
      · rw [e, hj, List.take_left]
      · rw [e, hj, ← e, List.take_of_length_le (by rw [e]; simp)]
/-! a row of rows, the first k of them gone on -/
structure BfJ (W : World) (sc st : Int) (rows : List Row) (k : Nat) : Prop where
  le : k ≤ rows.length
  go : ∀ r ∈ rows, Gone W sc st r
  hd : ⟨[], sc, st⟩ ∈ rows
  cl : ∀ (i : Nat) (r : Row), i < k → rows[i]? = some r → ∀ q ∈ longer W r, q ∈ rows
  fr : ∀ q ∈ rows, q.ms = [] ∨ ∃ (i : Nat) (r : Row), i < k ∧ rows[i]? = some r ∧ q ∈ longer W r
  nd : rows.Nodup
structure BfI (W : World) (B : Nat) (sc st : Int) (rows : List Row) (k : Nat) : Prop extends BfJ W sc st rows k where
  wt : k + ((rows.drop k).map fun r => wt B (W.net.scopes.length - r.ms.length)).sum ≤ wt B W.net.scopes.length
theorem BfJ.start : BfJ W sc st [⟨[], sc, st⟩] 0 :=
  ⟨Nat.zero_le _, fun r hr => by simp at hr; subst hr; exact .nil, by simp, fun _ _ h => absurd h (by omega), fun q hq => by simp at hq; subst hq; exact .inl rfl, by simp⟩
theorem BfI.start {B : Nat} : BfI W B sc st [⟨[], sc, st⟩] 0 := ⟨.start, by simp⟩
theorem sum_le {α : Type} {f : α → Nat} {c : Nat} : ∀ {l : List α}, (∀ x ∈ l, f x ≤ c) → (l.map f).sum ≤ l.length * c
  | [], _ => by simp
  | x :: l, h => by
    have h1 := h x List.mem_cons_self
    have h2 := sum_le (l := l) fun y hy => h y (List.mem_cons_of_mem _ hy)
    rw [List.map_cons, List.sum_cons, List.length_cons, Nat.add_mul]; omega
theorem le_sum {α : Type} {f : α → Nat} : ∀ {l : List α}, (∀ x ∈ l, 1 ≤ f x) → l.length ≤ (l.map f).sum
  | [], _ => by simp
  | x :: l, h => by
    have h1 := h x List.mem_cons_self
    have h2 := le_sum (l := l) fun y hy => h y (List.mem_cons_of_mem _ hy)
    rw [List.map_cons, List.sum_cons, List.length_cons]; omega
theorem BfI.len {B : Nat} {rows : List Row} {k : Nat} (h : BfI W B sc st rows k) : rows.length ≤ WY.wt B W.net.scopes.length := by
  have h1 := h.wt
  have h2 := le_sum (f := fun r : Row => WY.wt B (W.net.scopes.length - r.ms.length)) (l := rows.drop k) fun x _ => wt_pos _
  have h3 := h.le
  rw [List.length_drop] at h2
  omega
theorem BfJ.step {rows : List Row} {k : Nat} (hW : WB W) (h0 : RowOk W ⟨[], sc, st⟩) (h : BfJ W sc st rows k) (hr : rows[k]? = some r) : BfJ W sc st (rows ++ longer W r) (k + 1) := by
  have hk := (List.getElem?_eq_some_iff.mp hr).1
  have hrm := List.mem_of_getElem? hr
  have hro := (h.go r hrm).ok hW h0
  refine ⟨by rw [List.length_append]; omega, fun x hx => ?_, List.mem_append_left _ h.hd, fun i x hi hx q hq => ?_, fun q hq => ?_, ?_⟩
  · rcases List.mem_append.mp hx with hx | hx
    · exact h.go x hx
    · exact .step (h.go r hrm) hx
  · by_cases c : i < k
    · rw [List.getElem?_append_left (by omega)] at hx
      exact List.mem_append_left _ (h.cl i x c hx q hq)
    · have : i = k := by omega
      subst this
      rw [List.getElem?_append_left hk, hr] at hx
      cases hx
      exact List.mem_append_right _ hq
  · rcases List.mem_append.mp hq with hq | hq
    · rcases h.fr q hq with e | ⟨i, x, h1, h2, h3⟩
      · exact .inl e
      · exact .inr ⟨i, x, by omega, by rw [List.getElem?_append_left (by omega)]; exact h2, h3⟩
    · exact .inr ⟨k, r, by omega, by rw [List.getElem?_append_left hk]; exact hr, hq⟩
  · refine List.nodup_append.mpr ⟨h.nd, lgrs_nodup, fun a ha b hb e => ?_⟩
    subst e
    obtain ⟨i, hi⟩ := longer_ms hb
    rcases h.fr a ha with e | ⟨j, x, h1, h2, h3⟩
    · rw [hi] at e; simp at e
    · obtain ⟨i2, hi2⟩ := longer_ms h3
      rw [hi] at hi2
      obtain ⟨e1, _⟩ := List.append_inj' hi2 rfl
      have e2 := (h.go r hrm).fn (h.go x (List.mem_of_getElem? h2)) e1
      subst e2
      have := (List.getElem?_inj (List.getElem?_eq_some_iff.mp h2).1 h.nd).mp (h2.trans hr.symm)
      omega
theorem BfI.step {B : Nat} {rows : List Row} {k : Nat} (hW : WB W) (hB : ∀ s ∈ W.net.scopes, s.1.length ≤ B) (h0 : RowOk W ⟨[], sc, st⟩) (h : BfI W B sc st rows k) (hr : rows[k]? = some r) : BfI W B sc st (rows ++ longer W r) (k + 1) := by
  have hk := (List.getElem?_eq_some_iff.mp hr).1
  have hrm := List.mem_of_getElem? hr
  have hro := (h.go r hrm).ok hW h0
  refine ⟨h.toBfJ.step hW h0 hr, ?_⟩
  have h1 := h.wt
  have e : rows.drop k = r :: rows.drop (k + 1) := by
    obtain ⟨_, e⟩ := List.getElem?_eq_some_iff.mp hr
    rw [← e]; exact List.drop_eq_getElem_cons hk
  rw [e, List.map_cons, List.sum_cons] at h1
  have hlen := hro.len
  rw [List.drop_append_of_le_length (by omega), List.map_append, List.sum_append]
  have h2 : ((longer W r).map fun r => WY.wt B (W.net.scopes.length - r.ms.length)).sum ≤ B * WY.wt B (W.net.scopes.length - r.ms.length - 1) := by
    have h3 := sum_le (f := fun r : Row => WY.wt B (W.net.scopes.length - r.ms.length)) (c := WY.wt B (W.net.scopes.length - r.ms.length - 1)) (l := longer W r) fun q hq => by
      obtain ⟨i, hi⟩ := longer_ms hq
      rw [hi, List.length_append, List.length_singleton, show W.net.scopes.length - (r.ms.length + 1) = W.net.scopes.length - r.ms.length - 1 by omega]
      exact Nat.le_refl _
    have h4 : (longer W r).length ≤ B := Nat.le_trans lgrs_len (hB _ (getI_mem (d := (([], []) : ND.Scope)) hro.sc))
    exact Nat.le_trans h3 (Nat.mul_le_mul_right _ h4)
  have h5 : WY.wt B (W.net.scopes.length - r.ms.length) = 1 + B * WY.wt B (W.net.scopes.length - r.ms.length - 1) := by
    rw [show W.net.scopes.length - r.ms.length = (W.net.scopes.length - r.ms.length - 1) + 1 by omega]
    rfl
  rw [h5] at h1
  omega
theorem BfJ.done {rows : List Row} (h : BfJ W sc st rows rows.length) : ∀ r, r ∈ rows ↔ Gone W sc st r := fun r => ⟨h.go r, fun g => by
  induction g with
  | nil => exact h.hd
  | step _ hq ih =>
    obtain ⟨i, hi⟩ := List.getElem?_of_mem ih
    exact h.cl i _ (List.getElem?_eq_some_iff.mp hi).1 hi _ hq⟩
/-! how many there may be -/
theorem BfI.end_ {B : Nat} (hW : WB W) (hB : ∀ s ∈ W.net.scopes, s.1.length ≤ B) (h0 : RowOk W ⟨[], sc, st⟩) : ∀ (m : Nat) (rows : List Row) (k : Nat), BfI W B sc st rows k → WY.wt B W.net.scopes.length ≤ k + m → ∃ rows, BfI W B sc st rows rows.length
  | 0, rows, k, h, hm => by
    have h1 := h.len
    have h2 := h.le
    have e : k = rows.length := by omega
    subst e
    exact ⟨_, h⟩
  | m + 1, rows, k, h, hm => by
    by_cases c : k < rows.length
    · exact BfI.end_ hW hB h0 m _ _ (h.step hW hB h0 (List.getElem?_eq_getElem c)) (by omega)
    · have h2 := h.le
      have e : k = rows.length := by omega
      subst e
      exact ⟨_, h⟩
theorem few_of_wt {B : Nat} (hW : WB W) (hB : ∀ s ∈ W.net.scopes, s.1.length ≤ B) (hw : WY.wt B W.net.scopes.length ≤ 200) (h0 : RowOk W ⟨[], sc, st⟩) (rs : List Row) (nd : rs.Nodup) (hg : ∀ r ∈ rs, Gone W sc st r) : rs.length ≤ 200 := by
  obtain ⟨rows, h⟩ := BfI.end_ hW hB h0 _ _ _ BfI.start (Nat.le_add_left _ _)
  have h1 := nd_le nd (m := rows) fun x hx => (h.done x).mpr (hg x hx)
  have := h.len
  omega
/-- all of it; no look has too many beginnings -/
structure WOk (W : World) : Prop extends WB W where
  s40 : W.net.scopes.length ≤ 40
  tl : ∀ s ∈ W.net.scopes, s.1.length ≤ 12 ∧ s.2.length ≤ 12
  few : ∀ ans, ans.length = W.net.quests.length → (∀ x ∈ ans, AnsOk W.net.things.length x) → ∀ sc st : Int, 0 ≤ sc ∧ sc < W.net.scopes.length → 0 ≤ st ∧ st < W.tab.states.length →
    ∀ rs : List Row, rs.Nodup → (∀ r ∈ rs, Gone ⟨W.net, ans, W.tab⟩ sc st r) → rs.length ≤ 200
theorem WOk.few1 (h : WOk W) (h0 : RowOk W ⟨[], sc, st⟩) {rs : List Row} (nd : rs.Nodup) (hg : ∀ r ∈ rs, Gone W sc st r) : rs.length ≤ 200 := h.few W.ans h.len h.an sc st h0.sc h0.st rs nd hg
/-- other answers -/
theorem WOk.with_ (h : WOk W) {ans : List Ans} (hl : ans.length = W.net.quests.length) (ha : ∀ x ∈ ans, AnsOk W.net.things.length x) : WOk ⟨W.net, ans, W.tab⟩ := ⟨⟨h.net, hl, ha, h.tab, h.qst⟩, h.s40, h.tl, h.few⟩
theorem WOk.of_wt (h : WB W) {B : Nat} (hB : ∀ s ∈ W.net.scopes, s.1.length ≤ B) (hw : WY.wt B W.net.scopes.length ≤ 200) (s40 : W.net.scopes.length ≤ 40) (tl : ∀ s ∈ W.net.scopes, s.1.length ≤ 12 ∧ s.2.length ≤ 12) : WOk W :=
  ⟨h, s40, tl, fun ans hl ha sc st h1 h2 rs nd hg => few_of_wt (W := ⟨W.net, ans, W.tab⟩) ⟨h.net, hl, ha, h.tab, h.qst⟩ hB hw ⟨h1, h2, fun _ hm => (by cases hm), by simp⟩ rs nd hg⟩
/-! as data -/
end
theorem eqv_mk (a b : Mk) : PyData.eqv (eMk a) (eMk b) = decide (a = b) := by
  obtain ⟨x, y⟩ := a
  obtain ⟨u, v⟩ := b
  simp [eMk, PyData.eqv, PyData.eqvAll]
  by_cases h : x = u <;> by_cases h2 : y = v <;> simp [h, h2]
theorem eqv_mks : ∀ a b : List Mk, PyData.eqvAll (a.map eMk) (b.map eMk) = decide (a = b)
  | [], [] => by simp [PyData.eqvAll]
  | [], b :: bs => by simp [PyData.eqvAll]
  | a :: as, [] => by simp [PyData.eqvAll]
  | a :: as, b :: bs => by
    rw [List.map_cons, List.map_cons, PyData.eqvAll, eqv_mk, eqv_mks as bs]
    by_cases h : a = b <;> by_cases h2 : as = bs <;> simp [h, h2]
theorem alike_mk (a b : Mk) : PySem.W.alike (eMk a) (eMk b) = true := by simp [eMk, PySem.W.alike, PySem.W.alikeAll]
theorem alike_mks : ∀ a b : List Mk, PySem.W.alikeAll (a.map eMk) (b.map eMk) = true
  | [], b => by cases b <;> simp [PySem.W.alikeAll]
  | a :: as, [] => by simp [PySem.W.alikeAll]
  | a :: as, b :: bs => by
    rw [List.map_cons, List.map_cons, PySem.W.alikeAll, alike_mk, alike_mks as bs]; rfl
theorem alike_row (a b : Row) : PySem.W.alike (eRow a) (eRow b) = true := by
  simp only [eRow, PySem.W.alike, PySem.W.alikeAll, alike_mks, Bool.and_self]
theorem eqv_row {a b : Row} (h : PyData.eqv (eRow a) (eRow b) = true) : a = b := by
  obtain ⟨x, y, z⟩ := a
  obtain ⟨u, v, w⟩ := b
  simp only [eRow, PyData.eqv, PyData.eqvAll, eqv_mks] at h
  simp at h
  obtain ⟨rfl, rfl, rfl⟩ := h
  rfl
end WY

set_option Elab.async false
set_option linter.all false
set_option maxRecDepth 100000
/-! KD, part 1: rows that hold one fresh list each, in the store -/
namespace KD
open PySem L2 PL
structure Kd (α : Type) where
  o : α → Ob
  d : Nat → α → D
  e : α → PyData
  r : α → RT
  vw : ∀ (S : Sto) (n : Nat) (a : α), S[n]? = some (o a) → Vw S (d n a) (e a)
  vr : ∀ (S : Sto) (U : List Nat) (n : Nat) (a : α), S[n]? = some (o a) → VR S U (d n a) (r a) [n]
  al : ∀ (a : α) (L : Nat), al (r a) L = (d L a, [o a])
def newK {α : Type} : Nat → List α → List (Nat × α)
  | _, [] => []
  | L, r :: rs => (L, r) :: newK (L + 1) rs
section
variable {α : Type}
theorem newK_len : ∀ (L : Nat) (rs : List α), (newK L rs).length = rs.length
  | _, [] => rfl
  | L, r :: rs => by rw [newK, List.length_cons, List.length_cons, newK_len]
theorem newK_snd : ∀ (L : Nat) (rs : List α), (newK L rs).map (·.2) = rs
  | _, [] => rfl
  | L, r :: rs => by rw [newK, List.map_cons, newK_snd]
theorem newK_b : ∀ (L : Nat) (rs : List α), ∀ p ∈ newK L rs, L ≤ p.1 ∧ p.1 < L + rs.length
  | _, [], _, h => by cases h
  | L, r :: rs, p, h => by
    rw [newK] at h
    rw [List.length_cons]
    rcases List.mem_cons.mp h with rfl | h
    · exact ⟨Nat.le_refl _, by dsimp only; omega⟩
    · have := newK_b _ _ p h; omega
theorem newK_nd : ∀ (L : Nat) (rs : List α), ((newK L rs).map (·.1)).Nodup
  | _, [] => List.nodup_nil
  | L, r :: rs => by
    rw [newK, List.map_cons]
    refine List.nodup_cons.mpr ⟨fun h => ?_, newK_nd _ _⟩
    obtain ⟨p, hp, e⟩ := List.mem_map.mp h
    have := newK_b _ _ p hp
    dsimp only at e
    omega
theorem newK_snoc : ∀ (L : Nat) (rs : List α) (r : α), newK L (rs ++ [r]) = newK L rs ++ [(L + rs.length, r)]
  | _, [], _ => rfl
  | L, a :: rs, r => by
    rw [List.cons_append, newK, newK_snoc, newK, List.cons_append, List.length_cons, show L + 1 + rs.length = L + (rs.length + 1) by omega]
end
section
variable {α : Type} {k : Kd α} {S T : Sto} {ps : List (Nat × α)}
def Kd.dd (k : Kd α) (p : Nat × α) : D := k.d p.1 p.2
def In (k : Kd α) (S : Sto) (ps : List (Nat × α)) : Prop := ∀ p ∈ ps, S[p.1]? = some (k.o p.2)
theorem In.nil : In k S [] := fun _ h => by cases h
theorem In.tail {p : Nat × α} (h : In k S (p :: ps)) : In k S ps := fun q hq => h q (List.mem_cons_of_mem _ hq)
theorem In.vws' : ∀ {ps : List (Nat × α)}, In k S ps → Vws S (ps.map k.dd) (ps.map fun p => k.e p.2)
  | [], _ => .nil
  | p :: ps, h => .cons (k.vw _ _ _ (h p List.mem_cons_self)) (In.vws' h.tail)
theorem In.vws (h : In k S ps) {xs : List α} (e : ps.map (·.2) = xs) : Vws S (ps.map k.dd) (xs.map k.e) := by
  have := h.vws'
  rw [← e, List.map_map]; exact this
theorem In.vrs' {U : List Nat} : ∀ {ps : List (Nat × α)}, In k S ps → VRs S U (ps.map k.dd) (ps.map fun p => k.r p.2) (ps.map (·.1))
  | [], _ => .nil
  | p :: ps, h => .cons (ns := [p.1]) (k.vr _ _ _ _ (h p List.mem_cons_self)) (In.vrs' h.tail)
theorem In.vrs {U : List Nat} (h : In k S ps) {xs : List α} (e : ps.map (·.2) = xs) : VRs S U (ps.map k.dd) (xs.map k.r) (ps.map (·.1)) := by
  have := h.vrs' (U := U)
  rw [← e, List.map_map]; exact this
theorem In.keep {S2 : Sto} {U : List Nat} (h : In k S ps) (q : Keep U S S2) (d : ∀ p ∈ ps, p.1 ∉ U) : In k S2 ps := fun p hp => q _ _ (d p hp) (h p hp)
theorem In.app (h : In k S ps) : In k (S ++ T) ps := fun p hp => sto_app (h p hp)
theorem In.set {n : Nat} {o : Ob} (h : In k S ps) (d : ∀ p ∈ ps, p.1 ≠ n) : In k (S.set n o) ps := fun p hp => by
  rw [List.getElem?_set_ne (fun e => d p hp e.symm)]; exact h p hp
theorem In.snoc {p : Nat × α} (h : In k S ps) (q : S[p.1]? = some (k.o p.2)) : In k S (ps ++ [p]) := fun x hx => by
  rcases List.mem_append.mp hx with hx | hx
  · exact h x hx
  · simp at hx; subst hx; exact q
theorem In.lt (h : In k S ps) : ∀ p ∈ ps, p.1 < S.length := fun p hp => (List.getElem?_eq_some_iff.mp (h p hp)).1
theorem newK_in : ∀ (rs : List α) (S T : Sto) (L : Nat), S.length = L → In k (S ++ (rs.map k.o ++ T)) (newK L rs)
  | [], _, _, _, _ => .nil
  | r :: rs, S, T, L, e => by
    rw [newK]
    intro p hp
    rcases List.mem_cons.mp hp with rfl | hp
    · subst e; exact sto_r0
    · have := newK_in rs (S ++ [k.o r]) T (L + 1) (by simp [e])
      rw [List.append_assoc] at this
      exact this p hp
theorem als_k : ∀ (rs : List α) (L : Nat), als (rs.map k.r) L = ((newK L rs).map k.dd, rs.map k.o)
  | [], L => by simp [als, newK]
  | r :: rs, L => by
    rw [List.map_cons, als, k.al, als_k rs, newK]
    simp [Kd.dd]
theorem al_k (rs : List α) (L : Nat) : al (.l (rs.map k.r)) L = (.r (L + rs.length), rs.map k.o ++ [.lst ((newK L rs).map k.dd)]) := by
  unfold PL.al
  rw [als_k, List.length_map]
theorem k_place (S : Sto) (rs : List α) : (S ++ (rs.map k.o ++ [Ob.lst ((newK S.length rs).map k.dd)]))[S.length + rs.length]? = some (.lst ((newK S.length rs).map k.dd)) := by
  rw [List.getElem?_append_right (by omega), List.getElem?_append_right (by rw [List.length_map]; omega), List.length_map, Nat.add_sub_cancel_left, Nat.sub_self]; rfl
theorem k_at (S : Sto) (rs : List α) : Vw (S ++ (rs.map k.o ++ [Ob.lst ((newK S.length rs).map k.dd)])) (.r (S.length + rs.length)) (.list (rs.map k.e)) :=
  .r (k_place S rs) ((newK_in rs S _ S.length rfl).vws (newK_snd _ _))
/-- the list of such rows that a call hands back -/
structure Got (k : Kd α) (S S2 : Sto) (n : Nat) (ps : List (Nat × α)) (rs : List α) : Prop where
  old : ∀ (m : Nat) (o : Ob), S[m]? = some o → S2[m]? = some o
  l : S2[n]? = some (.lst (ps.map k.dd))
  i : In k S2 ps
  s : ps.map (·.2) = rs
  nd : (ps.map (·.1)).Nodup
  b : ∀ p ∈ ps, S.length ≤ p.1 ∧ p.1 < n
  n : S.length ≤ n
theorem Got.len {S2 : Sto} {n : Nat} {rs : List α} (h : Got k S S2 n ps rs) : ps.length = rs.length := by rw [← h.s, List.length_map]
theorem Got.mem {S2 : Sto} {n : Nat} {rs : List α} (h : Got k S S2 n ps rs) : ∀ p ∈ ps, p.2 ∈ rs := fun p hp => by rw [← h.s]; exact List.mem_map_of_mem hp
theorem Got.vw {S2 : Sto} {n : Nat} {rs : List α} (h : Got k S S2 n ps rs) : Vw S2 (.r n) (.list (rs.map k.e)) := .r h.l (h.i.vws h.s)
theorem got_call {rs : List α} {K : K1} (h : ∀ (S2 : Sto) (n : Nat) (ps : List (Nat × α)), Got k S S2 n ps rs → K (.r n) S2) : K (al (.l (rs.map k.r)) S.length).1 (S ++ (al (.l (rs.map k.r)) S.length).2) := by
  rw [al_k]
  exact h _ _ _ ⟨fun _ _ => sto_app, k_place S rs, newK_in rs S _ S.length rfl, newK_snd _ _, newK_nd _ _, newK_b _ _, Nat.le_add_right _ _⟩
theorem gotq_call {β : Type} {enc : β → List PyData} {pre : β → Prop} {post : β → List α → Prop} {ds : List D} {K : K1} {KX : KF} (k : Kd α) (a : β) (v : Vws S ds (enc a)) (hp : pre a) (h : ∀ rs, post a rs → ∀ (S2 : Sto) (n : Nat) (ps : List (Nat × α)), Got k S S2 n ps rs → K (.r n) S2) : pCall (frr (fsrq enc pre post fun rs => .l (rs.map k.r))) ds S K KX :=
  fsrq_call a v hp fun rs hr => got_call fun S2 n ps hG => h rs hr S2 n ps hG
theorem gotr_call {β : Type} {enc : β → List PyData} {pre : β → Prop} {out : β → List α} {ds : List D} {K : K1} {KX : KF} (k : Kd α) (a : β) (v : Vws S ds (enc a)) (hp : pre a) (h : ∀ (S2 : Sto) (n : Nat) (ps : List (Nat × α)), Got k S S2 n ps (out a) → K (.r n) S2) : pCall (frr (fsr enc pre fun a => .l ((out a).map k.r))) ds S K KX :=
  fsr_call a v hp (got_call fun S2 n ps hG => h S2 n ps hG)
theorem vr_list {n : Nat} {U : List Nat} {xs : List α} (l : S[n]? = some (.lst (ps.map k.dd))) (i : In k S ps) (e : ps.map (·.2) = xs) (nd : (ps.map (·.1)).Nodup) (ne : ∀ p ∈ ps, p.1 ≠ n) (K : K1) (h : ∀ U, VR S U (.r n) (.l (xs.map k.r)) U → U.Nodup → K (.r n) S) : K (.r n) S := by
  refine h (ps.map (·.1) ++ [n]) (.l l (i.vrs e)) (List.nodup_append.mpr ⟨nd, by simp, fun a ha b hb e => ?_⟩)
  obtain ⟨p, hp, rfl⟩ := List.mem_map.mp ha
  simp at hb
  exact ne p hp (e.trans hb)
theorem sort_k {n : Nat} {K : K1} (h : S[n]? = some (.lst (ps.map k.dd))) (hi : In k S ps) (hz : ps.length ≤ 10000) (ha : PySem.W.AllAlike (ps.map fun p => k.e p.2)) (hs : PySem.W.Sortable (ps.map fun p => k.e p.2)) (hd : ∀ p ∈ ps, (k.e p.2).depth ≤ 64)
    (q : K (.r S.length) (S ++ [.lst ((ps.mergeSort (PySem.W.dataLe false fun p => k.e p.2)).map k.dd)])) : SortOk S (.r n) K := by
  have e2 : (ps.map fun p => (k.dd p, k.e p.2)).map (·.2) = ps.map fun p => k.e p.2 := by rw [List.map_map]; rfl
  refine ⟨.inl ⟨ps.map fun p => (k.dd p, k.e p.2), ⟨by rw [lsD_at h, List.map_map]; rfl, fun b hb => ?_, by rw [e2]; exact ha, by rw [e2]; exact hs, fun b hb => ?_, by rw [List.length_map]; exact sz_le6 (by omega)⟩, ?_⟩⟩
  · obtain ⟨p, hp, rfl⟩ := List.mem_map.mp hb
    exact k.vw _ _ _ (hi p hp)
  · obtain ⟨p, hp, rfl⟩ := List.mem_map.mp hb
    exact hd p hp
  · have e : ((sortB (ps.map fun p => (k.dd p, k.e p.2))).map (·.1)) = (ps.mergeSort (PySem.W.dataLe false fun p => k.e p.2)).map k.dd := by
      unfold sortB
      rw [← List.map_mergeSort (f := fun p => (k.dd p, k.e p.2)) (r := PySem.W.dataLe false fun p => k.e p.2) (l := ps) (fun a _ b _ => rfl), List.map_map]
      rfl
    rw [e]; exact q
/-- sorted, and handed back -/
theorem sort_ret {n : Nat} {xs : List α} {K : K1} (h : S[n]? = some (.lst (ps.map k.dd))) (hi : In k S ps) (e : ps.map (·.2) = xs) (nd : (ps.map (·.1)).Nodup) (hz : ps.length ≤ 10000) (ha : PySem.W.AllAlike (ps.map fun p => k.e p.2)) (hs : PySem.W.Sortable (ps.map fun p => k.e p.2)) (hd : ∀ a ∈ xs, (k.e a).depth ≤ 64)
    (q : ∀ (m : Nat) (S' : Sto) (U : List Nat), VR S' U (.r m) (.l ((xs.mergeSort (PySem.W.dataLe false k.e)).map k.r)) U → U.Nodup → K (.r m) S') : SortOk S (.r n) K := by
  refine sort_k h hi hz ha hs (fun p hp => hd _ (by rw [← e]; exact List.mem_map_of_mem hp)) ?_
  have hp := List.mergeSort_perm ps (PySem.W.dataLe false fun p => k.e p.2)
  have e2 : (ps.mergeSort (PySem.W.dataLe false fun p => k.e p.2)).map (·.2) = xs.mergeSort (PySem.W.dataLe false k.e) := by
    rw [← e]
    exact List.map_mergeSort (fun a _ b _ => rfl)
  refine vr_list (U := []) sto_last (fun x hx => sto_app (hi x (hp.mem_iff.mp hx))) e2 ((hp.map _).nodup_iff.mpr nd) (fun p hp2 => ?_) K (q _ _)
  have := hi.lt p (hp.mem_iff.mp hp2)
  omega
end
end KD

set_option Elab.async false
set_option linter.all false
set_option maxRecDepth 100000
/-! KD, part 2: a list of such rows under way -/
namespace KD
open PySem L2 PL
structure Put {α : Type} (k : Kd α) (S2 S : Sto) (n0 : Nat) (qs : List (Nat × α)) (xs : List α) : Prop where
  l : S[n0]? = some (.lst (qs.map k.dd))
  i : In k S qs
  e : qs.map (·.2) = xs
  nd : (qs.map (·.1)).Nodup
  b : ∀ q ∈ qs, S2.length ≤ q.1
  k : Keep [n0] S2 S
  z : n0 < S2.length
variable {α : Type} {k : Kd α}
theorem Put.new {S : Sto} {n0 : Nat} (h : S[n0]? = some (.lst [])) : Put k S S n0 [] [] := ⟨h, .nil, rfl, List.nodup_nil, fun _ h => (by cases h), .refl, (List.getElem?_eq_some_iff.mp h).1⟩
theorem Put.len {S2 S : Sto} {n0 : Nat} {qs : List (Nat × α)} {xs : List α} (h : Put k S2 S n0 qs xs) : qs.length = xs.length := by rw [← h.e, List.length_map]
theorem Put.le {S2 S : Sto} {n0 : Nat} {qs : List (Nat × α)} {xs : List α} (h : Put k S2 S n0 qs xs) : S2.length ≤ S.length := by
  have hn := (List.getElem?_eq_some_iff.mp h.l).1
  by_cases c : S2.length ≤ 1
  · have := h.z; omega
  · by_cases c2 : n0 = S2.length - 1
    · have := h.z; omega
    · have h3 : S2.length - 1 < S2.length := by omega
      have := h.k (S2.length - 1) _ (by simp; omega) (List.getElem?_eq_getElem h3)
      have := (List.getElem?_eq_some_iff.mp this).1
      omega
theorem Put.app {S2 S T : Sto} {n0 : Nat} {qs : List (Nat × α)} {xs : List α} (h : Put k S2 S n0 qs xs) : Put k S2 (S ++ T) n0 qs xs := ⟨sto_app h.l, h.i.app, h.e, h.nd, h.b, h.k.trans .app, h.z⟩
theorem Put.push1 {S2 S : Sto} {n0 : Nat} {qs : List (Nat × α)} {xs : List α} (h : Put k S2 S n0 qs xs) {ob : Ob} {w : α} {d : D} (ho : ob = k.o w) (hd : d = k.d S.length w) :
    Put k S2 ((S ++ [ob]).set n0 (.lst (qs.map k.dd ++ [d]))) n0 (qs ++ [(S.length, w)]) (xs ++ [w]) := by
  subst ho; subst hd
  have hn := (List.getElem?_eq_some_iff.mp h.l).1
  have lt := h.i.lt
  have hz := h.le
  refine ⟨?_, ?_, by rw [List.map_append, h.e]; rfl, ?_, fun q hq => ?_, (h.k.trans Keep.app).trans (Keep.set (by simp)), h.z⟩
  · rw [List.getElem?_set_self (by rw [List.length_append]; omega), List.map_append]; rfl
  · refine In.snoc ((h.i.app).set fun q hq => by have := h.b q hq; have := h.z; omega) ?_
    rw [List.getElem?_set_ne (fun z : n0 = S.length => by omega)]
    exact sto_last
  · rw [List.map_append]
    refine List.nodup_append.mpr ⟨h.nd, by simp, fun a ha b hb e => ?_⟩
    obtain ⟨p, hp, rfl⟩ := List.mem_map.mp ha
    have := lt p hp
    simp at hb
    omega
  · rcases List.mem_append.mp hq with hq | hq
    · exact h.b q hq
    · simp at hq; subst hq; dsimp only; omega
theorem Put.push {S2 S : Sto} {n0 : Nat} {qs : List (Nat × α)} {xs : List α} (h : Put k S2 S n0 qs xs) {lit ob : Ob} {w : α} {d : D} (ho : ob = k.o w) (hd : d = k.d (S.length + 1) w) :
    Put k S2 ((S ++ [lit] ++ [ob]).set n0 (.lst (qs.map k.dd ++ [d]))) n0 (qs ++ [(S.length + 1, w)]) (xs ++ [w]) := by
  have := (h.app (T := [lit])).push1 (d := d) ho (by rw [hd, List.length_append]; rfl)
  rw [List.length_append] at this
  exact this
end KD

set_option Elab.async false
set_option linter.all false
set_option maxRecDepth 100000
/-! WY, part 2: ways that are found, ways that are owed -/
namespace WY
open PySem L2 PL ND
structure TMk where
  sc : Int
  told : Bool
  ix : Int
  deriving DecidableEq
def tword (b : Bool) : Str := if b = true then "told" else "step"
def eTM (m : TMk) : PyData := .tuple [.int m.sc, .str (tword m.told), .int m.ix]
def stepM (m : Mk) : TMk := ⟨m.sc, false, m.ix⟩
theorem eTM_step (m : Mk) : eTM (stepM m) = eMk m := rfl
abbrev Way := List TMk
def eWay (w : Way) : PyData := .list (w.map eTM)
def eOwe (p : Way × Int) : PyData := .tuple [eWay p.1, .int p.2]
theorem eTM_steps (ms : List Mk) : (ms.map stepM).map eTM = ms.map eMk := by rw [List.map_map]; rfl
def picks {α β : Type} (f : Nat → α → Option β) : Nat → List α → List β
  | _, [] => []
  | i, x :: xs => (f i x).toList ++ picks f (i + 1) xs
section
variable {α β : Type} {f : Nat → α → Option β}
theorem picks_snoc {x : α} : ∀ {xs : List α} {i : Nat}, picks f i (xs ++ [x]) = picks f i xs ++ (f (i + xs.length) x).toList
  | [], i => by simp [picks]
  | y :: xs, i => by
    rw [List.cons_append]
    unfold picks
    rw [picks_snoc, List.append_assoc, List.length_cons, show i + 1 + xs.length = i + (xs.length + 1) by omega]
theorem mem_picks {q : β} : ∀ {xs : List α} {i : Nat}, q ∈ picks f i xs ↔ ∃ j x, xs[j]? = some x ∧ f (i + j) x = some q
  | [], i => by simp [picks]
  | y :: xs, i => by
    unfold picks
    rw [List.mem_append, mem_picks (xs := xs)]
    constructor
    · rintro (h | ⟨j, x, h1, h2⟩)
      · exact ⟨0, y, rfl, by simpa using h⟩
      · exact ⟨j + 1, x, by simpa using h1, by rw [← h2, show i + (j + 1) = i + 1 + j by omega]⟩
    · rintro ⟨j, x, h1, h2⟩
      cases j with
      | zero => simp at h1; subst h1; exact .inl (by simpa using h2)
      | succ j => exact .inr ⟨j, x, by simpa using h1, by rw [← h2, show i + (j + 1) = i + 1 + j by omega]⟩
theorem picks_len : ∀ {xs : List α} {i : Nat}, (picks f i xs).length ≤ xs.length
  | [], i => Nat.le_refl _
  | y :: xs, i => by
    unfold picks
    rw [List.length_append, List.length_cons]
    have := picks_len (xs := xs) (i := i + 1)
    cases f i y <;> simp <;> omega
theorem picks_take {xs : List α} {i : Nat} {x : α} (h : xs[i]? = some x) : picks f 0 (xs.take (i + 1)) = picks f 0 (xs.take i) ++ (f i x).toList := by
  have hi := (List.getElem?_eq_some_iff.mp h).1
  rw [List.take_add_one, h]
  show picks f 0 (_ ++ [x]) = _
  rw [picks_snoc, List.length_take, Nat.zero_add, Nat.min_eq_left (by omega)]
theorem flat_take {γ : Type} {g : α → List γ} {xs : List α} {i : Nat} {x : α} (h : xs[i]? = some x) : (xs.take (i + 1)).flatMap g = (xs.take i).flatMap g ++ g x := by
  rw [List.take_add_one, h]
  simp
theorem flat_len {γ : Type} {g : α → List γ} {n : Nat} : ∀ {xs : List α}, (∀ x ∈ xs, (g x).length ≤ n) → (xs.flatMap g).length ≤ xs.length * n
  | [], _ => by simp
  | x :: xs, h => by
    rw [List.flatMap_cons, List.length_append, List.length_cons, Nat.add_mul]
    have := flat_len (xs := xs) fun y hy => h y (List.mem_cons_of_mem _ hy)
    have := h x List.mem_cons_self
    omega
end
def endsB (t : TB.XTab) (st : Int) (l : Str) : Bool := decide (l ∈ (getI t.states ([], []) st).2)
def fnd (W : World) (nm : Str) (r : Row) (i : Nat) (x : ND.Tell) : Option Way := if x.name = nm ∧ endsB W.tab r.st x.lab = true then some (r.ms.map stepM ++ [⟨r.sc, true, i⟩]) else none
def finds (W : World) (nm : Str) (r : Row) : List Way := picks (fnd W nm r) 0 (tells W r.sc)
def owd (W : World) (r : Row) (i : Nat) (x : ND.Step) : Option (Way × Int) := match nextS W.tab r.st x.lab with
  | none => none
  | some _ => match goal W.net W.ans x with
    | .opn q => some (r.ms.map stepM ++ [⟨r.sc, false, i⟩], q)
    | _ => none
def owes (W : World) (r : Row) : List (Way × Int) := picks (owd W r) 0 (steps W r.sc)
theorem fnd_some {W : World} {nm : Str} {r : Row} {i : Nat} {x : ND.Tell} {w : Way} (h : fnd W nm r i x = some w) : x.name = nm ∧ endsB W.tab r.st x.lab = true ∧ w = r.ms.map stepM ++ [⟨r.sc, true, i⟩] := by
  unfold fnd at h
  split at h
  · rename_i c; cases h; exact ⟨c.1, c.2, rfl⟩
  · cases h
theorem owd_some {W : World} {r : Row} {i : Nat} {x : ND.Step} {p : Way × Int} (h : owd W r i x = some p) : (∃ t, nextS W.tab r.st x.lab = some t) ∧ goal W.net W.ans x = .opn p.2 ∧ p.1 = r.ms.map stepM ++ [⟨r.sc, false, i⟩] := by
  unfold owd at h
  cases h1 : nextS W.tab r.st x.lab with
  | none => rw [h1] at h; cases h
  | some t =>
    rw [h1] at h
    dsimp only at h
    cases h2 : goal W.net W.ans x with
    | to n => rw [h2] at h; cases h
    | no => rw [h2] at h; cases h
    | opn q => rw [h2] at h; cases h; exact ⟨⟨t, rfl⟩, rfl, rfl⟩
theorem mem_finds {W : World} {nm : Str} {r : Row} {w : Way} (h : w ∈ finds W nm r) : ∃ (i : Nat) (x : ND.Tell), (tells W r.sc)[i]? = some x ∧ x.name = nm ∧ endsB W.tab r.st x.lab = true ∧ w = r.ms.map stepM ++ [⟨r.sc, true, i⟩] := by
  obtain ⟨j, x, h1, h2⟩ := mem_picks.mp h
  rw [Nat.zero_add] at h2
  exact ⟨j, x, h1, fnd_some h2⟩
theorem mem_owes {W : World} {r : Row} {p : Way × Int} (h : p ∈ owes W r) : ∃ (i : Nat) (x : ND.Step), (steps W r.sc)[i]? = some x ∧ (∃ t, nextS W.tab r.st x.lab = some t) ∧ goal W.net W.ans x = .opn p.2 ∧ p.1 = r.ms.map stepM ++ [⟨r.sc, false, i⟩] := by
  obtain ⟨j, x, h1, h2⟩ := mem_picks.mp h
  rw [Nat.zero_add] at h2
  exact ⟨j, x, h1, owd_some h2⟩
theorem finds_len {W : World} (h : WOk W) {nm : Str} {r : Row} (hr : RowOk W r) : (finds W nm r).length ≤ 12 :=
  Nat.le_trans picks_len (h.tl _ (getI_mem (d := (([], []) : ND.Scope)) hr.sc)).2
theorem owes_len {W : World} (h : WOk W) {r : Row} (hr : RowOk W r) : (owes W r).length ≤ 12 :=
  Nat.le_trans picks_len (h.tl _ (getI_mem (d := (([], []) : ND.Scope)) hr.sc)).1
/-! as data -/
theorem tword_inj {a b : Bool} (h : tword a = tword b) : a = b := by
  cases a <;> cases b <;> first | rfl | exact absurd h (by decide +kernel)
theorem eqv_tm (a b : TMk) : PyData.eqv (eTM a) (eTM b) = decide (a = b) := by
  obtain ⟨x, s, y⟩ := a
  obtain ⟨u, t, v⟩ := b
  simp only [eTM, PyData.eqv, PyData.eqvAll]
  by_cases h : x = u
  · by_cases h2 : y = v
    · by_cases h3 : s = t
      · subst h; subst h2; subst h3; simp
      · have : tword s ≠ tword t := fun z => h3 (tword_inj z)
        simp [h, h2, h3, this]
    · simp [h, h2]
  · simp [h]
theorem eqv_tms : ∀ a b : List TMk, PyData.eqvAll (a.map eTM) (b.map eTM) = decide (a = b)
  | [], [] => by simp [PyData.eqvAll]
  | [], b :: bs => by simp [PyData.eqvAll]
  | a :: as, [] => by simp [PyData.eqvAll]
  | a :: as, b :: bs => by
    rw [List.map_cons, List.map_cons, PyData.eqvAll, eqv_tm, eqv_tms as bs]
    by_cases h : a = b <;> by_cases h2 : as = bs <;> simp [h, h2]
theorem eqv_way (a b : Way) : PyData.eqv (eWay a) (eWay b) = decide (a = b) := by
  unfold eWay
  rw [PyData.eqv]; exact eqv_tms a b
theorem alike_tm (a b : TMk) : PySem.W.alike (eTM a) (eTM b) = true := by simp [eTM, PySem.W.alike, PySem.W.alikeAll]
theorem alike_tms : ∀ a b : List TMk, PySem.W.alikeAll (a.map eTM) (b.map eTM) = true
  | [], b => by cases b <;> simp [PySem.W.alikeAll]
  | a :: as, [] => by simp [PySem.W.alikeAll]
  | a :: as, b :: bs => by
    rw [List.map_cons, List.map_cons, PySem.W.alikeAll, alike_tm, alike_tms as bs]; rfl
theorem alike_way (a b : Way) : PySem.W.alike (eWay a) (eWay b) = true := by
  unfold eWay
  simp only [PySem.W.alike]; exact alike_tms a b
theorem alike_owe (a b : Way × Int) : PySem.W.alike (eOwe a) (eOwe b) = true := by
  simp only [eOwe, PySem.W.alike, PySem.W.alikeAll, alike_way, Bool.and_self]
theorem depth_tms : ∀ ms : List TMk, PyData.depthAll (ms.map eTM) ≤ 2
  | [] => by simp [PyData.depthAll]
  | m :: ms => by
    rw [List.map_cons, PyData.depthAll]
    have := depth_tms ms
    have : PyData.depth (eTM m) ≤ 2 := by simp [eTM, PyData.depth, PyData.depthAll]
    omega
theorem depth_way (w : Way) : (eWay w).depth ≤ 3 := by
  have := depth_tms w
  unfold eWay
  rw [PyData.depth]; omega
theorem depth_owe (p : Way × Int) : (eOwe p).depth ≤ 64 := by
  have := depth_way p.1
  simp [eOwe, PyData.depth, PyData.depthAll]
  omega
theorem shTM (m : TMk) : Shp 1 (eTM m) := .tup3 .int (.str (by cases m.told <;> decide +kernel)) .int
theorem shWay (w : Way) : Shp 2 (eWay w) := .lists fun m _ => shTM m
theorem shWays (ws : List Way) : Shp 3 (.list (ws.map eWay)) := .lists fun w _ => shWay w
theorem shOwe (p : Way × Int) : Shp 3 (eOwe p) := .tup2 (shWay p.1) .int
theorem shOwes (ws : List (Way × Int)) : Shp 4 (.list (ws.map eOwe)) := .lists fun w _ => shOwe w
/-! in the store -/
abbrev zT (m : TMk) : D := .z (eTM m)
def KW : KD.Kd Way where
  o w := .lst (w.map zT)
  d n _ := .r n
  e := eWay
  r w := lz eTM w
  vw _ _ w h := .r h (Vws.map _ _)
  vr _ _ _ w h := .l (ns := []) h (VRs.zs _ _)
  al w L := by rw [al_lz]
def KO : KD.Kd (Way × Int) where
  o p := .lst (p.1.map zT)
  d n p := .t [.r n, .z (.int p.2)]
  e := eOwe
  r p := .t [lz eTM p.1, .z (.int p.2)]
  vw _ _ p h := .t (.cons (.r h (Vws.map _ _)) (.cons .z .nil))
  vr _ _ n p h := .t (.cons (ns := [n]) (.l (ns := []) h (VRs.zs _ _)) (.cons (ns := []) (.z .z) .nil))
  al p L := by
    unfold PL.al
    simp [als, PL.al, al_lz]
def KR : KD.Kd Row where
  o r := .lst (r.ms.map fun m => .z (eMk m))
  d n r := .t [.r n, .z (.int r.sc), .z (.int r.st)]
  e := eRow
  r r := .t [lz eMk r.ms, .z (.int r.sc), .z (.int r.st)]
  vw _ _ p h := .t (.cons (.r h (Vws.map _ _)) (.cons .z (.cons .z .nil)))
  vr _ _ n p h := .t (.cons (ns := [n]) (.l (ns := []) h (VRs.zs _ _)) (.cons (ns := []) (.z .z) (.cons (ns := []) (.z .z) .nil)))
  al p L := by
    unfold PL.al
    simp [als, PL.al, al_lz]
def sortY (ws : List Way) : List Way := ws.mergeSort (PySem.W.dataLe false eWay)
def sortO (ws : List (Way × Int)) : List (Way × Int) := ws.mergeSort (PySem.W.dataLe false eOwe)
theorem mem_sortY {w : Way} {ws : List Way} : w ∈ sortY ws ↔ w ∈ ws := (List.mergeSort_perm ws _).mem_iff
theorem mem_sortO {w : Way × Int} {ws : List (Way × Int)} : w ∈ sortO ws ↔ w ∈ ws := (List.mergeSort_perm ws _).mem_iff
end WY

set_option Elab.async false
set_option linter.all false
set_option maxRecDepth 100000
/-! WY, part 3: labels at marks; which way hides which -/
namespace WY
open PySem L2 PL ND
def rowLen (s : ND.Scope) (b : Bool) : Nat := if b = true then s.2.length else s.1.length
structure MkIn (n : Net) (m : TMk) : Prop where
  s : 0 ≤ m.sc ∧ m.sc < n.scopes.length
  i : 0 ≤ m.ix ∧ m.ix < rowLen (getI n.scopes ([], []) m.sc) m.told
def noS : ND.Step := ⟨⟨#[]⟩, false, 0⟩
def noT : ND.Tell := ⟨⟨#[]⟩, ⟨#[]⟩, false, 0⟩
def labM (n : Net) (m : TMk) : Str := if m.told = true then (getI (getI n.scopes ([], []) m.sc).2 noT m.ix).lab else (getI (getI n.scopes ([], []) m.sc).1 noS m.ix).lab
theorem labM_ok {n : Net} (h : NetOk n) {m : TMk} (hm : MkIn n m) : PyData.strOk (labM n m) = true := by
  obtain ⟨sc, b, ix⟩ := m
  obtain ⟨hs, hi⟩ := hm
  dsimp only at hs hi
  have hso := h.sc _ (getI_mem (d := (([], []) : ND.Scope)) hs)
  unfold labM
  unfold rowLen at hi
  dsimp only
  cases b with
  | true => rw [if_pos rfl] at hi ⊢; exact (hso.2 _ (getI_mem hi)).1
  | false => rw [if_neg (by decide)] at hi ⊢; exact (hso.1 _ (getI_mem hi)).1
def hidesZ (n : Net) (od : List OR.Pr) : List (TMk × TMk) → Bool
  | [] => false
  | (a, b) :: r => if a = b then hidesZ n od r else decide ((labM n a, labM n b) ∈ od)
def hidesB (n : Net) (od : List OR.Pr) (a b : Way) : Bool := hidesZ n od (a.zip b)
def WayIn (n : Net) (w : Way) : Prop := (∀ m ∈ w, MkIn n m) ∧ w.length ≤ 41
theorem row_in {W : World} (h : WOk W) {r : Row} (hr : RowOk W r) : ∀ m ∈ r.ms.map stepM, MkIn W.net m := fun m hm => by
  obtain ⟨k, hk, rfl⟩ := List.mem_map.mp hm
  have := hr.ms k hk
  exact ⟨this.1, this.2⟩
theorem finds_in {W : World} (h : WOk W) {nm : Str} {r : Row} (hr : RowOk W r) {w : Way} (hw : w ∈ finds W nm r) : WayIn W.net w := by
  obtain ⟨i, x, h1, _, _, rfl⟩ := mem_finds hw
  have hl := hr.len
  have h9 := h.s40
  refine ⟨fun m hm => ?_, by rw [List.length_append, List.length_map, List.length_singleton]; omega⟩
  rcases List.mem_append.mp hm with hm | hm
  · exact row_in h hr m hm
  · simp at hm; subst hm
    exact ⟨hr.sc, Int.natCast_nonneg i, Int.ofNat_lt.mpr (List.getElem?_eq_some_iff.mp h1).1⟩
theorem owes_in {W : World} (h : WOk W) {r : Row} (hr : RowOk W r) {p : Way × Int} (hw : p ∈ owes W r) : WayIn W.net p.1 := by
  obtain ⟨i, x, h1, _, _, e⟩ := mem_owes hw
  have hl := hr.len
  have h9 := h.s40
  rw [e]
  refine ⟨fun m hm => ?_, by rw [List.length_append, List.length_map, List.length_singleton]; omega⟩
  rcases List.mem_append.mp hm with hm | hm
  · exact row_in h hr m hm
  · simp at hm; subst hm
    exact ⟨hr.sc, Int.natCast_nonneg i, Int.ofNat_lt.mpr (List.getElem?_eq_some_iff.mp h1).1⟩
theorem vzsW {S : Sto} : ∀ {ps : List (Nat × Way)}, KD.In KW S ps → Vzs S (ps.map KW.dd) (ps.map fun p => eWay p.2)
  | [], _ => .nil
  | p :: ps, h => .cons (.r (h p List.mem_cons_self) (Vzs.map _ _)) (vzsW h.tail)
theorem vzs_ways {S : Sto} {ps : List (Nat × Way)} (h : KD.In KW S ps) {ws : List Way} (e : ps.map (·.2) = ws) : Vzs S (ps.map KW.dd) (ws.map eWay) := by
  have := vzsW h
  rw [← e, List.map_map]; exact this
end WY

set_option Elab.async false
set_option linter.all false
set_option maxRecDepth 100000
/-! WY, part 4: which ways hide which, in plain Lean -/
namespace WY
open PySem L2 PL ND
section
variable {n : Net} {od : List OR.Pr}
theorem hides_nil {b : Way} : hidesB n od [] b = false := by cases b <;> rfl
theorem hides_nil2 {a : Way} : hidesB n od a [] = false := by cases a <;> rfl
theorem hides_cons {x y : TMk} {a b : Way} : hidesB n od (x :: a) (y :: b) = if x = y then hidesB n od a b else decide ((labM n x, labM n y) ∈ od) := rfl
theorem hides_iff : ∀ {a b : Way}, hidesB n od a b = true ↔ ∃ pre x y ra rb, a = pre ++ x :: ra ∧ b = pre ++ y :: rb ∧ x ≠ y ∧ (labM n x, labM n y) ∈ od
  | [], b => by
    rw [hides_nil]
    refine ⟨fun h => (by cases h), fun ⟨pre, x, y, ra, rb, h, _⟩ => by cases pre <;> cases h⟩
  | x :: a, [] => by
    rw [hides_nil2]
    refine ⟨fun h => (by cases h), fun ⟨pre, x, y, ra, rb, _, h, _⟩ => by cases pre <;> cases h⟩
  | x :: a, y :: b => by
    rw [hides_cons]
    by_cases e : x = y
    · rw [if_pos e, hides_iff (a := a) (b := b)]
      subst e
      constructor
      · rintro ⟨pre, u, v, ra, rb, rfl, rfl, h1, h2⟩
        exact ⟨x :: pre, u, v, ra, rb, rfl, rfl, h1, h2⟩
      · rintro ⟨pre, u, v, ra, rb, h1, h2, h3, h4⟩
        cases pre with
        | nil => cases h1; cases h2; exact absurd rfl h3
        | cons p pre => cases h1; cases h2; exact ⟨pre, u, v, ra, rb, rfl, rfl, h3, h4⟩
    · rw [if_neg e, decide_eq_true_iff]
      constructor
      · intro h; exact ⟨[], x, y, a, b, rfl, rfl, e, h⟩
      · rintro ⟨pre, u, v, ra, rb, h1, h2, h3, h4⟩
        cases pre with
        | nil => cases h1; cases h2; exact h4
        | cons p pre => cases h1; cases h2; exact absurd rfl e
theorem hides_irr : ∀ (a : Way), hidesB n od a a = false
  | [] => hides_nil
  | x :: a => by rw [hides_cons, if_pos rfl]; exact hides_irr a
/-- an order -/
structure OdOk (od : List OR.Pr) : Prop where
  nr : ∀ p ∈ od, p.1 ≠ p.2
  tr : ∀ p ∈ od, ∀ q ∈ od, p.2 = q.1 → (p.1, q.2) ∈ od
theorem TOk.odk {t : TB.XTab} (h : TOk t) : OdOk t.order := ⟨h.nr, h.tr⟩
theorem hides_tr (ho : OdOk od) : ∀ {a b c : Way}, hidesB n od a b = true → hidesB n od b c = true → hidesB n od a c = true
  | [], b, c, h, _ => by rw [hides_nil] at h; cases h
  | x :: a, [], c, h, _ => by rw [hides_nil2] at h; cases h
  | x :: a, y :: b, [], _, h => by rw [hides_nil2] at h; cases h
  | x :: a, y :: b, z :: c, h1, h2 => by
    rw [hides_cons] at h1 h2 ⊢
    by_cases e1 : x = y
    · subst e1
      rw [if_pos rfl] at h1
      by_cases e2 : x = z
      · subst e2
        rw [if_pos rfl] at h2 ⊢
        exact hides_tr ho h1 h2
      · rw [if_neg e2] at h2 ⊢; exact h2
    · rw [if_neg e1] at h1
      have h1' := of_decide_eq_true h1
      by_cases e2 : y = z
      · subst e2
        rw [if_neg e1]; exact h1
      · rw [if_neg e2] at h2
        have h2' := of_decide_eq_true h2
        have h3 := ho.tr _ h1' _ h2' rfl
        have e3 : x ≠ z := fun e => by subst e; exact ho.nr _ h3 rfl
        rw [if_neg e3]
        exact decide_eq_true h3
/-- none of the ways hides w -/
def noneB (n : Net) (od : List OR.Pr) (ws : List Way) (w : Way) : Bool := ws.all fun v => !hidesB n od v w
def seenB (n : Net) (od : List OR.Pr) (ws : List Way) : List Way := ws.filter fun w => noneB n od ws w
theorem noneB_iff {ws : List Way} {w : Way} : noneB n od ws w = true ↔ ∀ v ∈ ws, hidesB n od v w = false := by
  unfold noneB
  rw [List.all_eq_true]
  exact ⟨fun h v hv => by have := h v hv; simpa using this, fun h v hv => by rw [h v hv]; rfl⟩
theorem mem_seen {ws : List Way} {w : Way} : w ∈ seenB n od ws ↔ w ∈ ws ∧ ∀ v ∈ ws, hidesB n od v w = false := by
  unfold seenB
  rw [List.mem_filter, noneB_iff]
/-- who is hidden is hidden by a seen one -/
theorem seen_hides (ho : OdOk od) {ws : List Way} : ∀ (k : Nat) (w : Way), (ws.filter fun v => hidesB n od v w).length ≤ k → (∃ v ∈ ws, hidesB n od v w = true) → ∃ v ∈ seenB n od ws, hidesB n od v w = true
  | 0, w, hk, ⟨v, hv, h⟩ => by
    have : v ∈ ws.filter fun v => hidesB n od v w := List.mem_filter.mpr ⟨hv, h⟩
    have := List.length_pos_of_mem this
    omega
  | k + 1, w, hk, ⟨v, hv, h⟩ => by
    by_cases c : ∀ u ∈ ws, hidesB n od u v = false
    · exact ⟨v, mem_seen.mpr ⟨hv, c⟩, h⟩
    · have c2 : ∃ u ∈ ws, hidesB n od u v = true := by
        apply Decidable.byContradiction
        intro z
        refine c fun u hu => ?_
        cases q : hidesB n od u v with
        | false => rfl
        | true => exact absurd ⟨u, hu, q⟩ z
      have hlt : (ws.filter fun u => hidesB n od u v).length < (ws.filter fun u => hidesB n od u w).length := by
        have hsub : ∀ u, hidesB n od u v = true → hidesB n od u w = true := fun u hu => hides_tr ho hu h
        have key : ∀ l : List Way, (l.filter fun u => hidesB n od u v).length ≤ (l.filter fun u => hidesB n od u w).length ∧ (v ∈ l → (l.filter fun u => hidesB n od u v).length < (l.filter fun u => hidesB n od u w).length) := by
          intro l
          induction l with
          | nil => exact ⟨Nat.le_refl _, fun h => by cases h⟩
          | cons u l ih =>
            have h1 := ih.1
            have h2 := ih.2
            by_cases q : hidesB n od u v = true
            · rw [List.filter_cons_of_pos (p := fun u => hidesB n od u v) q, List.filter_cons_of_pos (p := fun u => hidesB n od u w) (hsub u q)]
              simp only [List.length_cons]
              refine ⟨by omega, fun hm => ?_⟩
              rcases List.mem_cons.mp hm with rfl | hm
              · rw [hides_irr] at q; cases q
              · have := h2 hm; omega
            · rw [List.filter_cons_of_neg (p := fun u => hidesB n od u v) q]
              by_cases q2 : hidesB n od u w = true
              · rw [List.filter_cons_of_pos (p := fun u => hidesB n od u w) q2]
                simp only [List.length_cons]
                exact ⟨by omega, fun _ => by omega⟩
              · rw [List.filter_cons_of_neg (p := fun u => hidesB n od u w) q2]
                refine ⟨h1, fun hm => ?_⟩
                rcases List.mem_cons.mp hm with rfl | hm
                · exact absurd h q2
                · exact h2 hm
        exact (key ws).2 hv
      obtain ⟨x, hx, h2⟩ := seen_hides ho k v (by omega) c2
      exact ⟨x, hx, hides_tr ho h2 h⟩
theorem seen_hides' (ho : OdOk od) {ws : List Way} {w : Way} (h : ∃ v ∈ ws, hidesB n od v w = true) : ∃ v ∈ seenB n od ws, hidesB n od v w = true := seen_hides ho _ w (Nat.le_refl _) h
/-! by the labels behind each beginning -/
abbrev Lb := Way × Str
def lbsOf (n : Net) (w : Way) : List Lb := w.mapIdx fun k m => (w.take k, labM n m)
theorem mem_lbs {w : Way} {p : Way} {l : Str} : (p, l) ∈ lbsOf n w ↔ ∃ m r, w = p ++ m :: r ∧ labM n m = l := by
  unfold lbsOf
  rw [List.mem_mapIdx]
  constructor
  · rintro ⟨k, hk, e⟩
    cases e
    exact ⟨w[k], w.drop (k + 1), by rw [← List.drop_eq_getElem_cons hk, List.take_append_drop], rfl⟩
  · rintro ⟨m, r, rfl, rfl⟩
    exact ⟨p.length, by simp, by simp⟩
theorem lbs_len (n : Net) (w : Way) : (lbsOf n w).length = w.length := by unfold lbsOf; simp
def noneL (od : List OR.Pr) (T : List Lb) (p : Lb) : Bool := T.all fun q => !(decide (q.1 = p.1) && decide ((q.2, p.2) ∈ od))
theorem noneL_iff {T : List Lb} {p : Lb} : noneL od T p = true ↔ ∀ l, (p.1, l) ∈ T → (l, p.2) ∉ od := by
  unfold noneL
  rw [List.all_eq_true]
  constructor
  · intro h l hl hc
    have := h _ hl
    simp [hc] at this
  · rintro h ⟨q1, q2⟩ hq
    by_cases e : q1 = p.1
    · subst e
      have := h _ hq
      simp [this]
    · simp [e]
theorem none_lbs (ho : OdOk od) {ws : List Way} {w : Way} : (lbsOf n w).all (noneL od (ws.flatMap (lbsOf n))) = noneB n od ws w := by
  apply Bool.eq_iff_iff.mpr
  rw [noneB_iff, List.all_eq_true]
  constructor
  · intro h v hv
    cases q : hidesB n od v w with
    | false => rfl
    | true =>
      obtain ⟨pre, x, y, ra, rb, rfl, rfl, h3, h4⟩ := hides_iff.mp q
      have h5 := noneL_iff.mp (h (pre, labM n y) (mem_lbs.mpr ⟨y, rb, rfl, rfl⟩))
      exact absurd h4 (h5 _ (List.mem_flatMap.mpr ⟨_, hv, mem_lbs.mpr ⟨x, ra, rfl, rfl⟩⟩))
  · rintro h ⟨pre, l⟩ hp
    obtain ⟨y, rb, rfl, rfl⟩ := mem_lbs.mp hp
    refine noneL_iff.mpr fun l hl hc => ?_
    obtain ⟨v, hv, hl⟩ := List.mem_flatMap.mp hl
    obtain ⟨x, ra, rfl, rfl⟩ := mem_lbs.mp hl
    have ne : x ≠ y := fun e => by subst e; exact ho.nr _ hc rfl
    have := h _ hv
    rw [hides_iff.mpr ⟨pre, x, y, ra, rb, rfl, rfl, ne, hc⟩] at this
    cases this
/-- the first of some that hides w -/
def firstB (n : Net) (od : List OR.Pr) (ws : List Way) (w : Way) : Option Way := ws.find? fun v => hidesB n od v w
end
/-! keys -/
def keyM (m : TMk) : NestedKey := .tup [.num m.sc, .text (tword m.told), .num m.ix]
def keyW (w : Way) : NestedKey := .tup (w.map keyM)
theorem nk_tm (m : TMk) : nkOf (eTM m) = some (keyM m) := rfl
theorem nks_tms : ∀ w : Way, nksOf (w.map eTM) = some (w.map keyM)
  | [] => rfl
  | m :: w => by
    rw [List.map_cons, nksOf, nk_tm, nks_tms w]; rfl
theorem keyM_depth (m : TMk) : (keyM m).depth ≤ 2 := by simp [keyM, NestedKey.depth, NestedKey.depthAll]
theorem keysM_depth : ∀ w : Way, NestedKey.depthAll (w.map keyM) ≤ 2
  | [] => by simp [NestedKey.depthAll]
  | m :: w => by
    rw [List.map_cons, NestedKey.depthAll]
    have := keyM_depth m
    have := keysM_depth w
    omega
theorem keyN_way (w : Way) : keyN (.z (.tuple (w.map eTM))) = some (keyW w) := by
  show ((nksOf (w.map eTM)).bind fun ks => if (NestedKey.tup ks).depth ≤ 8 then some (NestedKey.tup ks) else none) = _
  rw [nks_tms]
  dsimp only [Option.bind]
  rw [if_pos]
  · rfl
  · have := keysM_depth w
    rw [NestedKey.depth]; omega
theorem keyM_inj {a b : TMk} (h : keyM a = keyM b) : a = b := by
  obtain ⟨x, s, y⟩ := a
  obtain ⟨u, t, v⟩ := b
  simp [keyM] at h
  obtain ⟨rfl, h2, rfl⟩ := h
  rw [tword_inj h2]
theorem keyW_inj {a b : Way} (h : keyW a = keyW b) : a = b := by
  simp only [keyW, NestedKey.tup.injEq] at h
  induction a generalizing b with
  | nil => cases b with
    | nil => rfl
    | cons y b => cases h
  | cons x a ih =>
    cases b with
    | nil => cases h
    | cons y b =>
      rw [List.map_cons, List.map_cons] at h
      injection h with h1 h2
      rw [keyM_inj h1, ih h2]
end WY

set_option Elab.async false
set_option linter.all false
set_option maxRecDepth 100000
/-! WY, part 5: labels behind beginnings of ways, in the store -/
namespace WY
open PySem L2 PL ND
abbrev zL (l : Str) : D := .z (.str l)
theorem zL_inj {a b : List Str} (h : a.map zL = b.map zL) : a = b := by
  induction a generalizing b with
  | nil =>
    cases b with
    | nil => rfl
    | cons y b => cases h
  | cons x a ih =>
    cases b with
    | nil => cases h
    | cons y b =>
      rw [List.map_cons, List.map_cons] at h
      injection h with h1 h2
      injection h1 with h1
      injection h1 with h1
      rw [h1, ih h2]
theorem kAt_keys (p : Way) : ∀ es : List (Way × Nat), kAt (es.map fun e => (keyW e.1, D.r e.2)) (keyW p) = (es.find? fun e => decide (e.1 = p)).map fun e => .r e.2
  | [] => rfl
  | e :: es => by
    have ih := kAt_keys p es
    unfold kAt at ih ⊢
    rw [List.map_cons, List.find?_cons, List.find?_cons]
    by_cases c : e.1 = p
    · simp [c]
    · have c2 : keyW e.1 ≠ keyW p := fun z => c (keyW_inj z)
      simp only [c, c2, decide_false]
      exact ih
/-- a dict at m, a fresh list for each beginning of T -/
structure LbX (hx : HX) (b : Nat) (S : Sto) (m c : Nat) (T : List Lb) (es : List (Way × Nat)) : Prop where
  kd : KdAt hx S m (es.map fun e => (keyW e.1, D.r e.2))
  n1 : (es.map (·.1)).Nodup
  n2 : (es.map (·.2)).Nodup
  le : es.length ≤ c
  at_ : ∀ e ∈ es, b ≤ e.2 ∧ e.2 ≠ m ∧ ∃ ls : List Str, S[e.2]? = some (.lst (ls.map zL)) ∧ ls.length ≤ c ∧ ∀ l, l ∈ ls ↔ (e.1, l) ∈ T
  all : ∀ p l, (p, l) ∈ T → p ∈ es.map (·.1)
section
variable {hx : HX} {b : Nat} {S S' : Sto} {m c : Nat} {T : List Lb} {es : List (Way × Nat)}
theorem KdAt.keep {kvs : List (NestedKey × D)} (h : KdAt hx S m kvs) (k : ∀ o, S[m]? = some o → S'[m]? = some o) : KdAt hx S' m kvs := by
  cases h with
  | kd e => exact .kd (k _ e)
  | nil e => exact .nil (k _ e)
theorem KdAt.lt {kvs : List (NestedKey × D)} (h : KdAt hx S m kvs) : m < S.length := by
  cases h with
  | kd e => exact (List.getElem?_eq_some_iff.mp e).1
  | nil e => exact (List.getElem?_eq_some_iff.mp e).1
theorem LbX.new (h : S[m]? = some (.dic [])) : LbX hx b S m 0 [] [] := ⟨.nil h, List.nodup_nil, List.nodup_nil, Nat.le_refl _, fun _ h => (by cases h), fun _ _ h => (by cases h)⟩
theorem LbX.keep (h : LbX hx b S m c T es) {U : List Nat} (k : Keep U S S') (hm : m ∉ U) (he : ∀ e ∈ es, e.2 ∉ U) : LbX hx b S' m c T es :=
  ⟨KdAt.keep h.kd fun o e => k m o hm e, h.n1, h.n2, h.le, fun e hem => by
    obtain ⟨h1, h2, ls, h3, h4⟩ := h.at_ e hem
    exact ⟨h1, h2, ls, k _ _ (he e hem) h3, h4⟩, h.all⟩
theorem LbX.app (h : LbX hx b S m c T es) {R : Sto} : LbX hx b (S ++ R) m c T es := h.keep (U := []) .app (by simp) (by simp)
theorem LbX.mono (h : LbX hx b S m c T es) {c' : Nat} (hc : c ≤ c') : LbX hx b S m c' T es := ⟨h.kd, h.n1, h.n2, Nat.le_trans h.le hc, fun e he => by
  obtain ⟨h1, h2, ls, h3, h4, h5⟩ := h.at_ e he
  exact ⟨h1, h2, ls, h3, Nat.le_trans h4 hc, h5⟩, h.all⟩
/-- what the dict tells of a beginning -/
theorem LbX.key (h : LbX hx b S m c T es) (p : Way) : (kAt (es.map fun e => (keyW e.1, D.r e.2)) (keyW p) = none ∧ p ∉ es.map (·.1) ∧ ∀ l, (p, l) ∉ T) ∨
    ∃ n, (p, n) ∈ es ∧ kAt (es.map fun e => (keyW e.1, D.r e.2)) (keyW p) = some (.r n) := by
  rw [kAt_keys]
  cases e : es.find? fun e => decide (e.1 = p) with
  | none =>
    have hn : p ∉ es.map (·.1) := fun hm => by
      obtain ⟨x, hx, hp⟩ := List.mem_map.mp hm
      have := List.find?_eq_none.mp e x hx
      simp [hp] at this
    exact .inl ⟨rfl, hn, fun l hl => hn (h.all p l hl)⟩
  | some x =>
    have h1 := List.mem_of_find?_eq_some e
    have h2 := List.find?_some e
    have h2 : x.1 = p := of_decide_eq_true h2
    obtain ⟨x1, x2⟩ := x
    subst h2
    exact .inr ⟨x2, h1, rfl⟩
/-- a new beginning, its list empty -/
theorem LbX.fresh (h : LbX hx b S m c T es) {p : Way} {n : Nat} (hp : p ∉ es.map (·.1)) (hT : ∀ l, (p, l) ∉ T) (hn : S[n]? = some (.lst [])) (hb : b ≤ n) (hne : n ≠ m) (hnew : ∀ e ∈ es, e.2 ≠ n) :
    LbX hx b (S.set m (.kd hx ((es.map fun e => (keyW e.1, D.r e.2)) ++ [(keyW p, .r n)]))) m (c + 1) T (es ++ [(p, n)]) := by
  have hlt := KdAt.lt h.kd
  refine ⟨.kd ?_, ?_, ?_, ?_, fun e he => ?_, fun q l hl => ?_⟩
  · rw [List.getElem?_set_self hlt, List.map_append]; rfl
  · rw [List.map_append]
    exact List.nodup_append.mpr ⟨h.n1, by simp, fun a ha x hx e => by simp at hx; subst hx; subst e; exact hp ha⟩
  · rw [List.map_append]
    refine List.nodup_append.mpr ⟨h.n2, by simp, fun a ha x hx e => ?_⟩
    simp at hx; subst hx; subst e
    obtain ⟨y, hy, e⟩ := List.mem_map.mp ha
    exact hnew y hy e
  · have := h.le; rw [List.length_append, List.length_singleton]; omega
  · rcases List.mem_append.mp he with he | he
    · obtain ⟨h1, h2, ls, h3, h4, h5⟩ := h.at_ e he
      exact ⟨h1, h2, ls, by rw [List.getElem?_set_ne (Ne.symm h2)]; exact h3, by omega, h5⟩
    · simp at he; subst he
      refine ⟨hb, hne, [], by rw [List.getElem?_set_ne (Ne.symm hne)]; exact hn, by simp, fun l => ⟨fun z => (by cases z), fun z => absurd z (hT l)⟩⟩
  · rw [List.map_append]; exact List.mem_append_left _ (h.all q l hl)
/-- a label that is there already -/
theorem LbX.hit (h : LbX hx b S m c T es) {p : Way} {n : Nat} {l : Str} {ls : List Str} (hp : (p, n) ∈ es) (hls : S[n]? = some (.lst (ls.map zL))) (hl : l ∈ ls) : LbX hx b S m c (T ++ [(p, l)]) es := by
  have hz : (p, l) ∈ T := by
    obtain ⟨_, _, ls2, h3, _, h5⟩ := h.at_ _ hp
    have e : ls2 = ls := by
      have : ls2.map zL = ls.map zL := by
        have := h3.symm.trans hls
        simpa using this
      exact zL_inj this
    subst e
    exact (h5 l).mp hl
  refine ⟨h.kd, h.n1, h.n2, h.le, fun e he => ?_, fun q k hk => ?_⟩
  · obtain ⟨h1, h2, ls, h3, h4, h5⟩ := h.at_ e he
    refine ⟨h1, h2, ls, h3, h4, fun k => ?_⟩
    rw [h5 k, List.mem_append, List.mem_singleton]
    exact ⟨.inl, fun z => z.elim id fun e2 => by rw [e2]; exact hz⟩
  · rcases List.mem_append.mp hk with hk | hk
    · exact h.all q k hk
    · simp at hk; obtain ⟨rfl, rfl⟩ := hk; exact h.all _ _ hz
/-- a label that is put in -/
theorem LbX.put (h : LbX hx b S m c T es) {p : Way} {n : Nat} {l : Str} {ls : List Str} (hp : (p, n) ∈ es) (hls : S[n]? = some (.lst (ls.map zL))) : LbX hx b (S.set n (.lst (ls.map zL ++ [zL l]))) m (c + 1) (T ++ [(p, l)]) es := by
  obtain ⟨hb, hne, ls2, h3, h4, h5⟩ := h.at_ _ hp
  have e : ls2 = ls := by
    have : ls2.map zL = ls.map zL := by
      have := h3.symm.trans hls
      simpa using this
    exact zL_inj this
  subst e
  have hlt := (List.getElem?_eq_some_iff.mp hls).1
  refine ⟨KdAt.keep h.kd fun o e => by rw [List.getElem?_set_ne hne]; exact e, h.n1, h.n2, Nat.le_succ_of_le h.le, fun e he => ?_, fun q k hk => ?_⟩
  · obtain ⟨g1, g2, ks, g3, g4, g5⟩ := h.at_ e he
    by_cases ce : e.2 = n
    · have ee : e = (p, n) := by
        obtain ⟨i, hi⟩ := List.getElem?_of_mem he
        obtain ⟨j, hj⟩ := List.getElem?_of_mem hp
        have hi2 : (es.map (·.2))[i]? = some n := by rw [List.getElem?_map, hi]; simp [ce]
        have hj2 : (es.map (·.2))[j]? = some n := by rw [List.getElem?_map, hj]; rfl
        have := (List.getElem?_inj (List.getElem?_eq_some_iff.mp hi2).1 h.n2).mp (hi2.trans hj2.symm)
        subst this
        exact Option.some.inj (hi.symm.trans hj)
      subst ee
      refine ⟨g1, g2, ls2 ++ [l], ?_, by rw [List.length_append, List.length_singleton]; omega, fun k => ?_⟩
      · dsimp only
        rw [List.getElem?_set_self hlt, List.map_append]; rfl
      · rw [List.mem_append, List.mem_append, h5 k, List.mem_singleton, List.mem_singleton]
        exact ⟨fun z => z.imp id fun e2 => by rw [e2], fun z => z.imp id fun e2 => by injection e2⟩
    · refine ⟨g1, g2, ks, by rw [List.getElem?_set_ne (Ne.symm ce)]; exact g3, by omega, fun k => ?_⟩
      rw [g5 k, List.mem_append, List.mem_singleton]
      refine ⟨.inl, fun z => z.elim id fun e2 => ?_⟩
      injection e2 with e3 e4
      have ee : e = (p, n) := by
        obtain ⟨i, hi⟩ := List.getElem?_of_mem he
        obtain ⟨j, hj⟩ := List.getElem?_of_mem hp
        have hi2 : (es.map (·.1))[i]? = some p := by rw [List.getElem?_map, hi]; simp [e3]
        have hj2 : (es.map (·.1))[j]? = some p := by rw [List.getElem?_map, hj]; rfl
        have := (List.getElem?_inj (List.getElem?_eq_some_iff.mp hi2).1 h.n1).mp (hi2.trans hj2.symm)
        subst this
        exact Option.some.inj (hi.symm.trans hj)
      exact absurd (by rw [ee]) ce
  · rcases List.mem_append.mp hk with hk | hk
    · exact h.all q k hk
    · simp at hk; obtain ⟨rfl, rfl⟩ := hk
      exact List.mem_map.mpr ⟨_, hp, rfl⟩
/-- setdefault with a new list -/
theorem LbX.setd {K0 : K1} (h : LbX hx b S m c T es) {p : Way} {n : Nat} (hn : S[n]? = some (.lst [])) (hb : b ≤ n) (hne : n ≠ m) (hnew : ∀ e ∈ es, e.2 ≠ n) (hz : c < 1000000)
    (k : ∀ (S5 : Sto) (q : Nat) (es2 : List (Way × Nat)), (S5 = S ∨ ∃ o, S5 = S.set m o) → LbX hx b S5 m (c + 1) T es2 → (p, q) ∈ es2 → K0 (.r q) S5) : KSetd hx (.r m) (.z (.tuple (p.map eTM))) (.r n) S K0 := by
  refine ⟨m, keyW p, _, rfl, keyN_way p, h.kd, sz_lt6 (by rw [List.length_map]; have := h.le; omega), fun d hd => ?_, fun hd => ?_⟩
  · rcases h.key p with ⟨e, _⟩ | ⟨q, hq, e⟩
    · rw [e] at hd; cases hd
    · rw [e] at hd; cases hd
      exact k S q es (.inl rfl) (h.mono (Nat.le_succ _)) hq
  · rcases h.key p with ⟨e, hp, hT⟩ | ⟨q, hq, e⟩
    · exact k _ n _ (.inr ⟨_, rfl⟩) (h.fresh hp hT hn hb hne hnew) (by simp)
    · rw [e] at hd; cases hd
/-- get, with a new list for none -/
theorem LbX.get {K0 : K1} (h : LbX hx b S m c T es) {p : Way} {n : Nat} (hn : S[n]? = some (.lst []))
    (k : ∀ (q : Nat) (ls : List Str), S[q]? = some (.lst (ls.map zL)) → (∀ l, l ∈ ls ↔ (p, l) ∈ T) → K0 (.r q) S) : KGet hx (.r m) (.z (.tuple (p.map eTM))) (.r n) S K0 := by
  refine ⟨m, keyW p, _, rfl, keyN_way p, h.kd, ?_⟩
  rcases h.key p with ⟨e, hp, hT⟩ | ⟨q, hq, e⟩
  · rw [e]
    exact k n [] hn fun l => ⟨fun z => (by cases z), fun z => absurd z (hT l)⟩
  · rw [e]
    obtain ⟨_, _, ls, h3, _, h5⟩ := h.at_ _ hq
    exact k q ls h3 h5
theorem LbX.lt (h : LbX hx b S m c T es) : ∀ e ∈ es, e.2 < S.length := fun e he => by
  obtain ⟨_, _, ls, h3, _⟩ := h.at_ e he
  exact (List.getElem?_eq_some_iff.mp h3).1
/-- the labels of some ways -/
def LbAt (hx : HX) (n : Net) (S : Sto) (m : Nat) (ws : List Way) : Prop := ∃ b c es, LbX hx b S m c (ws.flatMap (lbsOf n)) es
theorem LbAt.keep {n : Net} {ws : List Way} (h : LbAt hx n S m ws) (k : Keep [] S S') : LbAt hx n S' m ws := by
  obtain ⟨b, c, es, h⟩ := h
  exact ⟨b, c, es, h.keep k (by simp) (by simp)⟩
end
/-! marks of a way, one by one -/
theorem lbs_take {n : Net} {w : Way} {k : Nat} {x : TMk} (h : w[k]? = some x) : (lbsOf n w).take (k + 1) = (lbsOf n w).take k ++ [(w.take k, labM n x)] := by
  rw [List.take_add_one]
  congr 1
  unfold lbsOf
  rw [List.getElem?_mapIdx, h]; rfl
end WY

set_option Elab.async false
set_option linter.all false
set_option maxRecDepth 100000
/-! HD, part 1: rows of two ways, each a fresh list -/
namespace HD
open PySem L2 PL ND WY
abbrev P2 := Way × Way
abbrev Q2 := Nat × Nat × P2
def e2 (p : P2) : PyData := .tuple [eWay p.1, eWay p.2]
def r2 (p : P2) : RT := .t [lz eTM p.1, lz eTM p.2]
def dd (q : Q2) : D := .t [.r q.1, .r q.2.1]
def pl (q : Q2) : List Nat := [q.1, q.2.1]
def In (S : Sto) (qs : List Q2) : Prop := ∀ q ∈ qs, S[q.1]? = some (.lst (q.2.2.1.map zT)) ∧ S[q.2.1]? = some (.lst (q.2.2.2.map zT))
section
variable {S T : Sto} {qs : List Q2}
theorem In.nil : In S [] := fun _ h => by cases h
theorem In.tail {q : Q2} (h : In S (q :: qs)) : In S qs := fun x hx => h x (List.mem_cons_of_mem _ hx)
theorem In.vws' : ∀ {qs : List Q2}, In S qs → Vws S (qs.map dd) (qs.map fun q => e2 q.2.2)
  | [], _ => .nil
  | q :: qs, h => .cons (.t (.cons (.r (h q List.mem_cons_self).1 (Vws.map _ _)) (.cons (.r (h q List.mem_cons_self).2 (Vws.map _ _)) .nil))) (In.vws' h.tail)
theorem In.vws (h : In S qs) {xs : List P2} (e : qs.map (·.2.2) = xs) : Vws S (qs.map dd) (xs.map e2) := by
  have := h.vws'
  rw [← e, List.map_map]; exact this
theorem In.vrs' {U : List Nat} : ∀ {qs : List Q2}, In S qs → VRs S U (qs.map dd) (qs.map fun q => r2 q.2.2) (qs.flatMap pl)
  | [], _ => .nil
  | q :: qs, h => by
    rw [List.flatMap_cons]
    exact .cons (ns := [q.1, q.2.1]) (.t (.cons (ns := [q.1]) (.l (ns := []) (h q List.mem_cons_self).1 (VRs.zs _ _)) (.cons (ns := [q.2.1]) (.l (ns := []) (h q List.mem_cons_self).2 (VRs.zs _ _)) .nil))) (In.vrs' h.tail)
theorem In.vrs {U : List Nat} (h : In S qs) {xs : List P2} (e : qs.map (·.2.2) = xs) : VRs S U (qs.map dd) (xs.map r2) (qs.flatMap pl) := by
  have := h.vrs' (U := U)
  rw [← e, List.map_map]; exact this
theorem In.keep {S2 : Sto} {U : List Nat} (h : In S qs) (k : Keep U S S2) (d : ∀ q ∈ qs, q.1 ∉ U ∧ q.2.1 ∉ U) : In S2 qs := fun q hq => ⟨k _ _ (d q hq).1 (h q hq).1, k _ _ (d q hq).2 (h q hq).2⟩
theorem In.app (h : In S qs) : In (S ++ T) qs := fun q hq => ⟨sto_app (h q hq).1, sto_app (h q hq).2⟩
theorem In.lt (h : In S qs) : ∀ q ∈ qs, q.1 < S.length ∧ q.2.1 < S.length := fun q hq => ⟨(List.getElem?_eq_some_iff.mp (h q hq).1).1, (List.getElem?_eq_some_iff.mp (h q hq).2).1⟩
end
/-- under way -/
structure Put (S2 S : Sto) (n0 : Nat) (qs : List Q2) (xs : List P2) : Prop where
  l : S[n0]? = some (.lst (qs.map dd))
  i : In S qs
  e : qs.map (·.2.2) = xs
  nd : (qs.flatMap pl).Nodup
  b : ∀ q ∈ qs, S2.length ≤ q.1 ∧ S2.length ≤ q.2.1
  k : Keep [n0] S2 S
  z : n0 < S2.length
theorem Put.new {S : Sto} {n0 : Nat} (h : S[n0]? = some (.lst [])) : Put S S n0 [] [] := ⟨h, .nil, rfl, by simp, fun _ h => (by cases h), .refl, (List.getElem?_eq_some_iff.mp h).1⟩
section
variable {S2 S : Sto} {n0 : Nat} {qs : List Q2} {xs : List P2}
theorem Put.len (h : Put S2 S n0 qs xs) : qs.length = xs.length := by rw [← h.e, List.length_map]
theorem Put.keep {S' : Sto} (h : Put S2 S n0 qs xs) (k : Keep [] S S') : Put S2 S' n0 qs xs := ⟨k _ _ (by simp) h.l, h.i.keep k (by simp), h.e, h.nd, h.b, h.k.trans (k.mono (by simp)), h.z⟩
theorem Put.app {T : Sto} (h : Put S2 S n0 qs xs) : Put S2 (S ++ T) n0 qs xs := h.keep .app
/-- two new lists, the row of them -/
theorem Put.push (h : Put S2 S n0 qs xs) {a b : Way} {m1 m2 : Nat} (h1 : S[m1]? = some (.lst (a.map zT))) (h2 : S[m2]? = some (.lst (b.map zT))) (l1 : S2.length ≤ m1) (l2 : S2.length ≤ m2) (ne : m1 ≠ m2) (n1 : m1 ∉ qs.flatMap pl) (n2 : m2 ∉ qs.flatMap pl) :
    Put S2 (S.set n0 (.lst (qs.map dd ++ [.t [.r m1, .r m2]]))) n0 (qs ++ [(m1, m2, a, b)]) (xs ++ [(a, b)]) := by
  have hn := (List.getElem?_eq_some_iff.mp h.l).1
  have hz := h.z
  have ks : Keep [n0] S (S.set n0 (.lst (qs.map dd ++ [.t [.r m1, .r m2]]))) := Keep.set (by simp)
  refine ⟨by rw [List.getElem?_set_self hn, List.map_append]; rfl, fun q hq => ?_, by rw [List.map_append, h.e]; rfl, ?_, fun q hq => ?_, h.k.trans ks, h.z⟩
  · rcases List.mem_append.mp hq with hq | hq
    · have hb := h.b q hq
      exact ⟨ks _ _ (by simp; omega) (h.i q hq).1, ks _ _ (by simp; omega) (h.i q hq).2⟩
    · simp at hq; subst hq
      exact ⟨ks _ _ (by simp; omega) h1, ks _ _ (by simp; omega) h2⟩
  · rw [List.flatMap_append]
    refine List.nodup_append.mpr ⟨h.nd, by simp [pl, ne], fun x hx y hy e => ?_⟩
    subst e
    simp [pl] at hy
    rcases hy with rfl | rfl
    · exact n1 hx
    · exact n2 hx
  · rcases List.mem_append.mp hq with hq | hq
    · exact h.b q hq
    · simp at hq; subst hq; exact ⟨l1, l2⟩
theorem Put.lt (h : Put S2 S n0 qs xs) : ∀ m ∈ qs.flatMap pl, m < S.length := fun m hm => by
  obtain ⟨q, hq, hm⟩ := List.mem_flatMap.mp hm
  have := h.i.lt q hq
  simp [pl] at hm
  rcases hm with rfl | rfl
  · exact this.1
  · exact this.2
theorem Put.vr (h : Put S2 S n0 qs xs) (K : K1) (q : ∀ U, VR S U (.r n0) (.l (xs.map r2)) U → U.Nodup → K (.r n0) S) : K (.r n0) S := by
  refine q (qs.flatMap pl ++ [n0]) (.l h.l (h.i.vrs h.e)) (List.nodup_append.mpr ⟨h.nd, by simp, fun a ha b hb e => ?_⟩)
  simp at hb
  obtain ⟨x, hx, hm⟩ := List.mem_flatMap.mp ha
  have := h.b x hx
  have := h.z
  simp [pl] at hm
  omega
end
theorem rtD_r2 (p : P2) : rtD (r2 p) = e2 p := by
  unfold r2 e2
  simp only [rtD, rtDs, rtD_lz]; rfl
/-! as a call hands them back -/
def new2 : Nat → List P2 → List Q2
  | _, [] => []
  | L, p :: ps => (L, L + 1, p) :: new2 (L + 2) ps
def ob2 (p : P2) : Sto := [.lst (p.1.map zT), .lst (p.2.map zT)]
theorem al_r2 (p : P2) (n : Nat) : al (r2 p) n = (.t [.r n, .r (n + 1)], ob2 p) := by
  unfold r2 PL.al
  simp [als, al_lz, ob2]
theorem als_r2 : ∀ (ps : List P2) (n : Nat), als (ps.map r2) n = ((new2 n ps).map dd, ps.flatMap ob2)
  | [], n => by simp [als, new2]
  | p :: ps, n => by
    rw [List.map_cons, als, al_r2, als_r2 ps, new2]
    simp [dd, ob2]
theorem ob2_len : ∀ ps : List P2, (ps.flatMap ob2).length = 2 * ps.length
  | [] => rfl
  | p :: ps => by rw [List.flatMap_cons, List.length_append, ob2_len ps, List.length_cons]; simp [ob2]; omega
theorem new2_snd : ∀ (n : Nat) (ps : List P2), (new2 n ps).map (·.2.2) = ps
  | _, [] => rfl
  | n, p :: ps => by rw [new2, List.map_cons, new2_snd]
theorem new2_b : ∀ (n : Nat) (ps : List P2), ∀ m ∈ (new2 n ps).flatMap pl, n ≤ m ∧ m < n + 2 * ps.length
  | _, [], _, h => by simp [new2] at h
  | n, p :: ps, m, h => by
    rw [new2, List.flatMap_cons] at h
    rw [List.length_cons]
    rcases List.mem_append.mp h with h | h
    · simp [pl] at h; omega
    · have := new2_b _ _ m h; omega
theorem new2_nd : ∀ (n : Nat) (ps : List P2), ((new2 n ps).flatMap pl).Nodup
  | _, [] => by simp [new2]
  | n, p :: ps => by
    rw [new2, List.flatMap_cons]
    refine List.nodup_append.mpr ⟨by simp [pl], new2_nd _ _, fun a ha b hb e => ?_⟩
    have := new2_b _ _ b hb
    simp [pl] at ha
    omega
theorem new2_in : ∀ (ps : List P2) (S T : Sto) (n : Nat), S.length = n → In (S ++ (ps.flatMap ob2 ++ T)) (new2 n ps)
  | [], _, _, _, _ => .nil
  | p :: ps, S, T, n, e => by
    rw [new2]
    intro q hq
    rcases List.mem_cons.mp hq with rfl | hq
    · subst e
      rw [List.flatMap_cons]
      exact ⟨sto_r (k := 0) rfl, sto_r (k := 1) rfl⟩
    · have := new2_in ps (S ++ ob2 p) T (n + 2) (by simp [e, ob2])
      rw [List.append_assoc, ← List.append_assoc (ob2 p)] at this
      rw [List.flatMap_cons]
      exact this q hq
/-- what the caller holds then -/
structure Got (S S2 : Sto) (n : Nat) (qs : List Q2) (xs : List P2) : Prop where
  old : ∀ (m : Nat) (o : Ob), S[m]? = some o → S2[m]? = some o
  l : S2[n]? = some (.lst (qs.map dd))
  i : In S2 qs
  s : qs.map (·.2.2) = xs
  nd : (qs.flatMap pl).Nodup
  b : ∀ m ∈ qs.flatMap pl, S.length ≤ m ∧ m < n
  n : S.length ≤ n
theorem Got.len {S S2 : Sto} {n : Nat} {qs : List Q2} {xs : List P2} (h : Got S S2 n qs xs) : qs.length = xs.length := by rw [← h.s, List.length_map]
theorem Got.vw {S S2 : Sto} {n : Nat} {qs : List Q2} {xs : List P2} (h : Got S S2 n qs xs) : Vw S2 (.r n) (.list (xs.map e2)) := .r h.l (h.i.vws h.s)
theorem got_call {S : Sto} {xs : List P2} {K : K1} (h : ∀ (S2 : Sto) (n : Nat) (qs : List Q2), Got S S2 n qs xs → K (.r n) S2) : K (al (.l (xs.map r2)) S.length).1 (S ++ (al (.l (xs.map r2)) S.length).2) := by
  unfold PL.al
  rw [als_r2, ob2_len]
  have hp : (S ++ (xs.flatMap ob2 ++ [Ob.lst ((new2 S.length xs).map dd)]))[S.length + 2 * xs.length]? = some (.lst ((new2 S.length xs).map dd)) := by
    rw [← List.append_assoc]
    have e : S.length + 2 * xs.length = (S ++ xs.flatMap ob2).length := by rw [List.length_append, ob2_len]
    rw [e]
    exact sto_last
  exact h _ _ _ ⟨fun _ _ => sto_app, hp, new2_in xs S _ S.length rfl, new2_snd _ _, new2_nd _ _, new2_b _ _, Nat.le_add_right _ _⟩
theorem gotr_call {β : Type} {enc : β → List PyData} {pre : β → Prop} {out : β → List P2} {ds : List D} {S : Sto} {K : K1} {KX : KF} (a : β) (v : Vws S ds (enc a)) (hp : pre a) (h : ∀ (S2 : Sto) (n : Nat) (qs : List Q2), Got S S2 n qs (out a) → K (.r n) S2) : pCall (frr (fsr enc pre fun a => .l ((out a).map r2))) ds S K KX :=
  fsr_call a v hp (got_call fun S2 n qs hG => h S2 n qs hG)
/-! which they are -/
def hidB (n : Net) (od : List OR.Pr) (ws : List Way) : List P2 := (ws.filter fun w => !noneB n od ws w).map fun w => (w, (firstB n od (seenB n od ws) w).getD [])
theorem first_hid {n : Net} {od : List OR.Pr} (ho : OdOk od) {ws : List Way} {w : Way} (hw : w ∈ ws) (h : noneB n od ws w = false) : ∃ v, firstB n od (seenB n od ws) w = some v ∧ v ∈ seenB n od ws ∧ hidesB n od v w = true := by
  have hx : ∃ v ∈ ws, hidesB n od v w = true := by
    apply Classical.byContradiction
    intro z
    have : noneB n od ws w = true := noneB_iff.mpr fun v hv => by
      cases q : hidesB n od v w with
      | false => rfl
      | true => exact absurd ⟨v, hv, q⟩ z
    rw [this] at h; cases h
  obtain ⟨v, hv, hh⟩ := seen_hides' ho hx
  cases e : firstB n od (seenB n od ws) w with
  | none =>
    have := List.find?_eq_none.mp e v hv
    rw [hh] at this
    exact absurd rfl this
  | some u => exact ⟨u, rfl, List.mem_of_find?_eq_some e, List.find?_some (p := fun v => hidesB n od v w) e⟩
end HD

set_option Elab.async false
set_option linter.all false
set_option maxRecDepth 100000
set_option maxHeartbeats 4000000
/-! the walk of each def; printed by gen.py -/
namespace K27
open PySem L2 PL
def top (i : Nat) : Stmt := PySem.Challenge.pw_namepaths_k27_hidden_ways_and_what_hides.main.body.getD i (.Pass ⟨0, 0, 0, 0⟩)
/-- what the walks ask of the module's names -/
structure Txt (mg : Str → Option Value) : Prop where
  n_str : mg "str" = none
  n_isinstance : mg "isinstance" = none
  n_len : mg "len" = none
  n_zip : mg "zip" = none
  n_enumerate : mg "enumerate" = none
  n_tuple : mg "tuple" = none
  n_list : mg "list" = none
  n_sorted : mg "sorted" = none
  n_set : mg "set" = none
  n_range : mg "range" = none
  n_int : mg "int" = none
  n_reversed : mg "reversed" = none
  c_LETTERS : ∃ t, mg "LETTERS" = some (.str (PySem.Str.ofString "abcdefghijklmnopqrstuvwxyz") t)
  c_MOST_STATES : ∃ t, mg "MOST_STATES" = some (.int 8 t)
  c_MOST_PAIRS : ∃ t, mg "MOST_PAIRS" = some (.int 40 t)
  c_MOST_LABELS : ∃ t, mg "MOST_LABELS" = some (.int 8 t)
  c_MOST_BEGINNINGS : ∃ t, mg "MOST_BEGINNINGS" = some (.int 200 t)
section
variable {P : Program} {w : World} {K : PySem.W.Frag} {mg : Str → Option Value} {base : Heap}
abbrev st_is_name : Stmt := top 10
abbrev nm_is_name : List Str := ["thing", "sign"]
theorem sc_is_name : FnScope nm_is_name ["thing"] (defScope st_is_name) := ⟨rfl, rfl, rfl, by decide +kernel, rfl, by decide +kernel, by decide +kernel⟩
def is_name_b1 : WS :=
  (wIf (wB (w2 (cB bNotIn) (wVar 1) (wC (.str (PySem.Str.ofString "abcdefghijklmnopqrstuvwxyz"))))) (wRet (wC (.bool false))) wNext)
def is_name_r1 : WS :=
  (wRet (wC (.bool true)))
def is_name_r2 : WS :=
  (wSeq (wFor (wIt (wVar 0)) (gN 1) is_name_b1)
    is_name_r1)
def ws_is_name : WS :=
  (wSeq (wIf (wOr (wNot (wB (wCall pIsi (wCons (wVar 0) (wCons (wTy .str) wNil))))) (wOr (wB (w2 (cB bLtD) (wCall pLen (wCons (wVar 0) wNil)) (wC (.int 1)))) (wB (w2 (cB bGt) (wCall pLen (wCons (wVar 0) wNil)) (wC (.int 8)))))) (wRet (wC (.bool false))) wNext)
    is_name_r2)
theorem ok_is_name {f : Addr} {fd : FuncData} {sp : Spc} (F : Fun K "is_name" "is_name" st_is_name f fd) (T : Txt mg) (hl : ∀ ds S K KX, sp ds S K KX → ds.length = 1)
    (hs : ∀ ds S K KX, sp ds S K KX → ws_is_name { nx := fun _ S1 => K (.z .none) S1, rt := K, ex := fun y _ S1 => KX y S1 } (startE nm_is_name ds) S) : FnOk P w K mg base (L2.CX P w) 1 f fd ["thing"] (spOf sp) := by
  have nd := sc_is_name.nd
  refine fnpx F sc_is_name hl (ws := ws_is_name) (fun cdv A outer s H E B F0 hr tk hp => ?_) hs
  have hu := hu_px hr
  exact (bcons (xif (xtw (yor (xtnot (xtv (xcallB oIsi rfl T.n_isinstance bb_isinstance (acons (xv 0) (acons (xty (T := .str) rfl T.n_str bb_str) anil))))) (yor (xtcmp (oLtD hu) (xcallB oLen rfl T.n_len bb_len (acons (xv 0) anil)) xint) (yor1 (xtcmp oGt (xcallB oLen rfl T.n_len bb_len (acons (xv 0) anil)) xint))))) (bone (xret xbl)) bnil)
    (bcons (xfor hp rfl (xit (xv 0)) (xgn 1 nd) (bone (xif (xtcmp (oNotIn hu) (xv 1) (xgS rfl T.c_LETTERS)) (bone (xret xbl)) bnil)))
    (bone (xret xbl))))
abbrev st_label_at : Stmt := top 12
abbrev nm_label_at : List Str := ["net", "mark", "scope", "kind", "index"]
theorem sc_label_at : FnScope nm_label_at ["net", "mark"] (defScope st_label_at) := ⟨rfl, rfl, rfl, by decide +kernel, rfl, by decide +kernel, by decide +kernel⟩
def label_at_r1 : WS :=
  (wRet (w2 pIx (w2 pIx (w2 pIx (w2 pIx (w2 pIx (wVar 0) (wC (.int 0))) (wVar 2)) (wC (.int 1))) (wVar 4)) (wC (.int 0))))
def ws_label_at : WS :=
  (wSeq (wAsg (wVar 1) (gT 3 (gC (gN 2) (gC (gN 3) (gC (gN 4) gE)))))
    (wSeq (wIf (wB (w2 (cB bEq) (wVar 3) (wC (.str (PySem.Str.ofString "step"))))) (wRet (w2 pIx (w2 pIx (w2 pIx (w2 pIx (w2 pIx (wVar 0) (wC (.int 0))) (wVar 2)) (wC (.int 0))) (wVar 4)) (wC (.int 0)))) wNext)
    label_at_r1))
theorem ok_label_at {f : Addr} {fd : FuncData} {sp : Spc} (F : Fun K "label_at" "label_at" st_label_at f fd) (T : Txt mg) (hl : ∀ ds S K KX, sp ds S K KX → ds.length = 2)
    (hs : ∀ ds S K KX, sp ds S K KX → ws_label_at { nx := fun _ S1 => K (.z .none) S1, rt := K, ex := fun y _ S1 => KX y S1 } (startE nm_label_at ds) S) : FnOk P w K mg base (L2.CX P w) 1 f fd ["net", "mark"] (spOf sp) := by
  have nd := sc_label_at.nd
  refine fnpx F sc_label_at hl (ws := ws_label_at) (fun cdv A outer s H E B F0 hr tk hp => ?_) hs
  have hu := hu_px hr
  exact (bcons (xasg (xv 1) (xgt rfl (xgc (xgn 2 nd) (xgc (xgn 3 nd) (xgc (xgn 4 nd) xge)))))
    (bcons (xif (xtcmp (oEq hu) (xv 3) xstr) (bone (xret (xix (oIx hu) (xix (oIx hu) (xix (oIx hu) (xix (oIx hu) (xix (oIx hu) (xv 0) xint) (xv 2)) xint) (xv 4)) xint))) bnil)
    (bone (xret (xix (oIx hu) (xix (oIx hu) (xix (oIx hu) (xix (oIx hu) (xix (oIx hu) (xv 0) xint) (xv 2)) xint) (xv 4)) xint)))))
abbrev st_is_better : Stmt := top 14
abbrev nm_is_better : List Str := ["table", "one", "other"]
theorem sc_is_better : FnScope nm_is_better ["table", "one", "other"] (defScope st_is_better) := ⟨rfl, rfl, rfl, by decide +kernel, rfl, by decide +kernel, by decide +kernel⟩
def ws_is_better : WS :=
  (wRet (w2 (cB bIn) (wTup (wCons (wVar 1) (wCons (wVar 2) wNil))) (w2 pIx (wVar 0) (wC (.int 2)))))
theorem ok_is_better {f : Addr} {fd : FuncData} {sp : Spc} (F : Fun K "is_better" "is_better" st_is_better f fd) (T : Txt mg) (hl : ∀ ds S K KX, sp ds S K KX → ds.length = 3)
    (hs : ∀ ds S K KX, sp ds S K KX → ws_is_better { nx := fun _ S1 => K (.z .none) S1, rt := K, ex := fun y _ S1 => KX y S1 } (startE nm_is_better ds) S) : FnOk P w K mg base (L2.CX P w) 1 f fd ["table", "one", "other"] (spOf sp) := by
  have nd := sc_is_better.nd
  refine fnpx F sc_is_better hl (ws := ws_is_better) (fun cdv A outer s H E B F0 hr tk hp => ?_) hs
  have hu := hu_px hr
  exact (bone (xret (xcmp (oIn hu) (xtup (acons (xv 1) (acons (xv 2) anil))) (xix (oIx hu) (xv 0) xint))))
abbrev st_hides : Stmt := top 15
abbrev nm_hides : List Str := ["net", "table", "one", "other", "mine", "theirs"]
theorem sc_hides : FnScope nm_hides ["net", "table", "one", "other"] (defScope st_hides) := ⟨rfl, rfl, rfl, by decide +kernel, rfl, by decide +kernel, by decide +kernel⟩
def hides_b1 (sp_label_at : Spc) (sp_is_better : Spc) : WS :=
  (wIf (wB (w2 (cB bNe) (wVar 4) (wVar 5))) (wRet (wFn sp_is_better [] (wCons (wVar 1) (wCons (wFn sp_label_at [] (wCons (wVar 0) (wCons (wVar 4) wNil))) (wCons (wFn sp_label_at [] (wCons (wVar 0) (wCons (wVar 5) wNil))) wNil))))) wNext)
def hides_r1 : WS :=
  (wRet (wC (.bool false)))
def ws_hides (sp_label_at : Spc) (sp_is_better : Spc) : WS :=
  (wSeq (wFor (wZp (wCons (wVar 2) (wCons (wVar 3) wNil))) (gT 2 (gC (gN 4) (gC (gN 5) gE))) (hides_b1 sp_label_at sp_is_better))
    hides_r1)
theorem ok_hides {f : Addr} {fd : FuncData} {sp : Spc} {sp_label_at : Spc} {sp_is_better : Spc} (F : Fun K "hides" "hides" st_hides f fd) (T : Txt mg) (c_label_at : Fc P w K mg base "label_at" 1 ["net", "mark"] sp_label_at) (c_is_better : Fc P w K mg base "is_better" 1 ["table", "one", "other"] sp_is_better) (hl : ∀ ds S K KX, sp ds S K KX → ds.length = 4)
    (hs : ∀ ds S K KX, sp ds S K KX → ws_hides sp_label_at sp_is_better { nx := fun _ S1 => K (.z .none) S1, rt := K, ex := fun y _ S1 => KX y S1 } (startE nm_hides ds) S) : FnOk P w K mg base (L2.CX P w) 2 f fd ["net", "table", "one", "other"] (spOf sp) := by
  have nd := sc_hides.nd
  refine fnpx F sc_hides hl (ws := ws_hides sp_label_at sp_is_better) (fun cdv A outer s H E B F0 hr tk hp => ?_) hs
  have hu := hu_px hr
  exact (bcons (xfor hp rfl (xzp rfl T.n_zip (acons (xv 2) (acons (xv 3) anil))) (xgt rfl (xgc (xgn 4 nd) (xgc (xgn 5 nd) xge))) (bone (xif (xtcmp (oNe hu) (xv 4) (xv 5)) (bone (xret (xfc c_is_better (hr.mono (by decide)) tk rfl (acons (xv 1) (acons (xfc c_label_at (hr.mono (by decide)) tk rfl (acons (xv 0) (acons (xv 4) anil))) (acons (xfc c_label_at (hr.mono (by decide)) tk rfl (acons (xv 0) (acons (xv 5) anil))) anil)))))) bnil)))
    (bone (xret xbl)))
abbrev st_labels_behind : Stmt := top 16
abbrev nm_labels_behind : List Str := ["net", "ways", "nexts_by", "way", "k", "mark", "labels", "label"]
theorem sc_labels_behind : FnScope nm_labels_behind ["net", "ways"] (defScope st_labels_behind) := ⟨rfl, rfl, rfl, by decide +kernel, rfl, by decide +kernel, by decide +kernel⟩
def labels_behind_b1 (hx : HX) (sp_label_at : Spc) : WS :=
  (wSeq (wAsg (wKSetd hx (wVar 2) (wCons (wCall pTuple (wCons (wSl pSl (wVar 3) wNo (wPart (wVar 4))) wNil)) (wCons (wLst wNil) wNil))) (gN 6))
    (wSeq (wAsg (wFn sp_label_at [] (wCons (wVar 0) (wCons (wVar 5) wNil))) (gN 7))
    (wIf (wB (w2 (cB bNotIn) (wVar 7) (wVar 6))) (wDrop (wMth .list pApp (wVar 6) (wCons (wVar 7) wNil))) wNext)))
def labels_behind_b2 (hx : HX) (sp_label_at : Spc) : WS :=
  (wFor (wEn (wCons (wVar 3) wNil)) (gT 2 (gC (gN 4) (gC (gN 5) gE))) (labels_behind_b1 hx sp_label_at))
def labels_behind_r1 : WS :=
  (wRet (wVar 2))
def ws_labels_behind (hx : HX) (sp_label_at : Spc) : WS :=
  (wSeq (wAsg wDic (gN 2))
    (wSeq (wFor (wIt (wVar 1)) (gN 3) (labels_behind_b2 hx sp_label_at))
    labels_behind_r1))
theorem ok_labels_behind {f : Addr} {fd : FuncData} {sp : Spc} {sp_label_at : Spc} (F : Fun K "labels_behind" "labels_behind" st_labels_behind f fd) (T : Txt mg) (c_label_at : Fc P w K mg base "label_at" 1 ["net", "mark"] sp_label_at) (hl : ∀ ds S K KX, sp ds S K KX → ds.length = 2)
    (hs : ∀ ds S K KX, sp ds S K KX → ws_labels_behind (fun k => k.hash w) sp_label_at { nx := fun _ S1 => K (.z .none) S1, rt := K, ex := fun y _ S1 => KX y S1 } (startE nm_labels_behind ds) S) : FnOk P w K mg base (L2.CX P w) 2 f fd ["net", "ways"] (spOf sp) := by
  have nd := sc_labels_behind.nd
  refine fnpx F sc_labels_behind hl (ws := ws_labels_behind (fun k => k.hash w) sp_label_at) (fun cdv A outer s H E B F0 hr tk hp => ?_) hs
  have hu := hu_px hr
  exact (bcons (xasg xdic (xgn 2 nd))
    (bcons (xfor hp rfl (xit (xv 1)) (xgn 3 nd) (bone (xfor hp rfl (xen rfl T.n_enumerate (acons (xv 3) anil)) (xgt rfl (xgc (xgn 4 nd) (xgc (xgn 5 nd) xge))) (bcons (xasg (xksetd hu (xv 2) (acons (xcallT oTuple rfl T.n_tuple bb_tuple (acons (xsl oSl (xv 3) ono (osome (xv 4))) anil)) (acons (xlst anil) anil))) (xgn 6 nd))
    (bcons (xasg (xfc c_label_at (hr.mono (by decide)) tk rfl (acons (xv 0) (acons (xv 5) anil))) (xgn 7 nd))
    (bone (xif (xtcmp (oNotIn hu) (xv 7) (xv 6)) (bone (xexpr (xm1 (T := .list) PySem.F.plainAttrs_list PySem.F.slot_list_append PySem.F.type_list_append oApp (xv 6) (acons (xv 7) anil)))) bnil)))))))
    (bone (xret (xv 2)))))
abbrev st_none_hides : Stmt := top 17
abbrev nm_none_hides : List Str := ["net", "table", "nexts_by", "way", "k", "mark", "label", "other"]
theorem sc_none_hides : FnScope nm_none_hides ["net", "table", "nexts_by", "way"] (defScope st_none_hides) := ⟨rfl, rfl, rfl, by decide +kernel, rfl, by decide +kernel, by decide +kernel⟩
def none_hides_b1 (sp_is_better : Spc) : WS :=
  (wIf (wB (wFn sp_is_better [] (wCons (wVar 1) (wCons (wVar 7) (wCons (wVar 6) wNil))))) (wRet (wC (.bool false))) wNext)
def none_hides_b2 (hx : HX) (sp_label_at : Spc) (sp_is_better : Spc) : WS :=
  (wSeq (wAsg (wFn sp_label_at [] (wCons (wVar 0) (wCons (wVar 5) wNil))) (gN 6))
    (wFor (wIt (wKGet hx (wVar 2) (wCons (wCall pTuple (wCons (wSl pSl (wVar 3) wNo (wPart (wVar 4))) wNil)) (wCons (wLst wNil) wNil)))) (gN 7) (none_hides_b1 sp_is_better)))
def none_hides_r1 : WS :=
  (wRet (wC (.bool true)))
def ws_none_hides (hx : HX) (sp_label_at : Spc) (sp_is_better : Spc) : WS :=
  (wSeq (wFor (wEn (wCons (wVar 3) wNil)) (gT 2 (gC (gN 4) (gC (gN 5) gE))) (none_hides_b2 hx sp_label_at sp_is_better))
    none_hides_r1)
theorem ok_none_hides {f : Addr} {fd : FuncData} {sp : Spc} {sp_label_at : Spc} {sp_is_better : Spc} (F : Fun K "none_hides" "none_hides" st_none_hides f fd) (T : Txt mg) (c_label_at : Fc P w K mg base "label_at" 1 ["net", "mark"] sp_label_at) (c_is_better : Fc P w K mg base "is_better" 1 ["table", "one", "other"] sp_is_better) (hl : ∀ ds S K KX, sp ds S K KX → ds.length = 4)
    (hs : ∀ ds S K KX, sp ds S K KX → ws_none_hides (fun k => k.hash w) sp_label_at sp_is_better { nx := fun _ S1 => K (.z .none) S1, rt := K, ex := fun y _ S1 => KX y S1 } (startE nm_none_hides ds) S) : FnOk P w K mg base (L2.CX P w) 2 f fd ["net", "table", "nexts_by", "way"] (spOf sp) := by
  have nd := sc_none_hides.nd
  refine fnpx F sc_none_hides hl (ws := ws_none_hides (fun k => k.hash w) sp_label_at sp_is_better) (fun cdv A outer s H E B F0 hr tk hp => ?_) hs
  have hu := hu_px hr
  exact (bcons (xfor hp rfl (xen rfl T.n_enumerate (acons (xv 3) anil)) (xgt rfl (xgc (xgn 4 nd) (xgc (xgn 5 nd) xge))) (bcons (xasg (xfc c_label_at (hr.mono (by decide)) tk rfl (acons (xv 0) (acons (xv 5) anil))) (xgn 6 nd))
    (bone (xfor hp rfl (xit (xkget hu (xv 2) (acons (xcallT oTuple rfl T.n_tuple bb_tuple (acons (xsl oSl (xv 3) ono (osome (xv 4))) anil)) (acons (xlst anil) anil)))) (xgn 7 nd) (bone (xif (xtv (xfc c_is_better (hr.mono (by decide)) tk rfl (acons (xv 1) (acons (xv 7) (acons (xv 6) anil))))) (bone (xret xbl)) bnil))))))
    (bone (xret xbl)))
abbrev st_seen_ways : Stmt := top 18
abbrev nm_seen_ways : List Str := ["net", "table", "ways", "nexts_by", "way"]
theorem sc_seen_ways : FnScope nm_seen_ways ["net", "table", "ways"] (defScope st_seen_ways) := ⟨rfl, rfl, rfl, by decide +kernel, rfl, by decide +kernel, by decide +kernel⟩
def seen_ways_c1 (sp_none_hides : Spc) : WT :=
  (wB (wFn sp_none_hides [] (wCons (wVar 0) (wCons (wVar 1) (wCons (wVar 3) (wCons (wVar 4) wNil))))))
def seen_ways_e1 : WE :=
  (wCall pList (wCons (wVar 4) wNil))
def ws_seen_ways (sp_labels_behind : Spc) (sp_none_hides : Spc) : WS :=
  (wSeq (wAsg (wFn sp_labels_behind [] (wCons (wVar 0) (wCons (wVar 2) wNil))) (gN 3))
    (wRet (wLc (wIt (wVar 2)) (tgN 4) (seen_ways_c1 sp_none_hides) seen_ways_e1 [4])))
theorem ok_seen_ways {f : Addr} {fd : FuncData} {sp : Spc} {sp_labels_behind : Spc} {sp_none_hides : Spc} (F : Fun K "seen_ways" "seen_ways" st_seen_ways f fd) (T : Txt mg) (c_labels_behind : Fc P w K mg base "labels_behind" 2 ["net", "ways"] sp_labels_behind) (c_none_hides : Fc P w K mg base "none_hides" 2 ["net", "table", "nexts_by", "way"] sp_none_hides) (hl : ∀ ds S K KX, sp ds S K KX → ds.length = 3)
    (hs : ∀ ds S K KX, sp ds S K KX → ws_seen_ways sp_labels_behind sp_none_hides { nx := fun _ S1 => K (.z .none) S1, rt := K, ex := fun y _ S1 => KX y S1 } (startE nm_seen_ways ds) S) : FnOk P w K mg base (L2.CX P w) 3 f fd ["net", "table", "ways"] (spOf sp) := by
  have nd := sc_seen_ways.nd
  refine fnpx F sc_seen_ways hl (ws := ws_seen_ways sp_labels_behind sp_none_hides) (fun cdv A outer s H E B F0 hr tk hp => ?_) hs
  have hu := hu_px hr
  exact (bcons (xasg (xfc c_labels_behind (hr.mono (by decide)) tk rfl (acons (xv 0) (acons (xv 2) anil))) (xgn 3 nd))
    (bone (xret (xlc (own := [("way", 4)]) rfl nd (xit (xv 2)) (blkOk_by (N := nm_seen_ways) (sc := defScope st_seen_ways) (by decide +kernel)) (fun _ _ _ _ _ => pg_name (i := 4) nd rfl (Or.inl rfl)) tgok_name (fun _ _ _ _ _ => tsOne (xtv (xfc c_none_hides (hr.mono (by decide)) takes0 rfl (acons (xv 0) (acons (xv 1) (acons (xv 3) (acons (xv 4) anil))))))) (fun _ _ _ _ _ => (xcallT oList rfl T.n_list bb_list (acons (xv 4) anil)))))))
abbrev st_first_that_hides : Stmt := top 19
abbrev nm_first_that_hides : List Str := ["net", "table", "ways", "other", "way"]
theorem sc_first_that_hides : FnScope nm_first_that_hides ["net", "table", "ways", "other"] (defScope st_first_that_hides) := ⟨rfl, rfl, rfl, by decide +kernel, rfl, by decide +kernel, by decide +kernel⟩
def first_that_hides_b1 (sp_hides : Spc) : WS :=
  (wIf (wB (wFn sp_hides [] (wCons (wVar 0) (wCons (wVar 1) (wCons (wVar 4) (wCons (wVar 3) wNil)))))) (wRet (wCall pList (wCons (wVar 4) wNil))) wNext)
def first_that_hides_r1 : WS :=
  (wRet (wC .none))
def ws_first_that_hides (sp_hides : Spc) : WS :=
  (wSeq (wFor (wIt (wVar 2)) (gN 4) (first_that_hides_b1 sp_hides))
    first_that_hides_r1)
theorem ok_first_that_hides {f : Addr} {fd : FuncData} {sp : Spc} {sp_hides : Spc} (F : Fun K "first_that_hides" "first_that_hides" st_first_that_hides f fd) (T : Txt mg) (c_hides : Fc P w K mg base "hides" 2 ["net", "table", "one", "other"] sp_hides) (hl : ∀ ds S K KX, sp ds S K KX → ds.length = 4)
    (hs : ∀ ds S K KX, sp ds S K KX → ws_first_that_hides sp_hides { nx := fun _ S1 => K (.z .none) S1, rt := K, ex := fun y _ S1 => KX y S1 } (startE nm_first_that_hides ds) S) : FnOk P w K mg base (L2.CX P w) 3 f fd ["net", "table", "ways", "other"] (spOf sp) := by
  have nd := sc_first_that_hides.nd
  refine fnpx F sc_first_that_hides hl (ws := ws_first_that_hides sp_hides) (fun cdv A outer s H E B F0 hr tk hp => ?_) hs
  have hu := hu_px hr
  exact (bcons (xfor hp rfl (xit (xv 2)) (xgn 4 nd) (bone (xif (xtv (xfc c_hides (hr.mono (by decide)) tk rfl (acons (xv 0) (acons (xv 1) (acons (xv 4) (acons (xv 3) anil)))))) (bone (xret (xcallT oList rfl T.n_list bb_list (acons (xv 4) anil)))) bnil)))
    (bone (xret xnon)))
abbrev st_hidden_ways : Stmt := top 20
abbrev nm_hidden_ways : List Str := ["net", "table", "ways", "nexts_by", "shown", "rows", "way"]
theorem sc_hidden_ways : FnScope nm_hidden_ways ["net", "table", "ways"] (defScope st_hidden_ways) := ⟨rfl, rfl, rfl, by decide +kernel, rfl, by decide +kernel, by decide +kernel⟩
def hidden_ways_c1 (sp_none_hides : Spc) : WT :=
  (wB (wFn sp_none_hides [] (wCons (wVar 0) (wCons (wVar 1) (wCons (wVar 3) (wCons (wVar 6) wNil))))))
def hidden_ways_e1 : WE :=
  (wVar 6)
def hidden_ways_b1 (sp_none_hides : Spc) (sp_first_that_hides : Spc) : WS :=
  (wIf (wNot (wB (wFn sp_none_hides [] (wCons (wVar 0) (wCons (wVar 1) (wCons (wVar 3) (wCons (wVar 6) wNil))))))) (wDrop (wMth .list pApp (wVar 5) (wCons (wTup (wCons (wCall pList (wCons (wVar 6) wNil)) (wCons (wFn sp_first_that_hides [] (wCons (wVar 0) (wCons (wVar 1) (wCons (wVar 4) (wCons (wVar 6) wNil))))) wNil))) wNil))) wNext)
def hidden_ways_r1 : WS :=
  (wRet (wVar 5))
def ws_hidden_ways (sp_labels_behind : Spc) (sp_none_hides : Spc) (sp_first_that_hides : Spc) : WS :=
  (wSeq (wAsg (wFn sp_labels_behind [] (wCons (wVar 0) (wCons (wVar 2) wNil))) (gN 3))
    (wSeq (wAsg (wLc (wIt (wVar 2)) (tgN 6) (hidden_ways_c1 sp_none_hides) hidden_ways_e1 [6]) (gN 4))
    (wSeq (wAsg (wLst wNil) (gN 5))
    (wSeq (wFor (wIt (wVar 2)) (gN 6) (hidden_ways_b1 sp_none_hides sp_first_that_hides))
    hidden_ways_r1))))
theorem ok_hidden_ways {f : Addr} {fd : FuncData} {sp : Spc} {sp_labels_behind : Spc} {sp_none_hides : Spc} {sp_first_that_hides : Spc} (F : Fun K "hidden_ways" "hidden_ways" st_hidden_ways f fd) (T : Txt mg) (c_labels_behind : Fc P w K mg base "labels_behind" 2 ["net", "ways"] sp_labels_behind) (c_none_hides : Fc P w K mg base "none_hides" 2 ["net", "table", "nexts_by", "way"] sp_none_hides) (c_first_that_hides : Fc P w K mg base "first_that_hides" 3 ["net", "table", "ways", "other"] sp_first_that_hides) (hl : ∀ ds S K KX, sp ds S K KX → ds.length = 3)
    (hs : ∀ ds S K KX, sp ds S K KX → ws_hidden_ways sp_labels_behind sp_none_hides sp_first_that_hides { nx := fun _ S1 => K (.z .none) S1, rt := K, ex := fun y _ S1 => KX y S1 } (startE nm_hidden_ways ds) S) : FnOk P w K mg base (L2.CX P w) 4 f fd ["net", "table", "ways"] (spOf sp) := by
  have nd := sc_hidden_ways.nd
  refine fnpx F sc_hidden_ways hl (ws := ws_hidden_ways sp_labels_behind sp_none_hides sp_first_that_hides) (fun cdv A outer s H E B F0 hr tk hp => ?_) hs
  have hu := hu_px hr
  exact (bcons (xasg (xfc c_labels_behind (hr.mono (by decide)) tk rfl (acons (xv 0) (acons (xv 2) anil))) (xgn 3 nd))
    (bcons (xsetLc (i := 4) (own := [("way", 6)]) rfl nd rfl rfl (sw_true rfl rfl rfl (by decide +kernel)) (xit (xv 2)) (blkOk_by (N := nm_hidden_ways) (sc := defScope st_hidden_ways) (by decide +kernel)) (fun _ _ _ _ _ => pg_name (i := 6) nd rfl (Or.inl rfl)) tgok_name (fun _ _ _ _ _ => tsOne (xtv (xfc c_none_hides (hr.mono (by decide)) takes0 rfl (acons (xv 0) (acons (xv 1) (acons (xv 3) (acons (xv 6) anil))))))) (fun _ _ _ _ _ => (xv 6)))
    (bcons (xasg (xlst anil) (xgn 5 nd))
    (bcons (xfor hp rfl (xit (xv 2)) (xgn 6 nd) (bone (xif (xtnot (xtv (xfc c_none_hides (hr.mono (by decide)) tk rfl (acons (xv 0) (acons (xv 1) (acons (xv 3) (acons (xv 6) anil))))))) (bone (xexpr (xm1 (T := .list) PySem.F.plainAttrs_list PySem.F.slot_list_append PySem.F.type_list_append oApp (xv 5) (acons (xtup (acons (xcallT oList rfl T.n_list bb_list (acons (xv 6) anil)) (acons (xfc c_first_that_hides (hr.mono (by decide)) tk rfl (acons (xv 0) (acons (xv 1) (acons (xv 4) (acons (xv 6) anil))))) anil))) anil)))) bnil)))
    (bone (xret (xv 5)))))))
abbrev st_nexts : Stmt := top 22
abbrev nm_nexts : List Str := ["pairs", "label", "found", "better", "worse"]
theorem sc_nexts : FnScope nm_nexts ["pairs", "label"] (defScope st_nexts) := ⟨rfl, rfl, rfl, by decide +kernel, rfl, by decide +kernel, by decide +kernel⟩
def nexts_b1 : WS :=
  (wIf (wAnd (wB (w2 (cB bEq) (wVar 3) (wVar 1))) (wB (w2 (cB bNotIn) (wVar 4) (wVar 2)))) (wDrop (wMth .list pApp (wVar 2) (wCons (wVar 4) wNil))) wNext)
def nexts_r1 : WS :=
  (wRet (wVar 2))
def ws_nexts : WS :=
  (wSeq (wAsg (wLst wNil) (gN 2))
    (wSeq (wFor (wIt (wVar 0)) (gT 2 (gC (gN 3) (gC (gN 4) gE))) nexts_b1)
    nexts_r1))
theorem ok_nexts {f : Addr} {fd : FuncData} {sp : Spc} (F : Fun K "nexts" "nexts" st_nexts f fd) (T : Txt mg) (hl : ∀ ds S K KX, sp ds S K KX → ds.length = 2)
    (hs : ∀ ds S K KX, sp ds S K KX → ws_nexts { nx := fun _ S1 => K (.z .none) S1, rt := K, ex := fun y _ S1 => KX y S1 } (startE nm_nexts ds) S) : FnOk P w K mg base (L2.CX P w) 1 f fd ["pairs", "label"] (spOf sp) := by
  have nd := sc_nexts.nd
  refine fnpx F sc_nexts hl (ws := ws_nexts) (fun cdv A outer s H E B F0 hr tk hp => ?_) hs
  have hu := hu_px hr
  exact (bcons (xasg (xlst anil) (xgn 2 nd))
    (bcons (xfor hp rfl (xit (xv 0)) (xgt rfl (xgc (xgn 3 nd) (xgc (xgn 4 nd) xge))) (bone (xif (xtw (yand (xtcmp (oEq hu) (xv 3) (xv 1)) (yand1 (xtcmp (oNotIn hu) (xv 4) (xv 2))))) (bone (xexpr (xm1 (T := .list) PySem.F.plainAttrs_list PySem.F.slot_list_append PySem.F.type_list_append oApp (xv 2) (acons (xv 4) anil)))) bnil)))
    (bone (xret (xv 2)))))
abbrev st_below : Stmt := top 23
abbrev nm_below : List Str := ["pairs", "label", "come", "waiting", "here", "worse"]
theorem sc_below : FnScope nm_below ["pairs", "label"] (defScope st_below) := ⟨rfl, rfl, rfl, by decide +kernel, rfl, by decide +kernel, by decide +kernel⟩
def below_b1 : WS :=
  (wIf (wB (w2 (cB bNotIn) (wVar 5) (wVar 2))) (wSeq (wAsg (wC (.bool true)) (gS (wVar 2) (wVar 5)))
    (wDrop (wMth .list pApp (wVar 3) (wCons (wVar 5) wNil)))) wNext)
def below_t1 : WT :=
  (wB (w2 (cB bNe) (wVar 3) (wLst wNil)))
def below_b2 (sp_nexts : Spc) : WS :=
  (wSeq (wAsg (wMth .list pPop (wVar 3) wNil) (gN 4))
    (wFor (wIt (wFn sp_nexts [] (wCons (wVar 0) (wCons (wVar 4) wNil)))) (gN 5) below_b1))
def below_r1 : WS :=
  (wRet (wCall pSorted (wCons (wVar 2) wNil)))
def ws_below (sp_nexts : Spc) : WS :=
  (wSeq (wAsg wDic (gN 2))
    (wSeq (wAsg (wLst (wCons (wVar 1) wNil)) (gN 3))
    (wSeq (wWhile below_t1 (below_b2 sp_nexts))
    below_r1)))
theorem ok_below {f : Addr} {fd : FuncData} {sp : Spc} {sp_nexts : Spc} (F : Fun K "below" "below" st_below f fd) (T : Txt mg) (c_nexts : Fc P w K mg base "nexts" 1 ["pairs", "label"] sp_nexts) (hl : ∀ ds S K KX, sp ds S K KX → ds.length = 2)
    (hs : ∀ ds S K KX, sp ds S K KX → ws_below sp_nexts { nx := fun _ S1 => K (.z .none) S1, rt := K, ex := fun y _ S1 => KX y S1 } (startE nm_below ds) S) : FnOk P w K mg base (L2.CX P w) 2 f fd ["pairs", "label"] (spOf sp) := by
  have nd := sc_below.nd
  refine fnpx F sc_below hl (ws := ws_below sp_nexts) (fun cdv A outer s H E B F0 hr tk hp => ?_) hs
  have hu := hu_px hr
  exact (bcons (xasg xdic (xgn 2 nd))
    (bcons (xasg (xlst (acons (xv 1) anil)) (xgn 3 nd))
    (bcons (xwhile hp (xtcmp (oNe hu) (xv 3) (xlst anil)) (bcons (xasg (xm0 (T := .list) PySem.F.plainAttrs_list PySem.F.slot_list_pop PySem.F.type_list_pop oPop (xv 3)) (xgn 4 nd))
    (bone (xfor hp rfl (xit (xfc c_nexts (hr.mono (by decide)) tk rfl (acons (xv 0) (acons (xv 4) anil)))) (xgn 5 nd) (bone (xif (xtcmp (oNotIn hu) (xv 5) (xv 2)) (bcons (xasg xbl (xgs (W := W0) hu (xv 2) (xv 5)))
    (bone (xexpr (xm1 (T := .list) PySem.F.plainAttrs_list PySem.F.slot_list_append PySem.F.type_list_append oApp (xv 3) (acons (xv 5) anil))))) bnil))))))
    (bone (xret (xcallB (oSorted hu rfl) rfl T.n_sorted bb_sorted (acons (xv 2) anil)))))))
abbrev st_chain : Stmt := top 24
abbrev nm_chain : List Str := ["pairs", "one", "other", "come", "waiting", "way", "worse"]
theorem sc_chain : FnScope nm_chain ["pairs", "one", "other"] (defScope st_chain) := ⟨rfl, rfl, rfl, by decide +kernel, rfl, by decide +kernel, by decide +kernel⟩
def chain_b1 : WS :=
  (wSeq (wIf (wB (w2 (cB bEq) (wVar 6) (wVar 2))) (wRet (w2 pAdd (wVar 5) (wLst (wCons (wVar 6) wNil)))) wNext)
    (wIf (wB (w2 (cB bNotIn) (wVar 6) (wVar 3))) (wSeq (wAsg (wC (.bool true)) (gS (wVar 3) (wVar 6)))
    (wDrop (wMth .list pApp (wVar 4) (wCons (w2 pAdd (wVar 5) (wLst (wCons (wVar 6) wNil))) wNil)))) wNext))
def chain_t1 : WT :=
  (wB (w2 (cB bNe) (wVar 4) (wLst wNil)))
def chain_b2 (sp_nexts : Spc) : WS :=
  (wSeq (wAsg (wMth .list pPop (wVar 4) (wCons (wC (.int 0)) wNil)) (gN 5))
    (wFor (wIt (wFn sp_nexts [] (wCons (wVar 0) (wCons (w2 pIx (wVar 5) (w1 pNeg (wC (.int 1)))) wNil)))) (gN 6) chain_b1))
def chain_r1 : WS :=
  (wRet (wC .none))
def ws_chain (sp_nexts : Spc) : WS :=
  (wSeq (wAsg wDic (gN 3))
    (wSeq (wAsg (wLst (wCons (wLst (wCons (wVar 1) wNil)) wNil)) (gN 4))
    (wSeq (wWhile chain_t1 (chain_b2 sp_nexts))
    chain_r1)))
theorem ok_chain {f : Addr} {fd : FuncData} {sp : Spc} {sp_nexts : Spc} (F : Fun K "chain" "chain" st_chain f fd) (T : Txt mg) (c_nexts : Fc P w K mg base "nexts" 1 ["pairs", "label"] sp_nexts) (hl : ∀ ds S K KX, sp ds S K KX → ds.length = 3)
    (hs : ∀ ds S K KX, sp ds S K KX → ws_chain sp_nexts { nx := fun _ S1 => K (.z .none) S1, rt := K, ex := fun y _ S1 => KX y S1 } (startE nm_chain ds) S) : FnOk P w K mg base (L2.CX P w) 2 f fd ["pairs", "one", "other"] (spOf sp) := by
  have nd := sc_chain.nd
  refine fnpx F sc_chain hl (ws := ws_chain sp_nexts) (fun cdv A outer s H E B F0 hr tk hp => ?_) hs
  have hu := hu_px hr
  exact (bcons (xasg xdic (xgn 3 nd))
    (bcons (xasg (xlst (acons (xlst (acons (xv 1) anil)) anil)) (xgn 4 nd))
    (bcons (xwhile hp (xtcmp (oNe hu) (xv 4) (xlst anil)) (bcons (xasg (xm1 (T := .list) PySem.F.plainAttrs_list PySem.F.slot_list_pop PySem.F.type_list_pop oPop (xv 4) (acons xint anil)) (xgn 5 nd))
    (bone (xfor hp rfl (xit (xfc c_nexts (hr.mono (by decide)) tk rfl (acons (xv 0) (acons (xix (oIx hu) (xv 5) (xun oNeg xint)) anil)))) (xgn 6 nd) (bcons (xif (xtcmp (oEq hu) (xv 6) (xv 2)) (bone (xret (xop oAdd (xv 5) (xlst (acons (xv 6) anil))))) bnil)
    (bone (xif (xtcmp (oNotIn hu) (xv 6) (xv 3)) (bcons (xasg xbl (xgs (W := W0) hu (xv 3) (xv 6)))
    (bone (xexpr (xm1 (T := .list) PySem.F.plainAttrs_list PySem.F.slot_list_append PySem.F.type_list_append oApp (xv 4) (acons (xop oAdd (xv 5) (xlst (acons (xv 6) anil))) anil))))) bnil)))))))
    (bone (xret xnon)))))
abbrev st_labels_ahead : Stmt := top 25
abbrev nm_labels_ahead : List Str := ["pairs", "pair"]
theorem sc_labels_ahead : FnScope nm_labels_ahead ["pairs"] (defScope st_labels_ahead) := ⟨rfl, rfl, rfl, by decide +kernel, rfl, by decide +kernel, by decide +kernel⟩
def labels_ahead_e1 : WE :=
  (w2 pIx (wVar 1) (wC (.int 0)))
def ws_labels_ahead : WS :=
  (wRet (wSortSet (wLc (wIt (wVar 0)) (tgN 1) wYes labels_ahead_e1 [1])))
theorem ok_labels_ahead {f : Addr} {fd : FuncData} {sp : Spc} (F : Fun K "labels_ahead" "labels_ahead" st_labels_ahead f fd) (T : Txt mg) (hl : ∀ ds S K KX, sp ds S K KX → ds.length = 1)
    (hs : ∀ ds S K KX, sp ds S K KX → ws_labels_ahead { nx := fun _ S1 => K (.z .none) S1, rt := K, ex := fun y _ S1 => KX y S1 } (startE nm_labels_ahead ds) S) : FnOk P w K mg base (L2.CX P w) 1 f fd ["pairs"] (spOf sp) := by
  have nd := sc_labels_ahead.nd
  refine fnpx F sc_labels_ahead hl (ws := ws_labels_ahead) (fun cdv A outer s H E B F0 hr tk hp => ?_) hs
  have hu := hu_px hr
  exact (bone (xret (xsortset rfl rfl T.n_sorted rfl T.n_set (xlc (own := [("pair", 1)]) rfl nd (xit (xv 0)) (blkOk_by (N := nm_labels_ahead) (sc := defScope st_labels_ahead) (by decide +kernel)) (fun _ _ _ _ _ => pg_name (i := 1) nd rfl (Or.inl rfl)) tgok_name (fun _ _ _ _ _ => tsNil) (fun _ _ _ _ _ => (xix (oIx hu) (xv 1) xint))))))
abbrev st_order_of : Stmt := top 26
abbrev nm_order_of : List Str := ["pairs", "found", "better", "worse", "way"]
theorem sc_order_of : FnScope nm_order_of ["pairs"] (defScope st_order_of) := ⟨rfl, rfl, rfl, by decide +kernel, rfl, by decide +kernel, by decide +kernel⟩
def order_of_b1 (sp_chain : Spc) : WS :=
  (wSeq (wIf (wB (w2 (cB bEq) (wVar 3) (wVar 2))) (wSeq (wAsg (wFn sp_chain [] (wCons (wVar 0) (wCons (wVar 2) (wCons (wVar 2) wNil)))) (gN 4))
    wNever) wNext)
    (wDrop (wMth .list pApp (wVar 1) (wCons (wTup (wCons (wVar 2) (wCons (wVar 3) wNil))) wNil))))
def order_of_b2 (sp_below : Spc) (sp_chain : Spc) : WS :=
  (wFor (wIt (wFn sp_below [] (wCons (wVar 0) (wCons (wVar 2) wNil)))) (gN 3) (order_of_b1 sp_chain))
def order_of_r1 : WS :=
  (wRet (wVar 1))
def ws_order_of (sp_labels_ahead : Spc) (sp_below : Spc) (sp_chain : Spc) : WS :=
  (wSeq (wAsg (wLst wNil) (gN 1))
    (wSeq (wFor (wIt (wFn sp_labels_ahead [] (wCons (wVar 0) wNil))) (gN 2) (order_of_b2 sp_below sp_chain))
    order_of_r1))
theorem ok_order_of {f : Addr} {fd : FuncData} {sp : Spc} {sp_labels_ahead : Spc} {sp_below : Spc} {sp_chain : Spc} (F : Fun K "order_of" "order_of" st_order_of f fd) (T : Txt mg) (c_labels_ahead : Fc P w K mg base "labels_ahead" 1 ["pairs"] sp_labels_ahead) (c_below : Fc P w K mg base "below" 2 ["pairs", "label"] sp_below) (c_chain : Fc P w K mg base "chain" 2 ["pairs", "one", "other"] sp_chain) (hl : ∀ ds S K KX, sp ds S K KX → ds.length = 1)
    (hs : ∀ ds S K KX, sp ds S K KX → ws_order_of sp_labels_ahead sp_below sp_chain { nx := fun _ S1 => K (.z .none) S1, rt := K, ex := fun y _ S1 => KX y S1 } (startE nm_order_of ds) S) : FnOk P w K mg base (L2.CX P w) 3 f fd ["pairs"] (spOf sp) := by
  have nd := sc_order_of.nd
  refine fnpx F sc_order_of hl (ws := ws_order_of sp_labels_ahead sp_below sp_chain) (fun cdv A outer s H E B F0 hr tk hp => ?_) hs
  have hu := hu_px hr
  exact (bcons (xasg (xlst anil) (xgn 1 nd))
    (bcons (xfor hp rfl (xit (xfc c_labels_ahead (hr.mono (by decide)) tk rfl (acons (xv 0) anil))) (xgn 2 nd) (bone (xfor hp rfl (xit (xfc c_below (hr.mono (by decide)) tk rfl (acons (xv 0) (acons (xv 2) anil)))) (xgn 3 nd) (bcons (xif (xtcmp (oEq hu) (xv 3) (xv 2)) (bcons (xasg (xfc c_chain (hr.mono (by decide)) tk rfl (acons (xv 0) (acons (xv 2) (acons (xv 2) anil)))) (xgn 4 nd))
    (bone xnever)) bnil)
    (bone (xexpr (xm1 (T := .list) PySem.F.plainAttrs_list PySem.F.slot_list_append PySem.F.type_list_append oApp (xv 1) (acons (xtup (acons (xv 2) (acons (xv 3) anil))) anil))))))))
    (bone (xret (xv 1)))))
abbrev st_too_great : Stmt := top 31
abbrev nm_too_great : List Str := ["states", "pairs", "goes", "ends"]
theorem sc_too_great : FnScope nm_too_great ["states", "pairs"] (defScope st_too_great) := ⟨rfl, rfl, rfl, by decide +kernel, rfl, by decide +kernel, by decide +kernel⟩
def too_great_b1 : WS :=
  (wIf (wOr (wB (w2 (cB bGt) (wCall pLen (wCons (wVar 2) wNil)) (wC (.int 8)))) (wB (w2 (cB bGt) (wCall pLen (wCons (wVar 3) wNil)) (wC (.int 8))))) (wRet (wC (.bool true))) wNext)
def too_great_r1 : WS :=
  (wRet (wC (.bool false)))
def too_great_r2 : WS :=
  (wSeq (wFor (wIt (wVar 0)) (gT 2 (gC (gN 2) (gC (gN 3) gE))) too_great_b1)
    too_great_r1)
def ws_too_great : WS :=
  (wSeq (wIf (wOr (wB (w2 (cB bGt) (wCall pLen (wCons (wVar 0) wNil)) (wC (.int 8)))) (wB (w2 (cB bGt) (wCall pLen (wCons (wVar 1) wNil)) (wC (.int 40))))) (wRet (wC (.bool true))) wNext)
    too_great_r2)
theorem ok_too_great {f : Addr} {fd : FuncData} {sp : Spc} (F : Fun K "too_great" "too_great" st_too_great f fd) (T : Txt mg) (hl : ∀ ds S K KX, sp ds S K KX → ds.length = 2)
    (hs : ∀ ds S K KX, sp ds S K KX → ws_too_great { nx := fun _ S1 => K (.z .none) S1, rt := K, ex := fun y _ S1 => KX y S1 } (startE nm_too_great ds) S) : FnOk P w K mg base (L2.CX P w) 1 f fd ["states", "pairs"] (spOf sp) := by
  have nd := sc_too_great.nd
  refine fnpx F sc_too_great hl (ws := ws_too_great) (fun cdv A outer s H E B F0 hr tk hp => ?_) hs
  have hu := hu_px hr
  exact (bcons (xif (xtw (yor (xtcmp oGt (xcallB oLen rfl T.n_len bb_len (acons (xv 0) anil)) (xgI rfl T.c_MOST_STATES)) (yor1 (xtcmp oGt (xcallB oLen rfl T.n_len bb_len (acons (xv 1) anil)) (xgI rfl T.c_MOST_PAIRS))))) (bone (xret xbl)) bnil)
    (bcons (xfor hp rfl (xit (xv 0)) (xgt rfl (xgc (xgn 2 nd) (xgc (xgn 3 nd) xge))) (bone (xif (xtw (yor (xtcmp oGt (xcallB oLen rfl T.n_len bb_len (acons (xv 2) anil)) (xgI rfl T.c_MOST_LABELS)) (yor1 (xtcmp oGt (xcallB oLen rfl T.n_len bb_len (acons (xv 3) anil)) (xgI rfl T.c_MOST_LABELS))))) (bone (xret xbl)) bnil)))
    (bone (xret xbl))))
abbrev st_labels_in : Stmt := top 32
abbrev nm_labels_in : List Str := ["states", "pairs", "found", "goes", "ends", "better", "worse", "label", "state"]
theorem sc_labels_in : FnScope nm_labels_in ["states", "pairs"] (defScope st_labels_in) := ⟨rfl, rfl, rfl, by decide +kernel, rfl, by decide +kernel, by decide +kernel⟩
def labels_in_e1 : WE :=
  (wVar 7)
def labels_in_b1 : WS :=
  (wSeq (wDrop (wMth .list pExt (wVar 2) (wCons (wLc (wIt (wVar 3)) (tgT [7, 8]) wYes labels_in_e1 [7, 8]) wNil)))
    (wDrop (wMth .list pExt (wVar 2) (wCons (wVar 4) wNil))))
def labels_in_b2 : WS :=
  (wSeq (wDrop (wMth .list pApp (wVar 2) (wCons (wVar 5) wNil)))
    (wDrop (wMth .list pApp (wVar 2) (wCons (wVar 6) wNil))))
def labels_in_r1 : WS :=
  (wRet (wVar 2))
def labels_in_r2 : WS :=
  (wSeq (wFor (wIt (wVar 1)) (gT 2 (gC (gN 5) (gC (gN 6) gE))) labels_in_b2)
    labels_in_r1)
def ws_labels_in : WS :=
  (wSeq (wAsg (wLst wNil) (gN 2))
    (wSeq (wFor (wIt (wVar 0)) (gT 2 (gC (gN 3) (gC (gN 4) gE))) labels_in_b1)
    labels_in_r2))
theorem ok_labels_in {f : Addr} {fd : FuncData} {sp : Spc} (F : Fun K "labels_in" "labels_in" st_labels_in f fd) (T : Txt mg) (hl : ∀ ds S K KX, sp ds S K KX → ds.length = 2)
    (hs : ∀ ds S K KX, sp ds S K KX → ws_labels_in { nx := fun _ S1 => K (.z .none) S1, rt := K, ex := fun y _ S1 => KX y S1 } (startE nm_labels_in ds) S) : FnOk P w K mg base (L2.CX P w) 1 f fd ["states", "pairs"] (spOf sp) := by
  have nd := sc_labels_in.nd
  refine fnpx F sc_labels_in hl (ws := ws_labels_in) (fun cdv A outer s H E B F0 hr tk hp => ?_) hs
  have hu := hu_px hr
  exact (bcons (xasg (xlst anil) (xgn 2 nd))
    (bcons (xfor hp rfl (xit (xv 0)) (xgt rfl (xgc (xgn 3 nd) (xgc (xgn 4 nd) xge))) (bcons (xexpr (xm1 (T := .list) PySem.F.plainAttrs_list PySem.F.slot_list_extend PySem.F.type_list_extend oExt (xv 2) (acons (xlc (own := [("label", 7), ("state", 8)]) rfl nd (xit (xv 3)) (blkOk_by (N := nm_labels_in) (sc := defScope st_labels_in) (by decide +kernel)) (fun _ _ _ _ _ => pg_tup (n := 2) rfl (pgs_cons (pg_name (i := 7) nd rfl (Or.inl rfl)) (pgs_cons (pg_name (i := 8) nd rfl (Or.inl rfl)) pgs_nil))) (tgok_tup (is := [7, 8])) (fun _ _ _ _ _ => tsNil) (fun _ _ _ _ _ => (xv 7))) anil)))
    (bone (xexpr (xm1 (T := .list) PySem.F.plainAttrs_list PySem.F.slot_list_extend PySem.F.type_list_extend oExt (xv 2) (acons (xv 4) anil))))))
    (bcons (xfor hp rfl (xit (xv 1)) (xgt rfl (xgc (xgn 5 nd) (xgc (xgn 6 nd) xge))) (bcons (xexpr (xm1 (T := .list) PySem.F.plainAttrs_list PySem.F.slot_list_append PySem.F.type_list_append oApp (xv 2) (acons (xv 5) anil)))
    (bone (xexpr (xm1 (T := .list) PySem.F.plainAttrs_list PySem.F.slot_list_append PySem.F.type_list_append oApp (xv 2) (acons (xv 6) anil))))))
    (bone (xret (xv 2))))))
abbrev st_numbers_in : Stmt := top 33
abbrev nm_numbers_in : List Str := ["states", "inner", "found", "goes", "ends", "label", "state"]
theorem sc_numbers_in : FnScope nm_numbers_in ["states", "inner"] (defScope st_numbers_in) := ⟨rfl, rfl, rfl, by decide +kernel, rfl, by decide +kernel, by decide +kernel⟩
def numbers_in_e1 : WE :=
  (wVar 6)
def numbers_in_b1 : WS :=
  (wDrop (wMth .list pExt (wVar 2) (wCons (wLc (wIt (wVar 3)) (tgT [5, 6]) wYes numbers_in_e1 [5, 6]) wNil)))
def numbers_in_r1 : WS :=
  (wRet (wVar 2))
def ws_numbers_in : WS :=
  (wSeq (wAsg (wLst (wCons (wVar 1) wNil)) (gN 2))
    (wSeq (wFor (wIt (wVar 0)) (gT 2 (gC (gN 3) (gC (gN 4) gE))) numbers_in_b1)
    numbers_in_r1))
theorem ok_numbers_in {f : Addr} {fd : FuncData} {sp : Spc} (F : Fun K "numbers_in" "numbers_in" st_numbers_in f fd) (T : Txt mg) (hl : ∀ ds S K KX, sp ds S K KX → ds.length = 2)
    (hs : ∀ ds S K KX, sp ds S K KX → ws_numbers_in { nx := fun _ S1 => K (.z .none) S1, rt := K, ex := fun y _ S1 => KX y S1 } (startE nm_numbers_in ds) S) : FnOk P w K mg base (L2.CX P w) 1 f fd ["states", "inner"] (spOf sp) := by
  have nd := sc_numbers_in.nd
  refine fnpx F sc_numbers_in hl (ws := ws_numbers_in) (fun cdv A outer s H E B F0 hr tk hp => ?_) hs
  have hu := hu_px hr
  exact (bcons (xasg (xlst (acons (xv 1) anil)) (xgn 2 nd))
    (bcons (xfor hp rfl (xit (xv 0)) (xgt rfl (xgc (xgn 3 nd) (xgc (xgn 4 nd) xge))) (bone (xexpr (xm1 (T := .list) PySem.F.plainAttrs_list PySem.F.slot_list_extend PySem.F.type_list_extend oExt (xv 2) (acons (xlc (own := [("label", 5), ("state", 6)]) rfl nd (xit (xv 3)) (blkOk_by (N := nm_numbers_in) (sc := defScope st_numbers_in) (by decide +kernel)) (fun _ _ _ _ _ => pg_tup (n := 2) rfl (pgs_cons (pg_name (i := 5) nd rfl (Or.inl rfl)) (pgs_cons (pg_name (i := 6) nd rfl (Or.inl rfl)) pgs_nil))) (tgok_tup (is := [5, 6])) (fun _ _ _ _ _ => tsNil) (fun _ _ _ _ _ => (xv 6))) anil)))))
    (bone (xret (xv 2)))))
abbrev st_has_double : Stmt := top 34
abbrev nm_has_double : List Str := ["labels"]
theorem sc_has_double : FnScope nm_has_double ["labels"] (defScope st_has_double) := ⟨rfl, rfl, rfl, by decide +kernel, rfl, by decide +kernel, by decide +kernel⟩
def ws_has_double : WS :=
  (wRet (w2 (cB bLtD) (wLenSet (wVar 0)) (wCall pLen (wCons (wVar 0) wNil))))
theorem ok_has_double {f : Addr} {fd : FuncData} {sp : Spc} (F : Fun K "has_double" "has_double" st_has_double f fd) (T : Txt mg) (hl : ∀ ds S K KX, sp ds S K KX → ds.length = 1)
    (hs : ∀ ds S K KX, sp ds S K KX → ws_has_double { nx := fun _ S1 => K (.z .none) S1, rt := K, ex := fun y _ S1 => KX y S1 } (startE nm_has_double ds) S) : FnOk P w K mg base (L2.CX P w) 1 f fd ["labels"] (spOf sp) := by
  have nd := sc_has_double.nd
  refine fnpx F sc_has_double hl (ws := ws_has_double) (fun cdv A outer s H E B F0 hr tk hp => ?_) hs
  have hu := hu_px hr
  exact (bone (xret (xcmp (oLtD hu) (xlenset rfl rfl T.n_len rfl T.n_set (xv 0)) (xcallB oLen rfl T.n_len bb_len (acons (xv 0) anil)))))
abbrev st_table_of : Stmt := top 35
abbrev nm_table_of : List Str := ["states", "inner", "pairs", "label", "number", "order", "goes", "ends", "state"]
theorem sc_table_of : FnScope nm_table_of ["states", "inner", "pairs"] (defScope st_table_of) := ⟨rfl, rfl, rfl, by decide +kernel, rfl, by decide +kernel, by decide +kernel⟩
def table_of_b1 (sp_is_name : Spc) : WS :=
  (wIf (wNot (wB (wFn sp_is_name [] (wCons (wVar 3) wNil)))) wNever wNext)
def table_of_b2 : WS :=
  (wIf (wOr (wB (w2 (cB bLtD) (wVar 4) (wC (.int 0)))) (wB (w2 (cB bGe) (wVar 4) (wCall pLen (wCons (wVar 0) wNil))))) wNever wNext)
def table_of_e1 : WE :=
  (wVar 3)
def table_of_b3 (sp_has_double : Spc) : WS :=
  (wIf (wOr (wB (wFn sp_has_double [] (wCons (wLc (wIt (wVar 6)) (tgT [3, 8]) wYes table_of_e1 [3, 8]) wNil))) (wB (wFn sp_has_double [] (wCons (wVar 7) wNil)))) wNever wNext)
def table_of_e2 : WE :=
  (wTup (wCons (wCall pSorted (wCons (wVar 6) wNil)) (wCons (wCall pSorted (wCons (wVar 7) wNil)) wNil)))
def table_of_r1 (sp_order_of : Spc) : WS :=
  (wSeq (wAsg (wFn sp_order_of [] (wCons (wVar 2) wNil)) (gN 5))
    (wRet (wTup (wCons (wLc (wIt (wVar 0)) (tgT [6, 7]) wYes table_of_e2 [6, 7]) (wCons (wVar 1) (wCons (wVar 5) wNil))))))
def table_of_r2 (sp_has_double : Spc) (sp_order_of : Spc) : WS :=
  (wSeq (wFor (wIt (wVar 0)) (gT 2 (gC (gN 6) (gC (gN 7) gE))) (table_of_b3 sp_has_double))
    (table_of_r1 sp_order_of))
def table_of_r3 (sp_numbers_in : Spc) (sp_has_double : Spc) (sp_order_of : Spc) : WS :=
  (wSeq (wFor (wIt (wFn sp_numbers_in [] (wCons (wVar 0) (wCons (wVar 1) wNil)))) (gN 4) table_of_b2)
    (table_of_r2 sp_has_double sp_order_of))
def table_of_r4 (sp_labels_in : Spc) (sp_is_name : Spc) (sp_numbers_in : Spc) (sp_has_double : Spc) (sp_order_of : Spc) : WS :=
  (wSeq (wFor (wIt (wFn sp_labels_in [] (wCons (wVar 0) (wCons (wVar 2) wNil)))) (gN 3) (table_of_b1 sp_is_name))
    (table_of_r3 sp_numbers_in sp_has_double sp_order_of))
def ws_table_of (sp_too_great : Spc) (sp_labels_in : Spc) (sp_is_name : Spc) (sp_numbers_in : Spc) (sp_has_double : Spc) (sp_order_of : Spc) : WS :=
  (wSeq (wIf (wB (wFn sp_too_great [] (wCons (wVar 0) (wCons (wVar 2) wNil)))) wNever wNext)
    (table_of_r4 sp_labels_in sp_is_name sp_numbers_in sp_has_double sp_order_of))
theorem ok_table_of {f : Addr} {fd : FuncData} {sp : Spc} {sp_too_great : Spc} {sp_labels_in : Spc} {sp_is_name : Spc} {sp_numbers_in : Spc} {sp_has_double : Spc} {sp_order_of : Spc} (F : Fun K "table_of" "table_of" st_table_of f fd) (T : Txt mg) (c_too_great : Fc P w K mg base "too_great" 1 ["states", "pairs"] sp_too_great) (c_labels_in : Fc P w K mg base "labels_in" 1 ["states", "pairs"] sp_labels_in) (c_is_name : Fc P w K mg base "is_name" 1 ["thing"] sp_is_name) (c_numbers_in : Fc P w K mg base "numbers_in" 1 ["states", "inner"] sp_numbers_in) (c_has_double : Fc P w K mg base "has_double" 1 ["labels"] sp_has_double) (c_order_of : Fc P w K mg base "order_of" 3 ["pairs"] sp_order_of) (hl : ∀ ds S K KX, sp ds S K KX → ds.length = 3)
    (hs : ∀ ds S K KX, sp ds S K KX → ws_table_of sp_too_great sp_labels_in sp_is_name sp_numbers_in sp_has_double sp_order_of { nx := fun _ S1 => K (.z .none) S1, rt := K, ex := fun y _ S1 => KX y S1 } (startE nm_table_of ds) S) : FnOk P w K mg base (L2.CX P w) 4 f fd ["states", "inner", "pairs"] (spOf sp) := by
  have nd := sc_table_of.nd
  refine fnpx F sc_table_of hl (ws := ws_table_of sp_too_great sp_labels_in sp_is_name sp_numbers_in sp_has_double sp_order_of) (fun cdv A outer s H E B F0 hr tk hp => ?_) hs
  have hu := hu_px hr
  exact (bcons (xif (xtv (xfc c_too_great (hr.mono (by decide)) tk rfl (acons (xv 0) (acons (xv 2) anil)))) (bone xnever) bnil)
    (bcons (xfor hp rfl (xit (xfc c_labels_in (hr.mono (by decide)) tk rfl (acons (xv 0) (acons (xv 2) anil)))) (xgn 3 nd) (bone (xif (xtnot (xtv (xfc c_is_name (hr.mono (by decide)) tk rfl (acons (xv 3) anil)))) (bone xnever) bnil)))
    (bcons (xfor hp rfl (xit (xfc c_numbers_in (hr.mono (by decide)) tk rfl (acons (xv 0) (acons (xv 1) anil)))) (xgn 4 nd) (bone (xif (xtw (yor (xtcmp (oLtD hu) (xv 4) xint) (yor1 (xtcmp oGe (xv 4) (xcallB oLen rfl T.n_len bb_len (acons (xv 0) anil)))))) (bone xnever) bnil)))
    (bcons (xfor hp rfl (xit (xv 0)) (xgt rfl (xgc (xgn 6 nd) (xgc (xgn 7 nd) xge))) (bone (xif (xtw (yor (xtv (xfc c_has_double (hr.mono (by decide)) tk rfl (acons (xlc (own := [("label", 3), ("state", 8)]) rfl nd (xit (xv 6)) (blkOk_by (N := nm_table_of) (sc := defScope st_table_of) (by decide +kernel)) (fun _ _ _ _ _ => pg_tup (n := 2) rfl (pgs_cons (pg_name (i := 3) nd rfl (Or.inl rfl)) (pgs_cons (pg_name (i := 8) nd rfl (Or.inl rfl)) pgs_nil))) (tgok_tup (is := [3, 8])) (fun _ _ _ _ _ => tsNil) (fun _ _ _ _ _ => (xv 3))) anil))) (yor1 (xtv (xfc c_has_double (hr.mono (by decide)) tk rfl (acons (xv 7) anil)))))) (bone xnever) bnil)))
    (bcons (xasg (xfc c_order_of (hr.mono (by decide)) tk rfl (acons (xv 2) anil)) (xgn 5 nd))
    (bone (xret (xtup (acons (xlc (own := [("goes", 6), ("ends", 7)]) rfl nd (xit (xv 0)) (blkOk_by (N := nm_table_of) (sc := defScope st_table_of) (by decide +kernel)) (fun _ _ _ _ _ => pg_tup (n := 2) rfl (pgs_cons (pg_name (i := 6) nd rfl (Or.inl rfl)) (pgs_cons (pg_name (i := 7) nd rfl (Or.inl rfl)) pgs_nil))) (tgok_tup (is := [6, 7])) (fun _ _ _ _ _ => tsNil) (fun _ _ _ _ _ => (xtup (acons (xcallB (oSorted hu rfl) rfl T.n_sorted bb_sorted (acons (xv 6) anil)) (acons (xcallB (oSorted hu rfl) rfl T.n_sorted bb_sorted (acons (xv 7) anil)) anil))))) (acons (xv 1) (acons (xv 5) anil)))))))))))
abbrev st_next_state : Stmt := top 36
abbrev nm_next_state : List Str := ["table", "state", "label", "name", "number"]
theorem sc_next_state : FnScope nm_next_state ["table", "state", "label"] (defScope st_next_state) := ⟨rfl, rfl, rfl, by decide +kernel, rfl, by decide +kernel, by decide +kernel⟩
def next_state_b1 : WS :=
  (wIf (wB (w2 (cB bEq) (wVar 3) (wVar 2))) (wRet (wVar 4)) wNext)
def next_state_r1 : WS :=
  (wRet (wC .none))
def ws_next_state : WS :=
  (wSeq (wFor (wIt (w2 pIx (w2 pIx (w2 pIx (wVar 0) (wC (.int 0))) (wVar 1)) (wC (.int 0)))) (gT 2 (gC (gN 3) (gC (gN 4) gE))) next_state_b1)
    next_state_r1)
theorem ok_next_state {f : Addr} {fd : FuncData} {sp : Spc} (F : Fun K "next_state" "next_state" st_next_state f fd) (T : Txt mg) (hl : ∀ ds S K KX, sp ds S K KX → ds.length = 3)
    (hs : ∀ ds S K KX, sp ds S K KX → ws_next_state { nx := fun _ S1 => K (.z .none) S1, rt := K, ex := fun y _ S1 => KX y S1 } (startE nm_next_state ds) S) : FnOk P w K mg base (L2.CX P w) 1 f fd ["table", "state", "label"] (spOf sp) := by
  have nd := sc_next_state.nd
  refine fnpx F sc_next_state hl (ws := ws_next_state) (fun cdv A outer s H E B F0 hr tk hp => ?_) hs
  have hu := hu_px hr
  exact (bcons (xfor hp rfl (xit (xix (oIx hu) (xix (oIx hu) (xix (oIx hu) (xv 0) xint) (xv 1)) xint)) (xgt rfl (xgc (xgn 3 nd) (xgc (xgn 4 nd) xge))) (bone (xif (xtcmp (oEq hu) (xv 3) (xv 2)) (bone (xret (xv 4))) bnil)))
    (bone (xret xnon)))
abbrev st_has_end : Stmt := top 37
abbrev nm_has_end : List Str := ["table", "state", "label"]
theorem sc_has_end : FnScope nm_has_end ["table", "state", "label"] (defScope st_has_end) := ⟨rfl, rfl, rfl, by decide +kernel, rfl, by decide +kernel, by decide +kernel⟩
def ws_has_end : WS :=
  (wRet (w2 (cB bIn) (wVar 2) (w2 pIx (w2 pIx (w2 pIx (wVar 0) (wC (.int 0))) (wVar 1)) (wC (.int 1)))))
theorem ok_has_end {f : Addr} {fd : FuncData} {sp : Spc} (F : Fun K "has_end" "has_end" st_has_end f fd) (T : Txt mg) (hl : ∀ ds S K KX, sp ds S K KX → ds.length = 3)
    (hs : ∀ ds S K KX, sp ds S K KX → ws_has_end { nx := fun _ S1 => K (.z .none) S1, rt := K, ex := fun y _ S1 => KX y S1 } (startE nm_has_end ds) S) : FnOk P w K mg base (L2.CX P w) 1 f fd ["table", "state", "label"] (spOf sp) := by
  have nd := sc_has_end.nd
  refine fnpx F sc_has_end hl (ws := ws_has_end) (fun cdv A outer s H E B F0 hr tk hp => ?_) hs
  have hu := hu_px hr
  exact (bone (xret (xcmp (oIn hu) (xv 2) (xix (oIx hu) (xix (oIx hu) (xix (oIx hu) (xv 0) xint) (xv 1)) xint))))
abbrev st_usual : Stmt := top 38
abbrev nm_usual : List Str := ["ends", "within", "outside", "states", "pairs", "label"]
theorem sc_usual : FnScope nm_usual [] (defScope st_usual) := ⟨rfl, rfl, rfl, by decide +kernel, rfl, by decide +kernel, by decide +kernel⟩
def usual_e1 : WE :=
  (wTup (wCons (wVar 5) (wCons (wC (.str (PySem.Str.ofString "elder"))) wNil)))
def ws_usual (sp_table_of : Spc) : WS :=
  (wSeq (wAsg (wLst (wCons (wC (.str (PySem.Str.ofString "let"))) (wCons (wC (.str (PySem.Str.ofString "open"))) (wCons (wC (.str (PySem.Str.ofString "own"))) wNil)))) (gN 0))
    (wSeq (wAsg (wLst (wCons (wTup (wCons (wC (.str (PySem.Str.ofString "all"))) (wCons (wC (.int 1)) wNil))) (wCons (wTup (wCons (wC (.str (PySem.Str.ofString "allon"))) (wCons (wC (.int 1)) wNil))) (wCons (wTup (wCons (wC (.str (PySem.Str.ofString "elder"))) (wCons (wC (.int 1)) wNil))) (wCons (wTup (wCons (wC (.str (PySem.Str.ofString "up"))) (wCons (wC (.int 0)) wNil))) wNil))))) (gN 1))
    (wSeq (wAsg (wLst (wCons (wTup (wCons (wC (.str (PySem.Str.ofString "allon"))) (wCons (wC (.int 1)) wNil))) (wCons (wTup (wCons (wC (.str (PySem.Str.ofString "elder"))) (wCons (wC (.int 1)) wNil))) wNil))) (gN 2))
    (wSeq (wAsg (wLst (wCons (wTup (wCons (wVar 1) (wCons (wVar 0) wNil))) (wCons (wTup (wCons (wVar 2) (wCons (wLst (wCons (wC (.str (PySem.Str.ofString "open"))) wNil)) wNil))) (wCons (wTup (wCons (wLst (wCons (wTup (wCons (wC (.str (PySem.Str.ofString "up"))) (wCons (wC (.int 0)) wNil))) wNil)) (wCons (wVar 0) wNil))) wNil)))) (gN 3))
    (wSeq (wAsg (wLc (wIt (wVar 0)) (tgN 5) wYes usual_e1 [5]) (gN 4))
    (wSeq (wDrop (wMth .list pExt (wVar 4) (wCons (wLst (wCons (wTup (wCons (wC (.str (PySem.Str.ofString "elder"))) (wCons (wC (.str (PySem.Str.ofString "all"))) wNil))) (wCons (wTup (wCons (wC (.str (PySem.Str.ofString "elder"))) (wCons (wC (.str (PySem.Str.ofString "allon"))) wNil))) (wCons (wTup (wCons (wC (.str (PySem.Str.ofString "all"))) (wCons (wC (.str (PySem.Str.ofString "up"))) wNil))) (wCons (wTup (wCons (wC (.str (PySem.Str.ofString "allon"))) (wCons (wC (.str (PySem.Str.ofString "up"))) wNil))) wNil))))) wNil)))
    (wRet (wFn sp_table_of [] (wCons (wVar 3) (wCons (wC (.int 1)) (wCons (wVar 4) wNil)))))))))))
theorem ok_usual {f : Addr} {fd : FuncData} {sp : Spc} {sp_table_of : Spc} (F : Fun K "usual" "usual" st_usual f fd) (T : Txt mg) (c_table_of : Fc P w K mg base "table_of" 4 ["states", "inner", "pairs"] sp_table_of) (hl : ∀ ds S K KX, sp ds S K KX → ds.length = 0)
    (hs : ∀ ds S K KX, sp ds S K KX → ws_usual sp_table_of { nx := fun _ S1 => K (.z .none) S1, rt := K, ex := fun y _ S1 => KX y S1 } (startE nm_usual ds) S) : FnOk P w K mg base (L2.CX P w) 5 f fd [] (spOf sp) := by
  have nd := sc_usual.nd
  refine fnpx F sc_usual hl (ws := ws_usual sp_table_of) (fun cdv A outer s H E B F0 hr tk hp => ?_) hs
  have hu := hu_px hr
  exact (bcons (xasg (xlst (acons xstr (acons xstr (acons xstr anil)))) (xgn 0 nd))
    (bcons (xasg (xlst (acons (xtup (acons xstr (acons xint anil))) (acons (xtup (acons xstr (acons xint anil))) (acons (xtup (acons xstr (acons xint anil))) (acons (xtup (acons xstr (acons xint anil))) anil))))) (xgn 1 nd))
    (bcons (xasg (xlst (acons (xtup (acons xstr (acons xint anil))) (acons (xtup (acons xstr (acons xint anil))) anil))) (xgn 2 nd))
    (bcons (xasg (xlst (acons (xtup (acons (xv 1) (acons (xv 0) anil))) (acons (xtup (acons (xv 2) (acons (xlst (acons xstr anil)) anil))) (acons (xtup (acons (xlst (acons (xtup (acons xstr (acons xint anil))) anil)) (acons (xv 0) anil))) anil)))) (xgn 3 nd))
    (bcons (xsetLc (i := 4) (own := [("label", 5)]) rfl nd rfl rfl (sw_true rfl rfl rfl (by decide +kernel)) (xit (xv 0)) (blkOk_by (N := nm_usual) (sc := defScope st_usual) (by decide +kernel)) (fun _ _ _ _ _ => pg_name (i := 5) nd rfl (Or.inl rfl)) tgok_name (fun _ _ _ _ _ => tsNil) (fun _ _ _ _ _ => (xtup (acons (xv 5) (acons xstr anil)))))
    (bcons (xexpr (xm1 (T := .list) PySem.F.plainAttrs_list PySem.F.slot_list_extend PySem.F.type_list_extend oExt (xv 4) (acons (xlst (acons (xtup (acons xstr (acons xstr anil))) (acons (xtup (acons xstr (acons xstr anil))) (acons (xtup (acons xstr (acons xstr anil))) (acons (xtup (acons xstr (acons xstr anil))) anil))))) anil)))
    (bone (xret (xfc c_table_of (hr.mono (by decide)) tk rfl (acons (xv 3) (acons xint (acons (xv 4) anil))))))))))))
abbrev st_inside : Stmt := top 40
abbrev nm_inside : List Str := ["net", "answers", "thing", "answer", "kind", "number"]
theorem sc_inside : FnScope nm_inside ["net", "answers", "thing"] (defScope st_inside) := ⟨rfl, rfl, rfl, by decide +kernel, rfl, by decide +kernel, by decide +kernel⟩
def inside_r1 : WS :=
  (wRet (wTup (wCons (wC (.str (PySem.Str.ofString "no"))) (wCons (wC (.int 0)) wNil))))
def inside_r2 : WS :=
  (wSeq (wIf (wB (w2 (cB bEq) (w2 pIx (wVar 3) (wC (.int 0))) (wC (.str (PySem.Str.ofString "thing"))))) (wSeq (wAsg (w2 pIx (w2 pIx (wVar 0) (wC (.int 1))) (w2 pIx (wVar 3) (wC (.int 1)))) (gT 2 (gC (gN 4) (gC (gN 5) gE))))
    (wIf (wB (w2 (cB bEq) (wVar 4) (wC (.str (PySem.Str.ofString "part"))))) (wRet (wTup (wCons (wC (.str (PySem.Str.ofString "to"))) (wCons (wVar 5) wNil)))) wNext)) wNext)
    inside_r1)
def inside_r3 : WS :=
  (wSeq (wAsg (w2 pIx (wVar 1) (wVar 5)) (gN 3))
    (wSeq (wIf (wB (w2 (cB bIs) (wVar 3) (wC .none))) (wRet (wTup (wCons (wC (.str (PySem.Str.ofString "open"))) (wCons (wVar 5) wNil)))) wNext)
    inside_r2))
def inside_r4 : WS :=
  (wSeq (wIf (wB (w2 (cB bEq) (wVar 4) (wC (.str (PySem.Str.ofString "plain"))))) (wRet (wTup (wCons (wC (.str (PySem.Str.ofString "no"))) (wCons (wC (.int 0)) wNil)))) wNext)
    inside_r3)
def ws_inside : WS :=
  (wSeq (wAsg (w2 pIx (w2 pIx (wVar 0) (wC (.int 1))) (wVar 2)) (gT 2 (gC (gN 4) (gC (gN 5) gE))))
    (wSeq (wIf (wB (w2 (cB bEq) (wVar 4) (wC (.str (PySem.Str.ofString "part"))))) (wRet (wTup (wCons (wC (.str (PySem.Str.ofString "to"))) (wCons (wVar 5) wNil)))) wNext)
    inside_r4))
theorem ok_inside {f : Addr} {fd : FuncData} {sp : Spc} (F : Fun K "inside" "inside" st_inside f fd) (T : Txt mg) (hl : ∀ ds S K KX, sp ds S K KX → ds.length = 3)
    (hs : ∀ ds S K KX, sp ds S K KX → ws_inside { nx := fun _ S1 => K (.z .none) S1, rt := K, ex := fun y _ S1 => KX y S1 } (startE nm_inside ds) S) : FnOk P w K mg base (L2.CX P w) 1 f fd ["net", "answers", "thing"] (spOf sp) := by
  have nd := sc_inside.nd
  refine fnpx F sc_inside hl (ws := ws_inside) (fun cdv A outer s H E B F0 hr tk hp => ?_) hs
  have hu := hu_px hr
  exact (bcons (xasg (xix (oIx hu) (xix (oIx hu) (xv 0) xint) (xv 2)) (xgt rfl (xgc (xgn 4 nd) (xgc (xgn 5 nd) xge))))
    (bcons (xif (xtcmp (oEq hu) (xv 4) xstr) (bone (xret (xtup (acons xstr (acons (xv 5) anil))))) bnil)
    (bcons (xif (xtcmp (oEq hu) (xv 4) xstr) (bone (xret (xtup (acons xstr (acons xint anil))))) bnil)
    (bcons (xasg (xix (oIx hu) (xv 1) (xv 5)) (xgn 3 nd))
    (bcons (xif (xtcmp oIs (xv 3) xnon) (bone (xret (xtup (acons xstr (acons (xv 5) anil))))) bnil)
    (bcons (xif (xtcmp (oEq hu) (xix (oIx hu) (xv 3) xint) xstr) (bcons (xasg (xix (oIx hu) (xix (oIx hu) (xv 0) xint) (xix (oIx hu) (xv 3) xint)) (xgt rfl (xgc (xgn 4 nd) (xgc (xgn 5 nd) xge))))
    (bone (xif (xtcmp (oEq hu) (xv 4) xstr) (bone (xret (xtup (acons xstr (acons (xv 5) anil))))) bnil))) bnil)
    (bone (xret (xtup (acons xstr (acons xint anil)))))))))))
abbrev st_goal : Stmt := top 41
abbrev nm_goal : List Str := ["net", "answers", "step", "answer"]
theorem sc_goal : FnScope nm_goal ["net", "answers", "step"] (defScope st_goal) := ⟨rfl, rfl, rfl, by decide +kernel, rfl, by decide +kernel, by decide +kernel⟩
def goal_r1 : WS :=
  (wRet (wTup (wCons (wC (.str (PySem.Str.ofString "no"))) (wCons (wC (.int 0)) wNil))))
def goal_r2 (sp_inside : Spc) : WS :=
  (wSeq (wIf (wB (w2 (cB bEq) (w2 pIx (wVar 3) (wC (.int 0))) (wC (.str (PySem.Str.ofString "thing"))))) (wRet (wFn sp_inside [] (wCons (wVar 0) (wCons (wVar 1) (wCons (w2 pIx (wVar 3) (wC (.int 1))) wNil))))) wNext)
    goal_r1)
def goal_r3 (sp_inside : Spc) : WS :=
  (wSeq (wAsg (w2 pIx (wVar 1) (w2 pIx (wVar 2) (wC (.int 2)))) (gN 3))
    (wSeq (wIf (wB (w2 (cB bIs) (wVar 3) (wC .none))) (wRet (wTup (wCons (wC (.str (PySem.Str.ofString "open"))) (wCons (w2 pIx (wVar 2) (wC (.int 2))) wNil)))) wNext)
    (goal_r2 sp_inside)))
def ws_goal (sp_inside : Spc) : WS :=
  (wSeq (wIf (wB (w2 (cB bEq) (w2 pIx (wVar 2) (wC (.int 1))) (wC (.str (PySem.Str.ofString "to"))))) (wRet (wTup (wCons (wC (.str (PySem.Str.ofString "to"))) (wCons (w2 pIx (wVar 2) (wC (.int 2))) wNil)))) wNext)
    (goal_r3 sp_inside))
theorem ok_goal {f : Addr} {fd : FuncData} {sp : Spc} {sp_inside : Spc} (F : Fun K "goal" "goal" st_goal f fd) (T : Txt mg) (c_inside : Fc P w K mg base "inside" 1 ["net", "answers", "thing"] sp_inside) (hl : ∀ ds S K KX, sp ds S K KX → ds.length = 3)
    (hs : ∀ ds S K KX, sp ds S K KX → ws_goal sp_inside { nx := fun _ S1 => K (.z .none) S1, rt := K, ex := fun y _ S1 => KX y S1 } (startE nm_goal ds) S) : FnOk P w K mg base (L2.CX P w) 2 f fd ["net", "answers", "step"] (spOf sp) := by
  have nd := sc_goal.nd
  refine fnpx F sc_goal hl (ws := ws_goal sp_inside) (fun cdv A outer s H E B F0 hr tk hp => ?_) hs
  have hu := hu_px hr
  exact (bcons (xif (xtcmp (oEq hu) (xix (oIx hu) (xv 2) xint) xstr) (bone (xret (xtup (acons xstr (acons (xix (oIx hu) (xv 2) xint) anil))))) bnil)
    (bcons (xasg (xix (oIx hu) (xv 1) (xix (oIx hu) (xv 2) xint)) (xgn 3 nd))
    (bcons (xif (xtcmp oIs (xv 3) xnon) (bone (xret (xtup (acons xstr (acons (xix (oIx hu) (xv 2) xint) anil))))) bnil)
    (bcons (xif (xtcmp (oEq hu) (xix (oIx hu) (xv 3) xint) xstr) (bone (xret (xfc c_inside (hr.mono (by decide)) tk rfl (acons (xv 0) (acons (xv 1) (acons (xix (oIx hu) (xv 3) xint) anil)))))) bnil)
    (bone (xret (xtup (acons xstr (acons xint anil)))))))))
abbrev st_one_step_longer : Stmt := top 44
abbrev nm_one_step_longer : List Str := ["net", "answers", "table", "beginning", "been", "made", "marks", "here", "now", "index", "step", "then", "kind", "number", "mark"]
theorem sc_one_step_longer : FnScope nm_one_step_longer ["net", "answers", "table", "beginning"] (defScope st_one_step_longer) := ⟨rfl, rfl, rfl, by decide +kernel, rfl, by decide +kernel, by decide +kernel⟩
def one_step_longer_e1 : WE :=
  (w2 pIx (wVar 14) (wC (.int 0)))
def one_step_longer_b1 (sp_next_state : Spc) (sp_goal : Spc) : WS :=
  (wSeq (wAsg (wFn sp_next_state [] (wCons (wVar 2) (wCons (wVar 8) (wCons (w2 pIx (wVar 10) (wC (.int 0))) wNil)))) (gN 11))
    (wSeq (wIf (wB (w2 (cB bIs) (wVar 11) (wC .none))) wCnt wNext)
    (wSeq (wAsg (wFn sp_goal [] (wCons (wVar 0) (wCons (wVar 1) (wCons (wVar 10) wNil)))) (gT 2 (gC (gN 12) (gC (gN 13) gE))))
    (wIf (wAnd (wB (w2 (cB bEq) (wVar 12) (wC (.str (PySem.Str.ofString "to"))))) (wAnd (wB (w2 (cB bNe) (wVar 13) (wVar 7))) (wB (w2 (cB bNotIn) (wVar 13) (wVar 4))))) (wDrop (wMth .list pApp (wVar 5) (wCons (wTup (wCons (w2 pAdd (wVar 6) (wLst (wCons (wTup (wCons (wVar 7) (wCons (wC (.str (PySem.Str.ofString "step"))) (wCons (wVar 9) wNil)))) wNil))) (wCons (wVar 13) (wCons (wVar 11) wNil)))) wNil))) wNext))))
def one_step_longer_r1 : WS :=
  (wRet (wVar 5))
def ws_one_step_longer (sp_next_state : Spc) (sp_goal : Spc) : WS :=
  (wSeq (wAsg (wVar 3) (gT 3 (gC (gN 6) (gC (gN 7) (gC (gN 8) gE)))))
    (wSeq (wAsg (wLc (wIt (wVar 6)) (tgN 14) wYes one_step_longer_e1 [14]) (gN 4))
    (wSeq (wAsg (wLst wNil) (gN 5))
    (wSeq (wFor (wEn (wCons (w2 pIx (w2 pIx (w2 pIx (wVar 0) (wC (.int 0))) (wVar 7)) (wC (.int 0))) wNil)) (gT 2 (gC (gN 9) (gC (gN 10) gE))) (one_step_longer_b1 sp_next_state sp_goal))
    one_step_longer_r1))))
theorem ok_one_step_longer {f : Addr} {fd : FuncData} {sp : Spc} {sp_next_state : Spc} {sp_goal : Spc} (F : Fun K "one_step_longer" "one_step_longer" st_one_step_longer f fd) (T : Txt mg) (c_next_state : Fc P w K mg base "next_state" 1 ["table", "state", "label"] sp_next_state) (c_goal : Fc P w K mg base "goal" 2 ["net", "answers", "step"] sp_goal) (hl : ∀ ds S K KX, sp ds S K KX → ds.length = 4)
    (hs : ∀ ds S K KX, sp ds S K KX → ws_one_step_longer sp_next_state sp_goal { nx := fun _ S1 => K (.z .none) S1, rt := K, ex := fun y _ S1 => KX y S1 } (startE nm_one_step_longer ds) S) : FnOk P w K mg base (L2.CX P w) 3 f fd ["net", "answers", "table", "beginning"] (spOf sp) := by
  have nd := sc_one_step_longer.nd
  refine fnpx F sc_one_step_longer hl (ws := ws_one_step_longer sp_next_state sp_goal) (fun cdv A outer s H E B F0 hr tk hp => ?_) hs
  have hu := hu_px hr
  exact (bcons (xasg (xv 3) (xgt rfl (xgc (xgn 6 nd) (xgc (xgn 7 nd) (xgc (xgn 8 nd) xge)))))
    (bcons (xsetLc (i := 4) (own := [("mark", 14)]) rfl nd rfl rfl (sw_true rfl rfl rfl (by decide +kernel)) (xit (xv 6)) (blkOk_by (N := nm_one_step_longer) (sc := defScope st_one_step_longer) (by decide +kernel)) (fun _ _ _ _ _ => pg_name (i := 14) nd rfl (Or.inl rfl)) tgok_name (fun _ _ _ _ _ => tsNil) (fun _ _ _ _ _ => (xix (oIx hu) (xv 14) xint)))
    (bcons (xasg (xlst anil) (xgn 5 nd))
    (bcons (xfor hp rfl (xen rfl T.n_enumerate (acons (xix (oIx hu) (xix (oIx hu) (xix (oIx hu) (xv 0) xint) (xv 7)) xint) anil)) (xgt rfl (xgc (xgn 9 nd) (xgc (xgn 10 nd) xge))) (bcons (xasg (xfc c_next_state (hr.mono (by decide)) tk rfl (acons (xv 2) (acons (xv 8) (acons (xix (oIx hu) (xv 10) xint) anil)))) (xgn 11 nd))
    (bcons (xif (xtcmp oIs (xv 11) xnon) (bone xcnt) bnil)
    (bcons (xasg (xfc c_goal (hr.mono (by decide)) tk rfl (acons (xv 0) (acons (xv 1) (acons (xv 10) anil)))) (xgt rfl (xgc (xgn 12 nd) (xgc (xgn 13 nd) xge))))
    (bone (xif (xtw (yand (xtcmp (oEq hu) (xv 12) xstr) (yand (xtcmp (oNe hu) (xv 13) (xv 7)) (yand1 (xtcmp (oNotIn hu) (xv 13) (xv 4)))))) (bone (xexpr (xm1 (T := .list) PySem.F.plainAttrs_list PySem.F.slot_list_append PySem.F.type_list_append oApp (xv 5) (acons (xtup (acons (xop oAdd (xv 6) (xlst (acons (xtup (acons (xv 7) (acons xstr (acons (xv 9) anil)))) anil))) (acons (xv 13) (acons (xv 11) anil)))) anil)))) bnil))))))
    (bone (xret (xv 5)))))))
abbrev st_beginnings : Stmt := top 45
abbrev nm_beginnings : List Str := ["net", "answers", "table", "scope", "state", "rows", "at", "row"]
theorem sc_beginnings : FnScope nm_beginnings ["net", "answers", "table", "scope", "state"] (defScope st_beginnings) := ⟨rfl, rfl, rfl, by decide +kernel, rfl, by decide +kernel, by decide +kernel⟩
def beginnings_b1 : WS :=
  (wDrop (wMth .list pApp (wVar 5) (wCons (wVar 7) wNil)))
def beginnings_t1 : WT :=
  (wB (w2 (cB bLtD) (wVar 6) (wCall pLen (wCons (wVar 5) wNil))))
def beginnings_b2 (sp_one_step_longer : Spc) : WS :=
  (wSeq (wFor (wIt (wFn sp_one_step_longer [] (wCons (wVar 0) (wCons (wVar 1) (wCons (wVar 2) (wCons (w2 pIx (wVar 5) (wVar 6)) wNil)))))) (gN 7) beginnings_b1)
    (wSeq (wIf (wB (w2 (cB bGt) (wCall pLen (wCons (wVar 5) wNil)) (wC (.int 200)))) wNever wNext)
    (wAug pAddI 6 (wC (.int 1)))))
def beginnings_r1 : WS :=
  (wRet (wCall pSorted (wCons (wVar 5) wNil)))
def ws_beginnings (sp_one_step_longer : Spc) : WS :=
  (wSeq (wAsg (wLst (wCons (wTup (wCons (wLst wNil) (wCons (wVar 3) (wCons (wVar 4) wNil)))) wNil)) (gN 5))
    (wSeq (wAsg (wC (.int 0)) (gN 6))
    (wSeq (wWhile beginnings_t1 (beginnings_b2 sp_one_step_longer))
    beginnings_r1)))
theorem ok_beginnings {f : Addr} {fd : FuncData} {sp : Spc} {sp_one_step_longer : Spc} (F : Fun K "beginnings" "beginnings" st_beginnings f fd) (T : Txt mg) (c_one_step_longer : Fc P w K mg base "one_step_longer" 3 ["net", "answers", "table", "beginning"] sp_one_step_longer) (hl : ∀ ds S K KX, sp ds S K KX → ds.length = 5)
    (hs : ∀ ds S K KX, sp ds S K KX → ws_beginnings sp_one_step_longer { nx := fun _ S1 => K (.z .none) S1, rt := K, ex := fun y _ S1 => KX y S1 } (startE nm_beginnings ds) S) : FnOk P w K mg base (L2.CX P w) 4 f fd ["net", "answers", "table", "scope", "state"] (spOf sp) := by
  have nd := sc_beginnings.nd
  refine fnpx F sc_beginnings hl (ws := ws_beginnings sp_one_step_longer) (fun cdv A outer s H E B F0 hr tk hp => ?_) hs
  have hu := hu_px hr
  exact (bcons (xasg (xlst (acons (xtup (acons (xlst anil) (acons (xv 3) (acons (xv 4) anil)))) anil)) (xgn 5 nd))
    (bcons (xasg xint (xgn 6 nd))
    (bcons (xwhile hp (xtcmp (oLtD hu) (xv 6) (xcallB oLen rfl T.n_len bb_len (acons (xv 5) anil))) (bcons (xfor hp rfl (xit (xfc c_one_step_longer (hr.mono (by decide)) tk rfl (acons (xv 0) (acons (xv 1) (acons (xv 2) (acons (xix (oIx hu) (xv 5) (xv 6)) anil)))))) (xgn 7 nd) (bone (xexpr (xm1 (T := .list) PySem.F.plainAttrs_list PySem.F.slot_list_append PySem.F.type_list_append oApp (xv 5) (acons (xv 7) anil)))))
    (bcons (xif (xtcmp oGt (xcallB oLen rfl T.n_len bb_len (acons (xv 5) anil)) (xgI rfl T.c_MOST_BEGINNINGS)) (bone xnever) bnil)
    (bone (xaug 6 oAddI nd xint)))))
    (bone (xret (xcallB (oSorted hu rfl) rfl T.n_sorted bb_sorted (acons (xv 5) anil)))))))
abbrev st_found_ways : Stmt := top 46
abbrev nm_found_ways : List Str := ["net", "answers", "table", "scope", "state", "name", "ways", "marks", "here", "now", "index", "telling"]
theorem sc_found_ways : FnScope nm_found_ways ["net", "answers", "table", "scope", "state", "name"] (defScope st_found_ways) := ⟨rfl, rfl, rfl, by decide +kernel, rfl, by decide +kernel, by decide +kernel⟩
def found_ways_b1 (sp_has_end : Spc) : WS :=
  (wIf (wAnd (wB (w2 (cB bEq) (w2 pIx (wVar 11) (wC (.int 1))) (wVar 5))) (wB (wFn sp_has_end [] (wCons (wVar 2) (wCons (wVar 9) (wCons (w2 pIx (wVar 11) (wC (.int 0))) wNil)))))) (wDrop (wMth .list pApp (wVar 6) (wCons (w2 pAdd (wVar 7) (wLst (wCons (wTup (wCons (wVar 8) (wCons (wC (.str (PySem.Str.ofString "told"))) (wCons (wVar 10) wNil)))) wNil))) wNil))) wNext)
def found_ways_b2 (sp_has_end : Spc) : WS :=
  (wFor (wEn (wCons (w2 pIx (w2 pIx (w2 pIx (wVar 0) (wC (.int 0))) (wVar 8)) (wC (.int 1))) wNil)) (gT 2 (gC (gN 10) (gC (gN 11) gE))) (found_ways_b1 sp_has_end))
def found_ways_r1 : WS :=
  (wRet (wCall pSorted (wCons (wVar 6) wNil)))
def ws_found_ways (sp_beginnings : Spc) (sp_has_end : Spc) : WS :=
  (wSeq (wAsg (wLst wNil) (gN 6))
    (wSeq (wFor (wIt (wFn sp_beginnings [] (wCons (wVar 0) (wCons (wVar 1) (wCons (wVar 2) (wCons (wVar 3) (wCons (wVar 4) wNil))))))) (gT 3 (gC (gN 7) (gC (gN 8) (gC (gN 9) gE)))) (found_ways_b2 sp_has_end))
    found_ways_r1))
theorem ok_found_ways {f : Addr} {fd : FuncData} {sp : Spc} {sp_beginnings : Spc} {sp_has_end : Spc} (F : Fun K "found_ways" "found_ways" st_found_ways f fd) (T : Txt mg) (c_beginnings : Fc P w K mg base "beginnings" 4 ["net", "answers", "table", "scope", "state"] sp_beginnings) (c_has_end : Fc P w K mg base "has_end" 1 ["table", "state", "label"] sp_has_end) (hl : ∀ ds S K KX, sp ds S K KX → ds.length = 6)
    (hs : ∀ ds S K KX, sp ds S K KX → ws_found_ways sp_beginnings sp_has_end { nx := fun _ S1 => K (.z .none) S1, rt := K, ex := fun y _ S1 => KX y S1 } (startE nm_found_ways ds) S) : FnOk P w K mg base (L2.CX P w) 5 f fd ["net", "answers", "table", "scope", "state", "name"] (spOf sp) := by
  have nd := sc_found_ways.nd
  refine fnpx F sc_found_ways hl (ws := ws_found_ways sp_beginnings sp_has_end) (fun cdv A outer s H E B F0 hr tk hp => ?_) hs
  have hu := hu_px hr
  exact (bcons (xasg (xlst anil) (xgn 6 nd))
    (bcons (xfor hp rfl (xit (xfc c_beginnings (hr.mono (by decide)) tk rfl (acons (xv 0) (acons (xv 1) (acons (xv 2) (acons (xv 3) (acons (xv 4) anil))))))) (xgt rfl (xgc (xgn 7 nd) (xgc (xgn 8 nd) (xgc (xgn 9 nd) xge)))) (bone (xfor hp rfl (xen rfl T.n_enumerate (acons (xix (oIx hu) (xix (oIx hu) (xix (oIx hu) (xv 0) xint) (xv 8)) xint) anil)) (xgt rfl (xgc (xgn 10 nd) (xgc (xgn 11 nd) xge))) (bone (xif (xtw (yand (xtcmp (oEq hu) (xix (oIx hu) (xv 11) xint) (xv 5)) (yand1 (xtv (xfc c_has_end (hr.mono (by decide)) tk rfl (acons (xv 2) (acons (xv 9) (acons (xix (oIx hu) (xv 11) xint) anil)))))))) (bone (xexpr (xm1 (T := .list) PySem.F.plainAttrs_list PySem.F.slot_list_append PySem.F.type_list_append oApp (xv 6) (acons (xop oAdd (xv 7) (xlst (acons (xtup (acons (xv 8) (acons xstr (acons (xv 10) anil)))) anil))) anil)))) bnil)))))
    (bone (xret (xcallB (oSorted hu rfl) rfl T.n_sorted bb_sorted (acons (xv 6) anil))))))
abbrev st_owed_ways : Stmt := top 47
abbrev nm_owed_ways : List Str := ["net", "answers", "table", "scope", "state", "rows", "marks", "here", "now", "index", "step", "kind", "number"]
theorem sc_owed_ways : FnScope nm_owed_ways ["net", "answers", "table", "scope", "state"] (defScope st_owed_ways) := ⟨rfl, rfl, rfl, by decide +kernel, rfl, by decide +kernel, by decide +kernel⟩
def owed_ways_b1 (sp_next_state : Spc) (sp_goal : Spc) : WS :=
  (wSeq (wIf (wB (w2 (cB bIs) (wFn sp_next_state [] (wCons (wVar 2) (wCons (wVar 8) (wCons (w2 pIx (wVar 10) (wC (.int 0))) wNil)))) (wC .none))) wCnt wNext)
    (wSeq (wAsg (wFn sp_goal [] (wCons (wVar 0) (wCons (wVar 1) (wCons (wVar 10) wNil)))) (gT 2 (gC (gN 11) (gC (gN 12) gE))))
    (wIf (wB (w2 (cB bEq) (wVar 11) (wC (.str (PySem.Str.ofString "open"))))) (wDrop (wMth .list pApp (wVar 5) (wCons (wTup (wCons (w2 pAdd (wVar 6) (wLst (wCons (wTup (wCons (wVar 7) (wCons (wC (.str (PySem.Str.ofString "step"))) (wCons (wVar 9) wNil)))) wNil))) (wCons (wVar 12) wNil))) wNil))) wNext)))
def owed_ways_b2 (sp_next_state : Spc) (sp_goal : Spc) : WS :=
  (wFor (wEn (wCons (w2 pIx (w2 pIx (w2 pIx (wVar 0) (wC (.int 0))) (wVar 7)) (wC (.int 0))) wNil)) (gT 2 (gC (gN 9) (gC (gN 10) gE))) (owed_ways_b1 sp_next_state sp_goal))
def owed_ways_r1 : WS :=
  (wRet (wCall pSorted (wCons (wVar 5) wNil)))
def ws_owed_ways (sp_beginnings : Spc) (sp_next_state : Spc) (sp_goal : Spc) : WS :=
  (wSeq (wAsg (wLst wNil) (gN 5))
    (wSeq (wFor (wIt (wFn sp_beginnings [] (wCons (wVar 0) (wCons (wVar 1) (wCons (wVar 2) (wCons (wVar 3) (wCons (wVar 4) wNil))))))) (gT 3 (gC (gN 6) (gC (gN 7) (gC (gN 8) gE)))) (owed_ways_b2 sp_next_state sp_goal))
    owed_ways_r1))
theorem ok_owed_ways {f : Addr} {fd : FuncData} {sp : Spc} {sp_beginnings : Spc} {sp_next_state : Spc} {sp_goal : Spc} (F : Fun K "owed_ways" "owed_ways" st_owed_ways f fd) (T : Txt mg) (c_beginnings : Fc P w K mg base "beginnings" 4 ["net", "answers", "table", "scope", "state"] sp_beginnings) (c_next_state : Fc P w K mg base "next_state" 1 ["table", "state", "label"] sp_next_state) (c_goal : Fc P w K mg base "goal" 2 ["net", "answers", "step"] sp_goal) (hl : ∀ ds S K KX, sp ds S K KX → ds.length = 5)
    (hs : ∀ ds S K KX, sp ds S K KX → ws_owed_ways sp_beginnings sp_next_state sp_goal { nx := fun _ S1 => K (.z .none) S1, rt := K, ex := fun y _ S1 => KX y S1 } (startE nm_owed_ways ds) S) : FnOk P w K mg base (L2.CX P w) 5 f fd ["net", "answers", "table", "scope", "state"] (spOf sp) := by
  have nd := sc_owed_ways.nd
  refine fnpx F sc_owed_ways hl (ws := ws_owed_ways sp_beginnings sp_next_state sp_goal) (fun cdv A outer s H E B F0 hr tk hp => ?_) hs
  have hu := hu_px hr
  exact (bcons (xasg (xlst anil) (xgn 5 nd))
    (bcons (xfor hp rfl (xit (xfc c_beginnings (hr.mono (by decide)) tk rfl (acons (xv 0) (acons (xv 1) (acons (xv 2) (acons (xv 3) (acons (xv 4) anil))))))) (xgt rfl (xgc (xgn 6 nd) (xgc (xgn 7 nd) (xgc (xgn 8 nd) xge)))) (bone (xfor hp rfl (xen rfl T.n_enumerate (acons (xix (oIx hu) (xix (oIx hu) (xix (oIx hu) (xv 0) xint) (xv 7)) xint) anil)) (xgt rfl (xgc (xgn 9 nd) (xgc (xgn 10 nd) xge))) (bcons (xif (xtcmp oIs (xfc c_next_state (hr.mono (by decide)) tk rfl (acons (xv 2) (acons (xv 8) (acons (xix (oIx hu) (xv 10) xint) anil)))) xnon) (bone xcnt) bnil)
    (bcons (xasg (xfc c_goal (hr.mono (by decide)) tk rfl (acons (xv 0) (acons (xv 1) (acons (xv 10) anil)))) (xgt rfl (xgc (xgn 11 nd) (xgc (xgn 12 nd) xge))))
    (bone (xif (xtcmp (oEq hu) (xv 11) xstr) (bone (xexpr (xm1 (T := .list) PySem.F.plainAttrs_list PySem.F.slot_list_append PySem.F.type_list_append oApp (xv 5) (acons (xtup (acons (xop oAdd (xv 6) (xlst (acons (xtup (acons (xv 7) (acons xstr (acons (xv 9) anil)))) anil))) (acons (xv 12) anil))) anil)))) bnil)))))))
    (bone (xret (xcallB (oSorted hu rfl) rfl T.n_sorted bb_sorted (acons (xv 5) anil))))))
abbrev st__law_cell_at : Stmt := top 49
abbrev nm__law_cell_at : List Str := ["_law_script", "_law_k"]
theorem sc__law_cell_at : FnScope nm__law_cell_at ["_law_script", "_law_k"] (defScope st__law_cell_at) := ⟨rfl, rfl, rfl, by decide +kernel, rfl, by decide +kernel, by decide +kernel⟩
def _law_cell_at_r1 : WS :=
  (wRet (wC (.int 0)))
def ws__law_cell_at : WS :=
  (wSeq (wIf (wB (w2 (cB bLtD) (wVar 1) (wCall pLen (wCons (wVar 0) wNil)))) (wRet (w2 pIx (wVar 0) (wVar 1))) wNext)
    _law_cell_at_r1)
theorem ok__law_cell_at {f : Addr} {fd : FuncData} {sp : Spc} (F : Fun K "_law_cell_at" "_law_cell_at" st__law_cell_at f fd) (T : Txt mg) (hl : ∀ ds S K KX, sp ds S K KX → ds.length = 2)
    (hs : ∀ ds S K KX, sp ds S K KX → ws__law_cell_at { nx := fun _ S1 => K (.z .none) S1, rt := K, ex := fun y _ S1 => KX y S1 } (startE nm__law_cell_at ds) S) : FnOk P w K mg base (L2.CX P w) 1 f fd ["_law_script", "_law_k"] (spOf sp) := by
  have nd := sc__law_cell_at.nd
  refine fnpx F sc__law_cell_at hl (ws := ws__law_cell_at) (fun cdv A outer s H E B F0 hr tk hp => ?_) hs
  have hu := hu_px hr
  exact (bcons (xif (xtcmp (oLtD hu) (xv 1) (xcallB oLen rfl T.n_len bb_len (acons (xv 0) anil))) (bone (xret (xix (oIx hu) (xv 0) (xv 1)))) bnil)
    (bone (xret xint)))
abbrev st__law_words : Stmt := top 50
abbrev nm__law_words : List Str := ["_law_cell", "_law_many", "_law_letters", "_law_size", "_law_at", "_law_words_here", "_law_k", "_law_word", "_law_j", "_law_number"]
theorem sc__law_words : FnScope nm__law_words ["_law_cell", "_law_many"] (defScope st__law_words) := ⟨rfl, rfl, rfl, by decide +kernel, rfl, by decide +kernel, by decide +kernel⟩
def _law_words_b1 : WS :=
  (wSeq (wAsg (w2 pAdd (w2 pDiv (w2 pDiv (wVar 0) (wC (.int 49))) (w2 pAdd (wVar 8) (wC (.int 1)))) (w2 pMul (wVar 8) (wVar 8))) (gN 9))
    (wSeq (wIf (wB (w2 (cB bEq) (wVar 8) (wVar 4))) (wAug pAddI 9 (wVar 6)) wNext)
    (wAsg (w2 pAdd (wVar 7) (w2 pIx (wVar 2) (w2 pMod (wVar 9) (wC (.int 26))))) (gN 7))))
def _law_words_b2 : WS :=
  (wSeq (wAsg (wC (.str (PySem.Str.ofString ""))) (gN 7))
    (wSeq (wFor (wRg1 (wCons (wVar 3) wNil)) (gN 8) _law_words_b1)
    (wDrop (wMth .list pApp (wVar 5) (wCons (wVar 7) wNil)))))
def _law_words_r1 : WS :=
  (wRet (wVar 5))
def _law_words_r2 : WS :=
  (wSeq (wIf (wB (w2 (cB bEq) (w2 pMod (w2 pDiv (wVar 0) (wC (.int 49))) (wC (.int 3))) (wC (.int 1)))) (wAsg (w2 pAdd (w2 pIx (wVar 5) (wC (.int 0))) (w2 pIx (wVar 2) (w2 pMod (w2 pDiv (wVar 0) (wC (.int 147))) (wC (.int 26))))) (gS (wVar 5) (wC (.int 1)))) wNext)
    _law_words_r1)
def ws__law_words : WS :=
  (wSeq (wAsg (wC (.str (PySem.Str.ofString "abcdefghijklmnopqrstuvwxyz"))) (gN 2))
    (wSeq (wAsg (w2 pAdd (wC (.int 1)) (w2 pMod (wVar 0) (wC (.int 7)))) (gN 3))
    (wSeq (wAsg (w2 pMod (w2 pDiv (wVar 0) (wC (.int 7))) (wVar 3)) (gN 4))
    (wSeq (wAsg (wLst wNil) (gN 5))
    (wSeq (wFor (wRg1 (wCons (wVar 1) wNil)) (gN 6) _law_words_b2)
    _law_words_r2)))))
theorem ok__law_words {f : Addr} {fd : FuncData} {sp : Spc} (F : Fun K "_law_words" "_law_words" st__law_words f fd) (T : Txt mg) (hl : ∀ ds S K KX, sp ds S K KX → ds.length = 2)
    (hs : ∀ ds S K KX, sp ds S K KX → ws__law_words { nx := fun _ S1 => K (.z .none) S1, rt := K, ex := fun y _ S1 => KX y S1 } (startE nm__law_words ds) S) : FnOk P w K mg base (L2.CX P w) 1 f fd ["_law_cell", "_law_many"] (spOf sp) := by
  have nd := sc__law_words.nd
  refine fnpx F sc__law_words hl (ws := ws__law_words) (fun cdv A outer s H E B F0 hr tk hp => ?_) hs
  have hu := hu_px hr
  exact (bcons (xasg xstr (xgn 2 nd))
    (bcons (xasg (xop oAdd xint (xop oMod (xv 0) xint)) (xgn 3 nd))
    (bcons (xasg (xop oMod (xop oDiv (xv 0) xint) (xv 3)) (xgn 4 nd))
    (bcons (xasg (xlst anil) (xgn 5 nd))
    (bcons (xfor hp rfl (xrg1 rfl T.n_range (acons (xv 1) anil)) (xgn 6 nd) (bcons (xasg xstr (xgn 7 nd))
    (bcons (xfor hp rfl (xrg1 rfl T.n_range (acons (xv 3) anil)) (xgn 8 nd) (bcons (xasg (xop oAdd (xop oDiv (xop oDiv (xv 0) xint) (xop oAdd (xv 8) xint)) (xop oMul (xv 8) (xv 8))) (xgn 9 nd))
    (bcons (xif (xtcmp (oEq hu) (xv 8) (xv 4)) (bone (xaug 9 oAddI nd (xv 6))) bnil)
    (bone (xasg (xop oAdd (xv 7) (xix (oIx hu) (xv 2) (xop oMod (xv 9) xint))) (xgn 7 nd))))))
    (bone (xexpr (xm1 (T := .list) PySem.F.plainAttrs_list PySem.F.slot_list_append PySem.F.type_list_append oApp (xv 5) (acons (xv 7) anil)))))))
    (bcons (xif (xtcmp (oEq hu) (xop oMod (xop oDiv (xv 0) xint) xint) xint) (bone (xasg (xop oAdd (xix (oIx hu) (xv 5) xint) (xix (oIx hu) (xv 2) (xop oMod (xop oDiv (xv 0) xint) xint))) (xgs (W := W0) hu (xv 5) xint))) bnil)
    (bone (xret (xv 5)))))))))
abbrev st__law_stream : Stmt := top 51
abbrev nm__law_stream : List Str := ["_law_cell", "_law_many", "_law_numbers", "_law_number", "_law_k"]
theorem sc__law_stream : FnScope nm__law_stream ["_law_cell", "_law_many"] (defScope st__law_stream) := ⟨rfl, rfl, rfl, by decide +kernel, rfl, by decide +kernel, by decide +kernel⟩
def _law_stream_b1 : WS :=
  (wSeq (wAsg (w2 pMod (w2 pAdd (w2 pAdd (w2 pMul (wVar 3) (wVar 3)) (w2 pMul (wC (.int 48271)) (wVar 3))) (wVar 4)) (wC (.int 2147483647))) (gN 3))
    (wDrop (wMth .list pApp (wVar 2) (wCons (w2 pDiv (wVar 3) (wC (.int 8))) wNil))))
def _law_stream_r1 : WS :=
  (wRet (wVar 2))
def ws__law_stream : WS :=
  (wSeq (wAsg (wLst wNil) (gN 2))
    (wSeq (wAsg (w2 pAdd (w2 pMod (wVar 0) (wC (.int 2147483629))) (wC (.int 1))) (gN 3))
    (wSeq (wFor (wRg1 (wCons (wVar 1) wNil)) (gN 4) _law_stream_b1)
    _law_stream_r1)))
theorem ok__law_stream {f : Addr} {fd : FuncData} {sp : Spc} (F : Fun K "_law_stream" "_law_stream" st__law_stream f fd) (T : Txt mg) (hl : ∀ ds S K KX, sp ds S K KX → ds.length = 2)
    (hs : ∀ ds S K KX, sp ds S K KX → ws__law_stream { nx := fun _ S1 => K (.z .none) S1, rt := K, ex := fun y _ S1 => KX y S1 } (startE nm__law_stream ds) S) : FnOk P w K mg base (L2.CX P w) 1 f fd ["_law_cell", "_law_many"] (spOf sp) := by
  have nd := sc__law_stream.nd
  refine fnpx F sc__law_stream hl (ws := ws__law_stream) (fun cdv A outer s H E B F0 hr tk hp => ?_) hs
  have hu := hu_px hr
  exact (bcons (xasg (xlst anil) (xgn 2 nd))
    (bcons (xasg (xop oAdd (xop oMod (xv 0) xint) xint) (xgn 3 nd))
    (bcons (xfor hp rfl (xrg1 rfl T.n_range (acons (xv 1) anil)) (xgn 4 nd) (bcons (xasg (xop oMod (xop oAdd (xop oAdd (xop oMul (xv 3) (xv 3)) (xop oMul xint (xv 3))) (xv 4)) xint) (xgn 3 nd))
    (bone (xexpr (xm1 (T := .list) PySem.F.plainAttrs_list PySem.F.slot_list_append PySem.F.type_list_append oApp (xv 2) (acons (xop oDiv (xv 3) xint) anil))))))
    (bone (xret (xv 2))))))
abbrev st__law_under : Stmt := top 52
abbrev nm__law_under : List Str := ["_law_one", "_law_other"]
theorem sc__law_under : FnScope nm__law_under ["_law_one", "_law_other"] (defScope st__law_under) := ⟨rfl, rfl, rfl, by decide +kernel, rfl, by decide +kernel, by decide +kernel⟩
def _law_under_r1 : WS :=
  (wRet (w2 (cB bNe) (w2 pMod (wVar 0) (wC (.int 16))) (w2 pMod (wVar 1) (wC (.int 16)))))
def ws__law_under : WS :=
  (wSeq (wIf (wOr (wB (w2 (cB bGt) (w2 pMod (wVar 0) (wC (.int 4))) (w2 pMod (wVar 1) (wC (.int 4))))) (wB (w2 (cB bGt) (w2 pMod (w2 pDiv (wVar 0) (wC (.int 4))) (wC (.int 4))) (w2 pMod (w2 pDiv (wVar 1) (wC (.int 4))) (wC (.int 4)))))) (wRet (wC (.bool false))) wNext)
    _law_under_r1)
theorem ok__law_under {f : Addr} {fd : FuncData} {sp : Spc} (F : Fun K "_law_under" "_law_under" st__law_under f fd) (T : Txt mg) (hl : ∀ ds S K KX, sp ds S K KX → ds.length = 2)
    (hs : ∀ ds S K KX, sp ds S K KX → ws__law_under { nx := fun _ S1 => K (.z .none) S1, rt := K, ex := fun y _ S1 => KX y S1 } (startE nm__law_under ds) S) : FnOk P w K mg base (L2.CX P w) 1 f fd ["_law_one", "_law_other"] (spOf sp) := by
  have nd := sc__law_under.nd
  refine fnpx F sc__law_under hl (ws := ws__law_under) (fun cdv A outer s H E B F0 hr tk hp => ?_) hs
  have hu := hu_px hr
  exact (bcons (xif (xtw (yor (xtcmp oGt (xop oMod (xv 0) xint) (xop oMod (xv 1) xint)) (yor1 (xtcmp oGt (xop oMod (xop oDiv (xv 0) xint) xint) (xop oMod (xop oDiv (xv 1) xint) xint))))) (bone (xret xbl)) bnil)
    (bone (xret (xcmp (oNe hu) (xop oMod (xv 0) xint) (xop oMod (xv 1) xint)))))
abbrev st__law_table : Stmt := top 53
abbrev nm__law_table : List Str := ["_law_cell", "_law_labels", "_law_xs", "_law_many", "_law_states", "_law_k", "_law_order", "_law_j", "_law_goes", "_law_ends"]
theorem sc__law_table : FnScope nm__law_table ["_law_cell", "_law_labels"] (defScope st__law_table) := ⟨rfl, rfl, rfl, by decide +kernel, rfl, by decide +kernel, by decide +kernel⟩
def _law_table_b1 : WS :=
  (wSeq (wIf (wB (w2 (cB bGt) (w2 pMod (w2 pIx (wVar 2) (w2 pAdd (w2 pAdd (wC (.int 1)) (w2 pMul (wC (.int 5)) (wVar 5))) (wVar 7))) (wC (.int 4))) (wC (.int 0)))) (wDrop (wMth .list pApp (wVar 8) (wCons (wTup (wCons (w2 pIx (wVar 1) (wVar 7)) (wCons (w2 pMod (w2 pDiv (w2 pIx (wVar 2) (w2 pAdd (w2 pAdd (wC (.int 1)) (w2 pMul (wC (.int 5)) (wVar 5))) (wVar 7))) (wC (.int 4))) (wVar 3)) wNil))) wNil))) wNext)
    (wIf (wB (w2 (cB bGt) (w2 pMod (w2 pIx (wVar 2) (w2 pAdd (w2 pAdd (wC (.int 21)) (w2 pMul (wC (.int 5)) (wVar 5))) (wVar 7))) (wC (.int 3))) (wC (.int 0)))) (wDrop (wMth .list pApp (wVar 9) (wCons (w2 pIx (wVar 1) (wVar 7)) wNil))) wNext))
def _law_table_b2 : WS :=
  (wSeq (wAsg (wLst wNil) (gN 8))
    (wSeq (wAsg (wLst wNil) (gN 9))
    (wSeq (wFor (wRg1 (wCons (wC (.int 5)) wNil)) (gN 7) _law_table_b1)
    (wDrop (wMth .list pApp (wVar 4) (wCons (wTup (wCons (wCall pSorted (wCons (wVar 8) wNil)) (wCons (wCall pSorted (wCons (wVar 9) wNil)) wNil))) wNil))))))
def _law_table_b3 (sp__law_under : Spc) : WS :=
  (wIf (wB (wFn sp__law_under [] (wCons (w2 pIx (wVar 2) (w2 pAdd (wC (.int 41)) (wVar 7))) (wCons (w2 pIx (wVar 2) (w2 pAdd (wC (.int 41)) (wVar 5))) wNil)))) (wDrop (wMth .list pApp (wVar 6) (wCons (wTup (wCons (w2 pIx (wVar 1) (wVar 7)) (wCons (w2 pIx (wVar 1) (wVar 5)) wNil))) wNil))) wNext)
def _law_table_b4 (sp__law_under : Spc) : WS :=
  (wFor (wRg1 (wCons (wC (.int 5)) wNil)) (gN 5) (_law_table_b3 sp__law_under))
def _law_table_r1 : WS :=
  (wRet (wTup (wCons (wVar 4) (wCons (w2 pMod (w2 pIx (wVar 2) (wC (.int 46))) (wVar 3)) (wCons (wCall pSorted (wCons (wVar 6) wNil)) wNil)))))
def _law_table_r2 (sp__law_under : Spc) : WS :=
  (wSeq (wAsg (wLst wNil) (gN 6))
    (wSeq (wFor (wRg1 (wCons (wC (.int 5)) wNil)) (gN 7) (_law_table_b4 sp__law_under))
    _law_table_r1))
def ws__law_table (sp__law_stream : Spc) (sp__law_under : Spc) : WS :=
  (wSeq (wAsg (wFn sp__law_stream [] (wCons (wVar 0) (wCons (wC (.int 47)) wNil))) (gN 2))
    (wSeq (wAsg (w2 pAdd (wC (.int 1)) (w2 pMod (w2 pIx (wVar 2) (wC (.int 0))) (wC (.int 4)))) (gN 3))
    (wSeq (wAsg (wLst wNil) (gN 4))
    (wSeq (wFor (wRg1 (wCons (wVar 3) wNil)) (gN 5) _law_table_b2)
    (_law_table_r2 sp__law_under)))))
theorem ok__law_table {f : Addr} {fd : FuncData} {sp : Spc} {sp__law_stream : Spc} {sp__law_under : Spc} (F : Fun K "_law_table" "_law_table" st__law_table f fd) (T : Txt mg) (c__law_stream : Fc P w K mg base "_law_stream" 1 ["_law_cell", "_law_many"] sp__law_stream) (c__law_under : Fc P w K mg base "_law_under" 1 ["_law_one", "_law_other"] sp__law_under) (hl : ∀ ds S K KX, sp ds S K KX → ds.length = 2)
    (hs : ∀ ds S K KX, sp ds S K KX → ws__law_table sp__law_stream sp__law_under { nx := fun _ S1 => K (.z .none) S1, rt := K, ex := fun y _ S1 => KX y S1 } (startE nm__law_table ds) S) : FnOk P w K mg base (L2.CX P w) 2 f fd ["_law_cell", "_law_labels"] (spOf sp) := by
  have nd := sc__law_table.nd
  refine fnpx F sc__law_table hl (ws := ws__law_table sp__law_stream sp__law_under) (fun cdv A outer s H E B F0 hr tk hp => ?_) hs
  have hu := hu_px hr
  exact (bcons (xasg (xfc c__law_stream (hr.mono (by decide)) tk rfl (acons (xv 0) (acons xint anil))) (xgn 2 nd))
    (bcons (xasg (xop oAdd xint (xop oMod (xix (oIx hu) (xv 2) xint) xint)) (xgn 3 nd))
    (bcons (xasg (xlst anil) (xgn 4 nd))
    (bcons (xfor hp rfl (xrg1 rfl T.n_range (acons (xv 3) anil)) (xgn 5 nd) (bcons (xasg (xlst anil) (xgn 8 nd))
    (bcons (xasg (xlst anil) (xgn 9 nd))
    (bcons (xfor hp rfl (xrg1 rfl T.n_range (acons xint anil)) (xgn 7 nd) (bcons (xif (xtcmp oGt (xop oMod (xix (oIx hu) (xv 2) (xop oAdd (xop oAdd xint (xop oMul xint (xv 5))) (xv 7))) xint) xint) (bone (xexpr (xm1 (T := .list) PySem.F.plainAttrs_list PySem.F.slot_list_append PySem.F.type_list_append oApp (xv 8) (acons (xtup (acons (xix (oIx hu) (xv 1) (xv 7)) (acons (xop oMod (xop oDiv (xix (oIx hu) (xv 2) (xop oAdd (xop oAdd xint (xop oMul xint (xv 5))) (xv 7))) xint) (xv 3)) anil))) anil)))) bnil)
    (bone (xif (xtcmp oGt (xop oMod (xix (oIx hu) (xv 2) (xop oAdd (xop oAdd xint (xop oMul xint (xv 5))) (xv 7))) xint) xint) (bone (xexpr (xm1 (T := .list) PySem.F.plainAttrs_list PySem.F.slot_list_append PySem.F.type_list_append oApp (xv 9) (acons (xix (oIx hu) (xv 1) (xv 7)) anil)))) bnil))))
    (bone (xexpr (xm1 (T := .list) PySem.F.plainAttrs_list PySem.F.slot_list_append PySem.F.type_list_append oApp (xv 4) (acons (xtup (acons (xcallB (oSorted hu rfl) rfl T.n_sorted bb_sorted (acons (xv 8) anil)) (acons (xcallB (oSorted hu rfl) rfl T.n_sorted bb_sorted (acons (xv 9) anil)) anil))) anil))))))))
    (bcons (xasg (xlst anil) (xgn 6 nd))
    (bcons (xfor hp rfl (xrg1 rfl T.n_range (acons xint anil)) (xgn 7 nd) (bone (xfor hp rfl (xrg1 rfl T.n_range (acons xint anil)) (xgn 5 nd) (bone (xif (xtv (xfc c__law_under (hr.mono (by decide)) tk rfl (acons (xix (oIx hu) (xv 2) (xop oAdd xint (xv 7))) (acons (xix (oIx hu) (xv 2) (xop oAdd xint (xv 5))) anil)))) (bone (xexpr (xm1 (T := .list) PySem.F.plainAttrs_list PySem.F.slot_list_append PySem.F.type_list_append oApp (xv 6) (acons (xtup (acons (xix (oIx hu) (xv 1) (xv 7)) (acons (xix (oIx hu) (xv 1) (xv 5)) anil))) anil)))) bnil)))))
    (bone (xret (xtup (acons (xv 4) (acons (xop oMod (xix (oIx hu) (xv 2) xint) (xv 3)) (acons (xcallB (oSorted hu rfl) rfl T.n_sorted bb_sorted (acons (xv 6) anil)) anil))))))))))))
abbrev st__law_things : Stmt := top 54
abbrev nm__law_things : List Str := ["_law_cell", "_law_many", "_law_scopes", "_law_questions_here", "_law_things_here", "_law_number"]
theorem sc__law_things : FnScope nm__law_things ["_law_cell", "_law_many", "_law_scopes", "_law_questions_here"] (defScope st__law_things) := ⟨rfl, rfl, rfl, by decide +kernel, rfl, by decide +kernel, by decide +kernel⟩
def _law_things_b1 : WS :=
  (wIf (wB (w2 (cB bEq) (w2 pMod (wVar 5) (wC (.int 5))) (wC (.int 0)))) (wDrop (wMth .list pApp (wVar 4) (wCons (wTup (wCons (wC (.str (PySem.Str.ofString "plain"))) (wCons (wC (.int 0)) wNil))) wNil))) (wIf (wB (w2 (cB bEq) (w2 pMod (wVar 5) (wC (.int 5))) (wC (.int 1)))) (wDrop (wMth .list pApp (wVar 4) (wCons (wTup (wCons (wC (.str (PySem.Str.ofString "sort"))) (wCons (w2 pMod (w2 pDiv (wVar 5) (wC (.int 5))) (wVar 3)) wNil))) wNil))) (wDrop (wMth .list pApp (wVar 4) (wCons (wTup (wCons (wC (.str (PySem.Str.ofString "part"))) (wCons (w2 pMod (w2 pDiv (wVar 5) (wC (.int 5))) (wVar 2)) wNil))) wNil)))))
def _law_things_r1 : WS :=
  (wRet (wVar 4))
def ws__law_things (sp__law_stream : Spc) : WS :=
  (wSeq (wAsg (wLst wNil) (gN 4))
    (wSeq (wFor (wIt (wFn sp__law_stream [] (wCons (wVar 0) (wCons (wVar 1) wNil)))) (gN 5) _law_things_b1)
    _law_things_r1))
theorem ok__law_things {f : Addr} {fd : FuncData} {sp : Spc} {sp__law_stream : Spc} (F : Fun K "_law_things" "_law_things" st__law_things f fd) (T : Txt mg) (c__law_stream : Fc P w K mg base "_law_stream" 1 ["_law_cell", "_law_many"] sp__law_stream) (hl : ∀ ds S K KX, sp ds S K KX → ds.length = 4)
    (hs : ∀ ds S K KX, sp ds S K KX → ws__law_things sp__law_stream { nx := fun _ S1 => K (.z .none) S1, rt := K, ex := fun y _ S1 => KX y S1 } (startE nm__law_things ds) S) : FnOk P w K mg base (L2.CX P w) 2 f fd ["_law_cell", "_law_many", "_law_scopes", "_law_questions_here"] (spOf sp) := by
  have nd := sc__law_things.nd
  refine fnpx F sc__law_things hl (ws := ws__law_things sp__law_stream) (fun cdv A outer s H E B F0 hr tk hp => ?_) hs
  have hu := hu_px hr
  exact (bcons (xasg (xlst anil) (xgn 4 nd))
    (bcons (xfor hp rfl (xit (xfc c__law_stream (hr.mono (by decide)) tk rfl (acons (xv 0) (acons (xv 1) anil)))) (xgn 5 nd) (bone (xif (xtcmp (oEq hu) (xop oMod (xv 5) xint) xint) (bone (xexpr (xm1 (T := .list) PySem.F.plainAttrs_list PySem.F.slot_list_append PySem.F.type_list_append oApp (xv 4) (acons (xtup (acons xstr (acons xint anil))) anil)))) (bone (xif (xtcmp (oEq hu) (xop oMod (xv 5) xint) xint) (bone (xexpr (xm1 (T := .list) PySem.F.plainAttrs_list PySem.F.slot_list_append PySem.F.type_list_append oApp (xv 4) (acons (xtup (acons xstr (acons (xop oMod (xop oDiv (xv 5) xint) (xv 3)) anil))) anil)))) (bone (xexpr (xm1 (T := .list) PySem.F.plainAttrs_list PySem.F.slot_list_append PySem.F.type_list_append oApp (xv 4) (acons (xtup (acons xstr (acons (xop oMod (xop oDiv (xv 5) xint) (xv 2)) anil))) anil)))))))))
    (bone (xret (xv 4)))))
abbrev st__law_questions : Stmt := top 55
abbrev nm__law_questions : List Str := ["_law_cell", "_law_many", "_law_scopes", "_law_states", "_law_words_here", "_law_questions_here", "_law_number", "_law_path", "_law_k"]
theorem sc__law_questions : FnScope nm__law_questions ["_law_cell", "_law_many", "_law_scopes", "_law_states", "_law_words_here"] (defScope st__law_questions) := ⟨rfl, rfl, rfl, by decide +kernel, rfl, by decide +kernel, by decide +kernel⟩
def _law_questions_e1 : WE :=
  (w2 pIx (wVar 4) (w2 pMod (w2 pAdd (w2 pDiv (w2 pDiv (wVar 6) (wC (.int 60))) (w2 pAdd (wVar 8) (wC (.int 1)))) (wVar 8)) (wC (.int 3))))
def _law_questions_b1 : WS :=
  (wSeq (wAsg (wLc (wRg1 (wCons (w2 pAdd (wC (.int 1)) (w2 pMod (w2 pDiv (wVar 6) (wC (.int 20))) (wC (.int 3)))) wNil)) (tgN 8) wYes _law_questions_e1 [8]) (gN 7))
    (wDrop (wMth .list pApp (wVar 5) (wCons (wTup (wCons (w2 pMod (wVar 6) (wVar 2)) (wCons (w2 pMod (w2 pDiv (wVar 6) (wC (.int 5))) (wVar 3)) (wCons (wCall pTuple (wCons (wVar 7) wNil)) wNil)))) wNil))))
def _law_questions_r1 : WS :=
  (wRet (wVar 5))
def ws__law_questions (sp__law_stream : Spc) : WS :=
  (wSeq (wAsg (wLst wNil) (gN 5))
    (wSeq (wFor (wIt (wFn sp__law_stream [] (wCons (wVar 0) (wCons (wVar 1) wNil)))) (gN 6) _law_questions_b1)
    _law_questions_r1))
theorem ok__law_questions {f : Addr} {fd : FuncData} {sp : Spc} {sp__law_stream : Spc} (F : Fun K "_law_questions" "_law_questions" st__law_questions f fd) (T : Txt mg) (c__law_stream : Fc P w K mg base "_law_stream" 1 ["_law_cell", "_law_many"] sp__law_stream) (hl : ∀ ds S K KX, sp ds S K KX → ds.length = 5)
    (hs : ∀ ds S K KX, sp ds S K KX → ws__law_questions sp__law_stream { nx := fun _ S1 => K (.z .none) S1, rt := K, ex := fun y _ S1 => KX y S1 } (startE nm__law_questions ds) S) : FnOk P w K mg base (L2.CX P w) 2 f fd ["_law_cell", "_law_many", "_law_scopes", "_law_states", "_law_words_here"] (spOf sp) := by
  have nd := sc__law_questions.nd
  refine fnpx F sc__law_questions hl (ws := ws__law_questions sp__law_stream) (fun cdv A outer s H E B F0 hr tk hp => ?_) hs
  have hu := hu_px hr
  exact (bcons (xasg (xlst anil) (xgn 5 nd))
    (bcons (xfor hp rfl (xit (xfc c__law_stream (hr.mono (by decide)) tk rfl (acons (xv 0) (acons (xv 1) anil)))) (xgn 6 nd) (bcons (xsetLc (i := 7) (own := [("_law_k", 8)]) rfl nd rfl rfl (sw_true rfl rfl rfl (by decide +kernel)) (xrg1 rfl T.n_range (acons (xop oAdd xint (xop oMod (xop oDiv (xv 6) xint) xint)) anil)) (blkOk_by (N := nm__law_questions) (sc := defScope st__law_questions) (by decide +kernel)) (fun _ _ _ _ _ => pg_name (i := 8) nd rfl (Or.inl rfl)) tgok_name (fun _ _ _ _ _ => tsNil) (fun _ _ _ _ _ => (xix (oIx hu) (xv 4) (xop oMod (xop oAdd (xop oDiv (xop oDiv (xv 6) xint) (xop oAdd (xv 8) xint)) (xv 8)) xint))))
    (bone (xexpr (xm1 (T := .list) PySem.F.plainAttrs_list PySem.F.slot_list_append PySem.F.type_list_append oApp (xv 5) (acons (xtup (acons (xop oMod (xv 6) (xv 2)) (acons (xop oMod (xop oDiv (xv 6) xint) (xv 3)) (acons (xcallT oTuple rfl T.n_tuple bb_tuple (acons (xv 7) anil)) anil)))) anil))))))
    (bone (xret (xv 5)))))
abbrev st__law_answers : Stmt := top 56
abbrev nm__law_answers : List Str := ["_law_cell", "_law_net", "_law_answers_here", "_law_number", "_law_path"]
theorem sc__law_answers : FnScope nm__law_answers ["_law_cell", "_law_net"] (defScope st__law_answers) := ⟨rfl, rfl, rfl, by decide +kernel, rfl, by decide +kernel, by decide +kernel⟩
def _law_answers_b1 : WS :=
  (wSeq (wAsg (w2 pIx (w2 pIx (w2 pIx (wVar 1) (wC (.int 2))) (wCall pLen (wCons (wVar 2) wNil))) (wC (.int 2))) (gN 4))
    (wIf (wB (w2 (cB bEq) (w2 pMod (wVar 3) (wC (.int 4))) (wC (.int 0)))) (wDrop (wMth .list pApp (wVar 2) (wCons (wC .none) wNil))) (wIf (wB (w2 (cB bEq) (w2 pMod (wVar 3) (wC (.int 8))) (wC (.int 1)))) (wDrop (wMth .list pApp (wVar 2) (wCons (wTup (wCons (w2 pIx (wLst (wCons (wC (.str (PySem.Str.ofString "none"))) (wCons (wC (.str (PySem.Str.ofString "torn"))) wNil))) (w2 pMod (w2 pDiv (wVar 3) (wC (.int 8))) (wC (.int 2)))) (wCons (w2 pMod (w2 pDiv (wVar 3) (wC (.int 16))) (wCall pLen (wCons (wVar 4) wNil))) wNil))) wNil))) (wDrop (wMth .list pApp (wVar 2) (wCons (wTup (wCons (wC (.str (PySem.Str.ofString "thing"))) (wCons (w2 pMod (w2 pDiv (wVar 3) (wC (.int 8))) (wCall pLen (wCons (w2 pIx (wVar 1) (wC (.int 1))) wNil))) wNil))) wNil))))))
def _law_answers_r1 : WS :=
  (wRet (wVar 2))
def ws__law_answers (sp__law_stream : Spc) : WS :=
  (wSeq (wAsg (wLst wNil) (gN 2))
    (wSeq (wFor (wIt (wFn sp__law_stream [] (wCons (wVar 0) (wCons (wCall pLen (wCons (w2 pIx (wVar 1) (wC (.int 2))) wNil)) wNil)))) (gN 3) _law_answers_b1)
    _law_answers_r1))
theorem ok__law_answers {f : Addr} {fd : FuncData} {sp : Spc} {sp__law_stream : Spc} (F : Fun K "_law_answers" "_law_answers" st__law_answers f fd) (T : Txt mg) (c__law_stream : Fc P w K mg base "_law_stream" 1 ["_law_cell", "_law_many"] sp__law_stream) (hl : ∀ ds S K KX, sp ds S K KX → ds.length = 2)
    (hs : ∀ ds S K KX, sp ds S K KX → ws__law_answers sp__law_stream { nx := fun _ S1 => K (.z .none) S1, rt := K, ex := fun y _ S1 => KX y S1 } (startE nm__law_answers ds) S) : FnOk P w K mg base (L2.CX P w) 2 f fd ["_law_cell", "_law_net"] (spOf sp) := by
  have nd := sc__law_answers.nd
  refine fnpx F sc__law_answers hl (ws := ws__law_answers sp__law_stream) (fun cdv A outer s H E B F0 hr tk hp => ?_) hs
  have hu := hu_px hr
  exact (bcons (xasg (xlst anil) (xgn 2 nd))
    (bcons (xfor hp rfl (xit (xfc c__law_stream (hr.mono (by decide)) tk rfl (acons (xv 0) (acons (xcallB oLen rfl T.n_len bb_len (acons (xix (oIx hu) (xv 1) xint) anil)) anil)))) (xgn 3 nd) (bcons (xasg (xix (oIx hu) (xix (oIx hu) (xix (oIx hu) (xv 1) xint) (xcallB oLen rfl T.n_len bb_len (acons (xv 2) anil))) xint) (xgn 4 nd))
    (bone (xif (xtcmp (oEq hu) (xop oMod (xv 3) xint) xint) (bone (xexpr (xm1 (T := .list) PySem.F.plainAttrs_list PySem.F.slot_list_append PySem.F.type_list_append oApp (xv 2) (acons xnon anil)))) (bone (xif (xtcmp (oEq hu) (xop oMod (xv 3) xint) xint) (bone (xexpr (xm1 (T := .list) PySem.F.plainAttrs_list PySem.F.slot_list_append PySem.F.type_list_append oApp (xv 2) (acons (xtup (acons (xix (oIx hu) (xlst (acons xstr (acons xstr anil))) (xop oMod (xop oDiv (xv 3) xint) xint)) (acons (xop oMod (xop oDiv (xv 3) xint) (xcallB oLen rfl T.n_len bb_len (acons (xv 4) anil))) anil))) anil)))) (bone (xexpr (xm1 (T := .list) PySem.F.plainAttrs_list PySem.F.slot_list_append PySem.F.type_list_append oApp (xv 2) (acons (xtup (acons xstr (acons (xop oMod (xop oDiv (xv 3) xint) (xcallB oLen rfl T.n_len bb_len (acons (xix (oIx hu) (xv 1) xint) anil))) anil))) anil))))))))))
    (bone (xret (xv 2)))))
abbrev st__law_lay : Stmt := top 57
abbrev nm__law_lay : List Str := ["_law_net", "_law_labels", "_law_words_here", "_law_cell", "_law_number", "_law_label_here", "_law_steps", "_law_tellings", "_law_name"]
theorem sc__law_lay : FnScope nm__law_lay ["_law_net", "_law_labels", "_law_words_here", "_law_cell"] (defScope st__law_lay) := ⟨rfl, rfl, rfl, by decide +kernel, rfl, by decide +kernel, by decide +kernel⟩
def ws__law_lay : WS :=
  (wSeq (wAsg (w2 pMod (w2 pMul (w2 pDiv (wVar 3) (wC (.int 2))) (wC (.int 48271))) (wC (.int 2147483647))) (gN 4))
    (wSeq (wAsg (w2 pIx (w2 pIx (wVar 0) (wC (.int 0))) (w2 pMod (wVar 4) (wCall pLen (wCons (w2 pIx (wVar 0) (wC (.int 0))) wNil)))) (gT 2 (gC (gN 6) (gC (gN 7) gE))))
    (wSeq (wAug pDivI 4 (wCall pLen (wCons (w2 pIx (wVar 0) (wC (.int 0))) wNil)))
    (wSeq (wAsg (w2 pIx (wVar 1) (w2 pMod (wVar 4) (wCall pLen (wCons (wVar 1) wNil)))) (gN 5))
    (wSeq (wAug pDivI 4 (wCall pLen (wCons (wVar 1) wNil)))
    (wIf (wB (w2 (cB bEq) (w2 pMod (wVar 3) (wC (.int 2))) (wC (.int 0)))) (wIf (wB (w2 (cB bLtD) (wCall pLen (wCons (wVar 6) wNil)) (w2 pAdd (wC (.int 2)) (wCall pInt (wCons (w2 (cB bLtD) (wCall pLen (wCons (w2 pIx (wVar 0) (wC (.int 0))) wNil)) (wC (.int 4))) wNil))))) (wIf (wB (w2 (cB bEq) (w2 pMod (wVar 4) (wC (.int 3))) (wC (.int 0)))) (wDrop (wMth .list pApp (wVar 6) (wCons (wTup (wCons (wVar 5) (wCons (wC (.str (PySem.Str.ofString "by"))) (wCons (w2 pMod (w2 pDiv (wVar 4) (wC (.int 3))) (wCall pLen (wCons (w2 pIx (wVar 0) (wC (.int 2))) wNil))) wNil)))) wNil))) (wDrop (wMth .list pApp (wVar 6) (wCons (wTup (wCons (wVar 5) (wCons (wC (.str (PySem.Str.ofString "to"))) (wCons (w2 pMod (w2 pDiv (wVar 4) (wC (.int 3))) (wCall pLen (wCons (w2 pIx (wVar 0) (wC (.int 0))) wNil))) wNil)))) wNil)))) wNext) (wIf (wB (w2 (cB bLtD) (wCall pLen (wCons (wVar 7) wNil)) (w2 pAdd (wC (.int 2)) (wCall pInt (wCons (w2 (cB bLtD) (wCall pLen (wCons (w2 pIx (wVar 0) (wC (.int 0))) wNil)) (wC (.int 5))) wNil))))) (wSeq (wAsg (w2 pIx (wVar 2) (w2 pMod (wVar 4) (wC (.int 3)))) (gN 8))
    (wSeq (wAug pDivI 4 (wC (.int 3)))
    (wIf (wB (w2 (cB bEq) (w2 pMod (wVar 4) (wC (.int 4))) (wC (.int 0)))) (wDrop (wMth .list pApp (wVar 7) (wCons (wTup (wCons (wVar 5) (wCons (wVar 8) (wCons (wC (.str (PySem.Str.ofString "by"))) (wCons (w2 pMod (w2 pDiv (wVar 4) (wC (.int 4))) (wCall pLen (wCons (w2 pIx (wVar 0) (wC (.int 2))) wNil))) wNil))))) wNil))) (wDrop (wMth .list pApp (wVar 7) (wCons (wTup (wCons (wVar 5) (wCons (wVar 8) (wCons (wC (.str (PySem.Str.ofString "thing"))) (wCons (w2 pMod (w2 pDiv (wVar 4) (wC (.int 4))) (wCall pLen (wCons (w2 pIx (wVar 0) (wC (.int 1))) wNil))) wNil))))) wNil)))))) wNext)))))))
theorem ok__law_lay {f : Addr} {fd : FuncData} {sp : Spc} (F : Fun K "_law_lay" "_law_lay" st__law_lay f fd) (T : Txt mg) (hl : ∀ ds S K KX, sp ds S K KX → ds.length = 4)
    (hs : ∀ ds S K KX, sp ds S K KX → ws__law_lay { nx := fun _ S1 => K (.z .none) S1, rt := K, ex := fun y _ S1 => KX y S1 } (startE nm__law_lay ds) S) : FnOk P w K mg base (L2.CX P w) 1 f fd ["_law_net", "_law_labels", "_law_words_here", "_law_cell"] (spOf sp) := by
  have nd := sc__law_lay.nd
  refine fnpx F sc__law_lay hl (ws := ws__law_lay) (fun cdv A outer s H E B F0 hr tk hp => ?_) hs
  have hu := hu_px hr
  exact (bcons (xasg (xop oMod (xop oMul (xop oDiv (xv 3) xint) xint) xint) (xgn 4 nd))
    (bcons (xasg (xix (oIx hu) (xix (oIx hu) (xv 0) xint) (xop oMod (xv 4) (xcallB oLen rfl T.n_len bb_len (acons (xix (oIx hu) (xv 0) xint) anil)))) (xgt rfl (xgc (xgn 6 nd) (xgc (xgn 7 nd) xge))))
    (bcons (xaug 4 oDivI nd (xcallB oLen rfl T.n_len bb_len (acons (xix (oIx hu) (xv 0) xint) anil)))
    (bcons (xasg (xix (oIx hu) (xv 1) (xop oMod (xv 4) (xcallB oLen rfl T.n_len bb_len (acons (xv 1) anil)))) (xgn 5 nd))
    (bcons (xaug 4 oDivI nd (xcallB oLen rfl T.n_len bb_len (acons (xv 1) anil)))
    (bone (xif (xtcmp (oEq hu) (xop oMod (xv 3) xint) xint) (bone (xif (xtcmp (oLtD hu) (xcallB oLen rfl T.n_len bb_len (acons (xv 6) anil)) (xop oAdd xint (xcallT oInt rfl T.n_int bb_int (acons (xcmp (oLtD hu) (xcallB oLen rfl T.n_len bb_len (acons (xix (oIx hu) (xv 0) xint) anil)) xint) anil)))) (bone (xif (xtcmp (oEq hu) (xop oMod (xv 4) xint) xint) (bone (xexpr (xm1 (T := .list) PySem.F.plainAttrs_list PySem.F.slot_list_append PySem.F.type_list_append oApp (xv 6) (acons (xtup (acons (xv 5) (acons xstr (acons (xop oMod (xop oDiv (xv 4) xint) (xcallB oLen rfl T.n_len bb_len (acons (xix (oIx hu) (xv 0) xint) anil))) anil)))) anil)))) (bone (xexpr (xm1 (T := .list) PySem.F.plainAttrs_list PySem.F.slot_list_append PySem.F.type_list_append oApp (xv 6) (acons (xtup (acons (xv 5) (acons xstr (acons (xop oMod (xop oDiv (xv 4) xint) (xcallB oLen rfl T.n_len bb_len (acons (xix (oIx hu) (xv 0) xint) anil))) anil)))) anil)))))) bnil)) (bone (xif (xtcmp (oLtD hu) (xcallB oLen rfl T.n_len bb_len (acons (xv 7) anil)) (xop oAdd xint (xcallT oInt rfl T.n_int bb_int (acons (xcmp (oLtD hu) (xcallB oLen rfl T.n_len bb_len (acons (xix (oIx hu) (xv 0) xint) anil)) xint) anil)))) (bcons (xasg (xix (oIx hu) (xv 2) (xop oMod (xv 4) xint)) (xgn 8 nd))
    (bcons (xaug 4 oDivI nd xint)
    (bone (xif (xtcmp (oEq hu) (xop oMod (xv 4) xint) xint) (bone (xexpr (xm1 (T := .list) PySem.F.plainAttrs_list PySem.F.slot_list_append PySem.F.type_list_append oApp (xv 7) (acons (xtup (acons (xv 5) (acons (xv 8) (acons xstr (acons (xop oMod (xop oDiv (xv 4) xint) (xcallB oLen rfl T.n_len bb_len (acons (xix (oIx hu) (xv 0) xint) anil))) anil))))) anil)))) (bone (xexpr (xm1 (T := .list) PySem.F.plainAttrs_list PySem.F.slot_list_append PySem.F.type_list_append oApp (xv 7) (acons (xtup (acons (xv 5) (acons (xv 8) (acons xstr (acons (xop oMod (xop oDiv (xv 4) xint) (xcallB oLen rfl T.n_len bb_len (acons (xix (oIx hu) (xv 0) xint) anil))) anil))))) anil)))))))) bnil)))))))))
abbrev st__law_case : Stmt := top 58
abbrev nm__law_case : List Str := ["_law_script", "_law_words_here", "_law_labels", "_law_table_here", "_law_scopes", "_law_asked", "_law_things_here", "_law_questions_here", "_law_net", "_law_cell", "_law_answers_here", "_law_k"]
theorem sc__law_case : FnScope nm__law_case ["_law_script"] (defScope st__law_case) := ⟨rfl, rfl, rfl, by decide +kernel, rfl, by decide +kernel, by decide +kernel⟩
def _law_case_e1 : WE :=
  (wTup (wCons (wLst wNil) (wCons (wLst wNil) wNil)))
def _law_case_b1 (sp__law_lay : Spc) : WS :=
  (wDrop (wFn sp__law_lay [] (wCons (wVar 8) (wCons (wVar 2) (wCons (wVar 1) (wCons (wVar 9) wNil))))))
def _law_case_r1 (sp__law_cell_at : Spc) (sp__law_answers : Spc) : WS :=
  (wSeq (wAsg (wFn sp__law_answers [] (wCons (wFn sp__law_cell_at [] (wCons (wVar 0) (wCons (wC (.int 5)) wNil))) (wCons (wVar 8) wNil))) (gN 10))
    (wRet (wTup (wCons (wVar 8) (wCons (wVar 3) (wCons (wVar 10) (wCons (wVar 1) wNil)))))))
def _law_case_r2 (sp__law_cell_at : Spc) (sp__law_things : Spc) (sp__law_questions : Spc) (sp__law_lay : Spc) (sp__law_answers : Spc) : WS :=
  (wSeq (wAsg (w2 pAdd (wC (.int 1)) (w2 pMod (wFn sp__law_cell_at [] (wCons (wVar 0) (wCons (wC (.int 2)) wNil))) (wC (.int 5)))) (gN 4))
    (wSeq (wAsg (w2 pAdd (wC (.int 1)) (w2 pMod (w2 pDiv (wFn sp__law_cell_at [] (wCons (wVar 0) (wCons (wC (.int 2)) wNil))) (wC (.int 5))) (wC (.int 5)))) (gN 5))
    (wSeq (wAsg (wFn sp__law_things [] (wCons (w2 pDiv (wFn sp__law_cell_at [] (wCons (wVar 0) (wCons (wC (.int 3)) wNil))) (wC (.int 6))) (wCons (w2 pAdd (wC (.int 1)) (w2 pMod (wFn sp__law_cell_at [] (wCons (wVar 0) (wCons (wC (.int 3)) wNil))) (wC (.int 6)))) (wCons (wVar 4) (wCons (wVar 5) wNil))))) (gN 6))
    (wSeq (wAsg (wFn sp__law_questions [] (wCons (wFn sp__law_cell_at [] (wCons (wVar 0) (wCons (wC (.int 4)) wNil))) (wCons (wVar 5) (wCons (wVar 4) (wCons (wCall pLen (wCons (w2 pIx (wVar 3) (wC (.int 0))) wNil)) (wCons (wVar 1) wNil)))))) (gN 7))
    (wSeq (wAsg (wTup (wCons (wLc (wRg1 (wCons (wVar 4) wNil)) (tgN 11) wYes _law_case_e1 [11]) (wCons (wVar 6) (wCons (wVar 7) wNil)))) (gN 8))
    (wSeq (wFor (wIt (wSl pSl (wVar 0) (wPart (wC (.int 6))) wNo)) (gN 9) (_law_case_b1 sp__law_lay))
    (_law_case_r1 sp__law_cell_at sp__law_answers)))))))
def ws__law_case (sp__law_cell_at : Spc) (sp__law_words : Spc) (sp__law_table : Spc) (sp_usual : Spc) (sp__law_things : Spc) (sp__law_questions : Spc) (sp__law_lay : Spc) (sp__law_answers : Spc) : WS :=
  (wSeq (wAsg (wFn sp__law_words [] (wCons (w2 pMod (wFn sp__law_cell_at [] (wCons (wVar 0) (wCons (wC (.int 0)) wNil))) (w2 pPow (wC (.int 10)) (wC (.int 9)))) (wCons (wC (.int 9)) wNil))) (gN 1))
    (wSeq (wAsg (wSl pSl (wVar 1) (wPart (wC (.int 4))) wNo) (gN 2))
    (wSeq (wAsg (wFn sp__law_table [] (wCons (w2 pDiv (wFn sp__law_cell_at [] (wCons (wVar 0) (wCons (wC (.int 1)) wNil))) (wC (.int 4))) (wCons (wVar 2) wNil))) (gN 3))
    (wSeq (wIf (wB (w2 (cB bEq) (w2 pMod (wFn sp__law_cell_at [] (wCons (wVar 0) (wCons (wC (.int 1)) wNil))) (wC (.int 4))) (wC (.int 3)))) (wSeq (wAsg (wFn sp_usual [] wNil) (gN 3))
    (wAsg (wLst (wCons (wC (.str (PySem.Str.ofString "all"))) (wCons (wC (.str (PySem.Str.ofString "allon"))) (wCons (wC (.str (PySem.Str.ofString "elder"))) (wCons (wC (.str (PySem.Str.ofString "let"))) (wCons (wC (.str (PySem.Str.ofString "open"))) (wCons (wC (.str (PySem.Str.ofString "own"))) (wCons (wC (.str (PySem.Str.ofString "up"))) wNil)))))))) (gN 2))) wNext)
    (_law_case_r2 sp__law_cell_at sp__law_things sp__law_questions sp__law_lay sp__law_answers)))))
theorem ok__law_case {f : Addr} {fd : FuncData} {sp : Spc} {sp__law_cell_at : Spc} {sp__law_words : Spc} {sp__law_table : Spc} {sp_usual : Spc} {sp__law_things : Spc} {sp__law_questions : Spc} {sp__law_lay : Spc} {sp__law_answers : Spc} (F : Fun K "_law_case" "_law_case" st__law_case f fd) (T : Txt mg) (c__law_cell_at : Fc P w K mg base "_law_cell_at" 1 ["_law_script", "_law_k"] sp__law_cell_at) (c__law_words : Fc P w K mg base "_law_words" 1 ["_law_cell", "_law_many"] sp__law_words) (c__law_table : Fc P w K mg base "_law_table" 2 ["_law_cell", "_law_labels"] sp__law_table) (c_usual : Fc P w K mg base "usual" 5 [] sp_usual) (c__law_things : Fc P w K mg base "_law_things" 2 ["_law_cell", "_law_many", "_law_scopes", "_law_questions_here"] sp__law_things) (c__law_questions : Fc P w K mg base "_law_questions" 2 ["_law_cell", "_law_many", "_law_scopes", "_law_states", "_law_words_here"] sp__law_questions) (c__law_lay : Fc P w K mg base "_law_lay" 1 ["_law_net", "_law_labels", "_law_words_here", "_law_cell"] sp__law_lay) (c__law_answers : Fc P w K mg base "_law_answers" 2 ["_law_cell", "_law_net"] sp__law_answers) (hl : ∀ ds S K KX, sp ds S K KX → ds.length = 1)
    (hs : ∀ ds S K KX, sp ds S K KX → ws__law_case sp__law_cell_at sp__law_words sp__law_table sp_usual sp__law_things sp__law_questions sp__law_lay sp__law_answers { nx := fun _ S1 => K (.z .none) S1, rt := K, ex := fun y _ S1 => KX y S1 } (startE nm__law_case ds) S) : FnOk P w K mg base (L2.CX P w) 6 f fd ["_law_script"] (spOf sp) := by
  have nd := sc__law_case.nd
  refine fnpx F sc__law_case hl (ws := ws__law_case sp__law_cell_at sp__law_words sp__law_table sp_usual sp__law_things sp__law_questions sp__law_lay sp__law_answers) (fun cdv A outer s H E B F0 hr tk hp => ?_) hs
  have hu := hu_px hr
  exact (bcons (xasg (xfc c__law_words (hr.mono (by decide)) tk rfl (acons (xop oMod (xfc c__law_cell_at (hr.mono (by decide)) tk rfl (acons (xv 0) (acons xint anil))) (xop oPow xint xint)) (acons xint anil))) (xgn 1 nd))
    (bcons (xasg (xsl oSl (xv 1) (osome xint) ono) (xgn 2 nd))
    (bcons (xasg (xfc c__law_table (hr.mono (by decide)) tk rfl (acons (xop oDiv (xfc c__law_cell_at (hr.mono (by decide)) tk rfl (acons (xv 0) (acons xint anil))) xint) (acons (xv 2) anil))) (xgn 3 nd))
    (bcons (xif (xtcmp (oEq hu) (xop oMod (xfc c__law_cell_at (hr.mono (by decide)) tk rfl (acons (xv 0) (acons xint anil))) xint) xint) (bcons (xasg (xfc0 c_usual (hr.mono (by decide)) tk rfl) (xgn 3 nd))
    (bone (xasg (xlst (acons xstr (acons xstr (acons xstr (acons xstr (acons xstr (acons xstr (acons xstr anil)))))))) (xgn 2 nd)))) bnil)
    (bcons (xasg (xop oAdd xint (xop oMod (xfc c__law_cell_at (hr.mono (by decide)) tk rfl (acons (xv 0) (acons xint anil))) xint)) (xgn 4 nd))
    (bcons (xasg (xop oAdd xint (xop oMod (xop oDiv (xfc c__law_cell_at (hr.mono (by decide)) tk rfl (acons (xv 0) (acons xint anil))) xint) xint)) (xgn 5 nd))
    (bcons (xasg (xfc c__law_things (hr.mono (by decide)) tk rfl (acons (xop oDiv (xfc c__law_cell_at (hr.mono (by decide)) tk rfl (acons (xv 0) (acons xint anil))) xint) (acons (xop oAdd xint (xop oMod (xfc c__law_cell_at (hr.mono (by decide)) tk rfl (acons (xv 0) (acons xint anil))) xint)) (acons (xv 4) (acons (xv 5) anil))))) (xgn 6 nd))
    (bcons (xasg (xfc c__law_questions (hr.mono (by decide)) tk rfl (acons (xfc c__law_cell_at (hr.mono (by decide)) tk rfl (acons (xv 0) (acons xint anil))) (acons (xv 5) (acons (xv 4) (acons (xcallB oLen rfl T.n_len bb_len (acons (xix (oIx hu) (xv 3) xint) anil)) (acons (xv 1) anil)))))) (xgn 7 nd))
    (bcons (xasg (xtup (acons (xlc (own := [("_law_k", 11)]) rfl nd (xrg1 rfl T.n_range (acons (xv 4) anil)) (blkOk_by (N := nm__law_case) (sc := defScope st__law_case) (by decide +kernel)) (fun _ _ _ _ _ => pg_name (i := 11) nd rfl (Or.inl rfl)) tgok_name (fun _ _ _ _ _ => tsNil) (fun _ _ _ _ _ => (xtup (acons (xlst anil) (acons (xlst anil) anil))))) (acons (xv 6) (acons (xv 7) anil)))) (xgn 8 nd))
    (bcons (xfor hp rfl (xit (xsl oSl (xv 0) (osome xint) ono)) (xgn 9 nd) (bone (xexpr (xfc c__law_lay (hr.mono (by decide)) tk rfl (acons (xv 8) (acons (xv 2) (acons (xv 1) (acons (xv 9) anil))))))))
    (bcons (xasg (xfc c__law_answers (hr.mono (by decide)) tk rfl (acons (xfc c__law_cell_at (hr.mono (by decide)) tk rfl (acons (xv 0) (acons xint anil))) (acons (xv 8) anil))) (xgn 10 nd))
    (bone (xret (xtup (acons (xv 8) (acons (xv 3) (acons (xv 10) (acons (xv 1) anil))))))))))))))))))
abbrev st__law_copy : Stmt := top 59
abbrev nm__law_copy : List Str := ["_law_parts", "_law_scopes", "_law_steps", "_law_tellings"]
theorem sc__law_copy : FnScope nm__law_copy ["_law_parts"] (defScope st__law_copy) := ⟨rfl, rfl, rfl, by decide +kernel, rfl, by decide +kernel, by decide +kernel⟩
def _law_copy_e1 : WE :=
  (wTup (wCons (wCall pList (wCons (wVar 2) wNil)) (wCons (wCall pList (wCons (wVar 3) wNil)) wNil)))
def ws__law_copy : WS :=
  (wSeq (wAsg (wLc (wIt (w2 pIx (wVar 0) (wC (.int 0)))) (tgT [2, 3]) wYes _law_copy_e1 [2, 3]) (gN 1))
    (wRet (wTup (wCons (wVar 1) (wCons (wCall pList (wCons (w2 pIx (wVar 0) (wC (.int 1))) wNil)) (wCons (wCall pList (wCons (w2 pIx (wVar 0) (wC (.int 2))) wNil)) wNil))))))
theorem ok__law_copy {f : Addr} {fd : FuncData} {sp : Spc} (F : Fun K "_law_copy" "_law_copy" st__law_copy f fd) (T : Txt mg) (hl : ∀ ds S K KX, sp ds S K KX → ds.length = 1)
    (hs : ∀ ds S K KX, sp ds S K KX → ws__law_copy { nx := fun _ S1 => K (.z .none) S1, rt := K, ex := fun y _ S1 => KX y S1 } (startE nm__law_copy ds) S) : FnOk P w K mg base (L2.CX P w) 1 f fd ["_law_parts"] (spOf sp) := by
  have nd := sc__law_copy.nd
  refine fnpx F sc__law_copy hl (ws := ws__law_copy) (fun cdv A outer s H E B F0 hr tk hp => ?_) hs
  have hu := hu_px hr
  exact (bcons (xsetLc (i := 1) (own := [("_law_steps", 2), ("_law_tellings", 3)]) rfl nd rfl rfl (sw_true rfl rfl rfl (by decide +kernel)) (xit (xix (oIx hu) (xv 0) xint)) (blkOk_by (N := nm__law_copy) (sc := defScope st__law_copy) (by decide +kernel)) (fun _ _ _ _ _ => pg_tup (n := 2) rfl (pgs_cons (pg_name (i := 2) nd rfl (Or.inl rfl)) (pgs_cons (pg_name (i := 3) nd rfl (Or.inl rfl)) pgs_nil))) (tgok_tup (is := [2, 3])) (fun _ _ _ _ _ => tsNil) (fun _ _ _ _ _ => (xtup (acons (xcallT oList rfl T.n_list bb_list (acons (xv 2) anil)) (acons (xcallT oList rfl T.n_list bb_list (acons (xv 3) anil)) anil)))))
    (bone (xret (xtup (acons (xv 1) (acons (xcallT oList rfl T.n_list bb_list (acons (xix (oIx hu) (xv 0) xint) anil)) (acons (xcallT oList rfl T.n_list bb_list (acons (xix (oIx hu) (xv 0) xint) anil)) anil)))))))
abbrev st__law_copy_table : Stmt := top 60
abbrev nm__law_copy_table : List Str := ["_law_table_here", "_law_states", "_law_goes", "_law_ends"]
theorem sc__law_copy_table : FnScope nm__law_copy_table ["_law_table_here"] (defScope st__law_copy_table) := ⟨rfl, rfl, rfl, by decide +kernel, rfl, by decide +kernel, by decide +kernel⟩
def _law_copy_table_e1 : WE :=
  (wTup (wCons (wCall pList (wCons (wVar 2) wNil)) (wCons (wCall pList (wCons (wVar 3) wNil)) wNil)))
def ws__law_copy_table : WS :=
  (wSeq (wAsg (wLc (wIt (w2 pIx (wVar 0) (wC (.int 0)))) (tgT [2, 3]) wYes _law_copy_table_e1 [2, 3]) (gN 1))
    (wRet (wTup (wCons (wVar 1) (wCons (w2 pIx (wVar 0) (wC (.int 1))) (wCons (wCall pList (wCons (w2 pIx (wVar 0) (wC (.int 2))) wNil)) wNil))))))
theorem ok__law_copy_table {f : Addr} {fd : FuncData} {sp : Spc} (F : Fun K "_law_copy_table" "_law_copy_table" st__law_copy_table f fd) (T : Txt mg) (hl : ∀ ds S K KX, sp ds S K KX → ds.length = 1)
    (hs : ∀ ds S K KX, sp ds S K KX → ws__law_copy_table { nx := fun _ S1 => K (.z .none) S1, rt := K, ex := fun y _ S1 => KX y S1 } (startE nm__law_copy_table ds) S) : FnOk P w K mg base (L2.CX P w) 1 f fd ["_law_table_here"] (spOf sp) := by
  have nd := sc__law_copy_table.nd
  refine fnpx F sc__law_copy_table hl (ws := ws__law_copy_table) (fun cdv A outer s H E B F0 hr tk hp => ?_) hs
  have hu := hu_px hr
  exact (bcons (xsetLc (i := 1) (own := [("_law_goes", 2), ("_law_ends", 3)]) rfl nd rfl rfl (sw_true rfl rfl rfl (by decide +kernel)) (xit (xix (oIx hu) (xv 0) xint)) (blkOk_by (N := nm__law_copy_table) (sc := defScope st__law_copy_table) (by decide +kernel)) (fun _ _ _ _ _ => pg_tup (n := 2) rfl (pgs_cons (pg_name (i := 2) nd rfl (Or.inl rfl)) (pgs_cons (pg_name (i := 3) nd rfl (Or.inl rfl)) pgs_nil))) (tgok_tup (is := [2, 3])) (fun _ _ _ _ _ => tsNil) (fun _ _ _ _ _ => (xtup (acons (xcallT oList rfl T.n_list bb_list (acons (xv 2) anil)) (acons (xcallT oList rfl T.n_list bb_list (acons (xv 3) anil)) anil)))))
    (bone (xret (xtup (acons (xv 1) (acons (xix (oIx hu) (xv 0) xint) (acons (xcallT oList rfl T.n_list bb_list (acons (xix (oIx hu) (xv 0) xint) anil)) anil)))))))
abbrev st__law_label : Stmt := top 61
abbrev nm__law_label : List Str := ["_law_net", "_law_mark"]
theorem sc__law_label : FnScope nm__law_label ["_law_net", "_law_mark"] (defScope st__law_label) := ⟨rfl, rfl, rfl, by decide +kernel, rfl, by decide +kernel, by decide +kernel⟩
def ws__law_label : WS :=
  (wRet (w2 pIx (w2 pIx (w2 pIx (w2 pIx (w2 pIx (wVar 0) (wC (.int 0))) (w2 pIx (wVar 1) (wC (.int 0)))) (wCall pInt (wCons (w2 (cB bEq) (w2 pIx (wVar 1) (wC (.int 1))) (wC (.str (PySem.Str.ofString "told")))) wNil))) (w2 pIx (wVar 1) (wC (.int 2)))) (wC (.int 0))))
theorem ok__law_label {f : Addr} {fd : FuncData} {sp : Spc} (F : Fun K "_law_label" "_law_label" st__law_label f fd) (T : Txt mg) (hl : ∀ ds S K KX, sp ds S K KX → ds.length = 2)
    (hs : ∀ ds S K KX, sp ds S K KX → ws__law_label { nx := fun _ S1 => K (.z .none) S1, rt := K, ex := fun y _ S1 => KX y S1 } (startE nm__law_label ds) S) : FnOk P w K mg base (L2.CX P w) 1 f fd ["_law_net", "_law_mark"] (spOf sp) := by
  have nd := sc__law_label.nd
  refine fnpx F sc__law_label hl (ws := ws__law_label) (fun cdv A outer s H E B F0 hr tk hp => ?_) hs
  have hu := hu_px hr
  exact (bone (xret (xix (oIx hu) (xix (oIx hu) (xix (oIx hu) (xix (oIx hu) (xix (oIx hu) (xv 0) xint) (xix (oIx hu) (xv 1) xint)) (xcallT oInt rfl T.n_int bb_int (acons (xcmp (oEq hu) (xix (oIx hu) (xv 1) xint) xstr) anil))) (xix (oIx hu) (xv 1) xint)) xint)))
abbrev st__law_hides : Stmt := top 62
abbrev nm__law_hides : List Str := ["_law_net", "_law_table_here", "_law_one", "_law_other", "_law_mine", "_law_theirs"]
theorem sc__law_hides : FnScope nm__law_hides ["_law_net", "_law_table_here", "_law_one", "_law_other"] (defScope st__law_hides) := ⟨rfl, rfl, rfl, by decide +kernel, rfl, by decide +kernel, by decide +kernel⟩
def _law_hides_b1 (sp__law_label : Spc) : WS :=
  (wIf (wB (w2 (cB bNe) (wVar 4) (wVar 5))) (wRet (w2 (cB bIn) (wTup (wCons (wFn sp__law_label [] (wCons (wVar 0) (wCons (wVar 4) wNil))) (wCons (wFn sp__law_label [] (wCons (wVar 0) (wCons (wVar 5) wNil))) wNil))) (w2 pIx (wVar 1) (wC (.int 2))))) wNext)
def _law_hides_r1 : WS :=
  (wRet (wC (.bool false)))
def ws__law_hides (sp__law_label : Spc) : WS :=
  (wSeq (wFor (wZp (wCons (wVar 2) (wCons (wVar 3) wNil))) (gT 2 (gC (gN 4) (gC (gN 5) gE))) (_law_hides_b1 sp__law_label))
    _law_hides_r1)
theorem ok__law_hides {f : Addr} {fd : FuncData} {sp : Spc} {sp__law_label : Spc} (F : Fun K "_law_hides" "_law_hides" st__law_hides f fd) (T : Txt mg) (c__law_label : Fc P w K mg base "_law_label" 1 ["_law_net", "_law_mark"] sp__law_label) (hl : ∀ ds S K KX, sp ds S K KX → ds.length = 4)
    (hs : ∀ ds S K KX, sp ds S K KX → ws__law_hides sp__law_label { nx := fun _ S1 => K (.z .none) S1, rt := K, ex := fun y _ S1 => KX y S1 } (startE nm__law_hides ds) S) : FnOk P w K mg base (L2.CX P w) 2 f fd ["_law_net", "_law_table_here", "_law_one", "_law_other"] (spOf sp) := by
  have nd := sc__law_hides.nd
  refine fnpx F sc__law_hides hl (ws := ws__law_hides sp__law_label) (fun cdv A outer s H E B F0 hr tk hp => ?_) hs
  have hu := hu_px hr
  exact (bcons (xfor hp rfl (xzp rfl T.n_zip (acons (xv 2) (acons (xv 3) anil))) (xgt rfl (xgc (xgn 4 nd) (xgc (xgn 5 nd) xge))) (bone (xif (xtcmp (oNe hu) (xv 4) (xv 5)) (bone (xret (xcmp (oIn hu) (xtup (acons (xfc c__law_label (hr.mono (by decide)) tk rfl (acons (xv 0) (acons (xv 4) anil))) (acons (xfc c__law_label (hr.mono (by decide)) tk rfl (acons (xv 0) (acons (xv 5) anil))) anil))) (xix (oIx hu) (xv 1) xint)))) bnil)))
    (bone (xret xbl)))
abbrev st__law_ways : Stmt := top 63
abbrev nm__law_ways : List Str := ["_law_net", "_law_answers_here", "_law_table_here", "_law_look", "_law_name", "_law_cell", "_law_ways_here", "_law_at", "_law_way", "_law_question"]
theorem sc__law_ways : FnScope nm__law_ways ["_law_net", "_law_answers_here", "_law_table_here", "_law_look", "_law_name", "_law_cell"] (defScope st__law_ways) := ⟨rfl, rfl, rfl, by decide +kernel, rfl, by decide +kernel, by decide +kernel⟩
def _law_ways_e1 : WE :=
  (wVar 8)
def _law_ways_r1 : WS :=
  (wRet (wVar 6))
def ws__law_ways (sp_found_ways : Spc) (sp_owed_ways : Spc) : WS :=
  (wSeq (wAsg (wFn sp_found_ways [] (wCons (wVar 0) (wCons (wVar 1) (wCons (wVar 2) (wCons (w2 pIx (wVar 3) (wC (.int 0))) (wCons (w2 pIx (wVar 3) (wC (.int 1))) (wCons (wVar 4) wNil))))))) (gN 6))
    (wSeq (wAsg (w2 pAdd (wVar 6) (wLc (wIt (wFn sp_owed_ways [] (wCons (wVar 0) (wCons (wVar 1) (wCons (wVar 2) (wCons (w2 pIx (wVar 3) (wC (.int 0))) (wCons (w2 pIx (wVar 3) (wC (.int 1))) wNil))))))) (tgT [8, 9]) wYes _law_ways_e1 [8, 9])) (gN 6))
    (wSeq (wAsg (w2 pMod (w2 pDiv (wVar 5) (wC (.int 2))) (w2 pAdd (wCall pLen (wCons (wVar 6) wNil)) (wC (.int 1)))) (gN 7))
    (wSeq (wAsg (wSl pSl (w2 pAdd (wSl pSl (wVar 6) (wPart (wVar 7)) wNo) (wSl pSl (wVar 6) wNo (wPart (wVar 7)))) wNo (wPart (wC (.int 30)))) (gN 6))
    (wSeq (wIf (wB (w2 (cB bEq) (w2 pMod (wVar 5) (wC (.int 2))) (wC (.int 1)))) (wAsg (wLRev (wVar 6)) (gN 6)) wNext)
    _law_ways_r1)))))
theorem ok__law_ways {f : Addr} {fd : FuncData} {sp : Spc} {sp_found_ways : Spc} {sp_owed_ways : Spc} (F : Fun K "_law_ways" "_law_ways" st__law_ways f fd) (T : Txt mg) (c_found_ways : Fc P w K mg base "found_ways" 5 ["net", "answers", "table", "scope", "state", "name"] sp_found_ways) (c_owed_ways : Fc P w K mg base "owed_ways" 5 ["net", "answers", "table", "scope", "state"] sp_owed_ways) (hl : ∀ ds S K KX, sp ds S K KX → ds.length = 6)
    (hs : ∀ ds S K KX, sp ds S K KX → ws__law_ways sp_found_ways sp_owed_ways { nx := fun _ S1 => K (.z .none) S1, rt := K, ex := fun y _ S1 => KX y S1 } (startE nm__law_ways ds) S) : FnOk P w K mg base (L2.CX P w) 6 f fd ["_law_net", "_law_answers_here", "_law_table_here", "_law_look", "_law_name", "_law_cell"] (spOf sp) := by
  have nd := sc__law_ways.nd
  refine fnpx F sc__law_ways hl (ws := ws__law_ways sp_found_ways sp_owed_ways) (fun cdv A outer s H E B F0 hr tk hp => ?_) hs
  have hu := hu_px hr
  exact (bcons (xasg (xfc c_found_ways (hr.mono (by decide)) tk rfl (acons (xv 0) (acons (xv 1) (acons (xv 2) (acons (xix (oIx hu) (xv 3) xint) (acons (xix (oIx hu) (xv 3) xint) (acons (xv 4) anil))))))) (xgn 6 nd))
    (bcons (xasg (xop oAdd (xv 6) (xlc (own := [("_law_way", 8), ("_law_question", 9)]) rfl nd (xit (xfc c_owed_ways (hr.mono (by decide)) tk rfl (acons (xv 0) (acons (xv 1) (acons (xv 2) (acons (xix (oIx hu) (xv 3) xint) (acons (xix (oIx hu) (xv 3) xint) anil))))))) (blkOk_by (N := nm__law_ways) (sc := defScope st__law_ways) (by decide +kernel)) (fun _ _ _ _ _ => pg_tup (n := 2) rfl (pgs_cons (pg_name (i := 8) nd rfl (Or.inl rfl)) (pgs_cons (pg_name (i := 9) nd rfl (Or.inl rfl)) pgs_nil))) (tgok_tup (is := [8, 9])) (fun _ _ _ _ _ => tsNil) (fun _ _ _ _ _ => (xv 8)))) (xgn 6 nd))
    (bcons (xasg (xop oMod (xop oDiv (xv 5) xint) (xop oAdd (xcallB oLen rfl T.n_len bb_len (acons (xv 6) anil)) xint)) (xgn 7 nd))
    (bcons (xasg (xsl oSl (xop oAdd (xsl oSl (xv 6) (osome (xv 7)) ono) (xsl oSl (xv 6) ono (osome (xv 7)))) ono (osome xint)) (xgn 6 nd))
    (bcons (xif (xtcmp (oEq hu) (xop oMod (xv 5) xint) xint) (bone (xasg (xlrev rfl rfl T.n_list rfl T.n_reversed (xv 6)) (xgn 6 nd))) bnil)
    (bone (xret (xv 6))))))))
abbrev st__law_first : Stmt := top 64
abbrev nm__law_first : List Str := ["_law_net", "_law_table_here", "_law_shown", "_law_way", "_law_one"]
theorem sc__law_first : FnScope nm__law_first ["_law_net", "_law_table_here", "_law_shown", "_law_way"] (defScope st__law_first) := ⟨rfl, rfl, rfl, by decide +kernel, rfl, by decide +kernel, by decide +kernel⟩
def _law_first_b1 (sp__law_hides : Spc) : WS :=
  (wIf (wB (wFn sp__law_hides [] (wCons (wVar 0) (wCons (wVar 1) (wCons (wVar 4) (wCons (wVar 3) wNil)))))) (wRet (wVar 4)) wNext)
def _law_first_r1 : WS :=
  (wRet (wC .none))
def ws__law_first (sp__law_hides : Spc) : WS :=
  (wSeq (wFor (wIt (wVar 2)) (gN 4) (_law_first_b1 sp__law_hides))
    _law_first_r1)
theorem ok__law_first {f : Addr} {fd : FuncData} {sp : Spc} {sp__law_hides : Spc} (F : Fun K "_law_first" "_law_first" st__law_first f fd) (T : Txt mg) (c__law_hides : Fc P w K mg base "_law_hides" 2 ["_law_net", "_law_table_here", "_law_one", "_law_other"] sp__law_hides) (hl : ∀ ds S K KX, sp ds S K KX → ds.length = 4)
    (hs : ∀ ds S K KX, sp ds S K KX → ws__law_first sp__law_hides { nx := fun _ S1 => K (.z .none) S1, rt := K, ex := fun y _ S1 => KX y S1 } (startE nm__law_first ds) S) : FnOk P w K mg base (L2.CX P w) 3 f fd ["_law_net", "_law_table_here", "_law_shown", "_law_way"] (spOf sp) := by
  have nd := sc__law_first.nd
  refine fnpx F sc__law_first hl (ws := ws__law_first sp__law_hides) (fun cdv A outer s H E B F0 hr tk hp => ?_) hs
  have hu := hu_px hr
  exact (bcons (xfor hp rfl (xit (xv 2)) (xgn 4 nd) (bone (xif (xtv (xfc c__law_hides (hr.mono (by decide)) tk rfl (acons (xv 0) (acons (xv 1) (acons (xv 4) (acons (xv 3) anil)))))) (bone (xret (xv 4))) bnil)))
    (bone (xret xnon)))
abbrev st__law_row : Stmt := top 65
abbrev nm__law_row : List Str := ["_law_net", "_law_table_here", "_law_shown", "_law_way", "_law_row_here"]
theorem sc__law_row : FnScope nm__law_row ["_law_net", "_law_table_here", "_law_shown", "_law_way", "_law_row_here"] (defScope st__law_row) := ⟨rfl, rfl, rfl, by decide +kernel, rfl, by decide +kernel, by decide +kernel⟩
def _law_row_r1 (sp__law_first : Spc) : WS :=
  (wRet (wAndV (w2 (cB bEq) (w2 pIx (wVar 4) (wC (.int 0))) (wVar 3)) (w2 (cB bEq) (w2 pIx (wVar 4) (wC (.int 1))) (wFn sp__law_first [] (wCons (wVar 0) (wCons (wVar 1) (wCons (wVar 2) (wCons (wVar 3) wNil))))))))
def ws__law_row (sp__law_first : Spc) : WS :=
  (wSeq (wIf (wOr (wNot (wB (wCall pIsi (wCons (wVar 4) (wCons (wTy .tuple) wNil))))) (wOr (wB (w2 (cB bNe) (wCall pLen (wCons (wVar 4) wNil)) (wC (.int 2)))) (wOr (wNot (wB (wCall pIsi (wCons (w2 pIx (wVar 4) (wC (.int 0))) (wCons (wTy .list) wNil))))) (wNot (wB (wCall pIsi (wCons (w2 pIx (wVar 4) (wC (.int 1))) (wCons (wTy .list) wNil)))))))) (wRet (wC (.bool false))) wNext)
    (_law_row_r1 sp__law_first))
theorem ok__law_row {f : Addr} {fd : FuncData} {sp : Spc} {sp__law_first : Spc} (F : Fun K "_law_row" "_law_row" st__law_row f fd) (T : Txt mg) (c__law_first : Fc P w K mg base "_law_first" 3 ["_law_net", "_law_table_here", "_law_shown", "_law_way"] sp__law_first) (hl : ∀ ds S K KX, sp ds S K KX → ds.length = 5)
    (hs : ∀ ds S K KX, sp ds S K KX → ws__law_row sp__law_first { nx := fun _ S1 => K (.z .none) S1, rt := K, ex := fun y _ S1 => KX y S1 } (startE nm__law_row ds) S) : FnOk P w K mg base (L2.CX P w) 4 f fd ["_law_net", "_law_table_here", "_law_shown", "_law_way", "_law_row_here"] (spOf sp) := by
  have nd := sc__law_row.nd
  refine fnpx F sc__law_row hl (ws := ws__law_row sp__law_first) (fun cdv A outer s H E B F0 hr tk hp => ?_) hs
  have hu := hu_px hr
  exact (bcons (xif (xtw (yor (xtnot (xtv (xcallB oIsi rfl T.n_isinstance bb_isinstance (acons (xv 4) (acons (xty (T := .tuple) rfl T.n_tuple bb_tuple) anil))))) (yor (xtcmp (oNe hu) (xcallB oLen rfl T.n_len bb_len (acons (xv 4) anil)) xint) (yor (xtnot (xtv (xcallB oIsi rfl T.n_isinstance bb_isinstance (acons (xix (oIx hu) (xv 4) xint) (acons (xty (T := .list) rfl T.n_list bb_list) anil))))) (yor1 (xtnot (xtv (xcallB oIsi rfl T.n_isinstance bb_isinstance (acons (xix (oIx hu) (xv 4) xint) (acons (xty (T := .list) rfl T.n_list bb_list) anil)))))))))) (bone (xret xbl)) bnil)
    (bone (xret (xand (xcmp (oEq hu) (xix (oIx hu) (xv 4) xint) (xv 3)) (xone (xcmp (oEq hu) (xix (oIx hu) (xv 4) xint) (xfc c__law_first (hr.mono (by decide)) tk rfl (acons (xv 0) (acons (xv 1) (acons (xv 2) (acons (xv 3) anil)))))))))))
abbrev st__law_right : Stmt := top 66
abbrev nm__law_right : List Str := ["_law_net", "_law_table_here", "_law_ways_here", "_law_kept", "_law_rules", "_law_held", "_law_shown", "_law_others", "_law_rows", "_law_told", "_law_row_here", "_law_way", "_law_by"]
theorem sc__law_right : FnScope nm__law_right ["_law_net", "_law_table_here", "_law_ways_here"] (defScope st__law_right) := ⟨rfl, rfl, rfl, by decide +kernel, rfl, by decide +kernel, by decide +kernel⟩
def _law_right_e1 : WE :=
  (wCall pList (wCons (wVar 11) wNil))
def _law_right_e2 : WE :=
  (wCall pList (wCons (wVar 11) wNil))
def _law_right_c1 : WT :=
  (wB (w2 (cB bNotIn) (wVar 11) (wVar 6)))
def _law_right_e3 : WE :=
  (wVar 11)
def _law_right_b1 (sp__law_row : Spc) : WS :=
  (wIf (wNot (wB (wFn sp__law_row [] (wCons (wVar 3) (wCons (wVar 4) (wCons (wVar 6) (wCons (wVar 11) (wCons (wVar 10) wNil)))))))) (wRet (wC (.bool false))) wNext)
def _law_right_e4 : WE :=
  (wTup (wCons (wCall pList (wCons (wVar 11) wNil)) (wCons (wCall pList (wCons (wVar 12) wNil)) wNil)))
def _law_right_b2 : WS :=
  (wSeq (wDrop (wMth .list pClear (wVar 11) wNil))
    (wDrop (wMth .list pApp (wVar 12) (wCons (wTup (wCons (wC (.int 0)) (wCons (wC (.str (PySem.Str.ofString "told"))) (wCons (wC (.int 0)) wNil)))) wNil))))
def _law_right_r1 (sp_hidden_ways : Spc) : WS :=
  (wSeq (wDrop (wMth .list pClear (wVar 8) wNil))
    (wRet (wAndV (w2 (cB bEq) (wVar 2) (wVar 5)) (w2 (cB bEq) (wFn sp_hidden_ways [] (wCons (wVar 0) (wCons (wVar 1) (wCons (wVar 2) wNil)))) (wVar 9)))))
def _law_right_r2 (sp_hidden_ways : Spc) : WS :=
  (wSeq (wAsg (wLc (wIt (wVar 8)) (tgT [11, 12]) wYes _law_right_e4 [11, 12]) (gN 9))
    (wSeq (wFor (wIt (wVar 8)) (gT 2 (gC (gN 11) (gC (gN 12) gE))) _law_right_b2)
    (_law_right_r1 sp_hidden_ways)))
def _law_right_r3 (sp_hidden_ways : Spc) (sp__law_row : Spc) : WS :=
  (wSeq (wFor (wZp (wCons (wVar 8) (wCons (wVar 7) wNil))) (gT 2 (gC (gN 10) (gC (gN 11) gE))) (_law_right_b1 sp__law_row))
    (_law_right_r2 sp_hidden_ways))
def ws__law_right (sp__law_copy : Spc) (sp__law_copy_table : Spc) (sp_seen_ways : Spc) (sp_hidden_ways : Spc) (sp__law_row : Spc) : WS :=
  (wSeq (wAsg (wFn sp__law_copy [] (wCons (wVar 0) wNil)) (gN 3))
    (wSeq (wAsg (wFn sp__law_copy_table [] (wCons (wVar 1) wNil)) (gN 4))
    (wSeq (wAsg (wLc (wIt (wVar 2)) (tgN 11) wYes _law_right_e1 [11]) (gN 5))
    (wSeq (wAsg (wLc (wIt (wFn sp_seen_ways [] (wCons (wVar 0) (wCons (wVar 1) (wCons (wVar 2) wNil))))) (tgN 11) wYes _law_right_e2 [11]) (gN 6))
    (wSeq (wAsg (wLc (wIt (wVar 5)) (tgN 11) _law_right_c1 _law_right_e3 [11]) (gN 7))
    (wSeq (wAsg (wFn sp_hidden_ways [] (wCons (wVar 0) (wCons (wVar 1) (wCons (wVar 2) wNil)))) (gN 8))
    (wSeq (wIf (wOr (wNot (wB (wCall pIsi (wCons (wVar 8) (wCons (wTy .list) wNil))))) (wOr (wB (w2 (cB bNe) (wCall pLen (wCons (wVar 8) wNil)) (wCall pLen (wCons (wVar 7) wNil)))) (wOr (wB (w2 (cB bNe) (wVar 0) (wVar 3))) (wOr (wB (w2 (cB bNe) (wVar 1) (wVar 4))) (wB (w2 (cB bNe) (wVar 2) (wVar 5))))))) (wRet (wC (.bool false))) wNext)
    (_law_right_r3 sp_hidden_ways sp__law_row))))))))
theorem ok__law_right {f : Addr} {fd : FuncData} {sp : Spc} {sp__law_copy : Spc} {sp__law_copy_table : Spc} {sp_seen_ways : Spc} {sp_hidden_ways : Spc} {sp__law_row : Spc} (F : Fun K "_law_right" "_law_right" st__law_right f fd) (T : Txt mg) (c__law_copy : Fc P w K mg base "_law_copy" 1 ["_law_parts"] sp__law_copy) (c__law_copy_table : Fc P w K mg base "_law_copy_table" 1 ["_law_table_here"] sp__law_copy_table) (c_seen_ways : Fc P w K mg base "seen_ways" 3 ["net", "table", "ways"] sp_seen_ways) (c_hidden_ways : Fc P w K mg base "hidden_ways" 4 ["net", "table", "ways"] sp_hidden_ways) (c__law_row : Fc P w K mg base "_law_row" 4 ["_law_net", "_law_table_here", "_law_shown", "_law_way", "_law_row_here"] sp__law_row) (hl : ∀ ds S K KX, sp ds S K KX → ds.length = 3)
    (hs : ∀ ds S K KX, sp ds S K KX → ws__law_right sp__law_copy sp__law_copy_table sp_seen_ways sp_hidden_ways sp__law_row { nx := fun _ S1 => K (.z .none) S1, rt := K, ex := fun y _ S1 => KX y S1 } (startE nm__law_right ds) S) : FnOk P w K mg base (L2.CX P w) 5 f fd ["_law_net", "_law_table_here", "_law_ways_here"] (spOf sp) := by
  have nd := sc__law_right.nd
  refine fnpx F sc__law_right hl (ws := ws__law_right sp__law_copy sp__law_copy_table sp_seen_ways sp_hidden_ways sp__law_row) (fun cdv A outer s H E B F0 hr tk hp => ?_) hs
  have hu := hu_px hr
  exact (bcons (xasg (xfc c__law_copy (hr.mono (by decide)) tk rfl (acons (xv 0) anil)) (xgn 3 nd))
    (bcons (xasg (xfc c__law_copy_table (hr.mono (by decide)) tk rfl (acons (xv 1) anil)) (xgn 4 nd))
    (bcons (xsetLc (i := 5) (own := [("_law_way", 11)]) rfl nd rfl rfl (sw_true rfl rfl rfl (by decide +kernel)) (xit (xv 2)) (blkOk_by (N := nm__law_right) (sc := defScope st__law_right) (by decide +kernel)) (fun _ _ _ _ _ => pg_name (i := 11) nd rfl (Or.inl rfl)) tgok_name (fun _ _ _ _ _ => tsNil) (fun _ _ _ _ _ => (xcallT oList rfl T.n_list bb_list (acons (xv 11) anil))))
    (bcons (xasg (xlc (own := [("_law_way", 11)]) rfl nd (xit (xfc c_seen_ways (hr.mono (by decide)) tk rfl (acons (xv 0) (acons (xv 1) (acons (xv 2) anil))))) (blkOk_by (N := nm__law_right) (sc := defScope st__law_right) (by decide +kernel)) (fun _ _ _ _ _ => pg_name (i := 11) nd rfl (Or.inl rfl)) tgok_name (fun _ _ _ _ _ => tsNil) (fun _ _ _ _ _ => (xcallT oList rfl T.n_list bb_list (acons (xv 11) anil)))) (xgn 6 nd))
    (bcons (xsetLc (i := 7) (own := [("_law_way", 11)]) rfl nd rfl rfl (sw_true rfl rfl rfl (by decide +kernel)) (xit (xv 5)) (blkOk_by (N := nm__law_right) (sc := defScope st__law_right) (by decide +kernel)) (fun _ _ _ _ _ => pg_name (i := 11) nd rfl (Or.inl rfl)) tgok_name (fun _ _ _ _ _ => tsOne (xtcmp (oNotIn hu) (xv 11) (xv 6))) (fun _ _ _ _ _ => (xv 11)))
    (bcons (xasg (xfc c_hidden_ways (hr.mono (by decide)) tk rfl (acons (xv 0) (acons (xv 1) (acons (xv 2) anil)))) (xgn 8 nd))
    (bcons (xif (xtw (yor (xtnot (xtv (xcallB oIsi rfl T.n_isinstance bb_isinstance (acons (xv 8) (acons (xty (T := .list) rfl T.n_list bb_list) anil))))) (yor (xtcmp (oNe hu) (xcallB oLen rfl T.n_len bb_len (acons (xv 8) anil)) (xcallB oLen rfl T.n_len bb_len (acons (xv 7) anil))) (yor (xtcmp (oNe hu) (xv 0) (xv 3)) (yor (xtcmp (oNe hu) (xv 1) (xv 4)) (yor1 (xtcmp (oNe hu) (xv 2) (xv 5)))))))) (bone (xret xbl)) bnil)
    (bcons (xfor hp rfl (xzp rfl T.n_zip (acons (xv 8) (acons (xv 7) anil))) (xgt rfl (xgc (xgn 10 nd) (xgc (xgn 11 nd) xge))) (bone (xif (xtnot (xtv (xfc c__law_row (hr.mono (by decide)) tk rfl (acons (xv 3) (acons (xv 4) (acons (xv 6) (acons (xv 11) (acons (xv 10) anil)))))))) (bone (xret xbl)) bnil)))
    (bcons (xsetLc (i := 9) (own := [("_law_way", 11), ("_law_by", 12)]) rfl nd rfl rfl (sw_true rfl rfl rfl (by decide +kernel)) (xit (xv 8)) (blkOk_by (N := nm__law_right) (sc := defScope st__law_right) (by decide +kernel)) (fun _ _ _ _ _ => pg_tup (n := 2) rfl (pgs_cons (pg_name (i := 11) nd rfl (Or.inl rfl)) (pgs_cons (pg_name (i := 12) nd rfl (Or.inl rfl)) pgs_nil))) (tgok_tup (is := [11, 12])) (fun _ _ _ _ _ => tsNil) (fun _ _ _ _ _ => (xtup (acons (xcallT oList rfl T.n_list bb_list (acons (xv 11) anil)) (acons (xcallT oList rfl T.n_list bb_list (acons (xv 12) anil)) anil)))))
    (bcons (xfor hp rfl (xit (xv 8)) (xgt rfl (xgc (xgn 11 nd) (xgc (xgn 12 nd) xge))) (bcons (xexpr (xm0 (T := .list) PySem.F.plainAttrs_list PySem.F.slot_list_clear PySem.F.type_list_clear oClear (xv 11)))
    (bone (xexpr (xm1 (T := .list) PySem.F.plainAttrs_list PySem.F.slot_list_append PySem.F.type_list_append oApp (xv 12) (acons (xtup (acons xint (acons xstr (acons xint anil)))) anil))))))
    (bcons (xexpr (xm0 (T := .list) PySem.F.plainAttrs_list PySem.F.slot_list_clear PySem.F.type_list_clear oClear (xv 8)))
    (bone (xret (xand (xcmp (oEq hu) (xv 2) (xv 5)) (xone (xcmp (oEq hu) (xfc c_hidden_ways (hr.mono (by decide)) tk rfl (acons (xv 0) (acons (xv 1) (acons (xv 2) anil)))) (xv 9)))))))))))))))))
abbrev st_law : Stmt := top 67
abbrev nm_law : List Str := ["_law_script", "_law_k", "_law_net", "_law_table_here", "_law_answers_here", "_law_words_here", "_law_name", "_law_ways_here", "_law_scope", "_law_state", "_law_path"]
theorem sc_law : FnScope nm_law ["_law_script"] (defScope st_law) := ⟨rfl, rfl, rfl, by decide +kernel, rfl, by decide +kernel, by decide +kernel⟩
def law_b1 (sp__law_cell_at : Spc) (sp__law_ways : Spc) (sp__law_right : Spc) : WS :=
  (wSeq (wAsg (w2 pIx (w2 pIx (wVar 2) (wC (.int 2))) (wVar 1)) (gT 3 (gC (gN 8) (gC (gN 9) (gC (gN 10) gE)))))
    (wSeq (wAsg (w2 pIx (wVar 5) (w2 pMod (w2 pAdd (w2 pDiv (wFn sp__law_cell_at [] (wCons (wVar 0) (wCons (wC (.int 5)) wNil))) (wC (.int 7))) (wVar 1)) (wC (.int 3)))) (gN 6))
    (wSeq (wAsg (wFn sp__law_ways [] (wCons (wVar 2) (wCons (wVar 4) (wCons (wVar 3) (wCons (wTup (wCons (wVar 8) (wCons (wVar 9) wNil))) (wCons (wVar 6) (wCons (w2 pMod (w2 pDiv (wFn sp__law_cell_at [] (wCons (wVar 0) (wCons (wC (.int 4)) wNil))) (wC (.int 3))) (w2 pPow (wC (.int 10)) (wC (.int 6)))) wNil))))))) (gN 7))
    (wIf (wOr (wNot (wB (wFn sp__law_right [] (wCons (wVar 2) (wCons (wVar 3) (wCons (wVar 7) wNil)))))) (wNot (wB (wFn sp__law_right [] (wCons (wVar 2) (wCons (wVar 3) (wCons (wSl pSl (wVar 7) (wPart (wC (.int 1))) wNo) wNil))))))) (wRet (wC (.bool false))) wNext))))
def law_r1 (sp_hidden_ways : Spc) : WS :=
  (wRet (w2 (cB bEq) (wFn sp_hidden_ways [] (wCons (wVar 2) (wCons (wVar 3) (wCons (wLst wNil) wNil)))) (wLst wNil)))
def ws_law (sp__law_case : Spc) (sp__law_cell_at : Spc) (sp__law_ways : Spc) (sp__law_right : Spc) (sp_hidden_ways : Spc) : WS :=
  (wSeq (wAsg (wFn sp__law_case [] (wCons (wVar 0) wNil)) (gT 4 (gC (gN 2) (gC (gN 3) (gC (gN 4) (gC (gN 5) gE))))))
    (wSeq (wFor (wRg1 (wCons (wCall pLen (wCons (w2 pIx (wVar 2) (wC (.int 2))) wNil)) wNil)) (gN 1) (law_b1 sp__law_cell_at sp__law_ways sp__law_right))
    (law_r1 sp_hidden_ways)))
theorem ok_law {f : Addr} {fd : FuncData} {sp : Spc} {sp__law_case : Spc} {sp__law_cell_at : Spc} {sp__law_ways : Spc} {sp__law_right : Spc} {sp_hidden_ways : Spc} (F : Fun K "law" "law" st_law f fd) (T : Txt mg) (c__law_case : Fc P w K mg base "_law_case" 6 ["_law_script"] sp__law_case) (c__law_cell_at : Fc P w K mg base "_law_cell_at" 1 ["_law_script", "_law_k"] sp__law_cell_at) (c__law_ways : Fc P w K mg base "_law_ways" 6 ["_law_net", "_law_answers_here", "_law_table_here", "_law_look", "_law_name", "_law_cell"] sp__law_ways) (c__law_right : Fc P w K mg base "_law_right" 5 ["_law_net", "_law_table_here", "_law_ways_here"] sp__law_right) (c_hidden_ways : Fc P w K mg base "hidden_ways" 4 ["net", "table", "ways"] sp_hidden_ways) (hl : ∀ ds S K KX, sp ds S K KX → ds.length = 1)
    (hs : ∀ ds S K KX, sp ds S K KX → ws_law sp__law_case sp__law_cell_at sp__law_ways sp__law_right sp_hidden_ways { nx := fun _ S1 => K (.z .none) S1, rt := K, ex := fun y _ S1 => KX y S1 } (startE nm_law ds) S) : FnOk P w K mg base (L2.CX P w) 7 f fd ["_law_script"] (spOf sp) := by
  have nd := sc_law.nd
  refine fnpx F sc_law hl (ws := ws_law sp__law_case sp__law_cell_at sp__law_ways sp__law_right sp_hidden_ways) (fun cdv A outer s H E B F0 hr tk hp => ?_) hs
  have hu := hu_px hr
  exact (bcons (xasg (xfc c__law_case (hr.mono (by decide)) tk rfl (acons (xv 0) anil)) (xgt rfl (xgc (xgn 2 nd) (xgc (xgn 3 nd) (xgc (xgn 4 nd) (xgc (xgn 5 nd) xge))))))
    (bcons (xfor hp rfl (xrg1 rfl T.n_range (acons (xcallB oLen rfl T.n_len bb_len (acons (xix (oIx hu) (xv 2) xint) anil)) anil)) (xgn 1 nd) (bcons (xasg (xix (oIx hu) (xix (oIx hu) (xv 2) xint) (xv 1)) (xgt rfl (xgc (xgn 8 nd) (xgc (xgn 9 nd) (xgc (xgn 10 nd) xge)))))
    (bcons (xasg (xix (oIx hu) (xv 5) (xop oMod (xop oAdd (xop oDiv (xfc c__law_cell_at (hr.mono (by decide)) tk rfl (acons (xv 0) (acons xint anil))) xint) (xv 1)) xint)) (xgn 6 nd))
    (bcons (xasg (xfc c__law_ways (hr.mono (by decide)) tk rfl (acons (xv 2) (acons (xv 4) (acons (xv 3) (acons (xtup (acons (xv 8) (acons (xv 9) anil))) (acons (xv 6) (acons (xop oMod (xop oDiv (xfc c__law_cell_at (hr.mono (by decide)) tk rfl (acons (xv 0) (acons xint anil))) xint) (xop oPow xint xint)) anil))))))) (xgn 7 nd))
    (bone (xif (xtw (yor (xtnot (xtv (xfc c__law_right (hr.mono (by decide)) tk rfl (acons (xv 2) (acons (xv 3) (acons (xv 7) anil)))))) (yor1 (xtnot (xtv (xfc c__law_right (hr.mono (by decide)) tk rfl (acons (xv 2) (acons (xv 3) (acons (xsl oSl (xv 7) (osome xint) ono) anil))))))))) (bone (xret xbl)) bnil))))))
    (bone (xret (xcmp (oEq hu) (xfc c_hidden_ways (hr.mono (by decide)) tk rfl (acons (xv 2) (acons (xv 3) (acons (xlst anil) anil)))) (xlst anil))))))
end
end K27

set_option Elab.async false
set_option linter.all false
set_option maxRecDepth 100000
set_option maxHeartbeats 1000000
namespace K27
open PySem L2 PL NE
open ND (cutL_map cutL_len cutL_mem bz_ints LwN isNm alpha alpha_eq alpha_at getA ixD_zA ixD_bA app_list one_len getI getI_at getI_mem)
local macro_rules | `(tactic| walk_at "st1") => `(tactic| first | assumption | exact sto_last | exact sto_r0 | exact sto_r1 | exact sto_r2 | exact sto_r3 | exact sto_r4)
local macro_rules | `(tactic| walk_at "sto") => `(tactic| first | walk_at "st1" | exact sto_app (by walk_at "st1") | exact sto_app (sto_app (by walk_at "st1")))
local macro_rules | `(tactic| walk_at "sz") => `(tactic| ((try simp only [List.length_map, List.length_range, List.length_append, List.length_cons, List.length_nil]); omega))
local macro_rules | `(tactic| walk_at "go") => `(tactic| ((try (conv => whnf)); repeat ((first | (show pIf _ _ _; first | refine pIf.tt rfl ?_ | refine pIf.ff rfl ?_) | (show pReq _ _; first | refine pReq.mk rfl ?_ | refine pReq.mk (sz_le rfl) ?_ | refine pReq.mk (sz_lt rfl) ?_ | refine pReq.mk (by decide) ?_ | refine pReq.mk (Or.inr (by decide)) ?_ | refine pReq.mk (Or.inl (by decide)) ?_ | refine pReq.mk (by assumption) ?_ | refine pReq.mk (isTy_l (by walk_at "sto")) ?_ | refine pReq.mk (by omega) ?_ | refine pReq.mk (sz_lt6 (by walk_at "sz")) ?_ | refine pReq.mk (sz_le6 (by walk_at "sz")) ?_ | refine pReq.mk (by walk_at "sz") ?_) | (show pGet _ _; first | refine pGet.mk rfl ?_ | refine pGet.mk (by walk_at "sto") ?_ | refine pGet.mk (lenD_at (by walk_at "sto")) ?_ | refine pGet.mk (sqD_at (by walk_at "sto")) ?_ | refine pGet.mk (lsD_at (by walk_at "sto")) ?_ | refine pGet.mk (lsR_at (by walk_at "sto")) ?_ | refine pGet.mk (srcD_at (by walk_at "sto")) ?_ | refine pGet.mk (tyD_l (by walk_at "sto")) ?_)); (try (conv => whnf)))))
/-! the searches -/
open OR (eP nextsL Reach DInv DIn meas BInv BIn measB lastOf Wy Chn OIn Ord SLt)
abbrev zW (s : Str) : D := .z (.str s)
def PsOk (ps : List OR.Pr) : Prop := ∀ p ∈ ps, PyData.strOk p.1 = true ∧ PyData.strOk p.2 = true
theorem zsP (ps : List OR.Pr) : (ps.map eP).map bz = ps.map fun p => .z (eP p) := by rw [List.map_map]; rfl
theorem any_strs (x : Str) : ∀ ws : List Str, ((ws.map PyData.str).any fun z => PyData.eqv z (.str x)) = decide (x ∈ ws)
  | [] => by simp
  | w :: ws => by
    rw [List.map_cons, List.any_cons, any_strs x ws]
    have e : PyData.eqv (.str w) (.str x) = decide (w = x) := by
      simp [PyData.eqv]
      by_cases h : w = x <;> simp [h]
    rw [e]
    by_cases h : w = x
    · subst h; simp
    · have h2 : x ≠ w := fun z => h z.symm
      simp [h, h2]
theorem bInG_l {S : Sto} {n : Nat} {ws : List Str} {x : Str} {k : Bool → Prop} (h : S[n]? = some (.lst (ws.map zW))) (hx : PyData.strOk x = true) (hw : ∀ w ∈ ws, PyData.strOk w = true) (hk : k (decide (x ∈ ws))) : bInG (zW x) (.r n) S k := by
  refine ⟨.inl ⟨.str x, ws.map .str, .z, .r h (Vws.map _ _), (Shp.str (n := 1) hx).ok, (Shp.lists (n := 1) (f := PyData.str) fun w h => .str (hw w h)).ok, ?_⟩⟩
  rw [any_strs]; exact hk
/-- a dict of labels that have come -/
def comeD (ks : List Str) : List (Key × D) := ks.map fun k => (.inr k, .z (.bool true))
theorem has_come (ks : List Str) (w : Str) : hasD (comeD ks) (.inr w) = decide (w ∈ ks) := by
  unfold hasD comeD
  induction ks with
  | nil => simp
  | cons k ks ih =>
    rw [List.map_cons, List.any_cons, ih]
    by_cases h : k = w
    · subst h; simp
    · have h2 : w ≠ k := fun z => h z.symm
      have h3 : ¬ ((Sum.inr k : Key) = Sum.inr w) := fun z => h (Sum.inr.inj z)
      simp [h2, h3]
theorem put_come {ks : List Str} {w : Str} (h : w ∉ ks) : putD (comeD ks) (.inr w) (.z (.bool true)) = comeD (ks ++ [w]) := by
  unfold putD
  rw [has_come, if_neg (by rw [decide_eq_false h]; decide)]
  unfold comeD
  rw [List.map_append]; rfl
def F_nexts : Fsp := fsp (fun a : List OR.Pr × Str => [.list (a.1.map eP), .str a.2]) (fun a => PsOk a.1 ∧ a.1.length ≤ 1000) fun a => .list ((nextsL a.1 a.2).map .str)
theorem pu_nexts : ∀ ds S K KX, lent F_nexts ds S K KX → ws_nexts { nx := fun _ S1 => K (.z .none) S1, rt := K, ex := fun y _ S1 => KX y S1 } (startE nm_nexts ds) S := by
  refine fsp_ok fun ⟨ps, l⟩ ⟨hps, hlen⟩ K KX hk => ?_
  dsimp only at hps hlen hk
  walk_at "go"
  refine pFor_xs ps (fun p => .z (eP p)) (zsP ps) (fun i env S => ∃ v3 v4, env = [some (.b (.list (ps.map eP))), some (.z (.str l)), some (.r 0), v3, v4] ∧ S[0]? = some (.lst ((nextsL (ps.take i) l).map zW))) ⟨_, _, rfl, rfl⟩ (fun _ _ _ _ _ => trivial) ?_ ?_
  · rintro i p _ S Q hp ⟨v3, v4, rfl, hS⟩ hQ
    have hpm := List.mem_of_getElem? hp
    have e : nextsL (ps.take (i + 1)) l = if p.1 = l then OR.addN (nextsL (ps.take i) l) p.2 else nextsL (ps.take i) l := by
      rw [List.take_add_one, hp]; exact OR.nexts_snoc _ _ _
    have hn : ∀ w ∈ nextsL (ps.take i) l, PyData.strOk w = true := fun w hw => (hps _ (List.mem_of_mem_take (OR.nexts_mem.mp hw))).2
    have hl : (nextsL (ps.take i) l).length ≤ 1000 := by
      have := OR.nexts_len (ps := ps.take i) l
      rw [List.length_take] at this
      omega
    walk_at "go"
    refine pIf.mk (fun c => ?_) (fun c => ?_)
    · have c : p.1 = l := of_decide_eq_true c
      walk_at "go"
      refine bInG_l hS (hps p hpm).2 hn ?_
      walk_at "go"
      refine pIf.mk (fun c2 => ?_) (fun c2 => ?_)
      · have c2 : p.2 ∉ nextsL (ps.take i) l := fun z => by rw [decide_eq_true z] at c2; cases c2
        walk_at "go"
        refine hQ _ _ ⟨_, _, rfl, ?_⟩
        rw [e, if_pos c]
        unfold OR.addN
        rw [if_neg c2, List.map_append]
        exact List.getElem?_set_self (List.getElem?_eq_some_iff.mp hS).1
      · have c2 : p.2 ∈ nextsL (ps.take i) l := by
          by_cases z : p.2 ∈ nextsL (ps.take i) l
          · exact z
          · rw [decide_eq_false z] at c2; cases c2
        walk_at "go"
        refine hQ _ _ ⟨_, _, rfl, ?_⟩
        rw [e, if_pos c]
        unfold OR.addN
        rw [if_pos c2]; exact hS
    · have c : p.1 ≠ l := of_decide_eq_false c
      walk_at "go"
      refine hQ _ _ ⟨_, _, rfl, ?_⟩
      rw [e, if_neg c]; exact hS
  · rintro _ S ⟨v3, v4, rfl, hS⟩
    rw [List.take_length] at hS
    walk_at "go"
    exact hk _ _ (.r hS (Vzs.map _ _))
theorem zsW (ws : List Str) : (ws.map PyData.str).map D.z = ws.map zW := by rw [List.map_map]; rfl
theorem eqv_nil {α : Type} (f : α → PyData) (xs : List α) : PyData.eqv (.list (xs.map f)) (.list []) = decide (xs = []) := by cases xs <;> rfl
theorem reach_ok {ps : List OR.Pr} (h : PsOk ps) {a b : Str} (hr : Reach ps a b) : PyData.strOk b = true := by
  obtain ⟨c, hc⟩ := hr.snd
  exact (h _ hc).2
def F_below : Fsp := fsq (fun a : List OR.Pr × Str => [.list (a.1.map eP), .str a.2]) (fun a => PsOk a.1 ∧ PyData.strOk a.2 = true ∧ a.1.length ≤ 60) (fun a (ys : List Str) => ys.Pairwise SLt ∧ ∀ w, w ∈ ys ↔ Reach a.1 a.2 w) fun ys => .list (ys.map .str)
theorem pu_below : ∀ ds S K KX, lent F_below ds S K KX → ws_below (frz F_nexts) { nx := fun _ S1 => K (.z .none) S1, rt := K, ex := fun y _ S1 => KX y S1 } (startE nm_below ds) S := by
  refine fsq_ok fun ⟨ps, l⟩ ⟨hps, hok, hlen⟩ K KX hk => ?_
  dsimp only at hps hlen hok hk
  walk_at "go"
  refine pWhile_by (fun m env S => ∃ ks ws v4 v5, env = [some (.b (.list (ps.map eP))), some (.z (.str l)), some (.r 0), some (.r 1), v4, v5] ∧ S[0]? = some (.dic (comeD ks)) ∧ S[1]? = some (.lst (ws.map zW)) ∧ DInv ps l ks ws ∧ m = meas ps ks ws ∧ m ≤ 2 * ps.length + 1) _ ⟨[], [l], _, _, rfl, rfl, rfl, .start l, rfl, by unfold meas; simp⟩ ?_
  rintro m _ S Q ⟨ks, ws, v4, v5, rfl, h0, h1, hi, rfl, hmm⟩ hQ
  have hkl := hi.len
  have okW : ∀ w ∈ ws, PyData.strOk w = true := fun w hw => by
    rcases hi.wk w hw with rfl | z
    · exact hok
    · exact reach_ok hps (hi.re w z)
  walk_at "go"
  refine eq_dec (.r (sto_app h1) (Vws.map _ _)) (.r sto_last .nil) (n := 4) (.lists fun w hw => .mono (.str (n := 0) (okW w hw)) (by decide)) (.list fun d hd => by cases hd) (by decide) (eqv_nil _ _) ?_
  walk_at "go"
  refine pIf.mk (fun c => ?_) (fun c => ?_)
  · have hne : ws ≠ [] := fun z => by rw [z] at c; simp at c
    obtain ⟨ws0, here, rfl⟩ : ∃ u x, ws = u ++ [x] := ⟨ws.dropLast, ws.getLast hne, (List.dropLast_concat_getLast _).symm⟩
    have hh := hi.wk here (by simp)
    have okH := okW here (by simp)
    have h1 := sto_app (T := [Ob.lst []]) h1
    have h0 := sto_app (T := [Ob.lst []]) h0
    generalize S ++ [Ob.lst []] = S1 at h0 h1 ⊢
    have hlt := (List.getElem?_eq_some_iff.mp h1).1
    walk_at "go"
    refine pGet.mk (x := zW here) (by rw [List.map_append, List.length_append]; simp) ?_
    walk_at "go"
    rw [List.map_append, List.map_cons, List.map_nil, List.dropLast_concat]
    refine fsp_call (ps, here) (.cons .b (.cons .z .nil)) ⟨hps, by show ps.length ≤ 1000; omega⟩ ?_
    walk_at "go"
    have hnl := OR.nexts_len (ps := ps) here
    refine pFor_xs (nextsL ps here) zW (zsW _) (fun i env S => ∃ ks' ws' v5, env = [some (.b (.list (ps.map eP))), some (.z (.str l)), some (.r 0), some (.r 1), some (zW here), v5] ∧ S[0]? = some (.dic (comeD ks')) ∧ S[1]? = some (.lst (ws'.map zW)) ∧ DIn ps l here ks ws0 i ks' ws')
      ⟨ks, ws0, _, rfl, by rw [List.getElem?_set_ne (by decide)]; exact h0, List.getElem?_set_self hlt, hi.pop⟩ (fun _ _ _ _ _ => trivial) ?_ ?_
    · rintro i w _ S Q2 hw ⟨ks', ws', v5, rfl, g0, g1, hd⟩ hQ2
      have hk2 := OR.reach_len hd.nd hd.re
      have hm := hd.ms
      have hm0 : meas ps ks ws0 ≤ 2 * ps.length + ws0.length := by unfold meas; omega
      have hlt0 := (List.getElem?_eq_some_iff.mp g0).1
      have hlt1 := (List.getElem?_eq_some_iff.mp g1).1
      walk_at "go"
      rw [has_come]
      walk_at "go"
      refine pIf.mk (fun c2 => ?_) (fun c2 => ?_)
      · have c2 : w ∉ ks' := fun z => by rw [decide_eq_true z] at c2; cases c2
        have hcl : (comeD ks').length ≤ 60 := by unfold comeD; rw [List.length_map]; omega
        have g1' : ∀ o, (S.set 0 o)[1]? = some (.lst (ws'.map zW)) := fun o => by rw [List.getElem?_set_ne (by decide)]; exact g1
        have hwl : ws'.length ≤ 1000 := by unfold meas at hm hmm; simp at hmm; omega
        walk_at "go"
        refine pReq.mk (isTy_l (g1' _)) ?_
        walk_at "go"
        refine pGet.mk (lsR_at (g1' _)) ?_
        walk_at "go"
        have hN := hd.new hh hw c2
        refine hQ2 _ _ ⟨_, _, _, rfl, ?_, ?_, hN⟩
        · rw [List.getElem?_set_ne (by decide), List.getElem?_set_self hlt0, put_come c2]
        · rw [List.getElem?_set_self (by rw [List.length_set]; exact hlt1), List.map_append]; rfl
      · have c2 : w ∈ ks' := by
          by_cases z : w ∈ ks'
          · exact z
          · rw [decide_eq_false z] at c2; cases c2
        walk_at "go"
        exact hQ2 _ _ ⟨_, _, _, rfl, g0, g1, hd.old hw c2⟩
    · rintro _ S ⟨ks', ws', v5, rfl, g0, g1, hd⟩
      obtain ⟨a1, a2⟩ := hd.done hi
      exact hQ _ _ _ a2 ⟨_, _, _, _, rfl, g0, g1, a1, rfl, by omega⟩
  · have e : ws = [] := by
      cases ws with
      | nil => rfl
      | cons _ _ => simp at c
    subst e
    have hf := hi.fin
    walk_at "go"
    refine ⟨.inr ⟨0, comeD ks, ks, rfl, by unfold dcR; rw [sto_app h0], by unfold comeD; rw [List.map_map]; rfl, by omega, fun ys hp hs => ?_⟩⟩
    walk_at "go"
    exact hk _ _ ys (.r sto_last (Vzs.map _ _)) ⟨OR.strict_of (hp.nodup_iff.mpr hi.nd) hs, fun w => by rw [hp.mem_iff]; exact hf w⟩
end K27

set_option Elab.async false
set_option linter.all false
set_option maxRecDepth 100000
set_option maxHeartbeats 1000000
namespace K27
open PySem L2 PL NE
open ND (cutL_map cutL_len cutL_mem bz_ints LwN isNm alpha alpha_eq alpha_at getA ixD_zA ixD_bA app_list one_len getI getI_at getI_mem)
local macro_rules | `(tactic| walk_at "st1") => `(tactic| first | assumption | exact sto_last | exact sto_r0 | exact sto_r1 | exact sto_r2 | exact sto_r3 | exact sto_r4)
local macro_rules | `(tactic| walk_at "sto") => `(tactic| first | walk_at "st1" | exact sto_app (by walk_at "st1") | exact sto_app (sto_app (by walk_at "st1")))
local macro_rules | `(tactic| walk_at "sz") => `(tactic| ((try simp only [List.length_map, List.length_range, List.length_append, List.length_cons, List.length_nil]); omega))
local macro_rules | `(tactic| walk_at "go") => `(tactic| ((try (conv => whnf)); repeat ((first | (show pIf _ _ _; first | refine pIf.tt rfl ?_ | refine pIf.ff rfl ?_) | (show pReq _ _; first | refine pReq.mk rfl ?_ | refine pReq.mk (sz_le rfl) ?_ | refine pReq.mk (sz_lt rfl) ?_ | refine pReq.mk (by decide) ?_ | refine pReq.mk (Or.inr (by decide)) ?_ | refine pReq.mk (Or.inl (by decide)) ?_ | refine pReq.mk (by assumption) ?_ | refine pReq.mk (isTy_l (by walk_at "sto")) ?_ | refine pReq.mk (by omega) ?_ | refine pReq.mk (sz_lt6 (by walk_at "sz")) ?_ | refine pReq.mk (sz_le6 (by walk_at "sz")) ?_ | refine pReq.mk (by walk_at "sz") ?_) | (show pGet _ _; first | refine pGet.mk rfl ?_ | refine pGet.mk (by walk_at "sto") ?_ | refine pGet.mk (lenD_at (by walk_at "sto")) ?_ | refine pGet.mk (sqD_at (by walk_at "sto")) ?_ | refine pGet.mk (lsD_at (by walk_at "sto")) ?_ | refine pGet.mk (lsR_at (by walk_at "sto")) ?_ | refine pGet.mk (srcD_at (by walk_at "sto")) ?_ | refine pGet.mk (tyD_l (by walk_at "sto")) ?_)); (try (conv => whnf)))))
open OR (eP nextsL Reach DInv DIn meas BInv BIn measB lastOf Wy Chn OIn Ord SLt)
/-! never asked -/
def F_chain : Fsp := fsp (fun _ : Unit => [.none, .none, .none]) (fun _ => False) fun _ => .none
theorem pu_chain : ∀ ds S K KX, lent F_chain ds S K KX → ws_chain (frz F_nexts) { nx := fun _ S1 => K (.z .none) S1, rt := K, ex := fun y _ S1 => KX y S1 } (startE nm_chain ds) S := fsp_ok fun _ h _ _ _ => h.elim
def cellAt (ns : List Int) (k : Int) : Int := ns.getD k.toNat 0
def F_cell : Fsp := fsp (fun a : List Int × Int => [.list (a.1.map .int), .int a.2]) (fun a => 0 ≤ a.2) fun a => .int (cellAt a.1 a.2)
theorem pu_cell : ∀ ds S K KX, lent F_cell ds S K KX → ws__law_cell_at { nx := fun _ S1 => K (.z .none) S1, rt := K, ex := fun y _ S1 => KX y S1 } (startE nm__law_cell_at ds) S := by
  refine fsp_ok fun a h0 K KX hk => ?_
  walk_at "go"
  rw [List.length_map]
  refine pIf.mk (fun c => ?_) (fun c => ?_)
  · have h1 : a.2 < a.1.length := of_decide_eq_true c
    walk_at "go"
    refine pGet.mk (ixD_bL (atD_in h0 h1)) ?_
    walk_at "go"
    refine hk _ _ ?_
    have e : cellAt a.1 a.2 = a.1[a.2.toNat]'(by omega) := by
      unfold cellAt
      rw [List.getD_eq_getElem?_getD, List.getElem?_eq_getElem (by omega)]; rfl
    rw [e]; exact .z
  · have h1 : ¬ a.2 < a.1.length := of_decide_eq_false c
    walk_at "go"
    refine hk _ _ ?_
    have e : cellAt a.1 a.2 = 0 := by
      unfold cellAt
      rw [List.getD_eq_getElem?_getD, List.getElem?_eq_none (by omega)]; rfl
    rw [e]; exact .z
def F_labels_ahead : Fsp := fsq (fun ps : List OR.Pr => [.list (ps.map eP)]) (fun ps => PsOk ps ∧ ps.length ≤ 60) (fun ps (ys : List Str) => ys.Pairwise SLt ∧ ∀ k, k ∈ ys ↔ k ∈ ps.map (·.1)) fun ys => .list (ys.map .str)
theorem pu_labels_ahead : ∀ ds S K KX, lent F_labels_ahead ds S K KX → ws_labels_ahead { nx := fun _ S1 => K (.z .none) S1, rt := K, ex := fun y _ S1 => KX y S1 } (startE nm_labels_ahead ds) S := by
  refine fsq_ok fun ps ⟨hps, hlen⟩ K KX hk => ?_
  walk_at "go"
  refine pLc_allE ps (fun p => .z (eP p)) (fun p => zW p.1) (zsP ps) (by omega) (fun _ => trivial) (fun p hp => ⟨_, rfl, fun S1 K _ h => ?_⟩) ?_
  · walk_at "go"
    exact h
  walk_at "go"
  refine ⟨ps.map (·.1), by rw [List.map_map]; rfl, pReq.mk (by rw [List.length_map]; omega) fun ys hm hs => ?_⟩
  walk_at "go"
  exact hk _ _ ys (.r sto_last (Vzs.map _ _)) ⟨OR.strict_of hm.1 hs, hm.2⟩
def Acyc (ps : List OR.Pr) : Prop := ∀ a, ¬ Reach ps a a
abbrev zP (p : OR.Pr) : D := .z (eP p)
def F_order_of : Fsr := fsrq (fun ps : List OR.Pr => [.list (ps.map eP)]) (fun ps => PsOk ps ∧ ps.length ≤ 60 ∧ Acyc ps) (fun ps (rs : List OR.Pr) => Ord ps rs ∧ rs.length ≤ 3600) fun rs => lz eP rs
theorem pu_order_of : ∀ ds S K KX, lentR F_order_of ds S K KX → ws_order_of (frz F_labels_ahead) (frz F_below) (frz F_chain) { nx := fun _ S1 => K (.z .none) S1, rt := K, ex := fun y _ S1 => KX y S1 } (startE nm_order_of ds) S := by
  refine fsrq_ok fun ps ⟨hps, hlen, hac⟩ K KX hk => ?_
  walk_at "go"
  refine fsq_call ps (.cons .b .nil) ⟨hps, hlen⟩ fun ys ⟨hy1, hy2⟩ => ?_
  walk_at "go"
  have hyl : ys.length ≤ 60 := by
    have := OR.nodup_le (a := ys) (b := ps.map (·.1)) (OR.SLt.nodup hy1) fun x hx => (hy2 x).mp hx
    rw [List.length_map] at this
    omega
  refine pFor_xs ys zW (zsW _) (fun i env S => ∃ v2 v3 rs, env = [some (.b (.list (ps.map eP))), some (.r 0), v2, v3, none] ∧ S[0]? = some (.lst (rs.map zP)) ∧ OIn ps (ys.take i) rs ∧ rs.length ≤ 60 * i) ⟨_, _, [], rfl, rfl, ⟨List.Pairwise.nil, fun a b => by simp⟩, Nat.zero_le _⟩ (fun _ _ _ _ _ => trivial) ?_ ?_
  · rintro i y _ S Q hy ⟨v2, v3, rs, rfl, h0, ho, hrl⟩ hQ
    have hym := List.mem_of_getElem? hy
    have hi := (List.getElem?_eq_some_iff.mp hy).1
    obtain ⟨z, hz⟩ := List.mem_map.mp ((hy2 y).mp hym)
    have hyok : PyData.strOk y = true := by rw [← hz.2]; exact (hps z hz.1).1
    walk_at "go"
    refine fsq_call (ps, y) (.cons .b (.cons .z .nil)) ⟨hps, hyok, hlen⟩ fun bs ⟨hb1, hb2⟩ => ?_
    dsimp only at hb2
    have hbl : bs.length ≤ 60 := by
      have := OR.nodup_le (a := bs) (b := ps.map (·.2)) (OR.SLt.nodup hb1) fun x hx => by
        obtain ⟨c, hc⟩ := ((hb2 x).mp hx).snd
        exact List.mem_map.mpr ⟨_, hc, rfl⟩
      rw [List.length_map] at this
      omega
    walk_at "go"
    refine pFor_xs bs zW (zsW _) (fun j env S => ∃ v3, env = [some (.b (.list (ps.map eP))), some (.r 0), some (zW y), v3, none] ∧ S[0]? = some (.lst ((rs ++ (bs.take j).map fun b => (y, b)).map zP))) ⟨_, rfl, by simpa using h0⟩ (fun _ _ _ _ _ => trivial) ?_ ?_
    · rintro j b _ S Q2 hb ⟨v3, rfl, h0⟩ hQ2
      have hbm := List.mem_of_getElem? hb
      have hne : b ≠ y := fun e => by
        rw [e] at hbm
        exact hac y ((hb2 y).mp hbm)
      have hlt := (List.getElem?_eq_some_iff.mp h0).1
      have hll : ((rs ++ (bs.take j).map fun b => (y, b)).map zP).length ≤ 10000 := by
        rw [List.length_map, List.length_append, List.length_map, List.length_take]
        omega
      walk_at "go"
      refine pIf.ff (decide_eq_false hne) ?_
      walk_at "go"
      refine pReq.mk (sz_lt6 (by omega)) ?_
      walk_at "go"
      refine hQ2 _ _ ⟨_, rfl, ?_⟩
      rw [List.getElem?_set_self hlt, List.take_add_one, hb]
      simp only [Option.toList_some, List.map_append, List.map_cons, List.map_nil, List.append_assoc]
      rfl
    · rintro _ S ⟨v3, rfl, h0⟩
      rw [List.take_length] at h0
      have hN := ho.next (y := y) (bs := bs) (fun d hd => ?_) hb1 hb2
      · refine hQ _ _ ⟨_, _, _, rfl, h0, ?_, ?_⟩
        · rw [List.take_add_one, hy]; exact hN
        · rw [List.length_append, List.length_map]; omega
      · obtain ⟨k, hk1, hk2⟩ := List.mem_take_iff_getElem.mp hd
        have := List.pairwise_iff_getElem.mp hy1 k i (by omega) hi (by omega)
        rw [hk2] at this
        rw [(List.getElem?_eq_some_iff.mp hy).2] at this
        exact this
  · rintro _ S ⟨v2, v3, rs, rfl, h0, ho, hrl⟩
    rw [List.take_length] at ho
    walk_at "go"
    exact hk _ _ rs [0] (.l (ns := []) h0 (VRs.zs _ _)) (by simp) ⟨ho.fin hy2, by omega⟩
end K27

set_option Elab.async false
set_option linter.all false
set_option maxRecDepth 100000
set_option maxHeartbeats 1000000
namespace K27
open PySem L2 PL NE
open ND (cutL_map cutL_len cutL_mem bz_ints LwN isNm alpha alpha_eq alpha_at getA ixD_zA ixD_bA app_list one_len getI getI_at getI_mem)
local macro_rules | `(tactic| walk_at "st1") => `(tactic| first | assumption | exact sto_last | exact sto_r0 | exact sto_r1 | exact sto_r2 | exact sto_r3 | exact sto_r4)
local macro_rules | `(tactic| walk_at "sto") => `(tactic| first | walk_at "st1" | exact sto_app (by walk_at "st1") | exact sto_app (sto_app (by walk_at "st1")))
local macro_rules | `(tactic| walk_at "sz") => `(tactic| ((try simp only [List.length_map, List.length_range, List.length_append, List.length_cons, List.length_nil]); omega))
local macro_rules | `(tactic| walk_at "go") => `(tactic| ((try (conv => whnf)); repeat ((first | (show pIf _ _ _; first | refine pIf.tt rfl ?_ | refine pIf.ff rfl ?_) | (show pReq _ _; first | refine pReq.mk rfl ?_ | refine pReq.mk (sz_le rfl) ?_ | refine pReq.mk (sz_lt rfl) ?_ | refine pReq.mk (by decide) ?_ | refine pReq.mk (Or.inr (by decide)) ?_ | refine pReq.mk (Or.inl (by decide)) ?_ | refine pReq.mk (by assumption) ?_ | refine pReq.mk (isTy_l (by walk_at "sto")) ?_ | refine pReq.mk (by omega) ?_ | refine pReq.mk (sz_lt6 (by walk_at "sz")) ?_ | refine pReq.mk (sz_le6 (by walk_at "sz")) ?_ | refine pReq.mk (by walk_at "sz") ?_) | (show pGet _ _; first | refine pGet.mk rfl ?_ | refine pGet.mk (by walk_at "sto") ?_ | refine pGet.mk (lenD_at (by walk_at "sto")) ?_ | refine pGet.mk (sqD_at (by walk_at "sto")) ?_ | refine pGet.mk (lsD_at (by walk_at "sto")) ?_ | refine pGet.mk (lsR_at (by walk_at "sto")) ?_ | refine pGet.mk (srcD_at (by walk_at "sto")) ?_ | refine pGet.mk (tyD_l (by walk_at "sto")) ?_)); (try (conv => whnf)))))
open OR (eP nextsL Reach DInv DIn meas BInv BIn measB lastOf Wy Chn OIn Ord SLt)
open TB (XSt eG zG eSt XTab eTab rSt rTab bzSt ScIn ScsIn cps)
open NE (scD plcs emp emp_len emp_snoc emp_plcs)
/-! tables -/
def smallT (a : List XSt × List OR.Pr) : Prop := a.1.length ≤ 8 ∧ a.2.length ≤ 40 ∧ ∀ s ∈ a.1, s.1.length ≤ 8 ∧ s.2.length ≤ 8
theorem bz_sts (ss : List XSt) : (ss.map eSt).map bz = ss.map fun s => bz (eSt s) := List.map_map
theorem zsG (gs : List (Str × Int)) : (gs.map eG).map bz = gs.map zG := by rw [List.map_map]; rfl
def F_too_great : Fsp := fsp (fun a : List XSt × List OR.Pr => [.list (a.1.map eSt), .list (a.2.map eP)]) smallT fun _ => .bool false
theorem pu_too_great : ∀ ds S K KX, lent F_too_great ds S K KX → ws_too_great { nx := fun _ S1 => K (.z .none) S1, rt := K, ex := fun y _ S1 => KX y S1 } (startE nm_too_great ds) S := by
  refine fsp_ok fun ⟨ss, ps⟩ ⟨h1, h2, h3⟩ K KX hk => ?_
  dsimp only at h1 h2 h3 hk
  walk_at "go"
  refine pIf.ff (decide_eq_false (by rw [List.length_map]; show ¬ ((ss.length : Nat) : Int) > 8; omega)) ?_
  walk_at "go"
  refine pIf.ff (decide_eq_false (by rw [List.length_map]; show ¬ ((ps.length : Nat) : Int) > 40; omega)) ?_
  walk_at "go"
  refine pFor_allB ss (fun s => bz (eSt s)) (fun _ => true) (fun env => ∃ v2 v3, env = [some (.b (.list (ss.map eSt))), some (.b (.list (ps.map eP))), v2, v3]) (bz_sts ss) trivial ⟨_, _, rfl⟩ ?_ ?_ ?_
  · rintro s _ Q hs ⟨v2, v3, rfl⟩ g1 g2
    have := h3 s hs
    rw [bzSt]
    walk_at "go"
    refine pIf.ff (decide_eq_false (by rw [List.length_map]; omega)) ?_
    walk_at "go"
    refine pIf.ff (decide_eq_false (by rw [List.length_map]; omega)) ?_
    walk_at "go"
    exact g1 rfl _ ⟨_, _, rfl⟩
  · rintro _ _ ⟨v2, v3, rfl⟩
    walk_at "go"
    exact hk _ _ .z
  · intro h; simp at h
/-- all labels that stand in it -/
def labsS (ss : List XSt) : List Str := ss.flatMap fun s => s.1.map (·.1) ++ s.2
def labsP (ps : List OR.Pr) : List Str := ps.flatMap fun p => [p.1, p.2]
theorem labsS_len {ss : List XSt} (h : ∀ s ∈ ss, s.1.length ≤ 8 ∧ s.2.length ≤ 8) : (labsS ss).length ≤ 16 * ss.length := by
  induction ss with
  | nil => exact Nat.le_refl _
  | cons s ss ih =>
    have h1 := h s List.mem_cons_self
    have h2 := ih fun u hu => h u (List.mem_cons_of_mem _ hu)
    show ((s.1.map (·.1) ++ s.2) ++ labsS ss).length ≤ _
    rw [List.length_append, List.length_append, List.length_map, List.length_cons]
    omega
theorem labsP_len (ps : List OR.Pr) : (labsP ps).length = 2 * ps.length := by
  induction ps with
  | nil => rfl
  | cons p ps ih =>
    show ([p.1, p.2] ++ labsP ps).length = _
    rw [List.length_append, ih, List.length_cons]
    simp; omega
def F_labels_in : Fsp := fsp (fun a : List XSt × List OR.Pr => [.list (a.1.map eSt), .list (a.2.map eP)]) smallT fun a => .list ((labsS a.1 ++ labsP a.2).map .str)
theorem pu_labels_in : ∀ ds S K KX, lent F_labels_in ds S K KX → ws_labels_in { nx := fun _ S1 => K (.z .none) S1, rt := K, ex := fun y _ S1 => KX y S1 } (startE nm_labels_in ds) S := by
  refine fsp_ok fun ⟨ss, ps⟩ ⟨h1, h2, h3⟩ K KX hk => ?_
  dsimp only at h1 h2 h3 hk
  walk_at "go"
  refine pFor_xs ss (fun s => bz (eSt s)) (bz_sts ss) (fun i env S => ∃ v3 v4, env = [some (.b (.list (ss.map eSt))), some (.b (.list (ps.map eP))), some (.r 0), v3, v4, none, none, none, none] ∧ S[0]? = some (.lst ((labsS (ss.take i)).map zW))) ⟨_, _, rfl, rfl⟩ (fun _ _ _ _ _ => trivial) ?_ ?_
  · rintro i s _ S Q hs ⟨v3, v4, rfl, h0⟩ hQ
    have hi := (List.getElem?_eq_some_iff.mp hs).1
    have hsl := h3 s (List.mem_of_getElem? hs)
    have hl := labsS_len (ss := ss.take i) fun u hu => h3 u (List.mem_of_mem_take hu)
    rw [List.length_take] at hl
    have hlt := (List.getElem?_eq_some_iff.mp h0).1
    rw [bzSt]
    walk_at "go"
    refine pLc_allE s.1 zG (fun g => zW g.1) (zsG s.1) (by omega) (fun _ => trivial) (fun g hg => ⟨_, rfl, fun S1 K _ h => ?_⟩) ?_
    · walk_at "go"
      exact h
    have h0 := sto_app (T := [Ob.lst (s.1.map fun g => zW g.1)]) h0
    have hc : (S ++ [Ob.lst (s.1.map fun g => zW g.1)])[S.length]? = some (.lst (s.1.map fun g => zW g.1)) := sto_last
    generalize S ++ [Ob.lst (s.1.map fun g => zW g.1)] = S1 at h0 hc ⊢
    have hlt1 := (List.getElem?_eq_some_iff.mp h0).1
    have hm : (s.1.map fun g => zW g.1) = (s.1.map (·.1)).map zW := by rw [List.map_map]; rfl
    walk_at "go"
    rw [hm]
    have h5 : ∀ o, (S1.set 0 o)[0]? = some o := fun o => List.getElem?_set_self hlt1
    refine pReq.mk (isTy_l (h5 _)) ?_
    walk_at "go"
    refine pGet.mk (lsR_at (h5 _)) ?_
    walk_at "go"
    refine hQ _ _ ⟨_, _, rfl, ?_⟩
    rw [List.getElem?_set_self (by rw [List.length_set]; exact hlt1), List.take_add_one, hs]
    unfold labsS
    rw [List.flatMap_append, ← List.map_append]
    have e : (s.2.map PyData.str).map bz = s.2.map zW := by rw [List.map_map]; rfl
    rw [e, ← List.map_append, List.append_assoc]
    simp
  · rintro _ S ⟨v3, v4, rfl, h0⟩
    rw [List.take_length] at h0
    have hl := labsS_len h3
    walk_at "go"
    refine pFor_xs ps zP (zsP ps) (fun i env S => ∃ v5 v6, env = [some (.b (.list (ss.map eSt))), some (.b (.list (ps.map eP))), some (.r 0), v3, v4, v5, v6, none, none] ∧ S[0]? = some (.lst ((labsS ss ++ labsP (ps.take i)).map zW))) ⟨_, _, rfl, by simpa [labsP] using h0⟩ (fun _ _ _ _ _ => trivial) ?_ ?_
    · rintro i p _ S Q hp ⟨v5, v6, rfl, h0⟩ hQ
      have hi := (List.getElem?_eq_some_iff.mp hp).1
      have hlt := (List.getElem?_eq_some_iff.mp h0).1
      have hpl := labsP_len (ps.take i)
      rw [List.length_take] at hpl
      have hll : ((labsS ss ++ labsP (ps.take i)).map zW).length ≤ 1000 := by rw [List.length_map, List.length_append]; omega
      have h5 : ∀ o, (S.set 0 o)[0]? = some o := fun o => List.getElem?_set_self hlt
      walk_at "go"
      refine pReq.mk (isTy_l (h5 _)) ?_
      walk_at "go"
      refine pGet.mk (lsR_at (h5 _)) ?_
      walk_at "go"
      refine hQ _ _ ⟨_, _, rfl, ?_⟩
      rw [List.getElem?_set_self (by rw [List.length_set]; exact hlt), List.take_add_one, hp]
      unfold labsP
      simp
    · rintro _ S ⟨v5, v6, rfl, h0⟩
      rw [List.take_length] at h0
      walk_at "go"
      exact hk _ _ (.r h0 (Vzs.map _ _))
def numsS (ss : List XSt) : List Int := ss.flatMap fun s => s.1.map (·.2)
theorem numsS_len {ss : List XSt} (h : ∀ s ∈ ss, s.1.length ≤ 8 ∧ s.2.length ≤ 8) : (numsS ss).length ≤ 8 * ss.length := by
  induction ss with
  | nil => exact Nat.le_refl _
  | cons s ss ih =>
    have h1 := h s List.mem_cons_self
    have h2 := ih fun u hu => h u (List.mem_cons_of_mem _ hu)
    show (s.1.map (·.2) ++ numsS ss).length ≤ _
    rw [List.length_append, List.length_map, List.length_cons]
    omega
abbrev zI (i : Int) : D := .z (.int i)
def F_numbers_in : Fsp := fsp (fun a : List XSt × Int => [.list (a.1.map eSt), .int a.2]) (fun a => smallT (a.1, [])) fun a => .list ((a.2 :: numsS a.1).map .int)
theorem pu_numbers_in : ∀ ds S K KX, lent F_numbers_in ds S K KX → ws_numbers_in { nx := fun _ S1 => K (.z .none) S1, rt := K, ex := fun y _ S1 => KX y S1 } (startE nm_numbers_in ds) S := by
  refine fsp_ok fun ⟨ss, n⟩ ⟨h1, _, h3⟩ K KX hk => ?_
  dsimp only at h1 h3 hk
  walk_at "go"
  refine pFor_xs ss (fun s => bz (eSt s)) (bz_sts ss) (fun i env S => ∃ v3 v4, env = [some (.b (.list (ss.map eSt))), some (.z (.int n)), some (.r 0), v3, v4, none, none] ∧ S[0]? = some (.lst ((n :: numsS (ss.take i)).map zI))) ⟨_, _, rfl, rfl⟩ (fun _ _ _ _ _ => trivial) ?_ ?_
  · rintro i s _ S Q hs ⟨v3, v4, rfl, h0⟩ hQ
    have hi := (List.getElem?_eq_some_iff.mp hs).1
    have hsl := h3 s (List.mem_of_getElem? hs)
    have hl := numsS_len (ss := ss.take i) fun u hu => h3 u (List.mem_of_mem_take hu)
    rw [List.length_take] at hl
    rw [bzSt]
    walk_at "go"
    refine pLc_allE s.1 zG (fun g => zI g.2) (zsG s.1) (by omega) (fun _ => trivial) (fun g hg => ⟨_, rfl, fun S1 K _ h => ?_⟩) ?_
    · walk_at "go"
      exact h
    have h0 := sto_app (T := [Ob.lst (s.1.map fun g => zI g.2)]) h0
    have hc : (S ++ [Ob.lst (s.1.map fun g => zI g.2)])[S.length]? = some (.lst (s.1.map fun g => zI g.2)) := sto_last
    generalize S ++ [Ob.lst (s.1.map fun g => zI g.2)] = S1 at h0 hc ⊢
    have hlt1 := (List.getElem?_eq_some_iff.mp h0).1
    have hm : (s.1.map fun g => zI g.2) = (s.1.map (·.2)).map zI := by rw [List.map_map]; rfl
    walk_at "go"
    rw [hm]
    refine hQ _ _ ⟨_, _, rfl, ?_⟩
    rw [List.getElem?_set_self hlt1, List.take_add_one, hs]
    unfold numsS
    rw [List.flatMap_append, ← List.map_append]
    simp
  · rintro _ S ⟨v3, v4, rfl, h0⟩
    rw [List.take_length] at h0
    walk_at "go"
    exact hk _ _ (.r h0 (Vzs.map _ _))
theorem same_len {ws ys : List Str} (h : ws.Nodup) (k : SameMem ys ws) : ys.length = ws.length := Nat.le_antisymm (OR.nodup_le k.1 fun x hx => (k.2 x).mp hx) (OR.nodup_le h fun x hx => (k.2 x).mpr hx)
def F_has_double : Fsp := fsp (fun ws : List Str => [.list (ws.map .str)]) (fun ws => ws.Nodup ∧ ws.length < 64) fun _ => .bool false
theorem pu_has_double : ∀ ds S K KX, lent F_has_double ds S K KX → ws_has_double { nx := fun _ S1 => K (.z .none) S1, rt := K, ex := fun y _ S1 => KX y S1 } (startE nm_has_double ds) S := by
  refine fsp_ok fun ws ⟨hn, hl⟩ K KX hk => ?_
  walk_at "go"
  refine ⟨ws, by rw [List.map_map]; rfl, pReq.mk hl fun ys hy => ?_⟩
  walk_at "go"
  rw [List.length_map, same_len hn hy, decide_eq_false (by omega)]
  exact hk _ _ .z
def isNameB (x : Str) : Bool := decide (1 ≤ x.length) && (decide (x.length ≤ 8) && x.cps.toList.all fun c => decide (c ∈ alpha))
def F_is_name : Fsp := fsp (fun x : Str => [.str x]) (fun x => x.length ≤ 1000000) fun x => .bool (isNameB x)
theorem pu_is_name : ∀ ds S K KX, lent F_is_name ds S K KX → ws_is_name { nx := fun _ S1 => K (.z .none) S1, rt := K, ex := fun y _ S1 => KX y S1 } (startE nm_is_name ds) S := by
  refine fsp_ok fun x hx K KX hk => ?_
  unfold isNameB at hk
  walk_at "go"
  refine pIf.mk (fun c => ?_) (fun c => ?_)
  · have c := of_decide_eq_true c
    rw [show decide (1 ≤ x.length) = false from decide_eq_false (by omega)] at hk
    walk_at "go"
    exact hk _ _ .z
  · have c := of_decide_eq_false c
    rw [show decide (1 ≤ x.length) = true from decide_eq_true (by omega), Bool.true_and] at hk
    walk_at "go"
    refine pIf.mk (fun c => ?_) (fun c => ?_)
    · have c := of_decide_eq_true c
      rw [show decide (x.length ≤ 8) = false from decide_eq_false (by omega)] at hk
      walk_at "go"
      exact hk _ _ .z
    · have c := of_decide_eq_false c
      rw [show decide (x.length ≤ 8) = true from decide_eq_true (by omega), Bool.true_and] at hk
      walk_at "go"
      refine pFor_allB x.cps.toList (fun c => .z (.str ⟨⟨[c]⟩⟩)) (fun c => decide (c ∈ alpha)) (fun env => ∃ v, env = [some (.z (.str x)), v]) rfl trivial ⟨_, rfl⟩ ?_ ?_ ?_
      · rintro c _ Q hc ⟨v, rfl⟩ h1 h2
        walk_at "go"
        rw [alpha_eq]
        refine pIf.mk (fun q => ?_) (fun q => ?_)
        · walk_at "go"
          refine h2 ?_
          revert q
          cases decide (c ∈ alpha) <;> simp
        · walk_at "go"
          refine h1 ?_ _ ⟨_, rfl⟩
          revert q
          cases decide (c ∈ alpha) <;> simp
      · rintro ha _ ⟨v, rfl⟩
        walk_at "go"
        rw [ha] at hk
        exact hk _ _ .z
      · intro hf
        rw [hf] at hk
        exact hk _ _ .z
end K27

set_option Elab.async false
set_option linter.all false
set_option maxRecDepth 100000
set_option maxHeartbeats 1000000
namespace K27
open PySem L2 PL NE
open ND (cutL_map cutL_len cutL_mem bz_ints LwN isNm alpha alpha_eq alpha_at getA ixD_zA ixD_bA app_list one_len getI getI_at getI_mem)
local macro_rules | `(tactic| walk_at "st1") => `(tactic| first | assumption | exact sto_last | exact sto_r0 | exact sto_r1 | exact sto_r2 | exact sto_r3 | exact sto_r4)
local macro_rules | `(tactic| walk_at "sto") => `(tactic| first | walk_at "st1" | exact sto_app (by walk_at "st1") | exact sto_app (sto_app (by walk_at "st1")))
local macro_rules | `(tactic| walk_at "sz") => `(tactic| ((try simp only [List.length_map, List.length_range, List.length_append, List.length_cons, List.length_nil]); omega))
local macro_rules | `(tactic| walk_at "go") => `(tactic| ((try (conv => whnf)); repeat ((first | (show pIf _ _ _; first | refine pIf.tt rfl ?_ | refine pIf.ff rfl ?_) | (show pReq _ _; first | refine pReq.mk rfl ?_ | refine pReq.mk (sz_le rfl) ?_ | refine pReq.mk (sz_lt rfl) ?_ | refine pReq.mk (by decide) ?_ | refine pReq.mk (Or.inr (by decide)) ?_ | refine pReq.mk (Or.inl (by decide)) ?_ | refine pReq.mk (by assumption) ?_ | refine pReq.mk (isTy_l (by walk_at "sto")) ?_ | refine pReq.mk (by omega) ?_ | refine pReq.mk (sz_lt6 (by walk_at "sz")) ?_ | refine pReq.mk (sz_le6 (by walk_at "sz")) ?_ | refine pReq.mk (by walk_at "sz") ?_) | (show pGet _ _; first | refine pGet.mk rfl ?_ | refine pGet.mk (by walk_at "sto") ?_ | refine pGet.mk (lenD_at (by walk_at "sto")) ?_ | refine pGet.mk (sqD_at (by walk_at "sto")) ?_ | refine pGet.mk (lsD_at (by walk_at "sto")) ?_ | refine pGet.mk (lsR_at (by walk_at "sto")) ?_ | refine pGet.mk (srcD_at (by walk_at "sto")) ?_ | refine pGet.mk (tyD_l (by walk_at "sto")) ?_)); (try (conv => whnf)))))
open OR (eP nextsL Reach DInv DIn meas BInv BIn measB lastOf Wy Chn OIn Ord SLt)
open TB (XSt eG zG eSt XTab eTab rSt rTab bzSt ScIn ScsIn cps cps_app cps_len cps_in)
open NE (scD plcs emp emp_len emp_snoc emp_plcs)
theorem sort_z {α : Type} {f : α → PyData} {xs : List α} {S : Sto} {x : D} {K : K1} (h : lsD S x = some (xs.map fun a => .z (f a))) (al : PySem.W.AllAlike (xs.map f)) (so : PySem.W.Sortable (xs.map f)) (dp : ∀ a ∈ xs, (f a).depth ≤ 64) (sz : xs.length ≤ sizeLine)
    (k : K (.r S.length) (S ++ [.lst ((xs.mergeSort (PySem.W.dataLe false f)).map fun a => .z (f a))])) : SortOk S x K := by
  have e2 : (xs.map fun a => (D.z (f a), f a)).map (·.2) = xs.map f := by rw [List.map_map]; rfl
  refine ⟨.inl ⟨xs.map fun a => (.z (f a), f a), ⟨by rw [h, List.map_map]; rfl, fun b hb => ?_, by rw [e2]; exact al, by rw [e2]; exact so, fun b hb => ?_, by rw [List.length_map]; exact sz⟩, ?_⟩⟩
  · obtain ⟨a, _, rfl⟩ := List.mem_map.mp hb
    exact .z
  · obtain ⟨a, ha, rfl⟩ := List.mem_map.mp hb
    exact dp a ha
  · have e : ((sortB (xs.map fun a => (D.z (f a), f a))).map (·.1)) = (xs.mergeSort (PySem.W.dataLe false f)).map fun a => .z (f a) := by
      unfold sortB
      rw [← List.map_mergeSort (f := fun a => (D.z (f a), f a)) (r := PySem.W.dataLe false f) (l := xs) (fun a _ b _ => rfl), List.map_map]
      rfl
    rw [e]; exact k
def sortG (gs : List (Str × Int)) : List (Str × Int) := gs.mergeSort (PySem.W.dataLe false eG)
def sortW (ws : List Str) : List Str := ws.mergeSort (PySem.W.dataLe false PyData.str)
def sortSt (s : XSt) : XSt := (sortG s.1, sortW s.2)
theorem alG (gs : List (Str × Int)) : PySem.W.AllAlike (gs.map eG) := .of fun a b => by simp [eG, PySem.W.alike, PySem.W.alikeAll]
theorem alW (ws : List Str) : PySem.W.AllAlike (ws.map PyData.str) := .of fun a b => by simp [PySem.W.alike]
theorem sort_g {gs : List (Str × Int)} {S : Sto} {x : D} {K : K1} (h : lsD S x = some (gs.map zG)) (hl : gs.length ≤ 1000) (k : K (.r S.length) (S ++ [.lst ((sortG gs).map zG)])) : SortOk S x K :=
  sort_z h (alG gs) (.tuples fun g => ⟨_, _, rfl⟩) (fun g _ => by simp [eG, PyData.depth, PyData.depthAll]) (sz_le6 (by omega)) k
theorem sort_w {ws : List Str} {S : Sto} {x : D} {K : K1} (h : lsD S x = some (ws.map zW)) (hl : ws.length ≤ 1000) (k : K (.r S.length) (S ++ [.lst ((sortW ws).map zW)])) : SortOk S x K :=
  sort_z h (alW ws) (.others fun w => ⟨by simp, fun _ => by simp⟩) (fun w _ => by simp [PyData.depth]) (sz_le6 (by omega)) k
theorem is_ok {x : Str} (h : isNameB x = true) : PyData.strOk x = true ∧ x.length ≤ 8 := by
  unfold isNameB at h
  simp only [Bool.and_eq_true, decide_eq_true_eq, List.all_eq_true] at h
  refine ⟨?_, h.2.1⟩
  unfold PyData.strOk
  rw [Array.all_eq_true']
  intro c hc
  have h2 := h.2.2 c (Array.mem_toList_iff.mpr hc)
  have h3 : ∀ c ∈ alpha, c < 200 := by decide
  have := h3 c h2
  simp; omega
structure TabOk (a : List XSt × Int × List OR.Pr) : Prop where
  sm : smallT (a.1, a.2.2)
  nm : ∀ l ∈ labsS a.1 ++ labsP a.2.2, isNameB l = true
  nu : ∀ n ∈ a.2.1 :: numsS a.1, 0 ≤ n ∧ n < a.1.length
  db : ∀ s ∈ a.1, (s.1.map (·.1)).Nodup ∧ s.2.Nodup
  ac : Acyc a.2.2
theorem TabOk.ps {a : List XSt × Int × List OR.Pr} (h : TabOk a) : PsOk a.2.2 := fun p hp => by
  have h1 : ∀ l ∈ [p.1, p.2], l ∈ labsP a.2.2 := fun l hl => List.mem_flatMap.mpr ⟨p, hp, hl⟩
  exact ⟨(is_ok (h.nm _ (List.mem_append_right _ (h1 p.1 (by simp))))).1, (is_ok (h.nm _ (List.mem_append_right _ (h1 p.2 (by simp))))).1⟩
def F_table_of : Fsr := fsrq (fun a : List XSt × Int × List OR.Pr => [.list (a.1.map eSt), .int a.2.1, .list (a.2.2.map eP)]) TabOk (fun a (t : XTab) => t.states = a.1.map sortSt ∧ t.inner = a.2.1 ∧ Ord a.2.2 t.order) rTab
theorem pLc_sorts {ss : List XSt} (h8 : ∀ s ∈ ss, s.1.length ≤ 8 ∧ s.2.length ≤ 8) (hz : ss.length ≤ 8) {env : PL.Env} {fin : Sto → Prop} {S : Sto} {src : Src} (e : src.items = ss.map fun s => bz (eSt s)) (hok : ∀ S, src.ok S) (ha : ∀ x y, ((env.set 6 (some x)).set 7 (some y))[6]? = some (some x)) (hb : ∀ x y, ((env.set 6 (some x)).set 7 (some y))[7]? = some (some y))
    (hf : fin (S ++ .lst ((emp (S.length + 1) ss.length).map scD) :: cps (ss.map sortSt))) : pLc src (tgT [6, 7]) wYes table_of_e2 S.length env fin src.items (S ++ [.lst []]) := by
  have hlen : src.items.length = ss.length := by rw [e, List.length_map]
  refine pLc_each (fun j S' => j ≤ ss.length ∧ S' = S ++ .lst ((emp (S.length + 1) j).map scD) :: cps ((ss.take j).map sortSt)) ⟨Nat.zero_le _, rfl⟩ (fun _ _ _ _ => hok _) ?_ ?_
  · rintro j d _ Q hj ⟨_, rfl⟩ hQ
    rw [e, List.getElem?_map] at hj
    have hlt : j < ss.length := by
      rcases Nat.lt_or_ge j ss.length with z | z
      · exact z
      · rw [List.getElem?_eq_none z] at hj; cases hj
    have hs := List.getElem?_eq_getElem hlt
    have hsm := List.getElem_mem hlt
    generalize ss[j] = s at hs hsm
    rw [hs] at hj
    obtain rfl := (Option.some.inj hj).symm
    have hsl := h8 s hsm
    have htl : ((ss.take j).map sortSt).length = j := by rw [List.length_map, List.length_take]; omega
    have hcl := cps_len ((ss.take j).map sortSt)
    rw [htl] at hcl
    show pGet (tgT [6, 7] (bz (eSt s)) env) _
    rw [bzSt]
    refine pGet.mk (x := (env.set 6 (some (.b (.list (s.1.map eG))))).set 7 (some (.b (.list (s.2.map .str))))) (by
      unfold tgT
      rw [show tpD (.b (eSt s)) = some [.b (.list (s.1.map eG)), .b (.list (s.2.map .str))] from by
        show some ([PyData.list _, PyData.list _].map bz) = _
        rw [List.map_cons, List.map_cons, bz_list, bz_list]; rfl]
      rfl) ?_
    refine pIf.tt rfl ?_
    have e3 : (S ++ Ob.lst ((emp (S.length + 1) j).map scD) :: cps ((ss.take j).map sortSt)).length = S.length + 1 + 2 * j := by rw [List.length_append, List.length_cons, hcl]; omega
    dsimp only [table_of_e2, wTup, wCons, wCall, wNil, pSorted]
    unfold wVar
    rw [ha]
    dsimp only
    refine sort_g (gs := s.1) (by show some ((s.1.map eG).map bz) = _; rw [zsG]) (by omega) ?_
    rw [hb]
    dsimp only
    refine sort_w (ws := s.2) (by show some ((s.2.map PyData.str).map bz) = _; rw [List.map_map]; rfl) (by omega) ?_
    refine pReq.mk (sz_le rfl) ?_
    refine pGet.mk (x := (emp (S.length + 1) j).map scD) ?_ (pReq.mk ?_ ?_)
    · rw [List.append_assoc, List.append_assoc]
      exact lsR_at (List.getElem?_append_right (Nat.le_refl _) |>.trans (by rw [Nat.sub_self]; rfl))
    · rw [List.length_map, emp_len]
      exact sz_lt6 (by omega)
    · refine hQ _ ⟨hlt, ?_⟩
      rw [List.append_assoc, List.append_assoc, List.set_append_right _ _ (Nat.le_refl _), Nat.sub_self]
      have e2 : cps ((ss.take (j + 1)).map sortSt) = cps ((ss.take j).map sortSt) ++ [.lst ((sortG s.1).map zG), .lst ((sortW s.2).map zW)] := by
        rw [List.take_add_one, hs, List.map_append, TB.cps_app]; rfl
      rw [emp_snoc, e2, List.map_append]
      have e4 : ((S ++ Ob.lst ((emp (S.length + 1) j).map scD) :: cps ((ss.take j).map sortSt)) ++ [Ob.lst ((sortG s.1).map zG)]).length = S.length + 1 + 2 * j + 1 := by rw [List.length_append, e3]; rfl
      show S ++ (Ob.lst (_ ++ [D.t [.r _, .r _]]) :: _) = _
      rw [e3, e4]
      rfl
  · rintro S' ⟨_, rfl⟩
    rw [hlen, List.take_length]
    exact hf
end K27

set_option Elab.async false
set_option linter.all false
set_option maxRecDepth 100000
set_option maxHeartbeats 1000000
namespace K27
open PySem L2 PL NE
open ND (cutL_map cutL_len cutL_mem bz_ints LwN isNm alpha alpha_eq alpha_at getA ixD_zA ixD_bA app_list one_len getI getI_at getI_mem)
local macro_rules | `(tactic| walk_at "st1") => `(tactic| first | assumption | exact sto_last | exact sto_r0 | exact sto_r1 | exact sto_r2 | exact sto_r3 | exact sto_r4)
local macro_rules | `(tactic| walk_at "sto") => `(tactic| first | walk_at "st1" | exact sto_app (by walk_at "st1") | exact sto_app (sto_app (by walk_at "st1")))
local macro_rules | `(tactic| walk_at "sz") => `(tactic| ((try simp only [List.length_map, List.length_range, List.length_append, List.length_cons, List.length_nil]); omega))
local macro_rules | `(tactic| walk_at "go") => `(tactic| ((try (conv => whnf)); repeat ((first | (show pIf _ _ _; first | refine pIf.tt rfl ?_ | refine pIf.ff rfl ?_) | (show pReq _ _; first | refine pReq.mk rfl ?_ | refine pReq.mk (sz_le rfl) ?_ | refine pReq.mk (sz_lt rfl) ?_ | refine pReq.mk (by decide) ?_ | refine pReq.mk (Or.inr (by decide)) ?_ | refine pReq.mk (Or.inl (by decide)) ?_ | refine pReq.mk (by assumption) ?_ | refine pReq.mk (isTy_l (by walk_at "sto")) ?_ | refine pReq.mk (by omega) ?_ | refine pReq.mk (sz_lt6 (by walk_at "sz")) ?_ | refine pReq.mk (sz_le6 (by walk_at "sz")) ?_ | refine pReq.mk (by walk_at "sz") ?_) | (show pGet _ _; first | refine pGet.mk rfl ?_ | refine pGet.mk (by walk_at "sto") ?_ | refine pGet.mk (lenD_at (by walk_at "sto")) ?_ | refine pGet.mk (sqD_at (by walk_at "sto")) ?_ | refine pGet.mk (lsD_at (by walk_at "sto")) ?_ | refine pGet.mk (lsR_at (by walk_at "sto")) ?_ | refine pGet.mk (srcD_at (by walk_at "sto")) ?_ | refine pGet.mk (tyD_l (by walk_at "sto")) ?_)); (try (conv => whnf)))))
open OR (eP nextsL Reach DInv DIn meas BInv BIn measB lastOf Wy Chn OIn Ord SLt)
open TB (XSt eG zG eSt XTab eTab rSt rTab bzSt ScIn ScsIn cps cps_in VRs.scs)
open NE (scD plcs emp emp_len emp_snoc emp_plcs)
theorem pu_table_of : ∀ ds S K KX, lentR F_table_of ds S K KX → ws_table_of (frz F_too_great) (frz F_labels_in) (frz F_is_name) (frz F_numbers_in) (frz F_has_double) (frr F_order_of) { nx := fun _ S1 => K (.z .none) S1, rt := K, ex := fun y _ S1 => KX y S1 } (startE nm_table_of ds) S := by
  refine fsrq_ok fun ⟨ss, n, ps⟩ ht K KX hk => ?_
  have hps := ht.ps
  obtain ⟨⟨h1, h2, h3⟩, hnm, hnu, hdb, hac⟩ := ht
  dsimp only at h1 h2 h3 hnm hnu hdb hac hps hk
  have hl1 := labsS_len h3
  have hl2 := labsP_len ps
  have hl3 := numsS_len h3
  walk_at "go"
  refine fsp_call (ss, ps) (.cons .b (.cons .b .nil)) ⟨h1, h2, h3⟩ ?_
  walk_at "go"
  refine fsp_call (ss, ps) (.cons .b (.cons .b .nil)) ⟨h1, h2, h3⟩ ?_
  walk_at "go"
  refine pFor_allB (labsS ss ++ labsP ps) zW (fun _ => true) (fun env => ∃ v, env = [some (.b (.list (ss.map eSt))), some (.z (.int n)), some (.b (.list (ps.map eP))), v, none, none, none, none, none]) (zsW _) trivial ⟨_, rfl⟩ ?_ ?_ ?_
  · rintro w _ Q hw ⟨v, rfl⟩ g1 g2
    have hx := hnm w hw
    walk_at "go"
    refine fsp_call w (.cons .z .nil) (by have := (is_ok hx).2; omega) ?_
    walk_at "go"
    rw [hx]
    walk_at "go"
    exact g1 rfl _ ⟨_, rfl⟩
  · rintro _ _ ⟨v, rfl⟩
    walk_at "go"
    refine fsp_call (ss, n) (.cons .b (.cons .z .nil)) ⟨h1, Nat.zero_le _, h3⟩ ?_
    walk_at "go"
    refine pFor_allB (n :: numsS ss) zI (fun _ => true) (fun env => ∃ v v4, env = [some (.b (.list (ss.map eSt))), some (.z (.int n)), some (.b (.list (ps.map eP))), v, v4, none, none, none, none]) (by rw [List.map_map]; rfl) trivial ⟨_, _, rfl⟩ ?_ ?_ ?_
    · rintro m _ Q hm ⟨v, v4, rfl⟩ g1 g2
      have hx := hnu m hm
      walk_at "go"
      refine pIf.ff (decide_eq_false (by omega)) ?_
      walk_at "go"
      refine pIf.ff (decide_eq_false (by rw [List.length_map]; show ¬ (m ≥ _); omega)) ?_
      walk_at "go"
      exact g1 rfl _ ⟨_, _, rfl⟩
    · rintro _ _ ⟨v, v4, rfl⟩
      walk_at "go"
      refine pFor_xs ss (fun s => bz (eSt s)) (bz_sts ss) (fun i env S => ∃ v6 v7, env = [some (.b (.list (ss.map eSt))), some (.z (.int n)), some (.b (.list (ps.map eP))), v, v4, none, v6, v7, none]) ⟨_, _, rfl⟩ (fun _ _ _ _ _ => trivial) ?_ ?_
      · rintro i s _ S Q hs ⟨v6, v7, rfl⟩ hQ
        have hsm := List.mem_of_getElem? hs
        have hsl := h3 s hsm
        have hsd := hdb s hsm
        rw [bzSt]
        walk_at "go"
        refine pLc_allE s.1 zG (fun g => zW g.1) (zsG s.1) (by omega) (fun _ => trivial) (fun g hg => ⟨_, rfl, fun S1 K _ h => ?_⟩) ?_
        · walk_at "go"
          exact h
        have hm : (s.1.map fun g => zW g.1) = (s.1.map (·.1)).map zW := by rw [List.map_map]; rfl
        rw [hm]
        walk_at "go"
        refine fsp_call (s.1.map (·.1)) (.cons (.r sto_last (Vws.map _ _)) .nil) ⟨hsd.1, by rw [List.length_map]; omega⟩ ?_
        walk_at "go"
        refine fsp_call s.2 (.cons .b .nil) ⟨hsd.2, by omega⟩ ?_
        walk_at "go"
        exact hQ _ _ ⟨_, _, rfl⟩
      · rintro _ S ⟨v6, v7, rfl⟩
        walk_at "go"
        refine fslq_call ps (.cons .b .nil) ⟨hps, by omega, hac⟩ fun rs ⟨hr1, hr2⟩ => ?_
        walk_at "go"
        refine pLc_sorts h3 h1 (bz_sts ss) (fun _ => trivial) (fun _ _ => rfl) (fun _ _ => rfl) ?_
        walk_at "go"
        have hc := TB.cps_in (S := (S ++ [Ob.lst (rs.map fun x => zP x)]) ++ [Ob.lst ((emp ((S ++ [Ob.lst (rs.map fun x => zP x)]).length + 1) ss.length).map scD)]) (T := []) rfl (ss.map sortSt)
        have hl : (S ++ [Ob.lst (rs.map fun x => zP x)]).length = S.length + 1 := by rw [List.length_append]; rfl
        have hp := emp_plcs (S.length + 2) ss.length
        rw [hl] at hc ⊢
        refine hk _ _ ⟨ss.map sortSt, n, rs⟩ _ (.t (.cons (.l (ns := plcs (emp (S.length + 2) ss.length)) (n := S.length + 1) (ds := (emp (S.length + 2) ss.length).map scD) ?_ (TB.VRs.scs ?_)) (.cons (.z .z) (.cons (.l (ns := []) (n := S.length) (ds := rs.map zP) ?_ (VRs.zs _ _)) .nil)))) ?_ ⟨rfl, rfl, hr1⟩
        · rw [List.getElem?_append_right (by rw [hl]; exact Nat.le_refl _), hl, Nat.sub_self]; rfl
        · rw [List.length_append, hl, List.length_map, List.append_nil, List.append_assoc] at hc
          exact hc
        · exact (sto_app sto_last)
        · simp only [List.nil_append, List.append_nil]
          refine List.nodup_append.mpr ⟨List.nodup_append.mpr ⟨hp.2, by simp, ?_⟩, by simp, ?_⟩
          · intro a ha b hb e
            simp at hb
            have := hp.1 a ha
            omega
          · intro a ha b hb e
            simp at hb
            rcases List.mem_append.mp ha with ha | ha
            · have := hp.1 a ha
              omega
            · simp at ha
              omega
    · simp
  · simp
end K27

set_option Elab.async false
set_option linter.all false
set_option maxRecDepth 100000
set_option maxHeartbeats 1000000
namespace K27
open PySem L2 PL NE
open ND (cutL_map cutL_len cutL_mem bz_ints LwN isNm alpha alpha_eq alpha_at getA ixD_zA ixD_bA app_list one_len getI getI_at getI_mem)
local macro_rules | `(tactic| walk_at "st1") => `(tactic| first | assumption | exact sto_last | exact sto_r0 | exact sto_r1 | exact sto_r2 | exact sto_r3 | exact sto_r4)
local macro_rules | `(tactic| walk_at "sto") => `(tactic| first | walk_at "st1" | exact sto_app (by walk_at "st1") | exact sto_app (sto_app (by walk_at "st1")))
local macro_rules | `(tactic| walk_at "sz") => `(tactic| ((try simp only [List.length_map, List.length_range, List.length_append, List.length_cons, List.length_nil]); omega))
local macro_rules | `(tactic| walk_at "go") => `(tactic| ((try (conv => whnf)); repeat ((first | (show pIf _ _ _; first | refine pIf.tt rfl ?_ | refine pIf.ff rfl ?_) | (show pReq _ _; first | refine pReq.mk rfl ?_ | refine pReq.mk (sz_le rfl) ?_ | refine pReq.mk (sz_lt rfl) ?_ | refine pReq.mk (by decide) ?_ | refine pReq.mk (Or.inr (by decide)) ?_ | refine pReq.mk (Or.inl (by decide)) ?_ | refine pReq.mk (by assumption) ?_ | refine pReq.mk (isTy_l (by walk_at "sto")) ?_ | refine pReq.mk (by omega) ?_ | refine pReq.mk (sz_lt6 (by walk_at "sz")) ?_ | refine pReq.mk (sz_le6 (by walk_at "sz")) ?_ | refine pReq.mk (by walk_at "sz") ?_) | (show pGet _ _; first | refine pGet.mk rfl ?_ | refine pGet.mk (by walk_at "sto") ?_ | refine pGet.mk (lenD_at (by walk_at "sto")) ?_ | refine pGet.mk (sqD_at (by walk_at "sto")) ?_ | refine pGet.mk (lsD_at (by walk_at "sto")) ?_ | refine pGet.mk (lsR_at (by walk_at "sto")) ?_ | refine pGet.mk (srcD_at (by walk_at "sto")) ?_ | refine pGet.mk (tyD_l (by walk_at "sto")) ?_)); (try (conv => whnf)))))
open OR (eP nextsL Reach DInv DIn meas BInv BIn measB lastOf Wy Chn OIn Ord SLt)
open TB (XSt eG zG eSt XTab eTab rTab rSt bzSt lt_g sort_eq al_tab)
abbrev tx (s : String) : Str := PySem.Str.ofString s
def uGo0 : List (Str × Int) := [(tx "all", 1), (tx "allon", 1), (tx "elder", 1), (tx "up", 0)]
def uGo1 : List (Str × Int) := [(tx "allon", 1), (tx "elder", 1)]
def uGo2 : List (Str × Int) := [(tx "up", 0)]
def uEn : List Str := [tx "let", tx "open", tx "own"]
def uSts : List XSt := [(uGo0, uEn), (uGo1, [tx "open"]), (uGo2, uEn)]
def uPrs : List OR.Pr := [(tx "let", tx "elder"), (tx "open", tx "elder"), (tx "own", tx "elder"), (tx "elder", tx "all"), (tx "elder", tx "allon"), (tx "all", tx "up"), (tx "allon", tx "up")]
def uOrd : List OR.Pr := [(tx "all", tx "up"), (tx "allon", tx "up"), (tx "elder", tx "all"), (tx "elder", tx "allon"), (tx "elder", tx "up"),
  (tx "let", tx "all"), (tx "let", tx "allon"), (tx "let", tx "elder"), (tx "let", tx "up"), (tx "open", tx "all"), (tx "open", tx "allon"), (tx "open", tx "elder"), (tx "open", tx "up"),
  (tx "own", tx "all"), (tx "own", tx "allon"), (tx "own", tx "elder"), (tx "own", tx "up")]
def uTab : XTab := ⟨uSts, 1, uOrd⟩
theorem u_ord : Ord uPrs uOrd := by
  refine ⟨by decide +kernel, fun a b => ⟨fun h => ?_, fun h => ?_⟩⟩
  · have key : ∀ r ∈ uOrd, r ∈ uPrs ∨ (∃ p ∈ uPrs, p.1 = r.1 ∧ (p.2, r.2) ∈ uPrs) ∨ (∃ p ∈ uPrs, p.1 = r.1 ∧ ∃ q ∈ uPrs, q.1 = p.2 ∧ (q.2, r.2) ∈ uPrs) := by decide +kernel
    rcases key _ h with k | ⟨p, h1, h2, h3⟩ | ⟨p, h1, h2, q, h3, h4, h5⟩
    · exact .one k
    · exact (Reach.one (ps := uPrs) (show (a, p.2) ∈ uPrs from by rw [← (show p.1 = a from h2)]; exact h1)).trans (.one h3)
    · exact ((Reach.one (ps := uPrs) (show (a, p.2) ∈ uPrs from by rw [← (show p.1 = a from h2)]; exact h1)).trans (.one (by rw [← h4]; exact h3))).trans (.one h5)
  · have k1 : ∀ p ∈ uPrs, p ∈ uOrd := by decide +kernel
    have k2 : ∀ q ∈ uOrd, ∀ p ∈ uPrs, q.2 = p.1 → (q.1, p.2) ∈ uOrd := by decide +kernel
    induction h with
    | one h => exact k1 _ h
    | step _ h ih => exact k2 _ ih _ h rfl
theorem u_acyc : Acyc uPrs := fun a h => by
  have k := (u_ord.me a a).mpr h
  have k2 : ∀ q ∈ uOrd, q.1 ≠ q.2 := by decide +kernel
  exact k2 _ k rfl
theorem u_tab : TabOk (uSts, 1, uPrs) := ⟨⟨by decide, by decide, by decide +kernel⟩, by decide +kernel, by decide +kernel, by decide +kernel, u_acyc⟩
theorem sortG_id {gs : List (Str × Int)} (h : gs.Pairwise fun a b => SLt a.1 b.1) : sortG gs = gs := sort_eq (List.Perm.refl _) (h.imp fun h => lt_g h)
theorem sortW_id {ws : List Str} (h : ws.Pairwise SLt) : sortW ws = ws := sort_eq (List.Perm.refl _) (h.imp fun h => by rw [OR.lt_str]; exact decide_eq_true h)
theorem u_sorted : uSts.map sortSt = uSts := by
  unfold uSts
  simp only [List.map_cons, List.map_nil, sortSt]
  rw [sortG_id (by decide +kernel), sortG_id (by decide +kernel), sortG_id (by decide +kernel), sortW_id (by decide +kernel), sortW_id (by decide +kernel)]
def F_usual : Fsr := fsr (fun _ : Unit => []) (fun _ => True) fun _ => rTab uTab
theorem pu_usual : ∀ ds S K KX, lentR F_usual ds S K KX → ws_usual (frr F_table_of) { nx := fun _ S1 => K (.z .none) S1, rt := K, ex := fun y _ S1 => KX y S1 } (startE nm_usual ds) S := by
  refine fsr_ok fun _ _ K KX hk => ?_
  walk_at "go"
  refine pLc_allE uEn zW (fun w => zP (w, tx "elder")) rfl (by decide) (fun _ => rfl) (fun w hw => ⟨_, rfl, fun S1 K _ h => ?_⟩) ?_
  · walk_at "go"
    exact h
  walk_at "go"
  refine fsrq_call (uSts, 1, uPrs) (.cons (.r rfl (.cons (.t (.cons (.r rfl (Vws.map eG uGo0)) (.cons (.r rfl (Vws.map PyData.str uEn)) .nil))) (.cons (.t (.cons (.r rfl (Vws.map eG uGo1)) (.cons (.r rfl (Vws.map PyData.str [tx "open"])) .nil))) (.cons (.t (.cons (.r rfl (Vws.map eG uGo2)) (.cons (.r rfl (Vws.map PyData.str uEn)) .nil))) .nil)))) (.cons .z (.cons (.r rfl (Vws.map eP uPrs)) .nil))) u_tab fun t ⟨h1, h2, h3⟩ => ?_
  dsimp only at h1 h2 h3
  rw [u_sorted] at h1
  have e : t = uTab := by
    cases t
    dsimp only at h1 h2 h3
    rw [h1, h2, h3.uniq u_ord]; rfl
  rw [e]
  exact ret_al hk
open TB (XSt eG zG eSt XTab eTab rTab rSt bzSt lt_g sort_eq al_tab ScIn cps)
theorem shXSt {s : XSt} (h1 : ∀ g ∈ s.1, PyData.strOk g.1 = true) (h2 : ∀ w ∈ s.2, PyData.strOk w = true) : Shp 4 (eSt s) := .tup2 (.lists fun g hg => TB.shG (h1 g hg)) (.mono (.lists (n := 1) (f := PyData.str) fun w hw => .str (h2 w hw)) (by decide))
theorem shU : Shp 6 (eTab uTab) := by
  have k1 : ∀ s ∈ uSts, (∀ g ∈ s.1, PyData.strOk g.1 = true) ∧ ∀ w ∈ s.2, PyData.strOk w = true := by decide +kernel
  have k2 : ∀ p ∈ uOrd, PyData.strOk p.1 = true ∧ PyData.strOk p.2 = true := by decide +kernel
  exact .tup3 (.lists fun s hs => shXSt (k1 s hs).1 (k1 s hs).2) .int (.mono (.lists (n := 1) (f := eP) fun p hp => .tup2 (.str (k2 p hp).1) (.str (k2 p hp).2)) (by decide))
theorem vwU {S : Sto} {n : Nat} (h0 : S[n]? = some (.lst (uGo0.map zG))) (h1 : S[n + 1]? = some (.lst (uEn.map zW))) (h2 : S[n + 2]? = some (.lst (uGo1.map zG))) (h3 : S[n + 3]? = some (.lst [zW (tx "open")])) (h4 : S[n + 4]? = some (.lst (uGo2.map zG))) (h5 : S[n + 5]? = some (.lst (uEn.map zW)))
    (h6 : S[n + 6]? = some (.lst [.t [.r n, .r (n + 1)], .t [.r (n + 2), .r (n + 3)], .t [.r (n + 4), .r (n + 5)]])) (h7 : S[n + 7]? = some (.lst (uOrd.map zP))) : Vw S (.t [.r (n + 6), .z (.int 1), .r (n + 7)]) (eTab uTab) :=
  .t (.cons (.r h6 (.cons (.t (.cons (.r h0 (Vws.map eG _)) (.cons (.r h1 (Vws.map PyData.str _)) .nil))) (.cons (.t (.cons (.r h2 (Vws.map eG _)) (.cons (.r h3 (Vws.map PyData.str [tx "open"])) .nil))) (.cons (.t (.cons (.r h4 (Vws.map eG _)) (.cons (.r h5 (Vws.map PyData.str _)) .nil))) .nil)))) (.cons .z (.cons (.r h7 (Vws.map eP _)) .nil)))
def uSto (n : Nat) : Sto := [.lst (uGo0.map zG), .lst (uEn.map zW), .lst (uGo1.map zG), .lst [zW (tx "open")], .lst (uGo2.map zG), .lst (uEn.map zW), .lst [.t [.r n, .r (n + 1)], .t [.r (n + 2), .r (n + 3)], .t [.r (n + 4), .r (n + 5)]], .lst (uOrd.map zP)]
theorem al_u (n : Nat) : al (rTab uTab) n = (.t [.r (n + 6), .z (.int 1), .r (n + 7)], uSto n) := by
  rw [al_tab]
  rfl
theorem vwS (A : Sto) : Vw (A ++ uSto A.length) (.t [.r (A.length + 6), .z (.int 1), .r (A.length + 7)]) (eTab uTab) :=
  vwU (n := A.length) sto_r0 (sto_r rfl) (sto_r rfl) (sto_r rfl) (sto_r rfl) (sto_r rfl) (sto_r rfl) (sto_r rfl)
theorem u_call {S : Sto} {K : K1} {KX : KF} (h : K (.t [.r (S.length + 6), .z (.int 1), .r (S.length + 7)]) (S ++ uSto S.length)) : pCall (frr F_usual) [] S K KX := fsr_call () .nil trivial (by rw [al_u]; exact h)
end K27

set_option Elab.async false
set_option linter.all false
set_option maxRecDepth 100000
set_option maxHeartbeats 1000000
namespace K27
open PySem L2 PL ND
local macro_rules | `(tactic| walk_at "st1") => `(tactic| first | assumption | exact sto_last | exact sto_r0 | exact sto_r1 | exact sto_r2 | exact sto_r3 | exact sto_r4)
local macro_rules | `(tactic| walk_at "sto") => `(tactic| first | walk_at "st1" | exact sto_app (by walk_at "st1") | exact sto_app (sto_app (by walk_at "st1")))
local macro_rules | `(tactic| walk_at "sz") => `(tactic| ((try simp only [List.length_map, List.length_range, List.length_append, List.length_cons, List.length_nil]); omega))
local macro_rules | `(tactic| walk_at "go") => `(tactic| ((try (conv => whnf)); repeat ((first | (show pIf _ _ _; first | refine pIf.tt rfl ?_ | refine pIf.ff rfl ?_) | (show pReq _ _; first | refine pReq.mk rfl ?_ | refine pReq.mk (sz_le rfl) ?_ | refine pReq.mk (sz_lt rfl) ?_ | refine pReq.mk (by decide) ?_ | refine pReq.mk (Or.inr (by decide)) ?_ | refine pReq.mk (Or.inl (by decide)) ?_ | refine pReq.mk (by assumption) ?_ | refine pReq.mk (isTy_l (by walk_at "sto")) ?_ | refine pReq.mk (by omega) ?_ | refine pReq.mk (sz_lt6 (by walk_at "sz")) ?_ | refine pReq.mk (sz_le6 (by walk_at "sz")) ?_ | refine pReq.mk (by walk_at "sz") ?_) | (show pGet _ _; first | refine pGet.mk rfl ?_ | refine pGet.mk (by walk_at "sto") ?_ | refine pGet.mk (lenD_at (by walk_at "sto")) ?_ | refine pGet.mk (sqD_at (by walk_at "sto")) ?_ | refine pGet.mk (lsD_at (by walk_at "sto")) ?_ | refine pGet.mk (lsR_at (by walk_at "sto")) ?_ | refine pGet.mk (srcD_at (by walk_at "sto")) ?_ | refine pGet.mk (tyD_l (by walk_at "sto")) ?_)); (try (conv => whnf)))))
/-! drawn nets -/
theorem isNm_B {x : Str} (h : isNm x) : isNameB x = true := by
  obtain ⟨n, h1, h8, hl, hc⟩ := h
  have e : x.length = n := by rw [← hl]; show x.cps.size = _; simp
  unfold isNameB
  rw [e, decide_eq_true h1, decide_eq_true h8, Bool.true_and, Bool.true_and, List.all_eq_true]
  intro c hm
  have := hc c hm
  have key : ∀ c : Fin 123, 97 ≤ c.val → c.val ∈ alpha := by decide
  exact decide_eq_true (key ⟨c, this.2⟩ this.1)
theorem nm_len {x : Str} (h : isNm x) : x.length ≤ 8 := by
  obtain ⟨n, h1, h8, hl, hc⟩ := h
  have e : x.length = n := by rw [← hl]; show x.cps.size = _; simp
  omega
theorem isNm.ok {x : Str} (h : isNm x) : PyData.strOk x = true := ND.isNm.ok h
def NumOk (m : Int) : Prop := 0 ≤ m ∧ m < 2147483648
theorem num0 (c : Int) : NumOk (c.fmod 2147483629 + 1) := by
  have := fmod_b (a := c) (b := 2147483629) (by decide)
  exact ⟨by omega, by omega⟩
theorem num1 (x : Int) : NumOk (x.fmod 2147483647) := by
  have := fmod_b (a := x) (b := 2147483647) (by decide)
  exact ⟨by omega, by omega⟩
theorem NumOk.mul {m : Int} (h : NumOk m) : CMul m m := .inl (by unfold NumOk at h; omega)
theorem alpha_at2 {i : Int} (h : 0 ≤ i ∧ i < 26) : ∃ c, atD (Str.ofString "abcdefghijklmnopqrstuvwxyz").cps.toList i = some c ∧ alpha[i.toNat]? = some c ∧ 97 ≤ c ∧ c < 123 := by
  obtain ⟨c, h1, h2⟩ := alpha_at h
  refine ⟨c, h1, ?_, h2⟩
  rw [alpha_eq] at h1
  obtain ⟨m, rfl⟩ : ∃ m : Nat, i = (m : Int) := ⟨i.toNat, by omega⟩
  exact h1
theorem alpha_inj {a b : Nat} (ha : a < 26) (hb : b < 26) (h : alpha[a]? = alpha[b]?) : a = b := by
  have key : ∀ a b : Fin 26, alpha[a.val]? = alpha[b.val]? → a.val = b.val := by decide
  exact key ⟨a, ha⟩ ⟨b, hb⟩ h
/-- the sign at a place, by the word's number -/
def SgnAt (at_ : Nat) (b : Int) (i : Nat) (x : Str) : Prop := x.cps.toList[at_]? = alpha[((b + (i : Int)).fmod 26).toNat]?
theorem sgn_inj {at_ : Nat} {b : Int} {i j : Nat} {x : Str} (hi : i < 20) (hj : j < 20) (h1 : SgnAt at_ b i x) (h2 : SgnAt at_ b j x) : i = j := by
  have b1 := fmod_b (a := b + (i : Int)) (b := 26) (by decide)
  have b2 := fmod_b (a := b + (j : Int)) (b := 26) (by decide)
  have := alpha_inj (by omega) (by omega) (h1.symm.trans h2)
  rw [Int.fmod_eq_emod_of_nonneg _ (by decide), Int.fmod_eq_emod_of_nonneg _ (by decide)] at this
  omega
theorem snoc_at {x : Str} {c k : Nat} (h : k < x.cps.toList.length) : (x ++ (⟨⟨[c]⟩⟩ : Str)).cps.toList[k]? = x.cps.toList[k]? := by
  rw [app_list, List.getElem?_append_left h]
theorem snoc_last {x : Str} {c k : Nat} (h : x.cps.toList.length = k) : (x ++ (⟨⟨[c]⟩⟩ : Str)).cps.toList[k]? = some c := by
  rw [app_list, List.getElem?_append_right (by omega), h, Nat.sub_self]; rfl
theorem nd_sgn {at_ : Nat} {b : Int} : ∀ {ws : List Str} (k : Nat), k + ws.length ≤ 20 → (∀ i x, ws[i]? = some x → SgnAt at_ b (k + i) x) → ws.Nodup
  | [], _, _, _ => List.nodup_nil
  | w :: ws, k, hk, h => by
    rw [List.length_cons] at hk
    refine List.nodup_cons.mpr ⟨fun hm => ?_, nd_sgn (k + 1) (by omega) fun i x hx => by rw [show k + 1 + i = k + (i + 1) by omega]; exact h (i + 1) x (by simpa using hx)⟩
    obtain ⟨j, hj⟩ := List.getElem?_of_mem hm
    have hl := (List.getElem?_eq_some_iff.mp hj).1
    have h0 := h 0 w rfl
    have h1 := h (j + 1) w (by simpa using hj)
    have := sgn_inj (by omega) (by omega) h0 h1
    omega
def F_words : Fsp := fsq (fun a : Int × Nat => [.int a.1, .int a.2]) (fun a => 0 ≤ a.1 ∧ a.2 ≤ 100 ∧ 2 ≤ a.2) (fun a (ws : List Str) => ws.length = a.2 ∧ (∀ x ∈ ws, isNm x) ∧ (a.2 ≤ 20 → (ws.drop 2).Nodup)) fun ws => .list (ws.map .str)
theorem pu_words : ∀ ds S K KX, lent F_words ds S K KX → ws__law_words { nx := fun _ S1 => K (.z .none) S1, rt := K, ex := fun y _ S1 => KX y S1 } (startE nm__law_words ds) S := by
  refine fsq_ok fun ⟨c, n⟩ ⟨h0, hn, hn2⟩ K KX hk => ?_
  dsimp only at h0 hn hn2 hk
  have hb := fmod_b (a := c) (b := 7) (by decide)
  obtain ⟨sz, hsz⟩ : ∃ sz : Nat, 1 + c.fmod 7 = (sz : Int) := ⟨(1 + c.fmod 7).toNat, by omega⟩
  have h1 : 1 ≤ sz ∧ sz ≤ 7 := by omega
  walk_at "go"
  rw [hsz]
  walk_at "go"
  have hat := fmod_b (a := c.fdiv 7) (b := (sz : Int)) (by omega)
  obtain ⟨at_, hat2⟩ : ∃ at_ : Nat, (c.fdiv 7).fmod sz = (at_ : Int) := ⟨((c.fdiv 7).fmod sz).toNat, by omega⟩
  rw [hat2] at hat ⊢
  let b0 : Int := (c.fdiv 49).fdiv (0 + (at_ : Int) + 1) + (0 + (at_ : Int)) * (0 + (at_ : Int))
  refine pFor_range (fun i env S => ∃ v6 v7 v8 v9 ws gs, env = [some (.z (.int c)), some (.z (.int n)), some (.z (.str (Str.ofString "abcdefghijklmnopqrstuvwxyz"))), some (.z (.int sz)), some (.z (.int at_)), some (.r 0), v6, v7, v8, v9] ∧ S = .lst (ws.map fun x => .z (.str x)) :: gs ∧ ws.length = i ∧ (∀ x ∈ ws, LwN sz x) ∧ ∀ k x, ws[k]? = some x → SgnAt at_ b0 k x) ⟨none, none, none, none, [], [], rfl, rfl, rfl, (fun _ h => by cases h), fun k x h => by simp at h⟩ ?_ ?_
  · rintro i _ _ Q hi ⟨v6, v7, v8, v9, ws, gs, rfl, rfl, hl, hw, hsg⟩ hQ
    walk_at "go"
    have esz : ((sz : Nat) : Int).toNat = sz := by omega
    rw [esz]
    refine pFor_range (fun j env S => ∃ v8 v9 x, env = [some (.z (.int c)), some (.z (.int n)), some (.z (.str (Str.ofString "abcdefghijklmnopqrstuvwxyz"))), some (.z (.int sz)), some (.z (.int at_)), some (.r 0), some (.z (.int (0 + (i : Int)))), some (.z (.str x)), v8, v9] ∧ S = .lst (ws.map fun x => .z (.str x)) :: gs ∧ LwN j x ∧ (at_ < j → SgnAt at_ b0 i x)) ⟨v8, v9, _, rfl, rfl, ND.LwN.nil, fun h => absurd h (Nat.not_lt_zero _)⟩ ?_ ?_
    · rintro j _ _ Q2 hj ⟨v8, v9, x, rfl, rfl, hx, hxs⟩ hQ2
      have hc : CMul (0 + (j : Int)) (0 + (j : Int)) := .inl (by omega)
      walk_at "go"
      refine pIf.mk (fun ce => ?_) (fun ce => ?_)
      all_goals
        walk_at "go"
        refine pGet.ex (alpha_at2 (fmod_b (by decide))) fun ch hc2 => ?_
        walk_at "go"
        rw [hx.len, one_len]
        walk_at "go"
        refine hQ2 _ _ ⟨_, _, _, rfl, rfl, hx.snoc hc2.2.1 hc2.2.2, fun hj2 => ?_⟩
        first
        | have ej : j = at_ := by
            have := of_decide_eq_true ce
            omega
          subst ej
          unfold SgnAt
          rw [snoc_last hx.1]
          have e0 := hc2.1
          rw [show (0 : Int) + (i : Int) = (i : Int) by omega] at e0
          exact e0.symm
        | have ej : j ≠ at_ := by
            have := of_decide_eq_false ce
            omega
          unfold SgnAt
          rw [snoc_at (by rw [hx.1]; omega)]
          exact hxs (by omega)
    · rintro _ _ ⟨v8, v9, x, rfl, rfl, hx, hxs⟩
      walk_at "go"
      refine hQ _ _ ⟨_, _, _, _, ws ++ [x], gs, rfl, set0.trans (lst_eq ?_), by simp [hl], ?_, fun k y hk2 => ?_⟩
      · rw [List.map_append]; rfl
      · intro y hy
        rcases List.mem_append.mp hy with h | h
        · exact hw y h
        · simp at h; subst h; exact hx
      · by_cases hkl : k < ws.length
        · rw [List.getElem?_append_left hkl] at hk2
          exact hsg k y hk2
        · have hk3 := (List.getElem?_eq_some_iff.mp hk2).1
          rw [List.length_append, List.length_singleton] at hk3
          have ek : k = ws.length := by omega
          subst ek
          rw [List.getElem?_append_right (Nat.le_refl _), Nat.sub_self] at hk2
          cases hk2
          rw [hl]
          refine hxs ?_
          have : (sz : Int).toNat = sz := by omega
          omega
  · rintro _ _ ⟨v6, v7, v8, v9, ws, gs, rfl, rfl, hl, hw, hsg⟩
    have hl2 : ws.length = n := by rw [hl]; simp
    have hnd : n ≤ 20 → (ws.drop 2).Nodup := fun h20 => nd_sgn (at_ := at_) (b := b0) 2 (by rw [List.length_drop]; omega) fun i x hx => by
      rw [List.getElem?_drop] at hx
      exact hsg _ _ hx
    have hnm : ∀ x ∈ ws, isNm x := fun x hx => ⟨sz, h1.1, by omega, hw x hx⟩
    walk_at "go"
    refine pIf.mk (fun _ => ?_) (fun _ => ?_)
    · match ws, hl2, hw, hnm, hnd with
      | w0 :: w1 :: wr, hl2, hw, hnm, hnd =>
        have hw0 := hw w0 (by simp)
        walk_at "go"
        refine pGet.ex (alpha_at (fmod_b (by decide))) fun ch hc2 => ?_
        walk_at "go"
        rw [hw0.len, one_len]
        walk_at "go"
        refine pGet.mk (ixN_nat (i := 1) (by simp)) ?_
        walk_at "go"
        refine hk _ _ (w0 :: (w0 ++ ⟨⟨[ch]⟩⟩) :: wr) (.r (by rfl) (.cons .z (.cons .z (Vzs.map _ wr)))) ⟨hl2, fun x hx => ?_, hnd⟩
        rcases List.mem_cons.mp hx with rfl | hx
        · exact hnm _ (by simp)
        · rcases List.mem_cons.mp hx with rfl | hx
          · exact ⟨sz + 1, by omega, by omega, hw0.snoc hc2.1 hc2.2⟩
          · exact hnm x (by simp [hx])
      | [_], hl2, _, _, _ => simp at hl2; omega
      | [], hl2, _, _, _ => simp at hl2; omega
    · walk_at "go"
      exact hk _ _ ws (.r rfl (Vzs.map _ _)) ⟨hl2, hnm, hnd⟩
def F_stream : Fsp := fsq (fun a : Int × Nat => [.int a.1, .int a.2]) (fun a => a.2 ≤ 1000) (fun a (ws : List Int) => ws.length = a.2 ∧ ∀ x ∈ ws, 0 ≤ x) fun ws => .list (ws.map .int)
theorem pu_stream : ∀ ds S K KX, lent F_stream ds S K KX → ws__law_stream { nx := fun _ S1 => K (.z .none) S1, rt := K, ex := fun y _ S1 => KX y S1 } (startE nm__law_stream ds) S := by
  refine fsq_ok fun ⟨c, n⟩ hn K KX hk => ?_
  dsimp only at hn hk
  walk_at "go"
  refine pFor_range (fun i env S => ∃ v4 m ts gs, env = [some (.z (.int c)), some (.z (.int n)), some (.r 0), some (.z (.int m)), v4] ∧ S = .lst (ts.map fun x => .z (.int x)) :: gs ∧ NumOk m ∧ ts.length = i ∧ ∀ x ∈ ts, 0 ≤ x) ⟨none, _, [], [], rfl, rfl, num0 c, rfl, fun _ h => by cases h⟩ ?_ ?_
  · rintro i _ _ Q hi ⟨v4, m, ts, gs, rfl, rfl, hm, hl, ht⟩ hQ
    have hc := hm.mul
    have hi2 : i < n := by simpa using hi
    walk_at "go"
    refine hQ _ _ ⟨_, _, ts ++ [((m * m + 48271 * m + (0 + (i : Int))).fmod 2147483647).fdiv 8], gs, rfl, set0.trans (lst_eq (by rw [List.map_append]; rfl)), num1 _, by simp [hl], fun z hz => ?_⟩
    rcases List.mem_append.mp hz with h1 | h1
    · exact ht z h1
    · simp at h1; subst h1; exact Int.fdiv_nonneg (num1 _).1 (by decide)
  · rintro _ _ ⟨v4, m, ts, gs, rfl, rfl, hm, hl, ht⟩
    walk_at "go"
    exact hk _ _ ts (.r rfl (Vzs.map _ _)) ⟨by simpa using hl, ht⟩
structure AIn where
  net : Net
  ans : List Ans
  t : Int
def F_inside : Fsp := fsp (fun a : AIn => [eNet a.net, eAnss a.ans, .int a.t]) (fun a => InOk a.net a.ans ∧ 0 ≤ a.t ∧ a.t < a.net.things.length) fun a => eGoal (inside a.net a.ans a.t)
theorem pu_inside : ∀ ds S K KX, lent F_inside ds S K KX → ws_inside { nx := fun _ S1 => K (.z .none) S1, rt := K, ex := fun y _ S1 => KX y S1 } (startE nm_inside ds) S := by
  refine fsp_ok fun a ⟨hok, ht⟩ K KX hk => ?_
  walk_at "go"
  refine pGet.mk (ixD_bL (getI_at (d := .plain) ht)) ?_
  have hm := getI_mem (d := Thing.plain) ht
  unfold inside at hk
  cases hth : getI a.net.things .plain a.t with
  | plain => rw [hth] at hk; walk_at "go"; exact hk _ _ .z
  | part s => rw [hth] at hk; walk_at "go"; exact hk _ _ .z
  | sort q =>
    rw [hth] at hk hm
    have hq := hok.sort q hm
    walk_at "go"
    refine pGet.mk (ixD_bL (getI_at (d := .opn) hq)) ?_
    have hm2 := getI_mem (d := Ans.opn) hq
    dsimp only at hk
    cases ha : getI a.ans .opn q with
    | opn => rw [ha] at hk; walk_at "go"; exact hk _ _ .z
    | none_ x => rw [ha] at hk; walk_at "go"; exact hk _ _ .z
    | torn x => rw [ha] at hk; walk_at "go"; exact hk _ _ .z
    | thing t2 =>
      rw [ha] at hk hm2
      have ht2 := hok.ans t2 hm2
      walk_at "go"
      refine pGet.mk (ixD_bL (getI_at (d := .plain) ht2)) ?_
      dsimp only at hk
      cases h3 : getI a.net.things .plain t2 with
      | plain => rw [h3] at hk; walk_at "go"; exact hk _ _ .z
      | part s => rw [h3] at hk; walk_at "go"; exact hk _ _ .z
      | sort q => rw [h3] at hk; walk_at "go"; exact hk _ _ .z
/-! where a step goes -/
structure AGo where
  net : Net
  ans : List Ans
  st : ND.Step
structure GoOk (a : AGo) : Prop where
  i : InOk a.net a.ans
  s : a.st.by_ = true → 0 ≤ a.st.num ∧ a.st.num < a.ans.length
def F_goal : Fsp := fsp (fun a : AGo => [eNet a.net, eAnss a.ans, eStep a.st]) GoOk fun a => eGoal (WY.goal a.net a.ans a.st)
theorem pu_goal : ∀ ds S K KX, lent F_goal ds S K KX → ws_goal (frz F_inside) { nx := fun _ S1 => K (.z .none) S1, rt := K, ex := fun y _ S1 => KX y S1 } (startE nm_goal ds) S := by
  refine fsp_ok fun ⟨net, ans, ⟨lab, by_, num⟩⟩ ⟨hi, hs⟩ K KX hk => ?_
  dsimp only at hi hs
  unfold WY.goal at hk
  cases by_ with
  | false => walk_at "go"; exact hk _ _ .z
  | true =>
    have hn := hs rfl
    dsimp only at hk
    rw [if_pos rfl] at hk
    have hm := getI_mem (d := Ans.opn) hn
    walk_at "go"
    refine pGet.mk (ixD_bL (getI_at (d := .opn) hn)) ?_
    cases ha : getI ans .opn num with
    | opn => rw [ha] at hk; walk_at "go"; exact hk _ _ .z
    | none_ x => rw [ha] at hk; walk_at "go"; exact hk _ _ .z
    | torn x => rw [ha] at hk; walk_at "go"; exact hk _ _ .z
    | thing t2 =>
      rw [ha] at hk hm
      walk_at "go"
      refine fsp_call (⟨net, ans, t2⟩ : AIn) (.cons .b (.cons .b (.cons .z .nil))) ⟨hi, hi.ans t2 hm⟩ ?_
      walk_at "go"
      exact hk _ _ .z
open WY (Mk eMk Row eRow nextS TOk WOk RowOk inOk by_ok steps_in lgrs_snoc)
/-! the next state -/
def optI : Option Int → PyData
  | some i => .int i
  | none => .none
theorem bzTab (t : TB.XTab) : bz (TB.eTab t) = .b (TB.eTab t) := by
  unfold bz
  rw [if_neg]
  simp [TB.eTab, flatT, flatTs]
theorem find_at {α : Type} {p : α → Bool} {xs : List α} {i : Nat} {x : α} (h : xs[i]? = some x) (hn : (xs.take i).find? p = none) (hx : p x = true) : xs.find? p = some x := by
  induction xs generalizing i with
  | nil => simp at h
  | cons y ys ih =>
    cases i with
    | zero =>
      simp at h; subst h
      rw [List.find?_cons_of_pos hx]
    | succ i =>
      rw [List.take_succ_cons] at hn
      have hy : p y = false := by
        cases q : p y with
        | false => rfl
        | true => rw [List.find?_cons_of_pos q] at hn; cases hn
      rw [List.find?_cons_of_neg (by rw [hy]; decide)] at hn ⊢
      exact ih (by simpa using h) hn
def F_next : Fsp := fsp (fun a : TB.XTab × Int × Str => [TB.eTab a.1, .int a.2.1, .str a.2.2]) (fun a => 0 ≤ a.2.1 ∧ a.2.1 < a.1.states.length) fun a => optI (nextS a.1 a.2.1 a.2.2)
theorem pu_next_state : ∀ ds S K KX, lent F_next ds S K KX → ws_next_state { nx := fun _ S1 => K (.z .none) S1, rt := K, ex := fun y _ S1 => KX y S1 } (startE nm_next_state ds) S := by
  refine fsp_ok fun ⟨t, n, l⟩ hlt K KX hk => ?_
  dsimp only at hlt hk
  have hb := bzTab t
  have hs := getI_at (d := (([], []) : TB.XSt)) hlt
  unfold nextS at hk
  generalize getI t.states ([], []) n = s at hs hk
  simp only [List.map_cons, List.map_nil, hb]
  walk_at "go"
  refine pGet.mk (x := .b (TB.eSt s)) (by
    rw [bz_list]
    rw [← TB.bzSt]
    exact ixD_bL (f := TB.eSt) hs) ?_
  walk_at "go"
  refine pFor_xs s.1 TB.zG (by show (s.1.map TB.eG).map bz = _; rw [List.map_map]; rfl) (fun i env S => ∃ v3 v4, env = [some (.b (TB.eTab t)), some (.z (.int n)), some (.z (.str l)), v3, v4] ∧ (s.1.take i).find? (fun g => decide (g.1 = l)) = none) ⟨_, _, rfl, rfl⟩ (fun _ _ _ _ _ => trivial) ?_ ?_
  · rintro i g _ S Q hg2 ⟨v3, v4, rfl, hn⟩ hQ
    walk_at "go"
    refine pIf.mk (fun c => ?_) (fun c => ?_)
    · walk_at "go"
      rw [find_at hg2 hn c] at hk
      exact hk _ _ .z
    · walk_at "go"
      refine hQ _ _ ⟨_, _, rfl, ?_⟩
      rw [List.take_add_one, hg2, List.find?_append, hn]
      simp only [Option.toList_some, Option.none_or]
      rw [List.find?_cons_of_neg (by rw [c]; decide)]; rfl
  · rintro _ S ⟨v3, v4, rfl, hn⟩
    rw [List.take_length] at hn
    walk_at "go"
    rw [hn] at hk
    exact hk _ _ .z
/-! drawn parts -/
theorem zsI (ns : List Int) : (ns.map PyData.int).map D.z = ns.map fun i => .z (.int i) := by rw [List.map_map]; rfl
def underB (a b : Int) : Bool := if a.fmod 4 > b.fmod 4 ∨ (a.fdiv 4).fmod 4 > (b.fdiv 4).fmod 4 then false else decide (a.fmod 16 ≠ b.fmod 16)
theorem under_irr (a : Int) : underB a a = false := by
  unfold underB
  split
  · rfl
  · simp
theorem under_tr {a b c : Int} (h1 : underB a b = true) (h2 : underB b c = true) : underB a c = true := by
  unfold underB at *
  split at h1
  · cases h1
  · split at h2
    · cases h2
    · have h1 := of_decide_eq_true h1
      have h2 := of_decide_eq_true h2
      simp only [Int.fmod_eq_emod_of_nonneg _ (show (0 : Int) ≤ 4 by decide), Int.fmod_eq_emod_of_nonneg _ (show (0 : Int) ≤ 16 by decide), Int.fdiv_eq_ediv_of_nonneg _ (show (0 : Int) ≤ 4 by decide)] at *
      rw [if_neg (by omega)]
      exact decide_eq_true (by omega)
def F_under : Fsp := fsp (fun a : Int × Int => [.int a.1, .int a.2]) (fun _ => True) fun a => .bool (underB a.1 a.2)
theorem pu_under : ∀ ds S K KX, lent F_under ds S K KX → ws__law_under { nx := fun _ S1 => K (.z .none) S1, rt := K, ex := fun y _ S1 => KX y S1 } (startE nm__law_under ds) S := by
  refine fsp_ok fun ⟨c, n⟩ _ K KX hk => ?_
  dsimp only at hk
  unfold underB at hk
  walk_at "go"
  refine pIf.mk (fun c1 => ?_) (fun c1 => ?_)
  · rw [if_pos (.inl (of_decide_eq_true c1))] at hk
    walk_at "go"
    exact hk _ _ .z
  · have c1 := of_decide_eq_false c1
    walk_at "go"
    refine pIf.mk (fun c2 => ?_) (fun c2 => ?_)
    · rw [if_pos (.inr (of_decide_eq_true c2))] at hk
      walk_at "go"
      exact hk _ _ .z
    · have c2 := of_decide_eq_false c2
      rw [if_neg (by rintro (z | z); exact c1 z; exact c2 z)] at hk
      walk_at "go"
      have e : (!decide (c.fmod 16 = n.fmod 16)) = decide (c.fmod 16 ≠ n.fmod 16) := by simp
      refine hk _ _ ?_
      rw [← e]
      exact .z
def F_things : Fsp := fsq (fun a : Int × Nat × Nat × Nat => [.int a.1, .int a.2.1, .int a.2.2.1, .int a.2.2.2]) (fun a => a.2.1 ≤ 80 ∧ 0 < a.2.2.1 ∧ 0 < a.2.2.2) (fun a (ts : List Thing) => ts.length = a.2.1 ∧ ∀ x ∈ ts, ThingOk a.2.2.1 a.2.2.2 x) fun ws => .list (ws.map eThing)
theorem pu_things : ∀ ds S K KX, lent F_things ds S K KX → ws__law_things (frz F_stream) { nx := fun _ S1 => K (.z .none) S1, rt := K, ex := fun y _ S1 => KX y S1 } (startE nm__law_things ds) S := by
  refine fsq_ok fun ⟨c, n, s, q⟩ ⟨h0, hs, hq⟩ K KX hk => ?_
  dsimp only at h0 hs hq hk
  walk_at "go"
  refine fsq_call (c, n) (.cons .z (.cons .z .nil)) (show n ≤ 1000 by omega) fun ms ⟨lm, hm⟩ => ?_
  dsimp only at lm
  walk_at "go"
  refine pFor_xs ms (fun i => .z (.int i)) (zsI ms) (fun i env S => ∃ v5 ts gs, env = [some (.z (.int c)), some (.z (.int n)), some (.z (.int s)), some (.z (.int q)), some (.r 0), v5] ∧ S = .lst (ts.map fun x => .z (eThing x)) :: gs ∧ ts.length = i ∧ ∀ x ∈ ts, ThingOk s q x) ⟨none, [], [], rfl, rfl, rfl, fun _ h => by cases h⟩ (fun _ _ _ _ _ => trivial) ?_ ?_
  · rintro i m _ _ Q hi ⟨v5, ts, gs, rfl, rfl, hl, ht⟩ hQ
    have hi2 := (List.getElem?_eq_some_iff.mp hi).1
    have fin : ∀ (t : Thing), ThingOk s q t → Q [some (.z (.int c)), some (.z (.int n)), some (.z (.int s)), some (.z (.int q)), some (.r 0), some (.z (.int m))] (.lst ((ts ++ [t]).map fun x => .z (eThing x)) :: gs) := fun t h => hQ _ _ ⟨_, ts ++ [t], gs, rfl, rfl, by simp [hl], fun z hz => by
      rcases List.mem_append.mp hz with h1 | h1
      · exact ht z h1
      · simp at h1; subst h1; exact h⟩
    simp only [List.map_append, List.map_cons, List.map_nil] at fin
    walk_at "go"
    refine pIf.mk (fun _ => ?_) (fun _ => ?_)
    · walk_at "go"
      exact fin .plain trivial
    · walk_at "go"
      refine pIf.mk (fun _ => ?_) (fun _ => ?_)
      · walk_at "go"
        exact fin (.sort _) (fmod_b (by omega))
      · walk_at "go"
        exact fin (.part _) (fmod_b (by omega))
  · rintro _ _ ⟨v5, ts, gs, rfl, rfl, hl, ht⟩
    walk_at "go"
    exact hk _ _ ts (.r rfl (Vzs.map _ _)) ⟨by omega, ht⟩
def F_questions : Fsp := fsq (fun a : Int × Nat × Nat × Nat × List Str => [.int a.1, .int a.2.1, .int a.2.2.1, .int a.2.2.2.1, .list (a.2.2.2.2.map .str)]) (fun a => a.2.1 ≤ 60 ∧ 0 < a.2.2.1 ∧ 0 < a.2.2.2.1 ∧ a.2.2.2.2.length = 9 ∧ ∀ x ∈ a.2.2.2.2, isNm x) (fun a (ts : List Quest) => ts.length = a.2.1 ∧ ∀ x ∈ ts, QuestOk a.2.2.1 x ∧ x.state < a.2.2.2.1) fun ws => .list (ws.map eQuest)
theorem pu_questions : ∀ ds S K KX, lent F_questions ds S K KX → ws__law_questions (frz F_stream) { nx := fun _ S1 => K (.z .none) S1, rt := K, ex := fun y _ S1 => KX y S1 } (startE nm__law_questions ds) S := by
  refine fsq_ok fun ⟨c, n, s, t, ws⟩ ⟨h0, hs, ht, h9, hw⟩ K KX hk => ?_
  dsimp only at h0 hs ht h9 hw hk
  walk_at "go"
  refine fsq_call (c, n) (.cons .z (.cons .z .nil)) (show n ≤ 1000 by omega) fun ms ⟨lm, hm⟩ => ?_
  dsimp only at lm
  walk_at "go"
  refine pFor_xs ms (fun i => .z (.int i)) (zsI ms) (fun i env S => ∃ v6 v7 v8 qs gs, env = [some (.z (.int c)), some (.z (.int n)), some (.z (.int s)), some (.z (.int t)), some (.b (.list (ws.map .str))), some (.r 0), v6, v7, v8] ∧ S = .lst (qs.map fun x => .z (eQuest x)) :: gs ∧ qs.length = i ∧ ∀ x ∈ qs, QuestOk s x ∧ x.state < t) ⟨none, none, none, [], [], rfl, rfl, rfl, fun _ h => by cases h⟩ (fun _ _ _ _ _ => trivial) ?_ ?_
  · rintro i m _ _ Q hi ⟨v6, v7, v8, qs, gs, rfl, rfl, hl, hq⟩ hQ
    have hi2 := (List.getElem?_eq_some_iff.mp hi).1
    have hb := fmod_b (a := m.fdiv 20) (b := 3) (by decide)
    obtain ⟨k, hk6⟩ : ∃ k : Nat, 1 + (m.fdiv 20).fmod 3 = (k : Int) := ⟨(1 + (m.fdiv 20).fmod 3).toNat, by omega⟩
    walk_at "go"
    rw [hk6]
    have ek : ((k : Nat) : Int).toNat = k := by omega
    rw [ek]
    let nm : Nat → Str := fun j => ws.getD ((((m.fdiv 60).fdiv (0 + (j : Int) + 1)) + (0 + (j : Int))).fmod 3).toNat ⟨#[]⟩
    have hb3 : ∀ a : Int, 0 ≤ a.fmod 3 ∧ a.fmod 3 < ws.length := fun a => by
      have := fmod_b (a := a) (b := 3) (by decide)
      rw [h9]; exact ⟨this.1, by omega⟩
    refine pLc_rg (fun j => .z (.str (nm j))) (by omega) (fun j hj => ⟨_, rfl, fun S1 K _ h => ?_⟩) ?_
    · walk_at "go"
      refine pGet.mk (ixD_bL (getI_at (d := ⟨#[]⟩) (hb3 _))) ?_
      exact h
    · walk_at "go"
      refine hQ _ _ ⟨_, _, _, qs ++ [⟨m.fmod s, (m.fdiv 5).fmod t, (List.range k).map nm⟩], _, rfl, set0_app.trans (lst_eq ?_), by simp [hl], ?_⟩
      · rw [List.map_append]
        show _ = _ ++ [D.z (eQuest _)]
        congr 2
        show mkT [_, _, mkT ((List.range k).map fun j => D.z (.str (nm j)))] = _
        rw [mkT_map]
        show D.z _ = D.z _
        unfold eQuest
        rw [List.map_map]; rfl
      · intro x hx
        rcases List.mem_append.mp hx with h | h
        · exact hq x h
        · simp at h; subst h
          refine ⟨⟨fmod_b (by omega), (fmod_b (by omega)).1, ?_, ?_, ?_⟩, (fmod_b (by omega)).2⟩
          · intro e
            have := congrArg List.length e
            simp at this
            omega
          · simp; omega
          · intro x hx
            obtain ⟨j, _, rfl⟩ := List.mem_map.mp hx
            exact (hw _ (getI_mem (d := (⟨#[]⟩ : Str)) (hb3 _))).ok
  · rintro _ _ ⟨v6, v7, v8, qs, gs, rfl, rfl, hl, hq⟩
    walk_at "go"
    exact hk _ _ qs (.r rfl (Vzs.map _ _)) ⟨by omega, hq⟩
def F_answers : Fsr := fsrq (fun a : Int × Net => [.int a.1, eNet a.2]) (fun a => a.2.quests.length ≤ 60 ∧ (∀ q ∈ a.2.quests, q.path ≠ []) ∧ 0 < a.2.things.length) (fun a (ts : List Ans) => ts.length = a.2.quests.length ∧ ∀ x ∈ ts, AnsOk a.2.things.length x) fun ws => lz eAns ws
theorem pu_answers : ∀ ds S K KX, lentR F_answers ds S K KX → ws__law_answers (frz F_stream) { nx := fun _ S1 => K (.z .none) S1, rt := K, ex := fun y _ S1 => KX y S1 } (startE nm__law_answers ds) S := by
  refine fsrq_ok fun ⟨c, net⟩ ⟨h0, hq, hn⟩ K KX hk => ?_
  dsimp only at h0 hq hn hk
  walk_at "go"
  rw [List.length_map]
  refine fsq_call (c, net.quests.length) (.cons .z (.cons .z .nil)) (show net.quests.length ≤ 1000 by omega) fun ms ⟨lm, hm⟩ => ?_
  dsimp only at lm
  walk_at "go"
  refine pFor_xs ms (fun i => .z (.int i)) (zsI ms) (fun i env S => ∃ v3 v4 ts gs, env = [some (.z (.int c)), some (.b (eNet net)), some (.r 0), v3, v4] ∧ S = .lst (ts.map fun x => .z (eAns x)) :: gs ∧ ts.length = i ∧ ∀ x ∈ ts, AnsOk net.things.length x) ⟨none, none, [], [], rfl, rfl, rfl, fun _ h => by cases h⟩ (fun _ _ _ _ _ => trivial) ?_ ?_
  · rintro i m _ _ Q hi ⟨v3, v4, ts, gs, rfl, rfl, hl, ht⟩ hQ
    have hi2 := (List.getElem?_eq_some_iff.mp hi).1
    obtain ⟨q, hqx, hqn⟩ : ∃ q, atD net.quests (i : Int) = some q ∧ q.path ≠ [] := ⟨_, atD_in (by omega) (by omega), hq _ (List.getElem_mem _)⟩
    have fin : ∀ (t : Ans) (T : Sto), AnsOk net.things.length t → Q [some (.z (.int c)), some (.b (eNet net)), some (.r 0), some (.z (.int m)), some (.z (.tuple (q.path.map .str)))] (.lst ((ts ++ [t]).map fun x => .z (eAns x)) :: (gs ++ T)) := fun t T h => hQ _ _ ⟨_, _, ts ++ [t], gs ++ T, rfl, rfl, by simp [hl], fun z hz => by
      rcases List.mem_append.mp hz with h1 | h1
      · exact ht z h1
      · simp at h1; subst h1; exact h⟩
    simp only [List.map_append, List.map_cons, List.map_nil] at fin
    have hqp : ((q.path.length : Nat) : Int) ≠ 0 := by
      have : q.path.length ≠ 0 := fun e => hqn (List.length_eq_zero_iff.mp e)
      omega
    walk_at "go"
    rw [List.length_map, hl]
    refine pGet.mk (ixD_bL hqx) ?_
    rw [bzQ]
    walk_at "go"
    refine pIf.mk (fun _ => ?_) (fun _ => ?_)
    · walk_at "go"
      have := fin .opn [] trivial
      rw [List.append_nil] at this
      exact this
    · walk_at "go"
      refine pIf.mk (fun _ => ?_) (fun _ => ?_)
      · walk_at "go"
        obtain ⟨b, hb⟩ : ∃ b : Bool, (m.fdiv 8).fmod 2 = if b then 0 else 1 := by
          have := fmod_b (a := m.fdiv 8) (b := 2) (by decide)
          by_cases h : (m.fdiv 8).fmod 2 = 0
          · exact ⟨true, h⟩
          · exact ⟨false, by simp only [Bool.false_eq_true, if_false]; omega⟩
        rw [hb]
        refine pGet.mk (x := D.z (.str (if b then "none" else "torn"))) (by cases b <;> rfl) ?_
        walk_at "go"
        rw [List.length_map]
        walk_at "go"
        cases b
        · exact fin (.torn _) _ trivial
        · exact fin (.none_ _) _ trivial
      · walk_at "go"
        rw [List.length_map]
        walk_at "go"
        have := fin (.thing ((m.fdiv 8).fmod net.things.length)) [] (fmod_b (by omega))
        rw [List.append_nil] at this
        exact this
  · rintro _ _ ⟨v3, v4, ts, gs, rfl, rfl, hl, ht⟩
    walk_at "go"
    exact hk _ _ ts [0] (VR.lz rfl) (by decide) ⟨by omega, ht⟩
end K27

set_option Elab.async false
set_option linter.all false
set_option maxRecDepth 100000
set_option maxHeartbeats 1000000
namespace K27
open PySem L2 PL ND
local macro_rules | `(tactic| walk_at "st1") => `(tactic| first | assumption | exact sto_last | exact sto_r0 | exact sto_r1 | exact sto_r2 | exact sto_r3 | exact sto_r4)
local macro_rules | `(tactic| walk_at "sto") => `(tactic| first | walk_at "st1" | exact sto_app (by walk_at "st1") | exact sto_app (sto_app (by walk_at "st1")))
local macro_rules | `(tactic| walk_at "sz") => `(tactic| ((try simp only [List.length_map, List.length_range, List.length_append, List.length_cons, List.length_nil]); omega))
local macro_rules | `(tactic| walk_at "go") => `(tactic| ((try (conv => whnf)); repeat ((first | (show pIf _ _ _; first | refine pIf.tt rfl ?_ | refine pIf.ff rfl ?_) | (show pReq _ _; first | refine pReq.mk rfl ?_ | refine pReq.mk (sz_le rfl) ?_ | refine pReq.mk (sz_lt rfl) ?_ | refine pReq.mk (by decide) ?_ | refine pReq.mk (Or.inr (by decide)) ?_ | refine pReq.mk (Or.inl (by decide)) ?_ | refine pReq.mk (by assumption) ?_ | refine pReq.mk (isTy_l (by walk_at "sto")) ?_ | refine pReq.mk (by omega) ?_ | refine pReq.mk (sz_lt6 (by walk_at "sz")) ?_ | refine pReq.mk (sz_le6 (by walk_at "sz")) ?_ | refine pReq.mk (by walk_at "sz") ?_) | (show pGet _ _; first | refine pGet.mk rfl ?_ | refine pGet.mk (by walk_at "sto") ?_ | refine pGet.mk (lenD_at (by walk_at "sto")) ?_ | refine pGet.mk (sqD_at (by walk_at "sto")) ?_ | refine pGet.mk (lsD_at (by walk_at "sto")) ?_ | refine pGet.mk (lsR_at (by walk_at "sto")) ?_ | refine pGet.mk (srcD_at (by walk_at "sto")) ?_ | refine pGet.mk (tyD_l (by walk_at "sto")) ?_)); (try (conv => whnf)))))
open WY (Mk eMk Row eRow nextS TOk WOk RowOk inOk by_ok steps_in lgrs_snoc)
/-! a drawn table -/
theorem vzsSc {S : Sto} : ∀ {ps : List (Nat × Nat)} {ss : List TB.XSt}, TB.ScsIn S ps ss → Vzs S (ps.map NE.scD) (ss.map TB.eSt)
  | [], _, h => by cases h; exact .nil
  | p :: ps, _, h => by cases h with | cons a b => exact .cons (.t (.cons (.r a.a (Vzs.map _ _)) (.cons (.r a.b (Vzs.map _ _)) .nil))) (vzsSc b)
def TStOk (m : Nat) (s : TB.XSt) : Prop := (∀ g ∈ s.1, PyData.strOk g.1 = true ∧ 0 ≤ g.2 ∧ g.2 < m) ∧ ∀ w ∈ s.2, PyData.strOk w = true
/-- a state under way, its two lists new -/
structure TIn (S S2 : Sto) (m a b : Nat) (gs : List (Str × Int)) (ws : List Str) : Prop where
  g : S2[S.length]? = some (.lst (gs.map TB.zG))
  w : S2[S.length + 1]? = some (.lst (ws.map TB.zW))
  k : Keep [] S S2
  lg : gs.length ≤ a
  lw : ws.length ≤ b
  o : TStOk m (gs, ws)
theorem TIn.new {S : Sto} {m : Nat} : TIn S (S ++ [Ob.lst []] ++ [Ob.lst []]) m 0 0 [] [] := by
  refine ⟨sto_app sto_last, ?_, Keep.app.trans Keep.app, Nat.le_refl _, Nat.le_refl _, fun _ h => (by cases h), fun _ h => (by cases h)⟩
  rw [show S.length + 1 = (S ++ [Ob.lst []]).length by simp]
  exact sto_last
theorem TIn.lt {S S2 : Sto} {m i j : Nat} {gs : List (Str × Int)} {ws : List Str} (h : TIn S S2 m i j gs ws) : S.length + 1 < S2.length := (List.getElem?_eq_some_iff.mp h.w).1
theorem keep_set {S S2 : Sto} {n : Nat} {o : Ob} (k : Keep [] S S2) (h : S.length ≤ n) : Keep [] S (S2.set n o) := fun a b h0 e => by
  have := (List.getElem?_eq_some_iff.mp e).1
  rw [List.getElem?_set_ne (by omega)]
  exact k a b h0 e
theorem TIn.putG {S S2 : Sto} {m i j : Nat} {gs : List (Str × Int)} {ws : List Str} (h : TIn S S2 m i j gs ws) {x : Str} {n : Int} (hx : PyData.strOk x = true) (hn : 0 ≤ n ∧ n < m) : TIn S (S2.set S.length (.lst (gs.map TB.zG ++ [.z (.tuple [.str x, .int n])]))) m (i + 1) j (gs ++ [(x, n)]) ws := by
  have := h.lt
  refine ⟨by rw [List.getElem?_set_self (by omega), List.map_append]; rfl, by rw [List.getElem?_set_ne (by omega)]; exact h.w, keep_set h.k (Nat.le_refl _), ?_, h.lw, fun g hg => ?_, h.o.2⟩
  · have := h.lg; simp; omega
  · rcases List.mem_append.mp hg with hg | hg
    · exact h.o.1 g hg
    · simp at hg; subst hg; exact ⟨hx, hn⟩
theorem TIn.putW {S S2 : Sto} {m i j : Nat} {gs : List (Str × Int)} {ws : List Str} (h : TIn S S2 m i j gs ws) {x : Str} (hx : PyData.strOk x = true) : TIn S (S2.set (S.length + 1) (.lst (ws.map TB.zW ++ [.z (.str x)]))) m i (j + 1) gs (ws ++ [x]) := by
  have := h.lt
  refine ⟨by rw [List.getElem?_set_ne (by omega)]; exact h.g, by rw [List.getElem?_set_self (by omega), List.map_append]; rfl, keep_set h.k (Nat.le_succ _), h.lg, ?_, h.o.1, fun g hg => ?_⟩
  · have := h.lw; simp; omega
  · rcases List.mem_append.mp hg with hg | hg
    · exact h.o.2 g hg
    · simp at hg; subst hg; exact hx
theorem TIn.mono {S S2 : Sto} {m i j i2 j2 : Nat} {gs : List (Str × Int)} {ws : List Str} (h : TIn S S2 m i j gs ws) (hi : i ≤ i2) (hj : j ≤ j2) : TIn S S2 m i2 j2 gs ws := ⟨h.g, h.w, h.k, Nat.le_trans h.lg hi, Nat.le_trans h.lw hj, h.o⟩
theorem alP (ps : List OR.Pr) : PySem.W.AllAlike (ps.map OR.eP) := .of fun a b => by simp [OR.eP, PySem.W.alike, PySem.W.alikeAll]
def sortP (ps : List OR.Pr) : List OR.Pr := ps.mergeSort (PySem.W.dataLe false OR.eP)
theorem sort_p {ps : List OR.Pr} {S : Sto} {x : D} {K : K1} (h : lsD S x = some (ps.map fun p => .z (OR.eP p))) (hl : ps.length ≤ 1000) (k : K (.r S.length) (S ++ [.lst ((sortP ps).map fun p => .z (OR.eP p))])) : SortOk S x K :=
  sort_z h (alP ps) (.tuples fun g => ⟨_, _, rfl⟩) (fun g _ => by simp [OR.eP, PyData.depth, PyData.depthAll]) (sz_le6 (by omega)) k
theorem mem_sortG {g : Str × Int} {gs : List (Str × Int)} : g ∈ sortG gs ↔ g ∈ gs := (List.mergeSort_perm gs _).mem_iff
theorem mem_sortW {w : Str} {ws : List Str} : w ∈ sortW ws ↔ w ∈ ws := (List.mergeSort_perm ws _).mem_iff
theorem mem_sortP {p : OR.Pr} {ps : List OR.Pr} : p ∈ sortP ps ↔ p ∈ ps := (List.mergeSort_perm ps _).mem_iff
theorem scD_app (ps : List (Nat × Nat)) (p : Nat × Nat) : (ps ++ [p]).map NE.scD = ps.map NE.scD ++ [.t [.r p.1, .r p.2]] := by rw [List.map_append]; rfl
structure TSts (S : Sto) (m c : Nat) (ps : List (Nat × Nat)) (ss : List TB.XSt) : Prop where
  l : S[0]? = some (.lst (ps.map NE.scD))
  i : TB.ScsIn S ps ss
  n : ss.length = c
  p : ∀ m ∈ NE.plcs ps, 0 < m
  o : ∀ s ∈ ss, TStOk m s
theorem TSts.keep {S S2 : Sto} {m i : Nat} {ps : List (Nat × Nat)} {ss : List TB.XSt} (h : TSts S m i ps ss) (k : Keep [] S S2) : TSts S2 m i ps ss :=
  ⟨k _ _ (by simp) h.l, h.i.sub fun m _ o => k m o (by simp), h.n, h.p, h.o⟩
theorem TSts.snoc {S : Sto} {m i : Nat} {ps : List (Nat × Nat)} {ss : List TB.XSt} {gs : List (Str × Int)} {ws : List Str} (h : TSts S m i ps ss) (o : TStOk m (gs, ws)) :
    TSts ((S ++ [Ob.lst (gs.map TB.zG)] ++ [Ob.lst (ws.map TB.zW)]).set 0 (Ob.lst (ps.map NE.scD ++ [D.t [.r S.length, .r (S ++ [Ob.lst (gs.map TB.zG)]).length]]))) m (i + 1) (ps ++ [(S.length, S.length + 1)]) (ss ++ [(gs, ws)]) := by
  have h0 : 0 < S.length := (List.getElem?_eq_some_iff.mp h.l).1
  have e1 : (S ++ [Ob.lst (gs.map TB.zG)]).length = S.length + 1 := by simp
  have k0 : ∀ n o, 0 < n → (S ++ [Ob.lst (gs.map TB.zG)] ++ [Ob.lst (ws.map TB.zW)])[n]? = some o → ((S ++ [Ob.lst (gs.map TB.zG)] ++ [Ob.lst (ws.map TB.zW)]).set 0 (Ob.lst (ps.map NE.scD ++ [D.t [.r S.length, .r (S ++ [Ob.lst (gs.map TB.zG)]).length]])))[n]? = some o := fun n o hn e => by
    rw [List.getElem?_set_ne (by omega)]; exact e
  refine ⟨?_, TB.ScsIn.snoc (h.i.sub fun m hm o e => k0 m o (h.p m hm) (sto_app (sto_app e))) ⟨k0 _ _ h0 (sto_app sto_last), ?_⟩, by simp [h.n], fun m hm => ?_, fun s hs => ?_⟩
  · rw [List.getElem?_set_self (by simp), scD_app, e1]
  · refine k0 _ _ (by omega) ?_
    rw [← e1]; exact sto_last
  · unfold NE.plcs at hm
    rw [List.flatMap_append] at hm
    rcases List.mem_append.mp hm with hm | hm
    · exact h.p m hm
    · simp at hm; omega
  · rcases List.mem_append.mp hs with hs | hs
    · exact h.o s hs
    · simp at hs; subst hs; exact o
def F_table : Fsp := fsq (fun a : Int × List Str => [.int a.1, .list (a.2.map .str)]) (fun a => a.2.length = 5 ∧ (∀ x ∈ a.2, isNm x) ∧ a.2.Nodup) (fun _ (t : TB.XTab) => TOk t) fun t => TB.eTab t
theorem pu_table : ∀ ds S K KX, lent F_table ds S K KX → ws__law_table (frz F_stream) (frz F_under) { nx := fun _ S1 => K (.z .none) S1, rt := K, ex := fun y _ S1 => KX y S1 } (startE nm__law_table ds) S := by
  refine fsq_ok fun ⟨c, ls⟩ ⟨h5, hw, hnd⟩ K KX hk => ?_
  dsimp only at h5 hw hnd hk
  have fin : ∀ (xs : List Int) (m : Nat) (ps : List (Nat × Nat)) (ss : List TB.XSt) (v5 v7 v8 v9 : Option D) (S : Sto), xs.length = 47 → 1 ≤ m → m ≤ 9 → TSts S m m ps ss → _law_table_r2 (frz F_under) (ends K KX) [some (.z (.int c)), some (.b (.list (ls.map .str))), some (.z (.list (xs.map .int))), some (.z (.int m)), some (.r 0), v5, none, v7, v8, v9] S := by
    intro xs m ps ss v5 v7 v8 v9 S lx m1 m9 hT
    walk_at "go"
    have h0 := hT.l
    let X : Nat → Int := fun j => getI xs 0 (41 + (j : Int))
    let Lb : Nat → Str := fun j => getI ls ⟨#[]⟩ (j : Int)
    have lbx : ∀ {j : Nat}, j < 5 → ls[j]? = some (Lb j) := fun {j} hj => by
      have := getI_at (xs := ls) (d := (⟨#[]⟩ : Str)) (i := (j : Int)) ⟨by omega, by rw [h5]; omega⟩
      exact this
    have lbi : ∀ {j k : Nat}, j < 5 → k < 5 → Lb j = Lb k → j = k := fun {j k} hj hk e => by
      have h1 := lbx hj
      have h2 := lbx hk
      rw [e] at h1
      exact (List.getElem?_inj (by omega) hnd).mp (h1.trans h2.symm)
    have last : ∀ (rs : List OR.Pr) (v5 v7 : Option D) (S2 : Sto), Keep [] S S2 → S2[S.length]? = some (.lst (rs.map fun p => .z (OR.eP p))) → rs.length ≤ 25 → (∀ p ∈ rs, ∃ j k, j < 5 ∧ k < 5 ∧ p = (Lb j, Lb k) ∧ underB (X j) (X k) = true) → (∀ j k, j < 5 → k < 5 → underB (X j) (X k) = true → (Lb j, Lb k) ∈ rs) → _law_table_r1 (ends K KX) [some (.z (.int c)), some (.b (.list (ls.map .str))), some (.z (.list (xs.map .int))), some (.z (.int m)), some (.r 0), v5, some (.r S.length), v7, v8, v9] S2 := by
      intro rs v5 v7 S2 kp ho hl hp hcp
      have hps : ∀ p ∈ rs, PyData.strOk p.1 = true ∧ PyData.strOk p.2 = true := fun p hp2 => by
        obtain ⟨j, k, hj, hk2, rfl, _⟩ := hp p hp2
        exact ⟨(hw _ (List.mem_of_getElem? (lbx hj))).ok, (hw _ (List.mem_of_getElem? (lbx hk2))).ok⟩
      walk_at "go"
      refine pGet.ex (ixD_zA (by rw [lx]; decide)) fun d ⟨x, _, hd⟩ => ?_
      subst hd
      walk_at "go"
      refine sort_p (lsD_at ho) (by omega) ?_
      walk_at "go"
      have hT2 := (hT.keep kp).keep (Keep.app (T := [.lst ((sortP rs).map fun p => .z (OR.eP p))]))
      refine hk _ _ ⟨ss, x.fmod m, sortP rs⟩ (.t (.cons (.r hT2.l (vzsSc hT2.i)) (.cons .z (.cons (.r sto_last (Vzs.map _ _)) .nil)))) ⟨fun s hs g hg => ?_, fun s hs w hw => ?_, fun p hp2 => hps p (mem_sortP.mp hp2), ?_, ?_, ?_, fun p hp2 e => ?_, fun p hp2 q hq2 e => ?_⟩
      · have := (hT.o s hs).1 g hg
        rw [← hT.n] at this; exact this
      · exact (hT.o s hs).2 w hw
      · show 1 ≤ ss.length
        rw [hT.n]; exact m1
      · show ss.length ≤ 9
        rw [hT.n]; exact m9
      · show 0 ≤ x.fmod m ∧ x.fmod m < ss.length
        rw [hT.n]; exact fmod_b (by omega)
      · obtain ⟨j, k, hj, hk2, rfl, hu⟩ := hp p (mem_sortP.mp hp2)
        have ejk := lbi hj hk2 e
        subst ejk
        rw [under_irr] at hu; cases hu
      · obtain ⟨j, k, hj, hk2, rfl, hu⟩ := hp p (mem_sortP.mp hp2)
        obtain ⟨j2, k2, hj2, hk3, rfl, hu2⟩ := hp q (mem_sortP.mp hq2)
        have ejk := lbi hk2 hj2 e
        subst ejk
        exact mem_sortP.mpr (hcp _ _ hj hk3 (under_tr hu hu2))
    generalize _law_table_r1 = r1 at last ⊢
    refine pFor_range (fun i env S2 => ∃ (v5 v7 : Option D) (rs : List OR.Pr), env = [some (.z (.int c)), some (.b (.list (ls.map .str))), some (.z (.list (xs.map .int))), some (.z (.int m)), some (.r 0), v5, some (.r S.length), v7, v8, v9] ∧ Keep [] S S2 ∧ S2[S.length]? = some (.lst (rs.map fun p => .z (OR.eP p))) ∧ rs.length ≤ 5 * i ∧ (∀ p ∈ rs, ∃ j k, j < 5 ∧ k < 5 ∧ p = (Lb j, Lb k) ∧ underB (X j) (X k) = true) ∧ ∀ j k, j < i → k < 5 → underB (X j) (X k) = true → (Lb j, Lb k) ∈ rs) ⟨v5, v7, [], rfl, .app, sto_last, Nat.zero_le _, (fun _ h => by cases h), fun _ _ h => absurd h (Nat.not_lt_zero _)⟩ ?_ ?_
    · rintro i _ S2 Q hi ⟨v5, v7, rs, rfl, kp, ho, hl, hp, hcp⟩ hQ
      have hi : i < 5 := hi
      walk_at "go"
      refine pFor_range (fun j env S2 => ∃ (v5 : Option D) (rs : List OR.Pr), env = [some (.z (.int c)), some (.b (.list (ls.map .str))), some (.z (.list (xs.map .int))), some (.z (.int m)), some (.r 0), v5, some (.r S.length), some (.z (.int (0 + (i : Int)))), v8, v9] ∧ Keep [] S S2 ∧ S2[S.length]? = some (.lst (rs.map fun p => .z (OR.eP p))) ∧ rs.length ≤ 5 * i + j ∧ (∀ p ∈ rs, ∃ j k, j < 5 ∧ k < 5 ∧ p = (Lb j, Lb k) ∧ underB (X j) (X k) = true) ∧ (∀ j k, j < i → k < 5 → underB (X j) (X k) = true → (Lb j, Lb k) ∈ rs) ∧ ∀ k, k < j → underB (X i) (X k) = true → (Lb i, Lb k) ∈ rs) ⟨v5, rs, rfl, kp, ho, hl, hp, hcp, fun _ h => absurd h (Nat.not_lt_zero _)⟩ ?_ ?_
      · rintro j _ S3 Q2 hj ⟨v5, rs, rfl, kp, ho, hl, hp, hcp, hcq⟩ hQ2
        have hj : j < 5 := hj
        walk_at "go"
        refine pGet.mk (ixD_zL (x := X i) (by
          have := getI_at (xs := xs) (d := 0) (i := 41 + (0 + (i : Int))) (by rw [lx]; omega)
          rw [show (41 : Int) + (0 + (i : Int)) = 41 + (i : Int) by omega] at this ⊢
          exact this)) ?_
        walk_at "go"
        refine pGet.mk (ixD_zL (x := X j) (by
          have := getI_at (xs := xs) (d := 0) (i := 41 + (0 + (j : Int))) (by rw [lx]; omega)
          rw [show (41 : Int) + (0 + (j : Int)) = 41 + (j : Int) by omega] at this ⊢
          exact this)) ?_
        walk_at "go"
        refine fsp_call (X i, X j) (.cons .z (.cons .z .nil)) trivial ?_
        dsimp only
        cases hu : underB (X i) (X j) with
        | false =>
          walk_at "go"
          refine hQ2 _ _ ⟨_, rs, rfl, kp, ho, by omega, hp, hcp, fun k hk2 h => ?_⟩
          by_cases ek : k = j
          · subst ek; rw [hu] at h; cases h
          · exact hcq k (by omega) h
        | true =>
          walk_at "go"
          refine pGet.mk (ixD_bL (x := Lb i) (by
            have := getI_at (xs := ls) (d := (⟨#[]⟩ : Str)) (i := 0 + (i : Int)) (by rw [h5]; omega)
            rw [show (0 : Int) + (i : Int) = (i : Int) by omega] at this ⊢
            exact this)) ?_
          walk_at "go"
          refine pGet.mk (ixD_bL (x := Lb j) (by
            have := getI_at (xs := ls) (d := (⟨#[]⟩ : Str)) (i := 0 + (j : Int)) (by rw [h5]; omega)
            rw [show (0 : Int) + (j : Int) = (j : Int) by omega] at this ⊢
            exact this)) ?_
          walk_at "go"
          refine hQ2 _ _ ⟨_, rs ++ [(Lb i, Lb j)], rfl, keep_set kp (Nat.le_refl _), ?_, by simp; omega, fun p hp2 => ?_, fun a b ha hb h => List.mem_append_left _ (hcp a b ha hb h), fun k hk2 h => ?_⟩
          · rw [List.getElem?_set_self (List.getElem?_eq_some_iff.mp ho).1, List.map_append]; rfl
          · rcases List.mem_append.mp hp2 with h | h
            · exact hp p h
            · simp at h; subst h; exact ⟨i, j, hi, hj, rfl, hu⟩
          · by_cases ek : k = j
            · subst ek; simp
            · exact List.mem_append_left _ (hcq k (by omega) h)
      · rintro _ S3 ⟨v5, rs, rfl, kp, ho, hl, hp, hcp, hcq⟩
        refine hQ _ _ ⟨_, _, rs, rfl, kp, ho, by have : rs.length ≤ 5 * i + 5 := hl; omega, hp, fun a b ha hb h => ?_⟩
        by_cases ea : a = i
        · subst ea; exact hcq b hb h
        · exact hcp a b (by omega) hb h
    · rintro _ S2 ⟨v5, v7, rs, rfl, kp, ho, hl, hp, hcp⟩
      exact last rs v5 v7 S2 kp ho (by have : rs.length ≤ 5 * 5 := hl; omega) hp hcp
  unfold ws__law_table
  generalize _law_table_r2 (frz F_under) = r2 at fin ⊢
  walk_at "go"
  refine fsq_call (c, 47) (.cons .z (.cons .z .nil)) (show (47 : Nat) ≤ 1000 by decide) fun xs ⟨lx, hx⟩ => ?_
  dsimp only at lx
  walk_at "go"
  refine pGet.ex (ixD_zA (by rw [lx]; decide)) fun d ⟨x0, _, hd⟩ => ?_
  subst hd
  have hb := fmod_b (a := x0) (b := 4) (by decide)
  obtain ⟨m, hm⟩ : ∃ m : Nat, 1 + x0.fmod 4 = (m : Int) := ⟨(1 + x0.fmod 4).toNat, by omega⟩
  walk_at "go"
  rw [hm]
  have em : ((m : Nat) : Int).toNat = m := by omega
  rw [em]
  refine pFor_range (fun i env S => ∃ (v5 v7 v8 v9 : Option D) (ps : List (Nat × Nat)) (ss : List TB.XSt), env = [some (.z (.int c)), some (.b (.list (ls.map .str))), some (.z (.list (xs.map .int))), some (.z (.int m)), some (.r 0), v5, none, v7, v8, v9] ∧ TSts S m i ps ss) ⟨none, none, none, none, [], [], rfl, rfl, .nil, rfl, fun _ h => (by cases h), fun _ h => (by cases h)⟩ ?_ ?_
  · rintro i _ S Q hi ⟨v5, v7, v8, v9, ps, ss, rfl, hT⟩ hQ
    have hi2 : i < m := hi
    have h0 := hT.l
    have e1 : (S ++ [Ob.lst []]).length = S.length + 1 := by simp
    walk_at "go"
    rw [e1]
    refine pFor_range (fun j env S2 => ∃ (v7 : Option D) (gs : List (Str × Int)) (ws : List Str), env = [some (.z (.int c)), some (.b (.list (ls.map .str))), some (.z (.list (xs.map .int))), some (.z (.int m)), some (.r 0), some (.z (.int (0 + (i : Int)))), none, v7, some (.r S.length), some (.r (S.length + 1))] ∧ TIn S S2 m j j gs ws) ⟨v7, [], [], rfl, TIn.new⟩ ?_ ?_
    · rintro j _ S2 Q2 hj ⟨v7, gs, ws, rfl, hI⟩ hQ2
      have hj : j < 5 := hj
      have hg := hI.g
      have lg := hI.lg
      walk_at "go"
      refine pGet.ex (ixD_zA (by rw [lx]; omega)) fun d ⟨x1, _, hd⟩ => ?_
      subst hd
      walk_at "go"
      refine pIf.mk (fun _ => ?_) (fun _ => ?_)
      all_goals
        walk_at "go"
        first
        | refine pGet.ex (ixD_bA (xs := ls) (f := PyData.str) (i := 0 + (j : Int)) (by rw [h5]; omega)) fun d ⟨l1, hl1, hd⟩ => ?_
          subst hd
          walk_at "go"
          refine pGet.ex (ixD_zA (by rw [lx]; omega)) fun d ⟨x2, _, hd⟩ => ?_
          subst hd
          walk_at "go"
          have hI2 : TIn S (S2.set S.length (.lst (gs.map TB.zG ++ [mkT [bz (.str l1), D.z (.int ((x2.fdiv 4).fmod m))]]))) m (j + 1) j (gs ++ [(l1, (x2.fdiv 4).fmod (m : Int))]) ws := hI.putG (hw _ hl1).ok (fmod_b (a := x2.fdiv 4) (b := (m : Int)) (by omega))
          generalize gs ++ [(l1, (x2.fdiv 4).fmod (m : Int))] = gs2 at hI2
          generalize S2.set S.length _ = S3 at hI2 ⊢
        | have hI2 := hI.mono (Nat.le_succ j) (Nat.le_refl j)
          generalize gs = gs2 at hI2
          generalize S2 = S3 at hI2 ⊢
        have hw3 := hI2.w
        have lw3 := hI2.lw
        walk_at "go"
        refine pGet.ex (ixD_zA (by rw [lx]; omega)) fun d ⟨x3, _, hd⟩ => ?_
        subst hd
        walk_at "go"
        refine pIf.mk (fun _ => ?_) (fun _ => ?_)
        · walk_at "go"
          refine pGet.ex (ixD_bA (xs := ls) (f := PyData.str) (i := 0 + (j : Int)) (by rw [h5]; omega)) fun d ⟨l3, hl3, hd⟩ => ?_
          subst hd
          walk_at "go"
          exact hQ2 _ _ ⟨_, _, _, rfl, hI2.putW (hw _ hl3).ok⟩
        · walk_at "go"
          exact hQ2 _ _ ⟨_, _, _, rfl, hI2.mono (Nat.le_refl _) (Nat.le_succ _)⟩
    · rintro _ S2 ⟨v7, gs, ws, rfl, hI⟩
      have hI : TIn S S2 m 5 5 gs ws := hI
      have hg := hI.g
      have hw2 := hI.w
      have lg := hI.lg
      have lw := hI.lw
      have h02 := hI.k 0 _ (by simp) h0
      have hps := hT.i.len
      have hn := hT.n
      walk_at "go"
      refine sort_g (lsD_at hg) (by omega) ?_
      walk_at "go"
      refine sort_w (lsD_at (sto_app hw2)) (by omega) ?_
      walk_at "go"
      exact hQ _ _ ⟨_, _, _, _, _, _, rfl, (hT.keep hI.k).snoc ⟨fun g hg => hI.o.1 g (mem_sortG.mp hg), fun w hw => hI.o.2 w (mem_sortW.mp hw)⟩⟩
  · rintro _ S ⟨v5, v7, v8, v9, ps, ss, rfl, hT⟩
    exact fin xs m ps ss v5 v7 v8 v9 S lx (by omega) (by omega) hT
end K27

set_option Elab.async false
set_option linter.all false
set_option maxRecDepth 100000
set_option maxHeartbeats 1000000
namespace K27
open PySem L2 PL ND
local macro_rules | `(tactic| walk_at "st1") => `(tactic| first | assumption | exact sto_last | exact sto_r0 | exact sto_r1 | exact sto_r2 | exact sto_r3 | exact sto_r4)
local macro_rules | `(tactic| walk_at "sto") => `(tactic| first | walk_at "st1" | exact sto_app (by walk_at "st1") | exact sto_app (sto_app (by walk_at "st1")))
local macro_rules | `(tactic| walk_at "sz") => `(tactic| ((try simp only [List.length_map, List.length_range, List.length_append, List.length_cons, List.length_nil]); omega))
local macro_rules | `(tactic| walk_at "go") => `(tactic| ((try (conv => whnf)); repeat ((first | (show pIf _ _ _; first | refine pIf.tt rfl ?_ | refine pIf.ff rfl ?_) | (show pReq _ _; first | refine pReq.mk rfl ?_ | refine pReq.mk (sz_le rfl) ?_ | refine pReq.mk (sz_lt rfl) ?_ | refine pReq.mk (by decide) ?_ | refine pReq.mk (Or.inr (by decide)) ?_ | refine pReq.mk (Or.inl (by decide)) ?_ | refine pReq.mk (by assumption) ?_ | refine pReq.mk (isTy_l (by walk_at "sto")) ?_ | refine pReq.mk (by omega) ?_ | refine pReq.mk (sz_lt6 (by walk_at "sz")) ?_ | refine pReq.mk (sz_le6 (by walk_at "sz")) ?_ | refine pReq.mk (by walk_at "sz") ?_) | (show pGet _ _; first | refine pGet.mk rfl ?_ | refine pGet.mk (by walk_at "sto") ?_ | refine pGet.mk (lenD_at (by walk_at "sto")) ?_ | refine pGet.mk (sqD_at (by walk_at "sto")) ?_ | refine pGet.mk (lsD_at (by walk_at "sto")) ?_ | refine pGet.mk (lsR_at (by walk_at "sto")) ?_ | refine pGet.mk (srcD_at (by walk_at "sto")) ?_ | refine pGet.mk (tyD_l (by walk_at "sto")) ?_)); (try (conv => whnf)))))
open WY (Mk eMk Row eRow nextS TOk WOk RowOk inOk by_ok steps_in lgrs_snoc)
/-! a step, a telling is laid -/
theorem atD_mapA {α : Type} {f : α → D} {xs : List α} {i : Int} (h : 0 ≤ i ∧ i < xs.length) : ∃ d, atD (xs.map f) i = some d ∧ ∃ x, x ∈ xs ∧ d = f x := by
  refine ⟨f (xs[i.toNat]'(by omega)), ?_, _, List.getElem_mem _, rfl⟩
  rw [atD_in h.1 (by rw [List.length_map]; exact h.2), List.getElem_map]
structure ALay where
  n0 : Nat
  ps : List (Nat × Nat)
  ss : List ND.Scope
  ts : List Thing
  qs : List Quest
  lab : Nat
  ls : List Str
  ws : List Str
  cell : Int
def most (n : Nat) : Nat := if n < 4 then 3 else 2
def Lay (ns nt nq : Nat) (s : ND.Scope) : Prop := ScopeOk ns nt nq s ∧ s.1.length ≤ most ns ∧ s.2.length ≤ 3
structure LayPre (a : ALay) (ds : List D) (S : Sto) : Prop where
  ds : ds = [.t [.r a.n0, .z (.list (a.ts.map eThing)), .z (.list (a.qs.map eQuest))], (.r a.lab), .z (.list (a.ws.map .str)), .z (.int a.cell)]
  at_ : ScsAt S a.n0 a.ps a.ss
  s0 : 0 < a.ss.length
  s40 : a.ss.length ≤ 9
  l1 : S[a.lab]? = some (.lst (a.ls.map fun x => .z (.str x)))
  l0 : 0 < a.ls.length
  l9 : a.ls.length ≤ 9
  lo : ∀ x ∈ a.ls, PyData.strOk x = true
  w9 : a.ws.length = 9
  w : ∀ x ∈ a.ws, isNm x
  q0 : 0 < a.qs.length
  t0 : 0 < a.ts.length
  sc : ∀ s ∈ a.ss, Lay a.ss.length a.ts.length a.qs.length s
def F_lay : Spc := fsm LayPre fun a d S S' => d = .z .none ∧ Keep (a.n0 :: plcs a.ps) S S' ∧ ∃ ss', ScsAt S' a.n0 a.ps ss' ∧ ss'.length = a.ss.length ∧ ∀ s ∈ ss', Lay a.ss.length a.ts.length a.qs.length s
theorem pu_lay : ∀ ds S K KX, F_lay ds S K KX → ws__law_lay { nx := fun _ S1 => K (.z .none) S1, rt := K, ex := fun y _ S1 => KX y S1 } (startE nm__law_lay ds) S := by
  refine fsm_ok fun ⟨n0, ps, ss, ts, qs, lab, ls, ws, c⟩ ds S ⟨e, hA, s0, s9, l1, l0, l9, lo, w9, hw, q0, t0, hsc⟩ K KX hk => ?_
  dsimp only at e hA s0 s9 l1 l0 l9 lo w9 hw q0 t0 hsc hk
  subst e
  have hl := hA.i.len
  have hl2 : (ps.map scD).length = ss.length := by rw [List.length_map, hl]
  have hlst := hA.l
  walk_at "go"
  rw [hl2]
  walk_at "go"
  have hi := fmod_b (a := ((c.fdiv 2 * 48271).fmod 2147483647)) (b := (ss.length : Int)) (by omega)
  obtain ⟨i, hi2⟩ : ∃ i : Nat, ((c.fdiv 2 * 48271).fmod 2147483647).fmod ss.length = (i : Int) := ⟨_, (Int.toNat_of_nonneg hi.1).symm⟩
  rw [hi2] at hi ⊢
  have hip : i < ps.length := by omega
  have hp := List.getElem?_eq_getElem hip
  obtain ⟨s, hs, hsi⟩ := hA.i.get hp
  generalize ps[i] = p at hp hsi
  refine pGet.mk (x := scD p) (atD_nat (by rw [List.getElem?_map, hp]; rfl)) ?_
  have hsl := hsc s (List.mem_of_getElem? hs)
  have hst := hsi.a
  have hst2 := hsi.b
  walk_at "go"
  rw [hl2]
  walk_at "go"
  rw [List.length_map]
  walk_at "go"
  refine pGet.ex (atD_mapA (fmod_b (by omega))) fun d ⟨x, hxm, hd⟩ => ?_
  subst hd
  have hok := lo x hxm
  walk_at "go"
  rw [List.length_map]
  walk_at "go"
  have hc1 : (((2 : Int) + if decide ((ss.length : Int) < 4) = true then 1 else 0)) = (most ss.length : Int) := by
    unfold most
    by_cases h : ss.length < 4
    · rw [if_pos h, decide_eq_true (by omega)]; rfl
    · rw [if_neg h, decide_eq_false (by omega)]; rfl
  have hc2 : (((2 : Int) + if decide ((ss.length : Int) < 5) = true then 1 else 0)) ≤ 3 := by
    split <;> omega
  have m3 : most ss.length ≤ 3 := by unfold most; split <;> omega
  have fin1 : ∀ st : ND.Step, s.1.length < most ss.length → StepOk ss.length qs.length st → K (.z .none) (S.set p.1 (.lst ((s.1.map fun x => .z (eStep x)) ++ [.z (eStep st)]))) := fun st h8 hst => by
    have := hA.put1 (xs := s.1 ++ [st]) hp hs
    rw [List.map_append] at this
    refine hk _ _ ⟨rfl, Keep.set (List.mem_cons_of_mem _ (mem_plcs (List.mem_of_getElem? hp)).1), _, this, set_len, fun t ht => ?_⟩
    rcases mem_set' ht with h | h
    · exact hsc t h
    · subst h
      refine ⟨⟨fun y hy => ?_, hsl.1.2⟩, by simp; omega, hsl.2.2⟩
      rcases List.mem_append.mp hy with h | h
      · exact hsl.1.1 y h
      · simp at h; subst h; exact hst
  have fin2 : ∀ st : ND.Tell, s.2.length < 3 → TellOk ts.length qs.length st → K (.z .none) (S.set p.2 (.lst ((s.2.map fun x => .z (eTell x)) ++ [.z (eTell st)]))) := fun st h8 hst => by
    have := hA.put2 (xs := s.2 ++ [st]) hp hs
    rw [List.map_append] at this
    refine hk _ _ ⟨rfl, Keep.set (List.mem_cons_of_mem _ (mem_plcs (List.mem_of_getElem? hp)).2), _, this, set_len, fun t ht => ?_⟩
    rcases mem_set' ht with h | h
    · exact hsc t h
    · subst h
      refine ⟨⟨hsl.1.1, fun y hy => ?_⟩, hsl.2.1, by simp; omega⟩
      rcases List.mem_append.mp hy with h | h
      · exact hsl.1.2 y h
      · simp at h; subst h; exact hst
  have kn : K (.z .none) S := hk _ _ ⟨rfl, Keep.refl, _, hA, rfl, hsc⟩
  refine pIf.mk (fun _ => ?_) (fun _ => ?_)
  · walk_at "go"
    rw [hl2, hc1]
    walk_at "go"
    refine pIf.mk (fun c8 => ?_) (fun c8 => ?_)
    · have c8 : s.1.length < most ss.length := by
        have := of_decide_eq_true c8
        rw [List.length_map] at this
        omega
      walk_at "go"
      refine pIf.mk (fun _ => ?_) (fun _ => ?_)
      · walk_at "go"
        rw [List.length_map]
        walk_at "go"
        exact fin1 ⟨x, true, _⟩ c8 ⟨hok, fmod_b (by omega)⟩
      · walk_at "go"
        rw [hl2]
        walk_at "go"
        exact fin1 ⟨x, false, _⟩ c8 ⟨hok, fmod_b (by omega)⟩
    · walk_at "go"
      exact kn
  · walk_at "go"
    rw [hl2]
    walk_at "go"
    refine pIf.mk (fun c8 => ?_) (fun c8 => ?_)
    · have c8 : s.2.length < 3 := by
        have := of_decide_eq_true c8
        rw [List.length_map] at this
        omega
      walk_at "go"
      refine pGet.ex (ixD_zA (by rw [w9]; exact ⟨(fmod_b (by decide)).1, Int.lt_trans (fmod_b (b := 3) (by decide)).2 (by decide)⟩)) fun d ⟨y, hym, hd⟩ => ?_
      subst hd
      walk_at "go"
      have hoky := (hw y hym).ok
      refine pIf.mk (fun _ => ?_) (fun _ => ?_)
      · walk_at "go"
        rw [List.length_map]
        walk_at "go"
        exact fin2 ⟨x, y, true, _⟩ c8 ⟨hok, hoky, fmod_b (by omega)⟩
      · walk_at "go"
        rw [List.length_map]
        walk_at "go"
        exact fin2 ⟨x, y, false, _⟩ c8 ⟨hok, hoky, fmod_b (by omega)⟩
    · walk_at "go"
      exact kn
end K27

set_option Elab.async false
set_option linter.all false
set_option maxRecDepth 100000
set_option maxHeartbeats 1000000
namespace K27
open PySem L2 PL ND
local macro_rules | `(tactic| walk_at "st1") => `(tactic| first | assumption | exact sto_last | exact sto_r0 | exact sto_r1 | exact sto_r2 | exact sto_r3 | exact sto_r4)
local macro_rules | `(tactic| walk_at "sto") => `(tactic| first | walk_at "st1" | exact sto_app (by walk_at "st1") | exact sto_app (sto_app (by walk_at "st1")))
local macro_rules | `(tactic| walk_at "sz") => `(tactic| ((try simp only [List.length_map, List.length_range, List.length_append, List.length_cons, List.length_nil]); omega))
local macro_rules | `(tactic| walk_at "go") => `(tactic| ((try (conv => whnf)); repeat ((first | (show pIf _ _ _; first | refine pIf.tt rfl ?_ | refine pIf.ff rfl ?_) | (show pReq _ _; first | refine pReq.mk rfl ?_ | refine pReq.mk (sz_le rfl) ?_ | refine pReq.mk (sz_lt rfl) ?_ | refine pReq.mk (by decide) ?_ | refine pReq.mk (Or.inr (by decide)) ?_ | refine pReq.mk (Or.inl (by decide)) ?_ | refine pReq.mk (by assumption) ?_ | refine pReq.mk (isTy_l (by walk_at "sto")) ?_ | refine pReq.mk (by omega) ?_ | refine pReq.mk (sz_lt6 (by walk_at "sz")) ?_ | refine pReq.mk (sz_le6 (by walk_at "sz")) ?_ | refine pReq.mk (by walk_at "sz") ?_) | (show pGet _ _; first | refine pGet.mk rfl ?_ | refine pGet.mk (by walk_at "sto") ?_ | refine pGet.mk (lenD_at (by walk_at "sto")) ?_ | refine pGet.mk (sqD_at (by walk_at "sto")) ?_ | refine pGet.mk (lsD_at (by walk_at "sto")) ?_ | refine pGet.mk (lsR_at (by walk_at "sto")) ?_ | refine pGet.mk (srcD_at (by walk_at "sto")) ?_ | refine pGet.mk (tyD_l (by walk_at "sto")) ?_)); (try (conv => whnf)))))
open WY (Mk eMk Row eRow nextS TOk WOk RowOk inOk by_ok steps_in lgrs_snoc)
/-! the usual table, frozen -/
open TB (eSt zG eTab)
theorem vzU {S : Sto} {n : Nat} (h0 : S[n]? = some (.lst (uGo0.map zG))) (h1 : S[n + 1]? = some (.lst (uEn.map zW))) (h2 : S[n + 2]? = some (.lst (uGo1.map zG))) (h3 : S[n + 3]? = some (.lst [zW (tx "open")])) (h4 : S[n + 4]? = some (.lst (uGo2.map zG))) (h5 : S[n + 5]? = some (.lst (uEn.map zW)))
    (h6 : S[n + 6]? = some (.lst [.t [.r n, .r (n + 1)], .t [.r (n + 2), .r (n + 3)], .t [.r (n + 4), .r (n + 5)]])) (h7 : S[n + 7]? = some (.lst (uOrd.map zP))) : Vz S (.t [.r (n + 6), .z (.int 1), .r (n + 7)]) (eTab uTab) :=
  .t (.cons (.r h6 (.cons (.t (.cons (.r h0 (Vzs.map TB.eG _)) (.cons (.r h1 (Vzs.map PyData.str _)) .nil))) (.cons (.t (.cons (.r h2 (Vzs.map TB.eG _)) (.cons (.r h3 (Vzs.map PyData.str [tx "open"])) .nil))) (.cons (.t (.cons (.r h4 (Vzs.map TB.eG _)) (.cons (.r h5 (Vzs.map PyData.str _)) .nil))) .nil)))) (.cons .z (.cons (.r h7 (Vzs.map OR.eP _)) .nil)))
theorem vzS (A : Sto) : Vz (A ++ uSto A.length) (.t [.r (A.length + 6), .z (.int 1), .r (A.length + 7)]) (eTab uTab) :=
  vzU (n := A.length) sto_r0 (sto_r rfl) (sto_r rfl) (sto_r rfl) (sto_r rfl) (sto_r rfl) (sto_r rfl) (sto_r rfl)
def F_usualZ : Fsp := fsp (fun _ : Unit => []) (fun _ => True) fun _ => eTab uTab
theorem pu_usualZ : ∀ ds S K KX, lent F_usualZ ds S K KX → ws_usual (frr F_table_of) { nx := fun _ S1 => K (.z .none) S1, rt := K, ex := fun y _ S1 => KX y S1 } (startE nm_usual ds) S := by
  refine fsp_ok fun _ _ K KX hk => ?_
  walk_at "go"
  refine pLc_allE uEn zW (fun w => zP (w, tx "elder")) rfl (by decide) (fun _ => rfl) (fun w hw => ⟨_, rfl, fun S1 K _ h => ?_⟩) ?_
  · walk_at "go"
    exact h
  walk_at "go"
  refine fsrq_call (uSts, 1, uPrs) (.cons (.r rfl (.cons (.t (.cons (.r rfl (Vws.map TB.eG uGo0)) (.cons (.r rfl (Vws.map PyData.str uEn)) .nil))) (.cons (.t (.cons (.r rfl (Vws.map TB.eG uGo1)) (.cons (.r rfl (Vws.map PyData.str [tx "open"])) .nil))) (.cons (.t (.cons (.r rfl (Vws.map TB.eG uGo2)) (.cons (.r rfl (Vws.map PyData.str uEn)) .nil))) .nil)))) (.cons .z (.cons (.r rfl (Vws.map OR.eP uPrs)) .nil))) u_tab fun t ⟨h1, h2, h3⟩ => ?_
  dsimp only at h1 h2 h3
  rw [u_sorted] at h1
  have e : t = uTab := by
    cases t
    dsimp only at h1 h2 h3
    rw [h1, h2, h3.uniq u_ord]; rfl
  rw [e, al_u]
  exact hk _ _ (vzS _)
theorem u_ok : TOk uTab := ⟨by decide +kernel, by decide +kernel, by decide +kernel, by decide, by decide, by decide, by decide +kernel, by decide +kernel⟩
/-! a drawn case -/
structure Case where
  W : WY.World
  ws : List Str
def rCase (c : Case) : RT := .t [.z (eNet c.W.net), .z (eTab c.W.tab), lz eAns c.W.ans, .z (.list (c.ws.map .str))]
structure CaseOk (c : Case) : Prop where
  w : WOk c.W
  n9 : c.ws.length = 9
  nm : ∀ x ∈ c.ws, isNm x
  p1 : ∀ q ∈ c.W.net.quests, q.path.length ≤ 6
  sc5 : c.W.net.scopes.length ≤ 5
  q5 : c.W.net.quests.length ≤ 5
  th6 : c.W.net.things.length ≤ 6
  th0 : 0 < c.W.net.things.length
def F_case : Fsr := fsrq (fun ns : List Int => [.list (ns.map .int)]) (fun ns => ns.length ≤ 100) (fun _ c => CaseOk c) rCase
theorem vusMap {S : Sto} {U : List Nat} {α : Type} (f : α → PyData) : ∀ xs : List α, Vus S U (xs.map fun x => .z (f x)) (xs.map f)
  | [] => .nil
  | x :: xs => .cons .z (vusMap f xs)
theorem vusSc {S : Sto} {U : List Nat} : ∀ {ps : List (Nat × Nat)} {ss : List ND.Scope}, ND.ScsIn S ps ss → (∀ m ∈ plcs ps, m ∉ U) → Vus S U (ps.map scD) (ss.map eScope)
  | [], _, h, _ => by cases h; exact .nil
  | p :: ps, _, h, k => by
    cases h with
    | cons a b =>
      exact .cons (.t (.cons (.r (k _ (by simp [plcs])) a.a (vusMap _ _)) (.cons (.r (k _ (by simp [plcs])) a.b (vusMap _ _)) .nil))) (vusSc b fun m hm => k m (by unfold plcs; rw [List.flatMap_cons]; exact List.mem_append_right _ hm))
theorem al_case (c : Case) (n : Nat) : al (rCase c) n = (.t [.z (eNet c.W.net), .z (eTab c.W.tab), .r n, .z (.list (c.ws.map .str))], [.lst (c.W.ans.map fun x => .z (eAns x))]) := by
  unfold rCase al
  simp [als, al, al_lz]
def usLabs : List Str := [tx "all", tx "allon", tx "elder", tx "let", tx "open", tx "own", tx "up"]
theorem pu_case : ∀ ds S K KX, lentR F_case ds S K KX → ws__law_case (frz F_cell) (frz F_words) (frz F_table) (frz F_usualZ) (frz F_things) (frz F_questions) F_lay (frr F_answers) { nx := fun _ S1 => K (.z .none) S1, rt := K, ex := fun y _ S1 => KX y S1 } (startE nm__law_case ds) S := by
  refine fsrq_ok fun ns hn K KX hk => ?_
  have fin : ∀ (ws ls : List Str) (lab : Nat) (t : TB.XTab) (S : Sto), ws.length = 9 → (∀ x ∈ ws, isNm x) → S[lab]? = some (.lst (ls.map fun x => .z (.str x))) → 0 < ls.length → ls.length ≤ 9 → (∀ x ∈ ls, PyData.strOk x = true) → TOk t → _law_case_r2 (frz F_cell) (frz F_things) (frz F_questions) F_lay (frr F_answers) (ends K KX) [some (.b (.list (ns.map .int))), some (.z (.list (ws.map .str))), some (.r lab), some (.z (eTab t)), none, none, none, none, none, none, none, none] S := by
    intro ws ls lab t S w9 hw hlab l0 l9 lo ht
    walk_at "go"
    refine fsp_call (ns, 2) (.cons .b (.cons .z .nil)) (show (0 : Int) ≤ 2 by decide) ?_
    walk_at "go"
    have hb1 := fmod_b (a := cellAt ns 2) (b := 5) (by decide)
    obtain ⟨n, hn1⟩ : ∃ n : Nat, 1 + (cellAt ns 2).fmod 5 = (n : Int) := ⟨(1 + (cellAt ns 2).fmod 5).toNat, by omega⟩
    rw [hn1]
    refine fsp_call (ns, 2) (.cons .b (.cons .z .nil)) (show (0 : Int) ≤ 2 by decide) ?_
    walk_at "go"
    have hb2 := fmod_b (a := (cellAt ns 2).fdiv 5) (b := 5) (by decide)
    obtain ⟨q, hq1⟩ : ∃ n : Nat, 1 + ((cellAt ns 2).fdiv 5).fmod 5 = (n : Int) := ⟨(1 + ((cellAt ns 2).fdiv 5).fmod 5).toNat, by omega⟩
    rw [hq1]
    refine fsp_call (ns, 3) (.cons .b (.cons .z .nil)) (show (0 : Int) ≤ 3 by decide) ?_
    walk_at "go"
    refine fsp_call (ns, 3) (.cons .b (.cons .z .nil)) (show (0 : Int) ≤ 3 by decide) ?_
    walk_at "go"
    have hb3 := fmod_b (a := cellAt ns 3) (b := 6) (by decide)
    obtain ⟨m, hm1⟩ : ∃ n : Nat, 1 + (cellAt ns 3).fmod 6 = (n : Int) := ⟨(1 + (cellAt ns 3).fmod 6).toNat, by omega⟩
    rw [hm1]
    refine fsq_call (_, m, n, q) (.cons .z (.cons .z (.cons .z (.cons .z .nil)))) ⟨show m ≤ 80 by omega, show 0 < n by omega, show 0 < q by omega⟩ fun ts ⟨lt, hts⟩ => ?_
    dsimp only at lt hts
    walk_at "go"
    refine fsp_call (ns, 4) (.cons .b (.cons .z .nil)) (show (0 : Int) ≤ 4 by decide) ?_
    walk_at "go"
    rw [List.length_map]
    have t1 := ht.n1
    refine fsq_call (_, q, n, t.states.length, ws) (.cons .z (.cons .z (.cons .z (.cons .z (.cons .z .nil))))) ⟨show q ≤ 60 by omega, show 0 < n by omega, show 0 < t.states.length by omega, w9, hw⟩ fun qs ⟨lq, hqs⟩ => ?_
    dsimp only at lq hqs
    walk_at "go"
    have en : ((n : Nat) : Int).toNat = n := by omega
    rw [en]
    refine pLc_emp (by omega) ?_
    have hA := emp_at (S := S) n
    have hl2 : (S ++ .lst ((emp (S.length + 1) n).map scD) :: List.replicate (2 * n) (.lst []))[lab]? = _ := sto_app hlab
    have hlt := (List.getElem?_eq_some_iff.mp hlab).1
    have hpl : lab ∉ S.length :: plcs (emp (S.length + 1) n) := fun z => by
      rcases List.mem_cons.mp z with z | z
      · omega
      · have := (emp_plcs (S.length + 1) n).1 _ z; omega
    generalize (S ++ .lst ((emp (S.length + 1) n).map scD) :: List.replicate (2 * n) (.lst [])) = S1 at hA hl2 ⊢
    generalize emp (S.length + 1) n = ps at hA hpl ⊢
    generalize S.length = n0 at hA hpl ⊢
    walk_at "go"
    rw [bz_ints, cutL_map]
    have hls : ∀ a ∈ n0 :: plcs ps, a ≠ S1.length := fun a ha => Nat.ne_of_lt (hA.lt a ha)
    have hlab2 : lab < S1.length := (List.getElem?_eq_some_iff.mp hl2).1
    generalize hsl : (cutL ns (some 6) none).map (fun i => D.z (.int i)) = sl
    refine pFor_xs (cutL ns (some 6) none) (fun i => .z (.int i)) hsl.symm (fun i env S => ∃ (v9 : Option D) (ss : List ND.Scope), env = [some (.b (.list (ns.map .int))), some (.z (.list (ws.map .str))), some (.r lab), some (.z (eTab t)), some (.z (.int n)), some (.z (.int q)), some (.z (.list (ts.map eThing))), some (.z (.list (qs.map eQuest))), some (.t [.r n0, .z (.list (ts.map eThing)), .z (.list (qs.map eQuest))]), v9, none, none] ∧ S[S1.length]? = some (.lst sl) ∧ S[lab]? = some (.lst (ls.map fun x => .z (.str x))) ∧ ScsAt S n0 ps ss ∧ ss.length = n ∧ ∀ s ∈ ss, Lay n ts.length qs.length s) ?_ ?_ ?_ ?_
    · refine ⟨_, _, rfl, sto_last, sto_app hl2, hA.app, List.length_replicate, fun s hs => ?_⟩
      rw [List.eq_of_mem_replicate hs]
      exact ⟨⟨fun _ h => (by cases h), fun _ h => (by cases h)⟩, Nat.zero_le _, Nat.zero_le _⟩
    · rintro i _ _ _ ⟨_, _, _, h, _⟩
      exact h
    · rintro i x _ S2 Q hx ⟨v9, ss, rfl, hs, hl3, hB, hln, hJ⟩ hQ
      walk_at "go"
      refine fsm_call (⟨n0, ps, ss, ts, qs, lab, ls, ws, x⟩ : ALay) ⟨rfl, hB, by dsimp only; omega, by dsimp only; omega, hl3, l0, l9, lo, w9, hw, by dsimp only; omega, by dsimp only; omega, by dsimp only; rw [hln]; exact hJ⟩ fun d S3 ⟨_, kp, ss', hB', hln', hJ'⟩ => ?_
      dsimp only at kp hB' hln' hJ'
      walk_at "go"
      exact hQ _ _ ⟨_, ss', rfl, kp _ _ (fun h => hls _ h rfl) hs, kp _ _ hpl hl3, hB', by omega, by rw [hln] at hJ'; exact hJ'⟩
    · rintro _ S2 ⟨v9, ss, rfl, _, _, hB, hln, hJ⟩
      walk_at "go"
      refine fsp_call (ns, 5) (.cons .b (.cons .z .nil)) (show (0 : Int) ≤ 5 by decide) ?_
      walk_at "go"
      have hnet : NetOk ⟨ss, ts, qs⟩ := ⟨fun s hs => by rw [hln]; exact (hJ s hs).1, fun x hx => by rw [hln, lq]; exact hts x hx, fun x hx => by rw [hln]; exact (hqs x hx).1⟩
      refine fslq_call (_, (⟨ss, ts, qs⟩ : Net)) (.cons .z (.cons (.t (.cons hB.vw (.cons .z (.cons .z .nil)))) .nil)) ⟨show qs.length ≤ 60 by omega, fun x hx => (hqs x hx).1.p1, show 0 < ts.length by omega⟩ fun an ⟨la, han⟩ => ?_
      dsimp only at la han
      walk_at "go"
      have hlt2 : ∀ m ∈ n0 :: plcs ps, m ∉ [S2.length] := fun m hm z => by
        have := hB.lt m hm
        simp at z; omega
      have hw3 : ∀ n : Fin 6, WY.wt (most n.val) n.val ≤ 200 := by decide
      refine hk _ _ ⟨⟨⟨ss, ts, qs⟩, an, t⟩, ws⟩ [S2.length] (.t (.cons (ns := []) (.z (.t (.cons (.r (hlt2 _ List.mem_cons_self) (sto_app hB.l) (vusSc (hB.i.sub fun _ _ => sto_app) fun m hm => hlt2 m (List.mem_cons_of_mem _ hm))) (.cons .z (.cons .z .nil))))) (.cons (ns := []) (.z .z) (.cons (ns := [S2.length]) (VR.lz sto_last) (.cons (ns := []) (.z .z) .nil))))) (by simp) ⟨.of_wt (B := most n) ⟨hnet, la, han, ht, fun x hx => (hqs x hx).2⟩ (fun s hs => (hJ s hs).2.1) ?_ (by dsimp only; omega) (fun s hs => ⟨Nat.le_trans (hJ s hs).2.1 (by unfold most; split <;> omega), by have := (hJ s hs).2.2; omega⟩), w9, hw, fun x hx => (hqs x hx).1.p6, by dsimp only; omega, by dsimp only; omega, by dsimp only; omega, by dsimp only; omega⟩
      dsimp only
      rw [hln]
      exact hw3 ⟨n, by omega⟩
  unfold ws__law_case
  generalize _law_case_r2 (frz F_cell) (frz F_things) (frz F_questions) F_lay (frr F_answers) = r2 at fin ⊢
  walk_at "go"
  refine fsp_call (ns, 0) (.cons .b (.cons .z .nil)) (Int.le_refl _) ?_
  walk_at "go"
  refine fsq_call ((cellAt ns 0).fmod 1000000000, 9) (.cons .z (.cons .z .nil)) ⟨(fmod_b (by decide)).1, show (9 : Nat) ≤ 100 by decide, show (2 : Nat) ≤ 9 by decide⟩ fun ws ⟨w9, hw, hnd⟩ => ?_
  dsimp only at w9
  walk_at "go"
  have el : cutL ((ws.map PyData.str).map D.z) (some 4) none = (cutL ws (some 4) none).map fun x => .z (.str x) := by
    rw [List.map_map]; exact cutL_map _ _ _ _
  rw [el]
  have hc5 : (cutL ws (some 4) none).length = 5 := by unfold cutL; rw [List.length_take, List.length_drop, w9]; rfl
  have hcm : ∀ x ∈ cutL ws (some 4) none, isNm x := fun x hx => hw x (cutL_mem hx)
  have hcn : (cutL ws (some 4) none).Nodup := by
    have h2 := hnd (show (9 : Nat) ≤ 20 by decide)
    have e : cutL ws (some 4) none = (ws.drop 2).drop 2 := by
      rw [List.drop_drop]
      unfold cutL
      rw [List.take_of_length_le (by rw [List.length_drop]; simp [HT.sIx, w9])]
      simp [HT.sIx, w9]
    rw [e]
    exact (List.drop_sublist _ _).nodup h2
  generalize cutL ws (some 4) none = ls at hc5 hcm hcn ⊢
  refine fsp_call (ns, 1) (.cons .b (.cons .z .nil)) (show (0 : Int) ≤ 1 by decide) ?_
  walk_at "go"
  refine fsq_call (_, ls) (.cons .z (.cons (.r rfl (Vws.map PyData.str ls)) .nil)) ⟨hc5, hcm, hcn⟩ fun t ht => ?_
  walk_at "go"
  refine fsp_call (ns, 1) (.cons .b (.cons .z .nil)) (show (0 : Int) ≤ 1 by decide) ?_
  walk_at "go"
  refine pIf.mk (fun _ => ?_) (fun _ => ?_)
  · walk_at "go"
    refine fsp_call () .nil trivial ?_
    walk_at "go"
    exact fin ws usLabs _ uTab _ w9 hw sto_last (by decide) (by decide) (by decide +kernel) u_ok
  · walk_at "go"
    exact fin ws ls _ t _ w9 hw rfl (by omega) (by omega) (fun x hx => (hcm x hx).ok) ht
end K27

set_option Elab.async false
set_option linter.all false
set_option maxRecDepth 100000
set_option maxHeartbeats 1000000
namespace K27
open PySem L2 PL ND
local macro_rules | `(tactic| walk_at "st1") => `(tactic| first | assumption | exact sto_last | exact sto_r0 | exact sto_r1 | exact sto_r2 | exact sto_r3 | exact sto_r4)
local macro_rules | `(tactic| walk_at "sto") => `(tactic| first | walk_at "st1" | exact sto_app (by walk_at "st1") | exact sto_app (sto_app (by walk_at "st1")))
local macro_rules | `(tactic| walk_at "sz") => `(tactic| ((try simp only [List.length_map, List.length_range, List.length_append, List.length_cons, List.length_nil]); omega))
local macro_rules | `(tactic| walk_at "go") => `(tactic| ((try (conv => whnf)); repeat ((first | (show pIf _ _ _; first | refine pIf.tt rfl ?_ | refine pIf.ff rfl ?_) | (show pReq _ _; first | refine pReq.mk rfl ?_ | refine pReq.mk (sz_le rfl) ?_ | refine pReq.mk (sz_lt rfl) ?_ | refine pReq.mk (by decide) ?_ | refine pReq.mk (Or.inr (by decide)) ?_ | refine pReq.mk (Or.inl (by decide)) ?_ | refine pReq.mk (by assumption) ?_ | refine pReq.mk (isTy_l (by walk_at "sto")) ?_ | refine pReq.mk (by omega) ?_ | refine pReq.mk (sz_lt6 (by walk_at "sz")) ?_ | refine pReq.mk (sz_le6 (by walk_at "sz")) ?_ | refine pReq.mk (by walk_at "sz") ?_) | (show pGet _ _; first | refine pGet.mk rfl ?_ | refine pGet.mk (by walk_at "sto") ?_ | refine pGet.mk (lenD_at (by walk_at "sto")) ?_ | refine pGet.mk (sqD_at (by walk_at "sto")) ?_ | refine pGet.mk (lsD_at (by walk_at "sto")) ?_ | refine pGet.mk (lsR_at (by walk_at "sto")) ?_ | refine pGet.mk (srcD_at (by walk_at "sto")) ?_ | refine pGet.mk (tyD_l (by walk_at "sto")) ?_)); (try (conv => whnf)))))
open WY (Mk eMk Row eRow nextS TOk WOk RowOk inOk by_ok steps_in lgrs_snoc)
/-! rows in the store -/
open WY (longer lgr lgrs leads Gone BfI)
abbrev zM (m : Mk) : D := .z (eMk m)
def rwD (p : Nat × Row) : D := .t [.r p.1, .z (.int p.2.sc), .z (.int p.2.st)]
def InR (S : Sto) (ps : List (Nat × Row)) : Prop := ∀ p ∈ ps, S[p.1]? = some (.lst (p.2.ms.map zM))
def rRow (r : Row) : RT := .t [lz eMk r.ms, .z (.int r.sc), .z (.int r.st)]
theorem rw_vw {S : Sto} {p : Nat × Row} (h : S[p.1]? = some (.lst (p.2.ms.map zM))) : Vw S (rwD p) (eRow p.2) := .t (.cons (.r h (Vws.map _ _)) (.cons .z (.cons .z .nil)))
theorem InR.vws {S : Sto} : ∀ {ps : List (Nat × Row)}, InR S ps → Vws S (ps.map rwD) (ps.map fun p => eRow p.2)
  | [], _ => .nil
  | p :: ps, h => .cons (rw_vw (h p List.mem_cons_self)) (InR.vws fun q hq => h q (List.mem_cons_of_mem _ hq))
theorem InR.vrs {S : Sto} {U : List Nat} : ∀ {ps : List (Nat × Row)}, InR S ps → VRs S U (ps.map rwD) (ps.map fun p => rRow p.2) (ps.map (·.1))
  | [], _ => .nil
  | p :: ps, h => .cons (ns := [p.1]) (.t (.cons (ns := [p.1]) (.l (ns := []) (h p List.mem_cons_self) (VRs.zs _ _)) (.cons (ns := []) (.z .z) (.cons (ns := []) (.z .z) .nil)))) (InR.vrs fun q hq => h q (List.mem_cons_of_mem _ hq))
theorem InR.keep {S S2 : Sto} {U : List Nat} {ps : List (Nat × Row)} (h : InR S ps) (k : Keep U S S2) (d : ∀ p ∈ ps, p.1 ∉ U) : InR S2 ps := fun p hp => k _ _ (d p hp) (h p hp)
theorem InR.app {S T : Sto} {ps : List (Nat × Row)} (h : InR S ps) : InR (S ++ T) ps := fun p hp => sto_app (h p hp)
theorem InR.set {S : Sto} {n : Nat} {o : Ob} {ps : List (Nat × Row)} (h : InR S ps) (d : ∀ p ∈ ps, p.1 ≠ n) : InR (S.set n o) ps := fun p hp => by
  rw [List.getElem?_set_ne (fun e => d p hp e.symm)]; exact h p hp
theorem InR.snoc {S : Sto} {ps : List (Nat × Row)} {p : Nat × Row} (h : InR S ps) (k : S[p.1]? = some (.lst (p.2.ms.map zM))) : InR S (ps ++ [p]) := fun q hq => by
  rcases List.mem_append.mp hq with hq | hq
  · exact h q hq
  · simp at hq; subst hq; exact k
theorem InR.lt {S : Sto} {ps : List (Nat × Row)} (h : InR S ps) : ∀ p ∈ ps, p.1 < S.length := fun p hp => (List.getElem?_eq_some_iff.mp (h p hp)).1
def newR : Nat → List Row → List (Nat × Row)
  | _, [] => []
  | L, r :: rs => (L, r) :: newR (L + 1) rs
theorem newR_len : ∀ (L : Nat) (rs : List Row), (newR L rs).length = rs.length
  | _, [] => rfl
  | L, r :: rs => by rw [newR, List.length_cons, List.length_cons, newR_len]
theorem newR_snd : ∀ (L : Nat) (rs : List Row), (newR L rs).map (·.2) = rs
  | _, [] => rfl
  | L, r :: rs => by rw [newR, List.map_cons, newR_snd]
theorem newR_b : ∀ (L : Nat) (rs : List Row), ∀ p ∈ newR L rs, L ≤ p.1 ∧ p.1 < L + rs.length
  | _, [], _, h => by cases h
  | L, r :: rs, p, h => by
    rw [newR] at h
    rw [List.length_cons]
    rcases List.mem_cons.mp h with rfl | h
    · exact ⟨Nat.le_refl _, by dsimp only; omega⟩
    · have := newR_b _ _ p h; omega
theorem newR_nd : ∀ (L : Nat) (rs : List Row), ((newR L rs).map (·.1)).Nodup
  | _, [] => List.nodup_nil
  | L, r :: rs => by
    rw [newR, List.map_cons]
    refine List.nodup_cons.mpr ⟨fun h => ?_, newR_nd _ _⟩
    obtain ⟨p, hp, e⟩ := List.mem_map.mp h
    have := newR_b _ _ p hp
    dsimp only at e
    omega
def rwO (r : Row) : Ob := .lst (r.ms.map zM)
theorem newR_in : ∀ (rs : List Row) (S T : Sto) (L : Nat), S.length = L → InR (S ++ (rs.map rwO ++ T)) (newR L rs)
  | [], _, _, _, _ => fun _ h => by cases h
  | r :: rs, S, T, L, e => by
    rw [newR]
    intro p hp
    rcases List.mem_cons.mp hp with rfl | hp
    · subst e; exact sto_r0
    · have := newR_in rs (S ++ [rwO r]) T (L + 1) (by simp [e])
      rw [List.append_assoc] at this
      exact this p hp
theorem al_row (r : Row) (L : Nat) : al (rRow r) L = (rwD (L, r), [rwO r]) := by
  unfold rRow al rwD rwO
  simp [als, al, al_lz]
theorem als_rows : ∀ (rs : List Row) (L : Nat), als (rs.map rRow) L = ((newR L rs).map rwD, rs.map rwO)
  | [], L => by simp [als, newR]
  | r :: rs, L => by
    rw [List.map_cons, als, al_row, als_rows rs, newR]
    simp
theorem al_rows (rs : List Row) (L : Nat) : al (.l (rs.map rRow)) L = (.r (L + rs.length), rs.map rwO ++ [.lst ((newR L rs).map rwD)]) := by
  unfold al
  rw [als_rows, List.length_map]
/-- a loop over enumerate -/
theorem pFor_en {α : Type} {src : Src} {g : WG} {body : WS} {k : KS} {env : PL.Env} {S : Sto} (xs : List α) (f : α → PyData) (e : src.items = xs.map fun x => .z (f x)) (I : Nat → PL.Env → Sto → Prop) (h0 : I 0 env S) (hok : ∀ i env S, i ≤ xs.length → I i env S → src.ok S)
    (hs : ∀ i x env S (Q : PL.Env → Sto → Prop), xs[i]? = some x → I i env S → (∀ env' S', I (i + 1) env' S' → Q env' S') → g (.z (.tuple [.int (i : Int), f x])) env S fun env1 S1 => body { k with nx := Q, ct := Q, bk := k.nx } env1 S1)
    (hd : ∀ env S, I xs.length env S → k.nx env S) : pFor (enumSrc src) g body k (enumSrc src).items env S := by
  have hl : (enumSrc src).items.length = xs.length := by simp [enumSrc, e]
  refine pFor_each I h0 (fun i env S hi h => hok i env S (by omega) h) (fun i d env S Q hi h hQ => ?_) (fun env S h => hd env S (by rw [← hl]; exact h))
  unfold enumSrc at hi
  rw [List.getElem?_mapIdx, e, List.getElem?_map] at hi
  cases hx : xs[i]? with
  | none => rw [hx] at hi; simp at hi
  | some x =>
    rw [hx] at hi
    have hd := Option.some.inj hi
    rw [← hd]
    exact hs i x env S Q hx h hQ
theorem any_ints (i : Int) : ∀ ns : List Int, ((ns.map PyData.int).any fun z => PyData.eqv z (.int i)) = decide (i ∈ ns)
  | [] => by simp
  | n :: ns => by
    rw [List.map_cons, List.any_cons, any_ints i ns]
    have e : PyData.eqv (.int n) (.int i) = decide (n = i) := by
      simp [PyData.eqv]
      by_cases h : n = i <;> simp [h]
    rw [e]
    by_cases h : n = i
    · subst h; simp
    · have h2 : i ≠ n := fun z => h z.symm
      simp [h, h2]
theorem bIn_i {S : Sto} {y : D} {ns : List Int} {i : Int} {k : Bool → Prop} (h : Vw S y (.list (ns.map .int))) (hk : k (decide (i ∈ ns))) : bInG (.z (.int i)) y S k := by
  refine ⟨.inl ⟨.int i, ns.map .int, .z, h, (Shp.int (n := 1)).ok, (Shp.lists (n := 1) (f := PyData.int) fun w h => .int).ok, ?_⟩⟩
  rw [any_ints]; exact hk
theorem bzRow (r : Row) : bz (eRow r) = .b (eRow r) := by
  unfold bz
  rw [if_neg]
  simp [eRow, flatT, flatTs]
/-! a step further -/
def encW (W : WY.World) : List PyData := [eNet W.net, eAnss W.ans, TB.eTab W.tab]
def F_longer : Fsr := fsr (fun a : WY.World × Row => [eNet a.1.net, eAnss a.1.ans, TB.eTab a.1.tab, eRow a.2]) (fun a => WOk a.1 ∧ RowOk a.1 a.2) fun a => .l ((longer a.1 a.2).map rRow)
theorem pu_one_step_longer : ∀ ds S K KX, lentR F_longer ds S K KX → ws_one_step_longer (frz F_next) (frz F_goal) { nx := fun _ S1 => K (.z .none) S1, rt := K, ex := fun y _ S1 => KX y S1 } (startE nm_one_step_longer ds) S := by
  refine fsr_ok fun ⟨W, r⟩ ⟨hW, hr⟩ K KX hk => ?_
  dsimp only at hW hr hk
  have hlen := hr.len
  have hs9 := hW.s40
  have hb := bzTab W.tab
  have hb2 := bzRow r
  simp only [List.map_cons, List.map_nil, hb, hb2]
  walk_at "go"
  refine pLc_allE r.ms (fun m => .z (eMk m)) (fun m => .z (.int m.sc)) (by show ((r.ms.map eMk).map bz) = _; rw [List.map_map]; rfl) (by omega) (fun _ => trivial) (fun m hm => ⟨_, rfl, fun S1 K _ h => ?_⟩) ?_
  · walk_at "go"
    exact h
  walk_at "go"
  refine pGet.mk (ixD_bL (getI_at (d := ([], [])) hr.sc)) ?_
  have hst := steps_in hW.toWB hr.sc
  have hsl := getI_mem (d := (([], []) : ND.Scope)) hr.sc
  have hlg : longer W r = lgrs W r 0 (WY.steps W r.sc) := rfl
  unfold WY.steps at hst hlg
  generalize getI W.net.scopes ([], []) r.sc = s at hst hsl hlg
  rw [hlg] at hk
  have h9 := (hW.tl s hsl).1
  walk_at "go"
  have hbn : ∀ S1 : Sto, S1[0]? = some (.lst ((r.ms.map (·.sc)).map fun i => .z (.int i))) → Vw S1 (.r 0) (.list ((r.ms.map (·.sc)).map .int)) := fun S1 h => .r h (Vws.map _ _)
  refine pFor_en s.1 eStep (by show ((s.1.map eStep).map bz) = _; rw [List.map_map]; rfl) (fun i env S => ∃ (v9 v10 v11 v12 v13 : Option D) (ps : List (Nat × Row)), env = [some (.b (eNet W.net)), some (.b (eAnss W.ans)), some (.b (TB.eTab W.tab)), some (.b (eRow r)), some (.r 0), some (.r 1), some (.b (.list (r.ms.map eMk))), some (.z (.int r.sc)), some (.z (.int r.st)), v9, v10, v11, v12, v13, none] ∧ S[0]? = some (.lst ((r.ms.map (·.sc)).map fun i => .z (.int i))) ∧ S[1]? = some (.lst (ps.map rwD)) ∧ InR S ps ∧ ps.map (·.2) = lgrs W r 0 (s.1.take i) ∧ (ps.map (·.1)).Nodup ∧ (∀ p ∈ ps, 2 ≤ p.1) ∧ ps.length ≤ i) ⟨none, none, none, none, none, [], rfl, ?_, rfl, fun _ h => (by cases h), rfl, List.nodup_nil, fun _ h => (by cases h), Nat.zero_le _⟩ (fun _ _ _ _ _ => trivial) ?_ ?_
  · show some (Ob.lst _) = _
    rw [List.map_map]; rfl
  · rintro i x _ S Q hx ⟨v9, v10, v11, v12, v13, ps, rfl, h0, h1, hin, hps, hnd, h2, hpl⟩ hQ
    have hxo := hst x (List.mem_of_getElem? hx)
    have hi := (List.getElem?_eq_some_iff.mp hx).1
    have htk : lgrs W r 0 (s.1.take (i + 1)) = lgrs W r 0 (s.1.take i) ++ (lgr W r i x).toList := by
      rw [List.take_add_one, hx]
      show lgrs W r 0 (_ ++ [x]) = _
      rw [lgrs_snoc, List.length_take, Nat.zero_add, Nat.min_eq_left (by omega)]
    have none_ : ∀ v9 v10 v11 v12 v13 : Option D, leads W r x = none → Q [some (.b (eNet W.net)), some (.b (eAnss W.ans)), some (.b (TB.eTab W.tab)), some (.b (eRow r)), some (.r 0), some (.r 1), some (.b (.list (r.ms.map eMk))), some (.z (.int r.sc)), some (.z (.int r.st)), v9, v10, v11, v12, v13, none] S := fun v9 v10 v11 v12 v13 hn => by
      refine hQ _ _ ⟨v9, v10, v11, v12, v13, ps, rfl, h0, h1, hin, ?_, hnd, h2, by omega⟩
      rw [htk, hps]
      unfold lgr
      rw [hn]; simp
    walk_at "go"
    refine fsp_call (W.tab, r.st, x.lab) (.cons .b (.cons .z (.cons .z .nil))) hr.st ?_
    dsimp only
    cases hn : nextS W.tab r.st x.lab with
    | none =>
      walk_at "go"
      refine none_ _ _ _ _ _ ?_
      unfold WY.leads
      rw [hn]
    | some t =>
      walk_at "go"
      refine fsp_call (⟨W.net, W.ans, x⟩ : AGo) (.cons .b (.cons .b (.cons .z .nil))) ⟨inOk hW.toWB, fun hb => by_ok hW.toWB hxo hb⟩ ?_
      dsimp only
      cases hg : WY.goal W.net W.ans x with
      | opn q =>
        walk_at "go"
        refine none_ _ _ _ _ _ ?_
        unfold WY.leads
        rw [hn, hg]
      | no =>
        walk_at "go"
        refine none_ _ _ _ _ _ ?_
        unfold WY.leads
        rw [hn, hg]
      | to n =>
        walk_at "go"
        refine pIf.mk (fun c1 => ?_) (fun c1 => ?_)
        · walk_at "go"
          refine bIn_i (hbn _ h0) ?_
          refine pIf.mk (fun c2 => ?_) (fun c2 => ?_)
          · walk_at "go"
            have c1 : n ≠ r.sc := fun z => by
              rw [z] at c1
              have c1 : (!decide (r.sc = r.sc)) = true := c1
              rw [decide_eq_true rfl] at c1; cases c1
            have c2 : n ∉ r.ms.map (·.sc) := fun z => by
              have c2 : (!decide (n ∈ r.ms.map (·.sc))) = true := c2
              rw [decide_eq_true z] at c2; cases c2
            have hl : leads W r x = some (n, t) := by
              unfold WY.leads
              rw [hn, hg]
              exact if_neg fun z => z.elim c1 c2
            have hS1 : 1 < S.length := (List.getElem?_eq_some_iff.mp h1).1
            have e1 : (S ++ [Ob.lst [mkT [D.z (.int r.sc), D.z (.str (Str.ofString "step")), D.z (.int (i : Int))]]]).length = S.length + 1 := by simp
            have lt := hin.lt
            refine hQ _ _ ⟨_, _, _, _, _, ps ++ [(S.length + 1, ⟨r.ms ++ [⟨r.sc, i⟩], n, t⟩)], rfl, ?_, ?_, ?_, ?_, ?_, ?_, ?_⟩
            · rw [List.getElem?_set_ne (by decide)]
              exact sto_app (sto_app h0)
            · rw [List.getElem?_set_self (by rw [List.length_append, List.length_append]; omega), List.map_append, e1]
              rfl
            · refine InR.snoc ((hin.app.app).set fun p hp => by have := h2 p hp; omega) ?_
              rw [List.getElem?_set_ne (fun z : (1 : Nat) = S.length + 1 => by omega)]
              dsimp only
              rw [← e1]
              refine sto_last.trans ?_
              rw [List.map_append, List.map_map]
              rfl
            · rw [htk, List.map_append, hps]
              unfold lgr
              rw [hl]; rfl
            · rw [List.map_append]
              refine List.nodup_append.mpr ⟨hnd, by simp, fun a ha b hb e => ?_⟩
              obtain ⟨p, hp, rfl⟩ := List.mem_map.mp ha
              have := lt p hp
              simp at hb
              omega
            · intro p hp
              rcases List.mem_append.mp hp with hp | hp
              · exact h2 p hp
              · simp at hp; subst hp; dsimp only; omega
            · simp; omega
          · walk_at "go"
            refine none_ _ _ _ _ _ ?_
            have c2 : n ∈ r.ms.map (·.sc) := Decidable.byContradiction fun z => by
              have c2 : (!decide (n ∈ r.ms.map (·.sc))) = false := c2
              rw [decide_eq_false z] at c2; cases c2
            unfold WY.leads
            rw [hn, hg]
            exact if_pos (.inr c2)
        · walk_at "go"
          refine none_ _ _ _ _ _ ?_
          have c1 : n = r.sc := Decidable.byContradiction fun z => by
            have c1 : (!decide (n = r.sc)) = false := c1
            rw [decide_eq_false z] at c1; cases c1
          unfold WY.leads
          rw [hn, hg]
          exact if_pos (.inl c1)
  · rintro _ S ⟨v9, v10, v11, v12, v13, ps, rfl, h0, h1, hin, hps, hnd, h2, hpl⟩
    rw [List.take_length] at hps
    walk_at "go"
    have hv : VRs S (ps.map (·.1) ++ [1]) (ps.map rwD) (ps.map fun p => rRow p.2) (ps.map (·.1)) := hin.vrs
    have e : (ps.map fun p => rRow p.2) = (lgrs W r 0 s.1).map rRow := by rw [← hps, List.map_map]; rfl
    rw [e] at hv
    refine hk _ _ _ (.l h1 hv) (List.nodup_append.mpr ⟨hnd, by simp, fun a ha b hb e => ?_⟩)
    obtain ⟨p, hp, rfl⟩ := List.mem_map.mp ha
    have := h2 p hp
    simp at hb
    omega
end K27

set_option Elab.async false
set_option linter.all false
set_option maxRecDepth 100000
set_option maxHeartbeats 1000000
namespace K27
open PySem L2 PL ND
local macro_rules | `(tactic| walk_at "st1") => `(tactic| first | assumption | exact sto_last | exact sto_r0 | exact sto_r1 | exact sto_r2 | exact sto_r3 | exact sto_r4)
local macro_rules | `(tactic| walk_at "sto") => `(tactic| first | walk_at "st1" | exact sto_app (by walk_at "st1") | exact sto_app (sto_app (by walk_at "st1")))
local macro_rules | `(tactic| walk_at "sz") => `(tactic| ((try simp only [List.length_map, List.length_range, List.length_append, List.length_cons, List.length_nil]); omega))
local macro_rules | `(tactic| walk_at "go") => `(tactic| ((try (conv => whnf)); repeat ((first | (show pIf _ _ _; first | refine pIf.tt rfl ?_ | refine pIf.ff rfl ?_) | (show pReq _ _; first | refine pReq.mk rfl ?_ | refine pReq.mk (sz_le rfl) ?_ | refine pReq.mk (sz_lt rfl) ?_ | refine pReq.mk (by decide) ?_ | refine pReq.mk (Or.inr (by decide)) ?_ | refine pReq.mk (Or.inl (by decide)) ?_ | refine pReq.mk (by assumption) ?_ | refine pReq.mk (isTy_l (by walk_at "sto")) ?_ | refine pReq.mk (by omega) ?_ | refine pReq.mk (sz_lt6 (by walk_at "sz")) ?_ | refine pReq.mk (sz_le6 (by walk_at "sz")) ?_ | refine pReq.mk (by walk_at "sz") ?_) | (show pGet _ _; first | refine pGet.mk rfl ?_ | refine pGet.mk (by walk_at "sto") ?_ | refine pGet.mk (lenD_at (by walk_at "sto")) ?_ | refine pGet.mk (sqD_at (by walk_at "sto")) ?_ | refine pGet.mk (lsD_at (by walk_at "sto")) ?_ | refine pGet.mk (lsR_at (by walk_at "sto")) ?_ | refine pGet.mk (srcD_at (by walk_at "sto")) ?_ | refine pGet.mk (tyD_l (by walk_at "sto")) ?_)); (try (conv => whnf)))))
open WY (Mk eMk Row eRow nextS TOk WOk RowOk inOk by_ok steps_in lgrs_snoc)
/-! the beginnings -/
open WY (longer Gone BfJ)
structure Beg (W : WY.World) (sc st : Int) (rs : List Row) : Prop where
  up : OD.Up eRow rs
  me : ∀ r, r ∈ rs ↔ Gone W sc st r
  n200 : rs.length ≤ 200
theorem Beg.uniq {W : WY.World} {sc st : Int} {rs qs : List Row} (h : Beg W sc st rs) (k : Beg W sc st qs) : rs = qs := h.up.uniq k.up fun x => by rw [h.me, k.me]
structure BPre (a : WY.World × Int × Int) : Prop where
  w : WOk a.1
  r : RowOk a.1 ⟨[], a.2.1, a.2.2⟩
def F_beginnings : Fsr := fsrq (fun a : WY.World × Int × Int => [eNet a.1.net, eAnss a.1.ans, TB.eTab a.1.tab, .int a.2.1, .int a.2.2]) BPre (fun a rs => Beg a.1 a.2.1 a.2.2 rs) fun rs => .l (rs.map rRow)
theorem depth_mks (ms : List Mk) : PyData.depth (.list (ms.map eMk)) ≤ 3 := by
  have : ∀ ms : List Mk, PyData.depthAll (ms.map eMk) ≤ 2 := by
    intro ms
    induction ms with
    | nil => simp [PyData.depthAll]
    | cons m ms ih =>
      rw [List.map_cons, PyData.depthAll]
      have : PyData.depth (eMk m) ≤ 2 := by simp [eMk, PyData.depth, PyData.depthAll]
      omega
  have := this ms
  rw [PyData.depth]; omega
theorem depth_row (r : Row) : (eRow r).depth ≤ 64 := by
  have := depth_mks r.ms
  simp [eRow, PyData.depth, PyData.depthAll] at *
  omega
theorem sort_rows {S : Sto} {n : Nat} {ps : List (Nat × Row)} {K : K1} (h : S[n]? = some (.lst (ps.map rwD))) (hi : InR S ps) (hz : ps.length ≤ 1000) (k : K (.r S.length) (S ++ [.lst ((ps.mergeSort (PySem.W.dataLe false fun p => eRow p.2)).map rwD)])) : SortOk S (.r n) K := by
  have e2 : (ps.map fun p => (rwD p, eRow p.2)).map (·.2) = ps.map fun p => eRow p.2 := by rw [List.map_map]; rfl
  refine ⟨.inl ⟨ps.map fun p => (rwD p, eRow p.2), ⟨by rw [lsD_at h, List.map_map]; rfl, fun b hb => ?_, by rw [e2]; exact .of fun a b => WY.alike_row _ _, by rw [e2]; exact .tuples fun p => ⟨_, _, rfl⟩, fun b hb => ?_, by rw [List.length_map]; exact sz_le6 (by omega)⟩, ?_⟩⟩
  · obtain ⟨p, hp, rfl⟩ := List.mem_map.mp hb
    exact rw_vw (hi p hp)
  · obtain ⟨p, hp, rfl⟩ := List.mem_map.mp hb
    exact depth_row _
  · have e : ((sortB (ps.map fun p => (rwD p, eRow p.2))).map (·.1)) = (ps.mergeSort (PySem.W.dataLe false fun p => eRow p.2)).map rwD := by
      unfold sortB
      rw [← List.map_mergeSort (f := fun p => (rwD p, eRow p.2)) (r := PySem.W.dataLe false fun p => eRow p.2) (l := ps) (fun a _ b _ => rfl), List.map_map]
      rfl
    rw [e]; exact k
theorem pu_beginnings : ∀ ds S K KX, lentR F_beginnings ds S K KX → ws_beginnings (frr F_longer) { nx := fun _ S1 => K (.z .none) S1, rt := K, ex := fun y _ S1 => KX y S1 } (startE nm_beginnings ds) S := by
  refine fsrq_ok fun ⟨W, sc, st⟩ ⟨hW, hr⟩ K KX hk => ?_
  dsimp only at hW hr hk
  have hb := bzTab W.tab
  simp only [List.map_cons, List.map_nil, hb]
  walk_at "go"
  refine pWhile_by (fun m env S => ∃ (v7 : Option D) (k : Nat) (ps : List (Nat × Row)), env = [some (.b (eNet W.net)), some (.b (eAnss W.ans)), some (.b (TB.eTab W.tab)), some (.z (.int sc)), some (.z (.int st)), some (.r 1), some (.z (.int k)), v7] ∧ S[1]? = some (.lst (ps.map rwD)) ∧ InR S ps ∧ (ps.map (·.1)).Nodup ∧ (∀ p ∈ ps, p.1 ≠ 1) ∧ BfJ W sc st (ps.map (·.2)) k ∧ m + k = 201) 201 ?_ ?_
  · refine ⟨none, 0, [(0, ⟨[], sc, st⟩)], rfl, rfl, fun p hp => ?_, by simp, fun p hp => ?_, WY.BfJ.start, rfl⟩
    · simp at hp; subst hp; rfl
    · simp at hp; subst hp; simp
  · rintro m _ S Q ⟨v7, k, ps, rfl, h1, hin, hnd, hne, hI, hm⟩ hQ
    have hlen := hW.few1 hr hI.nd hI.go
    rw [List.length_map] at hlen
    walk_at "go"
    rw [List.length_map]
    refine pIf.mk (fun c => ?_) (fun c => ?_)
    · have c : k < ps.length := by have := of_decide_eq_true c; omega
      have hp := List.getElem?_eq_getElem c
      generalize ps[k] = p at hp
      have hpm := List.mem_of_getElem? hp
      walk_at "go"
      refine pGet.mk (x := rwD p) (atD_nat (by rw [List.getElem?_map, hp]; rfl)) ?_
      have hp2 : (ps.map (·.2))[k]? = some p.2 := by rw [List.getElem?_map, hp]; rfl
      have hro := (hI.go p.2 (List.mem_map_of_mem hpm)).ok hW.toWB hr
      refine fsr_call (W, p.2) (.cons .b (.cons .b (.cons .b (.cons (rw_vw (hin p hpm)) .nil)))) ⟨hW, hro⟩ ?_
      dsimp only
      rw [al_rows]
      have hI2 := hI.step hW.toWB hr hp2
      have hlen2 := hW.few1 hr hI2.nd hI2.go
      have hnew := newR_in (longer W p.2) S [.lst ((newR S.length (longer W p.2)).map rwD)] S.length rfl
      have hnl := newR_len S.length (longer W p.2)
      have hnb := newR_b S.length (longer W p.2)
      have hns := newR_snd S.length (longer W p.2)
      have hnn := newR_nd S.length (longer W p.2)
      have hS1 : 1 < S.length := (List.getElem?_eq_some_iff.mp h1).1
      have hl1 : (S ++ ((longer W p.2).map rwO ++ [Ob.lst ((newR S.length (longer W p.2)).map rwD)]))[S.length + (longer W p.2).length]? = some (.lst ((newR S.length (longer W p.2)).map rwD)) := by
        rw [List.getElem?_append_right (by omega), List.getElem?_append_right (by rw [List.length_map]; omega), List.length_map, Nat.add_sub_cancel_left, Nat.sub_self]; rfl
      have h12 : (S ++ ((longer W p.2).map rwO ++ [Ob.lst ((newR S.length (longer W p.2)).map rwD)]))[1]? = _ := sto_app h1
      have hin2 : InR (S ++ ((longer W p.2).map rwO ++ [Ob.lst ((newR S.length (longer W p.2)).map rwD)])) ps := hin.app
      have hlt := hin.lt
      rw [List.length_append, List.length_map] at hlen2
      generalize (S ++ ((longer W p.2).map rwO ++ [Ob.lst ((newR S.length (longer W p.2)).map rwD)])) = S2 at hnew hl1 h12 hin2 ⊢
      generalize newR S.length (longer W p.2) = qs at hnew hl1 hnl hnb hns hnn ⊢
      walk_at "go"
      refine pFor_xs qs rwD rfl (fun i env S3 => ∃ (v7 : Option D), env = [some (.b (eNet W.net)), some (.b (eAnss W.ans)), some (.b (TB.eTab W.tab)), some (.z (.int sc)), some (.z (.int st)), some (.r 1), some (.z (.int k)), v7] ∧ S3[1]? = some (.lst ((ps ++ qs.take i).map rwD)) ∧ Keep [1] S2 S3) ⟨v7, rfl, by simpa using h12, .refl⟩ ?_ ?_ ?_
      · rintro i _ S3 _ ⟨_, _, _, kp⟩
        exact kp _ _ (by simp; omega) hl1
      · rintro i q _ S3 Q2 hq ⟨v7, rfl, h3, kp⟩ hQ2
        have hi := (List.getElem?_eq_some_iff.mp hq).1
        walk_at "go"
        refine pReq.mk (sz_lt6 (by rw [List.length_map, List.length_append, List.length_take]; omega)) ?_
        refine hQ2 _ _ ⟨_, rfl, ?_, kp.trans (Keep.set (by simp))⟩
        rw [List.getElem?_set_self (List.getElem?_eq_some_iff.mp h3).1, List.take_add_one, hq]
        simp
      · rintro _ S3 ⟨v7, rfl, h3, kp⟩
        rw [List.take_length] at h3
        walk_at "go"
        refine pIf.ff (decide_eq_false (by rw [List.length_map, List.length_append]; omega)) ?_
        walk_at "go"
        have e : ps.map (·.2) ++ longer W p.2 = (ps ++ qs).map (·.2) := by rw [List.map_append, hns]
        rw [e] at hI2
        refine hQ (m - 1) _ _ (by omega) ⟨_, k + 1, ps ++ qs, rfl, h3, fun x hx => ?_, ?_, fun x hx => ?_, hI2, by omega⟩
        · rcases List.mem_append.mp hx with hx | hx
          · exact kp _ _ (by simpa using hne x hx) (hin2 x hx)
          · have := hnb x hx
            exact kp _ _ (by simp; omega) (hnew x hx)
        · rw [List.map_append]
          refine List.nodup_append.mpr ⟨hnd, hnn, fun a ha b hb e => ?_⟩
          obtain ⟨x, hx, rfl⟩ := List.mem_map.mp ha
          obtain ⟨y, hy, rfl⟩ := List.mem_map.mp hb
          have := hlt x hx
          have := hnb y hy
          omega
        · rcases List.mem_append.mp hx with hx | hx
          · exact hne x hx
          · have := hnb x hx; omega
    · have c : k = (ps.map (·.2)).length := by
        have := of_decide_eq_false c
        have := hI.le
        rw [List.length_map] at *
        omega
      rw [c] at hI
      walk_at "go"
      refine sort_rows h1 hin (by omega) ?_
      walk_at "go"
      have hpm := List.mergeSort_perm ps (PySem.W.dataLe false fun p => eRow p.2)
      have hsz : (ps.mergeSort (PySem.W.dataLe false fun p => eRow p.2)).map (·.2) = (ps.map (·.2)).mergeSort (PySem.W.dataLe false eRow) := List.map_mergeSort (fun a _ b _ => rfl)
      have hup := OD.up_sort (k := eRow) hI.nd (fun a _ b _ => WY.alike_row a b) (fun a _ b _ h => WY.eqv_row h)
      have hme : ∀ r, r ∈ (ps.map (·.2)).mergeSort (PySem.W.dataLe false eRow) ↔ Gone W sc st r := fun r => by
        rw [(List.mergeSort_perm _ _).mem_iff]; exact hI.done r
      have hl2 : ((ps.map (·.2)).mergeSort (PySem.W.dataLe false eRow)).length ≤ 200 := by rw [List.length_mergeSort, List.length_map]; omega
      rw [← hsz] at hup hme hl2
      generalize ps.mergeSort (PySem.W.dataLe false fun p => eRow p.2) = qs at hpm hup hme hl2 ⊢
      have hin3 : InR (S ++ [.lst (qs.map rwD)]) qs := fun x hx => sto_app (hin x (hpm.mem_iff.mp hx))
      have hv : VRs (S ++ [.lst (qs.map rwD)]) (qs.map (·.1) ++ [S.length]) (qs.map rwD) (qs.map fun p => rRow p.2) (qs.map (·.1)) := hin3.vrs
      have e : (qs.map fun p => rRow p.2) = (qs.map (·.2)).map rRow := by rw [List.map_map]; rfl
      rw [e] at hv
      refine hk _ _ (qs.map (·.2)) _ (.l sto_last hv) (List.nodup_append.mpr ⟨(hpm.map _).nodup_iff.mpr hnd, by simp, fun a ha b hb e => ?_⟩) ⟨hup, hme, hl2⟩
      obtain ⟨x, hx, rfl⟩ := List.mem_map.mp ha
      have := hin.lt x (hpm.mem_iff.mp hx)
      simp at hb
      omega
/-! .. frozen -/
def F_begZ : Fsp := fsq (fun a : WY.World × Int × Int => [eNet a.1.net, eAnss a.1.ans, TB.eTab a.1.tab, .int a.2.1, .int a.2.2]) BPre (fun a rs => Beg a.1 a.2.1 a.2.2 rs) fun rs => .list (rs.map eRow)
theorem rtD_row (r : Row) : rtD (rRow r) = eRow r := by
  unfold rRow eRow
  simp only [rtD, rtDs, rtD_lz]
theorem pu_begZ : ∀ ds S K KX, lent F_begZ ds S K KX → ws_beginnings (frr F_longer) { nx := fun _ S1 => K (.z .none) S1, rt := K, ex := fun y _ S1 => KX y S1 } (startE nm_beginnings ds) S :=
  fun ds S K KX h => pu_beginnings ds S K KX (lentR_lent (fun rs => by rw [rtD, rtDs_map, List.map_congr_left fun r _ => rtD_row r]) h)
end K27

set_option Elab.async false
set_option linter.all false
set_option maxRecDepth 100000
set_option maxHeartbeats 1000000
namespace K27
open PySem L2 PL ND
local macro_rules | `(tactic| walk_at "st1") => `(tactic| first | assumption | exact sto_last | exact sto_r0 | exact sto_r1 | exact sto_r2 | exact sto_r3 | exact sto_r4)
local macro_rules | `(tactic| walk_at "sto") => `(tactic| first | walk_at "st1" | exact sto_app (by walk_at "st1") | exact sto_app (sto_app (by walk_at "st1")))
local macro_rules | `(tactic| walk_at "sz") => `(tactic| ((try simp only [List.length_map, List.length_range, List.length_append, List.length_cons, List.length_nil]); omega))
local macro_rules | `(tactic| walk_at "go") => `(tactic| ((try (conv => whnf)); repeat ((first | (show pIf _ _ _; first | refine pIf.tt rfl ?_ | refine pIf.ff rfl ?_) | (show pReq _ _; first | refine pReq.mk rfl ?_ | refine pReq.mk (sz_le rfl) ?_ | refine pReq.mk (sz_lt rfl) ?_ | refine pReq.mk (by decide) ?_ | refine pReq.mk (Or.inr (by decide)) ?_ | refine pReq.mk (Or.inl (by decide)) ?_ | refine pReq.mk (by assumption) ?_ | refine pReq.mk (isTy_l (by walk_at "sto")) ?_ | refine pReq.mk (by omega) ?_ | refine pReq.mk (sz_lt6 (by walk_at "sz")) ?_ | refine pReq.mk (sz_le6 (by walk_at "sz")) ?_ | refine pReq.mk (by walk_at "sz") ?_) | (show pGet _ _; first | refine pGet.mk rfl ?_ | refine pGet.mk (by walk_at "sto") ?_ | refine pGet.mk (lenD_at (by walk_at "sto")) ?_ | refine pGet.mk (sqD_at (by walk_at "sto")) ?_ | refine pGet.mk (lsD_at (by walk_at "sto")) ?_ | refine pGet.mk (lsR_at (by walk_at "sto")) ?_ | refine pGet.mk (srcD_at (by walk_at "sto")) ?_ | refine pGet.mk (tyD_l (by walk_at "sto")) ?_)); (try (conv => whnf)))))
open WY (Mk eMk Row eRow nextS TOk WOk RowOk inOk by_ok steps_in lgrs_snoc longer lgr lgrs leads Gone BfI TMk eTM stepM eWay eOwe Way finds owes fnd owd KW KO KR sortY sortO zT tword endsB mem_finds mem_owes eqv_way shWay shWays shOwe shOwes picks picks_take flat_take flat_len finds_len owes_len)
open WY (MkIn WayIn labM labM_ok hidesB hidesZ noS noT eqv_tm shTM noneB seenB OdOk Lb lbsOf noneL keyW keyM)
/-! copies -/
open WY (longer lgr leads Gone lgr_some leads_some)
theorem vzsN {S : Sto} : ∀ {ps : List (Nat × Nat)} {ss : List ND.Scope}, ND.ScsIn S ps ss → Vzs S (ps.map scD) (ss.map eScope)
  | [], _, h => by cases h; exact .nil
  | p :: ps, _, h => by cases h with | cons a b => exact .cons (.t (.cons (.r a.a (Vzs.map _ _)) (.cons (.r a.b (Vzs.map _ _)) .nil))) (vzsN b)
def F_copy : Fsp := fsp (fun n : Net => [eNet n]) (fun n => n.scopes.length ≤ 1000) fun n => eNet n
theorem pu_copy : ∀ ds S K KX, lent F_copy ds S K KX → ws__law_copy { nx := fun _ S1 => K (.z .none) S1, rt := K, ex := fun y _ S1 => KX y S1 } (startE nm__law_copy ds) S := by
  refine fsp_ok fun n hn K KX hk => ?_
  walk_at "go"
  refine pLc_copy (ss := n.scopes) (by omega) (by show ((n.scopes.map eScope).map bz).length = _; rw [List.length_map, List.length_map]) (fun _ _ => trivial) (fun i d s h1 h2 => ?_) (fun _ _ => rfl) (fun _ _ => rfl) ?_
  · have h1 : ((n.scopes.map eScope).map bz)[i]? = some d := h1
    rw [List.getElem?_map, List.getElem?_map, h2] at h1
    cases h1
    exact seen_b s
  walk_at "go"
  have e1 : (n.things.map eThing).map bz = n.things.map fun x => .z (eThing x) := by rw [List.map_map]; exact List.map_congr_left fun x _ => bzT x
  have e2 : (n.quests.map eQuest).map bz = n.quests.map fun x => .z (eQuest x) := by rw [List.map_map]; exact List.map_congr_left fun x _ => bzQ x
  rw [e1, e2]
  have hi := cps_in (S := [Ob.lst ((emp 1 n.scopes.length).map scD)]) (T := []) (L := 1) rfl n.scopes
  rw [List.append_nil] at hi
  have hi : ND.ScsIn (Ob.lst ((emp 1 n.scopes.length).map scD) :: cps n.scopes) (emp 1 n.scopes.length) n.scopes := hi
  have h0 : (Ob.lst ((emp 1 n.scopes.length).map scD) :: cps n.scopes)[0]? = some (.lst ((emp 1 n.scopes.length).map scD)) := rfl
  show K (.t [.r 0, .r (Ob.lst ((emp 1 n.scopes.length).map scD) :: cps n.scopes).length, .r ((Ob.lst ((emp 1 n.scopes.length).map scD) :: cps n.scopes) ++ [Ob.lst (n.things.map fun x => .z (eThing x))]).length]) (((Ob.lst ((emp 1 n.scopes.length).map scD) :: cps n.scopes) ++ [Ob.lst (n.things.map fun x => .z (eThing x))]) ++ [Ob.lst (n.quests.map fun x => .z (eQuest x))])
  generalize (Ob.lst ((emp 1 n.scopes.length).map scD) :: cps n.scopes) = S1 at hi h0 ⊢
  exact hk _ _ (.t (.cons (.r (sto_app (sto_app h0)) (vzsN (hi.sub fun _ _ h => sto_app (sto_app h)))) (.cons (.r (sto_app sto_last) (Vzs.map _ _)) (.cons (.r sto_last (Vzs.map _ _)) .nil))))
theorem pLc_copyT {ss : List TB.XSt} (hz : ss.length ≤ 1000) {tg : D → PL.Env → Option PL.Env} {we : WE} {env : PL.Env} {fin : Sto → Prop} {S : Sto} {src : Src} (e : src.items = ss.map fun s => bz (TB.eSt s)) (hok : ∀ acc T, src.ok (S ++ (.lst acc :: T)))
    (he : ∀ (s : TB.XSt), s ∈ ss → ∃ env2, tg (bz (TB.eSt s)) env = some env2 ∧ ∀ (S1 : Sto) (K : K1), K (NE.scD (S1.length, S1.length + 1)) (S1 ++ [.lst (s.1.map TB.zG), .lst (s.2.map TB.zW)]) → we env2 S1 K X0)
    (hf : fin (S ++ .lst ((NE.emp (S.length + 1) ss.length).map NE.scD) :: TB.cps ss)) : pLc src tg wYes we S.length env fin src.items (S ++ [.lst []]) := by
  have hlen : src.items.length = ss.length := by rw [e, List.length_map]
  refine pLc_each (fun j S' => j ≤ ss.length ∧ S' = S ++ .lst ((NE.emp (S.length + 1) j).map NE.scD) :: TB.cps (ss.take j)) ⟨Nat.zero_le _, rfl⟩ (fun i S' _ h => by obtain ⟨_, rfl⟩ := h; exact hok _ _) ?_ ?_
  · rintro j d _ Q hj ⟨_, rfl⟩ hQ
    have hlt : j < ss.length := by
      rw [← hlen]
      exact (List.getElem?_eq_some_iff.mp hj).1
    have hs := List.getElem?_eq_getElem hlt
    generalize ss[j] = s at hs
    rw [e, List.getElem?_map, hs] at hj
    obtain rfl := Option.some.inj hj
    obtain ⟨env2, h1, h2⟩ := he s (List.mem_of_getElem? hs)
    have hcl := TB.cps_len (ss.take j)
    have htl : (ss.take j).length = j := by rw [List.length_take]; omega
    have e3 : (S ++ Ob.lst ((NE.emp (S.length + 1) j).map NE.scD) :: TB.cps (ss.take j)).length = S.length + 1 + 2 * j := by rw [List.length_append, List.length_cons, hcl, htl]; omega
    refine pGet.mk h1 (pIf.tt rfl (h2 _ _ ?_))
    refine pGet.mk (x := (NE.emp (S.length + 1) j).map NE.scD) ?_ (pReq.mk ?_ ?_)
    · rw [List.append_assoc]
      exact lsR_at (List.getElem?_append_right (Nat.le_refl _) |>.trans (by rw [Nat.sub_self]; rfl))
    · rw [List.length_map, NE.emp_len]
      exact sz_lt6 (by omega)
    · refine hQ _ ⟨hlt, ?_⟩
      rw [List.append_assoc, List.set_append_right _ _ (Nat.le_refl _), Nat.sub_self, e3, NE.emp_snoc, List.take_add_one, hs, TB.cps_app, List.map_append]
      rfl
  · rintro S' ⟨_, rfl⟩
    rw [hlen, List.take_length]
    exact hf
def F_copy_table : Fsp := fsp (fun t : TB.XTab => [TB.eTab t]) (fun t => t.states.length ≤ 1000) fun t => TB.eTab t
theorem pu_copy_table : ∀ ds S K KX, lent F_copy_table ds S K KX → ws__law_copy_table { nx := fun _ S1 => K (.z .none) S1, rt := K, ex := fun y _ S1 => KX y S1 } (startE nm__law_copy_table ds) S := by
  refine fsp_ok fun t hn K KX hk => ?_
  have hb := bzTab t
  simp only [List.map_cons, List.map_nil, hb]
  walk_at "go"
  refine pLc_copyT (ss := t.states) hn (by show (t.states.map TB.eSt).map bz = _; rw [List.map_map]; rfl) (fun _ _ => trivial) (fun s hs => ?_) ?_
  · have hbs := TB.bzSt s
    rw [hbs]
    refine ⟨_, rfl, fun S1 K h => ?_⟩
    dsimp only [_law_copy_table_e1]
    have e1 : (s.1.map TB.eG).map bz = s.1.map TB.zG := by rw [List.map_map]; rfl
    have e2 : (s.2.map PyData.str).map bz = s.2.map TB.zW := by rw [List.map_map]; rfl
    walk_at "go"
    rw [e1, e2, List.append_assoc]
    have e9 : (S1 ++ [Ob.lst (s.1.map TB.zG)]).length = S1.length + 1 := by rw [List.length_append]; rfl
    rw [e9]
    exact h
  walk_at "go"
  have e1 : (t.order.map OR.eP).map bz = t.order.map fun x => .z (OR.eP x) := by rw [List.map_map]; rfl
  rw [e1]
  have hi := TB.cps_in (S := [Ob.lst ((NE.emp 1 t.states.length).map NE.scD)]) (T := []) (L := 1) rfl t.states
  rw [List.append_nil] at hi
  have hi : TB.ScsIn (Ob.lst ((NE.emp 1 t.states.length).map NE.scD) :: TB.cps t.states) (NE.emp 1 t.states.length) t.states := hi
  have h0 : (Ob.lst ((NE.emp 1 t.states.length).map NE.scD) :: TB.cps t.states)[0]? = some (.lst ((NE.emp 1 t.states.length).map NE.scD)) := rfl
  show K (.t [.r 0, .z (.int t.inner), .r (Ob.lst ((NE.emp 1 t.states.length).map NE.scD) :: TB.cps t.states).length]) ((Ob.lst ((NE.emp 1 t.states.length).map NE.scD) :: TB.cps t.states) ++ [Ob.lst (t.order.map fun x => .z (OR.eP x))])
  generalize (Ob.lst ((NE.emp 1 t.states.length).map NE.scD) :: TB.cps t.states) = S1 at hi h0 ⊢
  exact hk _ _ (.t (.cons (.r (sto_app h0) (vzsSc hi.app)) (.cons .z (.cons (.r sto_last (Vzs.map _ _)) .nil))))
/-! may it end here -/
theorem bInG_v {S : Sto} {y : D} {ws : List Str} {x : Str} {k : Bool → Prop} (h : Vw S y (.list (ws.map .str))) (hx : PyData.strOk x = true) (hw : ∀ w ∈ ws, PyData.strOk w = true) (hk : k (decide (x ∈ ws))) : bInG (.z (.str x)) y S k := by
  refine ⟨.inl ⟨.str x, ws.map .str, .z, h, (Shp.str (n := 1) hx).ok, (Shp.lists (n := 1) (f := PyData.str) fun w h => .str (hw w h)).ok, ?_⟩⟩
  rw [any_strs]; exact hk
structure EndPre (a : TB.XTab × Int × Str) : Prop where
  s : 0 ≤ a.2.1 ∧ a.2.1 < a.1.states.length
  t : TOk a.1
  l : PyData.strOk a.2.2 = true
def F_ends : Fsp := fsp (fun a : TB.XTab × Int × Str => [TB.eTab a.1, .int a.2.1, .str a.2.2]) EndPre fun a => .bool (endsB a.1 a.2.1 a.2.2)
theorem pu_has_end : ∀ ds S K KX, lent F_ends ds S K KX → ws_has_end { nx := fun _ S1 => K (.z .none) S1, rt := K, ex := fun y _ S1 => KX y S1 } (startE nm_has_end ds) S := by
  refine fsp_ok fun ⟨t, n, l⟩ ⟨hlt, ht, hl⟩ K KX hk => ?_
  dsimp only at hlt ht hl hk
  have hb := bzTab t
  have hs := getI_at (d := (([], []) : TB.XSt)) hlt
  have hok := ht.en _ (getI_mem (d := (([], []) : TB.XSt)) hlt)
  unfold endsB at hk
  generalize getI t.states ([], []) n = s at hs hk hok
  simp only [List.map_cons, List.map_nil, hb]
  walk_at "go"
  refine pGet.mk (x := .b (TB.eSt s)) (by
    rw [bz_list]
    rw [← TB.bzSt]
    exact ixD_bL (f := TB.eSt) hs) ?_
  walk_at "go"
  rw [bz_list]
  refine bInG_v .b hl hok ?_
  exact hk _ _ .z
/-! ways that are found -/
structure AFound where
  W : WY.World
  sc : Int
  st : Int
  nm : Str
structure FPre (a : AFound) : Prop where
  w : WOk a.W
  r : RowOk a.W ⟨[], a.sc, a.st⟩
def FoundIs (a : AFound) (ws : List Way) : Prop := ∃ rs, Beg a.W a.sc a.st rs ∧ ws = sortY (rs.flatMap (finds a.W a.nm))
theorem FoundIs.uniq {a : AFound} {ws vs : List Way} (h : FoundIs a ws) (k : FoundIs a vs) : ws = vs := by
  obtain ⟨rs, h1, rfl⟩ := h
  obtain ⟨qs, h2, rfl⟩ := k
  rw [h1.uniq h2]
/-- as the ways stand -/
def F_found : Fsr := fsrq (fun a : AFound => [eNet a.W.net, eAnss a.W.ans, TB.eTab a.W.tab, .int a.sc, .int a.st, .str a.nm]) FPre FoundIs fun ws => .l (ws.map KW.r)
theorem alY (ws : List Way) : PySem.W.AllAlike (ws.map eWay) := .of fun a b => WY.alike_way _ _
theorem pu_found_ways : ∀ ds S K KX, lentR F_found ds S K KX → ws_found_ways (frz F_begZ) (frz F_ends) { nx := fun _ S1 => K (.z .none) S1, rt := K, ex := fun y _ S1 => KX y S1 } (startE nm_found_ways ds) S := by
  refine fsrq_ok fun ⟨W, sc, st, nm⟩ ⟨hW, hr⟩ K KX hk => ?_
  dsimp only at hW hr
  have hb := bzTab W.tab
  simp only [List.map_cons, List.map_nil, hb]
  walk_at "go"
  refine fsq_call (W, sc, st) (.cons .b (.cons .b (.cons .b (.cons .z (.cons .z .nil))))) ⟨hW, hr⟩ fun rs hrs => ?_
  dsimp only at hrs
  have h200 := hrs.n200
  walk_at "go"
  refine pFor_xs rs (fun r => .z (eRow r)) (by show (rs.map eRow).map D.z = _; rw [List.map_map]; rfl) (fun i env S3 => ∃ (v7 v8 v9 v10 v11 : Option D) (qs : List (Nat × Way)), env = [some (.b (eNet W.net)), some (.b (eAnss W.ans)), some (.b (TB.eTab W.tab)), some (.z (.int sc)), some (.z (.int st)), some (.z (.str nm)), some (.r 0), v7, v8, v9, v10, v11] ∧ KD.Put KW [.lst []] S3 0 qs ((rs.take i).flatMap (finds W nm))) ⟨_, _, _, _, _, [], rfl, .new rfl⟩ (fun _ _ _ _ _ => trivial) ?_ ?_
  · rintro i r _ S3 Q hri ⟨v7, v8, v9, v10, v11, qs, rfl, hF⟩ hQ
    have hrm := List.mem_of_getElem? hri
    have hro := ((hrs.me r).mp hrm).ok hW.toWB hr
    have hrl := hro.len
    have hs9 := hW.s40
    have hxl : ((rs.take i).flatMap (finds W nm)).length ≤ 2400 := by
      have h1 := flat_len (g := finds W nm) (n := 12) (xs := rs.take i) fun x hx => finds_len hW (((hrs.me x).mp (List.mem_of_mem_take hx)).ok hW.toWB hr)
      have h2 : (rs.take i).length ≤ 200 := by rw [List.length_take]; omega
      omega
    walk_at "go"
    refine pGet.mk (ixD_bL (getI_at (d := ([], [])) hro.sc)) ?_
    have hsl := getI_mem (d := (([], []) : ND.Scope)) hro.sc
    have hfd : finds W nm r = picks (fnd W nm r) 0 (WY.tells W r.sc) := rfl
    unfold WY.tells at hfd
    have hsc := hW.net.sc _ hsl
    have h9 := hW.tl _ hsl
    rw [flat_take hri, hfd] at hQ
    generalize getI W.net.scopes ([], []) r.sc = s at hsl hfd hsc h9 hQ
    walk_at "go"
    refine pFor_en s.2 eTell (by show ((s.2.map eTell).map bz) = _; rw [List.map_map]; rfl) (fun j env S4 => ∃ (v10 v11 : Option D) (qs : List (Nat × Way)), env = [some (.b (eNet W.net)), some (.b (eAnss W.ans)), some (.b (TB.eTab W.tab)), some (.z (.int sc)), some (.z (.int st)), some (.z (.str nm)), some (.r 0), some (.z (.list (r.ms.map eMk))), some (.z (.int r.sc)), some (.z (.int r.st)), v10, v11] ∧ KD.Put KW [.lst []] S4 0 qs ((rs.take i).flatMap (finds W nm) ++ picks (fnd W nm r) 0 (s.2.take j))) ⟨_, _, qs, rfl, by rw [List.take_zero]; unfold picks; rw [List.append_nil]; exact hF⟩ (fun _ _ _ _ _ => trivial) ?_ ?_
    · rintro j x _ S4 Q2 hx ⟨v10, v11, qs, rfl, hF⟩ hQ2
      have hj := (List.getElem?_eq_some_iff.mp hx).1
      have hxo := hsc.2 x (List.mem_of_getElem? hx)
      rw [picks_take hx] at hQ2
      have h0 := hF.l
      have hql : qs.length ≤ 2500 := by
        have h1 := hF.len
        rw [List.length_append] at h1
        have h2 : (picks (fnd W nm r) 0 (s.2.take j)).length ≤ 12 := Nat.le_trans WY.picks_len (by rw [List.length_take]; omega)
        omega
      have hno : fnd W nm r j x = none → ∀ v10 v11 : Option D, Q2 [some (.b (eNet W.net)), some (.b (eAnss W.ans)), some (.b (TB.eTab W.tab)), some (.z (.int sc)), some (.z (.int st)), some (.z (.str nm)), some (.r 0), some (.z (.list (r.ms.map eMk))), some (.z (.int r.sc)), some (.z (.int r.st)), v10, v11] S4 := fun e v10 v11 => hQ2 _ _ ⟨v10, v11, qs, rfl, by rw [e]; simpa using hF⟩
      walk_at "go"
      refine pIf.mk (fun c => ?_) (fun c => ?_)
      · have c : x.name = nm := of_decide_eq_true c
        walk_at "go"
        refine fsp_call (W.tab, r.st, x.lab) (.cons .b (.cons .z (.cons .z .nil))) ⟨hro.st, hW.tab, hxo.1⟩ ?_
        dsimp only
        cases he : endsB W.tab r.st x.lab with
        | true =>
          have hyes : fnd W nm r j x = some (r.ms.map stepM ++ [⟨r.sc, true, j⟩]) := if_pos ⟨c, he⟩
          rw [hyes] at hQ2
          walk_at "go"
          refine hQ2 _ _ ⟨_, _, qs ++ [(S4.length + 1, r.ms.map stepM ++ [⟨r.sc, true, j⟩])], rfl, ?_⟩
          rw [← List.append_assoc]
          refine hF.push (w := r.ms.map stepM ++ [⟨r.sc, true, j⟩]) ?_ ?_
          · show _ = Ob.lst ((r.ms.map stepM ++ [_]).map zT)
            rw [List.map_append, List.map_map, List.map_map]
            rfl
          · rw [List.length_append]; rfl
        | false =>
          walk_at "go"
          refine hno ?_ _ _
          unfold WY.fnd
          rw [if_neg (fun z => by rw [he] at z; exact Bool.noConfusion z.2)]
      · have c : x.name ≠ nm := of_decide_eq_false c
        walk_at "go"
        refine hno ?_ _ _
        unfold WY.fnd
        rw [if_neg (fun z => c z.1)]
    · rintro _ S4 ⟨v10, v11, qs, rfl, hF⟩
      rw [List.take_length] at hF
      exact hQ _ _ ⟨_, _, _, _, _, qs, rfl, hF⟩
  · rintro _ S3 ⟨v7, v8, v9, v10, v11, qs, rfl, hF⟩
    rw [List.take_length] at hF
    have hql : qs.length ≤ 2500 := by
      have h1 := hF.len
      have h2 := flat_len (g := finds W nm) (n := 12) (xs := rs) fun x hx => finds_len hW (((hrs.me x).mp hx).ok hW.toWB hr)
      omega
    walk_at "go"
    refine KD.sort_ret (k := KW) (xs := rs.flatMap (finds W nm)) hF.l hF.i hF.e hF.nd (by omega) (.of fun a b => WY.alike_way _ _) (.others fun p => ⟨by simp [KW, eWay], fun xs => by simp [KW, eWay]⟩) (fun a _ => Nat.le_trans (WY.depth_way a) (by decide)) fun m S' U hv hu => ?_
    exact hk _ _ (sortY (rs.flatMap (finds W nm))) U hv hu ⟨rs, hrs, rfl⟩
theorem rtD_way (w : Way) : rtD (KW.r w) = eWay w := by
  show rtD (lz eTM w) = _
  rw [rtD_lz]; rfl
def F_foundZ : Fsp := fsq (fun a : AFound => [eNet a.W.net, eAnss a.W.ans, TB.eTab a.W.tab, .int a.sc, .int a.st, .str a.nm]) FPre FoundIs fun ws => .list (ws.map eWay)
theorem pu_foundZ : ∀ ds S K KX, lent F_foundZ ds S K KX → ws_found_ways (frz F_begZ) (frz F_ends) { nx := fun _ S1 => K (.z .none) S1, rt := K, ex := fun y _ S1 => KX y S1 } (startE nm_found_ways ds) S :=
  fun ds S K KX h => pu_found_ways ds S K KX (lentR_lent (fun rs => by rw [rtD, rtDs_map, List.map_congr_left fun r _ => rtD_way r]) h)
theorem FoundIs.ok {a : AFound} {ws : List Way} (h : FoundIs a ws) (hp : FPre a) : ws.length ≤ 2400 ∧ ∀ w ∈ ws, WayIn a.W.net w := by
  obtain ⟨rs, h1, rfl⟩ := h
  refine ⟨?_, fun w hw => ?_⟩
  · unfold sortY
    rw [List.length_mergeSort]
    have h3 := flat_len (g := finds a.W a.nm) (n := 12) (xs := rs) fun x hx => finds_len hp.w (((h1.me x).mp hx).ok hp.w.toWB hp.r)
    have := h1.n200
    omega
  · obtain ⟨r, hr1, hw⟩ := List.mem_flatMap.mp (WY.mem_sortY.mp hw)
    exact WY.finds_in hp.w (((h1.me r).mp hr1).ok hp.w.toWB hp.r) hw
end K27

set_option Elab.async false
set_option linter.all false
set_option maxRecDepth 100000
set_option maxHeartbeats 1000000
namespace K27
open PySem L2 PL ND
local macro_rules | `(tactic| walk_at "st1") => `(tactic| first | assumption | exact sto_last | exact sto_r0 | exact sto_r1 | exact sto_r2 | exact sto_r3 | exact sto_r4)
local macro_rules | `(tactic| walk_at "sto") => `(tactic| first | walk_at "st1" | exact sto_app (by walk_at "st1") | exact sto_app (sto_app (by walk_at "st1")))
local macro_rules | `(tactic| walk_at "sz") => `(tactic| ((try simp only [List.length_map, List.length_range, List.length_append, List.length_cons, List.length_nil]); omega))
local macro_rules | `(tactic| walk_at "go") => `(tactic| ((try (conv => whnf)); repeat ((first | (show pIf _ _ _; first | refine pIf.tt rfl ?_ | refine pIf.ff rfl ?_) | (show pReq _ _; first | refine pReq.mk rfl ?_ | refine pReq.mk (sz_le rfl) ?_ | refine pReq.mk (sz_lt rfl) ?_ | refine pReq.mk (by decide) ?_ | refine pReq.mk (Or.inr (by decide)) ?_ | refine pReq.mk (Or.inl (by decide)) ?_ | refine pReq.mk (by assumption) ?_ | refine pReq.mk (isTy_l (by walk_at "sto")) ?_ | refine pReq.mk (by omega) ?_ | refine pReq.mk (sz_lt6 (by walk_at "sz")) ?_ | refine pReq.mk (sz_le6 (by walk_at "sz")) ?_ | refine pReq.mk (by walk_at "sz") ?_) | (show pGet _ _; first | refine pGet.mk rfl ?_ | refine pGet.mk (by walk_at "sto") ?_ | refine pGet.mk (lenD_at (by walk_at "sto")) ?_ | refine pGet.mk (sqD_at (by walk_at "sto")) ?_ | refine pGet.mk (lsD_at (by walk_at "sto")) ?_ | refine pGet.mk (lsR_at (by walk_at "sto")) ?_ | refine pGet.mk (srcD_at (by walk_at "sto")) ?_ | refine pGet.mk (tyD_l (by walk_at "sto")) ?_)); (try (conv => whnf)))))
open WY (Mk eMk Row eRow nextS TOk WOk RowOk inOk by_ok steps_in lgrs_snoc longer lgr lgrs leads Gone BfI TMk eTM stepM eWay eOwe Way finds owes fnd owd KW KO KR sortY sortO zT tword endsB mem_finds mem_owes eqv_way shWay shWays shOwe shOwes picks picks_take flat_take flat_len finds_len owes_len)
open WY (MkIn WayIn labM labM_ok hidesB hidesZ noS noT eqv_tm shTM noneB seenB OdOk Lb lbsOf noneL keyW keyM)
/-! ways that are owed -/
structure AOwed where
  W : WY.World
  sc : Int
  st : Int
structure OPre (a : AOwed) : Prop where
  w : WOk a.W
  r : RowOk a.W ⟨[], a.sc, a.st⟩
def OwedIs (a : AOwed) (ws : List (Way × Int)) : Prop := ∃ rs, Beg a.W a.sc a.st rs ∧ ws = sortO (rs.flatMap (owes a.W))
theorem OwedIs.uniq {a : AOwed} {ws vs : List (Way × Int)} (h : OwedIs a ws) (k : OwedIs a vs) : ws = vs := by
  obtain ⟨rs, h1, rfl⟩ := h
  obtain ⟨qs, h2, rfl⟩ := k
  rw [h1.uniq h2]
def F_owed : Fsr := fsrq (fun a : AOwed => [eNet a.W.net, eAnss a.W.ans, TB.eTab a.W.tab, .int a.sc, .int a.st]) OPre OwedIs fun ws => .l (ws.map KO.r)
theorem pu_owed_ways : ∀ ds S K KX, lentR F_owed ds S K KX → ws_owed_ways (frz F_begZ) (frz F_next) (frz F_goal) { nx := fun _ S1 => K (.z .none) S1, rt := K, ex := fun y _ S1 => KX y S1 } (startE nm_owed_ways ds) S := by
  refine fsrq_ok fun ⟨W, sc, st⟩ ⟨hW, hr⟩ K KX hk => ?_
  dsimp only at hW hr
  have hb := bzTab W.tab
  simp only [List.map_cons, List.map_nil, hb]
  walk_at "go"
  refine fsq_call (W, sc, st) (.cons .b (.cons .b (.cons .b (.cons .z (.cons .z .nil))))) ⟨hW, hr⟩ fun rs hrs => ?_
  dsimp only at hrs
  have h200 := hrs.n200
  walk_at "go"
  refine pFor_xs rs (fun r => .z (eRow r)) (by show (rs.map eRow).map D.z = _; rw [List.map_map]; rfl) (fun i env S3 => ∃ (v6 v7 v8 v9 v10 v11 v12 : Option D) (qs : List (Nat × (Way × Int))), env = [some (.b (eNet W.net)), some (.b (eAnss W.ans)), some (.b (TB.eTab W.tab)), some (.z (.int sc)), some (.z (.int st)), some (.r 0), v6, v7, v8, v9, v10, v11, v12] ∧ KD.Put KO [.lst []] S3 0 qs ((rs.take i).flatMap (owes W))) ⟨_, _, _, _, _, _, _, [], rfl, .new rfl⟩ (fun _ _ _ _ _ => trivial) ?_ ?_
  · rintro i r _ S3 Q hri ⟨v6, v7, v8, v9, v10, v11, v12, qs, rfl, hF⟩ hQ
    have hrm := List.mem_of_getElem? hri
    have hro := ((hrs.me r).mp hrm).ok hW.toWB hr
    have hrl := hro.len
    have hs9 := hW.s40
    have hxl : ((rs.take i).flatMap (owes W)).length ≤ 2400 := by
      have h1 := flat_len (g := owes W) (n := 12) (xs := rs.take i) fun x hx => owes_len hW (((hrs.me x).mp (List.mem_of_mem_take hx)).ok hW.toWB hr)
      have h2 : (rs.take i).length ≤ 200 := by rw [List.length_take]; omega
      omega
    walk_at "go"
    refine pGet.mk (ixD_bL (getI_at (d := ([], [])) hro.sc)) ?_
    have hsl := getI_mem (d := (([], []) : ND.Scope)) hro.sc
    have hfd : owes W r = picks (owd W r) 0 (WY.steps W r.sc) := rfl
    have hst := steps_in hW.toWB hro.sc
    unfold WY.steps at hfd hst
    have h9 := hW.tl _ hsl
    rw [flat_take hri, hfd] at hQ
    generalize getI W.net.scopes ([], []) r.sc = s at hsl hfd hst h9 hQ
    walk_at "go"
    refine pFor_en s.1 eStep (by show ((s.1.map eStep).map bz) = _; rw [List.map_map]; rfl) (fun j env S4 => ∃ (v9 v10 v11 v12 : Option D) (qs : List (Nat × (Way × Int))), env = [some (.b (eNet W.net)), some (.b (eAnss W.ans)), some (.b (TB.eTab W.tab)), some (.z (.int sc)), some (.z (.int st)), some (.r 0), some (.z (.list (r.ms.map eMk))), some (.z (.int r.sc)), some (.z (.int r.st)), v9, v10, v11, v12] ∧ KD.Put KO [.lst []] S4 0 qs ((rs.take i).flatMap (owes W) ++ picks (owd W r) 0 (s.1.take j))) ⟨_, _, _, _, qs, rfl, by rw [List.take_zero]; unfold picks; rw [List.append_nil]; exact hF⟩ (fun _ _ _ _ _ => trivial) ?_ ?_
    · rintro j x _ S4 Q2 hx ⟨v9, v10, v11, v12, qs, rfl, hF⟩ hQ2
      have hj := (List.getElem?_eq_some_iff.mp hx).1
      have hxo := hst x (List.mem_of_getElem? hx)
      rw [picks_take hx] at hQ2
      have h0 := hF.l
      have hql : qs.length ≤ 2500 := by
        have h1 := hF.len
        rw [List.length_append] at h1
        have h2 : (picks (owd W r) 0 (s.1.take j)).length ≤ 12 := Nat.le_trans WY.picks_len (by rw [List.length_take]; omega)
        omega
      have hno : owd W r j x = none → ∀ v9 v10 v11 v12 : Option D, Q2 [some (.b (eNet W.net)), some (.b (eAnss W.ans)), some (.b (TB.eTab W.tab)), some (.z (.int sc)), some (.z (.int st)), some (.r 0), some (.z (.list (r.ms.map eMk))), some (.z (.int r.sc)), some (.z (.int r.st)), v9, v10, v11, v12] S4 := fun e v9 v10 v11 v12 => hQ2 _ _ ⟨v9, v10, v11, v12, qs, rfl, by rw [e]; simpa using hF⟩
      walk_at "go"
      refine fsp_call (W.tab, r.st, x.lab) (.cons .b (.cons .z (.cons .z .nil))) hro.st ?_
      dsimp only
      cases hnx : nextS W.tab r.st x.lab with
      | none =>
        walk_at "go"
        refine hno ?_ _ _ _ _
        unfold WY.owd
        rw [hnx]
      | some t =>
        walk_at "go"
        refine fsp_call (⟨W.net, W.ans, x⟩ : AGo) (.cons .b (.cons .b (.cons .z .nil))) ⟨inOk hW.toWB, fun hb => by_ok hW.toWB hxo hb⟩ ?_
        dsimp only
        cases hg : WY.goal W.net W.ans x with
        | to m =>
          walk_at "go"
          refine hno ?_ _ _ _ _
          unfold WY.owd
          rw [hnx, hg]
        | no =>
          walk_at "go"
          refine hno ?_ _ _ _ _
          unfold WY.owd
          rw [hnx, hg]
        | opn q =>
          have hyes : owd W r j x = some (r.ms.map stepM ++ [⟨r.sc, false, j⟩], q) := by
            unfold WY.owd
            rw [hnx, hg]
          rw [hyes] at hQ2
          walk_at "go"
          refine hQ2 _ _ ⟨_, _, _, _, qs ++ [(S4.length + 1, (r.ms.map stepM ++ [⟨r.sc, false, j⟩], q))], rfl, ?_⟩
          rw [← List.append_assoc]
          refine hF.push (w := (r.ms.map stepM ++ [⟨r.sc, false, j⟩], q)) ?_ ?_
          · show _ = Ob.lst ((r.ms.map stepM ++ [_]).map zT)
            rw [List.map_append, List.map_map, List.map_map]
            rfl
          · rw [List.length_append]; rfl
    · rintro _ S4 ⟨v9, v10, v11, v12, qs, rfl, hF⟩
      rw [List.take_length] at hF
      exact hQ _ _ ⟨_, _, _, _, _, _, _, qs, rfl, hF⟩
  · rintro _ S3 ⟨v6, v7, v8, v9, v10, v11, v12, qs, rfl, hF⟩
    rw [List.take_length] at hF
    have hql : qs.length ≤ 2500 := by
      have h1 := hF.len
      have h2 := flat_len (g := owes W) (n := 12) (xs := rs) fun x hx => owes_len hW (((hrs.me x).mp hx).ok hW.toWB hr)
      omega
    walk_at "go"
    refine KD.sort_ret (k := KO) (xs := rs.flatMap (owes W)) hF.l hF.i hF.e hF.nd (by omega) (.of fun a b => WY.alike_owe _ _) (.tuples fun p => ⟨_, _, rfl⟩) (fun a _ => WY.depth_owe a) fun m S' U hv hu => ?_
    exact hk _ _ (sortO (rs.flatMap (owes W))) U hv hu ⟨rs, hrs, rfl⟩
theorem rtD_owe (p : Way × Int) : rtD (KO.r p) = eOwe p := by
  show rtD (.t [lz eTM p.1, .z (.int p.2)]) = _
  simp only [rtD, rtDs, rtD_lz]; rfl
def F_owedZ : Fsp := fsq (fun a : AOwed => [eNet a.W.net, eAnss a.W.ans, TB.eTab a.W.tab, .int a.sc, .int a.st]) OPre OwedIs fun ws => .list (ws.map eOwe)
theorem pu_owedZ : ∀ ds S K KX, lent F_owedZ ds S K KX → ws_owed_ways (frz F_begZ) (frz F_next) (frz F_goal) { nx := fun _ S1 => K (.z .none) S1, rt := K, ex := fun y _ S1 => KX y S1 } (startE nm_owed_ways ds) S :=
  fun ds S K KX h => pu_owed_ways ds S K KX (lentR_lent (fun rs => by rw [rtD, rtDs_map, List.map_congr_left fun r _ => rtD_owe r]) h)
theorem OwedIs.ok {a : AOwed} {ws : List (Way × Int)} (h : OwedIs a ws) (hp : OPre a) : ws.length ≤ 2400 ∧ ∀ w ∈ ws, WayIn a.W.net w.1 := by
  obtain ⟨rs, h1, rfl⟩ := h
  refine ⟨?_, fun w hw => ?_⟩
  · unfold sortO
    rw [List.length_mergeSort]
    have h3 := flat_len (g := owes a.W) (n := 12) (xs := rs) fun x hx => owes_len hp.w (((h1.me x).mp hx).ok hp.w.toWB hp.r)
    have := h1.n200
    omega
  · obtain ⟨r, hr1, hw⟩ := List.mem_flatMap.mp (WY.mem_sortO.mp hw)
    exact WY.owes_in hp.w (((h1.me r).mp hr1).ok hp.w.toWB hp.r) hw
end K27

set_option Elab.async false
set_option linter.all false
set_option maxRecDepth 100000
set_option maxHeartbeats 1000000
namespace K27
open PySem L2 PL ND
local macro_rules | `(tactic| walk_at "st1") => `(tactic| first | assumption | exact sto_last | exact sto_r0 | exact sto_r1 | exact sto_r2 | exact sto_r3 | exact sto_r4)
local macro_rules | `(tactic| walk_at "sto") => `(tactic| first | walk_at "st1" | exact sto_app (by walk_at "st1") | exact sto_app (sto_app (by walk_at "st1")))
local macro_rules | `(tactic| walk_at "sz") => `(tactic| ((try simp only [List.length_map, List.length_range, List.length_append, List.length_cons, List.length_nil]); omega))
local macro_rules | `(tactic| walk_at "go") => `(tactic| ((try (conv => whnf)); repeat ((first | (show pIf _ _ _; first | refine pIf.tt rfl ?_ | refine pIf.ff rfl ?_) | (show pReq _ _; first | refine pReq.mk rfl ?_ | refine pReq.mk (sz_le rfl) ?_ | refine pReq.mk (sz_lt rfl) ?_ | refine pReq.mk (by decide) ?_ | refine pReq.mk (Or.inr (by decide)) ?_ | refine pReq.mk (Or.inl (by decide)) ?_ | refine pReq.mk (by assumption) ?_ | refine pReq.mk (isTy_l (by walk_at "sto")) ?_ | refine pReq.mk (by omega) ?_ | refine pReq.mk (sz_lt6 (by walk_at "sz")) ?_ | refine pReq.mk (sz_le6 (by walk_at "sz")) ?_ | refine pReq.mk (by walk_at "sz") ?_) | (show pGet _ _; first | refine pGet.mk rfl ?_ | refine pGet.mk (by walk_at "sto") ?_ | refine pGet.mk (lenD_at (by walk_at "sto")) ?_ | refine pGet.mk (sqD_at (by walk_at "sto")) ?_ | refine pGet.mk (lsD_at (by walk_at "sto")) ?_ | refine pGet.mk (lsR_at (by walk_at "sto")) ?_ | refine pGet.mk (srcD_at (by walk_at "sto")) ?_ | refine pGet.mk (tyD_l (by walk_at "sto")) ?_)); (try (conv => whnf)))))
open WY (Mk eMk Row eRow nextS TOk WOk RowOk inOk by_ok steps_in lgrs_snoc longer lgr lgrs leads Gone BfI TMk eTM stepM eWay eOwe Way finds owes fnd owd KW KO KR sortY sortO zT tword endsB mem_finds mem_owes eqv_way shWay shWays shOwe shOwes picks picks_take flat_take flat_len finds_len owes_len)
open WY (MkIn WayIn labM labM_ok hidesB hidesZ noS noT eqv_tm shTM noneB seenB OdOk Lb lbsOf noneL keyW keyM)
/-! labels at marks; hides -/
open WY (MkIn WayIn labM labM_ok hidesB hidesZ noS noT eqv_tm shTM)
def F_label : Fsp := fsp (fun a : Net × TMk => [eNet a.1, eTM a.2]) (fun a => MkIn a.1 a.2) fun a => .str (labM a.1 a.2)
theorem pu_label_at : ∀ ds S K KX, lent F_label ds S K KX → ws_label_at { nx := fun _ S1 => K (.z .none) S1, rt := K, ex := fun y _ S1 => KX y S1 } (startE nm_label_at ds) S := by
  refine fsp_ok fun ⟨n, sc, b, ix⟩ ⟨hs, hi⟩ K KX hk => ?_
  dsimp only at hs hi
  unfold labM at hk
  unfold WY.rowLen at hi
  have hgs := getI_at (d := (([], []) : ND.Scope)) hs
  dsimp only at hk hi
  generalize getI n.scopes ([], []) sc = s at hgs hk hi
  cases b with
  | true =>
    rw [if_pos rfl] at hk hi
    walk_at "go"
    refine pGet.mk (ixD_bL hgs) ?_
    walk_at "go"
    refine pGet.mk (ixD_bL (getI_at (d := noT) hi)) ?_
    walk_at "go"
    exact hk _ _ .z
  | false =>
    rw [if_neg (by decide)] at hk hi
    walk_at "go"
    refine pGet.mk (ixD_bL hgs) ?_
    walk_at "go"
    refine pGet.mk (ixD_bL (getI_at (d := noS) hi)) ?_
    walk_at "go"
    exact hk _ _ .z
theorem pu_law_label : ∀ ds S K KX, lent F_label ds S K KX → ws__law_label { nx := fun _ S1 => K (.z .none) S1, rt := K, ex := fun y _ S1 => KX y S1 } (startE nm__law_label ds) S := by
  refine fsp_ok fun ⟨n, sc, b, ix⟩ ⟨hs, hi⟩ K KX hk => ?_
  dsimp only at hs hi
  unfold labM at hk
  unfold WY.rowLen at hi
  have hgs := getI_at (d := (([], []) : ND.Scope)) hs
  dsimp only at hk hi
  generalize getI n.scopes ([], []) sc = s at hgs hk hi
  cases b with
  | true =>
    rw [if_pos rfl] at hk hi
    walk_at "go"
    refine pGet.mk (ixD_bL hgs) ?_
    walk_at "go"
    refine pGet.mk (ixD_bL (getI_at (d := noT) hi)) ?_
    walk_at "go"
    exact hk _ _ .z
  | false =>
    rw [if_neg (by decide)] at hk hi
    walk_at "go"
    refine pGet.mk (ixD_bL hgs) ?_
    walk_at "go"
    refine pGet.mk (ixD_bL (getI_at (d := noS) hi)) ?_
    walk_at "go"
    exact hk _ _ .z
theorem any_pairs (p : OR.Pr) : ∀ ps : List OR.Pr, ((ps.map OR.eP).any fun z => PyData.eqv z (OR.eP p)) = decide (p ∈ ps)
  | [] => by simp
  | q :: ps => by
    rw [List.map_cons, List.any_cons, any_pairs p ps]
    have e : PyData.eqv (OR.eP q) (OR.eP p) = decide (q = p) := by
      obtain ⟨a, b⟩ := q
      obtain ⟨c, d⟩ := p
      simp [PyData.eqv, PyData.eqvAll]
      by_cases h : a = c <;> by_cases h2 : b = d <;> simp [h, h2]
    rw [e]
    by_cases h : q = p
    · subst h; simp
    · have h2 : p ≠ q := fun z => h z.symm
      simp [h, h2]
theorem shP {p : OR.Pr} (h : PyData.strOk p.1 = true ∧ PyData.strOk p.2 = true) : Shp 1 (OR.eP p) := .tup2 (n := 0) (.str h.1) (.str h.2)
theorem bIn_p {S : Sto} {x y : D} {ps : List OR.Pr} {p : OR.Pr} {k : Bool → Prop} (h1 : Vw S x (OR.eP p)) (h2 : Vw S y (.list (ps.map OR.eP))) (hp : PyData.strOk p.1 = true ∧ PyData.strOk p.2 = true) (hps : ∀ p ∈ ps, PyData.strOk p.1 = true ∧ PyData.strOk p.2 = true) (hk : k (decide (p ∈ ps))) : bInG x y S k := by
  refine ⟨.inl ⟨OR.eP p, ps.map OR.eP, h1, h2, (shP hp).ok, (Shp.lists (n := 1) fun q hq => shP (hps q hq)).ok, ?_⟩⟩
  rw [any_pairs]; exact hk
structure BetPre (a : TB.XTab × Str × Str) : Prop where
  t : TOk a.1
  p : PyData.strOk a.2.1 = true ∧ PyData.strOk a.2.2 = true
def F_is_better : Fsp := fsp (fun a : TB.XTab × Str × Str => [TB.eTab a.1, .str a.2.1, .str a.2.2]) BetPre fun a => .bool (decide ((a.2.1, a.2.2) ∈ a.1.order))
theorem pu_is_better : ∀ ds S K KX, lent F_is_better ds S K KX → ws_is_better { nx := fun _ S1 => K (.z .none) S1, rt := K, ex := fun y _ S1 => KX y S1 } (startE nm_is_better ds) S := by
  refine fsp_ok fun ⟨t, a, b⟩ ⟨ht, hp⟩ K KX hk => ?_
  dsimp only at ht hp hk
  have hb := bzTab t
  simp only [List.map_cons, List.map_nil, hb]
  walk_at "go"
  rw [bz_list]
  refine bIn_p (p := (a, b)) .z .b hp ht.od ?_
  exact hk _ _ .z
structure AHides where
  n : Net
  t : TB.XTab
  a : Way
  b : Way
structure HidePre (x : AHides) : Prop where
  n : NetOk x.n
  t : TOk x.t
  a : WayIn x.n x.a
  b : WayIn x.n x.b
def F_hides : Fsp := fsp (fun x : AHides => [eNet x.n, TB.eTab x.t, eWay x.a, eWay x.b]) HidePre fun x => .bool (hidesB x.n x.t.order x.a x.b)
theorem zipT (a b : Way) : List.zipWith (fun x y => mkT [x, y]) (a.map zT) (b.map zT) = (a.zip b).map fun p => D.z (.tuple [eTM p.1, eTM p.2]) := by
  induction a generalizing b with
  | nil => simp
  | cons x a ih =>
    cases b with
    | nil => simp
    | cons y b =>
      rw [List.map_cons, List.map_cons, List.zipWith_cons_cons, ih]
      rfl
theorem hidesZ_drop {n : Net} {od : List OR.Pr} {zs : List (TMk × TMk)} {i : Nat} {a b : TMk} (h : zs[i]? = some (a, b)) : hidesZ n od (zs.drop i) = if a = b then hidesZ n od (zs.drop (i + 1)) else decide ((labM n a, labM n b) ∈ od) := by
  obtain ⟨hi, e⟩ := List.getElem?_eq_some_iff.mp h
  rw [List.drop_eq_getElem_cons hi, e]
  rfl
theorem zip_in {n : Net} {a b : Way} (ha : WayIn n a) (hb : WayIn n b) {i : Nat} {x y : TMk} (h : (a.zip b)[i]? = some (x, y)) : MkIn n x ∧ MkIn n y := by
  have := List.mem_of_getElem? h
  exact ⟨ha.1 x (List.of_mem_zip this).1, hb.1 y (List.of_mem_zip this).2⟩
theorem pu_hides : ∀ ds S K KX, lent F_hides ds S K KX → ws_hides (frz F_label) (frz F_is_better) { nx := fun _ S1 => K (.z .none) S1, rt := K, ex := fun y _ S1 => KX y S1 } (startE nm_hides ds) S := by
  refine fsp_ok fun ⟨n, t, a, b⟩ ⟨hn, ht, ha, hb⟩ K KX hk => ?_
  dsimp only at hn ht ha hb hk
  have hbt := bzTab t
  have hba : bz (eWay a) = .b (.list (a.map eTM)) := bz_list
  have hbb : bz (eWay b) = .b (.list (b.map eTM)) := bz_list
  simp only [List.map_cons, List.map_nil, hbt, hba, hbb]
  walk_at "go"
  refine pFor_xs (a.zip b) (fun p => D.z (.tuple [eTM p.1, eTM p.2])) (by show List.zipWith _ ((a.map eTM).map bz) ((b.map eTM).map bz) = _; rw [List.map_map, List.map_map]; exact zipT a b) (fun i env S => ∃ (v4 v5 : Option D), env = [some (.b (eNet n)), some (.b (TB.eTab t)), some (.b (.list (a.map eTM))), some (.b (.list (b.map eTM))), v4, v5] ∧ hidesB n t.order a b = hidesZ n t.order ((a.zip b).drop i)) ⟨_, _, rfl, rfl⟩ (fun _ _ _ _ _ => ⟨trivial, trivial⟩) ?_ ?_
  · rintro i ⟨x, y⟩ _ S Q hx ⟨v4, v5, rfl, he⟩ hQ
    obtain ⟨hxi, hyi⟩ := zip_in ha hb hx
    rw [hidesZ_drop hx] at he
    walk_at "go"
    refine eq_dec .z .z (shTM x) (shTM y) (by decide) (eqv_tm x y) ?_
    by_cases c : x = y
    · rw [if_pos c] at he
      rw [decide_eq_true c]
      walk_at "go"
      exact hQ _ _ ⟨_, _, rfl, he⟩
    · rw [if_neg c] at he
      rw [decide_eq_false c]
      walk_at "go"
      refine fsp_call (n, x) (.cons .b (.cons .z .nil)) hxi ?_
      walk_at "go"
      refine fsp_call (n, y) (.cons .b (.cons .z .nil)) hyi ?_
      walk_at "go"
      refine fsp_call (t, labM n x, labM n y) (.cons .b (.cons .z (.cons .z .nil))) ⟨ht, labM_ok hn hxi, labM_ok hn hyi⟩ ?_
      dsimp only
      rw [← he]
      walk_at "go"
      exact hk _ _ .z
  · rintro _ S ⟨v4, v5, rfl, he⟩
    rw [List.drop_length] at he
    rw [he] at hk
    walk_at "go"
    exact hk _ _ .z
theorem pu_law_hides : ∀ ds S K KX, lent F_hides ds S K KX → ws__law_hides (frz F_label) { nx := fun _ S1 => K (.z .none) S1, rt := K, ex := fun y _ S1 => KX y S1 } (startE nm__law_hides ds) S := by
  refine fsp_ok fun ⟨n, t, a, b⟩ ⟨hn, ht, ha, hb⟩ K KX hk => ?_
  dsimp only at hn ht ha hb hk
  have hbt := bzTab t
  have hba : bz (eWay a) = .b (.list (a.map eTM)) := bz_list
  have hbb : bz (eWay b) = .b (.list (b.map eTM)) := bz_list
  simp only [List.map_cons, List.map_nil, hbt, hba, hbb]
  walk_at "go"
  refine pFor_xs (a.zip b) (fun p => D.z (.tuple [eTM p.1, eTM p.2])) (by show List.zipWith _ ((a.map eTM).map bz) ((b.map eTM).map bz) = _; rw [List.map_map, List.map_map]; exact zipT a b) (fun i env S => ∃ (v4 v5 : Option D), env = [some (.b (eNet n)), some (.b (TB.eTab t)), some (.b (.list (a.map eTM))), some (.b (.list (b.map eTM))), v4, v5] ∧ hidesB n t.order a b = hidesZ n t.order ((a.zip b).drop i)) ⟨_, _, rfl, rfl⟩ (fun _ _ _ _ _ => ⟨trivial, trivial⟩) ?_ ?_
  · rintro i ⟨x, y⟩ _ S Q hx ⟨v4, v5, rfl, he⟩ hQ
    obtain ⟨hxi, hyi⟩ := zip_in ha hb hx
    rw [hidesZ_drop hx] at he
    walk_at "go"
    refine eq_dec .z .z (shTM x) (shTM y) (by decide) (eqv_tm x y) ?_
    by_cases c : x = y
    · rw [if_pos c] at he
      rw [decide_eq_true c]
      walk_at "go"
      exact hQ _ _ ⟨_, _, rfl, he⟩
    · rw [if_neg c] at he
      rw [decide_eq_false c]
      walk_at "go"
      refine fsp_call (n, x) (.cons .b (.cons .z .nil)) hxi ?_
      walk_at "go"
      refine fsp_call (n, y) (.cons .b (.cons .z .nil)) hyi ?_
      walk_at "go"
      rw [bz_list]
      refine bIn_p (p := (labM n x, labM n y)) .z .b ⟨labM_ok hn hxi, labM_ok hn hyi⟩ ht.od ?_
      rw [← he]
      exact hk _ _ .z
  · rintro _ S ⟨v4, v5, rfl, he⟩
    rw [List.drop_length] at he
    rw [he] at hk
    walk_at "go"
    exact hk _ _ .z
end K27

set_option Elab.async false
set_option linter.all false
set_option maxRecDepth 100000
set_option maxHeartbeats 1000000
namespace K27
open PySem L2 PL ND
local macro_rules | `(tactic| walk_at "st1") => `(tactic| first | assumption | exact sto_last | exact sto_r0 | exact sto_r1 | exact sto_r2 | exact sto_r3 | exact sto_r4)
local macro_rules | `(tactic| walk_at "sto") => `(tactic| first | walk_at "st1" | exact sto_app (by walk_at "st1") | exact sto_app (sto_app (by walk_at "st1")))
local macro_rules | `(tactic| walk_at "sz") => `(tactic| ((try simp only [List.length_map, List.length_range, List.length_append, List.length_cons, List.length_nil]); omega))
local macro_rules | `(tactic| walk_at "go") => `(tactic| ((try (conv => whnf)); repeat ((first | (show pIf _ _ _; first | refine pIf.tt rfl ?_ | refine pIf.ff rfl ?_) | (show pReq _ _; first | refine pReq.mk rfl ?_ | refine pReq.mk (sz_le rfl) ?_ | refine pReq.mk (sz_lt rfl) ?_ | refine pReq.mk (by decide) ?_ | refine pReq.mk (Or.inr (by decide)) ?_ | refine pReq.mk (Or.inl (by decide)) ?_ | refine pReq.mk (by assumption) ?_ | refine pReq.mk (isTy_l (by walk_at "sto")) ?_ | refine pReq.mk (by omega) ?_ | refine pReq.mk (sz_lt6 (by walk_at "sz")) ?_ | refine pReq.mk (sz_le6 (by walk_at "sz")) ?_ | refine pReq.mk (by walk_at "sz") ?_) | (show pGet _ _; first | refine pGet.mk rfl ?_ | refine pGet.mk (by walk_at "sto") ?_ | refine pGet.mk (lenD_at (by walk_at "sto")) ?_ | refine pGet.mk (sqD_at (by walk_at "sto")) ?_ | refine pGet.mk (lsD_at (by walk_at "sto")) ?_ | refine pGet.mk (lsR_at (by walk_at "sto")) ?_ | refine pGet.mk (srcD_at (by walk_at "sto")) ?_ | refine pGet.mk (tyD_l (by walk_at "sto")) ?_)); (try (conv => whnf)))))
open WY (Mk eMk Row eRow nextS TOk WOk RowOk inOk by_ok steps_in lgrs_snoc longer lgr lgrs leads Gone BfI TMk eTM stepM eWay eOwe Way finds owes fnd owd KW KO KR sortY sortO zT tword endsB mem_finds mem_owes eqv_way shWay shWays shOwe shOwes picks picks_take flat_take flat_len finds_len owes_len)
open WY (MkIn WayIn labM labM_ok hidesB hidesZ noS noT eqv_tm shTM noneB seenB OdOk Lb lbsOf noneL keyW keyM)
/-! what is worth: labels behind beginnings -/
open WY (LbX LbAt zL lbs_take lbs_len KdAt.lt)
theorem cutTo {α : Type} (xs : List α) (k : Nat) : cutL xs none (some (k : Int)) = xs.take k := by
  unfold cutL
  rw [HT.sIx_none, HT.sIx_nat, List.drop_zero, Nat.sub_zero]
  by_cases h : k ≤ xs.length
  · rw [Nat.min_eq_left h]
  · rw [Nat.min_eq_right (by omega), List.take_length, List.take_of_length_le (by omega)]
theorem waysB (ws : List Way) : (ws.map eWay).map bz = ws.map fun w => .b (eWay w) := by
  rw [List.map_map]; exact List.map_congr_left fun w _ => bz_list
theorem wayZ (w : Way) : (w.map eTM).map bz = w.map fun m => .z (eTM m) := by rw [List.map_map]; rfl
theorem keepSet {S S2 : Sto} {n : Nat} {o : Ob} (k : Keep [] S S2) (h : S.length ≤ n) : Keep [] S (S2.set n o) := fun a b h0 e => by
  rw [List.getElem?_set_ne (fun z : n = a => by have := (List.getElem?_eq_some_iff.mp e).1; omega)]
  exact k a b h0 e
structure ALb where
  n : Net
  ws : List Way
structure LbPre (a : ALb) (ds : List D) (S : Sto) : Prop where
  ds : ds = [.b (eNet a.n), .b (.list (a.ws.map eWay))]
  n : NetOk a.n
  w : ∀ w ∈ a.ws, WayIn a.n w
  l : a.ws.length ≤ 5000
def F_labels_behind (hx : HX) : Spc := fsm LbPre fun a d S S' => ∃ m, d = .r m ∧ Keep [] S S' ∧ LbAt hx a.n S' m a.ws
theorem pu_labels_behind {hx : HX} : ∀ ds S K KX, F_labels_behind hx ds S K KX → ws_labels_behind hx (frz F_label) { nx := fun _ S1 => K (.z .none) S1, rt := K, ex := fun y _ S1 => KX y S1 } (startE nm_labels_behind ds) S := by
  refine fsm_ok fun ⟨n, ws⟩ ds S ⟨e, hn0, hw, hl⟩ K KX hk => ?_
  dsimp only at e hn0 hw hl hk
  subst e
  walk_at "go"
  refine pFor_xs ws (fun w => .b (eWay w)) (waysB ws) (fun i env S3 => ∃ (v3 v4 v5 v6 v7 : Option D) (es : List (Way × Nat)) (c : Nat), env = [some (.b (eNet n)), some (.b (.list (ws.map eWay))), some (.r S.length), v3, v4, v5, v6, v7] ∧ Keep [] S S3 ∧ LbX hx (S.length + 1) S3 S.length c ((ws.take i).flatMap (lbsOf n)) es ∧ c ≤ 82 * i) ⟨_, _, _, _, _, [], 0, rfl, .app, .new sto_last, Nat.le_refl _⟩ (fun _ _ _ _ _ => trivial) ?_ ?_
  · rintro i w _ S3 Q hwi ⟨v3, v4, v5, v6, v7, es, c, rfl, kp, hX, hc⟩ hQ
    have hi := (List.getElem?_eq_some_iff.mp hwi).1
    have hwo := hw w (List.mem_of_getElem? hwi)
    have hwl := hwo.2
    walk_at "go"
    refine pFor_en w eTM (wayZ w) (fun j env S4 => ∃ (v4 v5 v6 v7 : Option D) (es : List (Way × Nat)) (c : Nat), env = [some (.b (eNet n)), some (.b (.list (ws.map eWay))), some (.r S.length), some (.b (eWay w)), v4, v5, v6, v7] ∧ Keep [] S S4 ∧ LbX hx (S.length + 1) S4 S.length c ((ws.take i).flatMap (lbsOf n) ++ (lbsOf n w).take j) es ∧ c ≤ 82 * i + 2 * j) ⟨_, _, _, _, es, c, rfl, kp, by rw [List.take_zero, List.append_nil]; exact hX, by omega⟩ (fun _ _ _ _ _ => trivial) ?_ ?_
    · rintro j x _ S4 Q2 hxj ⟨v4, v5, v6, v7, es, c, rfl, kp, hX, hc⟩ hQ2
      have hj := (List.getElem?_eq_some_iff.mp hxj).1
      have hxo := hwo.1 x (List.mem_of_getElem? hxj)
      have hlo := labM_ok hn0 hxo
      rw [lbs_take hxj, ← List.append_assoc] at hQ2
      have hty : KTy hx (.r S.length) S4 := ⟨⟨_, _, rfl, hX.kd⟩⟩
      walk_at "go"
      rw [wayZ, cutTo, ← List.map_take, mkT_map]
      have hS : S.length < S4.length := KdAt.lt hX.kd
      have hX2 : LbX hx (S.length + 1) (S4 ++ [Ob.lst ((w.take j).map fun m => .z (eTM m))] ++ [Ob.lst []]) S.length c _ es := hX.app.app
      have kp2 : Keep [] S (S4 ++ [Ob.lst ((w.take j).map fun m => .z (eTM m))] ++ [Ob.lst []]) := kp.trans (Keep.app.trans Keep.app)
      have hn : (S4 ++ [Ob.lst ((w.take j).map fun m => D.z (eTM m))] ++ [Ob.lst []])[(S4 ++ [Ob.lst ((w.take j).map fun m => D.z (eTM m))]).length]? = some (.lst []) := sto_last
      have hle : S4.length < (S4 ++ [Ob.lst ((w.take j).map fun m => D.z (eTM m))]).length := by simp
      have hlt := hX.lt
      generalize hS5 : (S4 ++ [Ob.lst ((w.take j).map fun m => D.z (eTM m))] ++ [Ob.lst []]) = S5 at hX2 kp2 hn ⊢
      generalize (S4 ++ [Ob.lst ((w.take j).map fun m => D.z (eTM m))]).length = q0 at hn hle ⊢
      refine hX2.setd hn (by omega) (by omega) (fun e he => by have := hlt e he; omega) (by omega) fun S6 q es2 h6 hX3 hq => ?_
      have kp3 : Keep [] S S6 := by
        rcases h6 with rfl | ⟨o, rfl⟩
        · exact kp2
        · exact keepSet kp2 (Nat.le_refl _)
      clear h6 hX2 kp2 hn hS5
      obtain ⟨hbq, hqm, ls, hls, hlc, hmem⟩ := hX3.at_ _ hq
      dsimp only at hbq hqm hls hmem
      walk_at "go"
      refine fsp_call (n, x) (.cons .b (.cons .z .nil)) hxo ?_
      dsimp only
      have hlk : ∀ l ∈ ls, PyData.strOk l = true := fun l hl2 => by
        rcases List.mem_append.mp ((hmem l).mp hl2) with h | h
        · obtain ⟨v, hv, h⟩ := List.mem_flatMap.mp h
          have hv2 := hw v (List.mem_of_mem_take hv)
          obtain ⟨y, r, e, rfl⟩ := WY.mem_lbs.mp h
          exact labM_ok hn0 (hv2.1 y (by rw [e]; simp))
        · have h := List.mem_of_mem_take h
          obtain ⟨y, r, e, rfl⟩ := WY.mem_lbs.mp h
          exact labM_ok hn0 (hwo.1 y (by rw [e]; simp))
      walk_at "go"
      refine bInG_v (.r hls (Vws.map PyData.str ls)) hlo hlk ?_
      refine pIf.mk (fun c1 => ?_) (fun c1 => ?_)
      · walk_at "go"
        refine hQ2 _ _ ⟨_, _, _, _, es2, _, rfl, keepSet kp3 (by omega), hX3.put hq hls, by omega⟩
      · have c1 : labM n x ∈ ls := by
          cases hd : decide (labM n x ∈ ls) with
          | true => exact of_decide_eq_true hd
          | false => rw [hd] at c1; cases c1
        walk_at "go"
        exact hQ2 _ _ ⟨_, _, _, _, es2, _, rfl, kp3, hX3.hit hq hls c1, by omega⟩
    · rintro _ S4 ⟨v4, v5, v6, v7, es, c, rfl, kp, hX, hc⟩
      have e : (lbsOf n w).take w.length = lbsOf n w := by rw [← lbs_len n w, List.take_length]
      rw [e, ← flat_take hwi] at hX
      exact hQ _ _ ⟨_, _, _, _, _, es, c, rfl, kp, hX, by omega⟩
  · rintro _ S3 ⟨v3, v4, v5, v6, v7, es, c, rfl, kp, hX, hc⟩
    rw [List.take_length] at hX
    walk_at "go"
    exact hk _ _ ⟨_, rfl, kp, _, _, _, hX⟩

structure ANh where
  n : Net
  t : TB.XTab
  ws : List Way
  m : Nat
  w : Way
structure NhPre (hx : HX) (a : ANh) (ds : List D) (S : Sto) : Prop where
  ds : ds = [.b (eNet a.n), .b (TB.eTab a.t), .r a.m, .b (eWay a.w)]
  n : NetOk a.n
  t : TOk a.t
  w : WayIn a.n a.w
  ws : ∀ w ∈ a.ws, WayIn a.n w
  lb : LbAt hx a.n S a.m a.ws
def F_none_hides (hx : HX) : Spc := fsm (NhPre hx) fun a d S S' => d = .z (.bool (noneB a.n a.t.order a.ws a.w)) ∧ Keep [] S S'
theorem all_take_false {α : Type} {p : α → Bool} {xs : List α} {x : α} (hx : x ∈ xs) (h : p x = false) : xs.all p = false := by
  cases e : xs.all p with
  | false => rfl
  | true => rw [List.all_eq_true.mp e x hx] at h; cases h
theorem all_snoc {α : Type} {p : α → Bool} {xs : List α} {i : Nat} {x : α} (h : xs[i]? = some x) (h1 : (xs.take i).all p = true) (h2 : p x = true) : (xs.take (i + 1)).all p = true := by
  rw [List.take_add_one, h, List.all_append, h1]
  simp [h2]
theorem pu_none_hides {hx : HX} : ∀ ds S K KX, F_none_hides hx ds S K KX → ws_none_hides hx (frz F_label) (frz F_is_better) { nx := fun _ S1 => K (.z .none) S1, rt := K, ex := fun y _ S1 => KX y S1 } (startE nm_none_hides ds) S := by
  refine fsm_ok fun ⟨n, t, ws, m, w⟩ ds S ⟨e, hn0, ht, hwo, hws, hlb⟩ K KX hk => ?_
  dsimp only at e hn0 ht hwo hws hlb hk
  subst e
  rw [← WY.none_lbs ht.odk] at hk
  have hwl := hwo.2
  walk_at "go"
  refine pFor_en w eTM (wayZ w) (fun j env S4 => ∃ (v4 v5 v6 v7 : Option D), env = [some (.b (eNet n)), some (.b (TB.eTab t)), some (.r m), some (.b (eWay w)), v4, v5, v6, v7] ∧ Keep [] S S4 ∧ ((lbsOf n w).take j).all (noneL t.order (ws.flatMap (lbsOf n))) = true) ⟨_, _, _, _, rfl, .refl, by rw [List.take_zero]; rfl⟩ (fun _ _ _ _ _ => trivial) ?_ ?_
  · rintro j x _ S4 Q2 hxj ⟨v4, v5, v6, v7, rfl, kp, hall⟩ hQ2
    have hj := (List.getElem?_eq_some_iff.mp hxj).1
    have hxo := hwo.1 x (List.mem_of_getElem? hxj)
    have hlo := labM_ok hn0 hxo
    obtain ⟨b, c, es, hX⟩ := hlb.keep kp
    have hty : KTy hx (.r m) S4 := ⟨⟨_, _, rfl, hX.kd⟩⟩
    have hlj : (lbsOf n w)[j]? = some (w.take j, labM n x) := by
      unfold lbsOf
      rw [List.getElem?_mapIdx, hxj]; rfl
    walk_at "go"
    refine fsp_call (n, x) (.cons .b (.cons .z .nil)) hxo ?_
    dsimp only
    walk_at "go"
    rw [wayZ, cutTo, ← List.map_take, mkT_map]
    have hX2 : LbX hx b (S4 ++ [Ob.lst ((w.take j).map fun m => .z (eTM m))] ++ [Ob.lst []]) m c _ es := hX.app.app
    have kp2 : Keep [] S (S4 ++ [Ob.lst ((w.take j).map fun m => .z (eTM m))] ++ [Ob.lst []]) := kp.trans (Keep.app.trans Keep.app)
    have hn : (S4 ++ [Ob.lst ((w.take j).map fun m => D.z (eTM m))] ++ [Ob.lst []])[(S4 ++ [Ob.lst ((w.take j).map fun m => D.z (eTM m))]).length]? = some (.lst []) := sto_last
    generalize (S4 ++ [Ob.lst ((w.take j).map fun m => D.z (eTM m))] ++ [Ob.lst []]) = S5 at hX2 kp2 hn ⊢
    generalize (S4 ++ [Ob.lst ((w.take j).map fun m => D.z (eTM m))]).length = q0 at hn ⊢
    refine hX2.get hn fun q ls hls hmem => ?_
    have hlk : ∀ l ∈ ls, PyData.strOk l = true := fun l hl2 => by
      obtain ⟨v, hv, h⟩ := List.mem_flatMap.mp ((hmem l).mp hl2)
      have hv2 := hws v hv
      obtain ⟨y, r, e, rfl⟩ := WY.mem_lbs.mp h
      exact labM_ok hn0 (hv2.1 y (by rw [e]; simp))
    walk_at "go"
    refine pFor_xs ls zL rfl (fun i env S6 => ∃ (v7 : Option D), env = [some (.b (eNet n)), some (.b (TB.eTab t)), some (.r m), some (.b (eWay w)), some (.z (.int (j : Int))), some (.z (eTM x)), some (.z (.str (labM n x))), v7] ∧ S6 = S5 ∧ ∀ l ∈ ls.take i, (l, labM n x) ∉ t.order) ⟨_, rfl, rfl, fun _ h => (by cases h)⟩ ?_ ?_ ?_
    · rintro i _ S6 _ ⟨_, _, rfl, _⟩
      exact hls
    · rintro i l _ S6 Q3 hl ⟨v7, rfl, rfl, hno⟩ hQ3
      have hlm := List.mem_of_getElem? hl
      walk_at "go"
      refine fsp_call (t, l, labM n x) (.cons .b (.cons .z (.cons .z .nil))) ⟨ht, hlk l hlm, hlo⟩ ?_
      dsimp only
      by_cases c1 : (l, labM n x) ∈ t.order
      · rw [decide_eq_true c1]
        walk_at "go"
        refine hk _ _ ⟨?_, kp2⟩
        rw [all_take_false (List.mem_of_getElem? hlj)]
        cases hz : noneL t.order (ws.flatMap (lbsOf n)) (w.take j, labM n x) with
        | false => rfl
        | true => exact absurd c1 (WY.noneL_iff.mp hz l ((hmem l).mp hlm))
      · rw [decide_eq_false c1]
        walk_at "go"
        refine hQ3 _ _ ⟨_, rfl, rfl, fun k hk2 => ?_⟩
        rw [List.take_add_one, hl] at hk2
        rcases List.mem_append.mp hk2 with h | h
        · exact hno k h
        · simp at h; subst h; exact c1
    · rintro _ S6 ⟨v7, rfl, rfl, hno⟩
      rw [List.take_length] at hno
      refine hQ2 _ _ ⟨_, _, _, _, rfl, kp2, ?_⟩
      exact all_snoc hlj hall (WY.noneL_iff.mpr fun l hl => hno l ((hmem l).mpr hl))
  · rintro _ S4 ⟨v4, v5, v6, v7, rfl, kp, hall⟩
    have e : (lbsOf n w).take w.length = lbsOf n w := by rw [← lbs_len n w, List.take_length]
    rw [e] at hall
    rw [hall] at hk
    walk_at "go"
    exact hk _ _ ⟨rfl, kp⟩
end K27

set_option Elab.async false
set_option linter.all false
set_option maxRecDepth 100000
set_option maxHeartbeats 1000000
namespace K27
open PySem L2 PL ND
local macro_rules | `(tactic| walk_at "st1") => `(tactic| first | assumption | exact sto_last | exact sto_r0 | exact sto_r1 | exact sto_r2 | exact sto_r3 | exact sto_r4)
local macro_rules | `(tactic| walk_at "sto") => `(tactic| first | walk_at "st1" | exact sto_app (by walk_at "st1") | exact sto_app (sto_app (by walk_at "st1")))
local macro_rules | `(tactic| walk_at "sz") => `(tactic| ((try simp only [List.length_map, List.length_range, List.length_append, List.length_cons, List.length_nil]); omega))
local macro_rules | `(tactic| walk_at "go") => `(tactic| ((try (conv => whnf)); repeat ((first | (show pIf _ _ _; first | refine pIf.tt rfl ?_ | refine pIf.ff rfl ?_) | (show pReq _ _; first | refine pReq.mk rfl ?_ | refine pReq.mk (sz_le rfl) ?_ | refine pReq.mk (sz_lt rfl) ?_ | refine pReq.mk (by decide) ?_ | refine pReq.mk (Or.inr (by decide)) ?_ | refine pReq.mk (Or.inl (by decide)) ?_ | refine pReq.mk (by assumption) ?_ | refine pReq.mk (isTy_l (by walk_at "sto")) ?_ | refine pReq.mk (by omega) ?_ | refine pReq.mk (sz_lt6 (by walk_at "sz")) ?_ | refine pReq.mk (sz_le6 (by walk_at "sz")) ?_ | refine pReq.mk (by walk_at "sz") ?_) | (show pGet _ _; first | refine pGet.mk rfl ?_ | refine pGet.mk (by walk_at "sto") ?_ | refine pGet.mk (lenD_at (by walk_at "sto")) ?_ | refine pGet.mk (sqD_at (by walk_at "sto")) ?_ | refine pGet.mk (lsD_at (by walk_at "sto")) ?_ | refine pGet.mk (lsR_at (by walk_at "sto")) ?_ | refine pGet.mk (srcD_at (by walk_at "sto")) ?_ | refine pGet.mk (tyD_l (by walk_at "sto")) ?_)); (try (conv => whnf)))))
open WY (Mk eMk Row eRow nextS TOk WOk RowOk inOk by_ok steps_in lgrs_snoc longer lgr lgrs leads Gone BfI TMk eTM stepM eWay eOwe Way finds owes fnd owd KW KO KR sortY sortO zT tword endsB mem_finds mem_owes eqv_way shWay shWays shOwe shOwes picks picks_take flat_take flat_len finds_len owes_len)
open WY (MkIn WayIn labM labM_ok hidesB hidesZ noS noT eqv_tm shTM noneB seenB OdOk Lb lbsOf noneL keyW keyM)
open WY (LbX LbAt zL lbs_take lbs_len KdAt.lt)
/-! the seen ones -/
structure ASeen where
  n : Net
  t : TB.XTab
  ws : List Way
structure SeenPre (a : ASeen) : Prop where
  n : NetOk a.n
  t : TOk a.t
  w : ∀ w ∈ a.ws, WayIn a.n w
  l : a.ws.length ≤ 5000
def F_seen : Fsr := fsr (fun a : ASeen => [eNet a.n, TB.eTab a.t, .list (a.ws.map eWay)]) SeenPre fun a => .l ((seenB a.n a.t.order a.ws).map KW.r)
theorem filter_take {α : Type} {p : α → Bool} {xs : List α} {i : Nat} {x : α} (h : xs[i]? = some x) : (xs.take (i + 1)).filter p = (xs.take i).filter p ++ if p x = true then [x] else [] := by
  rw [List.take_add_one, h, List.filter_append]
  congr 1
  by_cases c : p x = true
  · simp [c]
  · simp [c]
theorem LbAt.keepU {hx : HX} {n : Net} {S S' : Sto} {m : Nat} {ws : List Way} {L : Nat} (h : LbAt hx n S m ws) (hL : S.length ≤ L) (k : Keep [L] S S') : LbAt hx n S' m ws := by
  obtain ⟨b, c, es, h⟩ := h
  refine ⟨b, c, es, h.keep k ?_ fun e he => ?_⟩
  · have := KdAt.lt h.kd
    simp; omega
  · have := h.lt e he
    simp; omega
theorem Keep.app_of {S T : Sto} {U : List Nat} {S' : Sto} (k : Keep U (S ++ T) S') : Keep U S S' := fun n o hn e => k n o hn (sto_app e)
theorem pu_seen_ways {hx : HX} : ∀ ds S K KX, lentR F_seen ds S K KX → ws_seen_ways (F_labels_behind hx) (F_none_hides hx) { nx := fun _ S1 => K (.z .none) S1, rt := K, ex := fun y _ S1 => KX y S1 } (startE nm_seen_ways ds) S := by
  refine fsr_ok fun ⟨n, t, ws⟩ ⟨hn, ht, hw, hl⟩ K KX hk => ?_
  dsimp only at hn ht hw hl hk
  have hbt := bzTab t
  have hbw : bz (.list (ws.map eWay)) = .b (.list (ws.map eWay)) := bz_list
  simp only [List.map_cons, List.map_nil, hbt, hbw]
  walk_at "go"
  refine fsm_call (⟨n, ws⟩ : ALb) ⟨rfl, hn, hw, hl⟩ fun d S1 ⟨m, hd, _, hlb⟩ => ?_
  dsimp only at hlb
  subst hd
  walk_at "go"
  refine pLc_each (fun i S' => ∃ (qs : List (Nat × Way)), KD.Put KW (S1 ++ [.lst []]) S' S1.length qs ((ws.take i).filter fun w => noneB n t.order ws w)) ⟨[], .new sto_last⟩ (fun _ _ _ _ => trivial) ?_ ?_
  · rintro i d S3 Q hi ⟨qs, hP⟩ hQ
    have hi : ((ws.map eWay).map bz)[i]? = some d := hi
    rw [waysB, List.getElem?_map] at hi
    cases hwi : ws[i]? with
    | none => rw [hwi] at hi; cases hi
    | some w =>
      rw [hwi] at hi
      obtain rfl := Option.some.inj hi
      have hwo := hw w (List.mem_of_getElem? hwi)
      rw [filter_take hwi] at hQ
      have hil := (List.getElem?_eq_some_iff.mp hwi).1
      have hql : qs.length ≤ 5000 := by
        have := hP.len
        have h1 := List.length_filter_le (fun w => noneB n t.order ws w) (ws.take i)
        rw [List.length_take] at h1
        omega
      refine pGet.mk rfl ?_
      dsimp only [seen_ways_c1, seen_ways_e1]
      walk_at "go"
      refine fsm_call (⟨n, t, ws, m, w⟩ : ANh) ⟨rfl, hn, ht, hwo, hw, LbAt.keepU hlb (Nat.le_refl _) (Keep.app_of hP.k)⟩ fun d S4 ⟨hd, kp⟩ => ?_
      dsimp only at hd
      subst hd
      have hP2 : KD.Put KW (S1 ++ [.lst []]) S4 S1.length qs ((ws.take i).filter fun w => noneB n t.order ws w) := ⟨kp _ _ (by simp) hP.l, hP.i.keep kp (by simp), hP.e, hP.nd, hP.b, hP.k.trans (kp.mono (by simp)), hP.z⟩
      walk_at "go"
      refine pIf.mk (fun c => ?_) (fun c => ?_)
      · rw [if_pos c] at hQ
        have h0 := hP2.l
        walk_at "go"
        rw [wayZ]
        exact hQ _ ⟨_, hP2.push1 (w := w) rfl rfl⟩
      · rw [if_neg (by rw [c]; decide), List.append_nil] at hQ
        exact hQ _ ⟨_, hP2⟩
  · rintro S3 ⟨qs, hP⟩
    have hl2 : ((ws.map eWay).map bz).length = ws.length := by simp
    have hP : KD.Put KW (S1 ++ [.lst []]) S3 S1.length qs ((ws.take ((ws.map eWay).map bz).length).filter fun w => noneB n t.order ws w) := hP
    rw [hl2, List.take_length] at hP
    refine KD.vr_list (U := []) hP.l hP.i hP.e hP.nd (fun p hp => ?_) K fun U hv hu => hk _ _ U ?_ hu
    · have := hP.b p hp
      simp at this
      omega
    · exact hv
def F_seenZ : Fsp := fsp (fun a : ASeen => [eNet a.n, TB.eTab a.t, .list (a.ws.map eWay)]) SeenPre fun a => .list ((seenB a.n a.t.order a.ws).map eWay)
theorem pu_seenZ {hx : HX} : ∀ ds S K KX, lent F_seenZ ds S K KX → ws_seen_ways (F_labels_behind hx) (F_none_hides hx) { nx := fun _ S1 => K (.z .none) S1, rt := K, ex := fun y _ S1 => KX y S1 } (startE nm_seen_ways ds) S :=
  fun ds S K KX h => pu_seen_ways ds S K KX (lentR_lent1 (fun a => by rw [rtD, rtDs_map, List.map_congr_left fun r _ => rtD_way r]) h)
end K27

set_option Elab.async false
set_option linter.all false
set_option maxRecDepth 100000
set_option maxHeartbeats 1000000
namespace K27
open PySem L2 PL ND
local macro_rules | `(tactic| walk_at "st1") => `(tactic| first | assumption | exact sto_last | exact sto_r0 | exact sto_r1 | exact sto_r2 | exact sto_r3 | exact sto_r4)
local macro_rules | `(tactic| walk_at "sto") => `(tactic| first | walk_at "st1" | exact sto_app (by walk_at "st1") | exact sto_app (sto_app (by walk_at "st1")))
local macro_rules | `(tactic| walk_at "sz") => `(tactic| ((try simp only [List.length_map, List.length_range, List.length_append, List.length_cons, List.length_nil]); omega))
local macro_rules | `(tactic| walk_at "go") => `(tactic| ((try (conv => whnf)); repeat ((first | (show pIf _ _ _; first | refine pIf.tt rfl ?_ | refine pIf.ff rfl ?_) | (show pReq _ _; first | refine pReq.mk rfl ?_ | refine pReq.mk (sz_le rfl) ?_ | refine pReq.mk (sz_lt rfl) ?_ | refine pReq.mk (by decide) ?_ | refine pReq.mk (Or.inr (by decide)) ?_ | refine pReq.mk (Or.inl (by decide)) ?_ | refine pReq.mk (by assumption) ?_ | refine pReq.mk (isTy_l (by walk_at "sto")) ?_ | refine pReq.mk (by omega) ?_ | refine pReq.mk (sz_lt6 (by walk_at "sz")) ?_ | refine pReq.mk (sz_le6 (by walk_at "sz")) ?_ | refine pReq.mk (by walk_at "sz") ?_) | (show pGet _ _; first | refine pGet.mk rfl ?_ | refine pGet.mk (by walk_at "sto") ?_ | refine pGet.mk (lenD_at (by walk_at "sto")) ?_ | refine pGet.mk (sqD_at (by walk_at "sto")) ?_ | refine pGet.mk (lsD_at (by walk_at "sto")) ?_ | refine pGet.mk (lsR_at (by walk_at "sto")) ?_ | refine pGet.mk (srcD_at (by walk_at "sto")) ?_ | refine pGet.mk (tyD_l (by walk_at "sto")) ?_)); (try (conv => whnf)))))
open WY (Mk eMk Row eRow nextS TOk WOk RowOk inOk by_ok steps_in lgrs_snoc longer lgr lgrs leads Gone BfI TMk eTM stepM eWay eOwe Way finds owes fnd owd KW KO KR sortY sortO zT tword endsB mem_finds mem_owes eqv_way shWay shWays shOwe shOwes picks picks_take flat_take flat_len finds_len owes_len)
open WY (MkIn WayIn labM labM_ok hidesB hidesZ noS noT eqv_tm shTM noneB seenB OdOk Lb lbsOf noneL keyW keyM)
open WY (LbX LbAt zL lbs_take lbs_len KdAt.lt)
/-! the first that hides; the hidden ones -/
structure AFirst where
  n : Net
  t : TB.XTab
  ws : List Way
  w : Way
structure FirstPre (a : AFirst) : Prop where
  n : NetOk a.n
  t : TOk a.t
  ws : ∀ w ∈ a.ws, WayIn a.n w
  w : WayIn a.n a.w
def rOptW : Option Way → RT
  | some v => lz eTM v
  | none => .z .none
def F_first : Fsr := fsr (fun a : AFirst => [eNet a.n, TB.eTab a.t, .list (a.ws.map eWay), eWay a.w]) FirstPre fun a => rOptW (WY.firstB a.n a.t.order a.ws a.w)
theorem pu_first_that_hides : ∀ ds S K KX, lentR F_first ds S K KX → ws_first_that_hides (frz F_hides) { nx := fun _ S1 => K (.z .none) S1, rt := K, ex := fun y _ S1 => KX y S1 } (startE nm_first_that_hides ds) S := by
  refine fsr_ok fun ⟨n, t, ws, w⟩ ⟨hn, ht, hws, hw⟩ K KX hk => ?_
  dsimp only at hn ht hws hw hk
  unfold WY.firstB at hk
  have hbt := bzTab t
  have hbw : bz (.list (ws.map eWay)) = .b (.list (ws.map eWay)) := bz_list
  have hbo : bz (eWay w) = .b (eWay w) := bz_list
  simp only [List.map_cons, List.map_nil, hbt, hbw, hbo]
  walk_at "go"
  refine pFor_xs ws (fun w => .b (eWay w)) (waysB ws) (fun i env S => ∃ (v4 : Option D), env = [some (.b (eNet n)), some (.b (TB.eTab t)), some (.b (.list (ws.map eWay))), some (.b (eWay w)), v4] ∧ (ws.take i).find? (fun v => hidesB n t.order v w) = none) ⟨_, rfl, rfl⟩ (fun _ _ _ _ _ => trivial) ?_ ?_
  · rintro i v _ S Q hv ⟨v4, rfl, hno⟩ hQ
    have hvo := hws v (List.mem_of_getElem? hv)
    have hvl := hvo.2
    walk_at "go"
    refine fsp_call (⟨n, t, v, w⟩ : AHides) (.cons .b (.cons .b (.cons .b (.cons .b .nil)))) ⟨hn, ht, hvo, hw⟩ ?_
    dsimp only
    cases hh : hidesB n t.order v w with
    | true =>
      rw [find_at hv hno hh] at hk
      walk_at "go"
      rw [wayZ]
      exact hk _ _ _ (VR.lz sto_last) (by simp)
    | false =>
      walk_at "go"
      refine hQ _ _ ⟨_, rfl, ?_⟩
      rw [List.take_add_one, hv, List.find?_append, hno]
      simp only [Option.toList_some, Option.none_or]
      rw [List.find?_cons_of_neg (p := fun v => hidesB n t.order v w) (by rw [hh]; decide)]; rfl
  · rintro _ S ⟨v4, rfl, hno⟩
    rw [List.take_length] at hno
    rw [hno] at hk
    walk_at "go"
    exact hk _ _ [] (.z .z) List.nodup_nil
def F_hidden : Fsr := fsr (fun a : ASeen => [eNet a.n, TB.eTab a.t, .list (a.ws.map eWay)]) SeenPre fun a => .l ((HD.hidB a.n a.t.order a.ws).map HD.r2)
theorem hid_take {n : Net} {od : List OR.Pr} {all ws : List Way} {i : Nat} {w : Way} (h : ws[i]? = some w) : ((ws.take (i + 1)).filter fun w => !noneB n od all w).map (fun w => (w, (WY.firstB n od (seenB n od all) w).getD [])) = ((ws.take i).filter fun w => !noneB n od all w).map (fun w => (w, (WY.firstB n od (seenB n od all) w).getD [])) ++ if noneB n od all w = true then [] else [(w, (WY.firstB n od (seenB n od all) w).getD [])] := by
  rw [filter_take h, List.map_append]
  congr 1
  cases noneB n od all w <;> simp
theorem pu_hidden_ways {hx : HX} : ∀ ds S K KX, lentR F_hidden ds S K KX → ws_hidden_ways (F_labels_behind hx) (F_none_hides hx) (frr F_first) { nx := fun _ S1 => K (.z .none) S1, rt := K, ex := fun y _ S1 => KX y S1 } (startE nm_hidden_ways ds) S := by
  refine fsr_ok fun ⟨n, t, ws⟩ ⟨hn, ht, hw, hl⟩ K KX hk => ?_
  dsimp only at hn ht hw hl hk
  have hbt := bzTab t
  have hbw : bz (.list (ws.map eWay)) = .b (.list (ws.map eWay)) := bz_list
  simp only [List.map_cons, List.map_nil, hbt, hbw]
  walk_at "go"
  refine fsm_call (⟨n, ws⟩ : ALb) ⟨rfl, hn, hw, hl⟩ fun d S1 ⟨m, hd, _, hlb⟩ => ?_
  dsimp only at hlb
  subst hd
  walk_at "go"
  have hsl := List.length_filter_le (fun w => noneB n t.order ws w) ws
  refine pLc_each (fun i S' => S'[S1.length]? = some (.lst (((ws.take i).filter fun w => noneB n t.order ws w).map fun w => .b (eWay w))) ∧ Keep [S1.length] (S1 ++ [.lst []]) S') ⟨sto_last, .refl⟩ (fun _ _ _ _ => trivial) ?_ ?_
  · rintro i d S3 Q hi ⟨h0, kp⟩ hQ
    have hi : ((ws.map eWay).map bz)[i]? = some d := hi
    rw [waysB, List.getElem?_map] at hi
    cases hwi : ws[i]? with
    | none => rw [hwi] at hi; cases hi
    | some w =>
      rw [hwi] at hi
      obtain rfl := Option.some.inj hi
      have hwo := hw w (List.mem_of_getElem? hwi)
      rw [filter_take hwi] at hQ
      refine pGet.mk rfl ?_
      dsimp only [hidden_ways_c1, hidden_ways_e1]
      walk_at "go"
      refine fsm_call (⟨n, t, ws, m, w⟩ : ANh) ⟨rfl, hn, ht, hwo, hw, LbAt.keepU hlb (Nat.le_refl _) (Keep.app_of kp)⟩ fun d S4 ⟨hd, kp2⟩ => ?_
      dsimp only at hd
      subst hd
      have h0 := kp2 _ _ (by simp) h0
      have hfl := List.length_filter_le (fun w => noneB n t.order ws w) (ws.take i)
      rw [List.length_take] at hfl
      have hlt := (List.getElem?_eq_some_iff.mp h0).1
      walk_at "go"
      refine pIf.mk (fun c => ?_) (fun c => ?_)
      · rw [if_pos c] at hQ
        walk_at "go"
        refine hQ _ ⟨?_, (kp.trans (kp2.mono (by simp))).trans (Keep.set (by simp))⟩
        rw [List.getElem?_set_self hlt, List.map_append]; rfl
      · rw [if_neg (by rw [c]; decide), List.append_nil] at hQ
        exact hQ _ ⟨h0, kp.trans (kp2.mono (by simp))⟩
  · rintro S3 ⟨h0, kp⟩
    have hl2 : ((ws.map eWay).map bz).length = ws.length := by simp
    have h0 : S3[S1.length]? = some (.lst (((ws.take ((ws.map eWay).map bz).length).filter fun w => noneB n t.order ws w).map fun w => .b (eWay w))) := h0
    rw [hl2, List.take_length] at h0
    have hlb3 : LbAt hx n S3 m ws := LbAt.keepU hlb (Nat.le_refl _) (Keep.app_of kp)
    have hlt := (List.getElem?_eq_some_iff.mp h0).1
    have hsv : Vw S3 (.r S1.length) (.list ((seenB n t.order ws).map eWay)) := by
      have : ∀ xs : List Way, Vws S3 (xs.map fun w => D.b (eWay w)) (xs.map eWay) := fun xs => by
        induction xs with
        | nil => exact .nil
        | cons x xs ih => exact .cons .b ih
      exact .r h0 (this _)
    walk_at "go"
    refine pFor_xs ws (fun w => .b (eWay w)) (waysB ws) (fun i env S4 => ∃ (v5 : Option D) (qs : List HD.Q2), env = [some (.b (eNet n)), some (.b (TB.eTab t)), some (.b (.list (ws.map eWay))), some (.r m), some (.r S1.length), some (.r S3.length), v5] ∧ HD.Put (S3 ++ [.lst []]) S4 S3.length qs (((ws.take i).filter fun w => !noneB n t.order ws w).map fun w => (w, (WY.firstB n t.order (seenB n t.order ws) w).getD []))) ⟨_, [], rfl, .new sto_last⟩ (fun _ _ _ _ _ => trivial) ?_ ?_
    · rintro i w _ S4 Q hwi ⟨v5, qs, rfl, hP⟩ hQ
      have hwm := List.mem_of_getElem? hwi
      have hwo := hw w hwm
      have hwl := hwo.2
      rw [hid_take hwi] at hQ
      have hql : qs.length ≤ 5000 := by
        have := hP.len
        have h1 := List.length_filter_le (fun w => !noneB n t.order ws w) (ws.take i)
        rw [List.length_map] at this
        rw [List.length_take] at h1
        omega
      walk_at "go"
      refine fsm_call (⟨n, t, ws, m, w⟩ : ANh) ⟨rfl, hn, ht, hwo, hw, LbAt.keepU hlb3 (Nat.le_refl _) (Keep.app_of hP.k)⟩ fun d S5 ⟨hd, kp2⟩ => ?_
      dsimp only at hd
      subst hd
      have hP2 := hP.keep kp2
      cases hz : noneB n t.order ws w with
      | true =>
        rw [hz, if_pos rfl, List.append_nil] at hQ
        walk_at "go"
        exact hQ _ _ ⟨_, _, rfl, hP2⟩
      | false =>
        rw [hz, if_neg (by decide)] at hQ
        obtain ⟨v, hv1, hv2, hv3⟩ := HD.first_hid ht.odk hwm hz
        rw [hv1] at hQ
        have hl5 := hP2.l
        walk_at "go"
        rw [wayZ]
        have hsv5 : Vw (S5 ++ [Ob.lst (w.map fun m => D.z (eTM m))]) (.r S1.length) (.list ((seenB n t.order ws).map eWay)) := by
          refine .r (sto_app (hP2.k _ _ ?_ (sto_app h0))) ?_
          · simp; omega
          · have : ∀ xs : List Way, Vws (S5 ++ [Ob.lst (w.map fun m => D.z (eTM m))]) (xs.map fun w => D.b (eWay w)) (xs.map eWay) := fun xs => by
              induction xs with
              | nil => exact .nil
              | cons x xs ih => exact .cons .b ih
            exact this _
        refine fsr_call (⟨n, t, seenB n t.order ws, w⟩ : AFirst) (.cons .b (.cons .b (.cons hsv5 (.cons .b .nil)))) ⟨hn, ht, fun u hu => hw u (WY.mem_seen.mp hu).1, hwo⟩ ?_
        dsimp only
        rw [hv1]
        unfold rOptW
        rw [al_lz]
        dsimp only
        have e5 : (S5 ++ [Ob.lst (w.map fun m => D.z (eTM m))]).length = S5.length + 1 := by simp
        have hP3 := (hP2.app (T := [Ob.lst (w.map fun m => D.z (eTM m))])).app (T := [Ob.lst (v.map fun m => D.z (eTM m))])
        have lt := hP2.lt
        have hle : (S3 ++ [Ob.lst []]).length ≤ S5.length := by
          have h1 := (List.getElem?_eq_some_iff.mp hl5).1
          rw [List.length_append, List.length_singleton]; omega
        walk_at "go"
        refine hQ _ _ ⟨_, qs ++ [(S5.length, S5.length + 1, w, v)], rfl, ?_⟩
        rw [e5]
        refine hP3.push (a := w) (b := v) (m1 := S5.length) (m2 := S5.length + 1) (sto_app sto_last) ?_ hle (by omega) (by omega) (fun z => by have := lt _ z; omega) (fun z => by have := lt _ z; omega)
        rw [← e5]; exact sto_last
    · rintro _ S4 ⟨v5, qs, rfl, hP⟩
      rw [List.take_length] at hP
      walk_at "go"
      refine hP.vr K fun U hv hu => hk _ _ U ?_ hu
      exact hv
def F_hiddenZ : Fsp := fsp (fun a : ASeen => [eNet a.n, TB.eTab a.t, .list (a.ws.map eWay)]) SeenPre fun a => .list ((HD.hidB a.n a.t.order a.ws).map HD.e2)
theorem pu_hiddenZ {hx : HX} : ∀ ds S K KX, lent F_hiddenZ ds S K KX → ws_hidden_ways (F_labels_behind hx) (F_none_hides hx) (frr F_first) { nx := fun _ S1 => K (.z .none) S1, rt := K, ex := fun y _ S1 => KX y S1 } (startE nm_hidden_ways ds) S :=
  fun ds S K KX h => pu_hidden_ways ds S K KX (lentR_lent1 (fun a => by rw [rtD, rtDs_map, List.map_congr_left fun r _ => HD.rtD_r2 r]) h)
end K27

set_option Elab.async false
set_option linter.all false
set_option maxRecDepth 100000
set_option maxHeartbeats 1000000
namespace K27
open PySem L2 PL ND
local macro_rules | `(tactic| walk_at "st1") => `(tactic| first | assumption | exact sto_last | exact sto_r0 | exact sto_r1 | exact sto_r2 | exact sto_r3 | exact sto_r4)
local macro_rules | `(tactic| walk_at "sto") => `(tactic| first | walk_at "st1" | exact sto_app (by walk_at "st1") | exact sto_app (sto_app (by walk_at "st1")))
local macro_rules | `(tactic| walk_at "sz") => `(tactic| ((try simp only [List.length_map, List.length_range, List.length_append, List.length_cons, List.length_nil]); omega))
local macro_rules | `(tactic| walk_at "go") => `(tactic| ((try (conv => whnf)); repeat ((first | (show pIf _ _ _; first | refine pIf.tt rfl ?_ | refine pIf.ff rfl ?_) | (show pReq _ _; first | refine pReq.mk rfl ?_ | refine pReq.mk (sz_le rfl) ?_ | refine pReq.mk (sz_lt rfl) ?_ | refine pReq.mk (by decide) ?_ | refine pReq.mk (Or.inr (by decide)) ?_ | refine pReq.mk (Or.inl (by decide)) ?_ | refine pReq.mk (by assumption) ?_ | refine pReq.mk (isTy_l (by walk_at "sto")) ?_ | refine pReq.mk (by omega) ?_ | refine pReq.mk (sz_lt6 (by walk_at "sz")) ?_ | refine pReq.mk (sz_le6 (by walk_at "sz")) ?_ | refine pReq.mk (by walk_at "sz") ?_) | (show pGet _ _; first | refine pGet.mk rfl ?_ | refine pGet.mk (by walk_at "sto") ?_ | refine pGet.mk (lenD_at (by walk_at "sto")) ?_ | refine pGet.mk (sqD_at (by walk_at "sto")) ?_ | refine pGet.mk (lsD_at (by walk_at "sto")) ?_ | refine pGet.mk (lsR_at (by walk_at "sto")) ?_ | refine pGet.mk (srcD_at (by walk_at "sto")) ?_ | refine pGet.mk (tyD_l (by walk_at "sto")) ?_)); (try (conv => whnf)))))
open WY (Mk eMk Row eRow nextS TOk WOk RowOk inOk by_ok steps_in lgrs_snoc longer lgr lgrs leads Gone BfI TMk eTM stepM eWay eOwe Way finds owes fnd owd KW KO KR sortY sortO zT tword endsB mem_finds mem_owes eqv_way shWay shWays shOwe shOwes picks picks_take flat_take flat_len finds_len owes_len)
open WY (MkIn WayIn labM labM_ok hidesB hidesZ noS noT eqv_tm shTM noneB seenB OdOk Lb lbsOf noneL keyW keyM)
/-! found and owed ways in one row -/
structure AWays where
  W : WY.World
  sc : Int
  st : Int
  nm : Str
  cell : Int
structure WaysPre (a : AWays) : Prop where
  w : WOk a.W
  r : RowOk a.W ⟨[], a.sc, a.st⟩
def WaysOk (n : Net) (ws : List Way) : Prop := ws.length ≤ 100 ∧ ∀ w ∈ ws, WayIn n w
abbrev zY (w : Way) : D := .z (eWay w)
theorem tgT_owe {i j : Nat} {env : PL.Env} {p : Way × Int} : tgT [i, j] (.z (eOwe p)) env = some ((env.set i (some (zY p.1))).set j (some (.z (.int p.2)))) := rfl
def F_ways : Fsp := fsq (fun a : AWays => [eNet a.W.net, eAnss a.W.ans, TB.eTab a.W.tab, .tuple [.int a.sc, .int a.st], .str a.nm, .int a.cell]) WaysPre (fun a ws => WaysOk a.W.net ws) fun ws => .list (ws.map eWay)
theorem pu_ways : ∀ ds S K KX, lent F_ways ds S K KX → ws__law_ways (frz F_foundZ) (frz F_owedZ) { nx := fun _ S1 => K (.z .none) S1, rt := K, ex := fun y _ S1 => KX y S1 } (startE nm__law_ways ds) S := by
  refine fsq_ok fun ⟨W, sc, st, nm, c⟩ ⟨hW, hr⟩ K KX hk => ?_
  dsimp only at hW hr hk
  have hb := bzTab W.tab
  simp only [List.map_cons, List.map_nil, hb]
  have fin : ∀ (v7 : Option D) (al : List Way) (n : Nat) (S : Sto), S[n]? = some (.lst (al.map zY)) → al.length ≤ 30 → (∀ w ∈ al, WayIn W.net w) → _law_ways_r1 (ends K KX) [some (.b (eNet W.net)), some (.b (eAnss W.ans)), some (.b (TB.eTab W.tab)), some (.z (.tuple [.int sc, .int st])), some (.z (.str nm)), some (.z (.int c)), some (.r n), v7, none, none] S := by
    intro v7 al n S h0 h30 hal
    walk_at "go"
    exact hk _ _ al (.r h0 (Vzs.map eWay al)) ⟨by omega, hal⟩
  unfold ws__law_ways
  generalize _law_ways_r1 = r2 at fin ⊢
  walk_at "go"
  refine fsq_call (⟨W, sc, st, nm⟩ : AFound) (.cons .b (.cons .b (.cons .b (.cons .z (.cons .z (.cons .z .nil)))))) ⟨hW, hr⟩ fun ws hws => ?_
  have hwo := hws.ok ⟨hW, hr⟩
  dsimp only at hwo
  walk_at "go"
  refine fsq_call (⟨W, sc, st⟩ : AOwed) (.cons .b (.cons .b (.cons .b (.cons .z (.cons .z .nil))))) ⟨hW, hr⟩ fun os hos => ?_
  have hoo := hos.ok ⟨hW, hr⟩
  dsimp only at hoo
  walk_at "go"
  refine pLc_allE os (fun p => .z (eOwe p)) (fun p => zY p.1) (by show (os.map eOwe).map D.z = _; rw [List.map_map]; rfl) (by omega) (fun _ => trivial) (fun p hp => ⟨_, tgT_owe, fun S1 K _ h => ?_⟩) ?_
  · dsimp only [_law_ways_e1]
    walk_at "go"
    exact h
  have hel : (ws.map eWay).map D.z ++ os.map (fun p => zY p.1) = (ws ++ os.map (·.1)).map zY := by
    rw [List.map_append, List.map_map, List.map_map]; rfl
  have hall : ∀ w ∈ ws ++ os.map (·.1), WayIn W.net w := fun x hx => by
    rcases List.mem_append.mp hx with hx | hx
    · exact hwo.2 _ hx
    · obtain ⟨q, hq, rfl⟩ := List.mem_map.mp hx
      exact hoo.2 _ hq
  have hlen : (ws ++ os.map (·.1)).length ≤ 5000 := by
    rw [List.length_append, List.length_map]; omega
  walk_at "go"
  rw [hel]
  generalize ws ++ os.map (·.1) = al at hall hlen ⊢
  walk_at "go"
  rw [List.length_map]
  have hat := fmod_b (a := c.fdiv 2) (b := (al.length : Int) + 1) (by omega)
  walk_at "go"
  generalize (c.fdiv 2).fmod ((al.length : Int) + 1) = at_
  rw [cutL_map, cutL_map]
  have hc1 := cutL_len al (some at_) none
  have hc2 := cutL_len al none (some at_)
  walk_at "go"
  rw [← List.map_append, cutL_map]
  have hm3 : ∀ x ∈ cutL (cutL al (some at_) none ++ cutL al none (some at_)) none (some 30), WayIn W.net x := fun x hx => by
    rcases List.mem_append.mp (cutL_mem hx) with h | h
    · exact hall _ (cutL_mem h)
    · exact hall _ (cutL_mem h)
  have h30 : (cutL (cutL al (some at_) none ++ cutL al none (some at_)) none (some 30)).length ≤ 30 := by
    generalize cutL al (some at_) none ++ cutL al none (some at_) = ys
    unfold cutL HT.sIx
    rw [List.length_take]
    simp
    omega
  generalize cutL (cutL al (some at_) none ++ cutL al none (some at_)) none (some 30) = zs at hm3 h30 ⊢
  refine pIf.mk (fun _ => ?_) (fun _ => ?_)
  · walk_at "go"
    refine fin _ zs.reverse _ _ ?_ (by rw [List.length_reverse]; exact h30) (fun w hw => hm3 w (List.mem_reverse.mp hw))
    rw [List.map_reverse]
    exact sto_last
  · walk_at "go"
    exact fin _ zs _ _ sto_last h30 hm3
structure RightPre (a : Net × TB.XTab × List Way) : Prop where
  n : NetOk a.1
  s : a.1.scopes.length ≤ 40
  t : TOk a.2.1
  w : WaysOk a.1 a.2.2
theorem RightPre.seen {n : Net} {t : TB.XTab} {ws : List Way} (h : RightPre (n, t, ws)) : SeenPre ⟨n, t, ws⟩ := ⟨h.n, h.t, h.w.2, by have := h.w.1; dsimp only at this ⊢; omega⟩
def F_right : Fsp := fsp (fun a : Net × TB.XTab × List Way => [eNet a.1, TB.eTab a.2.1, .list (a.2.2.map eWay)]) RightPre fun _ => .bool true
/-! the first, a row -/
def optD : Option Way → D
  | some v => .b (eWay v)
  | none => .z .none
structure LfPre (a : AFirst) (ds : List D) (S : Sto) : Prop where
  ds : ds = [.b (eNet a.n), .b (TB.eTab a.t), .b (.list (a.ws.map eWay)), .b (eWay a.w)]
  p : FirstPre a
def F_lfirst : Spc := fsm LfPre fun a d S S' => d = optD (WY.firstB a.n a.t.order a.ws a.w)
theorem pu_lfirst : ∀ ds S K KX, F_lfirst ds S K KX → ws__law_first (frz F_hides) { nx := fun _ S1 => K (.z .none) S1, rt := K, ex := fun y _ S1 => KX y S1 } (startE nm__law_first ds) S := by
  refine fsm_ok fun ⟨n, t, ws, w⟩ ds S ⟨e, hn, ht, hws, hw⟩ K KX hk => ?_
  dsimp only at e hn ht hws hw hk
  subst e
  unfold WY.firstB at hk
  walk_at "go"
  refine pFor_xs ws (fun w => .b (eWay w)) (waysB ws) (fun i env S => ∃ (v4 : Option D), env = [some (.b (eNet n)), some (.b (TB.eTab t)), some (.b (.list (ws.map eWay))), some (.b (eWay w)), v4] ∧ (ws.take i).find? (fun v => hidesB n t.order v w) = none) ⟨_, rfl, rfl⟩ (fun _ _ _ _ _ => trivial) ?_ ?_
  · rintro i v _ S Q hv ⟨v4, rfl, hno⟩ hQ
    have hvo := hws v (List.mem_of_getElem? hv)
    walk_at "go"
    refine fsp_call (⟨n, t, v, w⟩ : AHides) (.cons .b (.cons .b (.cons .b (.cons .b .nil)))) ⟨hn, ht, hvo, hw⟩ ?_
    dsimp only
    cases hh : hidesB n t.order v w with
    | true =>
      rw [find_at hv hno hh] at hk
      walk_at "go"
      exact hk _ _ rfl
    | false =>
      walk_at "go"
      refine hQ _ _ ⟨_, rfl, ?_⟩
      rw [List.take_add_one, hv, List.find?_append, hno]
      simp only [Option.toList_some, Option.none_or]
      rw [List.find?_cons_of_neg (p := fun v => hidesB n t.order v w) (by rw [hh]; decide)]; rfl
  · rintro _ S ⟨v4, rfl, hno⟩
    rw [List.take_length] at hno
    rw [hno] at hk
    walk_at "go"
    exact hk _ _ rfl
structure ARow where
  n : Net
  t : TB.XTab
  ws : List Way
  w : Way
  v : Way
structure RwPre (a : ARow) : Prop where
  p : FirstPre ⟨a.n, a.t, a.ws, a.w⟩
  f : WY.firstB a.n a.t.order a.ws a.w = some a.v
def F_row : Fsp := fsp (fun a : ARow => [eNet a.n, TB.eTab a.t, .list (a.ws.map eWay), eWay a.w, HD.e2 (a.w, a.v)]) RwPre fun _ => .bool true
theorem pu_row : ∀ ds S K KX, lent F_row ds S K KX → ws__law_row F_lfirst { nx := fun _ S1 => K (.z .none) S1, rt := K, ex := fun y _ S1 => KX y S1 } (startE nm__law_row ds) S := by
  refine fsp_ok fun ⟨n, t, ws, w, v⟩ ⟨hp, hf⟩ K KX hk => ?_
  dsimp only at hp hf hk
  have hbt := bzTab t
  have hbw : bz (.list (ws.map eWay)) = .b (.list (ws.map eWay)) := bz_list
  have hbo : bz (eWay w) = .b (eWay w) := bz_list
  have hbv : bz (eWay v) = .b (eWay v) := bz_list
  have hbe : bz (HD.e2 (w, v)) = .b (HD.e2 (w, v)) := by
    unfold bz
    rw [if_neg]
    simp [HD.e2, eWay, flatT, flatTs]
  simp only [List.map_cons, List.map_nil, hbt, hbw, hbo, hbe]
  walk_at "go"
  refine eq_same (d := eWay w) Vw.bz .b (shWay w) (by decide) ?_
  walk_at "go"
  refine fsm_call (⟨n, t, ws, w⟩ : AFirst) ⟨rfl, hp⟩ fun d S1 hd => ?_
  dsimp only at hd
  rw [hf] at hd
  subst hd
  walk_at "go"
  refine eq_same (d := eWay v) Vw.bz .b (shWay v) (by decide) ?_
  exact hk _ _ .z
end K27

set_option Elab.async false
set_option linter.all false
set_option maxRecDepth 100000
set_option maxHeartbeats 4000000
namespace K27
open PySem L2 PL ND
local macro_rules | `(tactic| walk_at "st1") => `(tactic| first | assumption | exact sto_last | exact sto_r0 | exact sto_r1 | exact sto_r2 | exact sto_r3 | exact sto_r4)
local macro_rules | `(tactic| walk_at "sto") => `(tactic| first | walk_at "st1" | exact sto_app (by walk_at "st1") | exact sto_app (sto_app (by walk_at "st1")))
local macro_rules | `(tactic| walk_at "sz") => `(tactic| ((try simp only [List.length_map, List.length_range, List.length_append, List.length_cons, List.length_nil]); omega))
local macro_rules | `(tactic| walk_at "go") => `(tactic| ((try (conv => whnf)); repeat ((first | (show pIf _ _ _; first | refine pIf.tt rfl ?_ | refine pIf.ff rfl ?_) | (show pReq _ _; first | refine pReq.mk rfl ?_ | refine pReq.mk (sz_le rfl) ?_ | refine pReq.mk (sz_lt rfl) ?_ | refine pReq.mk (by decide) ?_ | refine pReq.mk (Or.inr (by decide)) ?_ | refine pReq.mk (Or.inl (by decide)) ?_ | refine pReq.mk (by assumption) ?_ | refine pReq.mk (isTy_l (by walk_at "sto")) ?_ | refine pReq.mk (by omega) ?_ | refine pReq.mk (sz_lt6 (by walk_at "sz")) ?_ | refine pReq.mk (sz_le6 (by walk_at "sz")) ?_ | refine pReq.mk (by walk_at "sz") ?_) | (show pGet _ _; first | refine pGet.mk rfl ?_ | refine pGet.mk (by walk_at "sto") ?_ | refine pGet.mk (lenD_at (by walk_at "sto")) ?_ | refine pGet.mk (sqD_at (by walk_at "sto")) ?_ | refine pGet.mk (lsD_at (by walk_at "sto")) ?_ | refine pGet.mk (lsR_at (by walk_at "sto")) ?_ | refine pGet.mk (srcD_at (by walk_at "sto")) ?_ | refine pGet.mk (tyD_l (by walk_at "sto")) ?_)); (try (conv => whnf)))))
open WY (Mk eMk Row eRow nextS TOk WOk RowOk inOk by_ok steps_in lgrs_snoc longer lgr lgrs leads Gone BfI TMk eTM stepM eWay eOwe Way finds owes fnd owd KW KO KR sortY sortO zT tword endsB mem_finds mem_owes eqv_way shWay shWays shOwe shOwes picks picks_take flat_take flat_len finds_len owes_len)
open WY (MkIn WayIn labM labM_ok hidesB hidesZ noS noT eqv_tm shTM noneB seenB OdOk Lb lbsOf noneL keyW keyM)
/-! shapes -/
theorem shTSt {m : Nat} {s : TB.XSt} (h1 : ∀ g ∈ s.1, PyData.strOk g.1 = true) (h2 : ∀ w ∈ s.2, PyData.strOk w = true) : Shp 4 (TB.eSt s) := .tup2 (.lists fun g hg => TB.shG (h1 g hg)) (.mono (.lists (n := 1) (f := PyData.str) fun w hw => .str (h2 w hw)) (by decide))
theorem shTab {t : TB.XTab} (h : TOk t) : Shp 6 (TB.eTab t) := .tup3 (.lists fun s hs => shTSt (m := 0) (fun g hg => (h.go s hs g hg).1) (h.en s hs)) .int (.mono (.lists (n := 1) (f := OR.eP) fun p hp => .tup2 (.str (h.od p hp).1) (.str (h.od p hp).2)) (by decide))
theorem quests_row {W : WY.World} (hW : WOk W) {q : Quest} (hq : q ∈ W.net.quests) : RowOk W ⟨[], q.scope, q.state⟩ :=
  ⟨(hW.net.qs q hq).s, ⟨(hW.net.qs q hq).t, hW.qst q hq⟩, fun m hm => (by cases hm), by simp⟩
theorem found_mem {a : AFound} {ws : List Way} (h : FoundIs a ws) : ∀ w ∈ ws, ∃ r, Gone a.W a.sc a.st r ∧ w ∈ finds a.W a.nm r := fun w hw => by
  obtain ⟨rs, h1, rfl⟩ := h
  obtain ⟨r, hr, hw⟩ := List.mem_flatMap.mp (WY.mem_sortY.mp hw)
  exact ⟨r, (h1.me r).mp hr, hw⟩
/-! copies of ways -/
theorem range_newK : ∀ (L : Nat) (ws : List Way), (List.range ws.length).map (fun i => D.r (L + i)) = (KD.newK L ws).map KW.dd
  | L, [] => rfl
  | L, w :: ws => by
    rw [List.length_cons, List.range_succ_eq_map, List.map_cons, List.map_map, KD.newK, List.map_cons, ← range_newK (L + 1) ws]
    congr 1
    refine List.map_congr_left fun i _ => ?_
    show D.r (L + (i + 1)) = D.r (L + 1 + i)
    rw [show L + (i + 1) = L + 1 + i by omega]
theorem held_vw (S : Sto) (ws : List Way) : Vw (S ++ Ob.lst ((KD.newK (S.length + 1) ws).map KW.dd) :: ws.map fun w => .lst (w.map zT)) (.r S.length) (.list (ws.map eWay)) := by
  have hin := KD.newK_in (k := KW) ws (S ++ [Ob.lst ((KD.newK (S.length + 1) ws).map KW.dd)]) [] (S.length + 1) (by simp)
  rw [List.append_nil, List.append_assoc] at hin
  have hin : KD.In KW (S ++ Ob.lst ((KD.newK (S.length + 1) ws).map KW.dd) :: ws.map fun w => .lst (w.map zT)) (KD.newK (S.length + 1) ws) := hin
  exact .r sto_r0 (hin.vws (KD.newK_snd _ _))
theorem bzWays (ws : List Way) : (ws.map eWay).map bz = ws.map fun w => .b (eWay w) := by
  rw [List.map_map]; exact List.map_congr_left fun w _ => bz_list
theorem any_ways (w : Way) : ∀ ws : List Way, ((ws.map eWay).any fun z => PyData.eqv z (eWay w)) = decide (w ∈ ws)
  | [] => by simp
  | v :: ws => by
    rw [List.map_cons, List.any_cons, any_ways w ws, eqv_way]
    by_cases h : v = w
    · subst h; simp
    · have h2 : w ≠ v := fun z => h z.symm
      simp [h, h2]
theorem bIn_w {S : Sto} {x y : D} {ws : List Way} {w : Way} {k : Bool → Prop} (h1 : Vw S x (eWay w)) (h2 : Vw S y (.list (ws.map eWay))) (hk : k (decide (w ∈ ws))) : bInG x y S k := by
  refine ⟨.inl ⟨eWay w, ws.map eWay, h1, h2, (shWay w).ok, (shWays ws).ok, ?_⟩⟩
  rw [any_ways]; exact hk
theorem newK_filter (n : Net) (od : List OR.Pr) (ws : List Way) (L : Nat) : ((KD.newK L ws).filter fun p => !decide (p.2 ∈ seenB n od ws)).map (·.2) = ws.filter fun w => !noneB n od ws w := by
  have key : ∀ w ∈ ws, decide (w ∈ seenB n od ws) = noneB n od ws w := fun w hw => by
    apply Bool.eq_iff_iff.mpr
    rw [decide_eq_true_iff, WY.mem_seen, WY.noneB_iff]
    exact ⟨fun h => h.2, fun h => ⟨hw, h⟩⟩
  have go : ∀ (vs : List Way) (L : Nat), (∀ v ∈ vs, v ∈ ws) → ((KD.newK L vs).filter fun p => !decide (p.2 ∈ seenB n od ws)).map (·.2) = vs.filter fun w => !noneB n od ws w := by
    intro vs
    induction vs with
    | nil => intro L _; rfl
    | cons v vs ih =>
      intro L h
      rw [KD.newK, List.filter_cons, List.filter_cons]
      dsimp only
      rw [key v (h v List.mem_cons_self)]
      have := ih (L + 1) fun x hx => h x (List.mem_cons_of_mem _ hx)
      cases noneB n od ws v with
      | true => exact this
      | false => simp only [Bool.not_false, if_true, List.map_cons]; rw [this]
  exact go ws L fun _ h => h
theorem pl_two : ∀ {qs : List HD.Q2} {q : HD.Q2}, (qs.flatMap HD.pl).Nodup → q ∈ qs → q.1 ≠ q.2.1
  | [], _, _, h => by cases h
  | x :: qs, q, nd, h => by
    rw [List.flatMap_cons] at nd
    obtain ⟨h1, h2, _⟩ := List.nodup_append.mp nd
    rcases List.mem_cons.mp h with rfl | h
    · simpa [HD.pl] using h1
    · exact pl_two h2 h
theorem pl_apart : ∀ {qs : List HD.Q2} {i j : Nat} {a b : HD.Q2}, (qs.flatMap HD.pl).Nodup → qs[i]? = some a → qs[j]? = some b → i < j → ∀ x ∈ HD.pl a, ∀ y ∈ HD.pl b, x ≠ y
  | [], _, _, _, _, _, h, _, _ => by simp at h
  | q :: qs, 0, j, a, b, nd, h1, h2, hj => by
    rw [List.flatMap_cons] at nd
    obtain ⟨_, _, h3⟩ := List.nodup_append.mp nd
    cases j with
    | zero => omega
    | succ j =>
      simp at h1; subst h1
      exact fun x hx y hy => h3 x hx y (List.mem_flatMap.mpr ⟨b, List.mem_of_getElem? (by simpa using h2), hy⟩)
  | q :: qs, i + 1, j, a, b, nd, h1, h2, hj => by
    rw [List.flatMap_cons] at nd
    obtain ⟨_, h3, _⟩ := List.nodup_append.mp nd
    cases j with
    | zero => omega
    | succ j => exact pl_apart h3 (by simpa using h1) (by simpa using h2) (by omega)
theorem pu_right : ∀ ds S K KX, lent F_right ds S K KX → ws__law_right (frz F_copy) (frz F_copy_table) (frz F_seenZ) (frr F_hidden) (frz F_row) { nx := fun _ S1 => K (.z .none) S1, rt := K, ex := fun y _ S1 => KX y S1 } (startE nm__law_right ds) S := by
  refine fsp_ok fun ⟨net, t, ws⟩ hp K KX hk => ?_
  have hsp := hp.seen
  obtain ⟨hn, hs9, ht, hw⟩ := hp
  dsimp only at hn hs9 ht hw
  have hb := bzTab t
  have hbw : bz (.list (ws.map eWay)) = .b (.list (ws.map eWay)) := bz_list
  simp only [List.map_cons, List.map_nil, hb, hbw]
  have ht9 := ht.n9
  have hw1 := hw.1
  have hsl : (seenB net t.order ws).length ≤ ws.length := List.length_filter_le _ _
  have fin1 : ∀ (v6 v7 v10 v11 v12 : Option D) (n m : Nat) (S : Sto), (∃ ds, S[n]? = some (.lst ds)) → (∀ S', Keep [n] S S' → Vw S' (.r 0) (.list (ws.map eWay)) ∧ Vw S' (.r m) (.list ((HD.hidB net t.order ws).map HD.e2))) → _law_right_r1 (frr F_hidden) (ends K KX) [some (.b (eNet net)), some (.b (TB.eTab t)), some (.b (.list (ws.map eWay))), some (.z (eNet net)), some (.z (TB.eTab t)), some (.r 0), v6, v7, some (.r n), some (.r m), v10, v11, v12] S := by
    rintro v6 v7 v10 v11 v12 n m S ⟨ds, h0⟩ hkeep
    walk_at "go"
    obtain ⟨k1, k2⟩ := hkeep (S.set n (.lst [])) (Keep.set (by simp))
    refine eq_same (d := .list (ws.map eWay)) .b k1 (shWays ws) (by decide) ?_
    walk_at "go"
    refine HD.gotr_call (out := fun a : ASeen => HD.hidB a.n a.t.order a.ws) ⟨net, t, ws⟩ (.cons .b (.cons .b (.cons .b .nil))) hsp fun S2 i qs hG => ?_
    dsimp only at hG
    refine eq_same (n := 4) (d := .list ((HD.hidB net t.order ws).map HD.e2)) hG.vw (Vw.sub hG.old _ _ k2) (.lists fun p _ => .tup2 (shWay p.1) (shWay p.2)) (by decide) ?_
    exact hk _ _ .z
  unfold ws__law_right _law_right_r3 _law_right_r2
  generalize _law_right_r1 (frr F_hidden) = r1 at fin1 ⊢
  walk_at "go"
  refine fsp_call net (.cons .b .nil) (by omega) ?_
  walk_at "go"
  refine fsp_call t (.cons .b .nil) (by omega) ?_
  walk_at "go"
  refine pLc_nest ws (fun w => .b (eWay w)) (fun w => w.map zT) (waysB ws) (by omega) (fun _ _ => trivial) (fun w _ => ⟨_, rfl, fun S1 K _ h => ?_⟩) ?_
  · dsimp only [_law_right_e1]
    have e : (w.map eTM).map bz = w.map zT := by rw [List.map_map]; rfl
    rw [← e] at h
    walk_at "go"
    exact h
  rw [range_newK]
  have hv := held_vw [] ws
  have hi2 := KD.newK_in (k := KW) ws [Ob.lst ((KD.newK 1 ws).map KW.dd)] [] 1 rfl
  rw [List.append_nil] at hi2
  have h02 : (([] : Sto) ++ Ob.lst ((KD.newK (([] : Sto).length + 1) ws).map KW.dd) :: ws.map fun w => .lst (w.map zT))[0]? = some (.lst ((KD.newK 1 ws).map KW.dd)) := rfl
  have hi2 : KD.In KW (([] : Sto) ++ Ob.lst ((KD.newK (([] : Sto).length + 1) ws).map KW.dd) :: ws.map fun w => .lst (w.map zT)) (KD.newK 1 ws) := hi2
  generalize (([] : Sto) ++ Ob.lst ((KD.newK (([] : Sto).length + 1) ws).map KW.dd) :: ws.map fun w => .lst (w.map zT)) = S2 at hv h02 hi2 ⊢
  have hv : Vw S2 (.r 0) (.list (ws.map eWay)) := hv
  walk_at "go"
  refine fsp_call (⟨net, t, ws⟩ : ASeen) (.cons .b (.cons .b (.cons .b .nil))) hsp ?_
  dsimp only
  walk_at "go"
  refine pLc_nest (seenB net t.order ws) zY (fun w => w.map zT) (by show ((seenB net t.order ws).map eWay).map D.z = _; rw [List.map_map]; rfl) (by omega) (fun _ _ => trivial) (fun w _ => ⟨_, rfl, fun S1 K _ h => ?_⟩) ?_
  · dsimp only [_law_right_e2]
    have e : (w.map eTM).map D.z = w.map zT := by rw [List.map_map]; rfl
    rw [← e] at h
    walk_at "go"
    exact h
  rw [range_newK]
  have hvs := held_vw S2 (seenB net t.order ws)
  have hs03 : (S2 ++ Ob.lst ((KD.newK (S2.length + 1) (seenB net t.order ws)).map KW.dd) :: (seenB net t.order ws).map fun w => .lst (w.map zT))[S2.length]? = some (.lst ((KD.newK (S2.length + 1) (seenB net t.order ws)).map KW.dd)) := sto_r0
  have hold3 : ∀ (m : Nat) (o : Ob), S2[m]? = some o → (S2 ++ Ob.lst ((KD.newK (S2.length + 1) (seenB net t.order ws)).map KW.dd) :: (seenB net t.order ws).map fun w => .lst (w.map zT))[m]? = some o := fun _ _ => sto_app
  generalize (S2 ++ Ob.lst ((KD.newK (S2.length + 1) (seenB net t.order ws)).map KW.dd) :: (seenB net t.order ws).map fun w => .lst (w.map zT)) = S3 at hvs hs03 hold3 ⊢
  have h03 := hold3 _ _ h02
  walk_at "go"
  refine pLc_mapE (KD.newK 1 ws) KW.dd KW.dd (fun p => !decide (p.2 ∈ seenB net t.order ws)) rfl (by rw [KD.newK_len]; omega) (fun _ => sto_app h03) (fun p hpm => ⟨_, rfl, fun S1 K hS h => ?_, fun _ S1 K _ h => ?_⟩) ?_
  · dsimp only [_law_right_c1]
    obtain ⟨acc, rfl⟩ := hS
    walk_at "go"
    refine bIn_w (w := p.2) (.r (sto_app (hold3 _ _ (hi2 p hpm))) (Vws.map _ _)) (Vw.app hvs) ?_
    exact h
  · dsimp only [_law_right_e3]
    walk_at "go"
    exact h
  have hps := newK_filter net t.order ws 1
  have hpi : KD.In KW S3 ((KD.newK 1 ws).filter fun p => !decide (p.2 ∈ seenB net t.order ws)) := fun p hp => hold3 _ _ (hi2 p (List.mem_filter.mp hp).1)
  generalize (KD.newK 1 ws).filter (fun p => !decide (p.2 ∈ seenB net t.order ws)) = ps at hps hpi ⊢
  have hpl : ps.length = (ws.filter fun w => !noneB net t.order ws w).length := by rw [← hps, List.length_map]
  walk_at "go"
  refine HD.gotr_call (out := fun a : ASeen => HD.hidB a.n a.t.order a.ws) ⟨net, t, ws⟩ (.cons .b (.cons .b (.cons .b .nil))) hsp fun S5 n qs hG => ?_
  dsimp only at hG
  have hql : qs.length = ps.length := by
    rw [hG.len, hpl]
    unfold HD.hidB
    rw [List.length_map]
  have hl := hG.l
  have hold5 := hG.old
  have ho5 := hold5 _ _ sto_last
  have hv5 : Vw S5 (.r 0) (.list (ws.map eWay)) := Vw.sub (fun m o e => hold5 m o (sto_app (hold3 m o e))) _ _ hv
  have hvs5 : Vw S5 (.r S2.length) (.list ((seenB net t.order ws).map eWay)) := Vw.sub (fun m o e => hold5 m o (sto_app e)) _ _ hvs
  have hpi5 : KD.In KW S5 ps := fun p hp => hold5 _ _ (sto_app (hpi p hp))
  walk_at "go"
  rw [List.length_map, List.length_map, hql]
  refine pIf.ff (by show (!decide ((ps.length : Int) = (ps.length : Int))) = false; rw [decide_eq_true rfl]; rfl) ?_
  walk_at "go"
  refine eq_same (d := eNet net) .b .z (shN hn) (by decide) ?_
  walk_at "go"
  refine eq_same (d := TB.eTab t) .b .z (shTab ht) (by decide) ?_
  walk_at "go"
  refine eq_same (d := .list (ws.map eWay)) .b hv5 (shWays ws) (by decide) ?_
  walk_at "go"
  have hpw : ∀ (i : Nat) (q : HD.Q2) (p : Nat × Way), qs[i]? = some q → ps[i]? = some p → ∃ w ∈ ws, p.2 = w ∧ ∃ v, q.2.2 = (w, v) ∧ WY.firstB net t.order (seenB net t.order ws) w = some v := fun i q p hq hp => by
    have e1 : ((HD.hidB net t.order ws))[i]? = some q.2.2 := by rw [← hG.s, List.getElem?_map, hq]; rfl
    have e2 : (ws.filter fun w => !noneB net t.order ws w)[i]? = some p.2 := by rw [← hps, List.getElem?_map, hp]; rfl
    unfold HD.hidB at e1
    rw [List.getElem?_map, e2] at e1
    have e1 := Option.some.inj e1
    obtain ⟨hm, hn⟩ := List.mem_filter.mp (List.mem_of_getElem? e2)
    have hn : noneB net t.order ws p.2 = false := by
      cases h : noneB net t.order ws p.2 with
      | false => rfl
      | true => rw [h] at hn; cases hn
    obtain ⟨v, h1, _, _⟩ := HD.first_hid ht.odk hm hn
    exact ⟨p.2, hm, rfl, v, by rw [← e1]; dsimp only; rw [h1]; rfl, h1⟩
  refine pFor_xs (qs.zip ps) (fun z => .t [HD.dd z.1, KW.dd z.2]) (by
    show List.zipWith (fun a b => mkT [a, b]) (qs.map HD.dd) (ps.map KW.dd) = _
    rw [List.zipWith_map, List.zip, List.map_zipWith]; rfl) (fun i env S => ∃ (v10 v11 : Option D), env = [some (.b (eNet net)), some (.b (TB.eTab t)), some (.b (.list (ws.map eWay))), some (.z (eNet net)), some (.z (TB.eTab t)), some (.r 0), some (.r S2.length), some (.r S3.length), some (.r n), none, v10, v11, none] ∧ S5 = S) ⟨_, _, rfl, rfl⟩ (fun _ _ S _ h => ?_) ?_ ?_
  · obtain ⟨_, _, _, rfl⟩ := h
    exact ⟨hl, ho5⟩
  · rintro i ⟨q, p⟩ _ _ Q hz ⟨v10, v11, rfl, rfl⟩ hQ
    rw [List.getElem?_zip_eq_some] at hz
    obtain ⟨w, hwm, hpe, v, hqe, hf⟩ := hpw i q p hz.1 hz.2
    have hq := hG.i q (List.mem_of_getElem? hz.1)
    have hp := hpi5 p (List.mem_of_getElem? hz.2)
    rw [hqe] at hq
    rw [hpe] at hp
    have hwo := hw.2 w hwm
    walk_at "go"
    refine fsp_call (⟨net, t, seenB net t.order ws, w, v⟩ : ARow) (.cons .z (.cons .z (.cons hvs5 (.cons (.r hp (Vws.map _ _)) (.cons (.t (.cons (.r hq.1 (Vws.map _ _)) (.cons (.r hq.2 (Vws.map _ _)) .nil))) .nil))))) ⟨⟨hn, ht, fun u hu => hw.2 u (WY.mem_seen.mp hu).1, hwo⟩, hf⟩ ?_
    walk_at "go"
    exact hQ _ _ ⟨_, _, rfl, rfl⟩
  rintro _ _ ⟨v10, v11, rfl, rfl⟩
  have hUl : ∀ (m : Nat) (o : Ob), S2[m]? = some o → m < n ∧ m ∉ qs.flatMap HD.pl := fun m o e => by
    have h1 := (List.getElem?_eq_some_iff.mp (sto_app (T := [Ob.lst (ps.map KW.dd)]) (hold3 m o e))).1
    have h2 := hG.n
    exact ⟨by omega, fun z => by have := hG.b m z; omega⟩
  walk_at "go"
  have hhl : (HD.hidB net t.order ws).length ≤ 100 := by
    have h1 := hG.len
    have h2 := List.length_filter_le (fun w => !noneB net t.order ws w) ws
    omega
  refine pLc_each (fun i S' => ∃ (rs : List HD.Q2), HD.Put (S5 ++ [.lst []]) S' S5.length rs ((HD.hidB net t.order ws).take i)) ⟨[], .new sto_last⟩ ?_ ?_ ?_
  · rintro i S' _ ⟨rs, hP⟩
    refine hP.k _ _ ?_ (sto_app hl)
    have := (List.getElem?_eq_some_iff.mp hl).1
    simp; omega
  · rintro i d S' Q hi ⟨rs, hP⟩ hQ
    have hi : (qs.map HD.dd)[i]? = some d := hi
    rw [List.getElem?_map] at hi
    cases hqi : qs[i]? with
    | none => rw [hqi] at hi; cases hi
    | some q =>
      rw [hqi] at hi
      obtain rfl := Option.some.inj hi
      have hqm := hG.i q (List.mem_of_getElem? hqi)
      have hqb := hG.b
      have hlt := hG.i.lt q (List.mem_of_getElem? hqi)
      have e1 : (HD.hidB net t.order ws)[i]? = some q.2.2 := by rw [← hG.s, List.getElem?_map, hqi]; rfl
      obtain ⟨i1, i2, w, v⟩ := q
      dsimp only at hqm hlt e1
      have hx1 := hP.k _ _ (show i1 ∉ [S5.length] by simp; omega) (sto_app hqm.1)
      have hx2 := hP.k _ _ (show i2 ∉ [S5.length] by simp; omega) (sto_app hqm.2)
      have hil := (List.getElem?_eq_some_iff.mp e1).1
      have hrl : rs.length ≤ 200 := by
        have := hP.len
        rw [List.length_take] at this
        omega
      rw [List.take_add_one, e1] at hQ
      refine pGet.mk rfl ?_
      dsimp only [_law_right_e4]
      have h0 := hP.l
      have hlt0 := (List.getElem?_eq_some_iff.mp h0).1
      have hls := hP.lt
      walk_at "go"
      refine hQ _ ⟨rs ++ [(S'.length, S'.length + 1, w, v)], ?_⟩
      have e5 : (S' ++ [Ob.lst (w.map zT)]).length = S'.length + 1 := by simp
      have hP3 := (hP.app (T := [Ob.lst (w.map zT)])).app (T := [Ob.lst (v.map zT)])
      rw [e5]
      refine hP3.push (a := w) (b := v) (m1 := S'.length) (m2 := S'.length + 1) (sto_app sto_last) (by rw [← e5]; exact sto_last) (by rw [List.length_append, List.length_singleton]; omega) (by rw [List.length_append, List.length_singleton]; omega) (by omega) (fun z => by have := hls _ z; omega) (fun z => by have := hls _ z; omega)
  · rintro S6 ⟨rs, hP⟩
    have e0 : (qs.map HD.dd).length = (HD.hidB net t.order ws).length := by rw [List.length_map, hG.len]
    have hP : HD.Put (S5 ++ [.lst []]) S6 S5.length rs ((HD.hidB net t.order ws).take (qs.map HD.dd).length) := hP
    rw [e0, List.take_length] at hP
    have hl6 : S6[n]? = some (.lst (qs.map HD.dd)) := by
      refine hP.k _ _ ?_ (sto_app hl)
      have := (List.getElem?_eq_some_iff.mp hl).1
      simp; omega
    have hkp6 : ∀ (m : Nat) (o : Ob), S5[m]? = some o → S6[m]? = some o := fun m o e => hP.k _ _ (by have := (List.getElem?_eq_some_iff.mp e).1; simp; omega) (sto_app e)
    walk_at "go"
    refine pFor_xs qs HD.dd rfl (fun i env S7 => ∃ (v11 v12 : Option D), env = [some (.b (eNet net)), some (.b (TB.eTab t)), some (.b (.list (ws.map eWay))), some (.z (eNet net)), some (.z (TB.eTab t)), some (.r 0), some (.r S2.length), some (.r S3.length), some (.r n), some (.r S5.length), v10, v11, v12] ∧ Keep (qs.flatMap HD.pl) S6 S7 ∧ ∀ (j : Nat) (q : HD.Q2), i ≤ j → qs[j]? = some q → S7[q.1]? = some (.lst (q.2.2.1.map zT)) ∧ S7[q.2.1]? = some (.lst (q.2.2.2.map zT))) ⟨_, _, rfl, .refl, fun j q _ hq => ⟨hkp6 _ _ (hG.i q (List.mem_of_getElem? hq)).1, hkp6 _ _ (hG.i q (List.mem_of_getElem? hq)).2⟩⟩ ?_ ?_ ?_
    · rintro i _ S7 _ ⟨_, _, _, kp, _⟩
      exact kp _ _ (fun z => by have := hG.b n z; omega) hl6
    · rintro i q _ S7 Q hqi ⟨v11, v12, rfl, kp, hrest⟩ hQ
      have hqm := List.mem_of_getElem? hqi
      obtain ⟨h1, h2⟩ := hrest i q (Nat.le_refl _) hqi
      have ne := pl_two hG.nd hqm
      have h2' : (S7.set q.1 (.lst []))[q.2.1]? = some (.lst (q.2.2.2.map zT)) := by
        rw [List.getElem?_set_ne ne]; exact h2
      have hvl : q.2.2.2.length ≤ 41 := by
        have hil := (List.getElem?_eq_some_iff.mp hqi).1
        have hp := List.getElem?_eq_getElem (show i < ps.length by omega)
        obtain ⟨w, hwm, _, v, hqe, hf⟩ := hpw i q _ hqi hp
        rw [hqe]
        exact (hw.2 v (WY.mem_seen.mp (List.mem_of_find?_eq_some hf)).1).2
      have m1 : q.1 ∈ qs.flatMap HD.pl := List.mem_flatMap.mpr ⟨q, hqm, by simp [HD.pl]⟩
      have m2 : q.2.1 ∈ qs.flatMap HD.pl := List.mem_flatMap.mpr ⟨q, hqm, by simp [HD.pl]⟩
      walk_at "go"
      refine hQ _ _ ⟨_, _, rfl, (kp.trans (Keep.set m1)).trans (Keep.set m2), fun j x hj hx => ?_⟩
      obtain ⟨g1, g2⟩ := hrest j x (by omega) hx
      have ap := pl_apart hG.nd hqi hx (by omega)
      have a1 := ap q.1 (by simp [HD.pl])
      have a2 := ap q.2.1 (by simp [HD.pl])
      exact ⟨by rw [List.getElem?_set_ne (a2 _ (by simp [HD.pl])), List.getElem?_set_ne (a1 _ (by simp [HD.pl]))]; exact g1, by rw [List.getElem?_set_ne (a2 _ (by simp [HD.pl])), List.getElem?_set_ne (a1 _ (by simp [HD.pl]))]; exact g2⟩
    · rintro _ S7 ⟨v11, v12, rfl, kp, _⟩
      refine fin1 _ _ _ _ _ n S5.length S7 ⟨_, kp _ _ (fun z => by have := hG.b n z; omega) hl6⟩ fun S' k2 => ⟨Vw.sub (fun m o e => k2 m o (by have := (hUl m o e).1; simp; omega) (kp m o (hUl m o e).2 (hkp6 _ _ (hold5 _ _ (sto_app (hold3 _ _ e)))))) _ _ hv, ?_⟩
      have hn5 := (List.getElem?_eq_some_iff.mp hl).1
      have hm : ∀ (m : Nat) (o : Ob), S5.length ≤ m → S6[m]? = some o → S'[m]? = some o := fun m o hle e => k2 m o (by simp; omega) (kp m o (fun z => by have := hG.b m z; omega) e)
      have hin : HD.In S' rs := fun x hx => by
        have hb := hP.b x hx
        rw [List.length_append] at hb
        exact ⟨hm _ _ (by omega) (hP.i x hx).1, hm _ _ (by omega) (hP.i x hx).2⟩
      exact .r (hm _ _ (Nat.le_refl _) hP.l) (hin.vws hP.e)
theorem pu_law : ∀ ds S K KX, lawSp ds S K KX → ws_law (frr F_case) (frz F_cell) (frz F_ways) (frz F_right) (frr F_hidden) { nx := fun _ S1 => K (.z .none) S1, rt := K, ex := fun y _ S1 => KX y S1 } (startE nm_law ds) S := by
  rintro ds S K KX ⟨ns, rfl, rfl, hn, hk⟩
  walk_at "go"
  refine fsrq_call ns (.cons .b .nil) (show ns.length ≤ 100 by omega) fun c hc => ?_
  obtain ⟨W, ws⟩ := c
  have hW := hc.w
  have w9 := hc.n9
  have hq5 := hc.q5
  dsimp only at hW w9 hq5
  rw [al_case]
  dsimp only
  walk_at "go"
  rw [List.length_map]
  walk_at "go"
  have el : ((W.net.quests.length : Int)).toNat = W.net.quests.length := by omega
  rw [el]
  refine pFor_range (fun i env S => ∃ (v1 v6 v7 v8 v9 v10 : Option D), env = [some (.b (.list (ns.map .int))), v1, some (.z (eNet W.net)), some (.z (TB.eTab W.tab)), some (.r 0), some (.z (.list (ws.map .str))), v6, v7, v8, v9, v10] ∧ S[0]? = some (.lst (W.ans.map fun x => .z (eAns x)))) ⟨_, _, _, _, _, _, rfl, rfl⟩ ?_ ?_
  · rintro i _ S Q hi ⟨v1, v6, v7, v8, v9, v10, rfl, h0⟩ hQ
    walk_at "go"
    refine pGet.ex (ixD_zA (xs := W.net.quests) (f := eQuest) (by omega)) fun d ⟨q, hqm, hd⟩ => ?_
    subst hd
    have hr := quests_row hW hqm
    walk_at "go"
    refine fsp_call (ns, 5) (.cons .b (.cons .z .nil)) (show (0 : Int) ≤ 5 by decide) ?_
    walk_at "go"
    refine pGet.ex (ixD_zA (xs := ws) (f := PyData.str) (by rw [w9]; exact ⟨(fmod_b (by decide)).1, Int.lt_trans (fmod_b (b := 3) (by decide)).2 (by decide)⟩)) fun d ⟨nm, hnm, hd⟩ => ?_
    subst hd
    walk_at "go"
    refine fsp_call (ns, 4) (.cons .b (.cons .z .nil)) (show (0 : Int) ≤ 4 by decide) ?_
    walk_at "go"
    refine fsq_call (⟨W, q.scope, q.state, nm, _⟩ : AWays) (.cons .z (.cons (.r h0 (Vws.map _ _)) (.cons .z (.cons .z (.cons .z (.cons .z .nil)))))) ⟨hW, hr⟩ fun vs hvs => ?_
    dsimp only at hvs
    walk_at "go"
    refine fsp_call (W.net, W.tab, vs) (.cons .z (.cons .z (.cons .z .nil))) ⟨hW.net, hW.s40, hW.tab, hvs⟩ ?_
    walk_at "go"
    rw [show (List.map D.z (vs.map eWay)) = vs.map zY by rw [List.map_map]; rfl, cutL_map]
    refine fsp_call (W.net, W.tab, cutL vs (some 1) none) (.cons .z (.cons .z (.cons (.r sto_last (Vws.map _ _)) .nil))) ⟨hW.net, hW.s40, hW.tab, by have := cutL_len vs (some 1) none; have := hvs.1; dsimp only; omega, fun w hw => hvs.2 w (cutL_mem hw)⟩ ?_
    walk_at "go"
    exact hQ _ _ ⟨_, _, _, _, _, _, rfl, sto_app h0⟩
  · rintro _ S ⟨v1, v6, v7, v8, v9, v10, rfl, h0⟩
    walk_at "go"
    refine HD.gotr_call (out := fun a : ASeen => HD.hidB a.n a.t.order a.ws) ⟨W.net, W.tab, []⟩ (.cons .z (.cons .z (.cons (.r sto_last .nil) .nil))) ⟨hW.net, hW.tab, fun _ h => (by cases h), Nat.zero_le _⟩ fun S2 m ps hG => ?_
    dsimp only at hG
    walk_at "go"
    refine eq_same (d := .list []) (Vw.app hG.vw) (.r sto_last .nil) (shWays []) (by decide) ?_
    exact hk _
end K27

set_option Elab.async false
set_option linter.all false
set_option maxHeartbeats 4000000
set_option maxRecDepth 100000
namespace K27
open PySem PySem.Spec PyProof.Rows L2 PL
def fn : List He.DefD := [dd "is_name" st_is_name, dd "label_at" st_label_at, dd "is_better" st_is_better, dd "hides" st_hides, dd "labels_behind" st_labels_behind, dd "none_hides" st_none_hides, dd "seen_ways" st_seen_ways, dd "first_that_hides" st_first_that_hides, dd "hidden_ways" st_hidden_ways, dd "nexts" st_nexts, dd "below" st_below, dd "chain" st_chain, dd "labels_ahead" st_labels_ahead, dd "order_of" st_order_of, dd "too_great" st_too_great, dd "labels_in" st_labels_in, dd "numbers_in" st_numbers_in, dd "has_double" st_has_double, dd "table_of" st_table_of, dd "next_state" st_next_state, dd "has_end" st_has_end, dd "usual" st_usual, dd "inside" st_inside, dd "goal" st_goal, dd "one_step_longer" st_one_step_longer, dd "beginnings" st_beginnings, dd "found_ways" st_found_ways, dd "owed_ways" st_owed_ways, dd "_law_cell_at" st__law_cell_at, dd "_law_words" st__law_words, dd "_law_stream" st__law_stream, dd "_law_under" st__law_under, dd "_law_table" st__law_table, dd "_law_things" st__law_things, dd "_law_questions" st__law_questions, dd "_law_answers" st__law_answers, dd "_law_lay" st__law_lay, dd "_law_case" st__law_case, dd "_law_copy" st__law_copy, dd "_law_copy_table" st__law_copy_table, dd "_law_label" st__law_label, dd "_law_hides" st__law_hides, dd "_law_ways" st__law_ways, dd "_law_first" st__law_first, dd "_law_row" st__law_row, dd "_law_right" st__law_right, dd "law" st_law]
def fa0 : List He.Fa := [.glo "is_name", .glo "label_at", .glo "is_better", .glo "hides", .glo "labels_behind", .glo "none_hides", .glo "seen_ways", .glo "first_that_hides", .glo "hidden_ways", .glo "nexts", .glo "below", .glo "chain", .glo "labels_ahead", .glo "order_of", .glo "too_great", .glo "labels_in", .glo "numbers_in", .glo "has_double", .glo "table_of", .glo "next_state", .glo "has_end", .glo "usual", .glo "inside", .glo "goal", .glo "one_step_longer", .glo "beginnings", .glo "found_ways", .glo "owed_ways", .glo "_law_cell_at", .glo "_law_words"]
def fa1 : List He.Fa := [.glo "_law_stream", .glo "_law_under", .glo "_law_table", .glo "_law_things", .glo "_law_questions", .glo "_law_answers", .glo "_law_lay", .glo "_law_case", .glo "_law_copy", .glo "_law_copy_table", .glo "_law_label", .glo "_law_hides", .glo "_law_ways", .glo "_law_first", .glo "_law_row", .glo "_law_right", .glo "law", .free "str", .free "isinstance", .free "len", .free "zip", .free "enumerate", .free "tuple", .free "list", .free "sorted", .free "set", .free "range", .free "int", .free "reversed", .str "LETTERS" "abcdefghijklmnopqrstuvwxyz"]
def fa2 : List He.Fa := [.int "MOST_STATES" 8, .int "MOST_PAIRS" 40, .int "MOST_LABELS" 8, .int "MOST_BEGINNINGS" 200]
def fa : List He.Fa := fa0 ++ fa1 ++ fa2
def loose : List PySem.Str := ("PathError" : PySem.Str) :: ("TooGreat" : PySem.Str) :: ("NoName" : PySem.Str) :: ("NoPlace" : PySem.Str) :: ("Twice" : PySem.Str) :: ("Tangled" : PySem.Str) :: ("Ring" : PySem.Str) :: ("LETTERS" : PySem.Str) :: ("is_name" : PySem.Str) :: ("label_at" : PySem.Str) :: ("is_better" : PySem.Str) :: ("hides" : PySem.Str) :: ("labels_behind" : PySem.Str) :: ("none_hides" : PySem.Str) :: ("seen_ways" : PySem.Str) :: ("first_that_hides" : PySem.Str) :: ("hidden_ways" : PySem.Str) :: ("nexts" : PySem.Str) :: ("below" : PySem.Str) :: ("chain" : PySem.Str) :: ("labels_ahead" : PySem.Str) :: ("order_of" : PySem.Str) :: ("MOST_STATES" : PySem.Str) :: ("MOST_LABELS" : PySem.Str) :: ("MOST_PAIRS" : PySem.Str) :: ("too_great" : PySem.Str) :: ("labels_in" : PySem.Str) :: ("numbers_in" : PySem.Str) :: ("has_double" : PySem.Str) :: ("table_of" : PySem.Str) :: ("next_state" : PySem.Str) :: ("has_end" : PySem.Str) :: ("usual" : PySem.Str) :: ("inside" : PySem.Str) :: ("goal" : PySem.Str) :: ("MOST_BEGINNINGS" : PySem.Str) :: ("one_step_longer" : PySem.Str) :: ("beginnings" : PySem.Str) :: ("found_ways" : PySem.Str) :: ("owed_ways" : PySem.Str) :: ("_law_cell_at" : PySem.Str) :: ("_law_words" : PySem.Str) :: ("_law_stream" : PySem.Str) :: ("_law_under" : PySem.Str) :: ("_law_table" : PySem.Str) :: ("_law_things" : PySem.Str) :: ("_law_questions" : PySem.Str) :: ("_law_answers" : PySem.Str) :: ("_law_lay" : PySem.Str) :: ("_law_case" : PySem.Str) :: ("_law_copy" : PySem.Str) :: ("_law_copy_table" : PySem.Str) :: ("_law_label" : PySem.Str) :: ("_law_hides" : PySem.Str) :: ("_law_ways" : PySem.Str) :: ("_law_first" : PySem.Str) :: ("_law_row" : PySem.Str) :: ("_law_right" : PySem.Str) :: []
abbrev R : PySem.W.OpenRow := PySem.W.OpenLaw.row PySem.Challenge.rw_namepaths_k27_hidden_ways_and_what_hides
abbrev hk : PySem.W.Hook := hookP 4 fa fn
def ob (s : PySem.W.SharedT) : Bool × He.AlD := obsPG 4 fa fn (HandSHeadRun.getT s)
theorem ob_eq (s : PySem.W.SharedT) : ob s = hk.obs s.abs := obsPG_eq (HandSHeadRun.getT_eq s)
theorem run (w : World) : HandSHeadRun.RunEq R (PySem.W.view R.prog [67]) hk ob 8000 loose w := by
  intro os
  kernel_rfl
theorem facts {P : Program} {w : World} {K : PySem.W.Frag} {h : Heap} {mg : Str → Option Value} (X : K.In h) (G : h.Ns mainGlobals mg) (c0 : SaysP fa fn K) :
    ∃ fd, FunD K "law" "law" (defArgs st_law) (defBody st_law) (defScope st_law) [] [] (He.fAd K ("law", none)) fd ∧ mg ("law" : Str) = some (.ref (He.fAd K ("law", none))) ∧ ∀ base : Heap, FnOk P w K mg base (L2.CX P w) 7 (He.fAd K ("law", none)) fd ["_law_script"] (spOf lawSp) := by
  have c := c0.sd
  have T : Txt mg := ⟨He.free_ok X G (c.fact 47 (f := .free "str") rfl), He.free_ok X G (c.fact 48 (f := .free "isinstance") rfl), He.free_ok X G (c.fact 49 (f := .free "len") rfl), He.free_ok X G (c.fact 50 (f := .free "zip") rfl), He.free_ok X G (c.fact 51 (f := .free "enumerate") rfl), He.free_ok X G (c.fact 52 (f := .free "tuple") rfl), He.free_ok X G (c.fact 53 (f := .free "list") rfl), He.free_ok X G (c.fact 54 (f := .free "sorted") rfl), He.free_ok X G (c.fact 55 (f := .free "set") rfl), He.free_ok X G (c.fact 56 (f := .free "range") rfl), He.free_ok X G (c.fact 57 (f := .free "int") rfl), He.free_ok X G (c.fact 58 (f := .free "reversed") rfl), He.str_ok X G (c.fact 59 (f := .str "LETTERS" "abcdefghijklmnopqrstuvwxyz") rfl), He.int_ok X G (c.fact 60 (f := .int "MOST_STATES" 8) rfl), He.int_ok X G (c.fact 61 (f := .int "MOST_PAIRS" 40) rfl), He.int_ok X G (c.fact 62 (f := .int "MOST_LABELS" 8) rfl), He.int_ok X G (c.fact 63 (f := .int "MOST_BEGINNINGS" 200) rfl)⟩
  obtain ⟨fd_is_name, D_is_name⟩ := c.def_ 0 (d := dd "is_name" st_is_name) rfl
  obtain ⟨fd_label_at, D_label_at⟩ := c.def_ 1 (d := dd "label_at" st_label_at) rfl
  obtain ⟨fd_is_better, D_is_better⟩ := c.def_ 2 (d := dd "is_better" st_is_better) rfl
  obtain ⟨fd_hides, D_hides⟩ := c.def_ 3 (d := dd "hides" st_hides) rfl
  obtain ⟨fd_labels_behind, D_labels_behind⟩ := c.def_ 4 (d := dd "labels_behind" st_labels_behind) rfl
  obtain ⟨fd_none_hides, D_none_hides⟩ := c.def_ 5 (d := dd "none_hides" st_none_hides) rfl
  obtain ⟨fd_seen_ways, D_seen_ways⟩ := c.def_ 6 (d := dd "seen_ways" st_seen_ways) rfl
  obtain ⟨fd_first_that_hides, D_first_that_hides⟩ := c.def_ 7 (d := dd "first_that_hides" st_first_that_hides) rfl
  obtain ⟨fd_hidden_ways, D_hidden_ways⟩ := c.def_ 8 (d := dd "hidden_ways" st_hidden_ways) rfl
  obtain ⟨fd_nexts, D_nexts⟩ := c.def_ 9 (d := dd "nexts" st_nexts) rfl
  obtain ⟨fd_below, D_below⟩ := c.def_ 10 (d := dd "below" st_below) rfl
  obtain ⟨fd_chain, D_chain⟩ := c.def_ 11 (d := dd "chain" st_chain) rfl
  obtain ⟨fd_labels_ahead, D_labels_ahead⟩ := c.def_ 12 (d := dd "labels_ahead" st_labels_ahead) rfl
  obtain ⟨fd_order_of, D_order_of⟩ := c.def_ 13 (d := dd "order_of" st_order_of) rfl
  obtain ⟨fd_too_great, D_too_great⟩ := c.def_ 14 (d := dd "too_great" st_too_great) rfl
  obtain ⟨fd_labels_in, D_labels_in⟩ := c.def_ 15 (d := dd "labels_in" st_labels_in) rfl
  obtain ⟨fd_numbers_in, D_numbers_in⟩ := c.def_ 16 (d := dd "numbers_in" st_numbers_in) rfl
  obtain ⟨fd_has_double, D_has_double⟩ := c.def_ 17 (d := dd "has_double" st_has_double) rfl
  obtain ⟨fd_table_of, D_table_of⟩ := c.def_ 18 (d := dd "table_of" st_table_of) rfl
  obtain ⟨fd_next_state, D_next_state⟩ := c.def_ 19 (d := dd "next_state" st_next_state) rfl
  obtain ⟨fd_has_end, D_has_end⟩ := c.def_ 20 (d := dd "has_end" st_has_end) rfl
  obtain ⟨fd_usual, D_usual⟩ := c.def_ 21 (d := dd "usual" st_usual) rfl
  obtain ⟨fd_inside, D_inside⟩ := c.def_ 22 (d := dd "inside" st_inside) rfl
  obtain ⟨fd_goal, D_goal⟩ := c.def_ 23 (d := dd "goal" st_goal) rfl
  obtain ⟨fd_one_step_longer, D_one_step_longer⟩ := c.def_ 24 (d := dd "one_step_longer" st_one_step_longer) rfl
  obtain ⟨fd_beginnings, D_beginnings⟩ := c.def_ 25 (d := dd "beginnings" st_beginnings) rfl
  obtain ⟨fd_found_ways, D_found_ways⟩ := c.def_ 26 (d := dd "found_ways" st_found_ways) rfl
  obtain ⟨fd_owed_ways, D_owed_ways⟩ := c.def_ 27 (d := dd "owed_ways" st_owed_ways) rfl
  obtain ⟨fd__law_cell_at, D__law_cell_at⟩ := c.def_ 28 (d := dd "_law_cell_at" st__law_cell_at) rfl
  obtain ⟨fd__law_words, D__law_words⟩ := c.def_ 29 (d := dd "_law_words" st__law_words) rfl
  obtain ⟨fd__law_stream, D__law_stream⟩ := c.def_ 30 (d := dd "_law_stream" st__law_stream) rfl
  obtain ⟨fd__law_under, D__law_under⟩ := c.def_ 31 (d := dd "_law_under" st__law_under) rfl
  obtain ⟨fd__law_table, D__law_table⟩ := c.def_ 32 (d := dd "_law_table" st__law_table) rfl
  obtain ⟨fd__law_things, D__law_things⟩ := c.def_ 33 (d := dd "_law_things" st__law_things) rfl
  obtain ⟨fd__law_questions, D__law_questions⟩ := c.def_ 34 (d := dd "_law_questions" st__law_questions) rfl
  obtain ⟨fd__law_answers, D__law_answers⟩ := c.def_ 35 (d := dd "_law_answers" st__law_answers) rfl
  obtain ⟨fd__law_lay, D__law_lay⟩ := c.def_ 36 (d := dd "_law_lay" st__law_lay) rfl
  obtain ⟨fd__law_case, D__law_case⟩ := c.def_ 37 (d := dd "_law_case" st__law_case) rfl
  obtain ⟨fd__law_copy, D__law_copy⟩ := c.def_ 38 (d := dd "_law_copy" st__law_copy) rfl
  obtain ⟨fd__law_copy_table, D__law_copy_table⟩ := c.def_ 39 (d := dd "_law_copy_table" st__law_copy_table) rfl
  obtain ⟨fd__law_label, D__law_label⟩ := c.def_ 40 (d := dd "_law_label" st__law_label) rfl
  obtain ⟨fd__law_hides, D__law_hides⟩ := c.def_ 41 (d := dd "_law_hides" st__law_hides) rfl
  obtain ⟨fd__law_ways, D__law_ways⟩ := c.def_ 42 (d := dd "_law_ways" st__law_ways) rfl
  obtain ⟨fd__law_first, D__law_first⟩ := c.def_ 43 (d := dd "_law_first" st__law_first) rfl
  obtain ⟨fd__law_row, D__law_row⟩ := c.def_ 44 (d := dd "_law_row" st__law_row) rfl
  obtain ⟨fd__law_right, D__law_right⟩ := c.def_ 45 (d := dd "_law_right" st__law_right) rfl
  obtain ⟨fd_law, D_law⟩ := c.def_ 46 (d := dd "law" st_law) rfl
  refine ⟨fd_law, D_law, He.glo_ok X G (c.fact 46 (f := .glo "law") rfl), fun base => ?_⟩
  have c_is_name : Fc P w K mg base "is_name" 1 ["thing"] (frz F_is_name) := Fc.frz (fc_mk (st := st_is_name) X G D_is_name (ok_is_name (fun_of D_is_name) T (by first | exact fsp_len fun _ => rfl | exact fsq_len fun _ => rfl) pu_is_name) (c.fact 0 (f := .glo "is_name") rfl) fun _ _ _ _ _ _ us hl => match us, hl with | [_], _ => rfl)
  have c_label_at : Fc P w K mg base "label_at" 1 ["net", "mark"] (frz F_label) := Fc.frz (fc_mk (st := st_label_at) X G D_label_at (ok_label_at (fun_of D_label_at) T (by first | exact fsp_len fun _ => rfl | exact fsq_len fun _ => rfl) pu_label_at) (c.fact 1 (f := .glo "label_at") rfl) fun _ _ _ _ _ _ us hl => match us, hl with | [_, _], _ => rfl)
  have c_is_better : Fc P w K mg base "is_better" 1 ["table", "one", "other"] (frz F_is_better) := Fc.frz (fc_mk (st := st_is_better) X G D_is_better (ok_is_better (fun_of D_is_better) T (by first | exact fsp_len fun _ => rfl | exact fsq_len fun _ => rfl) pu_is_better) (c.fact 2 (f := .glo "is_better") rfl) fun _ _ _ _ _ _ us hl => match us, hl with | [_, _, _], _ => rfl)
  have c_nexts : Fc P w K mg base "nexts" 1 ["pairs", "label"] (frz F_nexts) := Fc.frz (fc_mk (st := st_nexts) X G D_nexts (ok_nexts (fun_of D_nexts) T (by first | exact fsp_len fun _ => rfl | exact fsq_len fun _ => rfl) pu_nexts) (c.fact 9 (f := .glo "nexts") rfl) fun _ _ _ _ _ _ us hl => match us, hl with | [_, _], _ => rfl)
  have c_labels_ahead : Fc P w K mg base "labels_ahead" 1 ["pairs"] (frz F_labels_ahead) := Fc.frz (fc_mk (st := st_labels_ahead) X G D_labels_ahead (ok_labels_ahead (fun_of D_labels_ahead) T (by first | exact fsp_len fun _ => rfl | exact fsq_len fun _ => rfl) pu_labels_ahead) (c.fact 12 (f := .glo "labels_ahead") rfl) fun _ _ _ _ _ _ us hl => match us, hl with | [_], _ => rfl)
  have c_too_great : Fc P w K mg base "too_great" 1 ["states", "pairs"] (frz F_too_great) := Fc.frz (fc_mk (st := st_too_great) X G D_too_great (ok_too_great (fun_of D_too_great) T (by first | exact fsp_len fun _ => rfl | exact fsq_len fun _ => rfl) pu_too_great) (c.fact 14 (f := .glo "too_great") rfl) fun _ _ _ _ _ _ us hl => match us, hl with | [_, _], _ => rfl)
  have c_labels_in : Fc P w K mg base "labels_in" 1 ["states", "pairs"] (frz F_labels_in) := Fc.frz (fc_mk (st := st_labels_in) X G D_labels_in (ok_labels_in (fun_of D_labels_in) T (by first | exact fsp_len fun _ => rfl | exact fsq_len fun _ => rfl) pu_labels_in) (c.fact 15 (f := .glo "labels_in") rfl) fun _ _ _ _ _ _ us hl => match us, hl with | [_, _], _ => rfl)
  have c_numbers_in : Fc P w K mg base "numbers_in" 1 ["states", "inner"] (frz F_numbers_in) := Fc.frz (fc_mk (st := st_numbers_in) X G D_numbers_in (ok_numbers_in (fun_of D_numbers_in) T (by first | exact fsp_len fun _ => rfl | exact fsq_len fun _ => rfl) pu_numbers_in) (c.fact 16 (f := .glo "numbers_in") rfl) fun _ _ _ _ _ _ us hl => match us, hl with | [_, _], _ => rfl)
  have c_has_double : Fc P w K mg base "has_double" 1 ["labels"] (frz F_has_double) := Fc.frz (fc_mk (st := st_has_double) X G D_has_double (ok_has_double (fun_of D_has_double) T (by first | exact fsp_len fun _ => rfl | exact fsq_len fun _ => rfl) pu_has_double) (c.fact 17 (f := .glo "has_double") rfl) fun _ _ _ _ _ _ us hl => match us, hl with | [_], _ => rfl)
  have c_next_state : Fc P w K mg base "next_state" 1 ["table", "state", "label"] (frz F_next) := Fc.frz (fc_mk (st := st_next_state) X G D_next_state (ok_next_state (fun_of D_next_state) T (by first | exact fsp_len fun _ => rfl | exact fsq_len fun _ => rfl) pu_next_state) (c.fact 19 (f := .glo "next_state") rfl) fun _ _ _ _ _ _ us hl => match us, hl with | [_, _, _], _ => rfl)
  have c_has_end : Fc P w K mg base "has_end" 1 ["table", "state", "label"] (frz F_ends) := Fc.frz (fc_mk (st := st_has_end) X G D_has_end (ok_has_end (fun_of D_has_end) T (by first | exact fsp_len fun _ => rfl | exact fsq_len fun _ => rfl) pu_has_end) (c.fact 20 (f := .glo "has_end") rfl) fun _ _ _ _ _ _ us hl => match us, hl with | [_, _, _], _ => rfl)
  have c_inside : Fc P w K mg base "inside" 1 ["net", "answers", "thing"] (frz F_inside) := Fc.frz (fc_mk (st := st_inside) X G D_inside (ok_inside (fun_of D_inside) T (by first | exact fsp_len fun _ => rfl | exact fsq_len fun _ => rfl) pu_inside) (c.fact 22 (f := .glo "inside") rfl) fun _ _ _ _ _ _ us hl => match us, hl with | [_, _, _], _ => rfl)
  have c__law_cell_at : Fc P w K mg base "_law_cell_at" 1 ["_law_script", "_law_k"] (frz F_cell) := Fc.frz (fc_mk (st := st__law_cell_at) X G D__law_cell_at (ok__law_cell_at (fun_of D__law_cell_at) T (by first | exact fsp_len fun _ => rfl | exact fsq_len fun _ => rfl) pu_cell) (c.fact 28 (f := .glo "_law_cell_at") rfl) fun _ _ _ _ _ _ us hl => match us, hl with | [_, _], _ => rfl)
  have c__law_words : Fc P w K mg base "_law_words" 1 ["_law_cell", "_law_many"] (frz F_words) := Fc.frz (fc_mk (st := st__law_words) X G D__law_words (ok__law_words (fun_of D__law_words) T (by first | exact fsp_len fun _ => rfl | exact fsq_len fun _ => rfl) pu_words) (c.fact 29 (f := .glo "_law_words") rfl) fun _ _ _ _ _ _ us hl => match us, hl with | [_, _], _ => rfl)
  have c__law_stream : Fc P w K mg base "_law_stream" 1 ["_law_cell", "_law_many"] (frz F_stream) := Fc.frz (fc_mk (st := st__law_stream) X G D__law_stream (ok__law_stream (fun_of D__law_stream) T (by first | exact fsp_len fun _ => rfl | exact fsq_len fun _ => rfl) pu_stream) (c.fact 30 (f := .glo "_law_stream") rfl) fun _ _ _ _ _ _ us hl => match us, hl with | [_, _], _ => rfl)
  have c__law_under : Fc P w K mg base "_law_under" 1 ["_law_one", "_law_other"] (frz F_under) := Fc.frz (fc_mk (st := st__law_under) X G D__law_under (ok__law_under (fun_of D__law_under) T (by first | exact fsp_len fun _ => rfl | exact fsq_len fun _ => rfl) pu_under) (c.fact 31 (f := .glo "_law_under") rfl) fun _ _ _ _ _ _ us hl => match us, hl with | [_, _], _ => rfl)
  have c__law_lay : Fc P w K mg base "_law_lay" 1 ["_law_net", "_law_labels", "_law_words_here", "_law_cell"] (F_lay) := (fc_mk (st := st__law_lay) X G D__law_lay (ok__law_lay (fun_of D__law_lay) T (fsm_len fun a ds S h => by rw [h.ds]; rfl) pu_lay) (c.fact 36 (f := .glo "_law_lay") rfl) fun _ _ _ _ _ _ us hl => match us, hl with | [_, _, _, _], _ => rfl)
  have c__law_copy : Fc P w K mg base "_law_copy" 1 ["_law_parts"] (frz F_copy) := Fc.frz (fc_mk (st := st__law_copy) X G D__law_copy (ok__law_copy (fun_of D__law_copy) T (by first | exact fsp_len fun _ => rfl | exact fsq_len fun _ => rfl) pu_copy) (c.fact 38 (f := .glo "_law_copy") rfl) fun _ _ _ _ _ _ us hl => match us, hl with | [_], _ => rfl)
  have c__law_copy_table : Fc P w K mg base "_law_copy_table" 1 ["_law_table_here"] (frz F_copy_table) := Fc.frz (fc_mk (st := st__law_copy_table) X G D__law_copy_table (ok__law_copy_table (fun_of D__law_copy_table) T (by first | exact fsp_len fun _ => rfl | exact fsq_len fun _ => rfl) pu_copy_table) (c.fact 39 (f := .glo "_law_copy_table") rfl) fun _ _ _ _ _ _ us hl => match us, hl with | [_], _ => rfl)
  have c__law_label : Fc P w K mg base "_law_label" 1 ["_law_net", "_law_mark"] (frz F_label) := Fc.frz (fc_mk (st := st__law_label) X G D__law_label (ok__law_label (fun_of D__law_label) T (by first | exact fsp_len fun _ => rfl | exact fsq_len fun _ => rfl) pu_law_label) (c.fact 40 (f := .glo "_law_label") rfl) fun _ _ _ _ _ _ us hl => match us, hl with | [_, _], _ => rfl)
  have c_hides : Fc P w K mg base "hides" 2 ["net", "table", "one", "other"] (frz F_hides) := Fc.frz (fc_mk (st := st_hides) X G D_hides (ok_hides (fun_of D_hides) T c_label_at c_is_better (by first | exact fsp_len fun _ => rfl | exact fsq_len fun _ => rfl) pu_hides) (c.fact 3 (f := .glo "hides") rfl) fun _ _ _ _ _ _ us hl => match us, hl with | [_, _, _, _], _ => rfl)
  have c_labels_behind : Fc P w K mg base "labels_behind" 2 ["net", "ways"] (F_labels_behind (fun k => k.hash w)) := (fc_mk (st := st_labels_behind) X G D_labels_behind (ok_labels_behind (fun_of D_labels_behind) T c_label_at (fsm_len fun a ds S h => by rw [h.ds]; rfl) pu_labels_behind) (c.fact 4 (f := .glo "labels_behind") rfl) fun _ _ _ _ _ _ us hl => match us, hl with | [_, _], _ => rfl)
  have c_none_hides : Fc P w K mg base "none_hides" 2 ["net", "table", "nexts_by", "way"] (F_none_hides (fun k => k.hash w)) := (fc_mk (st := st_none_hides) X G D_none_hides (ok_none_hides (fun_of D_none_hides) T c_label_at c_is_better (fsm_len fun a ds S h => by rw [h.ds]; rfl) pu_none_hides) (c.fact 5 (f := .glo "none_hides") rfl) fun _ _ _ _ _ _ us hl => match us, hl with | [_, _, _, _], _ => rfl)
  have c_below : Fc P w K mg base "below" 2 ["pairs", "label"] (frz F_below) := Fc.frz (fc_mk (st := st_below) X G D_below (ok_below (fun_of D_below) T c_nexts (by first | exact fsp_len fun _ => rfl | exact fsq_len fun _ => rfl) pu_below) (c.fact 10 (f := .glo "below") rfl) fun _ _ _ _ _ _ us hl => match us, hl with | [_, _], _ => rfl)
  have c_chain : Fc P w K mg base "chain" 2 ["pairs", "one", "other"] (frz F_chain) := Fc.frz (fc_mk (st := st_chain) X G D_chain (ok_chain (fun_of D_chain) T c_nexts (by first | exact fsp_len fun _ => rfl | exact fsq_len fun _ => rfl) pu_chain) (c.fact 11 (f := .glo "chain") rfl) fun _ _ _ _ _ _ us hl => match us, hl with | [_, _, _], _ => rfl)
  have c_goal : Fc P w K mg base "goal" 2 ["net", "answers", "step"] (frz F_goal) := Fc.frz (fc_mk (st := st_goal) X G D_goal (ok_goal (fun_of D_goal) T c_inside (by first | exact fsp_len fun _ => rfl | exact fsq_len fun _ => rfl) pu_goal) (c.fact 23 (f := .glo "goal") rfl) fun _ _ _ _ _ _ us hl => match us, hl with | [_, _, _], _ => rfl)
  have c__law_table : Fc P w K mg base "_law_table" 2 ["_law_cell", "_law_labels"] (frz F_table) := Fc.frz (fc_mk (st := st__law_table) X G D__law_table (ok__law_table (fun_of D__law_table) T c__law_stream c__law_under (by first | exact fsp_len fun _ => rfl | exact fsq_len fun _ => rfl) pu_table) (c.fact 32 (f := .glo "_law_table") rfl) fun _ _ _ _ _ _ us hl => match us, hl with | [_, _], _ => rfl)
  have c__law_things : Fc P w K mg base "_law_things" 2 ["_law_cell", "_law_many", "_law_scopes", "_law_questions_here"] (frz F_things) := Fc.frz (fc_mk (st := st__law_things) X G D__law_things (ok__law_things (fun_of D__law_things) T c__law_stream (by first | exact fsp_len fun _ => rfl | exact fsq_len fun _ => rfl) pu_things) (c.fact 33 (f := .glo "_law_things") rfl) fun _ _ _ _ _ _ us hl => match us, hl with | [_, _, _, _], _ => rfl)
  have c__law_questions : Fc P w K mg base "_law_questions" 2 ["_law_cell", "_law_many", "_law_scopes", "_law_states", "_law_words_here"] (frz F_questions) := Fc.frz (fc_mk (st := st__law_questions) X G D__law_questions (ok__law_questions (fun_of D__law_questions) T c__law_stream (by first | exact fsp_len fun _ => rfl | exact fsq_len fun _ => rfl) pu_questions) (c.fact 34 (f := .glo "_law_questions") rfl) fun _ _ _ _ _ _ us hl => match us, hl with | [_, _, _, _, _], _ => rfl)
  have c__law_answers : Fc P w K mg base "_law_answers" 2 ["_law_cell", "_law_net"] (frr F_answers) := Fc.frr (fc_mk (st := st__law_answers) X G D__law_answers (ok__law_answers (fun_of D__law_answers) T c__law_stream (by first | exact fsr_len fun _ => rfl | exact fsrq_len fun _ => rfl | exact fsrX_len fun _ => rfl) pu_answers) (c.fact 35 (f := .glo "_law_answers") rfl) fun _ _ _ _ _ _ us hl => match us, hl with | [_, _], _ => rfl)
  have c__law_hides : Fc P w K mg base "_law_hides" 2 ["_law_net", "_law_table_here", "_law_one", "_law_other"] (frz F_hides) := Fc.frz (fc_mk (st := st__law_hides) X G D__law_hides (ok__law_hides (fun_of D__law_hides) T c__law_label (by first | exact fsp_len fun _ => rfl | exact fsq_len fun _ => rfl) pu_law_hides) (c.fact 41 (f := .glo "_law_hides") rfl) fun _ _ _ _ _ _ us hl => match us, hl with | [_, _, _, _], _ => rfl)
  have c_seen_ways : Fc P w K mg base "seen_ways" 3 ["net", "table", "ways"] (frz F_seenZ) := Fc.frz (fc_mk (st := st_seen_ways) X G D_seen_ways (ok_seen_ways (fun_of D_seen_ways) T c_labels_behind c_none_hides (by first | exact fsp_len fun _ => rfl | exact fsq_len fun _ => rfl) pu_seenZ) (c.fact 6 (f := .glo "seen_ways") rfl) fun _ _ _ _ _ _ us hl => match us, hl with | [_, _, _], _ => rfl)
  have c_first_that_hides : Fc P w K mg base "first_that_hides" 3 ["net", "table", "ways", "other"] (frr F_first) := Fc.frr (fc_mk (st := st_first_that_hides) X G D_first_that_hides (ok_first_that_hides (fun_of D_first_that_hides) T c_hides (by first | exact fsr_len fun _ => rfl | exact fsrq_len fun _ => rfl | exact fsrX_len fun _ => rfl) pu_first_that_hides) (c.fact 7 (f := .glo "first_that_hides") rfl) fun _ _ _ _ _ _ us hl => match us, hl with | [_, _, _, _], _ => rfl)
  have c_order_of : Fc P w K mg base "order_of" 3 ["pairs"] (frr F_order_of) := Fc.frr (fc_mk (st := st_order_of) X G D_order_of (ok_order_of (fun_of D_order_of) T c_labels_ahead c_below c_chain (by first | exact fsr_len fun _ => rfl | exact fsrq_len fun _ => rfl | exact fsrX_len fun _ => rfl) pu_order_of) (c.fact 13 (f := .glo "order_of") rfl) fun _ _ _ _ _ _ us hl => match us, hl with | [_], _ => rfl)
  have c_one_step_longer : Fc P w K mg base "one_step_longer" 3 ["net", "answers", "table", "beginning"] (frr F_longer) := Fc.frr (fc_mk (st := st_one_step_longer) X G D_one_step_longer (ok_one_step_longer (fun_of D_one_step_longer) T c_next_state c_goal (by first | exact fsr_len fun _ => rfl | exact fsrq_len fun _ => rfl | exact fsrX_len fun _ => rfl) pu_one_step_longer) (c.fact 24 (f := .glo "one_step_longer") rfl) fun _ _ _ _ _ _ us hl => match us, hl with | [_, _, _, _], _ => rfl)
  have c__law_first : Fc P w K mg base "_law_first" 3 ["_law_net", "_law_table_here", "_law_shown", "_law_way"] (F_lfirst) := (fc_mk (st := st__law_first) X G D__law_first (ok__law_first (fun_of D__law_first) T c__law_hides (fsm_len fun a ds S h => by rw [h.ds]; rfl) pu_lfirst) (c.fact 43 (f := .glo "_law_first") rfl) fun _ _ _ _ _ _ us hl => match us, hl with | [_, _, _, _], _ => rfl)
  have c_hidden_ways : Fc P w K mg base "hidden_ways" 4 ["net", "table", "ways"] (frr F_hidden) := Fc.frr (fc_mk (st := st_hidden_ways) X G D_hidden_ways (ok_hidden_ways (fun_of D_hidden_ways) T c_labels_behind c_none_hides c_first_that_hides (by first | exact fsr_len fun _ => rfl | exact fsrq_len fun _ => rfl | exact fsrX_len fun _ => rfl) pu_hidden_ways) (c.fact 8 (f := .glo "hidden_ways") rfl) fun _ _ _ _ _ _ us hl => match us, hl with | [_, _, _], _ => rfl)
  have c_table_of : Fc P w K mg base "table_of" 4 ["states", "inner", "pairs"] (frr F_table_of) := Fc.frr (fc_mk (st := st_table_of) X G D_table_of (ok_table_of (fun_of D_table_of) T c_too_great c_labels_in c_is_name c_numbers_in c_has_double c_order_of (by first | exact fsr_len fun _ => rfl | exact fsrq_len fun _ => rfl | exact fsrX_len fun _ => rfl) pu_table_of) (c.fact 18 (f := .glo "table_of") rfl) fun _ _ _ _ _ _ us hl => match us, hl with | [_, _, _], _ => rfl)
  have c_beginnings : Fc P w K mg base "beginnings" 4 ["net", "answers", "table", "scope", "state"] (frz F_begZ) := Fc.frz (fc_mk (st := st_beginnings) X G D_beginnings (ok_beginnings (fun_of D_beginnings) T c_one_step_longer (by first | exact fsp_len fun _ => rfl | exact fsq_len fun _ => rfl) pu_begZ) (c.fact 25 (f := .glo "beginnings") rfl) fun _ _ _ _ _ _ us hl => match us, hl with | [_, _, _, _, _], _ => rfl)
  have c__law_row : Fc P w K mg base "_law_row" 4 ["_law_net", "_law_table_here", "_law_shown", "_law_way", "_law_row_here"] (frz F_row) := Fc.frz (fc_mk (st := st__law_row) X G D__law_row (ok__law_row (fun_of D__law_row) T c__law_first (by first | exact fsp_len fun _ => rfl | exact fsq_len fun _ => rfl) pu_row) (c.fact 44 (f := .glo "_law_row") rfl) fun _ _ _ _ _ _ us hl => match us, hl with | [_, _, _, _, _], _ => rfl)
  have c_usual : Fc P w K mg base "usual" 5 [] (frz F_usualZ) := Fc.frz (fc_mk (st := st_usual) X G D_usual (ok_usual (fun_of D_usual) T c_table_of (by first | exact fsp_len fun _ => rfl | exact fsq_len fun _ => rfl) pu_usualZ) (c.fact 21 (f := .glo "usual") rfl) fun _ _ _ _ _ _ us hl => match us, hl with | [], _ => rfl)
  have c_found_ways : Fc P w K mg base "found_ways" 5 ["net", "answers", "table", "scope", "state", "name"] (frz F_foundZ) := Fc.frz (fc_mk (st := st_found_ways) X G D_found_ways (ok_found_ways (fun_of D_found_ways) T c_beginnings c_has_end (by first | exact fsp_len fun _ => rfl | exact fsq_len fun _ => rfl) pu_foundZ) (c.fact 26 (f := .glo "found_ways") rfl) fun _ _ _ _ _ _ us hl => match us, hl with | [_, _, _, _, _, _], _ => rfl)
  have c_owed_ways : Fc P w K mg base "owed_ways" 5 ["net", "answers", "table", "scope", "state"] (frz F_owedZ) := Fc.frz (fc_mk (st := st_owed_ways) X G D_owed_ways (ok_owed_ways (fun_of D_owed_ways) T c_beginnings c_next_state c_goal (by first | exact fsp_len fun _ => rfl | exact fsq_len fun _ => rfl) pu_owedZ) (c.fact 27 (f := .glo "owed_ways") rfl) fun _ _ _ _ _ _ us hl => match us, hl with | [_, _, _, _, _], _ => rfl)
  have c__law_right : Fc P w K mg base "_law_right" 5 ["_law_net", "_law_table_here", "_law_ways_here"] (frz F_right) := Fc.frz (fc_mk (st := st__law_right) X G D__law_right (ok__law_right (fun_of D__law_right) T c__law_copy c__law_copy_table c_seen_ways c_hidden_ways c__law_row (by first | exact fsp_len fun _ => rfl | exact fsq_len fun _ => rfl) pu_right) (c.fact 45 (f := .glo "_law_right") rfl) fun _ _ _ _ _ _ us hl => match us, hl with | [_, _, _], _ => rfl)
  have c__law_case : Fc P w K mg base "_law_case" 6 ["_law_script"] (frr F_case) := Fc.frr (fc_mk (st := st__law_case) X G D__law_case (ok__law_case (fun_of D__law_case) T c__law_cell_at c__law_words c__law_table c_usual c__law_things c__law_questions c__law_lay c__law_answers (by first | exact fsr_len fun _ => rfl | exact fsrq_len fun _ => rfl | exact fsrX_len fun _ => rfl) pu_case) (c.fact 37 (f := .glo "_law_case") rfl) fun _ _ _ _ _ _ us hl => match us, hl with | [_], _ => rfl)
  have c__law_ways : Fc P w K mg base "_law_ways" 6 ["_law_net", "_law_answers_here", "_law_table_here", "_law_look", "_law_name", "_law_cell"] (frz F_ways) := Fc.frz (fc_mk (st := st__law_ways) X G D__law_ways (ok__law_ways (fun_of D__law_ways) T c_found_ways c_owed_ways (by first | exact fsp_len fun _ => rfl | exact fsq_len fun _ => rfl) pu_ways) (c.fact 42 (f := .glo "_law_ways") rfl) fun _ _ _ _ _ _ us hl => match us, hl with | [_, _, _, _, _, _], _ => rfl)
  exact ok_law (fun_of D_law) T c__law_case c__law_cell_at c__law_ways c__law_right c_hidden_ways (by rintro ds S K KX ⟨ns, rfl, _⟩; rfl) pu_law
end K27
open PySem PySem.W PySem.Calls PyProof.Rows
set_option maxRecDepth 100000 in
set_option maxHeartbeats 0 in
theorem PySem.Challenge.cw_namepaths_k27_hidden_ways_and_what_hides_holds : PySem.Challenge.rw_namepaths_k27_hidden_ways_and_what_hides.Holds := by
  w_on; o_law
  refine HandSHeadRun.head_any (r := OpenLaw.row PySem.Challenge.rw_namepaths_k27_hidden_ways_and_what_hides) (q := view (OpenLaw.row PySem.Challenge.rw_namepaths_k27_hidden_ways_and_what_hides).prog [67]) (H := K27.hk) (ob := K27.ob) (M := 8000) (loose := K27.loose) (d := HandSHeadRun.topDef (OpenLaw.row PySem.Challenge.rw_namepaths_k27_hidden_ways_and_what_hides).prog 67) (kwd := []) K27.ob_eq
    (by kernel_rfl) (fun s => by kernel_rfl) K27.run (by kernel_rfl) (by kernel_rfl) (by kernel_rfl) (by rfl) (by first | assumption | decide +kernel) (by decide +kernel) ⟨rfl, rfl, rfl, rfl, rfl, by decide +kernel⟩ ?hw ?hc
  case hw => w_witness2
  case hc =>
    refine PL.pl_end (l := PySem.Challenge.rw_namepaths_k27_hidden_ways_and_what_hides) (k := 7) (x := "_law_script") (st := K27.st_law) rfl (by kernel_rfl) (by kernel_rfl) ⟨rfl, by decide, by decide⟩ (fun _ _ _ _ _ _ us hl => match us, hl with | [_], _ => rfl) ?_
    intro w K h mg KX G c
    exact K27.facts KX G c
#print axioms PySem.Challenge.cw_namepaths_k27_hidden_ways_and_what_hides_holds

