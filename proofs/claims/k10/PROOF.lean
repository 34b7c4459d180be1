import PyProof.Rows.All
import Wide.All
import OpenK.AllK
import Wide.FinOn
import HandS.ForMost
import HandS.ForExc
import HandS.Walk
import HandS.CallSlots
import HandS.Deep
import HandS.Flow
import HandS.IsInst
import HandS.More
import HandS.Small
import HandS.Zip
import HandS.Head0
import HandS.Head1
import HandS.Head2
import HandS.Defaults
import HandS.HeadEnd
import HandS.HeadHook1
import HandS.HeadHook2
import PySem.Challenge.RW_namepaths_k10_what_is_in_a_thing
import KE.KStateDown
set_option Elab.async false
set_option linter.all false
set_option maxRecDepth 100000
/-! PL, part 1: pure data over a numbered store; how they stand in the abstract heap -/
namespace PL
open PySem L2

/-- built-in types that are named -/
inductive Ty where
  | int | bool | str | list | tuple | dict | none
def Ty.s : Ty → String
  | .int => "int" | .bool => "bool" | .str => "str" | .list => "list" | .tuple => "tuple" | .dict => "dict" | .none => "NoneType"
/-- a value: z frozen data for good, b data lent by a caller, r the n-th object of the store, t a tuple of such, o an address that is just handed about (a class, an exception) -/
inductive D where
  | z (d : PyData) | b (d : PyData) | r (n : Nat) | t (ds : List D) | o (a : Addr) | y (T : Ty)
/-- an object of the store -/
inductive Ob where
  | lst (ds : List D)
  | dic (kvs : List (Key × D))
abbrev Env := List (Option D)
abbrev Sto := List Ob
/-- an exception: its class, its fields (where it has its own __init__) -/
structure Ex where
  c : Value
  fs : Option (List (Str × D))

def Sub (H H' : Hp) : Prop := ∀ a o, H a = some o → H' a = some o
theorem Sub.refl (H : Hp) : Sub H H := fun _ _ h => h
theorem Sub.trans {H H1 H2 : Hp} (a : Sub H H1) (b : Sub H1 H2) : Sub H H2 := fun c o h => b c o (a c o h)
theorem Sub.non {H H' : Hp} (e : Sub H H') {a : Addr} (h : H' a = none) : H a = none := by
  cases q : H a with
  | none => rfl
  | some o => rw [e a o q] at h; cases h
theorem Sub.new {H : Hp} {p : Addr} {o : HO} (h : H p = none) : Sub H (upd H p o) := fun a u e => by
  rw [upd_ne (ne_of_none e h)]; exact e
theorem Sub.up {H H' : Hp} {p : Addr} {o : HO} (e : Sub H H') (h : H p = none) : Sub H (upd H' p o) := fun a u ha => by
  rw [upd_ne (ne_of_none ha h)]; exact e a u ha
theorem Sub.up2 {F H : Hp} {p : Addr} {o : HO} (e : Sub F H) : Sub (upd F p o) (upd H p o) := fun a u ha => by
  by_cases h : a = p
  · subst h; rw [upd_same] at ha ⊢; exact ha
  · rw [upd_ne h] at ha ⊢; exact e a u ha
theorem Sub.rd {H H' : Hp} {a : Addr} {u : HO} (e : Sub H H') (h : Rd H a u) : Rd H' a u := by
  rcases h with h | ⟨o, h⟩
  · exact .inl (e a _ h)
  · exact .inr ⟨o, e a _ h⟩

/-! ### data -/
abbrev Lk := Addr → List V → Prop
mutual
inductive RpT (L T : Lk) : PyData → V → Prop
  | non : RpT L T .none .non
  | bl (b : Bool) : RpT L T (.bool b) (.bl b)
  | int (i : Int) : RpT L T (.int i) (.int i)
  | str (x : Str) : RpT L T (.str x) (.str x)
  | lst {a : Addr} {vs : List V} {ds : List PyData} : L a vs → RpTs L T ds vs → RpT L T (.list ds) (.ref a)
  | tup {a : Addr} {vs : List V} {ds : List PyData} : T a vs → RpTs L T ds vs → RpT L T (.tuple ds) (.ref a)
inductive RpTs (L T : Lk) : List PyData → List V → Prop
  | nil : RpTs L T [] []
  | cons {d : PyData} {ds : List PyData} {v : V} {vs : List V} : RpT L T d v → RpTs L T ds vs → RpTs L T (d :: ds) (v :: vs)
end
section
variable {L T L' T' : Lk}
mutual
theorem RpT.mono (hl : ∀ a vs, L a vs → L' a vs) (ht : ∀ a vs, T a vs → T' a vs) : ∀ (d : PyData) (v : V), RpT L T d v → RpT L' T' d v
  | .none, _, h => by cases h; exact .non
  | .bool _, _, h => by cases h; exact .bl _
  | .int _, _, h => by cases h; exact .int _
  | .str _, _, h => by cases h; exact .str _
  | .list ds, _, h => by cases h with | lst a b => exact .lst (hl _ _ a) (RpTs.mono hl ht ds _ b)
  | .tuple ds, _, h => by cases h with | tup a b => exact .tup (ht _ _ a) (RpTs.mono hl ht ds _ b)
  | .dict _, _, h => by cases h
theorem RpTs.mono (hl : ∀ a vs, L a vs → L' a vs) (ht : ∀ a vs, T a vs → T' a vs) : ∀ (ds : List PyData) (vs : List V), RpTs L T ds vs → RpTs L' T' ds vs
  | [], _, h => by cases h; exact .nil
  | d :: ds, _, h => by cases h with | cons a b => exact .cons (RpT.mono hl ht d _ a) (RpTs.mono hl ht ds _ b)
end
/-! no list within -/
mutual
def flatT : PyData → Bool
  | .list _ => false
  | .tuple ds => flatTs ds
  | .dict _ => false
  | _ => true
def flatTs : List PyData → Bool
  | [] => true
  | d :: ds => flatT d && flatTs ds
end
mutual
theorem RpT.flat (ht : ∀ a vs, T a vs → T' a vs) : ∀ (d : PyData) (v : V), flatT d = true → RpT L T d v → RpT L' T' d v
  | .none, _, _, h => by cases h; exact .non
  | .bool _, _, _, h => by cases h; exact .bl _
  | .int _, _, _, h => by cases h; exact .int _
  | .str _, _, _, h => by cases h; exact .str _
  | .list ds, _, f, _ => by simp [flatT] at f
  | .tuple ds, _, f, h => by cases h with | tup a b => exact .tup (ht _ _ a) (RpTs.flat ht ds _ (by simpa [flatT] using f) b)
  | .dict _, _, _, h => by cases h
theorem RpTs.flat (ht : ∀ a vs, T a vs → T' a vs) : ∀ (ds : List PyData) (vs : List V), flatTs ds = true → RpTs L T ds vs → RpTs L' T' ds vs
  | [], _, _, h => by cases h; exact .nil
  | d :: ds, _, f, h => by
    simp only [flatTs, Bool.and_eq_true] at f
    cases h with | cons a b => exact .cons (RpT.flat ht d _ f.1 a) (RpTs.flat ht ds _ f.2 b)
end
theorem RpTs.length : ∀ {ds : List PyData} {vs : List V}, RpTs L T ds vs → ds.length = vs.length
  | [], _, h => by cases h; rfl
  | d :: ds, _, h => by cases h with | cons a b => simp [RpTs.length b]
theorem RpTs.get : ∀ {ds : List PyData} {vs : List V} {i : Nat} {d : PyData}, RpTs L T ds vs → ds[i]? = some d → ∃ v, vs[i]? = some v ∧ RpT L T d v
  | [], _, _, _, _, e => by simp at e
  | d :: ds, _, 0, _, h, e => by cases h with | cons a b => simp at e; subst e; exact ⟨_, rfl, a⟩
  | d :: ds, _, i + 1, x, h, e => by
    cases h with
    | cons a b =>
      obtain ⟨v, h1, h2⟩ := RpTs.get (i := i) (d := x) b (by simpa using e)
      exact ⟨v, by simpa using h1, h2⟩
end

def LF (F : Hp) : Lk := fun a vs => F a = some (.lst vs)
def TF (F : Hp) : Lk := fun a vs => F a = some (.tup vs)
def LB (B F : Hp) : Lk := fun a vs => Rd F a (.lst vs) ∨ Rd B a (.lst vs)
mutual
inductive RpD (B F : Hp) (μ : Nat → Addr) (n : Nat) : D → V → Prop
  | z {d : PyData} {v : V} : RpT (LF F) (TF F) d v → RpD B F μ n (.z d) v
  | b {d : PyData} {v : V} : RpT (LB B F) (TF F) d v → RpD B F μ n (.b d) v
  | r {i : Nat} : i < n → RpD B F μ n (.r i) (.ref (μ i))
  | t {a : Addr} {ds : List D} {vs : List V} : F a = some (.tup vs) → RpDs B F μ n ds vs → RpD B F μ n (.t ds) (.ref a)
  | o {a : Addr} : RpD B F μ n (.o a) (.ref a)
  | y {T : Ty} : RpD B F μ n (.y T) (.ty T.s)
inductive RpDs (B F : Hp) (μ : Nat → Addr) (n : Nat) : List D → List V → Prop
  | nil : RpDs B F μ n [] []
  | cons {d : D} {ds : List D} {v : V} {vs : List V} : RpD B F μ n d v → RpDs B F μ n ds vs → RpDs B F μ n (d :: ds) (v :: vs)
end
section
variable {B F F' : Hp} {μ μ' : Nat → Addr} {n n' : Nat}
mutual
theorem RpD.mono (hF : Sub F F') (hn : n ≤ n') (hm : ∀ i, i < n → μ' i = μ i) : ∀ (d : D) (v : V), RpD B F μ n d v → RpD B F' μ' n' d v
  | .z d, _, h => by cases h with | z a => exact .z (RpT.mono (fun _ _ q => hF _ _ q) (fun _ _ q => hF _ _ q) _ _ a)
  | .b d, _, h => by
    cases h with
    | b a =>
      refine .b (RpT.mono (fun _ _ q => ?_) (fun _ _ q => hF _ _ q) _ _ a)
      rcases q with q | q
      · exact .inl (hF.rd q)
      · exact .inr q
  | .r i, _, h => by cases h with | r a => rw [← hm i a]; exact .r (Nat.lt_of_lt_of_le a hn)
  | .t ds, _, h => by cases h with | t a b => exact .t (hF _ _ a) (RpDs.mono hF hn hm ds _ b)
  | .o a, _, h => by cases h; exact .o
  | .y a, _, h => by cases h; exact .y
theorem RpDs.mono (hF : Sub F F') (hn : n ≤ n') (hm : ∀ i, i < n → μ' i = μ i) : ∀ (ds : List D) (vs : List V), RpDs B F μ n ds vs → RpDs B F' μ' n' ds vs
  | [], _, h => by cases h; exact .nil
  | d :: ds, _, h => by cases h with | cons a b => exact .cons (RpD.mono hF hn hm d _ a) (RpDs.mono hF hn hm ds _ b)
end
theorem RpDs.length : ∀ {ds : List D} {vs : List V}, RpDs B F μ n ds vs → ds.length = vs.length
  | [], _, h => by cases h; rfl
  | d :: ds, _, h => by cases h with | cons a b => simp [RpDs.length b]
theorem RpDs.get : ∀ {ds : List D} {vs : List V} {i : Nat} {d : D}, RpDs B F μ n ds vs → ds[i]? = some d → ∃ v, vs[i]? = some v ∧ RpD B F μ n d v
  | [], _, _, _, _, e => by simp at e
  | d :: ds, _, 0, _, h, e => by cases h with | cons a b => simp at e; subst e; exact ⟨_, rfl, a⟩
  | d :: ds, _, i + 1, x, h, e => by
    cases h with
    | cons a b =>
      obtain ⟨v, h1, h2⟩ := RpDs.get (i := i) (d := x) b (by simpa using e)
      exact ⟨v, by simpa using h1, h2⟩
theorem RpDs.getV : ∀ {ds : List D} {vs : List V} {i : Nat} {v : V}, RpDs B F μ n ds vs → vs[i]? = some v → ∃ d, ds[i]? = some d ∧ RpD B F μ n d v
  | [], _, _, _, h, e => by cases h; simp at e
  | d :: ds, _, 0, _, h, e => by cases h with | cons a b => simp at e; subst e; exact ⟨_, rfl, a⟩
  | d :: ds, _, i + 1, x, h, e => by
    cases h with
    | cons a b =>
      obtain ⟨v, h1, h2⟩ := RpDs.getV (i := i) (v := x) b (by simpa using e)
      exact ⟨v, by simpa using h1, h2⟩
theorem RpDs.append : ∀ {ds es : List D} {vs us : List V}, RpDs B F μ n ds vs → RpDs B F μ n es us → RpDs B F μ n (ds ++ es) (vs ++ us)
  | [], _, _, _, h, k => by cases h; exact k
  | d :: ds, _, _, _, h, k => by cases h with | cons a b => exact .cons a (RpDs.append b k)
theorem RpDs.take : ∀ {ds : List D} {vs : List V} (k : Nat), RpDs B F μ n ds vs → RpDs B F μ n (ds.take k) (vs.take k)
  | _, _, 0, _ => .nil
  | [], _, _ + 1, h => by cases h; exact .nil
  | d :: ds, _, k + 1, h => by cases h with | cons a b => exact .cons a (RpDs.take k b)
theorem RpDs.drop : ∀ {ds : List D} {vs : List V} (k : Nat), RpDs B F μ n ds vs → RpDs B F μ n (ds.drop k) (vs.drop k)
  | _, _, 0, h => h
  | [], _, _ + 1, h => by cases h; exact .nil
  | d :: ds, _, k + 1, h => by cases h with | cons a b => exact RpDs.drop k b
theorem RpDs.set {d : D} {v : V} (hd : RpD B F μ n d v) : ∀ {ds : List D} {vs : List V} (k : Nat), RpDs B F μ n ds vs → RpDs B F μ n (ds.set k d) (vs.set k v)
  | [], _, _, h => by cases h; exact .nil
  | e :: ds, _, 0, h => by cases h with | cons a b => exact .cons hd b
  | e :: ds, _, k + 1, h => by cases h with | cons a b => exact .cons a (RpDs.set hd k b)
theorem RpDs.erase : ∀ {ds : List D} {vs : List V} (k : Nat), RpDs B F μ n ds vs → RpDs B F μ n (ds.eraseIdx k) (vs.eraseIdx k)
  | [], _, _, h => by cases h; exact .nil
  | e :: ds, _, 0, h => by cases h with | cons a b => exact b
  | e :: ds, _, k + 1, h => by cases h with | cons a b => exact .cons a (RpDs.erase k b)
theorem RpDs.rev {ds : List D} {vs : List V} (h : RpDs B F μ n ds vs) : RpDs B F μ n ds.reverse vs.reverse := by
  induction ds generalizing vs with
  | nil => cases h; exact .nil
  | cons d ds ih => cases h with | cons a b => rw [List.reverse_cons, List.reverse_cons]; exact (ih b).append (.cons a .nil)
theorem RpDs.dropLast {ds : List D} {vs : List V} (h : RpDs B F μ n ds vs) : RpDs B F μ n ds.dropLast vs.dropLast := by
  rw [List.dropLast_eq_take, List.dropLast_eq_take, h.length]
  exact h.take _
/-- frozen data as a row of values -/
theorem RpDs.zs : ∀ {ds : List PyData} {vs : List V}, RpTs (LF F) (TF F) ds vs → RpDs B F μ n (ds.map .z) vs
  | [], _, h => by cases h; exact .nil
  | d :: ds, _, h => by cases h with | cons a b => exact .cons (.z a) (RpDs.zs b)
/-- lent data: what has no list in it is for good -/
def bz (d : PyData) : D := if flatT d = true then .z d else .b d
theorem RpD.bz {d : PyData} {v : V} (h : RpT (LB B F) (TF F) d v) : RpD B F μ n (bz d) v := by
  unfold PL.bz
  split
  · rename_i f
    exact .z (RpT.flat (fun _ _ q => q) d v f h)
  · exact .b h
theorem RpDs.bzs : ∀ {ds : List PyData} {vs : List V}, RpTs (LB B F) (TF F) ds vs → RpDs B F μ n (ds.map PL.bz) vs
  | [], _, h => by cases h; exact .nil
  | d :: ds, _, h => by cases h with | cons a b => exact .cons (RpD.bz a) (RpDs.bzs b)
end

/-! ### an object of the store; the whole state -/
def ObRp (B F : Hp) (μ : Nat → Addr) (n : Nat) (H : Hp) (a : Addr) : Ob → Prop
  | .lst ds => ∃ vs, H a = some (.lst vs) ∧ RpDs B F μ n ds vs
  | .dic kvs => ∃ ws, H a = some (.dK ws) ∧ Paired (fun (p : Key × D) (q : Key × V) => p.1 = q.1 ∧ RpD B F μ n p.2 q.2) kvs ws
theorem ObRp.there {B F H : Hp} {μ : Nat → Addr} {n : Nat} {a : Addr} {o : Ob} (h : ObRp B F μ n H a o) : ∃ u, H a = some u ∧ Mut (some u) := by
  cases o with
  | lst ds => obtain ⟨vs, e, _⟩ := h; exact ⟨_, e, trivial⟩
  | dic kvs => obtain ⟨vs, e, _⟩ := h; exact ⟨_, e, trivial⟩
theorem ObRp.mono {B F F' H H' : Hp} {μ μ' : Nat → Addr} {n n' : Nat} {a : Addr} {o : Ob} (hF : Sub F F') (hn : n ≤ n') (hm : ∀ i, i < n → μ' i = μ i) (ha : H' a = H a) (h : ObRp B F μ n H a o) : ObRp B F' μ' n' H' a o := by
  cases o with
  | lst ds => obtain ⟨vs, e, r⟩ := h; exact ⟨vs, ha.trans e, RpDs.mono hF hn hm _ _ r⟩
  | dic kvs => obtain ⟨ws, e, r⟩ := h; exact ⟨ws, ha.trans e, Paired.mapP r fun p q z => ⟨z.1, RpD.mono hF hn hm _ _ z.2⟩⟩

/-- the state: B stays (all that stood at the def's entry but the store's own), F0 what was frozen for good at the entry, μ where the store's objects stand, F what is frozen for good -/
structure Rl (B F0 : Hp) (μ : Nat → Addr) (S : Sto) (F H : Hp) : Prop where
  bh : Sub B H
  fh : Sub F H
  f0 : Sub F0 F
  fn : ∀ a o, F a = some o → F0 a = some o ∨ B a = none
  inj : ∀ i j, i < S.length → j < S.length → μ i = μ j → i = j
  nb : ∀ i, i < S.length → B (μ i) = none
  nf : ∀ i, i < S.length → F (μ i) = none
  ob : ∀ i o, S[i]? = some o → ObRp B F μ S.length H (μ i) o
/-- a later state -/
structure Xt (μ : Nat → Addr) (S : Sto) (F : Hp) (μ' : Nat → Addr) (S' : Sto) (F' : Hp) : Prop where
  f : Sub F F'
  n : S.length ≤ S'.length
  m : ∀ i, i < S.length → μ' i = μ i
section
variable {B F0 F F' F'' H H' : Hp} {μ μ' μ'' : Nat → Addr} {S S' S'' : Sto}
theorem Xt.refl : Xt μ S F μ S F := ⟨Sub.refl _, Nat.le_refl _, fun _ _ => rfl⟩
theorem Xt.trans (a : Xt μ S F μ' S' F') (b : Xt μ' S' F' μ'' S'' F'') : Xt μ S F μ'' S'' F'' :=
  ⟨a.f.trans b.f, Nat.le_trans a.n b.n, fun i h => (b.m i (Nat.lt_of_lt_of_le h a.n)).trans (a.m i h)⟩
theorem RpD.xt {d : D} {v : V} (h : RpD B F μ S.length d v) (x : Xt μ S F μ' S' F') : RpD B F' μ' S'.length d v := RpD.mono x.f x.n x.m d v h
theorem RpDs.xt {d : List D} {v : List V} (h : RpDs B F μ S.length d v) (x : Xt μ S F μ' S' F') : RpDs B F' μ' S'.length d v := RpDs.mono x.f x.n x.m d v h
theorem Rl.there (R : Rl B F0 μ S F H) {i : Nat} {o : Ob} (h : S[i]? = some o) : ∃ u, H (μ i) = some u ∧ Mut (some u) := (R.ob i o h).there
theorem Rl.lt {i : Nat} {o : Ob} (h : S[i]? = some o) : i < S.length := (List.getElem?_eq_some_iff.mp h).1
theorem Rl.has (R : Rl B F0 μ S F H) {i : Nat} (h : i < S.length) : ∃ u, H (μ i) = some u := by
  obtain ⟨u, e, _⟩ := R.there (List.getElem?_eq_getElem h)
  exact ⟨u, e⟩
/-- a new object frozen for good -/
theorem Rl.froze (R : Rl B F0 μ S F H) {p : Addr} (u : HO) (hp : H p = none) : Rl B F0 μ S (upd F p u) (upd H p u) ∧ Xt μ S F μ S (upd F p u) := by
  have hF : F p = none := R.fh.non hp
  have hB : B p = none := R.bh.non hp
  have ne : ∀ i, i < S.length → μ i ≠ p := fun i hi e => by
    obtain ⟨o, ho⟩ := R.has hi
    rw [e, hp] at ho; cases ho
  refine ⟨⟨R.bh.trans (Sub.new hp), R.fh.up2, R.f0.trans (Sub.new hF), fun a o e => ?_, R.inj, R.nb, fun i hi => by rw [upd_ne (ne i hi)]; exact R.nf i hi, fun i o h => ?_⟩, ⟨Sub.new hF, Nat.le_refl _, fun _ _ => rfl⟩⟩
  · by_cases h : a = p
    · subst h; exact .inr hB
    · rw [upd_ne h] at e; exact R.fn a o e
  · exact (R.ob i o h).mono (Sub.new hF) (Nat.le_refl _) (fun _ _ => rfl) (by rw [upd_ne (ne i (Rl.lt h))])
/-- a new object of the store -/
def muX (μ : Nat → Addr) (n : Nat) (p : Addr) : Nat → Addr := fun i => if i = n then p else μ i
theorem Rl.grow (R : Rl B F0 μ S F H) {p : Addr} {u : HO} {o : Ob} (hp : H p = none) (ho : ∀ G : Hp, G p = some u → ObRp B F μ S.length G p o) : Rl B F0 (muX μ S.length p) (S ++ [o]) F (upd H p u) ∧ Xt μ S F (muX μ S.length p) (S ++ [o]) F := by
  have hF : F p = none := R.fh.non hp
  have hB : B p = none := R.bh.non hp
  have mo : ∀ i, i < S.length → muX μ S.length p i = μ i := fun i hi => by unfold muX; rw [if_neg (Nat.ne_of_lt hi)]
  have mn : muX μ S.length p S.length = p := by unfold muX; rw [if_pos rfl]
  have ne : ∀ i, i < S.length → μ i ≠ p := fun i hi e => by
    obtain ⟨o, ho⟩ := R.has hi
    rw [e, hp] at ho; cases ho
  have hl : (S ++ [o]).length = S.length + 1 := by simp
  have sp : ∀ i, i < S.length + 1 → i < S.length ∨ i = S.length := fun i h => by omega
  refine ⟨⟨R.bh.trans (Sub.new hp), R.fh.trans (Sub.new hp), R.f0, R.fn, fun i j hi hj e => ?_, fun i hi => ?_, fun i hi => ?_, fun i o' h => ?_⟩, ⟨Sub.refl _, by rw [hl]; omega, mo⟩⟩
  · rw [hl] at hi hj
    rcases sp i hi with hi | rfl
    · rcases sp j hj with hj | rfl
      · rw [mo i hi, mo j hj] at e; exact R.inj i j hi hj e
      · rw [mo i hi, mn] at e; exact absurd e (ne i hi)
    · rcases sp j hj with hj | rfl
      · rw [mo j hj, mn] at e; exact absurd e.symm (ne j hj)
      · rfl
  · rw [hl] at hi
    rcases sp i hi with hi | rfl
    · rw [mo i hi]; exact R.nb i hi
    · rw [mn]; exact hB
  · rw [hl] at hi
    rcases sp i hi with hi | rfl
    · rw [mo i hi]; exact R.nf i hi
    · rw [mn]; exact hF
  · rw [hl]
    by_cases hi : i < S.length
    · rw [List.getElem?_append_left hi] at h
      rw [mo i hi]
      exact (R.ob i o' h).mono (Sub.refl _) (Nat.le_succ _) mo (by rw [upd_ne (ne i hi)])
    · have e : i = S.length := by
        have := Rl.lt h
        rw [hl] at this; omega
      subst e
      rw [List.getElem?_append_right (Nat.le_refl _), Nat.sub_self] at h
      cases h
      rw [mn]
      exact (ho (upd H p u) upd_same).mono (Sub.refl _) (Nat.le_succ _) mo rfl
/-- an object of the store is written -/
theorem Rl.write (R : Rl B F0 μ S F H) {n : Nat} {u : HO} {o : Ob} (hn : n < S.length) (ho : ∀ G : Hp, G (μ n) = some u → ObRp B F μ S.length G (μ n) o) : Rl B F0 μ (S.set n o) F (upd H (μ n) u) ∧ Xt μ S F μ (S.set n o) F := by
  have hl : (S.set n o).length = S.length := by simp
  refine ⟨⟨R.bh.up (R.nb n hn), R.fh.up (R.nf n hn), R.f0, R.fn, fun i j hi hj e => R.inj i j (hl ▸ hi) (hl ▸ hj) e, fun i hi => R.nb i (hl ▸ hi), fun i hi => R.nf i (hl ▸ hi), fun i o' h => ?_⟩, ⟨Sub.refl _, by rw [hl]; exact Nat.le_refl _, fun _ _ => rfl⟩⟩
  rw [hl]
  by_cases hi : i = n
  · subst hi
    rw [List.getElem?_set_self hn] at h
    cases h
    exact ho _ upd_same
  · rw [List.getElem?_set_ne (Ne.symm hi)] at h
    exact (R.ob i o' h).mono (Sub.refl _) (Nat.le_refl _) (fun _ _ => rfl) (by rw [upd_ne fun e => hi (R.inj i n (Rl.lt h) hn e)])
end

/-! ### the def's names -/
def EnvR (B F : Hp) (μ : Nat → Addr) (n : Nat) : Env → St → Prop := Paired fun e s => ∀ d, e = some d → ∃ v, s = some v ∧ RpD B F μ n d v
section
variable {B F0 F F' H : Hp} {μ μ' : Nat → Addr} {S S' : Sto} {env : Env} {σ : St}
theorem EnvR.xt (h : EnvR B F μ S.length env σ) (x : Xt μ S F μ' S' F') : EnvR B F' μ' S'.length env σ := Paired.mapP h fun e s q d hd => by
  obtain ⟨v, h1, h2⟩ := q d hd
  exact ⟨v, h1, h2.xt x⟩
theorem EnvR.get {n : Nat} : ∀ {env : Env} {σ : St} {i : Nat} {d : D}, EnvR B F μ n env σ → env[i]? = some (some d) → ∃ v, σ[i]? = some (some v) ∧ RpD B F μ n d v
  | _, _, _, _, .nil, e => by simp at e
  | _, _, 0, _, .cons r _, e => by
    simp at e
    obtain ⟨v, h1, h2⟩ := r _ e
    exact ⟨v, by simp [h1], h2⟩
  | _, _, i + 1, d, .cons _ t, e => by
    obtain ⟨v, h1, h2⟩ := EnvR.get (i := i) (d := d) t (by simpa using e)
    exact ⟨v, by simpa using h1, h2⟩
theorem EnvR.set {n : Nat} {d : D} {v : V} (hd : RpD B F μ n d v) : ∀ {env : Env} {σ : St} (i : Nat), EnvR B F μ n env σ → EnvR B F μ n (env.set i (some d)) (σ.set i (some v))
  | _, _, _, .nil => .nil
  | _, _, 0, .cons r t => .cons (fun e he => by cases he; exact ⟨v, rfl, hd⟩) t
  | _, _, i + 1, .cons q t => .cons q (EnvR.set hd i t)
theorem EnvR.unset {n : Nat} {w : Option V} : ∀ {env : Env} {σ : St} (i : Nat), EnvR B F μ n env σ → EnvR B F μ n (env.set i none) (σ.set i w)
  | _, _, _, .nil => .nil
  | _, _, 0, .cons r t => .cons (fun e he => by cases he) t
  | _, _, i + 1, .cons q t => .cons q (EnvR.unset i t)
end

/-! ### data seen through the store -/
mutual
inductive Vw (S : Sto) : D → PyData → Prop
  | z {d : PyData} : Vw S (.z d) d
  | b {d : PyData} : Vw S (.b d) d
  | r {n : Nat} {ds : List D} {es : List PyData} : S[n]? = some (.lst ds) → Vws S ds es → Vw S (.r n) (.list es)
  | t {ds : List D} {es : List PyData} : Vws S ds es → Vw S (.t ds) (.tuple es)
inductive Vws (S : Sto) : List D → List PyData → Prop
  | nil : Vws S [] []
  | cons {d : D} {ds : List D} {e : PyData} {es : List PyData} : Vw S d e → Vws S ds es → Vws S (d :: ds) (e :: es)
end
section
variable {B F0 F H : Hp} {μ : Nat → Addr} {S : Sto}
theorem RpT.lent {d : PyData} {v : V} (hb : Sub B H) (h : RpT (LB B F) (TF F) d v) : RpT (LB H F) (TF F) d v :=
  RpT.mono (fun _ _ q => q.imp id fun q => hb.rd q) (fun _ _ q => q) d v h
mutual
theorem Vw.rp (R : Rl B F0 μ S F H) : ∀ (e : PyData) (d : D) (v : V), Vw S d e → RpD B F μ S.length d v → RpT (LB H F) (TF F) e v
  | .none, _, _, w, h => by
    cases w with
    | z => cases h with | z a => cases a; exact .non
    | b => cases h with | b a => cases a; exact .non
  | .bool _, _, _, w, h => by
    cases w with
    | z => cases h with | z a => cases a; exact .bl _
    | b => cases h with | b a => cases a; exact .bl _
  | .int _, _, _, w, h => by
    cases w with
    | z => cases h with | z a => cases a; exact .int _
    | b => cases h with | b a => cases a; exact .int _
  | .str _, _, _, w, h => by
    cases w with
    | z => cases h with | z a => cases a; exact .str _
    | b => cases h with | b a => cases a; exact .str _
  | .dict _, _, _, w, h => by
    cases w with
    | z => cases h with | z a => cases a
    | b => cases h with | b a => cases a
  | .list es, _, _, w, h => by
    cases w with
    | z => cases h with | z a => exact RpT.mono (fun _ _ q => .inl (.inl q)) (fun _ _ q => q) _ _ a
    | b => cases h with | b a => exact a.lent R.bh
    | r e ws =>
      cases h with
      | r hi =>
        obtain ⟨vs, hv, rv⟩ := R.ob _ _ e
        exact .lst (.inr (.inl hv)) (Vws.rp R es _ vs ws rv)
  | .tuple es, _, _, w, h => by
    cases w with
    | z => cases h with | z a => exact RpT.mono (fun _ _ q => .inl (.inl q)) (fun _ _ q => q) _ _ a
    | b => cases h with | b a => exact a.lent R.bh
    | t ws => cases h with | t e rv => exact .tup e (Vws.rp R es _ _ ws rv)
theorem Vws.rp (R : Rl B F0 μ S F H) : ∀ (es : List PyData) (ds : List D) (vs : List V), Vws S ds es → RpDs B F μ S.length ds vs → RpTs (LB H F) (TF F) es vs
  | [], _, _, w, h => by cases w; cases h; exact .nil
  | e :: es, _, _, w, h => by
    cases w with | cons a b => cases h with | cons r s => exact .cons (Vw.rp R e _ _ a r) (Vws.rp R es _ _ b s)
end
mutual
theorem RpT.dp {K : PySem.W.Frag} (hf : Sub F H) : ∀ (d : PyData) (v : V), RpT (LB H F) (TF F) d v → Dp K H v d
  | .none, _, h => by cases h; exact .non
  | .bool _, _, h => by cases h; exact .bl _
  | .int _, _, h => by cases h; exact .int _
  | .str _, _, h => by cases h; exact .str _
  | .list ds, _, h => by cases h with | lst a b => exact .lst (.inl (a.elim (fun q => hf.rd q) id)) (RpTs.dp hf ds _ b)
  | .tuple ds, _, h => by cases h with | tup a b => exact .tup (.inl (.inl (hf _ _ a))) (RpTs.dp hf ds _ b)
  | .dict _, _, h => by cases h
theorem RpTs.dp {K : PySem.W.Frag} (hf : Sub F H) : ∀ (ds : List PyData) (vs : List V), RpTs (LB H F) (TF F) ds vs → DpAll K H vs ds
  | [], _, h => by cases h; exact .nil
  | d :: ds, _, h => by cases h with | cons a b => exact .cons (RpT.dp hf d _ a) (RpTs.dp hf ds _ b)
end
theorem Vws.append : ∀ {ds es : List D} {fs gs : List PyData}, Vws S ds fs → Vws S es gs → Vws S (ds ++ es) (fs ++ gs)
  | [], _, _, _, h, k => by cases h; exact k
  | d :: ds, _, _, _, h, k => by cases h with | cons a b => exact .cons a (Vws.append b k)
theorem Vws.zs : ∀ (ds : List PyData), Vws S (ds.map .z) ds
  | [] => .nil
  | d :: ds => .cons .z (Vws.zs ds)
theorem Vw.bz {d : PyData} : Vw S (PL.bz d) d := by
  unfold PL.bz
  split
  · exact .z
  · exact .b
theorem Vws.bzs : ∀ (ds : List PyData), Vws S (ds.map PL.bz) ds
  | [] => .nil
  | d :: ds => .cons Vw.bz (Vws.bzs ds)
end
end PL

set_option Elab.async false
set_option linter.all false
set_option maxRecDepth 100000
/-! PL, part 2: what an expression wants, over store and names; the rules of expressions -/
namespace PL
open PySem L2

abbrev K1 := D → Sto → Prop
abbrev KX := Ex → Env → Sto → Prop
/-- what an expression, a test, a row of arguments asks -/
abbrev WE := Env → Sto → K1 → KX → Prop
abbrev WT := Env → Sto → (Bool → Sto → Prop) → KX → Prop
abbrev WA := Env → Sto → (List D → Sto → Prop) → KX → Prop
structure KS where
  nx : Env → Sto → Prop
  rt : K1
  ex : KX
  bk : Env → Sto → Prop := fun _ _ => False
  ct : Env → Sto → Prop := fun _ _ => False
abbrev WS := KS → Env → Sto → Prop

/-! where a walk halts -/
@[irreducible] def pReq (c : Prop) (k : Prop) : Prop := c ∧ k
@[irreducible] def pGet {α : Type} (o : Option α) (k : α → Prop) : Prop := ∃ x, o = some x ∧ k x
@[irreducible] def pIf (b : Bool) (x y : Prop) : Prop := if b = true then x else y
theorem pReq.mk {c k : Prop} (h : c) (q : k) : pReq c k := by unfold pReq; exact ⟨h, q⟩
theorem pReq.out {c k : Prop} (h : pReq c k) : c ∧ k := by unfold pReq at h; exact h
theorem pGet.mk {α : Type} {o : Option α} {k : α → Prop} {x : α} (h : o = some x) (q : k x) : pGet o k := by unfold pGet; exact ⟨x, h, q⟩
theorem pGet.out {α : Type} {o : Option α} {k : α → Prop} (h : pGet o k) : ∃ x, o = some x ∧ k x := by unfold pGet at h; exact h
theorem pIf.mk {b : Bool} {x y : Prop} (h1 : b = true → x) (h2 : b = false → y) : pIf b x y := by
  unfold pIf
  cases b with
  | true => rw [if_pos rfl]; exact h1 rfl
  | false => rw [if_neg Bool.false_ne_true]; exact h2 rfl
theorem pIf.tt {b : Bool} {x y : Prop} (h : b = true) (q : x) : pIf b x y := pIf.mk (fun _ => q) fun e => by rw [h] at e; cases e
theorem pIf.ff {b : Bool} {x y : Prop} (h : b = false) (q : y) : pIf b x y := pIf.mk (fun e => by rw [h] at e; cases e) fun _ => q
theorem pIf.out {b : Bool} {x y : Prop} (h : pIf b x y) : if b = true then x else y := by unfold pIf at h; exact h

/-! ### the readings -/
def ExR (B F : Hp) (μ : Nat → Addr) (n : Nat) (H : Hp) (x : Ex) (cls : Value) (dd : Option Addr) : Prop :=
  cls = x.c ∧ match x.fs with
    | none => dd = none
    | some fs => ∃ a ws, dd = some a ∧ H a = some (.xd ws) ∧ Paired (fun (p : Str × D) (q : Str × V) => p.1 = q.1 ∧ RpD B F μ n p.2 q.2) fs ws
/-- the state at hand -/
structure Wd where
  μ : Nat → Addr
  S : Sto
  F : Hp
def Fi (B F0 : Hp) (w : Wd) (K : K1) (Q : VK) : Prop := ∀ d S' v H' μ' F', Rl B F0 μ' S' F' H' → Xt w.μ w.S w.F μ' S' F' → RpD B F' μ' S'.length d v → K d S' → Q v H'
def FiT (B F0 : Hp) (w : Wd) (K : Bool → Sto → Prop) (Q : Bool → Hp → Prop) : Prop := ∀ b S' H' μ' F', Rl B F0 μ' S' F' H' → Xt w.μ w.S w.F μ' S' F' → K b S' → Q b H'
def FiA (B F0 : Hp) (w : Wd) (K : List D → Sto → Prop) (Q : List V → Hp → Prop) : Prop := ∀ ds S' vs H' μ' F', Rl B F0 μ' S' F' H' → Xt w.μ w.S w.F μ' S' F' → RpDs B F' μ' S'.length ds vs → K ds S' → Q vs H'
def FiX (B F0 : Hp) (W : WX) (w : Wd) (env : Env) (σ : St) (K : KX) : Prop := ∀ x S' H' μ' F' cls dd, Rl B F0 μ' S' F' H' → Xt w.μ w.S w.F μ' S' F' → ExR B F' μ' S'.length H' x cls dd → K x env S' → W cls dd σ H'
section
variable {B F0 H : Hp} {w w' : Wd} {W : WX} {env : Env} {σ : St}
theorem Fi.xt {K : K1} {Q : VK} (h : Fi B F0 w K Q) (x : Xt w.μ w.S w.F w'.μ w'.S w'.F) : Fi B F0 w' K Q := fun d S v H μ F R X r k => h d S v H μ F R (x.trans X) r k
theorem FiT.xt {K : Bool → Sto → Prop} {Q : Bool → Hp → Prop} (h : FiT B F0 w K Q) (x : Xt w.μ w.S w.F w'.μ w'.S w'.F) : FiT B F0 w' K Q := fun b S H μ F R X k => h b S H μ F R (x.trans X) k
theorem FiA.xt {K : List D → Sto → Prop} {Q : List V → Hp → Prop} (h : FiA B F0 w K Q) (x : Xt w.μ w.S w.F w'.μ w'.S w'.F) : FiA B F0 w' K Q := fun d S v H μ F R X r k => h d S v H μ F R (x.trans X) r k
theorem FiX.xt {K : KX} (h : FiX B F0 W w env σ K) (x : Xt w.μ w.S w.F w'.μ w'.S w'.F) : FiX B F0 W w' env σ K := fun e S H μ F c dd R X r k => h e S H μ F c dd R (x.trans X) r k
end
abbrev RlW (B F0 : Hp) (w : Wd) (H : Hp) : Prop := Rl B F0 w.μ w.S w.F H
abbrev RpW (B : Hp) (w : Wd) (d : D) (v : V) : Prop := RpD B w.F w.μ w.S.length d v
abbrev RpsW (B : Hp) (w : Wd) (d : List D) (v : List V) : Prop := RpDs B w.F w.μ w.S.length d v
def tE (B F0 : Hp) (W : WX) (we : WE) : TE := fun σ H Q => ∃ (w : Wd) (env : Env) (K : K1) (KX : KX), RlW B F0 w H ∧ EnvR B w.F w.μ w.S.length env σ ∧ we env w.S K KX ∧ Fi B F0 w K Q ∧ FiX B F0 W w env σ KX
def tT (B F0 : Hp) (W : WX) (wt : WT) : TT := fun σ H Q => ∃ (w : Wd) (env : Env) (K : Bool → Sto → Prop) (KX : KX), RlW B F0 w H ∧ EnvR B w.F w.μ w.S.length env σ ∧ wt env w.S K KX ∧ FiT B F0 w K Q ∧ FiX B F0 W w env σ KX
def tA (B F0 : Hp) (W : WX) (wa : WA) : TA := fun σ H Q => ∃ (w : Wd) (env : Env) (K : List D → Sto → Prop) (KX : KX), RlW B F0 w H ∧ EnvR B w.F w.μ w.S.length env σ ∧ wa env w.S K KX ∧ FiA B F0 w K Q ∧ FiX B F0 W w env σ KX
/-- how a statement's ends are met -/
structure FiS (B F0 : Hp) (W : WX) (w : Wd) (k : KS) (D : Ends) : Prop where
  nx : ∀ env S σ H μ F, Rl B F0 μ S F H → Xt w.μ w.S w.F μ S F → EnvR B F μ S.length env σ → k.nx env S → D.nx σ H
  rt : Fi B F0 w k.rt D.rt
  bk : ∀ env S σ H μ F, Rl B F0 μ S F H → Xt w.μ w.S w.F μ S F → EnvR B F μ S.length env σ → k.bk env S → D.bk σ H
  ct : ∀ env S σ H μ F, Rl B F0 μ S F H → Xt w.μ w.S w.F μ S F → EnvR B F μ S.length env σ → k.ct env S → D.ct σ H
  ex : ∀ x env S σ H μ F cls dd, Rl B F0 μ S F H → Xt w.μ w.S w.F μ S F → EnvR B F μ S.length env σ → ExR B F μ S.length H x cls dd → k.ex x env S → W cls dd σ H
theorem FiS.xt {B F0 : Hp} {W : WX} {w w' : Wd} {k : KS} {D : Ends} (h : FiS B F0 W w k D) (x : Xt w.μ w.S w.F w'.μ w'.S w'.F) : FiS B F0 W w' k D :=
  ⟨fun e S s H μ F R X r q => h.nx e S s H μ F R (x.trans X) r q, h.rt.xt x, fun e S s H μ F R X r q => h.bk e S s H μ F R (x.trans X) r q, fun e S s H μ F R X r q => h.ct e S s H μ F R (x.trans X) r q,
   fun y e S s H μ F c d R X r q z => h.ex y e S s H μ F c d R (x.trans X) r q z⟩
theorem FiS.toX {B F0 : Hp} {W : WX} {w : Wd} {k : KS} {D : Ends} {env : Env} {σ : St} (h : FiS B F0 W w k D) (e : EnvR B w.F w.μ w.S.length env σ) : FiX B F0 W w env σ k.ex :=
  fun x S H μ F c d R X r q => h.ex x env S σ H μ F c d R X (e.xt X) r q
def tS (B F0 : Hp) (W : WX) (ws : WS) : TS := fun D σ H => ∃ (w : Wd) (env : Env) (k : KS), RlW B F0 w H ∧ EnvR B w.F w.μ w.S.length env σ ∧ ws k env w.S ∧ FiS B F0 W w k D

def PX (X : Cx) (B F0 : Hp) (W : WX) (e : Expr) (we : WE) : Prop := PE X e (tE B F0 W we)
def PXT (X : Cx) (B F0 : Hp) (W : WX) (e : Expr) (wt : WT) : Prop := PT X e (tT B F0 W wt)
def PXW (X : Cx) (B F0 : Hp) (W : WX) (e : Expr) (wt : WT) : Prop := PW X e (tT B F0 W wt)
def PXA (X : Cx) (B F0 : Hp) (W : WX) (es : List Expr) (wa : WA) : Prop := PA X es (tA B F0 W wa)
def PXS (X : Cx) (B F0 : Hp) (W : WX) (st : Stmt) (ws : WS) : Prop := PS X st (tS B F0 W ws)
def PXB (X : Cx) (B F0 : Hp) (W : WX) (st : List Stmt) (ws : WS) : Prop := PSs X st (tS B F0 W ws)
section
variable {X : Cx}
theorem wkE {e : Expr} {t t' : TE} (h : PE X e t) (k : ∀ σ H Q, t' σ H Q → t σ H Q) : PE X e t' := ⟨fun p s σ H Q I q => h.run p s σ H Q I (k σ H Q q)⟩
theorem wkT {e : Expr} {t t' : TT} (h : PT X e t) (k : ∀ σ H Q, t' σ H Q → t σ H Q) : PT X e t' := ⟨fun p s σ H Q I q => h.run p s σ H Q I (k σ H Q q)⟩
theorem wkW {e : Expr} {t t' : TT} (h : PW X e t) (k : ∀ σ H Q, t' σ H Q → t σ H Q) : PW X e t' := ⟨fun wh p s σ H Q I q => h.run wh p s σ H Q I (k σ H Q q)⟩
theorem wkA {e : List Expr} {t t' : TA} (h : PA X e t) (k : ∀ σ H Q, t' σ H Q → t σ H Q) : PA X e t' := ⟨fun pos p s σ H Q I q => h.run pos p s σ H Q I (k σ H Q q)⟩
theorem wkS {e : Stmt} {t t' : TS} (h : PS X e t) (k : ∀ D σ H, t' D σ H → t D σ H) : PS X e t' := ⟨fun p s σ H D I q => h.run p s σ H D I (k D σ H q)⟩
theorem wkB {e : List Stmt} {t t' : TS} (h : PSs X e t) (k : ∀ D σ H, t' D σ H → t D σ H) : PSs X e t' := ⟨fun p s σ H D I q => h.run p s σ H D I (k D σ H q)⟩
end

/-! ### names, constants -/
def wVar (i : Nat) : WE := fun env S K _ => match env[i]? with
  | some (some d) => K d S
  | _ => False
def wC (d : PyData) : WE := fun _ S K _ => K (.z d) S
def wO (a : Addr) : WE := fun _ S K _ => K (.o a) S
section
variable {X : Cx} {B F0 : Hp} {W : WX} {pos : Pos}
theorem xv (i : Nat) {x : Str} (hN : X.N[i]? = some x := by rfl) (hv : Vis X.env.scope x := by first | exact Or.inl rfl | exact Or.inr (Or.inl rfl) | exact Or.inr (Or.inr rfl)) (hd : (x == ("__debug__" : Str)) = false := by decide)
    (hcd : (x == ("__classdict__" : Str)) = false := by decide) : PX X B F0 W (.Name x pos) (wVar i) := wkE (pe_var hN hv hd hcd) fun σ H Q h => by
  obtain ⟨w, env, K, KX, R, E, h, k, _⟩ := h
  unfold wVar at h
  split at h
  · rename_i d e
    obtain ⟨v, h1, h2⟩ := EnvR.get E e
    exact ⟨v, h1, k d w.S v H w.μ w.F R .refl h2 h⟩
  · exact h.elim
theorem xc {e : Expr} {c : V} {d : PyData} (h : PE X e (tC c)) (r : ∀ L T, RpT L T d c) : PX X B F0 W e (wC d) := wkE h fun σ H Q h => by
  obtain ⟨w, env, K, KX, R, E, h, k, _⟩ := h
  exact k _ w.S c H w.μ w.F R .refl (.z (r _ _)) h
theorem xint {i : Int} {j : Nat} : PX X B F0 W (.Constant (.int i) j pos) (wC (.int i)) := xc pe_int fun _ _ => .int i
theorem xbl {b : Bool} {j : Nat} : PX X B F0 W (.Constant (.bool b) j pos) (wC (.bool b)) := xc pe_bl fun _ _ => .bl b
theorem xnon {j : Nat} : PX X B F0 W (.Constant .none j pos) (wC .none) := xc pe_non fun _ _ => .non
theorem xstr {x : Str} {j : Nat} : PX X B F0 W (.Constant (.str x) j pos) (wC (.str x)) := xc pe_str fun _ _ => .str x
/-- a module's constant -/
theorem xglob {x : Str} {v : V} {u : Value} {d : PyData} (hg : Gl X x) (hm : X.mg x = some u) (r : RelV v u) (hd : ∀ L T, RpT L T d v) (hdb : (x == ("__debug__" : Str)) = false := by decide) : PX X B F0 W (.Name x pos) (wC d) :=
  xc (pe_glob hg hm r hdb) hd
theorem xglobO {x : Str} {a : Addr} (hg : Gl X x) (hm : X.mg x = some (.ref a)) (hdb : (x == ("__debug__" : Str)) = false := by decide) : PX X B F0 W (.Name x pos) (wO a) := wkE (pe_glob (v := .ref a) hg hm rfl hdb) fun σ H Q h => by
  obtain ⟨w, env, K, KX, R, E, h, k, _⟩ := h
  exact k _ w.S _ H w.μ w.F R .refl .o h
end

/-! ### operators -/
/-- two values, the store: what is asked -/
abbrev P2 := D → D → Sto → K1 → Prop
abbrev P1 := D → Sto → K1 → Prop
abbrev PL := List D → Sto → K1 → Prop
def r2 (B F0 : Hp) (p : P2) : R2 := fun a b H Q => ∃ (w : Wd) (x y : D) (K : K1), RlW B F0 w H ∧ RpW B w x a ∧ RpW B w y b ∧ p x y w.S K ∧ Fi B F0 w K Q
def r1 (B F0 : Hp) (p : P1) : V → Hp → VK → Prop := fun a H Q => ∃ (w : Wd) (x : D) (K : K1), RlW B F0 w H ∧ RpW B w x a ∧ p x w.S K ∧ Fi B F0 w K Q
def rL (B F0 : Hp) (p : PL) : List V → Hp → VK → Prop := fun vs H Q => ∃ (w : Wd) (xs : List D) (K : K1), RlW B F0 w H ∧ RpsW B w xs vs ∧ p xs w.S K ∧ Fi B F0 w K Q
def rM (B F0 : Hp) (p : D → PL) : V → List V → Hp → VK → Prop := fun v vs H Q => ∃ (w : Wd) (x : D) (xs : List D) (K : K1), RlW B F0 w H ∧ RpW B w x v ∧ RpsW B w xs vs ∧ p x xs w.S K ∧ Fi B F0 w K Q
def w2 (p : P2) (wa wb : WE) : WE := fun env S K KX => wa env S (fun x S1 => wb env S1 (fun y S2 => p x y S2 K) KX) KX
def w1 (p : P1) (wa : WE) : WE := fun env S K KX => wa env S (fun x S1 => p x S1 K) KX
/-- a value that is True or False, as a test -/
def asB (k : Bool → Sto → Prop) : K1 := fun d S => match d with
  | .z (.bool b) => k b S
  | _ => False
def wB (wa : WE) : WT := fun env S K KX => wa env S (asB K) KX
section
variable {X : Cx} {B F0 : Hp} {W : WX} {a b c : Expr} {wa wb wc : WE} {pos : Pos} {p p' : P2}
/-- two operands, then something by their values -/
theorem two {r : R2} (hr : ∀ x y H Q, r2 B F0 p x y H Q → r x y H Q) (σ : St) (H : Hp) (Q : VK) (h : tE B F0 W (w2 p wa wb) σ H Q) : tOp r (tE B F0 W wa) (tE B F0 W wb) σ H Q := by
  obtain ⟨w, env, K, KX, R, E, h, k, kx⟩ := h
  refine ⟨w, env, _, KX, R, E, h, fun x S1 v H1 μ1 F1 R1 X1 r1 h1 => ?_, kx⟩
  refine ⟨⟨μ1, S1, F1⟩, env, _, KX, R1, E.xt X1, h1, fun y S2 u H2 μ2 F2 R2 X2 r2 h2 => ?_, kx.xt X1⟩
  exact hr v u H2 Q ⟨⟨μ2, S2, F2⟩, x, y, K, R2, r1.xt X2, r2, h2, k.xt (X1.trans X2)⟩
theorem xop {op : Operator} (ho : OpR X (binaryOp op) (r2 B F0 p)) (ha : PX X B F0 W a wa) (hb : PX X B F0 W b wb) : PX X B F0 W (.BinOp a op b pos) (w2 p wa wb) := wkE (pe_op ho ha hb) (two fun _ _ _ _ h => h)
theorem xcmp {op : CmpOp} (ho : OpR X (compareOp op) (r2 B F0 p)) (ha : PX X B F0 W a wa) (hb : PX X B F0 W b wb) (hm : behindInMarks op b = false := by rfl) : PX X B F0 W (.Compare a [op] [b] pos) (w2 p wa wb) :=
  wkE (pe_cmpR ho ha hb hm) (two fun _ _ _ _ h => h)
theorem xix (ho : IxR X (r2 B F0 p)) (ha : PX X B F0 W a wa) (hb : PX X B F0 W b wb) (hs : PlainIx b := by exact fun _ _ => rfl) : PX X B F0 W (.Subscript a b pos) (w2 p wa wb) := wkE (pe_ix ho ha hb hs) (two fun _ _ _ _ h => h)
/-- an expression as a test, by its value -/
theorem testOf (σ : St) (H : Hp) (Q : Bool → Hp → Prop) (h : tT B F0 W (wB wa) σ H Q) : tTest (tE B F0 W wa) σ H Q := by
  obtain ⟨w, env, K, KX, R, E, h, k, kx⟩ := h
  refine ⟨w, env, _, KX, R, E, h, fun x S1 v H1 μ1 F1 R1 X1 r1 h1 => ?_, kx⟩
  unfold asB at h1
  split at h1
  · cases r1 with | z q => cases q; exact ⟨_, rfl, k _ S1 H1 μ1 F1 R1 X1 h1⟩
  · exact h1.elim
theorem xtv (h : PX X B F0 W a wa) (he : ∀ whole, isTrue a X.env whole = (do let v ← whole; standAt a.pos; holding [v] (truthy v)) := by intro _; rfl) : PXT X B F0 W a (wB wa) := wkT (pt_val h he) fun σ H Q q => testOf σ H Q q
theorem xtcmp {op : CmpOp} (ho : OpR X (compareOp op) (r2 B F0 p)) (ha : PX X B F0 W a wa) (hb : PX X B F0 W b wb) (hm : behindInMarks op b = false := by rfl) : PXT X B F0 W (.Compare a [op] [b] pos) (wB (w2 p wa wb)) :=
  wkT (pt_cmpR ho ha hb hm) fun σ H Q h => by
    obtain ⟨w, env, K, KX, R, E, h, k, kx⟩ := h
    refine two (fun _ _ _ _ h => h) σ H _ ⟨w, env, asB K, KX, R, E, h, fun x S1 v H1 μ1 F1 R1 X1 r1 h1 => ?_, kx⟩
    unfold asB at h1
    split at h1
    · cases r1 with | z q => cases q; exact ⟨_, rfl, k _ S1 H1 μ1 F1 R1 X1 h1⟩
    · exact h1.elim
/-- a < b < c -/
def w3 (p p' : P2) (wa wb wc : WE) : WE := fun env S K KX => wa env S (fun x S1 => wb env S1 (fun y S2 => p x y S2 (asB fun k S3 => pIf k (wc env S3 (fun z S4 => p' y z S4 K) KX) (K (.z (.bool false)) S3))) KX) KX
theorem asB.out {w : Wd} {d : D} {v : V} {K : Bool → Sto → Prop} {S : Sto} (h : asB K d S) (r : RpW B w d v) : ∃ k, v = .bl k ∧ K k S := by
  unfold asB at h
  split at h
  · cases r with | z q => cases q; exact ⟨_, rfl, h⟩
  · exact h.elim
theorem three {r r' : R2} (hr : ∀ x y H Q, r2 B F0 p x y H Q → r x y H Q) (hr' : ∀ x y H Q, r2 B F0 p' x y H Q → r' x y H Q) (σ : St) (H : Hp) (Q : VK) (h : tE B F0 W (w3 p p' wa wb wc) σ H Q) : tChain r r' (tE B F0 W wa) (tE B F0 W wb) (tE B F0 W wc) σ H Q := by
  obtain ⟨w, env, K, KX, R, E, h, k, kx⟩ := h
  refine ⟨w, env, _, KX, R, E, h, fun x S1 v H1 μ1 F1 R1 X1 r1 h1 => ?_, kx⟩
  refine ⟨⟨μ1, S1, F1⟩, env, _, KX, R1, E.xt X1, h1, fun y S2 u H2 μ2 F2 R2 X2 r2 h2 => ?_, kx.xt X1⟩
  refine hr v u H2 _ ⟨⟨μ2, S2, F2⟩, x, y, _, R2, r1.xt X2, r2, h2, fun z S3 t H3 μ3 F3 R3 X3 r3 h3 => ?_⟩
  obtain ⟨kb, rfl, h3⟩ := asB.out (w := ⟨μ3, S3, F3⟩) h3 r3
  refine ⟨kb, rfl, ?_⟩
  have h3 := h3.out
  cases kb with
  | true =>
    rw [if_pos rfl] at h3 ⊢
    refine ⟨⟨μ3, S3, F3⟩, env, _, KX, R3, E.xt ((X1.trans X2).trans X3), h3, fun z S4 t H4 μ4 F4 R4 X4 r4 h4 => ?_, kx.xt ((X1.trans X2).trans X3)⟩
    exact hr' u t H4 Q ⟨⟨μ4, S4, F4⟩, y, z, K, R4, r2.xt (X3.trans X4), r4, h4, k.xt (((X1.trans X2).trans X3).trans X4)⟩
  | false =>
    rw [if_neg Bool.false_ne_true] at h3 ⊢
    exact k _ S3 _ H3 μ3 F3 R3 ((X1.trans X2).trans X3) (.z (.bl _)) h3
theorem xch {op op' : CmpOp} (ho : OpR X (compareOp op) (r2 B F0 p)) (ho' : OpR X (compareOp op') (r2 B F0 p')) (ha : PX X B F0 W a wa) (hb : PX X B F0 W b wb) (hc : PX X B F0 W c wc)
    (hm : lastMarks [op, op'] [b, c] = false := by rfl) : PX X B F0 W (.Compare a [op, op'] [b, c] pos) (w3 p p' wa wb wc) :=
  wkE (pe_chain ho ho' ha hb hc hm) (three (fun _ _ _ _ h => h) fun _ _ _ _ h => h)
theorem xtch {op op' : CmpOp} (ho : OpR X (compareOp op) (r2 B F0 p)) (ho' : OpR X (compareOp op') (r2 B F0 p')) (ha : PX X B F0 W a wa) (hb : PX X B F0 W b wb) (hc : PX X B F0 W c wc) (hm : lastMarks [op, op'] [b, c] = false := by rfl) : PXT X B F0 W (.Compare a [op, op'] [b, c] pos) (wB (w3 p p' wa wb wc)) :=
  wkT (pt_chain ho ho' ha hb hc hm) fun σ H Q h => by
    obtain ⟨w, env, K, KX, R, E, h, k, kx⟩ := h
    refine three (fun _ _ _ _ h => h) (fun _ _ _ _ h => h) σ H _ ⟨w, env, asB K, KX, R, E, h, fun x S1 v H1 μ1 F1 R1 X1 r1 h1 => ?_, kx⟩
    obtain ⟨kb, rfl, h2⟩ := asB.out (w := ⟨μ1, S1, F1⟩) h1 r1
    exact ⟨kb, rfl, k _ S1 H1 μ1 F1 R1 X1 h2⟩
end

/-! ### and, or, not, if-else -/
def wAnd (t u : WT) : WT := fun env S K KX => t env S (fun c S1 => pIf c (u env S1 K KX) (K false S1)) KX
def wOr (t u : WT) : WT := fun env S K KX => t env S (fun c S1 => pIf c (K true S1) (u env S1 K KX)) KX
def wNot (t : WT) : WT := fun env S K KX => t env S (fun c S1 => K (!c) S1) KX
def wAndV (wa wb : WE) : WE := fun env S K KX => wa env S (asB fun c S1 => pIf c (wb env S1 K KX) (K (.z (.bool false)) S1)) KX
def wOrV (wa wb : WE) : WE := fun env S K KX => wa env S (asB fun c S1 => pIf c (K (.z (.bool true)) S1) (wb env S1 K KX)) KX
def wNotV (wa : WE) : WE := fun env S K KX => wa env S (asB fun c S1 => K (.z (.bool (!c))) S1) KX
def wIfE (t : WT) (wa wb : WE) : WE := fun env S K KX => t env S (fun c S1 => pIf c (wa env S1 K KX) (wb env S1 K KX)) KX
section
variable {X : Cx} {B F0 : Hp} {W : WX} {a b c : Expr} {wa wb : WE} {t u : WT} {pos : Pos} {rest : List Expr}
theorem yand1 (ha : PXT X B F0 W a t) : PXW X B F0 W (.BoolOp .And [a] pos) t := pw_and1 ha
theorem yor1 (ha : PXT X B F0 W a t) : PXW X B F0 W (.BoolOp .Or [a] pos) t := pw_or1 ha
theorem yand (ha : PXT X B F0 W a t) (hb : PXW X B F0 W (.BoolOp .And (b :: rest) pos) u) : PXW X B F0 W (.BoolOp .And (a :: b :: rest) pos) (wAnd t u) := wkW (pw_and ha hb) fun σ H Q h => by
  obtain ⟨w, env, K, KX, R, E, h, k, kx⟩ := h
  refine ⟨w, env, _, KX, R, E, h, fun x S1 H1 μ1 F1 R1 X1 h1 => ?_, kx⟩
  have h1 := h1.out
  dsimp only
  cases x with
  | true => rw [if_pos rfl] at h1 ⊢; exact ⟨⟨μ1, S1, F1⟩, env, K, KX, R1, E.xt X1, h1, k.xt X1, kx.xt X1⟩
  | false => rw [if_neg Bool.false_ne_true] at h1 ⊢; exact k _ S1 H1 μ1 F1 R1 X1 h1
theorem yor (ha : PXT X B F0 W a t) (hb : PXW X B F0 W (.BoolOp .Or (b :: rest) pos) u) : PXW X B F0 W (.BoolOp .Or (a :: b :: rest) pos) (wOr t u) := wkW (pw_or ha hb) fun σ H Q h => by
  obtain ⟨w, env, K, KX, R, E, h, k, kx⟩ := h
  refine ⟨w, env, _, KX, R, E, h, fun x S1 H1 μ1 F1 R1 X1 h1 => ?_, kx⟩
  have h1 := h1.out
  dsimp only
  cases x with
  | false => rw [if_neg Bool.false_ne_true] at h1 ⊢; exact ⟨⟨μ1, S1, F1⟩, env, K, KX, R1, E.xt X1, h1, k.xt X1, kx.xt X1⟩
  | true => rw [if_pos rfl] at h1 ⊢; exact k _ S1 H1 μ1 F1 R1 X1 h1
theorem xtw (h : PXW X B F0 W a t) : PXT X B F0 W a t := h.pt
theorem xtnot (h : PXT X B F0 W a t) : PXT X B F0 W (.UnaryOp .Not a pos) (wNot t) := wkT (pt_not h) fun σ H Q h => by
  obtain ⟨w, env, K, KX, R, E, h, k, kx⟩ := h
  exact ⟨w, env, _, KX, R, E, h, fun x S1 H1 μ1 F1 R1 X1 h1 => k _ S1 H1 μ1 F1 R1 X1 h1, kx⟩
theorem xone {op : BoolOp} (h : PX X B F0 W a wa) : PX X B F0 W (.BoolOp op [a] pos) wa := pe_one h
theorem xand (ha : PX X B F0 W a wa) (hb : PX X B F0 W (.BoolOp .And (b :: rest) pos) wb) : PX X B F0 W (.BoolOp .And (a :: b :: rest) pos) (wAndV wa wb) := wkE (pe_and ha hb) fun σ H Q h => by
  obtain ⟨w, env, K, KX, R, E, h, k, kx⟩ := h
  refine ⟨w, env, _, KX, R, E, h, fun x S1 v H1 μ1 F1 R1 X1 r1 h1 => ?_, kx⟩
  obtain ⟨kb, rfl, h2⟩ := asB.out (w := ⟨μ1, S1, F1⟩) h1 r1
  refine ⟨kb, rfl, ?_⟩
  have h2 := h2.out
  cases kb with
  | true => rw [if_pos rfl] at h2 ⊢; exact ⟨⟨μ1, S1, F1⟩, env, K, KX, R1, E.xt X1, h2, k.xt X1, kx.xt X1⟩
  | false => rw [if_neg Bool.false_ne_true] at h2 ⊢; exact k _ S1 _ H1 μ1 F1 R1 X1 (.z (.bl _)) h2
theorem xor' (ha : PX X B F0 W a wa) (hb : PX X B F0 W (.BoolOp .Or (b :: rest) pos) wb) : PX X B F0 W (.BoolOp .Or (a :: b :: rest) pos) (wOrV wa wb) := wkE (pe_or ha hb) fun σ H Q h => by
  obtain ⟨w, env, K, KX, R, E, h, k, kx⟩ := h
  refine ⟨w, env, _, KX, R, E, h, fun x S1 v H1 μ1 F1 R1 X1 r1 h1 => ?_, kx⟩
  obtain ⟨kb, rfl, h2⟩ := asB.out (w := ⟨μ1, S1, F1⟩) h1 r1
  refine ⟨kb, rfl, ?_⟩
  have h2 := h2.out
  cases kb with
  | false => rw [if_neg Bool.false_ne_true] at h2 ⊢; exact ⟨⟨μ1, S1, F1⟩, env, K, KX, R1, E.xt X1, h2, k.xt X1, kx.xt X1⟩
  | true => rw [if_pos rfl] at h2 ⊢; exact k _ S1 _ H1 μ1 F1 R1 X1 (.z (.bl _)) h2
theorem xnot (ha : PX X B F0 W a wa) : PX X B F0 W (.UnaryOp .Not a pos) (wNotV wa) := wkE (pe_not ha) fun σ H Q h => by
  obtain ⟨w, env, K, KX, R, E, h, k, kx⟩ := h
  refine ⟨w, env, _, KX, R, E, h, fun x S1 v H1 μ1 F1 R1 X1 r1 h1 => ?_, kx⟩
  obtain ⟨kb, rfl, h2⟩ := asB.out (w := ⟨μ1, S1, F1⟩) h1 r1
  exact ⟨kb, rfl, k _ S1 _ H1 μ1 F1 R1 X1 (.z (.bl _)) h2⟩
theorem xife (hc : PXT X B F0 W c t) (ha : PX X B F0 W a wa) (hb : PX X B F0 W b wb) : PX X B F0 W (.IfExp c a b pos) (wIfE t wa wb) := wkE (pe_ifExp hc ha hb) fun σ H Q h => by
  obtain ⟨w, env, K, KX, R, E, h, k, kx⟩ := h
  refine ⟨w, env, _, KX, R, E, h, fun x S1 H1 μ1 F1 R1 X1 h1 => ?_, kx⟩
  have h1 := h1.out
  dsimp only
  cases x with
  | true => rw [if_pos rfl] at h1 ⊢; exact ⟨⟨μ1, S1, F1⟩, env, K, KX, R1, E.xt X1, h1, k.xt X1, kx.xt X1⟩
  | false => rw [if_neg Bool.false_ne_true] at h1 ⊢; exact ⟨⟨μ1, S1, F1⟩, env, K, KX, R1, E.xt X1, h1, k.xt X1, kx.xt X1⟩
end

/-! ### arguments, displays, calls by value -/
def wNil : WA := fun _ S K _ => K [] S
def wCons (wa : WE) (wr : WA) : WA := fun env S K KX => wa env S (fun x S1 => wr env S1 (fun xs S2 => K (x :: xs) S2) KX) KX
/-- a tuple of values: frozen, where all of them are -/
def allZ : List D → Option (List PyData)
  | [] => some []
  | .z d :: ds => (allZ ds).map (d :: ·)
  | _ :: _ => none
def mkT (ds : List D) : D := match allZ ds with
  | some es => .z (.tuple es)
  | none => .t ds
def wTup (wa : WA) : WE := fun env S K KX => wa env S (fun ds S1 => pReq (ds.length ≤ sizeLine) (K (mkT ds) S1)) KX
def wLst (wa : WA) : WE := fun env S K KX => wa env S (fun ds S1 => pReq (ds.length ≤ sizeLine) (K (.r S1.length) (S1 ++ [.lst ds]))) KX
def wCall (p : PL) (wa : WA) : WE := fun env S K KX => wa env S (fun ds S1 => p ds S1 K) KX
def wMeth (p : D → PL) (wo : WE) (wa : WA) : WE := fun env S K KX => wo env S (fun x S1 => wa env S1 (fun ds S2 => p x ds S2 K) KX) KX
theorem allZ_rp {B F : Hp} {μ : Nat → Addr} {n : Nat} : ∀ {ds : List D} {es : List PyData} {vs : List V}, allZ ds = some es → RpDs B F μ n ds vs → RpTs (LF F) (TF F) es vs
  | [], _, _, e, h => by cases h; simp [allZ] at e; subst e; exact .nil
  | .z d :: ds, _, _, e, h => by
    cases h with
    | cons a b =>
      simp only [allZ, Option.map_eq_some_iff] at e
      obtain ⟨es, h1, rfl⟩ := e
      cases a with | z q => exact .cons q (allZ_rp h1 b)
  | .b d :: ds, _, _, e, h => by simp [allZ] at e
  | .r d :: ds, _, _, e, h => by simp [allZ] at e
  | .t d :: ds, _, _, e, h => by simp [allZ] at e
  | .o d :: ds, _, _, e, h => by simp [allZ] at e
  | .y d :: ds, _, _, e, h => by simp [allZ] at e
theorem mkT_rp {B F : Hp} {μ : Nat → Addr} {n : Nat} {ds : List D} {vs : List V} {p : Addr} (hp : F p = some (.tup vs)) (h : RpDs B F μ n ds vs) : RpD B F μ n (mkT ds) (.ref p) := by
  unfold mkT
  split
  · rename_i es e
    exact .z (.tup hp (allZ_rp e h))
  · exact .t hp h
section
variable {X : Cx} {B F0 : Hp} {W : WX} {e o : Expr} {es : List Expr} {we wo : WE} {wa : WA} {pos cpos apos : Pos} {x : Str} {id T : String}
theorem anil : PXA X B F0 W [] wNil := wkA pa_nil fun σ H Q h => by
  obtain ⟨w, env, K, KX, R, E, h, k, kx⟩ := h
  exact k [] w.S [] H w.μ w.F R .refl .nil h
theorem acons (h1 : PX X B F0 W e we) (h2 : PXA X B F0 W es wa) (hs : starEach (e :: es) X.env = (false, eval e X.env) :: starEach es X.env := by rfl) : PXA X B F0 W (e :: es) (wCons we wa) := wkA (pa_cons h1 h2 hs) fun σ H Q h => by
  obtain ⟨w, env, K, KX, R, E, h, k, kx⟩ := h
  refine ⟨w, env, _, KX, R, E, h, fun x S1 v H1 μ1 F1 R1 X1 r1 h1 => ?_, kx⟩
  exact ⟨⟨μ1, S1, F1⟩, env, _, KX, R1, E.xt X1, h1, fun xs S2 vs H2 μ2 F2 R2 X2 r2 h2 => k _ S2 _ H2 μ2 F2 R2 (X1.trans X2) (.cons (r1.xt X2) r2) h2, kx.xt X1⟩
theorem xtup {j : Nat} (h : PXA X B F0 W es wa) : PX X B F0 W (.Tuple es j pos) (wTup wa) := wkE (pe_tup h) fun σ H Q h => by
  obtain ⟨w, env, K, KX, R, E, h, k, kx⟩ := h
  refine ⟨w, env, _, KX, R, E, h, fun xs S1 vs H1 μ1 F1 R1 X1 r1 h1 => ?_, kx⟩
  obtain ⟨z, h1⟩ := h1.out
  refine ⟨by rw [← r1.length]; exact z, fun p hp => ?_⟩
  obtain ⟨R2, X2⟩ := R1.froze (.tup vs) hp
  exact k _ S1 _ _ μ1 _ R2 (X1.trans X2) (mkT_rp upd_same (r1.xt X2)) h1
theorem xlst (h : PXA X B F0 W es wa) : PX X B F0 W (.List es pos) (wLst wa) := wkE (pe_lst h) fun σ H Q h => by
  obtain ⟨w, env, K, KX, R, E, h, k, kx⟩ := h
  refine ⟨w, env, _, KX, R, E, h, fun xs S1 vs H1 μ1 F1 R1 X1 r1 h1 => ?_, kx⟩
  obtain ⟨z, h1⟩ := h1.out
  refine ⟨by rw [← r1.length]; exact z, fun p hp => ?_⟩
  obtain ⟨R2, X2⟩ := R1.grow (u := .lst vs) (o := .lst xs) hp fun G hG => ⟨vs, hG, r1⟩
  have e : muX μ1 S1.length p S1.length = p := by unfold muX; rw [if_pos rfl]
  have r : RpD B F1 (muX μ1 S1.length p) (S1 ++ [Ob.lst xs]).length (.r S1.length) (.ref p) := by
    have q : RpD B F1 (muX μ1 S1.length p) (S1 ++ [Ob.lst xs]).length (.r S1.length) (.ref (muX μ1 S1.length p S1.length)) := .r (by simp)
    rw [e] at q
    exact q
  exact k _ _ _ _ _ _ R2 (X1.trans X2) r h1
/-- arguments, then something by their values -/
theorem args {p : PL} {r : List V → Hp → VK → Prop} (hr : ∀ vs H Q, rL B F0 p vs H Q → r vs H Q) (σ : St) (H : Hp) (Q : VK) (h : tE B F0 W (wCall p wa) σ H Q) : tCB r (tA B F0 W wa) σ H Q := by
  obtain ⟨w, env, K, KX, R, E, h, k, kx⟩ := h
  exact ⟨w, env, _, KX, R, E, h, fun xs S1 vs H1 μ1 F1 R1 X1 r1 h1 => hr vs H1 Q ⟨⟨μ1, S1, F1⟩, xs, K, R1, r1, h1, k.xt X1⟩, kx⟩
theorem xcallB {p : PL} {q : Pos} (hc : CallR X (.builtin id) (rL B F0 p)) (hg : Gl X x) (hm : X.mg x = none) (hv : bootBuiltins x = some (.builtin id)) (ha : PXA X B F0 W (e :: es) wa) (hn : x ≠ "__name__" := by decide) (hdb : (x == ("__debug__" : Str)) = false := by decide)
    (he : starEach (e :: es) X.env = (false, eval e X.env) :: starEach es X.env := by rfl) (hpl : (backTo pos (starEach es X.env)).any (·.1) = false := by rfl) : PX X B F0 W (.Call (.Name x q) (e :: es) [] pos) (wCall p wa) :=
  wkE (pe_callB hc hg hm hv ha hn hdb he hpl) (args fun _ _ _ h => h)
theorem xcallT {p : PL} {q : Pos} (hc : CallR X (.type T) (rL B F0 p)) (hg : Gl X x) (hm : X.mg x = none) (hv : bootBuiltins x = some (.type T)) (ha : PXA X B F0 W (e :: es) wa) (hn : x ≠ "__name__" := by decide) (hdb : (x == ("__debug__" : Str)) = false := by decide)
    (he : starEach (e :: es) X.env = (false, eval e X.env) :: starEach es X.env := by rfl) (hpl : (backTo pos (starEach es X.env)).any (·.1) = false := by rfl) : PX X B F0 W (.Call (.Name x q) (e :: es) [] pos) (wCall p wa) :=
  wkE (pe_callTy hc hg hm hv ha hn hdb he hpl) (args fun _ _ _ h => h)
end

/-! ### slices -/
abbrev WO := Env → Sto → (Option Int → Sto → Prop) → KX → Prop
def wNo : WO := fun _ S K _ => K none S
def wPart (wa : WE) : WO := fun env S K KX => wa env S (fun x S1 => match x with
  | .z (.int i) => K (some i) S1
  | _ => False) KX
def FiO (B F0 : Hp) (w : Wd) (K : Option Int → Sto → Prop) (Q : Option Int → Hp → Prop) : Prop := ∀ b S' H' μ' F', Rl B F0 μ' S' F' H' → Xt w.μ w.S w.F μ' S' F' → K b S' → Q b H'
theorem FiO.xt {B F0 : Hp} {w w' : Wd} {K : Option Int → Sto → Prop} {Q : Option Int → Hp → Prop} (h : FiO B F0 w K Q) (x : Xt w.μ w.S w.F w'.μ w'.S w'.F) : FiO B F0 w' K Q := fun b S H μ F R X k => h b S H μ F R (x.trans X) k
def tO (B F0 : Hp) (W : WX) (wt : WO) : TO := fun σ H Q => ∃ (w : Wd) (env : Env) (K : Option Int → Sto → Prop) (KX : KX), RlW B F0 w H ∧ EnvR B w.F w.μ w.S.length env σ ∧ wt env w.S K KX ∧ FiO B F0 w K Q ∧ FiX B F0 W w env σ KX
def PXO (X : Cx) (B F0 : Hp) (W : WX) (e : Option Expr) (wt : WO) : Prop := PO X e (tO B F0 W wt)
def rSl (B F0 : Hp) (p : D → Option Int → Option Int → Sto → K1 → Prop) : V → Option Int → Option Int → Hp → VK → Prop := fun v lo hi H Q => ∃ (w : Wd) (x : D) (K : K1), RlW B F0 w H ∧ RpW B w x v ∧ p x lo hi w.S K ∧ Fi B F0 w K Q
def wSl (p : D → Option Int → Option Int → Sto → K1 → Prop) (wa : WE) (wl wh : WO) : WE := fun env S K KX => wa env S (fun x S1 => wl env S1 (fun lo S2 => wh env S2 (fun hi S3 => p x lo hi S3 K) KX) KX) KX
section
variable {X : Cx} {B F0 : Hp} {W : WX} {e o : Expr} {we : WE} {wl wh : WO} {lo hi : Option Expr} {pos p2 : Pos}
theorem ono : PXO X B F0 W none wNo := ⟨fun pins s σ H Q I h => by
  obtain ⟨w, env, K, KX, R, E, h, k, kx⟩ := h
  exact po_none.run pins s σ H Q I (k none w.S H w.μ w.F R .refl h)⟩
theorem osome (h1 : PX X B F0 W e we) : PXO X B F0 W (some e) (wPart we) := ⟨fun pins s σ H Q I h => by
  obtain ⟨w, env, K, KX, R, E, h, k, kx⟩ := h
  refine (po_some h1).run pins s σ H Q I ⟨w, env, _, KX, R, E, h, fun x S1 v H1 μ1 F1 R1 X1 r1 h1 => ?_, kx⟩
  dsimp only at h1 ⊢
  split at h1
  · cases r1 with | z q => cases q; exact ⟨_, rfl, k _ S1 H1 μ1 F1 R1 X1 h1⟩
  · exact h1.elim⟩
theorem xsl {p : D → Option Int → Option Int → Sto → K1 → Prop} (hr : SlR X (rSl B F0 p)) (he : PX X B F0 W e we) (hl : PXO X B F0 W lo wl) (hu : PXO X B F0 W hi wh) : PX X B F0 W (.Subscript e (.Slice lo hi none p2) pos) (wSl p we wl wh) :=
  wkE (pe_slice hr he hl hu) fun σ H Q h => by
    obtain ⟨w, env, K, KX, R, E, h, k, kx⟩ := h
    refine ⟨w, env, _, KX, R, E, h, fun x S1 v H1 μ1 F1 R1 X1 r1 h1 => ?_, kx⟩
    refine ⟨⟨μ1, S1, F1⟩, env, _, KX, R1, E.xt X1, h1, fun lo S2 H2 μ2 F2 R2 X2 h2 => ?_, kx.xt X1⟩
    refine ⟨⟨μ2, S2, F2⟩, env, _, KX, R2, E.xt (X1.trans X2), h2, fun hi S3 H3 μ3 F3 R3 X3 h3 => ?_, kx.xt (X1.trans X2)⟩
    exact ⟨⟨μ3, S3, F3⟩, x, K, R3, r1.xt (X2.trans X3), h3, k.xt ((X1.trans X2).trans X3)⟩
end

/-! ### methods of built-in types -/
/-- what a receiver must be -/
def isTy (T : Ty) (S : Sto) (x : D) : Bool := match T, x with
  | .str, .z (.str _) => true
  | .list, .r n => match S[n]? with
    | some (.lst _) => true
    | _ => false
  | .dict, .r n => match S[n]? with
    | some (.dic _) => true
    | _ => false
  | .list, .z (.list _) => true
  | .list, .b (.list _) => true
  | _, _ => false
def wMth (T : Ty) (p : D → PL) (wo : WE) (wa : WA) : WE := fun env S K KX => wo env S (fun x S1 => pReq (isTy T S1 x = true) (wa env S1 (fun ds S2 => p x ds S2 K) KX)) KX
theorem isTy_ok {K : PySem.W.Frag} {T : Ty} {B F0 H : Hp} {w : Wd} {x : D} {v : V} (R : RlW B F0 w H) (r : RpW B w x v) (h : isTy T w.S x = true) : tyV K T.s v H := by
  unfold isTy at h
  split at h
  · cases r with | z q => cases q; exact rfl
  · cases r with
    | r hi =>
      split at h
      · rename_i ds e
        obtain ⟨vs, hv, _⟩ := R.ob _ _ e
        exact .inl ⟨rfl, vs, SqL.of hv⟩
      · cases h
  · cases r with
    | r hi =>
      split at h
      · rename_i ds e
        obtain ⟨vs, hv, _⟩ := R.ob _ _ e
        exact .inr (.inr (.inl ⟨rfl, .inl ⟨_, hv⟩⟩))
      · cases h
  · cases r with | z q => cases q with | lst a b => exact .inl ⟨rfl, _, SqL.of (R.fh _ _ a)⟩
  · cases r with
    | b q =>
      cases q with
      | lst a b => exact .inl ⟨rfl, _, .inl (a.elim (fun z => R.fh.rd z) fun z => R.bh.rd z)⟩
  · cases h
section
variable {X : Cx} {B F0 : Hp} {W : WX} {o e : Expr} {es : List Expr} {wo : WE} {wa : WA} {name : Str} {apos cpos : Pos} {T : Ty} {id : String} {p : D → PL}
theorem xm0 (pa : PlainAttrs T.s) (slot : Slot T.s name id) (hty : typeOf (.builtin id) = pure (.type "method_descriptor")) (hm : MtR X id (rM B F0 p)) (ho : PX X B F0 W o wo)
    (hbase : attributeBase o name X.env (eval o X.env) = eval o X.env := by rfl) (hline : (apos.endLine == cpos.line) = true := by rfl) : PX X B F0 W (.Call (.Attribute o name apos) [] [] cpos) (wMth T p wo wNil) :=
  wkE (pe_bm0 pa slot hty hm ho hbase hline) fun σ H Q h => by
    obtain ⟨w, env, K, KX, R, E, h, k, kx⟩ := h
    refine ⟨w, env, _, KX, R, E, h, fun x S1 v H1 μ1 F1 R1 X1 r1 h1 => ?_, kx⟩
    obtain ⟨ty, h1⟩ := h1.out
    exact ⟨isTy_ok (w := ⟨μ1, S1, F1⟩) R1 r1 ty, ⟨μ1, S1, F1⟩, x, [], K, R1, r1, .nil, h1, k.xt X1⟩
theorem xm1 (pa : PlainAttrs T.s) (slot : Slot T.s name id) (hty : typeOf (.builtin id) = pure (.type "method_descriptor")) (hm : MtR X id (rM B F0 p)) (ho : PX X B F0 W o wo) (ha : PXA X B F0 W (e :: es) wa)
    (hbase : attributeBase o name X.env (eval o X.env) = eval o X.env := by rfl)
    (hfew : ((backTo cpos (starEach (e :: es) X.env)).all (fun x => !x.1) && (backToKw cpos (keywordEach [] X.env)).all (fun x => x.1.isSome)
      && decide ((e :: es).length + ([] : List Keyword).length + (if ([] : List Keyword).isEmpty then 0 else 1) < 30)) = true := by rfl)
    (hline : (apos.endLine == cpos.line) = true := by rfl) (hs : starEach (e :: es) X.env = (false, eval e X.env) :: starEach es X.env := by rfl) (hplain : (backTo cpos (starEach es X.env)).any (·.1) = false := by rfl) :
    PX X B F0 W (.Call (.Attribute o name apos) (e :: es) [] cpos) (wMth T p wo wa) :=
  wkE (pe_bm pa slot hty hm ho ha hbase hfew hline hs hplain) fun σ H Q h => by
    obtain ⟨w, env, K, KX, R, E, h, k, kx⟩ := h
    refine ⟨w, env, _, KX, R, E, h, fun x S1 v H1 μ1 F1 R1 X1 r1 h1 => ?_, kx⟩
    obtain ⟨ty, h1⟩ := h1.out
    refine ⟨isTy_ok (w := ⟨μ1, S1, F1⟩) R1 r1 ty, ⟨μ1, S1, F1⟩, env, _, KX, R1, E.xt X1, h1, fun xs S2 vs H2 μ2 F2 R2 X2 r2 h2 => ?_, kx.xt X1⟩
    exact ⟨⟨μ2, S2, F2⟩, x, xs, K, R2, r1.xt X2, r2, h2, k.xt (X1.trans X2)⟩
end
end PL

set_option Elab.async false
set_option linter.all false
set_option maxRecDepth 100000
/-! PL, part 3: operators, subscripts, built-in calls and methods, over data -/
namespace PL
open PySem L2

/-- the items of a list, of a tuple -/
def lsD (S : Sto) : D → Option (List D)
  | .z (.list ds) => some (ds.map .z)
  | .b (.list ds) => some (ds.map bz)
  | .r n => match S[n]? with
    | some (.lst ds) => some ds
    | _ => none
  | _ => none
def tpD : D → Option (List D)
  | .z (.tuple ds) => some (ds.map .z)
  | .b (.tuple ds) => some (ds.map bz)
  | .t ds => some ds
  | _ => none
/-- the items of either -/
def sqD (S : Sto) : D → Option (List D)
  | .z (.tuple ds) => some (ds.map .z)
  | .b (.tuple ds) => some (ds.map bz)
  | .t ds => some ds
  | x => lsD S x
def lenD (S : Sto) : D → Option Nat
  | .z (.list ds) => some ds.length
  | .b (.list ds) => some ds.length
  | .z (.tuple ds) => some ds.length
  | .b (.tuple ds) => some ds.length
  | .t ds => some ds.length
  | .r n => match S[n]? with
    | some (.lst ds) => some ds.length
    | some (.dic kvs) => some kvs.length
    | _ => none
  | _ => none
/-- an item by its place, from either end -/
def atD {α : Type} (xs : List α) : Int → Option α
  | .ofNat k => xs[k]?
  | .negSucc k => if k < xs.length then xs[xs.length - (k + 1)]? else none
def ixD (S : Sto) : D → Int → Option D
  | .z (.list ds), i => (atD ds i).map .z
  | .b (.list ds), i => (atD ds i).map bz
  | .z (.tuple ds), i => (atD ds i).map .z
  | .b (.tuple ds), i => (atD ds i).map bz
  | .t ds, i => atD ds i
  | .r n, i => match S[n]? with
    | some (.lst ds) => atD ds i
    | _ => none
  | _, _ => none
theorem atD_neg {α : Type} (xs : List α) (k : Nat) : atD xs (Int.negSucc k) = if k < xs.length then xs[xs.length - (k + 1)]? else none := rfl
theorem atD_atI {α : Type} {xs : List α} {i : Int} {x : α} (h : atD xs i = some x) : atI xs i = some x := by
  cases i with
  | ofNat k => exact atI_nat h
  | negSucc k =>
    rw [atD_neg] at h
    split at h
    · rename_i hk
      have e : ixN xs.length (Int.negSucc k) = some (xs.length - (k + 1)) := by
        unfold ixN
        rw [if_neg (by omega), if_pos (by omega)]
        congr 1
        omega
      unfold atI
      rw [e]
      exact h
    · cases h
section
variable {K : PySem.W.Frag} {B F0 H : Hp} {w : Wd}
theorem lsD_ok {x : D} {v : V} {ds : List D} (R : RlW B F0 w H) (r : RpW B w x v) (h : lsD w.S x = some ds) : ∃ a vs, v = .ref a ∧ Rd H a (.lst vs) ∧ RpsW B w ds vs := by
  unfold lsD at h
  split at h
  · cases h; cases r with | z q => cases q with | lst a b => exact ⟨_, _, rfl, .inl (R.fh _ _ a), RpDs.zs b⟩
  · cases h; cases r with | b q => cases q with | lst a b => exact ⟨_, _, rfl, a.elim (fun z => R.fh.rd z) fun z => R.bh.rd z, RpDs.bzs b⟩
  · split at h
    · rename_i e
      cases h; cases r with | r hi => obtain ⟨vs, hv, rv⟩ := R.ob _ _ e; exact ⟨_, vs, rfl, .inl hv, rv⟩
    · cases h
  · cases h
theorem tpD_ok {x : D} {v : V} {ds : List D} (R : RlW B F0 w H) (r : RpW B w x v) (h : tpD x = some ds) : ∃ a vs, v = .ref a ∧ H a = some (.tup vs) ∧ RpsW B w ds vs := by
  unfold tpD at h
  split at h
  · cases h; cases r with | z q => cases q with | tup a b => exact ⟨_, _, rfl, R.fh _ _ a, RpDs.zs b⟩
  · cases h; cases r with | b q => cases q with | tup a b => exact ⟨_, _, rfl, R.fh _ _ a, RpDs.bzs b⟩
  · cases h; cases r with | t a b => exact ⟨_, _, rfl, R.fh _ _ a, b⟩
  · cases h
theorem sqD_ok {x : D} {v : V} {ds : List D} (R : RlW B F0 w H) (r : RpW B w x v) (h : sqD w.S x = some ds) : ∃ a vs, v = .ref a ∧ (SqL K H a vs ∨ SqT K H a vs) ∧ RpsW B w ds vs := by
  unfold sqD at h
  split at h
  · cases h; cases r with | z q => cases q with | tup a b => exact ⟨_, _, rfl, .inr (.inl (.inl (R.fh _ _ a))), RpDs.zs b⟩
  · cases h; cases r with | b q => cases q with | tup a b => exact ⟨_, _, rfl, .inr (.inl (.inl (R.fh _ _ a))), RpDs.bzs b⟩
  · cases h; cases r with | t a b => exact ⟨_, _, rfl, .inr (.inl (.inl (R.fh _ _ a))), b⟩
  · obtain ⟨a, vs, e, h1, h2⟩ := lsD_ok R r h
    exact ⟨a, vs, e, .inl (.inl h1), h2⟩
theorem ixD_ok {x d : D} {v : V} {i : Int} (R : RlW B F0 w H) (r : RpW B w x v) (h : ixD w.S x i = some d) : ∃ a vs u, v = .ref a ∧ (SqL K H a vs ∨ SqT K H a vs) ∧ atI vs i = some u ∧ RpW B w d u := by
  have key : ∀ {ds : List D} {vs : List V}, RpsW B w ds vs → atD ds i = some d → ∃ u, atI vs i = some u ∧ RpW B w d u := fun {ds vs} rv e => by
    cases i with
    | ofNat k =>
      obtain ⟨u, h1, h2⟩ := RpDs.get rv e
      exact ⟨u, atI_nat h1, h2⟩
    | negSucc k =>
      have e2 : atD ds (Int.negSucc k) = some d := e
      rw [atD_neg] at e
      split at e
      · rename_i hk
        obtain ⟨u, h1, h2⟩ := RpDs.get rv e
        refine ⟨u, atD_atI ?_, h2⟩
        have hl : vs.length = ds.length := rv.length.symm
        rw [atD_neg, hl, if_pos hk]
        exact h1
      · cases e
  have mp : ∀ {f : PyData → D} {ds : List PyData}, (atD ds i).map f = some d → atD (ds.map f) i = some d := fun {f ds} e => by
    cases i with
    | ofNat k => show (ds.map f)[k]? = _; rw [List.getElem?_map]; exact e
    | negSucc k =>
      rw [atD_neg] at e ⊢
      rw [List.length_map]
      split at e
      · rename_i hk
        rw [if_pos hk, List.getElem?_map]; exact e
      · simp at e
  unfold ixD at h
  split at h
  · cases r with | z q => cases q with | lst a b => obtain ⟨u, h1, h2⟩ := key (RpDs.zs b) (mp h); exact ⟨_, _, u, rfl, .inl (.inl (.inl (R.fh _ _ a))), h1, h2⟩
  · cases r with | b q => cases q with | lst a b => obtain ⟨u, h1, h2⟩ := key (RpDs.bzs b) (mp h); exact ⟨_, _, u, rfl, .inl (.inl (a.elim (fun z => R.fh.rd z) fun z => R.bh.rd z)), h1, h2⟩
  · cases r with | z q => cases q with | tup a b => obtain ⟨u, h1, h2⟩ := key (RpDs.zs b) (mp h); exact ⟨_, _, u, rfl, .inr (.inl (.inl (R.fh _ _ a))), h1, h2⟩
  · cases r with | b q => cases q with | tup a b => obtain ⟨u, h1, h2⟩ := key (RpDs.bzs b) (mp h); exact ⟨_, _, u, rfl, .inr (.inl (.inl (R.fh _ _ a))), h1, h2⟩
  · cases r with | t a b => obtain ⟨u, h1, h2⟩ := key b h; exact ⟨_, _, u, rfl, .inr (.inl (.inl (R.fh _ _ a))), h1, h2⟩
  · split at h
    · rename_i e
      cases r with | r hi => obtain ⟨vs, hv, rv⟩ := R.ob _ _ e; obtain ⟨u, h1, h2⟩ := key rv h; exact ⟨_, _, u, rfl, .inl (.inl (.inl hv)), h1, h2⟩
    · cases h
  · cases h
end

/-! ### the ends of operations -/
section
variable {B F0 H : Hp} {w : Wd} {K : K1} {Q : VK}
theorem Fi.data {d : PyData} {v : V} (k : Fi B F0 w K Q) (R : RlW B F0 w H) (r : ∀ L T, RpT L T d v) (h : K (.z d) w.S) : Q v H := k _ w.S v H w.μ w.F R .refl (.z (r _ _)) h
theorem Fi.int {i : Int} (k : Fi B F0 w K Q) (R : RlW B F0 w H) (h : K (.z (.int i)) w.S) : Q (.int i) H := k.data R (fun _ _ => .int i) h
theorem Fi.bl {i : Bool} (k : Fi B F0 w K Q) (R : RlW B F0 w H) (h : K (.z (.bool i)) w.S) : Q (.bl i) H := k.data R (fun _ _ => .bl i) h
theorem Fi.str {i : Str} (k : Fi B F0 w K Q) (R : RlW B F0 w H) (h : K (.z (.str i)) w.S) : Q (.str i) H := k.data R (fun _ _ => .str i) h
theorem Fi.non (k : Fi B F0 w K Q) (R : RlW B F0 w H) (h : K (.z .none) w.S) : Q .non H := k.data R (fun _ _ => .non) h
/-- a new list -/
theorem Fi.newL {ds : List D} {vs : List V} (k : Fi B F0 w K Q) (R : RlW B F0 w H) (r : RpsW B w ds vs) (h : K (.r w.S.length) (w.S ++ [.lst ds])) {p : Addr} (hp : H p = none) : Q (.ref p) (upd H p (.lst vs)) := by
  obtain ⟨R2, X2⟩ := R.grow (u := .lst vs) (o := .lst ds) hp fun G hG => ⟨vs, hG, r⟩
  have e : muX w.μ w.S.length p w.S.length = p := by unfold muX; rw [if_pos rfl]
  have q : RpD B w.F (muX w.μ w.S.length p) (w.S ++ [Ob.lst ds]).length (.r w.S.length) (.ref (muX w.μ w.S.length p w.S.length)) := .r (by simp)
  rw [e] at q
  exact k _ _ _ _ _ _ R2 X2 q h
/-- a new tuple -/
theorem Fi.newT {ds : List D} {vs : List V} (k : Fi B F0 w K Q) (R : RlW B F0 w H) (r : RpsW B w ds vs) (h : K (mkT ds) w.S) {p : Addr} (hp : H p = none) : Q (.ref p) (upd H p (.tup vs)) := by
  obtain ⟨R2, X2⟩ := R.froze (.tup vs) hp
  exact k _ _ _ _ _ _ R2 X2 (mkT_rp upd_same (r.xt X2)) h
/-- a list is written -/
theorem Fi.setL {n : Nat} {ds : List D} {vs : List V} {d : D} {v : V} (k : Fi B F0 w K Q) (R : RlW B F0 w H) (hn : n < w.S.length) (r : RpsW B w ds vs) (rd : RpW B w d v) (h : K d (w.S.set n (.lst ds))) : Q v (upd H (w.μ n) (.lst vs)) := by
  obtain ⟨R2, X2⟩ := R.write (u := .lst vs) (o := .lst ds) hn fun G hG => ⟨vs, hG, r⟩
  exact k _ _ _ _ _ _ R2 X2 (rd.xt X2) h
end
def lsR (S : Sto) (n : Nat) : Option (List D) := match S[n]? with
  | some (.lst ds) => some ds
  | _ => none
theorem lsR_ok {B F0 H : Hp} {w : Wd} {n : Nat} {ds : List D} (R : RlW B F0 w H) (h : lsR w.S n = some ds) : n < w.S.length ∧ ∃ vs, H (w.μ n) = some (.lst vs) ∧ RpsW B w ds vs := by
  unfold lsR at h
  split at h
  · rename_i e
    cases h
    obtain ⟨vs, hv, rv⟩ := R.ob _ _ e
    exact ⟨Rl.lt e, vs, hv, rv⟩
  · cases h

/-! ### arithmetic and + -/
def pCat : P2 := fun x y S K => pGet (lsD S x) fun xs => pGet (lsD S y) fun ys => pReq (xs.length + ys.length ≤ sizeLine) (K (.r S.length) (S ++ [.lst (xs ++ ys)]))
def pAdd : P2 := fun x y S K => match x, y with
  | .z (.int i), .z (.int j) => K (.z (.int (i + j))) S
  | .z (.str a), .z (.str b) => pReq (a.length + b.length ≤ sizeLine) (K (.z (.str (a ++ b))) S)
  | x, y => pCat x y S K
def pSub : P2 := fun x y S K => match x, y with
  | .z (.int i), .z (.int j) => K (.z (.int (i - j))) S
  | _, _ => False
/-- k times a text -/
def strRep (x : Str) (k : Nat) : Str := ⟨(List.replicate k x.cps.toList).flatten.toArray⟩
def pMul : P2 := fun x y S K => match x, y with
  | .z (.int i), .z (.int j) => pReq (CMul i j) (K (.z (.int (i * j))) S)
  | .z (.str a), .z (.int j) => pReq (0 ≤ j ∧ j ≤ 1000 ∧ a.length ≤ 1000) (K (.z (.str (strRep a j.toNat))) S)
  | _, _ => False
def pDiv : P2 := fun x y S K => match x, y with
  | .z (.int i), .z (.int j) => pReq (j ≠ 0 ∧ j.natAbs < 1073741824) (K (.z (.int (i.fdiv j))) S)
  | _, _ => False
def pMod : P2 := fun x y S K => match x, y with
  | .z (.int i), .z (.int j) => pReq (j ≠ 0) (K (.z (.int (i.fmod j))) S)
  | _, _ => False
def pPow : P2 := fun x y S K => match x, y with
  | .z (.int i), .z (.int j) => pReq (0 ≤ j ∧ j ≤ 1000000 ∧ i.natAbs < 2 ^ 64) (K (.z (.int (i ^ j.toNat))) S)
  | _, _ => False
def pShl : P2 := fun x y S K => match x, y with
  | .z (.int i), .z (.int j) => pReq (0 ≤ j ∧ j ≤ 1000000 ∧ i.natAbs < 2 ^ 64) (K (.z (.int (i * 2 ^ j.toNat))) S)
  | _, _ => False
def pShr : P2 := fun x y S K => match x, y with
  | .z (.int i), .z (.int j) => pReq (0 ≤ j) (K (.z (.int (i / 2 ^ j.toNat))) S)
  | _, _ => False
def pAnd : P2 := fun x y S K => match x, y with
  | .z (.int i), .z (.int j) => K (.z (.int (Builtin.bitAnd i j))) S
  | _, _ => False
def pOr : P2 := fun x y S K => match x, y with
  | .z (.int i), .z (.int j) => K (.z (.int (Builtin.bitOr i j))) S
  | _, _ => False
theorem rpInt {B : Hp} {w : Wd} {i : Int} {v : V} (r : RpW B w (.z (.int i)) v) : v = .int i := by cases r with | z q => cases q; rfl
theorem rpStr {B : Hp} {w : Wd} {i : Str} {v : V} (r : RpW B w (.z (.str i)) v) : v = .str i := by cases r with | z q => cases q; rfl
theorem rpBl {B : Hp} {w : Wd} {i : Bool} {v : V} (r : RpW B w (.z (.bool i)) v) : v = .bl i := by cases r with | z q => cases q; rfl
theorem strRep_ok (x : Str) : ∀ k : Nat, (List.replicate k x.cps).foldl (· ++ ·) #[] = (strRep x k).cps := by
  have h : ∀ (k : Nat) (acc : Array Nat), (List.replicate k x.cps).foldl (· ++ ·) acc = acc ++ (List.replicate k x.cps.toList).flatten.toArray := by
    intro k
    induction k with
    | zero => intro acc; simp
    | succ k ih => intro acc; rw [List.replicate_succ, List.foldl_cons, ih, List.replicate_succ, List.flatten_cons]; apply Array.ext'; simp
  intro k
  rw [h]; simp [strRep]
section
variable {X : Cx} {B F0 : Hp}
theorem catR {f : Value → Value → Sem Value} (hf : ∀ {pins : List (Addr × Obj)} {s : Shared} {σ : St} {H : Hp} {l b : Addr} {xs zs : List V} {Q : VK}, Inv X pins σ H s → Rd H l (.lst xs) → Rd H b (.lst zs) → xs.length + zs.length ≤ sizeLine → (∀ p, H p = none → Q (.ref p) (upd H p (.lst (xs ++ zs)))) →
    wpAny (model X.prog X.w) X.A (f (.ref l) (.ref b)) (EP X pins σ Q) X.xe s) : OpR X f (r2 B F0 pCat) := by
  intro pins s σ H x y v u Q I rx ry h
  obtain ⟨w, dx, dy, K, R, r1, r2, h, k⟩ := h
  obtain ⟨xs, e1, h⟩ := h.out
  obtain ⟨ys, e2, h⟩ := h.out
  obtain ⟨hz, h⟩ := h.out
  obtain ⟨a, vs, rfl, d1, q1⟩ := lsD_ok R r1 e1
  obtain ⟨b, us, rfl, d2, q2⟩ := lsD_ok R r2 e2
  cases rx; cases ry
  exact hf I d1 d2 (by rw [← q1.length, ← q2.length]; exact hz) fun p hp => k.newL R (q1.append q2) h hp
theorem cat_lists {pins : List (Addr × Obj)} {s : Shared} {σ : St} {H : Hp} {l b : Addr} {xs zs : List V} {Q : VK} (I : Inv X pins σ H s) (h1 : Rd H l (.lst xs)) (h2 : Rd H b (.lst zs)) (hz : xs.length + zs.length ≤ sizeLine)
    (q : ∀ p, H p = none → Q (.ref p) (upd H p (.lst (xs ++ zs)))) : wpAny (model X.prog X.w) X.A (binaryOp .Add (.ref l) (.ref b)) (EP X pins σ Q) X.xe s := by
  obtain ⟨z1, its, n, v1, e1⟩ := h1.ok I.hok
  obtain ⟨z2, jts, m, v2, e2⟩ := h2.ok I.hok
  have l1 := v1.length
  have l2 := v2.length
  refine PySem.P.add_list e1 e2 ?_ ?_
  · have ea : its.toArray ++ jts.toArray = (its ++ jts).toArray := by simp
    rw [ea]
    exact ⟨.ref _, _, I.lnew (t' := s.toks) (v1.append v2) (by simp; omega), rfl, q _ I.fresh⟩
  · simp; omega
theorem oAdd : OpR X (binaryOp .Add) (r2 B F0 pAdd) := by
  intro pins s σ H x y v u Q I rx ry h
  obtain ⟨w, dx, dy, K, R, q1, q2, h, k⟩ := h
  unfold pAdd at h
  split at h
  · rw [rpInt q1] at rx; rw [rpInt q2] at ry
    exact op_add pins s σ H _ _ v u Q I rx ry ⟨_, _, rfl, rfl, k.int R h⟩
  · obtain ⟨hz, h⟩ := h.out
    rw [rpStr q1] at rx; rw [rpStr q2] at ry
    exact op_add_str pins s σ H _ _ v u Q I rx ry ⟨_, _, rfl, rfl, hz, k.str R h⟩
  · exact catR (B := B) (F0 := F0) (fun {_ _ _ _ _ _ _ _ _} I a b c d => cat_lists I a b c d) pins s σ H _ _ v u Q I rx ry ⟨w, _, _, K, R, q1, q2, h, k⟩
/-- two ints, by a rule -/
theorem intOp {op : Operator} {g : Int → Int → Int} {C : Int → Int → Prop} {p : P2} (ho : OpR X (binaryOp op) (rI C fun i j => .int (g i j))) (hp : ∀ x y S K, p x y S K → ∃ i j, x = .z (.int i) ∧ y = .z (.int j) ∧ C i j ∧ K (.z (.int (g i j))) S) : OpR X (binaryOp op) (r2 B F0 p) := by
  intro pins s σ H x y v u Q I rx ry h
  obtain ⟨w, dx, dy, K, R, q1, q2, h, k⟩ := h
  obtain ⟨i, j, rfl, rfl, hc, h5⟩ := hp _ _ _ _ h
  rw [rpInt q1] at rx; rw [rpInt q2] at ry
  exact ho pins s σ H _ _ v u Q I rx ry ⟨_, _, rfl, rfl, hc, k.int R h5⟩
theorem intOp0 {op : Operator} {g : Int → Int → Int} {p : P2} (ho : OpR X (binaryOp op) (rI0 fun i j => .int (g i j))) (hp : ∀ x y S K, p x y S K → ∃ i j, x = .z (.int i) ∧ y = .z (.int j) ∧ K (.z (.int (g i j))) S) : OpR X (binaryOp op) (r2 B F0 p) := by
  intro pins s σ H x y v u Q I rx ry h
  obtain ⟨w, dx, dy, K, R, q1, q2, h, k⟩ := h
  obtain ⟨i, j, rfl, rfl, h5⟩ := hp _ _ _ _ h
  rw [rpInt q1] at rx; rw [rpInt q2] at ry
  exact ho pins s σ H _ _ v u Q I rx ry ⟨_, _, rfl, rfl, k.int R h5⟩
theorem oSub : OpR X (binaryOp .Sub) (r2 B F0 pSub) := intOp0 op_sub fun x y S K h => by
  unfold pSub at h; split at h
  · exact ⟨_, _, rfl, rfl, h⟩
  · exact h.elim
theorem oMul : OpR X (binaryOp .Mult) (r2 B F0 pMul) := by
  intro pins s σ H x y v u Q I rx ry h
  obtain ⟨w, dx, dy, K, R, q1, q2, h, k⟩ := h
  unfold pMul at h
  split at h
  · obtain ⟨hc, h⟩ := h.out
    rw [rpInt q1] at rx; rw [rpInt q2] at ry
    exact op_mul pins s σ H _ _ v u Q I rx ry ⟨_, _, rfl, rfl, hc, k.int R h⟩
  · rename_i a j
    obtain ⟨⟨h0, h1, h2⟩, h⟩ := h.out
    rw [rpStr q1] at rx; rw [rpInt q2] at ry
    obtain ⟨t, rfl⟩ := rx
    obtain ⟨t', rfl⟩ := ry
    have hm : a.length * j.toNat ≤ 1000000 := Nat.le_trans (Nat.mul_le_mul h2 (show j.toNat ≤ 1000 by omega)) (by decide)
    refine PySem.P.mul_str (by rw [decide_eq_false (by omega), decide_eq_false (by omega)]; rfl) (fun hn _ => ?_) (fun _ _ => ?_) ?_
    · have e : (1000 : Int) ≤ (2 ^ 63 - 1) / j := (Int.le_ediv_iff_mul_le (by omega)).mpr (by omega)
      omega
    · unfold Builtin.Str.tooLong
      exact decide_eq_false (by rw [sizeLine_eq]; omega)
    · have fin : ∀ t, EP X pins σ Q (.str (strRep a j.toNat) t) s := fun t => ⟨.str _, H, I, ⟨t, rfl⟩, k.str R h⟩
      have fin' : ∀ t n, EP X pins σ Q (.str (strRep a j.toNat) t) { s with toks := n } := fun t n => ⟨.str _, H, I.tok n, ⟨t, rfl⟩, k.str R h⟩
      by_cases c1 : j < 1
      · rw [if_pos c1]
        have e : strRep a j.toNat = Str.empty := by
          have : j.toNat = 0 := by omega
          rw [this]; rfl
        rw [e] at fin'
        exact ⟨by decide, fin' _ _⟩
      · rw [if_neg c1]
        by_cases c2 : (j == 1 || a.length == 0) = true
        · rw [if_pos c2]
          have e : strRep a j.toNat = a := by
            rcases Bool.or_eq_true_iff.mp c2 with c | c
            · have : j.toNat = 1 := by have := eq_of_beq c; omega
              rw [this]
              simp [strRep]
            · have hl : a.cps.toList = [] := by
                have := eq_of_beq c
                exact List.eq_nil_of_length_eq_zero this
              have ha : a = ⟨#[]⟩ := by
                cases a with | mk cps => simp at hl; rw [hl]
              rw [ha]; simp [strRep]
          rw [e] at fin
          exact fin t
        · rw [if_neg c2, strRep_ok]
          have e : (⟨(strRep a j.toNat).cps⟩ : Str) = strRep a j.toNat := rfl
          rw [e]
          refine ⟨?_, fin' _ _⟩
          show (strRep a j.toNat).length ≤ _
          have : (strRep a j.toNat).length = j.toNat * a.length := by
            show (strRep a j.toNat).cps.size = _
            simp [strRep, Str.length]
          rw [this, Nat.mul_comm, sizeLine_eq]; omega
  · exact h.elim
theorem oDiv : OpR X (binaryOp .FloorDiv) (r2 B F0 pDiv) := intOp op_fdivN fun x y S K h => by
  unfold pDiv at h; split at h
  · obtain ⟨hc, h⟩ := h.out; exact ⟨_, _, rfl, rfl, hc, h⟩
  · exact h.elim
theorem oMod : OpR X (binaryOp .Mod) (r2 B F0 pMod) := intOp op_modN fun x y S K h => by
  unfold pMod at h; split at h
  · obtain ⟨hc, h⟩ := h.out; exact ⟨_, _, rfl, rfl, hc, h⟩
  · exact h.elim
theorem oPow : OpR X (binaryOp .Pow) (r2 B F0 pPow) := intOp op_pow fun x y S K h => by
  unfold pPow at h; split at h
  · obtain ⟨hc, h⟩ := h.out; exact ⟨_, _, rfl, rfl, hc, h⟩
  · exact h.elim
theorem oShl : OpR X (binaryOp .LShift) (r2 B F0 pShl) := intOp op_shl fun x y S K h => by
  unfold pShl at h; split at h
  · obtain ⟨hc, h⟩ := h.out; exact ⟨_, _, rfl, rfl, hc, h⟩
  · exact h.elim
theorem oShr : OpR X (binaryOp .RShift) (r2 B F0 pShr) := intOp op_shr fun x y S K h => by
  unfold pShr at h; split at h
  · obtain ⟨hc, h⟩ := h.out; exact ⟨_, _, rfl, rfl, hc, h⟩
  · exact h.elim
theorem oAnd : OpR X (binaryOp .BitAnd) (r2 B F0 pAnd) := intOp0 op_and fun x y S K h => by
  unfold pAnd at h; split at h
  · exact ⟨_, _, rfl, rfl, h⟩
  · exact h.elim
theorem oOr : OpR X (binaryOp .BitOr) (r2 B F0 pOr) := intOp0 op_or fun x y S K h => by
  unfold pOr at h; split at h
  · exact ⟨_, _, rfl, rfl, h⟩
  · exact h.elim
end
end PL

set_option Elab.async false
set_option linter.all false
set_option maxRecDepth 100000
/-! PL, part 4: comparisons, subscripts, calls and methods by value -/
namespace PL
open PySem L2

abbrev B2 := D → D → Sto → (Bool → Prop) → Prop
def cB (p : B2) : P2 := fun x y S K => p x y S fun b => K (.z (.bool b)) S
/-- any data: by what is seen -/
@[irreducible] def bEqG : B2 := fun x y S k => ∃ d e, Vw S x d ∧ Vw S y e ∧ SeqAt.shaped d = true ∧ SeqAt.shaped e = true ∧ k (PyData.eqv d e)
def bEq : B2 := fun x y S k => match x, y with
  | .z (.int i), .z (.int j) => k (decide (i = j))
  | .z (.str i), .z (.str j) => k (decide (i = j))
  | .z (.bool i), .z (.bool j) => k (decide (i = j))
  | x, y => bEqG x y S k
def bNe : B2 := fun x y S k => bEq x y S fun b => k (!b)
def bI (g : Int → Int → Bool) : B2 := fun x y _ k => match x, y with
  | .z (.int i), .z (.int j) => k (g i j)
  | _, _ => False
abbrev bLt : B2 := bI fun i j => decide (i < j)
abbrev bLe : B2 := bI fun i j => decide (i ≤ j)
abbrev bGt : B2 := bI fun i j => decide (j < i)
abbrev bGe : B2 := bI fun i j => decide (j ≤ i)
def isN : D → Bool
  | .z .none => true
  | .b .none => true
  | _ => false
def bIs : B2 := fun x y _ k => match y with
  | .z .none => k (isN x)
  | _ => False
def bIsNot : B2 := fun x y S k => bIs x y S fun b => k (!b)
/-- a dict's key -/
def keyD : D → Option Key
  | .z (.int i) => some (.inl i)
  | .z (.str s) => some (.inr s)
  | _ => none
def dcD (S : Sto) : D → Option (List (Key × D))
  | .r n => match S[n]? with
    | some (.dic kvs) => some kvs
    | _ => none
  | _ => none
def hasD (kvs : List (Key × D)) (k : Key) : Bool := kvs.any fun p => decide (p.1 = k)
@[irreducible] def bInG : B2 := fun x y S k => (∃ d ds, Vw S x d ∧ Vw S y (.list ds) ∧ SeqAt.shaped d = true ∧ SeqAt.shaped (.list ds) = true ∧ k (ds.any fun z => PyData.eqv z d)) ∨
  (∃ (s : Str) (ss : List Str), x = .z (.str s) ∧ Vw S y (.tuple (ss.map .str)) ∧ k (decide (s ∈ ss)))
def bIn : B2 := fun x y S k => match x, y with
  | .z (.str ⟨⟨[c]⟩⟩), .z (.str s) => k (decide (c ∈ s.cps.toList))
  | x, .r n => match S[n]? with
    | some (.dic kvs) => pGet (keyD x) fun κ => k (hasD kvs κ)
    | _ => bInG x (.r n) S k
  | x, y => bInG x y S k
def bNotIn : B2 := fun x y S k => bIn x y S fun b => k (!b)

section
variable {X : Cx} {B F0 : Hp}
theorem cmpR {f : Value → Value → Sem Value} {p : B2}
    (hf : ∀ {pins : List (Addr × Obj)} {s : Shared} {σ : St} {H : Hp} {x y : V} {v u : Value} {w : Wd} {dx dy : D} {k : Bool → Prop} {Q : VK}, Inv X pins σ H s → RelV x v → RelV y u → RlW B F0 w H → RpW B w dx x → RpW B w dy y → p dx dy w.S k → (∀ b, k b → Q (.bl b) H) →
      wpAny (model X.prog X.w) X.A (f v u) (EP X pins σ Q) X.xe s) : OpR X f (r2 B F0 (cB p)) := by
  intro pins s σ H x y v u Q I rx ry h
  obtain ⟨w, dx, dy, K, R, q1, q2, h, k⟩ := h
  exact hf I rx ry R q1 q2 h fun b hb => k.bl R hb
theorem eq_int_dec (i j : Int) : decide (V.int i = V.int j) = decide (i = j) := by rw [dec_int]; exact Bool.beq_eq_decide_eq i j
theorem eq_str_dec (i j : Str) : decide (V.str i = V.str j) = decide (i = j) := by rw [dec_str]; by_cases h : i = j <;> simp [h]
theorem eq_bl_dec (i j : Bool) : decide (V.bl i = V.bl j) = decide (i = j) := by rw [dec_bl]; by_cases h : i = j <;> simp [h]
theorem oEq (hu : X.A.units + 100 < cLine) : OpR X (compareOp .Eq) (r2 B F0 (cB bEq)) := cmpR fun {pins s σ H x y v u w dx dy k Q} I rx ry R q1 q2 h kb => by
  unfold bEq at h
  split at h
  · rw [rpInt q1] at rx; rw [rpInt q2] at ry
    exact op_eq pins s σ H _ _ v u Q I rx ry ⟨rfl, by rw [eq_int_dec]; exact kb _ h⟩
  · rw [rpStr q1] at rx; rw [rpStr q2] at ry
    exact op_eq pins s σ H _ _ v u Q I rx ry ⟨rfl, by rw [eq_str_dec]; exact kb _ h⟩
  · rw [rpBl q1] at rx; rw [rpBl q2] at ry
    exact op_eq pins s σ H _ _ v u Q I rx ry ⟨rfl, by rw [eq_bl_dec]; exact kb _ h⟩
  · unfold bEqG at h
    obtain ⟨d, e, w1, w2, s1, s2, h⟩ := h
    exact op_eqD (by omega) pins s σ H x y v u Q I rx ry ⟨d, e, RpT.dp R.fh _ _ (Vw.rp R _ _ _ w1 q1), RpT.dp R.fh _ _ (Vw.rp R _ _ _ w2 q2), s1, s2, kb _ h⟩
theorem oNe (hu : X.A.units + 100 < cLine) : OpR X (compareOp .NotEq) (r2 B F0 (cB bNe)) := cmpR fun {pins s σ H x y v u w dx dy k Q} I rx ry R q1 q2 h kb => by
  unfold bNe bEq at h
  split at h
  · rw [rpInt q1] at rx; rw [rpInt q2] at ry
    exact op_ne pins s σ H _ _ v u Q I rx ry ⟨rfl, by rw [eq_int_dec]; exact kb _ h⟩
  · rw [rpStr q1] at rx; rw [rpStr q2] at ry
    exact op_ne pins s σ H _ _ v u Q I rx ry ⟨rfl, by rw [eq_str_dec]; exact kb _ h⟩
  · rw [rpBl q1] at rx; rw [rpBl q2] at ry
    exact op_ne pins s σ H _ _ v u Q I rx ry ⟨rfl, by rw [eq_bl_dec]; exact kb _ h⟩
  · unfold bEqG at h
    obtain ⟨d, e, w1, w2, s1, s2, h⟩ := h
    exact op_neD (by omega) pins s σ H x y v u Q I rx ry ⟨d, e, RpT.dp R.fh _ _ (Vw.rp R _ _ _ w1 q1), RpT.dp R.fh _ _ (Vw.rp R _ _ _ w2 q2), s1, s2, kb _ h⟩
theorem cmpI {op : CmpOp} {g : Int → Int → Bool} (ho : OpR X (compareOp op) (rI0 fun i j => .bl (g i j))) : OpR X (compareOp op) (r2 B F0 (cB (bI g))) := cmpR fun {pins s σ H x y v u w dx dy k Q} I rx ry R q1 q2 h kb => by
  unfold bI at h
  split at h
  · rw [rpInt q1] at rx; rw [rpInt q2] at ry
    exact ho pins s σ H _ _ v u Q I rx ry ⟨_, _, rfl, rfl, kb _ h⟩
  · exact h.elim
theorem oLt : OpR X (compareOp .Lt) (r2 B F0 (cB bLt)) := cmpI op_lt
theorem oLe : OpR X (compareOp .LtE) (r2 B F0 (cB bLe)) := cmpI op_le
theorem oGt : OpR X (compareOp .Gt) (r2 B F0 (cB bGt)) := cmpI op_gt
theorem oGe : OpR X (compareOp .GtE) (r2 B F0 (cB bGe)) := cmpI op_ge
theorem isN_ok {w : Wd} {d : D} {v : V} (r : RpW B w d v) : decide (v = .non) = isN d := by
  cases d with
  | z d => cases r with | z q => cases q <;> rfl
  | b d => cases r with | b q => cases q <;> rfl
  | r n => cases r; rfl
  | t ds => cases r; rfl
  | o a => cases r; rfl
  | y T => cases r; rfl
theorem oIs : OpR X (compareOp .Is) (r2 B F0 (cB bIs)) := cmpR fun {pins s σ H x y v u w dx dy k Q} I rx ry R q1 q2 h kb => by
  unfold bIs at h
  split at h
  · have e : y = .non := by cases q2 with | z q => cases q; rfl
    exact op_isN pins s σ H x y v u Q I rx ry ⟨e, by rw [isN_ok q1]; exact kb _ h⟩
  · exact h.elim
theorem oIsNot : OpR X (compareOp .IsNot) (r2 B F0 (cB bIsNot)) := cmpR fun {pins s σ H x y v u w dx dy k Q} I rx ry R q1 q2 h kb => by
  unfold bIsNot bIs at h
  split at h
  · have e : y = .non := by cases q2 with | z q => cases q; rfl
    exact op_notN pins s σ H x y v u Q I rx ry ⟨e, by rw [isN_ok q1]; exact kb _ h⟩
  · exact h.elim
theorem keyD_ok {w : Wd} {d : D} {v : V} {κ : Key} (r : RpW B w d v) (h : keyD d = some κ) : v = kV κ := by
  unfold keyD at h
  split at h
  · cases h; exact rpInt r
  · cases h; exact rpStr r
  · cases h
end

/-! ### dicts -/
def getD' (kvs : List (Key × D)) (k : Key) : Option D := (kvs.find? fun p => decide (p.1 = k)).map (·.2)
def putD (kvs : List (Key × D)) (k : Key) (v : D) : List (Key × D) := if hasD kvs k = true then kvs.map (fun p => if p.1 = k then (p.1, v) else p) else kvs ++ [(k, v)]
def KvR (B F : Hp) (μ : Nat → Addr) (n : Nat) : List (Key × D) → List (Key × V) → Prop := Paired fun (p : Key × D) (q : Key × V) => p.1 = q.1 ∧ RpD B F μ n p.2 q.2
section
variable {B F0 H : Hp} {w : Wd}
abbrev KvW (B : Hp) (w : Wd) (kvs : List (Key × D)) (ws : List (Key × V)) : Prop := KvR B w.F w.μ w.S.length kvs ws
theorem KvR.get {kvs : List (Key × D)} {ws : List (Key × V)} (h : KvW B w kvs ws) (k : Key) : (getD' kvs k = none ∧ valV ws k = none) ∨ ∃ d v, getD' kvs k = some d ∧ valV ws k = some v ∧ RpW B w d v := by
  induction h with
  | nil => exact .inl ⟨rfl, rfl⟩
  | @cons p q ps qs r t ih =>
    by_cases e : p.1 = k
    · refine .inr ⟨p.2, q.2, ?_, ?_, r.2⟩
      · unfold getD'; rw [List.find?_cons_of_pos (by simp [e])]; rfl
      · exact valV_pos (r.1 ▸ e)
    · have e' : ¬ q.1 = k := r.1 ▸ e
      have h1 : getD' (p :: ps) k = getD' ps k := by unfold getD'; rw [List.find?_cons_of_neg (by simp [e])]
      rw [h1, valV_neg e']
      exact ih
theorem hasD_get {kvs : List (Key × D)} {k : Key} : hasD kvs k = (getD' kvs k).isSome := by
  induction kvs with
  | nil => rfl
  | cons p ps ih =>
    by_cases e : p.1 = k
    · simp [hasD, getD', List.find?_cons, e]
    · unfold hasD getD' at *
      rw [List.any_cons, List.find?_cons_of_neg (by simp [e]), ih]
      simp [e]
theorem KvR.has {kvs : List (Key × D)} {ws : List (Key × V)} (h : KvW B w kvs ws) (k : Key) : (ws.any fun kv => decide (kv.1 = k)) = hasD kvs k := by
  induction h with
  | nil => rfl
  | @cons p q ps qs r t ih => unfold hasD at *; rw [List.any_cons, List.any_cons, ih, r.1]
theorem KvR.put {kvs : List (Key × D)} {ws : List (Key × V)} {d : D} {v : V} (h : KvW B w kvs ws) (k : Key) (rd : RpW B w d v) : KvW B w (putD kvs k d) (putK ws k v) := by
  have hh := h.has k
  unfold putD putK
  by_cases c : hasD kvs k = true
  · rw [if_pos c, if_pos (by rw [hh]; exact c)]
    clear hh c
    induction h with
    | nil => exact .nil
    | @cons p q ps qs r t ih =>
      refine .cons ?_ ih
      show (if p.1 = k then (p.1, d) else p).1 = (if q.1 = k then (q.1, v) else q).1 ∧ RpD B w.F w.μ w.S.length (if p.1 = k then (p.1, d) else p).2 (if q.1 = k then (q.1, v) else q).2
      rw [← r.1]
      by_cases e : p.1 = k
      · rw [if_pos e, if_pos e]; exact ⟨rfl, rd⟩
      · rw [if_neg e, if_neg e]; exact r
  · rw [if_neg c, if_neg (by rw [hh]; exact c)]
    exact Paired.snoc h ⟨rfl, rd⟩
def dcR (S : Sto) (n : Nat) : Option (List (Key × D)) := match S[n]? with
  | some (.dic kvs) => some kvs
  | _ => none
theorem dcR_ok {n : Nat} {kvs : List (Key × D)} (R : RlW B F0 w H) (h : dcR w.S n = some kvs) : n < w.S.length ∧ ∃ ws, H (w.μ n) = some (.dK ws) ∧ KvW B w kvs ws := by
  unfold dcR at h
  split at h
  · rename_i e
    cases h
    obtain ⟨ws, hv, rv⟩ := R.ob _ _ e
    exact ⟨Rl.lt e, ws, hv, rv⟩
  · cases h
theorem Fi.setK {K : K1} {Q : VK} {n : Nat} {ds : List (Key × D)} {vs : List (Key × V)} {d : D} {v : V} (k : Fi B F0 w K Q) (R : RlW B F0 w H) (hn : n < w.S.length) (r : KvW B w ds vs) (rd : RpW B w d v) (h : K d (w.S.set n (.dic ds))) : Q v (upd H (w.μ n) (.dK vs)) := by
  obtain ⟨R2, X2⟩ := R.write (u := .dK vs) (o := .dic ds) hn fun G hG => ⟨vs, hG, r⟩
  exact k _ _ _ _ _ _ R2 X2 (rd.xt X2) h
end

section
variable {X : Cx} {B F0 : Hp}
theorem inV_strs (z : Str) : ∀ zs : List Str, inV (.str z) (zs.map V.str) = decide (z ∈ zs)
  | [] => rfl
  | c :: cs => by
    have h : inV (.str z) ((c :: cs).map V.str) = (eqV (V.str c) (V.str z) || inV (.str z) (cs.map V.str)) := rfl
    have e : eqV (V.str c) (V.str z) = decide (c = z) := by
      show (c == z) = decide (c = z)
      by_cases hc : c = z <;> simp [hc]
    rw [h, e, inV_strs z cs]
    by_cases hc : c = z
    · simp [hc]
    · have hz : ¬ z = c := fun e => hc e.symm
      simp [hc, hz]
theorem inG {neg : Bool} (hu : X.A.units + 100 < cLine) {pins : List (Addr × Obj)} {s : Shared} {σ : St} {H : Hp} {x y : V} {v u : Value} {w : Wd} {dx dy : D} {k : Bool → Prop} {Q : VK} (I : Inv X pins σ H s) (rx : RelV x v) (ry : RelV y u) (R : RlW B F0 w H) (q1 : RpW B w dx x) (q2 : RpW B w dy y) (h : bInG dx dy w.S k) (kb : ∀ b, k b → Q (.bl (if neg then !b else b)) H) :
    wpAny (model X.prog X.w) X.A (compareOp (if neg then .NotIn else .In) v u) (EP X pins σ Q) X.xe s := by
  unfold bInG at h
  rcases h with ⟨d, ds, w1, w2, s1, s2, h⟩ | ⟨z, zs, rfl, w2, h⟩
  · have a := RpT.dp (K := X.K) R.fh _ _ (Vw.rp R _ _ _ w1 q1)
    have b := RpT.dp (K := X.K) R.fh _ _ (Vw.rp R _ _ _ w2 q2)
    cases neg with
    | true => exact op_notInD (by omega) pins s σ H x y v u Q I rx ry ⟨d, ds, a, b, s1, s2, kb _ h⟩
    | false => exact op_inD (by omega) pins s σ H x y v u Q I rx ry ⟨d, ds, a, b, s1, s2, kb _ h⟩
  · cases rpStr q1
    have a := Vw.rp R _ _ _ w2 q2
    cases a with
    | tup h1 h2 =>
      have hv : ∀ (ss : List Str) (vs : List V), RpTs (LB H w.F) (TF w.F) (ss.map .str) vs → vs = ss.map V.str := fun ss => by
        induction ss with
        | nil => intro vs q; cases q; rfl
        | cons c cs ih => intro vs q; cases q with | cons q1 q2 => cases q1; rw [ih _ q2]; rfl
      have e := hv zs _ h2
      subst e
      have hin := inV_strs z zs
      have hq : (TF w.F) _ (zs.map V.str) := h1
      have hfl : (zs.map V.str).all flatV = true := by simp [flatV]
      cases neg with
      | true => exact op_notIn_seq pins s σ H _ _ v u Q I rx ry ⟨_, _, rfl, .inr (.inl (.inl (R.fh _ _ hq))), rfl, hfl, by rw [hin]; exact kb _ h⟩
      | false => exact op_in_seq pins s σ H _ _ v u Q I rx ry ⟨_, _, rfl, .inr (.inl (.inl (R.fh _ _ hq))), rfl, hfl, by rw [hin]; exact kb _ h⟩
theorem inR {neg : Bool} (hu : X.A.units + 100 < cLine) {pins : List (Addr × Obj)} {s : Shared} {σ : St} {H : Hp} {x y : V} {v u : Value} {w : Wd} {dx dy : D} {k : Bool → Prop} {Q : VK} (I : Inv X pins σ H s) (rx : RelV x v) (ry : RelV y u) (R : RlW B F0 w H) (q1 : RpW B w dx x) (q2 : RpW B w dy y) (h : bIn dx dy w.S k) (kb : ∀ b, k b → Q (.bl (if neg then !b else b)) H) :
    wpAny (model X.prog X.w) X.A (compareOp (if neg then .NotIn else .In) v u) (EP X pins σ Q) X.xe s := by
  unfold bIn at h
  split at h
  · rw [rpStr q1] at rx; rw [rpStr q2] at ry
    cases neg with
    | true => exact op_notIn_sign pins s σ H _ _ v u Q I rx ry ⟨_, _, rfl, rfl, kb _ h⟩
    | false => exact op_in_sign pins s σ H _ _ v u Q I rx ry ⟨_, _, rfl, rfl, kb _ h⟩
  · rename_i n
    split at h
    · rename_i kvs e
      obtain ⟨κ, hκ, h⟩ := h.out
      obtain ⟨hn, ws, hv, rv⟩ := dcR_ok (n := n) R (show dcR w.S n = some kvs by unfold dcR; rw [e])
      have ey := keyD_ok q1 hκ
      subst ey
      cases q2 with
      | r hi =>
        cases ry
        have g : DGet H (w.μ n) (kV κ) (valV ws κ) := DGet.k hv
        have eb : (valV ws κ).isSome = hasD kvs κ := by
          rw [hasD_get]
          rcases rv.get κ with ⟨a, b⟩ | ⟨d, v, a, b, _⟩ <;> rw [a, b] <;> rfl
        cases neg with
        | true => exact d_notIn (by omega) I g rx fun s3 I3 => ⟨.bl _, H, I3, rfl, by rw [eb]; exact kb _ h⟩
        | false => exact d_in (by omega) I g rx fun s3 I3 => ⟨.bl _, H, I3, rfl, by rw [eb]; exact kb _ h⟩
    · exact inG hu I rx ry R q1 q2 h kb
  · exact inG hu I rx ry R q1 q2 h kb
theorem oIn (hu : X.A.units + 100 < cLine) : OpR X (compareOp .In) (r2 B F0 (cB bIn)) := cmpR fun I rx ry R q1 q2 h kb => inR (neg := false) hu I rx ry R q1 q2 h kb
theorem oNotIn (hu : X.A.units + 100 < cLine) : OpR X (compareOp .NotIn) (r2 B F0 (cB bNotIn)) := cmpR fun {_ _ _ _ _ _ _ _ _ _ _ k _} I rx ry R q1 q2 h kb => inR (neg := true) (k := fun b => k (!b)) hu I rx ry R q1 q2 h fun b hb => kb _ hb

/-! ### subscripts -/
def pIx : P2 := fun x y S K => match x, y with
  | .z (.str s), .z (.int i) => pReq (s.length ≤ sizeLine) (pGet (atD s.cps.toList i) fun c => K (.z (.str ⟨⟨[c]⟩⟩)) S)
  | .r n, y => match S[n]? with
    | some (.dic kvs) => pGet (keyD y) fun κ => pGet (getD' kvs κ) fun d => K d S
    | some (.lst ds) => match y with
      | .z (.int i) => pGet (atD ds i) fun d => K d S
      | _ => False
    | _ => False
  | x, .z (.int i) => pGet (ixD S x i) fun d => K d S
  | _, _ => False
theorem ixD_r {S : Sto} {n : Nat} {ds : List D} {i : Int} {d : D} (e : S[n]? = some (.lst ds)) (h : atD ds i = some d) : ixD S (.r n) i = some d := by
  show (match S[n]? with | some (.lst ds) => atD ds i | _ => none) = some d
  rw [e]; exact h
theorem ixSeq {value slice : Expr} {pins : List (Addr × Obj)} {s : Shared} {σ : St} {H : Hp} {v u : Value} {a : Addr} {vs : List V} {i : Int} {z : V} {Q : VK} (I : Inv X pins σ H s) (rx : RelV (.ref a) v) (ry : RelV (.int i) u) (hs : SqL X.K H a vs ∨ SqT X.K H a vs) (ha : atI vs i = some z) (q : Q z H)
    (e : subscripted slice false v u = operate [v, u] (getItem v u)) : wpAny (model X.prog X.w) X.A (PyProof.Rows.subscriptTail value slice v u) (EP X pins σ Q) X.xe s := by
  rcases hs with hs | hs
  · exact ix_list value slice pins s σ H _ _ v u Q I rx ry ⟨_, _, _, _, rfl, rfl, hs, ha, q⟩ e
  · exact ix_tup value slice pins s σ H _ _ v u Q I rx ry ⟨_, _, _, _, rfl, rfl, hs, ha, q⟩ e
theorem oIx (hu : X.A.units + 100 < cLine) : IxR X (r2 B F0 pIx) := by
  intro value slice pins s σ H x y v u Q I rx ry h es
  obtain ⟨w, dx, dy, K, R, q1, q2, h, k⟩ := h
  unfold pIx at h
  split at h
  · obtain ⟨hz, h⟩ := h.out
    obtain ⟨c, hc, h⟩ := h.out
    rw [rpStr q1] at rx; rw [rpInt q2] at ry
    exact ix_str value slice pins s σ H _ _ v u Q I rx ry ⟨_, _, _, rfl, rfl, hz, atD_atI hc, k.str R h⟩ es
  · rename_i n
    split at h
    · rename_i kvs e
      obtain ⟨κ, hκ, h⟩ := h.out
      obtain ⟨d, hd, h⟩ := h.out
      obtain ⟨hn, ws, hv, rv⟩ := dcR_ok (n := n) R (show dcR w.S n = some kvs by unfold dcR; rw [e])
      have ey := keyD_ok q2 hκ
      subst ey
      cases q1 with
      | r hi =>
        cases rx
        rcases rv.get κ with ⟨a, b⟩ | ⟨d', z, a, b, rd⟩
        · rw [hd] at a; cases a
        · rw [hd] at a; cases a
          have g : DGet H (w.μ n) (kV κ) (some z) := by rw [← b]; exact DGet.k hv
          unfold PyProof.Rows.subscriptTail
          have hT := dict_typeIs I g
          refine wpAny_bind ?_
          rw [getitemInPython_of_ne hT.not_modules]
          refine wpAny_bind (wpAny_specialOf hT PySem.F.slot_dict_getitem.lookup ?_)
          have fin : wpAny (model X.prog X.w) X.A (subscripted slice false (.ref (w.μ n)) u) (fun r s₃ => wpAny (model X.prog X.w) X.A (letTemporaryGo value (.ref (w.μ n)) r >>= fun _ => pure r) (EP X pins σ Q) X.xe s₃) X.xe s := by
            rw [es]
            exact wpAny_operating (d_getItem (by omega) I g ry fun w' s3 I3 rw' => wpAny_bind (wpAny_letTemporaryGo (wpAny_pure ⟨z, H, I3, rw', k d w.S z H w.μ w.F R .refl rd h⟩)))
          first
            | exact wpAny_pure (wpAny_bind fin)
            | exact wpAny_bind fin
            | exact fin
    · rename_i ds e
      split at h
      · obtain ⟨d, hd, h⟩ := h.out
        rw [rpInt q2] at ry
        obtain ⟨a, vs, z, rfl, hs, ha, rd⟩ := ixD_ok (K := X.K) R q1 (ixD_r e hd)
        exact ixSeq I rx ry hs ha (k d w.S z H w.μ w.F R .refl rd h) es
      · exact h.elim
    · exact h.elim
  · obtain ⟨d, hd, h⟩ := h.out
    rw [rpInt q2] at ry
    obtain ⟨a, vs, z, rfl, hs, ha, rd⟩ := ixD_ok (K := X.K) R q1 hd
    exact ixSeq I rx ry hs ha (k d w.S z H w.μ w.F R .refl rd h) es
  · exact h.elim
end

/-! ### slices -/
def cutL {α : Type} (xs : List α) (lo hi : Option Int) : List α := (xs.drop (HT.sIx xs.length 0 lo)).take (HT.sIx xs.length xs.length hi - HT.sIx xs.length 0 lo)
def pSl : D → Option Int → Option Int → Sto → K1 → Prop := fun x lo hi S K => pGet (lsD S x) fun ds => K (.r S.length) (S ++ [.lst (cutL ds lo hi)])
section
variable {X : Cx} {B F0 : Hp}
theorem RpDs.cut {B : Hp} {w : Wd} {ds : List D} {vs : List V} (h : RpsW B w ds vs) (lo hi : Option Int) : RpsW B w (cutL ds lo hi) (cutV vs lo hi) := by
  unfold cutL cutV
  rw [h.length]
  exact (RpDs.drop _ h).take _
theorem oSl : SlR X (rSl B F0 pSl) := by
  intro pins s σ H x v vl vu lo hi sl Q I rx hs pl pu h
  obtain ⟨w, d, K, R, r, h, k⟩ := h
  obtain ⟨ds, e, h⟩ := h.out
  obtain ⟨a, vs, rfl, d1, q1⟩ := lsD_ok R r e
  exact sl_list pins s σ H _ v vl vu lo hi sl Q I rx hs pl pu ⟨a, vs, rfl, .inl d1, fun p hp => k.newL R (q1.cut lo hi) h hp⟩
end
end PL

set_option Elab.async false
set_option linter.all false
set_option maxRecDepth 100000
/-! PL, part 5: built-in calls and methods by value -/
namespace PL
open PySem L2

/-! ### isinstance against a built-in type -/
def tyD (S : Sto) : D → Option Ty
  | .z .none => some .none
  | .z (.bool _) => some .bool
  | .z (.int _) => some .int
  | .z (.str _) => some .str
  | .z (.list _) => some .list
  | .z (.tuple _) => some .tuple
  | .b (.list _) => some .list
  | .b (.tuple _) => some .tuple
  | .t _ => some .tuple
  | .r n => match S[n]? with
    | some (.lst _) => some .list
    | some (.dic _) => some .dict
    | _ => none
  | _ => none
/-- a value of the type a is one of b -/
def isT : Ty → Ty → Bool
  | .int, .int => true | .bool, .bool => true | .bool, .int => true | .str, .str => true | .list, .list => true | .tuple, .tuple => true | .dict, .dict => true | _, _ => false
theorem isT_kit (a b : Ty) (hb : b ≠ .none) : kitB a.s b.s = some (isT a b) := by
  cases a <;> cases b <;> first | exact absurd rfl hb | decide +kernel
def pIsi : PL := fun xs S K => match xs with
  | [x, .y T] => match T with
    | .none => False
    | T => pGet (tyD S x) fun t => K (.z (.bool (isT t T))) S
  | _ => False
theorem tyD_ok {K : PySem.W.Frag} {B F0 H : Hp} {w : Wd} {x : D} {v : V} {t : Ty} (R : RlW B F0 w H) (r : RpW B w x v) (h : tyD w.S x = some t) : TyX K H v (.type t.s) := by
  have rd : ∀ {a : Addr} {vs : List V}, Rd H a (.lst vs) → TyX K H (.ref a) (.type "list") := fun q => q.elim (fun q => .base (.lst q)) fun ⟨_, q⟩ => .base (.frz q)
  unfold tyD at h
  split at h
  · cases h; cases r with | z q => cases q; exact .base .non
  · cases h; cases r with | z q => cases q; exact .base (.bl _)
  · cases h; cases r with | z q => cases q; exact .base (.int _)
  · cases h; cases r with | z q => cases q; exact .base (.str _)
  · cases h; cases r with | z q => cases q with | lst a b => exact .base (.lst (R.fh _ _ a))
  · cases h; cases r with | z q => cases q with | tup a b => exact .base (.tup (R.fh _ _ a))
  · cases h; cases r with | b q => cases q with | lst a b => exact rd (a.elim (fun z => R.fh.rd z) fun z => R.bh.rd z)
  · cases h; cases r with | b q => cases q with | tup a b => exact .base (.tup (R.fh _ _ a))
  · cases h; cases r with | t a b => exact .base (.tup (R.fh _ _ a))
  · cases r with
    | r hi =>
      split at h
      · rename_i e; cases h; obtain ⟨vs, hv, _⟩ := R.ob _ _ e; exact .base (.lst hv)
      · rename_i e; cases h; obtain ⟨vs, hv, _⟩ := R.ob _ _ e; exact .base (.dK hv)
      · cases h
  · cases h
section
variable {X : Cx} {B F0 : Hp}
theorem callR {f : Value} {p : PL} (hf : ∀ {pins : List (Addr × Obj)} {s : Shared} {σ : St} {H : Hp} {vs : List V} {us : List Value} {w : Wd} {ds : List D} {K : K1} {Q : VK}, Inv X pins σ H s → Vals vs us → RlW B F0 w H → RpsW B w ds vs → p ds w.S K → Fi B F0 w K Q →
    wpAny (model X.prog X.w) X.A (call f us) (EP X pins σ Q) X.xe s) : CallR X f (rL B F0 p) := by
  intro pins s σ H vs us Q I r h
  obtain ⟨w, ds, K, R, q, h, k⟩ := h
  exact hf I r R q h k
theorem methR {id : String} {p : D → PL} (hf : ∀ {pins : List (Addr × Obj)} {s : Shared} {σ : St} {H : Hp} {x : V} {v : Value} {vs : List V} {us : List Value} {w : Wd} {d : D} {ds : List D} {K : K1} {Q : VK}, Inv X pins σ H s → RelV x v → Vals vs us → RlW B F0 w H → RpW B w d x → RpsW B w ds vs → p d ds w.S K → Fi B F0 w K Q →
    wpAny (model X.prog X.w) X.A (call (.builtin id) (v :: us)) (EP X pins σ Q) X.xe s) : MtR X id (rM B F0 p) := by
  intro pins s σ H x vs v us Q I rx r h
  obtain ⟨w, d, ds, K, R, q, qs, h, k⟩ := h
  exact hf I rx r R q qs h k
theorem oIsi : CallR X (.builtin "isinstance") (rL B F0 pIsi) := callR fun {pins s σ H vs us w ds K Q} I r R q h k => by
  unfold pIsi at h
  split at h
  · rename_i x T
    cases q with
    | cons q1 q2 =>
      cases q2 with
      | cons q2 q3 =>
        cases q3
        cases q2
        have key : T ≠ .none → (pGet (tyD w.S x) fun t => K (.z (.bool (isT t T))) w.S) → wpAny (model X.prog X.w) X.A (call (.builtin "isinstance") us) (EP X pins σ Q) X.xe s := fun hT h => by
          obtain ⟨t, e, h⟩ := h.out
          exact call_isi pins s σ H _ us Q I r ⟨_, _, _, _, _, rfl, .ty _, tyD_ok (K := X.K) R q1 e, kit_ty (isT_kit t T hT), k.bl R h⟩
        cases T with
        | none => exact False.elim h
        | _ => exact key (by intro z; cases z) h
  · exact h.elim

/-! ### len, list, tuple, int, str, min, max, sum, any, all -/
def pLen : PL := fun xs S K => match xs with
  | [.z (.str s)] => pReq (s.length ≤ sizeLine) (K (.z (.int s.length)) S)
  | [x] => pGet (lenD S x) fun n => K (.z (.int n)) S
  | _ => False
def pList : PL := fun xs S K => match xs with
  | [x] => pGet (sqD S x) fun ds => K (.r S.length) (S ++ [.lst ds])
  | _ => False
def pTuple : PL := fun xs S K => match xs with
  | [x] => pGet (lsD S x) fun ds => K (mkT ds) S
  | _ => False
def pInt : PL := fun xs S K => match xs with
  | [.z (.int i)] => K (.z (.int i)) S
  | [.z (.bool b)] => K (.z (.int (if b then 1 else 0))) S
  | _ => False
def pMax2 : PL := fun xs S K => match xs with
  | [.z (.int i), .z (.int j)] => K (.z (.int (if j > i then j else i))) S
  | _ => False
def pMin2 : PL := fun xs S K => match xs with
  | [.z (.int i), .z (.int j)] => K (.z (.int (if j < i then j else i))) S
  | _ => False
/-- a list of truths, of ints -/
def pAll : PL := fun xs S K => match xs with
  | [x] => pGet (lsD S x) fun ds => ∃ bs : List Bool, ds = bs.map (fun b => .z (.bool b)) ∧ K (.z (.bool (bs.all id))) S
  | _ => False
def pAny : PL := fun xs S K => match xs with
  | [x] => pGet (lsD S x) fun ds => ∃ bs : List Bool, ds = bs.map (fun b => .z (.bool b)) ∧ K (.z (.bool (bs.any id))) S
  | _ => False
def pSum : PL := fun xs S K => match xs with
  | [x] => pGet (lsD S x) fun ds => ∃ ns : List Int, ds = ns.map (fun n => .z (.int n)) ∧ K (.z (.int ns.sum)) S
  | _ => False
theorem RpDs.one {B : Hp} {w : Wd} {d : D} {vs : List V} (h : RpsW B w [d] vs) : ∃ v, vs = [v] ∧ RpW B w d v := by
  cases h with | cons a b => cases b; exact ⟨_, rfl, a⟩
theorem RpDs.two {B : Hp} {w : Wd} {d e : D} {vs : List V} (h : RpsW B w [d, e] vs) : ∃ v u, vs = [v, u] ∧ RpW B w d v ∧ RpW B w e u := by
  cases h with | cons a b => cases b with | cons b c => cases c; exact ⟨_, _, rfl, a, b⟩
theorem RpDs.bls {B : Hp} {w : Wd} : ∀ {bs : List Bool} {vs : List V}, RpsW B w (bs.map fun b => .z (.bool b)) vs → vs = bs.map V.bl
  | [], _, h => by cases h; rfl
  | b :: bs, _, h => by cases h with | cons a t => rw [rpBl a, RpDs.bls t]; rfl
theorem RpDs.ints {B : Hp} {w : Wd} : ∀ {bs : List Int} {vs : List V}, RpsW B w (bs.map fun b => .z (.int b)) vs → vs = bs.map V.int
  | [], _, h => by cases h; rfl
  | b :: bs, _, h => by cases h with | cons a t => rw [rpInt a, RpDs.ints t]; rfl
theorem RpDs.strs {B : Hp} {w : Wd} : ∀ {bs : List Str} {vs : List V}, RpsW B w (bs.map fun b => .z (.str b)) vs → vs = bs.map V.str
  | [], _, h => by cases h; rfl
  | b :: bs, _, h => by cases h with | cons a t => rw [rpStr a, RpDs.strs t]; rfl
theorem lenD_ok {K : PySem.W.Frag} {H : Hp} {w : Wd} {x : D} {v : V} {n : Nat} (R : RlW B F0 w H) (r : RpW B w x v) (h : lenD w.S x = some n) : (∃ a vs, v = .ref a ∧ vs.length = n ∧ (SqL K H a vs ∨ SqT K H a vs)) ∨ ∃ a kvs, v = .ref a ∧ H a = some (.dK kvs) ∧ kvs.length = n := by
  unfold lenD at h
  split at h
  · cases h; cases r with | z q => cases q with | lst a b => exact .inl ⟨_, _, rfl, b.length.symm, .inl (.inl (.inl (R.fh _ _ a)))⟩
  · cases h; cases r with | b q => cases q with | lst a b => exact .inl ⟨_, _, rfl, b.length.symm, .inl (.inl (a.elim (fun z => R.fh.rd z) fun z => R.bh.rd z))⟩
  · cases h; cases r with | z q => cases q with | tup a b => exact .inl ⟨_, _, rfl, b.length.symm, .inr (.inl (.inl (R.fh _ _ a)))⟩
  · cases h; cases r with | b q => cases q with | tup a b => exact .inl ⟨_, _, rfl, b.length.symm, .inr (.inl (.inl (R.fh _ _ a)))⟩
  · cases h; cases r with | t a b => exact .inl ⟨_, _, rfl, b.length.symm, .inr (.inl (.inl (R.fh _ _ a)))⟩
  · cases r with
    | r hi =>
      split at h
      · rename_i e; cases h; obtain ⟨vs, hv, rv⟩ := R.ob _ _ e; exact .inl ⟨_, _, rfl, rv.length.symm, .inl (.inl (.inl hv))⟩
      · rename_i e; cases h; obtain ⟨vs, hv, rv⟩ := R.ob _ _ e; exact .inr ⟨_, _, rfl, hv, (Paired.length rv).symm⟩
      · cases h
  · cases h
theorem oLen : CallR X (.builtin "len") (rL B F0 pLen) := callR fun {pins s σ H vs us w ds K Q} I r R q h k => by
  unfold pLen at h
  split at h
  · obtain ⟨hz, h⟩ := h.out
    obtain ⟨v, rfl, q9⟩ := q.one
    rw [rpStr q9] at r
    exact call_len_str pins s σ H _ us Q I r ⟨_, rfl, hz, k.int R h⟩
  · obtain ⟨n, e, h⟩ := h.out
    obtain ⟨v, rfl, q9⟩ := q.one
    rcases lenD_ok (K := X.K) R q9 e with ⟨a, vs, rfl, rfl, hs⟩ | ⟨a, kvs, rfl, hd, rfl⟩
    · exact call_len_seq pins s σ H _ us Q I r ⟨a, vs, rfl, hs, k.int R h⟩
    · exact call_lenD pins s σ H _ us Q I r ⟨a, kvs, rfl, hd, k.int R h⟩
  · exact h.elim
theorem oList : CallR X (.type "list") (rL B F0 pList) := callR fun {pins s σ H vs us w ds K Q} I r R q h k => by
  unfold pList at h
  split at h
  · obtain ⟨ds, e, h⟩ := h.out
    obtain ⟨v, rfl, q9⟩ := q.one
    obtain ⟨a, vs, rfl, hs, rv⟩ := sqD_ok (K := X.K) R q9 e
    exact call_list_of pins s σ H _ us Q I r ⟨a, vs, rfl, hs, fun p hp => k.newL R rv h hp⟩
  · exact h.elim
theorem oTuple : CallR X (.type "tuple") (rL B F0 pTuple) := callR fun {pins s σ H vs us w ds K Q} I r R q h k => by
  unfold pTuple at h
  split at h
  · obtain ⟨ds, e, h⟩ := h.out
    obtain ⟨v, rfl, q9⟩ := q.one
    obtain ⟨a, vs, rfl, hs, rv⟩ := lsD_ok R q9 e
    exact call_tuple_of pins s σ H _ us Q I r ⟨a, vs, rfl, .inl ⟨.inl hs, fun p hp => k.newT R rv h hp⟩⟩
  · exact h.elim
theorem oInt : CallR X (.type "int") (rL B F0 pInt) := callR fun {pins s σ H vs us w ds K Q} I r R q h k => by
  unfold pInt at h
  split at h
  · obtain ⟨v, rfl, q9⟩ := q.one
    rw [rpInt q9] at r
    exact call_int1 pins s σ H _ us Q I r (.inl ⟨_, rfl, k.int R h⟩)
  · obtain ⟨v, rfl, q9⟩ := q.one
    rw [rpBl q9] at r
    exact call_int1 pins s σ H _ us Q I r (.inr ⟨_, rfl, k.int R h⟩)
  · exact h.elim
theorem oMax2 (hc : X.calm = true) : CallR X (.builtin "max") (rL B F0 pMax2) := callR fun {pins s σ H vs us w ds K Q} I r R q h k => by
  unfold pMax2 at h
  split at h
  · obtain ⟨v, u, rfl, q1, q2⟩ := q.two
    rw [rpInt q1, rpInt q2] at r
    exact call_max2 hc pins s σ H _ us Q I r ⟨_, _, rfl, k.int R h⟩
  · exact h.elim
theorem oMin2 (hc : X.calm = true) : CallR X (.builtin "min") (rL B F0 pMin2) := callR fun {pins s σ H vs us w ds K Q} I r R q h k => by
  unfold pMin2 at h
  split at h
  · obtain ⟨v, u, rfl, q1, q2⟩ := q.two
    rw [rpInt q1, rpInt q2] at r
    exact call_min2 hc pins s σ H _ us Q I r ⟨_, _, rfl, k.int R h⟩
  · exact h.elim
theorem oAll (hc : X.calm = true) : CallR X (.builtin "all") (rL B F0 pAll) := callR fun {pins s σ H vs us w ds K Q} I r R q h k => by
  unfold pAll at h
  split at h
  · obtain ⟨ds, e, bs, rfl, h⟩ := h.out
    obtain ⟨v, rfl, q9⟩ := q.one
    obtain ⟨a, vs, rfl, hs, rv⟩ := lsD_ok R q9 e
    rw [rv.bls] at hs
    exact cr_all hc pins s σ H _ us Q I r ⟨a, bs, rfl, .inl hs, k.bl R h⟩
  · exact h.elim
theorem oAny (hc : X.calm = true) : CallR X (.builtin "any") (rL B F0 pAny) := callR fun {pins s σ H vs us w ds K Q} I r R q h k => by
  unfold pAny at h
  split at h
  · obtain ⟨ds, e, bs, rfl, h⟩ := h.out
    obtain ⟨v, rfl, q9⟩ := q.one
    obtain ⟨a, vs, rfl, hs, rv⟩ := lsD_ok R q9 e
    rw [rv.bls] at hs
    exact cr_any hc pins s σ H _ us Q I r ⟨a, bs, rfl, .inl hs, k.bl R h⟩
  · exact h.elim
theorem oSum (hc : X.calm = true) : CallR X (.builtin "sum") (rL B F0 pSum) := callR fun {pins s σ H vs us w ds K Q} I r R q h k => by
  unfold pSum at h
  split at h
  · obtain ⟨ds, e, bs, rfl, h⟩ := h.out
    obtain ⟨v, rfl, q9⟩ := q.one
    obtain ⟨a, vs, rfl, hs, rv⟩ := lsD_ok R q9 e
    rw [rv.ints] at hs
    exact cr_sum hc pins s σ H _ us Q I r ⟨a, bs, rfl, .inl hs, k.int R h⟩
  · exact h.elim

/-! ### methods of lists -/
def pApp : D → PL := fun x xs S K => match x, xs with
  | .r n, [y] => pGet (lsR S n) fun ds => pReq (ds.length < sizeLine) (K (.z .none) (S.set n (.lst (ds ++ [y]))))
  | _, _ => False
def pExt : D → PL := fun x xs S K => match x, xs with
  | .r n, [y] => pGet (lsR S n) fun ds => pGet (lsD S y) fun es => pReq (ds.length + es.length ≤ sizeLine) (K (.z .none) (S.set n (.lst (ds ++ es))))
  | _, _ => False
def pPop : D → PL := fun x xs S K => match x, xs with
  | .r n, [] => pGet (lsR S n) fun ds => pGet ds[ds.length - 1]? fun d => K d (S.set n (.lst ds.dropLast))
  | .r n, [.z (.int (.ofNat i))] => pGet (lsR S n) fun ds => pGet ds[i]? fun d => pReq (i < 9223372036854775808) (K d (S.set n (.lst (ds.eraseIdx i))))
  | _, _ => False
def pClear : D → PL := fun x xs S K => match x, xs with
  | .r n, [] => pGet (lsR S n) fun _ => K (.z .none) (S.set n (.lst []))
  | _, _ => False
def pRev : D → PL := fun x xs S K => match x, xs with
  | .r n, [] => pGet (lsR S n) fun ds => K (.z .none) (S.set n (.lst ds.reverse))
  | _, _ => False
/-- the first place of a datum -/
def idxD (ds : List PyData) (d : PyData) : Option Nat := ds.findIdx? fun z => PyData.eqv z d
def pIndex : D → PL := fun x xs S K => match xs with
  | [y] => ∃ ds d, Vw S x (.list ds) ∧ Vw S y d ∧ SeqAt.shaped (.list ds) = true ∧ SeqAt.shaped d = true ∧ pGet (idxD ds d) fun j => K (.z (.int j)) S
  | _ => False
theorem oApp : MtR X "list.append" (rM B F0 pApp) := methR fun {pins s σ H x v vs us w d ds K Q} I rx r R q qs h k => by
  unfold pApp at h
  split at h
  · rename_i n y
    obtain ⟨ds, e, h⟩ := h.out
    obtain ⟨hz, h⟩ := h.out
    obtain ⟨hn, ws, hv, rv⟩ := lsR_ok R e
    obtain ⟨u, rfl, q1⟩ := qs.one
    cases q
    exact mt_append pins s σ H _ _ v us Q I rx r ⟨w.μ n, ws, u, rfl, rfl, hv, by rw [← rv.length]; exact hz, k.setL R hn (rv.append (.cons q1 .nil)) (.z .non) h⟩
  · exact h.elim
theorem ext_lists {pins : List (Addr × Obj)} {s : Shared} {σ : St} {H : Hp} {l b : Addr} {xs zs : List V} {Q : VK} (I : Inv X pins σ H s) (h1 : H l = some (.lst xs)) (h2 : Rd H b (.lst zs)) (hz : xs.length + zs.length ≤ sizeLine)
    (q : Q .non (upd H l (.lst (xs ++ zs)))) : wpAny (model X.prog X.w) X.A (call (.builtin "list.extend") [.ref l, .ref b]) (EP X pins σ Q) X.xe s := by
  obtain ⟨z1, its, n, v1, l1, e1⟩ := I.lstM h1
  obtain ⟨z2, jts, m, v2, e2⟩ := h2.ok I.hok
  have l2 := v2.length
  have small : its.toArray.size + jts.toArray.size ≤ sizeLine := by simp; omega
  refine call_meets PySem.F.slot_list_extend ⟨_, e1, rfl⟩ PySem.F.entry_list_extend (PySem.F.args_list_extend_2 _ _)
    (AutoSeq1.list_extend_list_list_0 l its.toArray n b jts.toArray m (by rw [notLongL small, Bool.and_false]; exact Bool.false_ne_true) (by simp; omega) (by omega)) ⟨e1, e2, ?_⟩
  exact ⟨.non, _, I.lset (its' := its ++ jts) h1 e1 (by simp) (v1.append v2) (by simp; omega), rfl, q⟩
theorem oExt : MtR X "list.extend" (rM B F0 pExt) := methR fun {pins s σ H x v vs us w d ds K Q} I rx r R q qs h k => by
  unfold pExt at h
  split at h
  · rename_i n y
    obtain ⟨ds, e, h⟩ := h.out
    obtain ⟨es, e2, h⟩ := h.out
    obtain ⟨hz, h⟩ := h.out
    obtain ⟨hn, ws, hv, rv⟩ := lsR_ok R e
    obtain ⟨u, rfl, q1⟩ := qs.one
    obtain ⟨b, zs, rfl, hb, rb⟩ := lsD_ok R q1 e2
    cases q
    cases rx
    rw [Vals.ref1 r]
    exact ext_lists I hv hb (by rw [← rv.length, ← rb.length]; exact hz) (k.setL R hn (rv.append rb) (.z .non) h)
  · exact h.elim
theorem oPop : MtR X "list.pop" (rM B F0 pPop) := methR fun {pins s σ H x v vs us w d ds K Q} I rx r R q qs h k => by
  unfold pPop at h
  split at h
  · rename_i n
    obtain ⟨ds, e, h⟩ := h.out
    obtain ⟨d, e2, h⟩ := h.out
    obtain ⟨hn, ws, hv, rv⟩ := lsR_ok R e
    cases qs
    cases q
    obtain ⟨u, hu, ru⟩ := rv.get e2
    rw [rv.length] at hu
    exact mt_pop pins s σ H _ _ v us Q I rx r ⟨w.μ n, ws, u, rfl, rfl, hv, hu, k.setL R hn rv.dropLast ru h⟩
  · rename_i n i
    obtain ⟨ds, e, h⟩ := h.out
    obtain ⟨d, e2, h⟩ := h.out
    obtain ⟨hi, h⟩ := h.out
    obtain ⟨hn, ws, hv, rv⟩ := lsR_ok R e
    obtain ⟨u0, rfl, q1⟩ := qs.one
    cases rpInt q1
    cases q
    obtain ⟨u, hu, ru⟩ := rv.get e2
    have hlt : i < ws.length := (List.getElem?_eq_some_iff.mp hu).1
    have h0 : (0 : Int) ≤ Int.ofNat i := Int.natCast_nonneg i
    have h1 : Int.ofNat i < (ws.length : Int) := Int.ofNat_lt.mpr hlt
    have hx : seqIndex? (Int.ofNat i) ws.length = some i := (ixN_seq (show ixN ws.length (Int.ofNat i) = some i by unfold ixN; rw [if_pos h0, if_pos h1]; rfl)).1
    exact mt_popAt pins s σ H _ _ v us Q I rx r ⟨w.μ n, ws, _, i, u, rfl, rfl, hv, by have : (0 : Int) ≤ Int.ofNat i := Int.natCast_nonneg i; omega, Int.ofNat_lt.mpr hi, hx, hu, k.setL R hn (rv.erase i) ru h⟩
  · exact h.elim
theorem oClear : MtR X "list.clear" (rM B F0 pClear) := methR fun {pins s σ H x v vs us w d ds K Q} I rx r R q qs h k => by
  unfold pClear at h
  split at h
  · rename_i n
    obtain ⟨ds, e, h⟩ := h.out
    obtain ⟨hn, ws, hv, rv⟩ := lsR_ok R e
    cases qs
    cases q
    exact mt_clear pins s σ H _ _ v us Q I rx r ⟨w.μ n, ws, rfl, rfl, hv, k.setL R hn .nil (.z .non) h⟩
  · exact h.elim
theorem oRev : MtR X "list.reverse" (rM B F0 pRev) := methR fun {pins s σ H x v vs us w d ds K Q} I rx r R q qs h k => by
  unfold pRev at h
  split at h
  · rename_i n
    obtain ⟨ds, e, h⟩ := h.out
    obtain ⟨hn, ws, hv, rv⟩ := lsR_ok R e
    cases qs
    cases q
    exact mt_reverse pins s σ H _ _ v us Q I rx r ⟨w.μ n, ws, rfl, rfl, hv, k.setL R hn rv.rev (.z .non) h⟩
  · exact h.elim
theorem oIndex (hu : X.A.units + 100 < cLine) : MtR X "list.index" (rM B F0 pIndex) := methR fun {pins s σ H x v vs us w d ds K Q} I rx r R q qs h k => by
  unfold pIndex at h
  split at h
  · obtain ⟨es, e, w1, w2, s1, s2, h⟩ := h
    obtain ⟨j, hj, h⟩ := h.out
    obtain ⟨u, rfl, q1⟩ := qs.one
    have a := RpT.dp (K := X.K) R.fh _ _ (Vw.rp R _ _ _ w1 q)
    have b := RpT.dp (K := X.K) R.fh _ _ (Vw.rp R _ _ _ w2 q1)
    obtain ⟨p, rfl⟩ : ∃ p, x = .ref p := by cases a; exact ⟨_, rfl⟩
    obtain ⟨hl, hj1, hj2⟩ := List.findIdx?_eq_some_iff_getElem.mp hj
    refine mt_indexD (by omega) pins s σ H _ _ v us Q I rx r ⟨p, u, e, es, j, es[j], rfl, rfl, a, b, s1, s2, List.getElem?_eq_getElem hl, hj1, fun m z' hm hz => ?_, k.int R h⟩
    obtain ⟨hm', rfl⟩ := List.getElem?_eq_some_iff.mp hz
    simpa using hj2 m hm
  · exact h.elim
end
end PL

set_option Elab.async false
set_option linter.all false
set_option maxRecDepth 100000
/-! PL, part 6: statements, targets, loops -/
namespace PL
open PySem L2

/-! ### targets -/
abbrev WG := D → Env → Sto → (Env → Sto → Prop) → Prop
abbrev WGs := List D → Env → Sto → (Env → Sto → Prop) → Prop
def FiG (B F0 : Hp) (w : Wd) (K : Env → Sto → Prop) (Q : St → Hp → Prop) : Prop := ∀ env S σ H μ F, Rl B F0 μ S F H → Xt w.μ w.S w.F μ S F → EnvR B F μ S.length env σ → K env S → Q σ H
theorem FiG.xt {B F0 : Hp} {w w' : Wd} {K : Env → Sto → Prop} {Q : St → Hp → Prop} (h : FiG B F0 w K Q) (x : Xt w.μ w.S w.F w'.μ w'.S w'.F) : FiG B F0 w' K Q := fun e S s H μ F R X r q => h e S s H μ F R (x.trans X) r q
def tG (B F0 : Hp) (g : WG) : TG := fun v σ H Q => ∃ (w : Wd) (env : Env) (d : D) (K : Env → Sto → Prop), RlW B F0 w H ∧ EnvR B w.F w.μ w.S.length env σ ∧ RpW B w d v ∧ g d env w.S K ∧ FiG B F0 w K Q
def tGs (B F0 : Hp) (g : WGs) : TGs := fun vs σ H Q => ∃ (w : Wd) (env : Env) (ds : List D) (K : Env → Sto → Prop), RlW B F0 w H ∧ EnvR B w.F w.μ w.S.length env σ ∧ RpsW B w ds vs ∧ g ds env w.S K ∧ FiG B F0 w K Q
def PXG (X : Cx) (B F0 : Hp) (e : Expr) (g : WG) : Prop := PG X e (tG B F0 g)
def PXGs (X : Cx) (B F0 : Hp) (es : List Expr) (g : WGs) : Prop := PGs X es (tGs B F0 g)
def gN (i : Nat) : WG := fun d env S K => K (env.set i (some d)) S
def gE : WGs := fun ds env S K => match ds with
  | [] => K env S
  | _ => False
def gC (g : WG) (gs : WGs) : WGs := fun ds env S K => match ds with
  | d :: r => g d env S fun env1 S1 => gs r env1 S1 K
  | [] => False
def tpN (n : Nat) (d : D) : Option (List D) := match tpD d with
  | some ds => if ds.length = n then some ds else none
  | none => none
def gT (n : Nat) (gs : WGs) : WG := fun d env S K => pGet (tpN n d) fun ds => gs ds env S K
/-- o[i] = v: lists and dicts -/
def pSet (o i v : D) (S : Sto) (K : Sto → Prop) : Prop := match o with
  | .r n => match S[n]? with
    | some (.lst ds) => match i with
      | .z (.int k) => pGet (ixN ds.length k) fun j => K (S.set n (.lst (ds.set j v)))
      | _ => False
    | some (.dic kvs) => pGet (keyD i) fun κ => pReq (kvs.length < sizeLine) (K (S.set n (.dic (putD kvs κ v))))
    | _ => False
  | _ => False
def gS (wo wi : WE) : WG := fun v env S K => wo env S (fun o S1 => wi env S1 (fun i S2 => pSet o i v S2 fun S3 => K env S3) fun _ _ _ => False) fun _ _ _ => False
section
variable {X : Cx} {B F0 : Hp} {W : WX} {pos : Pos}
theorem wkG {e : Expr} {t t' : TG} (h : PG X e t) (k : ∀ v σ H Q, t' v σ H Q → t v σ H Q) : PG X e t' := ⟨fun p s σ H v u Q I r q => h.run p s σ H v u Q I r (k v σ H Q q)⟩
theorem wkGs {e : List Expr} {t t' : TGs} (h : PGs X e t) (k : ∀ v σ H Q, t' v σ H Q → t v σ H Q) : PGs X e t' := ⟨fun p s σ H v u Q I r q => h.run p s σ H v u Q I r (k v σ H Q q)⟩
theorem xgn (i : Nat) {x : Str} (hN : X.N.Nodup) (hi : X.N[i]? = some x := by rfl) (hx : Loc X.env.scope x := by first | exact Or.inl rfl | exact Or.inr rfl) (hf : X.fn x = true ∨ X.env.scope.names.lookup x = some .local := by first | exact .inl rfl | exact .inr rfl | assumption) : PXG X B F0 (.Name x pos) (gN i) :=
  wkG (pg_name hN hi hx hf) fun v σ H Q h => by
    obtain ⟨w, env, d, K, R, E, r, h, k⟩ := h
    exact k _ _ _ _ _ _ R .refl (EnvR.set r i E) h
theorem xge : PXGs X B F0 [] gE := wkGs pgs_nil fun vs σ H Q h => by
  obtain ⟨w, env, ds, K, R, E, r, h, k⟩ := h
  unfold gE at h
  split at h
  · cases r; exact ⟨rfl, k _ _ _ _ _ _ R .refl E h⟩
  · exact h.elim
theorem xgc {e : Expr} {es : List Expr} {g : WG} {gs : WGs} (h1 : PXG X B F0 e g) (h2 : PXGs X B F0 es gs) (hs : (assignEach (e :: es) X.env).map (·.2) = assign e X.env :: (assignEach es X.env).map (·.2) := by rfl) : PXGs X B F0 (e :: es) (gC g gs) :=
  wkGs (pgs_cons h1 h2 hs) fun vs σ H Q h => by
    obtain ⟨w, env, ds, K, R, E, r, h, k⟩ := h
    unfold gC at h
    split at h
    · cases r with
      | cons r1 r2 =>
        refine ⟨_, _, rfl, w, env, _, _, R, E, r1, h, fun env1 S1 σ1 H1 μ1 F1 R1 X1 E1 h1 => ?_⟩
        exact ⟨⟨μ1, S1, F1⟩, env1, _, K, R1, E1, r2.xt X1, h1, k.xt X1⟩
    · exact h.elim
theorem xgt {es : List Expr} {j n : Nat} {gs : WGs} (hc : X.calm = true) (h : PXGs X B F0 es gs) (hn : (assignEach es X.env).length = n := by rfl) (hst : (assignEach es X.env).findIdx? (·.1) = none := by rfl) : PXG X B F0 (.Tuple es j pos) (gT n gs) :=
  wkG (pg_tup hc h hn hst) fun v σ H Q h => by
    obtain ⟨w, env, d, K, R, E, r, h, k⟩ := h
    obtain ⟨ds, e, h⟩ := h.out
    unfold tpN at e
    split at e
    · rename_i ds' e1
      split at e
      · rename_i hl
        cases e
        obtain ⟨a, vs, rfl, ha, rv⟩ := tpD_ok R r e1
        exact ⟨a, vs, rfl, .inl (.inl ha), by rw [← rv.length]; exact hl, w, env, _, K, R, E, rv, h, k⟩
      · cases e
    · cases e
theorem oSet (hu : X.A.units + 100 < cLine) : PSet X (fun o i v H Q => ∃ (w : Wd) (do' di dv : D) (K : Sto → Prop), RlW B F0 w H ∧ RpW B w do' o ∧ RpW B w di i ∧ RpW B w dv v ∧ pSet do' di dv w.S K ∧ ∀ S' H' μ' F', Rl B F0 μ' S' F' H' → Xt w.μ w.S w.F μ' S' F' → K S' → Q H') := by
  intro pins s σ H o i v ov iv u Q I ro ri rv h
  obtain ⟨w, d1, d2, d3, K, R, q1, q2, q3, h, k⟩ := h
  unfold pSet at h
  split at h
  · rename_i n
    split at h
    · rename_i ds e
      split at h
      · obtain ⟨j, hj, h⟩ := h.out
        obtain ⟨hn, ws, hv, rw'⟩ := lsR_ok (n := n) R (show lsR w.S n = some ds by unfold lsR; rw [e])
        cases q1
        have e2 := rpInt q2
        subst e2
        refine set_list pins s σ H _ _ v ov iv u Q I ro ri rv ⟨_, ws, _, j, rfl, rfl, hv, by rw [← rw'.length]; exact hj, ?_⟩
        obtain ⟨R2, X2⟩ := R.write (u := .lst (ws.set j v)) (o := .lst (ds.set j d3)) hn fun G hG => ⟨_, hG, rw'.set q3 j⟩
        exact k _ _ _ _ R2 X2 h
      · exact h.elim
    · rename_i kvs e
      obtain ⟨κ, hκ, h⟩ := h.out
      obtain ⟨hz, h⟩ := h.out
      obtain ⟨hn, ws, hv, rw'⟩ := dcR_ok (n := n) R (show dcR w.S n = some kvs by unfold dcR; rw [e])
      have ey := keyD_ok q2 hκ
      subst ey
      cases q1
      cases ro
      have g : DPut H (w.μ n) (kV κ) v (upd H (w.μ n) (.dK (putK ws κ v))) := DPut.k hv (by rw [← Paired.length rw']; exact hz)
      obtain ⟨R2, X2⟩ := R.write (u := .dK (putK ws κ v)) (o := .dic (putD kvs κ d3)) hn fun G hG => ⟨_, hG, KvR.put rw' κ q3⟩
      exact d_setItem (by omega) I g ri rv fun s3 I3 => ⟨_, I3, k _ _ _ _ R2 X2 h⟩
    · exact h.elim
  · exact h.elim
theorem xgs {o i : Expr} {wo wi : WE} (hu : X.A.units + 100 < cLine) (ho : PX X B F0 W o wo) (hi : PX X B F0 W i wi) (ha : ∀ v, assign (.Subscript o i pos) X.env v = (do
      let ov ← holding [v] (eval o X.env)
      let iv ← holding [v, ov] (eval i X.env)
      standAt pos
      holding [v, ov, iv] (setItem ov iv v)
      release [v, ov, iv] []) := by intro _; rfl) : PXG X B F0 (.Subscript o i pos) (gS wo wi) := wkG (pg_sub ho hi (oSet (B := B) (F0 := F0) hu) ha) fun v σ H Q h => by
  obtain ⟨w, env, d, K, R, E, r, h, k⟩ := h
  refine ⟨w, env, _, _, R, E, h, fun x S1 v1 H1 μ1 F1 R1 X1 r1 h1 => ?_, fun _ _ _ _ _ _ _ _ _ _ h => h.elim⟩
  refine ⟨⟨μ1, S1, F1⟩, env, _, _, R1, E.xt X1, h1, fun y S2 v2 H2 μ2 F2 R2 X2 r2 h2 => ?_, fun _ _ _ _ _ _ _ _ _ _ h => h.elim⟩
  exact ⟨⟨μ2, S2, F2⟩, x, y, d, _, R2, r1.xt X2, r2, r.xt (X1.trans X2), h2, fun S3 H3 μ3 F3 R3 X3 h3 => k env S3 σ H3 μ3 F3 R3 ((X1.trans X2).trans X3) (E.xt ((X1.trans X2).trans X3)) h3⟩
end

/-! ### simple statements -/
def wNext : WS := fun k env S => k.nx env S
def wSeq (a b : WS) : WS := fun k env S => a { k with nx := fun env1 S1 => b k env1 S1 } env S
def wDrop (we : WE) : WS := fun k env S => we env S (fun _ S1 => k.nx env S1) k.ex
def wRet (we : WE) : WS := fun k env S => we env S k.rt k.ex
def wRetN : WS := fun k _ S => k.rt (.z .none) S
def wAsg (we : WE) (g : WG) : WS := fun k env S => we env S (fun d S1 => g d env S1 k.nx) k.ex
def wIf (t : WT) (a b : WS) : WS := fun k env S => t env S (fun c S1 => pIf c (a k env S1) (b k env S1)) k.ex
def wBrk : WS := fun k env S => k.bk env S
def wCnt : WS := fun k env S => k.ct env S
def wAug (p : P2) (i : Nat) (we : WE) : WS := fun k env S => match env[i]? with
  | some (some d) => we env S (fun e S1 => p d e S1 fun d' S2 => k.nx (env.set i (some d')) S2) k.ex
  | _ => False
section
variable {X : Cx} {B F0 : Hp} {W : WX} {e c : Expr} {we : WE} {st : Stmt} {rest body orelse : List Stmt} {a b : WS} {t : WT} {pos : Pos}
theorem bnil : PXB X B F0 W [] wNext := wkB pss_nil fun D σ H h => by
  obtain ⟨w, env, k, R, E, h, f⟩ := h
  exact f.nx _ _ _ _ _ _ R .refl E h
theorem bone (h : PXS X B F0 W st a) : PXB X B F0 W [st] a := pss_one h
theorem bcons (h1 : PXS X B F0 W st a) (h2 : PXB X B F0 W rest b) : PXB X B F0 W (st :: rest) (wSeq a b) := wkB (pss_cons h1 h2) fun D σ H h => by
  obtain ⟨w, env, k, R, E, h, f⟩ := h
  refine ⟨w, env, _, R, E, h, ⟨fun env1 S1 σ1 H1 μ1 F1 R1 X1 E1 h1 => ?_, f.rt, f.bk, f.ct, f.ex⟩⟩
  exact ⟨⟨μ1, S1, F1⟩, env1, k, R1, E1, h1, f.xt X1⟩
theorem xexpr (he : PX X B F0 W e we) (hs : swapsWith e none pos.line X.env = pure false := by rfl) : PXS X B F0 W (.Expr e pos) (wDrop we) := wkS (ps_expr he hs) fun D σ H h => by
  obtain ⟨w, env, k, R, E, h, f⟩ := h
  exact ⟨w, env, _, _, R, E, h, fun d S1 v H1 μ1 F1 R1 X1 r1 h1 => f.nx _ _ _ _ _ _ R1 X1 (E.xt X1) h1, f.toX E⟩
theorem xdoc {x : Str} {j : Nat} {pos' : Pos} : PXS X B F0 W (.Expr (.Constant (.str x) j pos) pos') wNext := wkS ps_doc fun D σ H h => by
  obtain ⟨w, env, k, R, E, h, f⟩ := h
  exact f.nx _ _ _ _ _ _ R .refl E h
theorem xpass : PXS X B F0 W (.Pass pos) wNext := wkS ps_pass fun D σ H h => by
  obtain ⟨w, env, k, R, E, h, f⟩ := h
  exact f.nx _ _ _ _ _ _ R .refl E h
theorem xbrk : PXS X B F0 W (.Break pos) wBrk := wkS ps_break fun D σ H h => by
  obtain ⟨w, env, k, R, E, h, f⟩ := h
  exact f.bk _ _ _ _ _ _ R .refl E h
theorem xcnt : PXS X B F0 W (.Continue pos) wCnt := wkS ps_continue fun D σ H h => by
  obtain ⟨w, env, k, R, E, h, f⟩ := h
  exact f.ct _ _ _ _ _ _ R .refl E h
theorem xret (he : PX X B F0 W e we) : PXS X B F0 W (.Return (some e) pos) (wRet we) := wkS (ps_ret he) fun D σ H h => by
  obtain ⟨w, env, k, R, E, h, f⟩ := h
  exact ⟨w, env, _, _, R, E, h, f.rt, f.toX E⟩
theorem xretN : PXS X B F0 W (.Return none pos) wRetN := wkS ps_retN fun D σ H h => by
  obtain ⟨w, env, k, R, E, h, f⟩ := h
  exact f.rt _ _ _ _ _ _ R .refl (.z .non) h
theorem xif (hc : PXT X B F0 W c t) (h1 : PXB X B F0 W body a) (h2 : PXB X B F0 W orelse b) : PXS X B F0 W (.If c body orelse pos) (wIf t a b) := wkS (ps_if hc h1 h2) fun D σ H h => by
  obtain ⟨w, env, k, R, E, h, f⟩ := h
  refine ⟨w, env, _, _, R, E, h, fun x S1 H1 μ1 F1 R1 X1 h1 => ?_, f.toX E⟩
  have h1 := h1.out
  dsimp only
  cases x with
  | true => rw [if_pos rfl] at h1 ⊢; exact ⟨⟨μ1, S1, F1⟩, env, k, R1, E.xt X1, h1, f.xt X1⟩
  | false => rw [if_neg Bool.false_ne_true] at h1 ⊢; exact ⟨⟨μ1, S1, F1⟩, env, k, R1, E.xt X1, h1, f.xt X1⟩
theorem xasg {tg : Expr} {g : WG} (he : PX X B F0 W e we) (hg : PXG X B F0 tg g) (hs : swapsWithSole [tg] e pos.line X.env = pure false := by rfl) (hw : swappedStores [tg] e X.env = pure none := by rfl)
    (h1 : (assignEach [tg] X.env).map (·.2) = [assign tg X.env] := by rfl) : PXS X B F0 W (.Assign [tg] e pos) (wAsg we g) := wkS (ps_asg he hg hs hw h1) fun D σ H h => by
  obtain ⟨w, env, k, R, E, h, f⟩ := h
  refine ⟨w, env, _, _, R, E, h, fun d S1 v H1 μ1 F1 R1 X1 r1 h1 => ?_, f.toX E⟩
  exact ⟨⟨μ1, S1, F1⟩, env, d, k.nx, R1, E.xt X1, r1, h1, fun env2 S2 σ2 H2 μ2 F2 R2 X2 E2 h2 => f.nx _ _ _ _ _ _ R2 (X1.trans X2) E2 h2⟩
theorem xaug {p : P2} (i : Nat) {x : Str} {op : Operator} {pos' : Pos} (ho : OpR X (inplaceOp op) (r2 B F0 p)) (hN : X.N.Nodup) (he : PX X B F0 W e we) (hi : X.N[i]? = some x := by rfl) (hx : Loc X.env.scope x := by first | exact Or.inl rfl | exact Or.inr rfl)
    (hf : X.fn x = true ∨ X.env.scope.names.lookup x = some .local := by first | exact .inl rfl | exact .inr rfl | assumption) : PXS X B F0 W (.AugAssign (.Name x pos') op e pos) (wAug p i we) :=
  wkS (ps_aug (ti := r2 B F0 p) hN hi hx he (fun pins s σ H x y v u Q I rx ry h => ho pins s σ H x y v u Q I rx ry h) hf) fun D σ H h => by
    obtain ⟨w, env, k, R, E, h, f⟩ := h
    unfold wAug at h
    split at h
    · rename_i d e1
      obtain ⟨v, h1, h2⟩ := EnvR.get E e1
      refine ⟨v, h1, w, env, _, _, R, E, h, fun d2 S1 u H1 μ1 F1 R1 X1 r1 q1 => ?_, f.toX E⟩
      refine ⟨⟨μ1, S1, F1⟩, d, d2, _, R1, h2.xt X1, r1, q1, fun d3 S2 z H2 μ2 F2 R2 X2 r2 q2 => ?_⟩
      exact f.nx _ _ _ _ _ _ R2 (X1.trans X2) (EnvR.set r2 i (E.xt (X1.trans X2))) q2
    · exact h.elim
end
section
variable {X : Cx} {B F0 : Hp}
theorem intOpI {op : Operator} {g : Int → Int → Int} {C : Int → Int → Prop} {p : P2} (ho : OpR X (inplaceOp op) (rI C fun i j => .int (g i j))) (hp : ∀ x y S K, p x y S K → ∃ i j, x = .z (.int i) ∧ y = .z (.int j) ∧ C i j ∧ K (.z (.int (g i j))) S) : OpR X (inplaceOp op) (r2 B F0 p) := by
  intro pins s σ H x y v u Q I rx ry h
  obtain ⟨w, dx, dy, K, R, q1, q2, h, k⟩ := h
  obtain ⟨i, j, rfl, rfl, hc, h5⟩ := hp _ _ _ _ h
  rw [rpInt q1] at rx; rw [rpInt q2] at ry
  exact ho pins s σ H _ _ v u Q I rx ry ⟨_, _, rfl, rfl, hc, k.int R h5⟩
def pAddI : P2 := fun x y S K => match x, y with
  | .z (.int i), .z (.int j) => K (.z (.int (i + j))) S
  | _, _ => False
/-- // by a positive one -/
def pDivI : P2 := fun x y S K => match x, y with
  | .z (.int i), .z (.int j) => pReq (0 < j ∧ j < 1073741824) (K (.z (.int (i / j))) S)
  | _, _ => False
theorem oAddI : OpR X (inplaceOp .Add) (r2 B F0 pAddI) := by
  intro pins s σ H x y v u Q I rx ry h
  obtain ⟨w, dx, dy, K, R, q1, q2, h, k⟩ := h
  unfold pAddI at h
  split at h
  · rw [rpInt q1] at rx; rw [rpInt q2] at ry
    exact iop_add pins s σ H _ _ v u Q I rx ry ⟨_, _, rfl, rfl, k.int R h⟩
  · exact h.elim
theorem oSubI : OpR X (inplaceOp .Sub) (r2 B F0 pSub) := by
  intro pins s σ H x y v u Q I rx ry h
  obtain ⟨w, dx, dy, K, R, q1, q2, h, k⟩ := h
  unfold pSub at h
  split at h
  · rw [rpInt q1] at rx; rw [rpInt q2] at ry
    exact iop_sub pins s σ H _ _ v u Q I rx ry ⟨_, _, rfl, rfl, k.int R h⟩
  · exact h.elim
theorem oDivI : OpR X (inplaceOp .FloorDiv) (r2 B F0 pDivI) := intOpI iop_fdiv fun x y S K h => by
  unfold pDivI at h; split at h
  · obtain ⟨hc, h⟩ := h.out; exact ⟨_, _, rfl, rfl, hc, h⟩
  · exact h.elim
end
end PL

set_option Elab.async false
set_option linter.all false
set_option maxRecDepth 100000
/-! PL, part 7: what is walked; for, while -/
namespace PL
open PySem L2

/-- what a loop walks: its items, and what must stand at each turn -/
structure Src where
  items : List D
  ok : Sto → Prop
abbrev WI := Env → Sto → (Src → Sto → Prop) → KX → Prop
/-- a walk of the layer gives the items of src -/
structure SrcOk (B F0 : Hp) (w0 : Wd) (src : Src) (J : It) (G : Hp → Prop) (Y : Nat → Hp → V → Hp → Prop) : Prop where
  walk : Walk J src.items.length G Y
  good : ∀ (w : Wd) H, RlW B F0 w H → Xt w0.μ w0.S w0.F w.μ w.S w.F → src.ok w.S → G H
  item : ∀ (w : Wd) H i x H', i < src.items.length → RlW B F0 w H → Xt w0.μ w0.S w0.F w.μ w.S w.F → src.ok w.S → Y i H x H' → ∃ (w' : Wd) (d : D), src.items[i]? = some d ∧ w'.S = w.S ∧ RlW B F0 w' H' ∧ Xt w.μ w.S w.F w'.μ w'.S w'.F ∧ RpW B w' d x
def tI (B F0 : Hp) (W : WX) (wi : WI) : TI := fun σ H R => ∃ (w : Wd) (env : Env) (K : Src → Sto → Prop) (KX : KX), RlW B F0 w H ∧ EnvR B w.F w.μ w.S.length env σ ∧ wi env w.S K KX ∧ FiX B F0 W w env σ KX ∧
  ∀ src S' H' μ' F' J G Y, Rl B F0 μ' S' F' H' → Xt w.μ w.S w.F μ' S' F' → K src S' → SrcOk B F0 ⟨μ', S', F'⟩ src J G Y → R J H'
def PXI (X : Cx) (B F0 : Hp) (W : WX) (tg iter : Expr) (wi : WI) : Prop := PI X tg iter (tI B F0 W wi)
section
variable {X : Cx} {B F0 : Hp} {W : WX} {tg e : Expr} {we : WE} {wa : WA} {pos p : Pos}
theorem wkI {iter : Expr} {t t' : TI} (h : PI X tg iter t) (k : ∀ σ H Q, t' σ H Q → t σ H Q) : PI X tg iter t' := ⟨fun p s σ H R I q => h.run p s σ H R I (k σ H R q)⟩
/-- items that stand, by any walk that gives them as they are -/
theorem SrcOk.at {w0 : Wd} {src : Src} {J : It} {G : Hp → Prop} {vs : List V} (hw : Walk J vs.length G (YAt vs)) (hl : src.items.length = vs.length) (hg : ∀ (w : Wd) H, RlW B F0 w H → Xt w0.μ w0.S w0.F w.μ w.S w.F → src.ok w.S → G H)
    (hr : RpsW B w0 src.items vs) : SrcOk B F0 w0 src J G (YAt vs) := ⟨by rw [hl]; exact hw, hg, fun w H i x H' _ R X1 ho y => by
  obtain ⟨rfl, hx⟩ := y
  obtain ⟨d, hd, rd⟩ := RpDs.getV hr hx
  exact ⟨w, d, hd, rfl, R, .refl, rd.xt X1⟩⟩
def srcD (S : Sto) : D → Option Src
  | .z (.list ds) => some ⟨ds.map .z, fun _ => True⟩
  | .b (.list ds) => some ⟨ds.map bz, fun _ => True⟩
  | .r n => match S[n]? with
    | some (.lst ds) => some ⟨ds, fun S => S[n]? = some (.lst ds)⟩
    | _ => none
  | .z (.tuple ds) => some ⟨ds.map .z, fun _ => True⟩
  | .b (.tuple ds) => some ⟨ds.map bz, fun _ => True⟩
  | .t ds => some ⟨ds, fun _ => True⟩
  | .z (.str s) => some ⟨s.cps.toList.map fun c => .z (.str ⟨⟨[c]⟩⟩), fun _ => True⟩
  | _ => none
def wIt (we : WE) : WI := fun env S K KX => we env S (fun x S1 => pGet (srcD S1 x) fun src => K src S1) KX
/-- a list, a tuple, a text -/
def iAny (K : PySem.W.Frag) (tl : TE) : TI := fun σ H R => tl σ H fun x H1 => (∃ a vs, x = .ref a ∧ SqL K H1 a vs ∧ R (Itl K a) H1) ∨ (∃ a vs, x = .ref a ∧ SqT K H1 a vs ∧ R (Itt K a) H1) ∨ ∃ z, x = .str z ∧ R (Its z) H1
theorem pi_any {tl : TE} (he : PE X e tl) : PI X tg e (iAny X.K tl) := by
  refine ⟨fun pins s σ H R I hw => thn (he.run pins s σ H _ I hw) fun v s1 ⟨x, H1, J, rx, qx⟩ => ?_⟩
  have one : ∀ {o : Obj} {tn : Nat → Heap → Prop} {Jt : It}, Turn X.prog X.w X.K tg Jt [s1.heap.objs.size] s1.heap.objs.size tn → tn 0 (s1.heap.push o) → R Jt H1 → PIE X pins σ tg R (.ref s1.heap.objs.size) { s1 with heap := s1.heap.push o } := fun {o tn Jt} T t0 q =>
    ⟨s1.heap.objs.size, [s1.heap.objs.size], tn, Jt, H1, rfl, J.kept (t' := s1.toks) fun b o e => Heap.get?_push_of_some _ e, T, t0, fun b hb => by
      have e : b = s1.heap.objs.size := by simpa using hb
      rw [e]
      exact J.fpOk (Nat.le_refl _) (J.hok.fresh (Nat.le_refl _)), q⟩
  rcases qx with ⟨a, vs, rfl, hq, q⟩ | ⟨a, vs, rfl, hq, q⟩ | ⟨z, rfl, q⟩
  · cases rx
    obtain ⟨its, rv, pl, _⟩ := J.list hq
    exact wpAny_pyIter_list pl.isList (one (turn_list a _) ⟨_, Heap.get?_push_size _ rfl, rfl, rfl⟩ q)
  · cases rx
    obtain ⟨its, rv, pl, _⟩ := J.tuple hq
    exact wpAny_pyIter_tuple (show s1.heap.IsTuple a its.toArray from pl) (one (turn_tuple a _) ⟨_, Heap.get?_push_size _ rfl, rfl, rfl⟩ q)
  · obtain ⟨t, rfl⟩ := rx
    cases hc : z.cps.all (· < 128)
    · exact wpAny_pyIter_wide hc (one (turn_str _ z t "str_iterator" (.inr rfl)) ⟨_, Heap.get?_push_size _ rfl, rfl, rfl⟩ q)
    · exact wpAny_pyIter_ascii hc (one (turn_str _ z t "str_ascii_iterator" (.inl rfl)) ⟨_, Heap.get?_push_size _ rfl, rfl, rfl⟩ q)
theorem rd_sq {K : PySem.W.Frag} {H : Hp} {a : Addr} {vs : List V} (h : Rd H a (.lst vs)) : SqL K H a vs := .inl h
theorem srcD_ok {K : PySem.W.Frag} {w : Wd} {H : Hp} {x : D} {v : V} {src : Src} {R : It → Hp → Prop} (r : RpW B w x v) (R1 : RlW B F0 w H) (e : srcD w.S x = some src) (k : ∀ J G Y, SrcOk B F0 w src J G Y → R J H) :
    (∃ a vs, v = .ref a ∧ SqL K H a vs ∧ R (Itl K a) H) ∨ (∃ a vs, v = .ref a ∧ SqT K H a vs ∧ R (Itt K a) H) ∨ ∃ z, v = .str z ∧ R (Its z) H := by
  unfold srcD at e
  split at e
  · cases e
    cases r with
    | z q => cases q with | lst a b => exact .inl ⟨_, _, rfl, rd_sq (.inl (R1.fh _ _ a)), k _ _ _ (.at walk_list (by simp [b.length]) (fun w' H' R' X' _ => rd_sq (.inl (R'.fh _ _ (X'.f _ _ a)))) (RpDs.zs b))⟩
  · cases e
    cases r with
    | b q =>
      cases q with
      | lst a b =>
        have all : ∀ (w' : Wd) (H' : Hp), RlW B F0 w' H' → Xt w.μ w.S w.F w'.μ w'.S w'.F → Rd H' _ (.lst _) := fun w' H' R' X' => a.elim (fun z => R'.fh.rd (X'.f.rd z)) fun z => R'.bh.rd z
        exact .inl ⟨_, _, rfl, rd_sq (all w H R1 .refl), k _ _ _ (.at walk_list (by simp [b.length]) (fun w' H' R' X' _ => rd_sq (all w' H' R' X')) (RpDs.bzs b))⟩
  · rename_i n
    split at e
    · rename_i ds e1
      cases e
      cases r with
      | r hi =>
        obtain ⟨vs, hv, rv⟩ := R1.ob _ _ e1
        have em : ∀ (w' : Wd), Xt w.μ w.S w.F w'.μ w'.S w'.F → w'.μ n = w.μ n := fun w' X' => X'.m n (Rl.lt e1)
        have there : ∀ (w' : Wd) (H' : Hp), RlW B F0 w' H' → Xt w.μ w.S w.F w'.μ w'.S w'.F → w'.S[n]? = some (.lst ds) → ∃ us, SqL K H' (w.μ n) us ∧ RpsW B w' ds us := fun w' H' R' X' ho => by
          obtain ⟨us, hu, ru⟩ := R'.ob _ _ ho
          rw [em w' X'] at hu
          exact ⟨us, rd_sq (.inl hu), ru⟩
        refine .inl ⟨_, _, rfl, rd_sq (.inl hv), k _ (fun H => ∃ us, SqL K H (w.μ n) us ∧ us.length = ds.length) (fun i H x H' => H' = H ∧ ∀ us, SqL K H (w.μ n) us → us[i]? = some x) ⟨⟨?_, ?_, ?_⟩, ?_, ?_⟩⟩
        · rintro i H2 hi2 ⟨us, hu, hl⟩
          have hi3 : i < us.length := by rw [hl]; exact hi2
          exact ⟨us, us[i], hu, List.getElem?_eq_getElem hi3⟩
        · rintro H2 ⟨us, hu, hl⟩
          exact ⟨us, hu, by rw [hl]; exact Nat.le_refl _⟩
        · exact fun i H x H' _ _ y => y
        · intro w' H' R' X' ho
          obtain ⟨us, h1, h2⟩ := there w' H' R' X' ho
          exact ⟨us, h1, h2.length.symm⟩
        · intro w' H' i x H2 _ R' X' ho y
          obtain ⟨rfl, y⟩ := y
          obtain ⟨us, h1, h2⟩ := there w' _ R' X' ho
          obtain ⟨d, hd, rd⟩ := RpDs.getV h2 (y us h1)
          exact ⟨w', d, hd, rfl, R', .refl, rd⟩
    · cases e
  · cases e
    cases r with
    | z q => cases q with | tup a b => exact .inr (.inl ⟨_, _, rfl, .inl (.inl (R1.fh _ _ a)), k _ _ _ (.at walk_tup (by simp [b.length]) (fun w' H' R' X' _ => .inl (.inl (R'.fh _ _ (X'.f _ _ a)))) (RpDs.zs b))⟩)
  · cases e
    cases r with
    | b q => cases q with | tup a b => exact .inr (.inl ⟨_, _, rfl, .inl (.inl (R1.fh _ _ a)), k _ _ _ (.at walk_tup (by simp [b.length]) (fun w' H' R' X' _ => .inl (.inl (R'.fh _ _ (X'.f _ _ a)))) (RpDs.bzs b))⟩)
  · cases e
    cases r with
    | t a b => exact .inr (.inl ⟨_, _, rfl, .inl (.inl (R1.fh _ _ a)), k _ _ _ (.at walk_tup b.length (fun w' H' R' X' _ => .inl (.inl (R'.fh _ _ (X'.f _ _ a)))) b)⟩)
  · rename_i z
    cases e
    have := rpStr r
    subst this
    refine .inr (.inr ⟨z, rfl, k (Its z) (fun _ => True) (fun i H v H' => H' = H ∧ ∃ c, z.cps[i]? = some c ∧ v = .str ⟨#[c]⟩) ⟨?_, fun _ _ _ _ _ => trivial, fun w' H' i x H2 _ R' X' _ y => ?_⟩⟩)
    · simpa using walk_str (z := z)
    · obtain ⟨rfl, c, hc, rfl⟩ := y
      refine ⟨w', .z (.str ⟨⟨[c]⟩⟩), ?_, rfl, R', .refl, .z (.str _)⟩
      have hc' : z.cps.toList[i]? = some c := by rw [Array.getElem?_toList]; exact hc
      simp [hc']
  · cases e
theorem xit (he : PX X B F0 W e we) : PXI X B F0 W tg e (wIt we) := wkI (pi_any he) fun σ H Q h => by
  obtain ⟨w, env, K, KX, R, E, h, kx, q⟩ := h
  refine ⟨w, env, _, KX, R, E, h, fun x S1 v H1 μ1 F1 R1 X1 r1 h1 => ?_, kx⟩
  obtain ⟨src, e, h1⟩ := h1.out
  exact srcD_ok (w := ⟨μ1, S1, F1⟩) (R := Q) r1 R1 e fun J G Y ok => q src S1 H1 μ1 F1 J G Y R1 X1 h1 ok
/-- range(n), range(a, b) -/
def rgD (lo : Int) (n : Nat) : Src := ⟨(List.range n).map fun (i : Nat) => .z (.int (lo + (i : Int))), fun _ => True⟩
def wRg1 (wa : WA) : WI := fun env S K KX => wa env S (fun xs S1 => match xs with
  | [.z (.int j)] => pReq (-1000000 < j ∧ j < 1000000) (K (rgD 0 j.toNat) S1)
  | _ => False) KX
def wRg2 (wa : WA) : WI := fun env S K KX => wa env S (fun xs S1 => match xs with
  | [.z (.int i), .z (.int j)] => pReq (-1000000 < i ∧ i < 1000000 ∧ -1000000 < j ∧ j < 1000000) (K (rgD i (j - i).toNat) S1)
  | _ => False) KX
theorem rgD_ok {w : Wd} {lo : Int} {n : Nat} : SrcOk B F0 w (rgD lo n) (Itr lo n) (fun _ => True) (YFn fun i => .int (lo + (i : Int))) := ⟨by simpa [rgD] using walk_range (lo := lo) (n := n), fun _ _ _ _ _ => trivial, fun w' H i x H' hi R X1 _ y => by
  obtain ⟨rfl, rfl⟩ := y
  have hi2 : i < n := by simpa [rgD] using hi
  refine ⟨w', .z (.int (lo + (i : Int))), ?_, rfl, R, .refl, .z (.int _)⟩
  show ((List.range n).map _)[i]? = _
  rw [List.getElem?_map, List.getElem?_range hi2]
  rfl⟩
theorem xrg1 {a : Expr} (hg : Gl X "range") (hm : X.mg "range" = none) (ha : PXA X B F0 W [a] wa) (hs : starEach [a] X.env = [(false, eval a X.env)] := by rfl) : PXI X B F0 W tg (.Call (.Name "range" p) [a] [] pos) (wRg1 wa) := wkI (pi_range1 hg hm ha hs) fun σ H Q h => by
  obtain ⟨w, env, K, KX, R, E, h, kx, q⟩ := h
  refine ⟨w, env, _, KX, R, E, h, fun xs S1 vs H1 μ1 F1 R1 X1 r1 h1 => ?_, kx⟩
  dsimp only at h1
  split at h1
  · obtain ⟨hz, h1⟩ := h1.out
    obtain ⟨v, rfl, r2⟩ := RpDs.one (w := ⟨μ1, S1, F1⟩) r1
    have := rpInt (w := ⟨μ1, S1, F1⟩) r2
    subst this
    exact ⟨_, rfl, by omega, by omega, q _ S1 H1 μ1 F1 _ _ _ R1 X1 h1 rgD_ok⟩
  · exact h1.elim
theorem xrg2 {a b : Expr} (hg : Gl X "range") (hm : X.mg "range" = none) (ha : PXA X B F0 W [a, b] wa) (hs : starEach [a, b] X.env = [(false, eval a X.env), (false, eval b X.env)] := by rfl) (hs2 : starEach [b] X.env = [(false, eval b X.env)] := by rfl) :
    PXI X B F0 W tg (.Call (.Name "range" p) [a, b] [] pos) (wRg2 wa) := wkI (pi_range2 hg hm ha hs hs2) fun σ H Q h => by
  obtain ⟨w, env, K, KX, R, E, h, kx, q⟩ := h
  refine ⟨w, env, _, KX, R, E, h, fun xs S1 vs H1 μ1 F1 R1 X1 r1 h1 => ?_, kx⟩
  dsimp only at h1
  split at h1
  · obtain ⟨hz, h1⟩ := h1.out
    obtain ⟨v, u, rfl, r2, r3⟩ := RpDs.two (w := ⟨μ1, S1, F1⟩) r1
    have := rpInt (w := ⟨μ1, S1, F1⟩) r2
    subst this
    have := rpInt (w := ⟨μ1, S1, F1⟩) r3
    subst this
    exact ⟨_, _, rfl, ⟨by omega, by omega, by omega, by omega⟩, q _ S1 H1 μ1 F1 _ _ _ R1 X1 h1 rgD_ok⟩
  · exact h1.elim
/-! enumerate(list), zip(list, list), reversed(list) -/
/-- a list that is walked: its items, and that it stands -/
def lsSrc (S : Sto) : D → Option Src
  | .z (.list ds) => some ⟨ds.map .z, fun _ => True⟩
  | .b (.list ds) => some ⟨ds.map bz, fun _ => True⟩
  | .r n => match S[n]? with
    | some (.lst ds) => some ⟨ds, fun S => S[n]? = some (.lst ds)⟩
    | _ => none
  | _ => none
/-- what such a source is in the heap: at a the list stands, while ok -/
structure Lsd (K : PySem.W.Frag) (B F0 : Hp) (w0 : Wd) (src : Src) (a : Addr) : Prop where
  at_ : ∀ (w : Wd) H, RlW B F0 w H → Xt w0.μ w0.S w0.F w.μ w.S w.F → src.ok w.S → ∃ vs, SqL K H a vs ∧ RpsW B w src.items vs
theorem lsSrc_ok {K : PySem.W.Frag} {w : Wd} {H : Hp} {x : D} {v : V} {src : Src} (r : RpW B w x v) (R1 : RlW B F0 w H) (e : lsSrc w.S x = some src) : ∃ a, v = .ref a ∧ Lsd K B F0 w src a ∧ src.ok w.S := by
  unfold lsSrc at e
  split at e
  · cases e
    cases r with
    | z q => cases q with | lst a b => exact ⟨_, rfl, ⟨fun w' H' R' X' _ => ⟨_, rd_sq (.inl (R'.fh _ _ (X'.f _ _ a))), (RpDs.zs (B := B) (μ := w.μ) (n := w.S.length) b).xt X'⟩⟩, trivial⟩
  · cases e
    cases r with
    | b q => cases q with | lst a b => exact ⟨_, rfl, ⟨fun w' H' R' X' _ => ⟨_, rd_sq (a.elim (fun z => R'.fh.rd (X'.f.rd z)) fun z => R'.bh.rd z), (RpDs.bzs (B := B) (μ := w.μ) (n := w.S.length) b).xt X'⟩⟩, trivial⟩
  · rename_i n
    split at e
    · rename_i ds e1
      cases e
      cases r with
      | r hi =>
        refine ⟨_, rfl, ⟨fun w' H' R' X' ho => ?_⟩, e1⟩
        obtain ⟨us, hu, ru⟩ := R'.ob _ _ ho
        rw [X'.m n hi] at hu
        exact ⟨us, rd_sq (.inl hu), ru⟩
    · cases e
  · cases e
def enumSrc (src : Src) : Src := ⟨src.items.mapIdx fun i d => mkT [.z (.int (i : Int)), d], src.ok⟩
def zipSrc (s1 s2 : Src) : Src := ⟨List.zipWith (fun a b => mkT [a, b]) s1.items s2.items, fun S => s1.ok S ∧ s2.ok S⟩
def revSrc (src : Src) : Src := ⟨src.items.reverse, src.ok⟩
def wEn (wa : WA) : WI := fun env S K KX => wa env S (fun xs S1 => match xs with
  | [x] => pGet (lsSrc S1 x) fun src => K (enumSrc src) S1
  | _ => False) KX
def wZp (wa : WA) : WI := fun env S K KX => wa env S (fun xs S1 => match xs with
  | [x, y] => pGet (lsSrc S1 x) fun s1 => pGet (lsSrc S1 y) fun s2 => K (zipSrc s1 s2) S1
  | _ => False) KX
def wRv (wa : WA) : WI := fun env S K KX => wa env S (fun xs S1 => match xs with
  | [x] => pGet (lsSrc S1 x) fun src => K (revSrc src) S1
  | _ => False) KX
theorem new_pair {w : Wd} {H : Hp} {T : Addr} {x y : V} {d e : D} (R : RlW B F0 w H) (hT : H T = none) (r1 : RpW B w d x) (r2 : RpW B w e y) : ∃ w' : Wd, w'.S = w.S ∧ RlW B F0 w' (upd H T (.tup [x, y])) ∧ Xt w.μ w.S w.F w'.μ w'.S w'.F ∧ RpW B w' (mkT [d, e]) (.ref T) := by
  obtain ⟨R2, X2⟩ := R.froze (.tup [x, y]) hT
  exact ⟨⟨w.μ, w.S, upd w.F T (.tup [x, y])⟩, rfl, R2, X2, mkT_rp upd_same (.cons (r1.xt X2) (.cons (r2.xt X2) .nil))⟩
theorem enum_ok {K : PySem.W.Frag} {w0 : Wd} {src : Src} {a : Addr} (h : Lsd K B F0 w0 src a) : SrcOk B F0 w0 (enumSrc src) (Ite K a) (fun H => ∃ vs, SqL K H a vs ∧ vs.length = src.items.length)
    (fun i H v H' => ∃ T x, v = .ref T ∧ H T = none ∧ H' = upd H T (.tup [.int (i : Nat), x]) ∧ ∀ xs, SqL K H a xs → xs[i]? = some x) := by
  have hl : (enumSrc src).items.length = src.items.length := by simp [enumSrc]
  refine ⟨⟨?_, ?_, fun i H x H' _ _ y => y⟩, ?_, ?_⟩
  · rintro i H hi ⟨vs, h1, h2⟩
    rw [hl] at hi
    have : i < vs.length := by omega
    exact ⟨vs, vs[i], h1, List.getElem?_eq_getElem this⟩
  · rintro H ⟨vs, h1, h2⟩
    exact ⟨vs, h1, by rw [hl]; omega⟩
  · intro w H R X1 ho
    obtain ⟨vs, h1, h2⟩ := h.at_ w H R X1 ho
    exact ⟨vs, h1, h2.length.symm⟩
  · intro w H i x H' hi R X1 ho y
    obtain ⟨T, z, rfl, hT, rfl, hz⟩ := y
    obtain ⟨vs, h1, h2⟩ := h.at_ w H R X1 ho
    obtain ⟨d, hd, rd⟩ := RpDs.getV h2 (hz vs h1)
    obtain ⟨w', e1, e2, e3, e4⟩ := new_pair (d := .z (.int (i : Nat))) R hT (.z (.int _)) rd
    exact ⟨w', _, by simp [enumSrc, hd], e1, e2, e3, e4⟩
theorem zip_ok {K : PySem.W.Frag} {w0 : Wd} {s1 s2 : Src} {a b : Addr} (h1 : Lsd K B F0 w0 s1 a) (h2 : Lsd K B F0 w0 s2 b) : SrcOk B F0 w0 (zipSrc s1 s2) (Itz K a b) (fun H => ∃ xs ys, SqL K H a xs ∧ SqL K H b ys ∧ xs.length = s1.items.length ∧ ys.length = s2.items.length)
    (fun i H v H' => ∃ T x y, v = .ref T ∧ H T = none ∧ H' = upd H T (.tup [x, y]) ∧ (∀ xs, SqL K H a xs → xs[i]? = some x) ∧ ∀ ys, SqL K H b ys → ys[i]? = some y) := by
  have hl : (zipSrc s1 s2).items.length = min s1.items.length s2.items.length := by simp [zipSrc]
  refine ⟨⟨?_, ?_, fun i H x H' _ _ y => y⟩, ?_, ?_⟩
  · rintro i H hi ⟨xs, ys, q1, q2, l1, l2⟩
    rw [hl] at hi
    have a1 : i < xs.length := by omega
    have a2 : i < ys.length := by omega
    exact ⟨xs, ys, xs[i], ys[i], q1, q2, List.getElem?_eq_getElem a1, List.getElem?_eq_getElem a2⟩
  · rintro H ⟨xs, ys, q1, q2, l1, l2⟩
    exact ⟨xs, ys, q1, q2, by rw [hl]; omega⟩
  · intro w H R X1 ho
    obtain ⟨xs, q1, r1⟩ := h1.at_ w H R X1 ho.1
    obtain ⟨ys, q2, r2⟩ := h2.at_ w H R X1 ho.2
    exact ⟨xs, ys, q1, q2, r1.length.symm, r2.length.symm⟩
  · intro w H i x H' hi R X1 ho y
    obtain ⟨T, z, u, rfl, hT, rfl, hz, hu⟩ := y
    obtain ⟨xs, q1, r1⟩ := h1.at_ w H R X1 ho.1
    obtain ⟨ys, q2, r2⟩ := h2.at_ w H R X1 ho.2
    obtain ⟨d, hd, rd⟩ := RpDs.getV r1 (hz xs q1)
    obtain ⟨e, he, re⟩ := RpDs.getV r2 (hu ys q2)
    obtain ⟨w', e1, e2, e3, e4⟩ := new_pair R hT rd re
    exact ⟨w', _, by simp [zipSrc, List.getElem?_zipWith, hd, he], e1, e2, e3, e4⟩
theorem rev_ok {K : PySem.W.Frag} {w0 : Wd} {src : Src} {a : Addr} (h : Lsd K B F0 w0 src a) : SrcOk B F0 w0 (revSrc src) (Itv K a src.items.length) (fun H => ∃ vs, SqL K H a vs ∧ vs.length = src.items.length)
    (fun i H x H' => H' = H ∧ ∀ xs, SqL K H a xs → xs[src.items.length - 1 - i]? = some x) := by
  have hl : (revSrc src).items.length = src.items.length := by simp [revSrc]
  refine ⟨⟨?_, fun H _ => by rw [hl]; exact Nat.le_refl _, fun i H x H' _ _ y => y⟩, ?_, ?_⟩
  · rintro i H hi ⟨vs, h1, h2⟩
    rw [hl] at hi
    have : src.items.length - 1 - i < vs.length := by omega
    exact ⟨hi, vs, vs[src.items.length - 1 - i], h1, List.getElem?_eq_getElem this⟩
  · intro w H R X1 ho
    obtain ⟨vs, h1, h2⟩ := h.at_ w H R X1 ho
    exact ⟨vs, h1, h2.length.symm⟩
  · intro w H i x H' hi R X1 ho y
    obtain ⟨rfl, hz⟩ := y
    obtain ⟨vs, h1, h2⟩ := h.at_ w _ R X1 ho
    obtain ⟨d, hd, rd⟩ := RpDs.getV h2 (hz vs h1)
    rw [hl] at hi
    exact ⟨w, d, by show src.items.reverse[i]? = _; rw [List.getElem?_reverse hi]; exact hd, rfl, R, .refl, rd⟩
theorem xen {elts : List Expr} {kk : Nat} {tpos : Pos} (hg : Gl X "enumerate") (hm : X.mg "enumerate" = none) (ha : PXA X B F0 W [e] wa) (hs : starEach [e] X.env = [(false, eval e X.env)] := by rfl) : PXI X B F0 W (.Tuple elts kk tpos) (.Call (.Name "enumerate" p) [e] [] pos) (wEn wa) :=
  wkI (pi_enum hg hm ha hs) fun σ H Q h => by
    obtain ⟨w, env, K, KX, R, E, h, kx, q⟩ := h
    refine ⟨w, env, _, KX, R, E, h, fun xs S1 vs H1 μ1 F1 R1 X1 r1 h1 => ?_, kx⟩
    dsimp only at h1
    split at h1
    · obtain ⟨src, e1, h1⟩ := h1.out
      obtain ⟨v, rfl, r2⟩ := RpDs.one (w := ⟨μ1, S1, F1⟩) r1
      obtain ⟨a, rfl, hl, ho⟩ := lsSrc_ok (K := X.K) (w := ⟨μ1, S1, F1⟩) r2 R1 e1
      obtain ⟨us, hu, _⟩ := hl.at_ ⟨μ1, S1, F1⟩ H1 R1 .refl ho
      exact ⟨a, us, rfl, hu, q _ S1 H1 μ1 F1 _ _ _ R1 X1 h1 (enum_ok hl)⟩
    · exact h1.elim
theorem xzp {e2 : Expr} {elts : List Expr} {kk : Nat} {tpos : Pos} (hg : Gl X "zip") (hm : X.mg "zip" = none) (ha : PXA X B F0 W [e, e2] wa) (hs : starEach [e, e2] X.env = (false, eval e X.env) :: starEach [e2] X.env := by rfl) (hpl : (backTo pos (starEach [e2] X.env)).any (·.1) = false := by rfl) :
    PXI X B F0 W (.Tuple elts kk tpos) (.Call (.Name "zip" p) [e, e2] [] pos) (wZp wa) :=
  wkI (pi_zip hg hm ha hs hpl) fun σ H Q h => by
    obtain ⟨w, env, K, KX, R, E, h, kx, q⟩ := h
    refine ⟨w, env, _, KX, R, E, h, fun xs S1 vs H1 μ1 F1 R1 X1 r1 h1 => ?_, kx⟩
    dsimp only at h1
    split at h1
    · obtain ⟨src1, e1, h1⟩ := h1.out
      obtain ⟨src2, e2, h1⟩ := h1.out
      obtain ⟨v, u, rfl, r2, r3⟩ := RpDs.two (w := ⟨μ1, S1, F1⟩) r1
      obtain ⟨a, rfl, hl, ho⟩ := lsSrc_ok (K := X.K) (w := ⟨μ1, S1, F1⟩) r2 R1 e1
      obtain ⟨us, hu, _⟩ := hl.at_ ⟨μ1, S1, F1⟩ H1 R1 .refl ho
      obtain ⟨b, rfl, hl2, ho2⟩ := lsSrc_ok (K := X.K) (w := ⟨μ1, S1, F1⟩) r3 R1 e2
      obtain ⟨us2, hu2, _⟩ := hl2.at_ ⟨μ1, S1, F1⟩ H1 R1 .refl ho2
      exact ⟨a, b, us, us2, rfl, hu, hu2, q _ S1 H1 μ1 F1 _ _ _ R1 X1 h1 (zip_ok hl hl2)⟩
    · exact h1.elim
theorem xrv (hg : Gl X "reversed") (hm : X.mg "reversed" = none) (ha : PXA X B F0 W [e] wa) (hs : starEach [e] X.env = [(false, eval e X.env)] := by rfl) : PXI X B F0 W tg (.Call (.Name "reversed" p) [e] [] pos) (wRv wa) :=
  wkI (pi_reversed hg hm ha hs) fun σ H Q h => by
    obtain ⟨w, env, K, KX, R, E, h, kx, q⟩ := h
    refine ⟨w, env, _, KX, R, E, h, fun xs S1 vs H1 μ1 F1 R1 X1 r1 h1 => ?_, kx⟩
    dsimp only at h1
    split at h1
    · obtain ⟨src, e1, h1⟩ := h1.out
      obtain ⟨v, rfl, r2⟩ := RpDs.one (w := ⟨μ1, S1, F1⟩) r1
      obtain ⟨a, rfl, hl, ho⟩ := lsSrc_ok (K := X.K) (w := ⟨μ1, S1, F1⟩) r2 R1 e1
      obtain ⟨us, hu, ru⟩ := hl.at_ ⟨μ1, S1, F1⟩ H1 R1 .refl ho
      refine ⟨a, us, rfl, hu, ?_⟩
      rw [← ru.length]
      exact q _ S1 H1 μ1 F1 _ _ _ R1 X1 h1 (rev_ok hl)
    · exact h1.elim
end

/-! ### for, while -/
def pForGo (src : Src) (g : WG) (body : WS) (k : KS) : List D → Env → Sto → Prop
  | [] => fun env S => src.ok S ∧ k.nx env S
  | d :: ds => fun env S => src.ok S ∧ g d env S fun env1 S1 => body { k with nx := pForGo src g body k ds, ct := pForGo src g body k ds, bk := k.nx } env1 S1
@[irreducible] def pFor (src : Src) (g : WG) (body : WS) (k : KS) (ds : List D) (env : Env) (S : Sto) : Prop := pForGo src g body k ds env S
theorem pFor.nil {src : Src} {g : WG} {body : WS} {k : KS} {env : Env} {S : Sto} : pFor src g body k [] env S = (src.ok S ∧ k.nx env S) := by unfold pFor; rfl
theorem pFor.cons {src : Src} {g : WG} {body : WS} {k : KS} {d : D} {ds : List D} {env : Env} {S : Sto} : pFor src g body k (d :: ds) env S = (src.ok S ∧ g d env S fun env1 S1 => body { k with nx := pFor src g body k ds, ct := pFor src g body k ds, bk := k.nx } env1 S1) := by
  have e : pFor src g body k ds = pForGo src g body k ds := by funext e s; unfold pFor; rfl
  rw [e]; unfold pFor; rfl
def wFor (wi : WI) (g : WG) (body : WS) : WS := fun k env S => wi env S (fun src S1 => pFor src g body k src.items env S1) k.ex
/-- by an invariant over (measure, names, store) -/
@[irreducible] def pWhile (t : WT) (body : WS) (k : KS) (env : Env) (S : Sto) : Prop := ∃ P : Nat → Env → Sto → Prop, (∃ m, P m env S) ∧ ∀ m env S, P m env S →
  t env S (fun b S1 => pIf b (body { k with nx := fun env2 S2 => ∃ m', m' < m ∧ P m' env2 S2, ct := fun env2 S2 => ∃ m', m' < m ∧ P m' env2 S2, bk := k.nx } env S1) (k.nx env S1)) k.ex
def wWhile (t : WT) (body : WS) : WS := fun k env S => pWhile t body k env S
section
variable {X : Cx} {B F0 : Hp} {W : WX} {tg iter c : Expr} {body : List Stmt} {wi : WI} {g : WG} {b : WS} {t : WT} {pos : Pos}
theorem xfor (hp : PassesOwn (model X.prog X.w) X.A X.env X.xe) (hc : X.calm = true) (hi : PXI X B F0 W tg iter wi) (hg : PXG X B F0 tg g) (hb : PXB X B F0 W body b) (hs : ∀ x, foldedSetIterable iter X.env x = pure x := by intro _; rfl) : PXS X B F0 W (.For tg iter body [] pos) (wFor wi g b) :=
  wkS (ps_for hp hc hi hg hb hs) fun D σ H h => by
    obtain ⟨w, env, k, R, E, h, f⟩ := h
    refine ⟨w, env, _, _, R, E, h, f.toX E, fun src S1 H1 μ1 F1 J G Y R1 X1 h1 ok => ?_⟩
    refine for_it ok.walk (fun i σ2 H2 => ∃ (w2 : Wd) (env2 : Env), RlW B F0 w2 H2 ∧ Xt μ1 S1 F1 w2.μ w2.S w2.F ∧ EnvR B w2.F w2.μ w2.S.length env2 σ2 ∧ pFor src g b k (src.items.drop i) env2 w2.S) ?_ ?_ ?_ ?_
    · exact ⟨⟨μ1, S1, F1⟩, env, R1, .refl, E.xt X1, h1⟩
    · rintro i σ2 H2 _ ⟨w2, env2, R2, X2, E2, h2⟩
      refine ok.good w2 H2 R2 X2 ?_
      cases hd : src.items.drop i with
      | nil => rw [hd, pFor.nil] at h2; exact h2.1
      | cons d ds => rw [hd, pFor.cons] at h2; exact h2.1
    · rintro i x σ2 H2 H3 hi ⟨w2, env2, R2, X2, E2, h2⟩ y
      rw [List.drop_eq_getElem_cons hi, pFor.cons] at h2
      obtain ⟨ho, h2⟩ := h2
      obtain ⟨w3, d, hd, eS, R3, X3, rd⟩ := ok.item w2 H2 i x H3 hi R2 X2 ho y
      have ed : src.items[i] = d := Option.some.inj ((List.getElem?_eq_getElem hi).symm.trans hd)
      rw [ed, ← eS] at h2
      refine ⟨w3, env2, d, _, R3, E2.xt X3, rd, h2, fun env4 S4 σ4 H4 μ4 F4 R4 X4 E4 h4 => ?_⟩
      have X24 := X2.trans (X3.trans X4)
      refine ⟨⟨μ4, S4, F4⟩, env4, _, R4, E4, h4, ⟨fun env5 S5 σ5 H5 μ5 F5 R5 X5 E5 h5 => ?_, f.rt.xt (X1.trans X24), fun env5 S5 σ5 H5 μ5 F5 R5 X5 E5 h5 => ?_, fun env5 S5 σ5 H5 μ5 F5 R5 X5 E5 h5 => ?_, fun y5 env5 S5 σ5 H5 μ5 F5 c5 d5 R5 X5 E5 r5 h5 => ?_⟩⟩
      · exact ⟨⟨μ5, S5, F5⟩, env5, R5, X24.trans X5, E5, h5⟩
      · exact f.nx _ _ _ _ _ _ R5 ((X1.trans X24).trans X5) E5 h5
      · exact ⟨⟨μ5, S5, F5⟩, env5, R5, X24.trans X5, E5, h5⟩
      · exact f.ex _ _ _ _ _ _ _ _ _ R5 ((X1.trans X24).trans X5) E5 r5 h5
    · rintro σ2 H2 ⟨w2, env2, R2, X2, E2, h2⟩
      rw [List.drop_length, pFor.nil] at h2
      exact f.nx _ _ _ _ _ _ R2 (X1.trans X2) E2 h2.2
theorem xwhile (hp : PassesOwn (model X.prog X.w) X.A X.env X.xe) (hc : PXT X B F0 W c t) (hb : PXB X B F0 W body b) : PXS X B F0 W (.While c body [] pos) (wWhile t b) := wkS (ps_while hp hc hb) fun D σ H h => by
  obtain ⟨w, env, k, R, E, h, f⟩ := h
  unfold wWhile pWhile at h
  obtain ⟨P, ⟨m0, p0⟩, turn⟩ := h
  refine ⟨fun m σ2 H2 => ∃ (w2 : Wd) (env2 : Env), RlW B F0 w2 H2 ∧ Xt w.μ w.S w.F w2.μ w2.S w2.F ∧ EnvR B w2.F w2.μ w2.S.length env2 σ2 ∧ P m env2 w2.S, ⟨m0, w, env, R, .refl, E, p0⟩, ?_⟩
  rintro m σ2 H2 ⟨w2, env2, R2, X2, E2, p2⟩
  refine ⟨w2, env2, _, _, R2, E2, turn m env2 w2.S p2, fun kb S3 H3 μ3 F3 R3 X3 h3 => ?_, (f.xt X2).toX E2⟩
  have h3 := h3.out
  dsimp only
  cases kb with
  | true =>
    rw [if_pos rfl] at h3 ⊢
    refine ⟨fun σ4 H4 => ∃ m', m' < m ∧ ∃ (w4 : Wd) (env4 : Env), RlW B F0 w4 H4 ∧ Xt w.μ w.S w.F w4.μ w4.S w4.F ∧ EnvR B w4.F w4.μ w4.S.length env4 σ4 ∧ P m' env4 w4.S, fun σ4 H4 h => h, ?_⟩
    have X23 := X2.trans X3
    refine ⟨⟨μ3, S3, F3⟩, env2, _, R3, E2.xt X3, h3, ⟨fun env5 S5 σ5 H5 μ5 F5 R5 X5 E5 h5 => ?_, f.rt.xt X23, fun env5 S5 σ5 H5 μ5 F5 R5 X5 E5 h5 => ?_, fun env5 S5 σ5 H5 μ5 F5 R5 X5 E5 h5 => ?_, fun y5 env5 S5 σ5 H5 μ5 F5 c5 d5 R5 X5 E5 r5 h5 => ?_⟩⟩
    · obtain ⟨m', hm, p5⟩ := h5; exact ⟨m', hm, ⟨μ5, S5, F5⟩, env5, R5, X23.trans X5, E5, p5⟩
    · exact f.nx _ _ _ _ _ _ R5 (X23.trans X5) E5 h5
    · obtain ⟨m', hm, p5⟩ := h5; exact ⟨m', hm, ⟨μ5, S5, F5⟩, env5, R5, X23.trans X5, E5, p5⟩
    · exact f.ex _ _ _ _ _ _ _ _ _ R5 (X23.trans X5) E5 r5 h5
  | false =>
    rw [if_neg Bool.false_ne_true] at h3 ⊢
    exact f.nx _ _ _ _ _ _ R3 (X2.trans X3) (E2.xt X3) h3
end
end PL

set_option Elab.async false
set_option linter.all false
set_option maxRecDepth 100000
/-! PL, part 8: list comprehensions -/
namespace PL
open PySem L2

def W0 : WX := fun _ _ _ _ => False
def X0 : KX := fun _ _ _ => False
theorem fix0 {B F0 : Hp} {w : Wd} {env : Env} {σ : St} {W : WX} : FiX B F0 W w env σ X0 := fun _ _ _ _ _ _ _ _ _ _ h => h.elim
def wipeE (env : Env) : List Nat → Env
  | [] => env
  | v :: vs => (wipeE env vs).set v none
theorem EnvR.wipe {B F : Hp} {μ : Nat → Addr} {n : Nat} {env : Env} {σ : St} (E : EnvR B F μ n env σ) : ∀ vs : List Nat, EnvR B F μ n (wipeE env vs) (L2.wipe σ vs)
  | [] => E
  | v :: vs => EnvR.unset v (EnvR.wipe E vs)
theorem wipe_set {σ : St} {i : Nat} {x : Option V} : ∀ {vs : List Nat}, i ∈ vs → L2.wipe (σ.set i x) vs = L2.wipe σ vs
  | [], h => by cases h
  | v :: vs, h => by
    show (L2.wipe (σ.set i x) vs).set v none = (L2.wipe σ vs).set v none
    by_cases hm : i ∈ vs
    · rw [wipe_set hm]
    · have e : i = v := (List.mem_cons.mp h).resolve_right hm
      subst e
      have comm : ∀ (us : List Nat) (τ : St), i ∉ us → L2.wipe (τ.set i x) us = (L2.wipe τ us).set i x := by
        intro us
        induction us with
        | nil => intro τ _; rfl
        | cons u us ih =>
          intro τ hu
          have h1 : i ∉ us := fun z => hu (List.mem_cons_of_mem _ z)
          have h2 : i ≠ u := fun z => hu (by rw [z]; exact List.mem_cons_self)
          show (L2.wipe (τ.set i x) us).set u none = ((L2.wipe τ us).set u none).set i x
          rw [ih τ h1, List.set_comm _ _ h2]
      rw [comm vs σ hm, List.set_set]
theorem wipe_idem {σ : St} : ∀ (vs : List Nat), L2.wipe (L2.wipe σ vs) vs = L2.wipe σ vs
  | [] => rfl
  | v :: vs => by
    have h : L2.wipe ((L2.wipe σ vs).set v none) (v :: vs) = L2.wipe (L2.wipe σ vs) (v :: vs) := wipe_set List.mem_cons_self
    show L2.wipe ((L2.wipe σ vs).set v none) (v :: vs) = (L2.wipe σ vs).set v none
    rw [h]
    show (L2.wipe (L2.wipe σ vs) vs).set v none = _
    rw [wipe_idem vs]
/-- a comprehension's target: names of its own -/
structure TgOk (K : PySem.W.Frag) (B F0 : Hp) (g : TG) (tg : D → Env → Option Env) (vs : List Nat) : Prop where
  run : ∀ (w : Wd) (H : Hp) (d : D) (v : V) (env env2 : Env) (σ : St) (Q : St → Hp → Prop), RlW B F0 w H → RpW B w d v → EnvR B w.F w.μ w.S.length env σ → tg d env = some env2 →
    (∀ σ2, EnvR B w.F w.μ w.S.length env2 σ2 → L2.wipe σ2 vs = L2.wipe σ vs → Q σ2 H) → g v σ H Q
def tgN (i : Nat) : D → Env → Option Env := fun d env => some (env.set i (some d))
def setE : Env → List Nat → List D → Option Env
  | env, [], [] => some env
  | env, i :: is, d :: ds => setE (env.set i (some d)) is ds
  | _, _, _ => none
def tgT (is : List Nat) : D → Env → Option Env := fun d env => match tpD d with
  | some ds => setE env is ds
  | none => none
section
variable {K : PySem.W.Frag} {B F0 : Hp}
theorem tgok_name {i : Nat} {vs : List Nat} (hi : i ∈ vs := by simp) : TgOk K B F0 (gName i) (tgN i) vs := ⟨fun w H d v env env2 σ Q R r E e k => by
  cases e
  exact k _ (EnvR.set r i E) (wipe_set hi)⟩
def gNames : List Nat → TGs
  | [] => gNil
  | i :: is => gCons (gName i) (gNames is)
theorem gNames_ok {w : Wd} {H : Hp} {vs : List Nat} {Q : St → Hp → Prop} : ∀ {is : List Nat} {ds : List D} {us : List V} {env env2 : Env} {σ σ0 : St}, (∀ i ∈ is, i ∈ vs) → RpsW B w ds us → EnvR B w.F w.μ w.S.length env σ → setE env is ds = some env2 → L2.wipe σ vs = L2.wipe σ0 vs →
    (∀ σ2, EnvR B w.F w.μ w.S.length env2 σ2 → L2.wipe σ2 vs = L2.wipe σ0 vs → Q σ2 H) → gNames is us σ H Q ∧ us.length = is.length
  | [], [], _, _, _, _, _, _, r, E, e, hw, k => by
    cases r
    cases e
    exact ⟨⟨rfl, k _ E hw⟩, rfl⟩
  | [], _ :: _, _, _, _, _, _, _, _, _, e, _, _ => by cases e
  | _ :: _, [], _, _, _, _, _, _, _, _, e, _, _ => by cases e
  | i :: is, d :: ds, _, env, env2, σ, σ0, hv, r, E, e, hw, k => by
    cases r with
    | cons r1 r2 =>
      obtain ⟨h1, h2⟩ := gNames_ok (is := is) (fun j hj => hv j (List.mem_cons_of_mem _ hj)) r2 (EnvR.set r1 i E) e ((wipe_set (hv i List.mem_cons_self)).trans hw) k
      exact ⟨⟨_, _, rfl, h1⟩, by simp [h2]⟩
theorem tgok_tup {is : List Nat} {vs : List Nat} {n : Nat} (hn : is.length = n := by rfl) (hi : ∀ i ∈ is, i ∈ vs := by decide) : TgOk K B F0 (gTup K n (gNames is)) (tgT is) vs := ⟨fun w H d v env env2 σ Q R r E e k => by
  unfold tgT at e
  split at e
  · rename_i ds e1
    obtain ⟨a, us, rfl, ha, ru⟩ := tpD_ok R r e1
    obtain ⟨h1, h2⟩ := gNames_ok hi ru E e rfl k
    exact ⟨a, us, rfl, .inl (.inl ha), h2.trans hn, h1⟩
  · cases e⟩
end

def pLcGo (src : Src) (tg : D → Env → Option Env) (wt : WT) (we : WE) (L : Nat) (env : Env) (fin : Sto → Prop) : List D → Sto → Prop
  | [] => fun S => src.ok S ∧ fin S
  | d :: ds => fun S => src.ok S ∧ pGet (tg d env) fun env2 => wt env2 S (fun b S1 => pIf b (we env2 S1 (fun y S2 => pGet (lsR S2 L) fun acc => pReq (acc.length < sizeLine) (pLcGo src tg wt we L env fin ds (S2.set L (.lst (acc ++ [y]))))) X0) (pLcGo src tg wt we L env fin ds S1)) X0
@[irreducible] def pLc (src : Src) (tg : D → Env → Option Env) (wt : WT) (we : WE) (L : Nat) (env : Env) (fin : Sto → Prop) (ds : List D) (S : Sto) : Prop := pLcGo src tg wt we L env fin ds S
theorem pLc.nil {src : Src} {tg : D → Env → Option Env} {wt : WT} {we : WE} {L : Nat} {env : Env} {fin : Sto → Prop} {S : Sto} : pLc src tg wt we L env fin [] S = (src.ok S ∧ fin S) := by unfold pLc; rfl
theorem pLc.cons {src : Src} {tg : D → Env → Option Env} {wt : WT} {we : WE} {L : Nat} {env : Env} {fin : Sto → Prop} {d : D} {ds : List D} {S : Sto} : pLc src tg wt we L env fin (d :: ds) S = (src.ok S ∧ pGet (tg d env) fun env2 => wt env2 S (fun b S1 => pIf b (we env2 S1 (fun y S2 => pGet (lsR S2 L) fun acc => pReq (acc.length < sizeLine) (pLc src tg wt we L env fin ds (S2.set L (.lst (acc ++ [y]))))) X0) (pLc src tg wt we L env fin ds S1)) X0) := by
  have e : pLc src tg wt we L env fin ds = pLcGo src tg wt we L env fin ds := by funext s; unfold pLc; rfl
  rw [e]; unfold pLc; rfl
def wLc (wi : WI) (tg : D → Env → Option Env) (wt : WT) (we : WE) (vs : List Nat) : WE := fun env S K KX => wi env S (fun src S1 => pLc src tg wt we S1.length (wipeE env vs) (fun S2 => K (.r S1.length) S2) src.items (S1 ++ [.lst []])) KX
/-- no test -/
def wYes : WT := fun _ S K _ => K true S
section
variable {X : Cx} {B F0 : Hp} {W : WX}
theorem lc_wk {wi : WI} {g : TG} {tg : D → Env → Option Env} {wt : WT} {we : WE} {vs : List Nat} (hg : TgOk X.K B F0 g tg vs) {σ : St} {H : Hp} {Q : VK} (h : tE B F0 W (wLc wi tg wt we vs) σ H Q) : tLc (tI B F0 W wi) g (tT B F0 W0 wt) (tE B F0 W0 we) vs σ H Q := by
  obtain ⟨w, env, K, KX, R, E, h, k, kx⟩ := h
  refine ⟨w, env, _, KX, R, E, h, kx, fun src S1 H1 μ1 F1 J G Y R1 X1 h1 ok => fun Dl hD => ?_⟩
  obtain ⟨Rg, Xg⟩ := R1.grow (u := .lst []) (o := .lst []) hD fun G hG => ⟨[], hG, .nil⟩
  refine lc_it ok.walk (fun i H2 => ∃ (w2 : Wd), RlW B F0 w2 H2 ∧ Xt (muX μ1 S1.length Dl) (S1 ++ [.lst []]) F1 w2.μ w2.S w2.F ∧ pLc src tg wt we S1.length (wipeE env vs) (fun S2 => K (.r S1.length) S2) (src.items.drop i) w2.S) ?_ ?_ ?_ ?_
  · exact ⟨⟨_, _, _⟩, Rg, .refl, h1⟩
  · rintro i H2 _ ⟨w2, R2, X2, h2⟩
    refine ok.good w2 H2 R2 (Xg.trans X2) ?_
    cases hd : src.items.drop i with
    | nil => rw [hd, pLc.nil] at h2; exact h2.1
    | cons d ds => rw [hd, pLc.cons] at h2; exact h2.1
  · rintro i x H2 H3 hi ⟨w2, R2, X2, h2⟩ y
    rw [List.drop_eq_getElem_cons hi, pLc.cons] at h2
    obtain ⟨ho, h2⟩ := h2
    obtain ⟨env2, he2, h2⟩ := h2.out
    obtain ⟨w3, d, hd, eS, R3, X3, rd⟩ := ok.item w2 H2 i x H3 hi R2 (Xg.trans X2) ho y
    have ed : src.items[i] = d := Option.some.inj ((List.getElem?_eq_getElem hi).symm.trans hd)
    rw [ed] at he2
    rw [← eS] at h2
    have X13 : Xt w.μ w.S w.F w3.μ w3.S w3.F := (X1.trans Xg).trans (X2.trans X3)
    refine hg.run w3 H3 d x (wipeE env vs) env2 (L2.wipe σ vs) _ R3 rd ((E.xt X13).wipe vs) he2 fun σ2 E2 hw2 => ⟨hw2.trans (wipe_idem vs), ?_⟩
    refine ⟨w3, env2, _, X0, R3, E2, h2, fun b S4 H4 μ4 F4 R4 X4 h4 => ?_, fix0⟩
    have h4 := h4.out
    dsimp only
    cases b with
    | false =>
      rw [if_neg Bool.false_ne_true] at h4 ⊢
      exact ⟨⟨μ4, S4, F4⟩, R4, X2.trans (X3.trans X4), h4⟩
    | true =>
      rw [if_pos rfl] at h4 ⊢
      refine ⟨⟨μ4, S4, F4⟩, env2, _, X0, R4, E2.xt X4, h4, fun yd S5 yv H5 μ5 F5 R5 X5 r5 h5 => ?_, fix0⟩
      obtain ⟨acc, ea, h5⟩ := h5.out
      obtain ⟨hz, h5⟩ := h5.out
      obtain ⟨hn, as, hv, ra⟩ := lsR_ok (w := ⟨μ5, S5, F5⟩) R5 ea
      have X25 := X2.trans (X3.trans (X4.trans X5))
      have eD : μ5 S1.length = Dl := by
        have := X25.m S1.length (by simp)
        rw [this]
        unfold muX
        rw [if_pos rfl]
      have hv : H5 (μ5 S1.length) = some (.lst as) := hv
      rw [eD] at hv
      refine ⟨as, hv, by rw [← ra.length]; exact hz, ?_⟩
      obtain ⟨R6, X6⟩ := R5.write (u := .lst (as ++ [yv])) (o := .lst (acc ++ [yd])) hn fun G hG => ⟨_, hG, ra.append (.cons r5 .nil)⟩
      rw [eD] at R6
      exact ⟨⟨μ5, _, F5⟩, R6, X25.trans X6, h5⟩
  · rintro H2 ⟨w2, R2, X2, h2⟩
    rw [List.drop_length, pLc.nil] at h2
    have eD : w2.μ S1.length = Dl := by
      have := X2.m S1.length (by simp)
      rw [this]
      unfold muX
      rw [if_pos rfl]
    have hlt : S1.length < w2.S.length := Nat.lt_of_lt_of_le (by simp) X2.n
    have r : RpD B w2.F w2.μ w2.S.length (.r S1.length) (.ref (w2.μ S1.length)) := .r hlt
    rw [eD] at r
    exact k _ _ _ _ _ _ R2 ((X1.trans Xg).trans X2) r h2.2
variable {elt tg iter : Expr} {ifs : List Expr} {scope : Scope} {own : List (Str × Nat)} {pos spos : Pos} {wi : WI} {g : TG} {tgd : D → Env → Option Env} {wt : WT} {we : WE}
def PXTs (X : Cx) (B F0 : Hp) (ifs : List Expr) (wt : WT) : Prop := PTs X ifs (tT B F0 W0 wt)
theorem tsNil : PXTs X B F0 [] wYes := ⟨fun pins s σ H Q I h => by
  obtain ⟨w, env, K, KX, R, E, h, k, _⟩ := h
  exact pts_nil.run pins s σ H Q I (k true w.S H w.μ w.F R .refl h)⟩
theorem tsOne {c : Expr} (h : PXT X B F0 W0 c wt) : PXTs X B F0 [c] wt := pts_one h
theorem xlc (hc : X.calm = true) (hN : X.N.Nodup) (hi : PXI X B F0 W tg iter wi) (ok : BlkOk X.N X.env.scope scope own)
    (hg : ∀ (s : Shared) (H : Hp) (C : Addr) (cl : List (Str × Addr)) (fp : List Addr), PG (X.blk s H scope (compEnvC scope cl C X.env) fp) tg g) (hk : TgOk X.K B F0 g tgd (own.map (·.2)))
    (ht : ∀ (s : Shared) (H : Hp) (C : Addr) (cl : List (Str × Addr)) (fp : List Addr), PXTs (X.blk s H scope (compEnvC scope cl C X.env) fp) B F0 ifs wt)
    (he : ∀ (s : Shared) (H : Hp) (C : Addr) (cl : List (Str × Addr)) (fp : List Addr), PX (X.blk s H scope (compEnvC scope cl C X.env) fp) B F0 W0 elt we) (hs : ∀ x, foldedSetIterable iter X.env x = pure x := by intro _; rfl) :
    PX X B F0 W (.ListComp elt [⟨tg, iter, ifs, 0⟩] scope pos) (wLc wi tgd wt we (own.map (·.2))) := wkE (pe_lc hc hN hi ok hg ht he hs) fun σ H Q h => lc_wk hk h
theorem xsetLc {i : Nat} {y : Str} {py : Pos} (hc : X.calm = true) (hN : X.N.Nodup) (hy : X.N[i]? = some y) (hyl : X.env.scope.names.lookup y = some .local)
    (hsw : swapsWith (.ListComp elt [⟨tg, iter, ifs, 0⟩] scope pos) (some (.Name y py)) spos.line X.env = pure true) (hi : PXI X B F0 W tg iter wi) (ok : BlkOk X.N X.env.scope scope own)
    (hg : ∀ (s : Shared) (H : Hp) (C : Addr) (cl : List (Str × Addr)) (fp : List Addr), PG (X.blk s H scope (compEnvC scope cl C X.env) fp) tg g) (hk : TgOk X.K B F0 g tgd (own.map (·.2)))
    (ht : ∀ (s : Shared) (H : Hp) (C : Addr) (cl : List (Str × Addr)) (fp : List Addr), PXTs (X.blk s H scope (compEnvC scope cl C X.env) fp) B F0 ifs wt)
    (he : ∀ (s : Shared) (H : Hp) (C : Addr) (cl : List (Str × Addr)) (fp : List Addr), PX (X.blk s H scope (compEnvC scope cl C X.env) fp) B F0 W0 elt we) (hs : ∀ x, foldedSetIterable iter X.env x = pure x := by intro _; rfl) :
    PXS X B F0 W (.Assign [.Name y py] (.ListComp elt [⟨tg, iter, ifs, 0⟩] scope pos) spos) (wAsg (wLc wi tgd wt we (own.map (·.2))) (gN i)) := wkS (ps_setLc hc hN hy hyl hsw hi ok hg ht he hs) fun Dn σ H h => by
  obtain ⟨w, env, k, R, E, h, f⟩ := h
  refine lc_wk hk ⟨w, env, _, _, R, E, h, fun d S1 v H1 μ1 F1 R1 X1 r1 h1 => ?_, f.toX E⟩
  exact f.nx _ _ _ _ _ _ R1 X1 (EnvR.set r1 i (E.xt X1)) h1
end
end PL

set_option Elab.async false
set_option linter.all false
set_option maxRecDepth 100000
/-! PL, part 9: defs: promises over data, calls, data frozen at the end of a call -/
namespace PL
open PySem L2

abbrev KF := Ex → Sto → Prop
/-- a def's promise: its arguments, the store, what is wanted -/
abbrev Spc := List D → Sto → K1 → KF → Prop
def spOf (sp : Spc) : Sp := fun vs H Q E => ∃ (B F0 : Hp) (w : Wd) (ds : List D) (K : K1) (KX : KF), RlW B F0 w H ∧ RpsW B w ds vs ∧ sp ds w.S K KX ∧ Fi B F0 w K Q ∧
  ∀ x S' H' μ' F' cls dd, Rl B F0 μ' S' F' H' → Xt w.μ w.S w.F μ' S' F' → ExR B F' μ' S'.length H' x cls dd → KX x S' → E cls dd H'
@[irreducible] def pCall (sp : Spc) (ds : List D) (S : Sto) (K : K1) (KX : KF) : Prop := sp ds S K KX
theorem pCall.mk {sp : Spc} {ds : List D} {S : Sto} {K : K1} {KX : KF} (h : sp ds S K KX) : pCall sp ds S K KX := by unfold pCall; exact h
theorem pCall.out {sp : Spc} {ds : List D} {S : Sto} {K : K1} {KX : KF} (h : pCall sp ds S K KX) : sp ds S K KX := by unfold pCall at h; exact h
def wFn (sp : Spc) (dvs : List D) (wa : WA) : WE := fun env S K KX => wa env S (fun ds S1 => pCall sp (ds ++ dvs) S1 K fun x S2 => KX x env S2) KX
/-- defaults -/
def litV : PyData → Option V
  | .none => some .non
  | .bool b => some (.bl b)
  | .int i => some (.int i)
  | .str x => some (.str x)
  | _ => none
structure Dft (dvs : List D) (ds : List Value) : Prop where
  ok : ∃ vs : List V, Vals vs ds ∧ ∀ B w, RpsW B w dvs vs
theorem dft0 : Dft [] [] := ⟨[], .nil, fun _ _ => .nil⟩
section
variable {X : Cx} {B F0 : Hp} {W : WX} {e : Expr} {es : List Expr} {wa : WA} {x : Str} {p pos : Pos} {k : Nat} {f : Addr} {fd : FuncData} {ps : List Str} {sp : Spc} {dvs : List D} {dd : List Value}
theorem xcall (G : FnOk X.prog X.w X.K X.mg X.base (L2.CX X.prog X.w) k f fd ps (spOf sp)) (hr : Room k X.A) (hg : Gl X x) (hm : X.mg x = some (.ref f)) (hk : PySem.W.keepIn X.K (.ref f) = true) (hb : Binds X.K fd ps dd) (hd : Dft dvs dd) (tk : Takes X W) (ha : PXA X B F0 W (e :: es) wa)
    (hdb : (x == ("__debug__" : Str)) = false := by decide) (he : starEach (e :: es) X.env = (false, eval e X.env) :: starEach es X.env := by rfl) (hpl : (backTo pos (starEach es X.env)).any (·.1) = false := by rfl) : PX X B F0 W (.Call (.Name x p) (e :: es) [] pos) (wFn sp dvs wa) := by
  obtain ⟨vsd, hv, hrp⟩ := hd.ok
  refine wkE (pe_callSD (E := fun σ cls d H => W cls d σ H) G hr hg hm hk hb hv (fun σ => passAt tk σ) ha hdb he hpl) fun σ H Q h => ?_
  obtain ⟨w, env, K, KX, R, E, h, k, kx⟩ := h
  refine ⟨w, env, _, _, R, E, h, fun ds S1 vs H1 μ1 F1 R1 X1 r1 h1 => ?_, kx⟩
  have happ : ∀ {a b : List D} {u v : List V}, RpDs B F1 μ1 S1.length a u → RpDs B F1 μ1 S1.length b v → RpDs B F1 μ1 S1.length (a ++ b) (u ++ v) := fun a b => a.append b
  exact ⟨B, F0, ⟨μ1, S1, F1⟩, ds ++ dvs, K, _, R1, happ r1 (hrp B ⟨μ1, S1, F1⟩), h1.out, k.xt X1, fun y S2 H2 μ2 F2 cls dd R2 X2 r2 h2 => kx y S2 H2 μ2 F2 cls dd R2 (X1.trans X2) r2 h2⟩
end

/-! ### a def of the text -/
def startE (N : List Str) (ds : List D) : Env := ds.map some ++ List.replicate (N.length - ds.length) none
theorem startE_ok {B F : Hp} {μ : Nat → Addr} {n : Nat} {N : List Str} : ∀ {ds : List D} {vs : List V}, RpDs B F μ n ds vs → EnvR B F μ n (startE N ds) (L2.start N vs) := by
  intro ds vs r
  unfold startE L2.start
  rw [r.length]
  generalize N.length - vs.length = j
  have h2 : ∀ j : Nat, EnvR B F μ n (List.replicate j none) (List.replicate j none) := by
    intro j
    induction j with
    | zero => exact .nil
    | succ j ih => exact .cons (fun d hd => by cases hd) ih
  clear N
  induction ds generalizing vs with
  | nil => cases r; exact h2 j
  | cons d ds ih => cases r with | cons a b => exact .cons (fun e he => by cases he; exact ⟨_, rfl, a⟩) (ih b)
def wE (E : XK) : WX := fun cls d _ H => E cls d H
theorem hu_px {A : Around} {k : Nat} (hr : Room k A) : A.units + 100 < cLine := by have := hr.un; omega
theorem fnpx {P : Program} {w : World} {K : PySem.W.Frag} {mg : Str → Option Value} {base : Heap} {x qual : Str} {st : Stmt} {f : Addr} {fd : FuncData} {N ps : List Str} {k : Nat} {sp : Spc} {ws : WS} (F : Fun K x qual st f fd) (S : FnScope N ps (defScope st))
    (hl : ∀ ds S K KX, sp ds S K KX → ds.length = ps.length)
    (hb : ∀ (cdv : Value) (A : Around) (outer : List PySem.Env) (s : Shared) (H : Hp) (E : XK) (B F0 : Hp), Room k (A.deeper (PyProof.Rows.envOfC qual (defScope st) s.heap.objs.size f cdv)) → Takes (cxOf (L2.CX P w) P w K mg base N qual (defScope st) f cdv A outer s H E) (wE E) →
      PassesOwn (model P w) (cxOf (L2.CX P w) P w K mg base N qual (defScope st) f cdv A outer s H E).A (cxOf (L2.CX P w) P w K mg base N qual (defScope st) f cdv A outer s H E).env (cxOf (L2.CX P w) P w K mg base N qual (defScope st) f cdv A outer s H E).xe →
      PXB (cxOf (L2.CX P w) P w K mg base N qual (defScope st) f cdv A outer s H E) B F0 (wE E) (defBody st) ws)
    (hs : ∀ ds S K KX, sp ds S K KX → ws { nx := fun _ S1 => K (.z .none) S1, rt := K, ex := fun y _ S1 => KX y S1 } (startE N ds) S) : FnOk P w K mg base (L2.CX P w) (k + 1) f fd ps (spOf sp) := by
  refine F.okX S (fun vs H Q E h => ?_) (fun cdv A outer s H vs Q E hr h => ?_)
  · obtain ⟨B, F0, w', ds, K', KX, _, r, h, _⟩ := h
    rw [← r.length]
    exact hl _ _ _ _ h
  · obtain ⟨B, F0, w', ds, K', KX, R, r, h, k', kx⟩ := h
    refine ⟨_, hb cdv A outer s H E B F0 hr (takes_of rfl rfl rfl rfl) (passes_of rfl), w', _, _, R, startE_ok r, hs _ _ _ _ h, ⟨fun env S σ H μ F R X _ q => ?_, k', fun _ _ _ _ _ _ _ _ _ q => q.elim, fun _ _ _ _ _ _ _ _ _ q => q.elim, fun y env S σ H μ F cls dd R X _ r q => ?_⟩⟩
    · exact k' _ _ _ _ _ _ R X (.z .non) q
    · exact kx y S H μ F cls dd R X r q

/-! ### what is handed back is frozen -/
mutual
inductive Vz (S : Sto) : D → PyData → Prop
  | z {d : PyData} : Vz S (.z d) d
  | r {n : Nat} {ds : List D} {es : List PyData} : S[n]? = some (.lst ds) → Vzs S ds es → Vz S (.r n) (.list es)
  | t {ds : List D} {es : List PyData} : Vzs S ds es → Vz S (.t ds) (.tuple es)
inductive Vzs (S : Sto) : List D → List PyData → Prop
  | nil : Vzs S [] []
  | cons {d : D} {ds : List D} {e : PyData} {es : List PyData} : Vz S d e → Vzs S ds es → Vzs S (d :: ds) (e :: es)
end
theorem Vzs.zs {S : Sto} : ∀ (ds : List PyData), Vzs S (ds.map .z) ds
  | [] => .nil
  | d :: ds => .cons .z (Vzs.zs ds)
open Classical in
/-- F with all of the store frozen -/
noncomputable def fz (μ : Nat → Addr) (n : Nat) (F H : Hp) : Hp := fun a => match F a with
  | some o => some o
  | none => if ∃ i, i < n ∧ μ i = a then H a else none
section
variable {B F0 F F' H H' : Hp} {μ μ' : Nat → Addr} {S S' : Sto}
theorem fz_sub : Sub F (fz μ S.length F H) := fun a o h => by unfold fz; rw [h]
theorem fz_at {i : Nat} (hi : i < S.length) (hF : F (μ i) = none) : fz μ S.length F H (μ i) = H (μ i) := by
  unfold fz; rw [hF]; exact if_pos ⟨i, hi, rfl⟩
theorem fz_cases {a : Addr} {o : HO} (h : fz μ S.length F H a = some o) : F a = some o ∨ (F a = none ∧ (∃ i, i < S.length ∧ μ i = a) ∧ H a = some o) := by
  unfold fz at h
  split at h
  · rename_i e; cases h; exact .inl e
  · rename_i e
    by_cases c : ∃ i, i < S.length ∧ μ i = a
    · exact .inr ⟨e, c, (if_pos c).symm.trans h⟩
    · rw [if_neg c] at h; cases h
mutual
theorem Vz.rp (R : Rl B F0 μ S F H) : ∀ (e : PyData) (d : D) (v : V), Vz S d e → RpD B F μ S.length d v → RpT (LF (fz μ S.length F H)) (TF (fz μ S.length F H)) e v
  | .none, _, _, w, h => by cases w with | z => cases h with | z a => cases a; exact .non
  | .bool _, _, _, w, h => by cases w with | z => cases h with | z a => cases a; exact .bl _
  | .int _, _, _, w, h => by cases w with | z => cases h with | z a => cases a; exact .int _
  | .str _, _, _, w, h => by cases w with | z => cases h with | z a => cases a; exact .str _
  | .dict _, _, _, w, h => by cases w with | z => cases h with | z a => cases a
  | .list es, _, _, w, h => by
    cases w with
    | z => cases h with | z a => exact RpT.mono (fun _ _ q => fz_sub _ _ q) (fun _ _ q => fz_sub _ _ q) _ _ a
    | r e ws =>
      cases h with
      | r hi =>
        obtain ⟨vs, hv, rv⟩ := R.ob _ _ e
        exact .lst (show fz μ S.length F H _ = _ by rw [fz_at hi (R.nf _ hi)]; exact hv) (Vzs.rp R es _ vs ws rv)
  | .tuple es, _, _, w, h => by
    cases w with
    | z => cases h with | z a => exact RpT.mono (fun _ _ q => fz_sub _ _ q) (fun _ _ q => fz_sub _ _ q) _ _ a
    | t ws => cases h with | t e rv => exact .tup (fz_sub _ _ e) (Vzs.rp R es _ _ ws rv)
theorem Vzs.rp (R : Rl B F0 μ S F H) : ∀ (es : List PyData) (ds : List D) (vs : List V), Vzs S ds es → RpDs B F μ S.length ds vs → RpTs (LF (fz μ S.length F H)) (TF (fz μ S.length F H)) es vs
  | [], _, _, w, h => by cases w; cases h; exact .nil
  | e :: es, _, _, w, h => by
    cases w with | cons a b => cases h with | cons r s => exact .cons (Vz.rp R e _ _ a r) (Vzs.rp R es _ _ b s)
end
/-- back in the caller's state -/
theorem Rl.back (R : Rl B F0 μ S F H) (R' : Rl H F μ' S' F' H') (x : Sub F F') : Rl B F0 μ S (fz μ' S'.length F' H') H' ∧ Xt μ S F μ S (fz μ' S'.length F' H') := by
  have s1 : Sub F (fz μ' S'.length F' H') := x.trans fz_sub
  refine ⟨⟨R.bh.trans R'.bh, fun a o h => ?_, R.f0.trans s1, fun a o h => ?_, R.inj, R.nb, fun i hi => ?_, fun i o h => ?_⟩, ⟨s1, Nat.le_refl _, fun _ _ => rfl⟩⟩
  · rcases fz_cases h with h | ⟨_, _, h⟩
    · exact R'.fh a o h
    · exact h
  · rcases fz_cases h with h | ⟨_, ⟨i, hi, rfl⟩, _⟩
    · rcases R'.fn a o h with q | q
      · exact R.fn a o q
      · exact .inr (R.bh.non q)
    · exact .inr (R.bh.non (R'.nb i hi))
  · obtain ⟨u, hu⟩ := R.has hi
    cases q : fz μ' S'.length F' H' (μ i) with
    | none => rfl
    | some o =>
      rcases fz_cases q with h | ⟨_, ⟨j, hj, e⟩, _⟩
      · rcases R'.fn _ o h with q | q
        · rw [R.nf i hi] at q; cases q
        · rw [hu] at q; cases q
      · have := R'.nb j hj
        rw [e, hu] at this; cases this
  · obtain ⟨u, hu⟩ := R.has (Rl.lt h)
    exact (R.ob i o h).mono s1 (Nat.le_refl _) (fun _ _ => rfl) ((R'.bh _ _ hu).trans hu.symm)
end
/-- an exception's fields frozen -/
def ExV (S : Sto) (x x' : Ex) : Prop := x'.c = x.c ∧ match x.fs, x'.fs with
  | none, none => True
  | some fs, some gs => Paired (fun (p q : Str × D) => p.1 = q.1 ∧ ∃ e, Vz S p.2 e ∧ q.2 = .z e) fs gs
  | _, _ => False
/-- a promise over data alone -/
abbrev Fsp := List PyData → (PyData → Prop) → (Ex → Prop) → Prop
/-- as callers use it -/
def frz (p : Fsp) : Spc := fun ds S K KX => ∃ es, Vws S ds es ∧ p es (fun d => K (.z d) S) fun x => KX x S
/-- as its body keeps it -/
def lent (p : Fsp) : Spc := fun ds S K KX => ∃ es kd kx, ds = es.map bz ∧ S = [] ∧ p es kd kx ∧ (∀ d S' e, Vz S' d e → kd e → K d S') ∧ ∀ x S' x', ExV S' x x' → kx x' → KX x S'
theorem FnOk.frz {P : Program} {w : World} {K : PySem.W.Frag} {mg : Str → Option Value} {base : Heap} {CX : CXT} {k : Nat} {f : Addr} {fd : FuncData} {ps : List Str} {p : Fsp} (h : FnOk P w K mg base CX k f fd ps (spOf (lent p))) : FnOk P w K mg base CX k f fd ps (spOf (PL.frz p)) := by
  refine h.imp fun vs H Q E q => ?_
  obtain ⟨B, F0, w, ds, K, KX, R, r, ⟨es, vw, q⟩, k, kx⟩ := q
  have R0 : Rl H w.F w.μ [] w.F H := ⟨Sub.refl _, R.fh, Sub.refl _, fun a o e => .inl e, fun i j hi => absurd hi (Nat.not_lt_zero _), fun i hi => absurd hi (Nat.not_lt_zero _), fun i hi => absurd hi (Nat.not_lt_zero _), fun i o e => by simp at e⟩
  refine ⟨H, w.F, ⟨w.μ, [], w.F⟩, es.map bz, fun d S' => ∃ e, Vz S' d e ∧ K (.z e) w.S, fun x S' => ∃ x', ExV S' x x' ∧ KX x' w.S, R0, RpDs.bzs (Vws.rp R _ _ _ vw r), ⟨es, _, _, rfl, rfl, q, fun d S' e a b => ⟨e, a, b⟩, fun x S' x' a b => ⟨x', a, b⟩⟩, ?_, ?_⟩
  · rintro d S' v H' μ' F' R' X' r' ⟨e, he, hk⟩
    obtain ⟨R2, X2⟩ := R.back R' X'.f
    exact k _ _ _ _ _ _ R2 X2 (.z (Vz.rp R' e d v he r')) hk
  · rintro x S' H' μ' F' cls dd R' X' r' ⟨x', ⟨hc, hf⟩, hk⟩
    obtain ⟨R2, X2⟩ := R.back R' X'.f
    refine kx x' _ _ _ _ cls dd R2 X2 ⟨by rw [hc]; exact r'.1, ?_⟩ hk
    obtain ⟨_, r2⟩ := r'
    cases h1 : x.fs with
    | none =>
      cases h2 : x'.fs with
      | none => rw [h1] at r2; exact r2
      | some gs => rw [h1, h2] at hf; exact hf.elim
    | some fs =>
      cases h2 : x'.fs with
      | none => rw [h1, h2] at hf; exact hf.elim
      | some gs =>
        rw [h1] at r2
        rw [h1, h2] at hf
        obtain ⟨a, ws, e1, e2, e3⟩ := r2
        refine ⟨a, ws, e1, e2, ?_⟩
        clear e2 h1 h2
        induction hf generalizing ws with
        | nil => cases e3; exact .nil
        | cons q t ih =>
          cases e3 with
          | cons r1 r2 =>
            obtain ⟨n1, e, ve, q2⟩ := q
            refine .cons ⟨n1.symm.trans r1.1, ?_⟩ (ih _ r2)
            rw [q2]
            exact .z (Vz.rp R' e _ _ ve r1.2)
end PL

set_option Elab.async false
set_option linter.all false
set_option maxRecDepth 100000
/-! PL, part 10: short words for derivations: own defs, built-in names, loops -/
namespace PL
open PySem L2

/-- a def of the module, as its callers know it -/
structure Fc (P : Program) (w : World) (K : PySem.W.Frag) (mg : Str → Option Value) (base : Heap) (x : Str) (k : Nat) (ps : List Str) (sp : Spc) : Prop where
  ex : ∃ (f : Addr) (fd : FuncData), FnOk P w K mg base (L2.CX P w) k f fd ps (spOf sp) ∧ mg x = some (.ref f) ∧ PySem.W.keepIn K (.ref f) = true ∧ Binds K fd ps []
theorem Fc.frz {P : Program} {w : World} {K : PySem.W.Frag} {mg : Str → Option Value} {base : Heap} {x : Str} {k : Nat} {ps : List Str} {p : Fsp} (c : Fc P w K mg base x k ps (lent p)) : Fc P w K mg base x k ps (PL.frz p) := by
  obtain ⟨f, fd, h, r⟩ := c.ex
  exact ⟨f, fd, FnOk.frz h, r⟩
section
variable {X : Cx} {B F0 : Hp} {W : WX} {e : Expr} {es : List Expr} {wa : WA} {x : Str} {p pos : Pos} {k : Nat} {ps : List Str} {sp : Spc}
theorem xfc (c : Fc X.prog X.w X.K X.mg X.base x k ps sp) (hr : Room k X.A) (tk : Takes X W) (hg : Gl X x) (ha : PXA X B F0 W (e :: es) wa)
    (hdb : (x == ("__debug__" : Str)) = false := by decide) (he : starEach (e :: es) X.env = (false, eval e X.env) :: starEach es X.env := by rfl) (hpl : (backTo pos (starEach es X.env)).any (·.1) = false := by rfl) : PX X B F0 W (.Call (.Name x p) (e :: es) [] pos) (wFn sp [] wa) := by
  obtain ⟨f, fd, h, hm, hk, hb⟩ := c.ex
  exact xcall h hr hg hm hk hb dft0 tk ha hdb he hpl
def wTy (T : Ty) : WE := fun _ S K _ => K (.y T) S
theorem xty {T : Ty} (hg : Gl X x) (hm : X.mg x = none) (hv : bootBuiltins x = some (.type T.s)) (hn : x ≠ "__name__" := by decide) (hd : (x == ("__debug__" : Str)) = false := by decide) : PX X B F0 W (.Name x pos) (wTy T) :=
  wkE (pe_bltn (v := .ty T.s) hg hm hv rfl hn hd) fun σ H Q h => by
    obtain ⟨w, env, K, KX, R, E, h, k, _⟩ := h
    exact k _ w.S _ H w.μ w.F R .refl .y h
end
theorem bb_len : bootBuiltins "len" = some (.builtin "len") := by decide +kernel
theorem bb_isinstance : bootBuiltins "isinstance" = some (.builtin "isinstance") := by decide +kernel
theorem bb_all : bootBuiltins "all" = some (.builtin "all") := by decide +kernel
theorem bb_any : bootBuiltins "any" = some (.builtin "any") := by decide +kernel
theorem bb_sum : bootBuiltins "sum" = some (.builtin "sum") := by decide +kernel
theorem bb_max : bootBuiltins "max" = some (.builtin "max") := by decide +kernel
theorem bb_min : bootBuiltins "min" = some (.builtin "min") := by decide +kernel
theorem bb_sorted : bootBuiltins "sorted" = some (.builtin "sorted") := by decide +kernel
theorem bb_list : bootBuiltins "list" = some (.type "list") := by decide +kernel
theorem bb_tuple : bootBuiltins "tuple" = some (.type "tuple") := by decide +kernel
theorem bb_int : bootBuiltins "int" = some (.type "int") := by decide +kernel
theorem bb_str : bootBuiltins "str" = some (.type "str") := by decide +kernel
theorem bb_bool : bootBuiltins "bool" = some (.type "bool") := by decide +kernel
theorem bb_set : bootBuiltins "set" = some (.type "set") := by decide +kernel
theorem bb_dict : bootBuiltins "dict" = some (.type "dict") := by decide +kernel
/-! {} -/
def wDic : WE := fun _ S K _ => K (.r S.length) (S ++ [.dic []])
section
variable {X : Cx} {B F0 : Hp} {W : WX} {pos : Pos}
theorem xdic : PX X B F0 W (.Dict [] [] pos) wDic := wkE pe_dnewK fun σ H Q h p hp => by
  obtain ⟨w, env, K, KX, R, E, h, k, _⟩ := h
  obtain ⟨R2, X2⟩ := R.grow (u := .dK []) (o := .dic []) hp fun G hG => ⟨[], hG, .nil⟩
  have e : muX w.μ w.S.length p w.S.length = p := by unfold muX; rw [if_pos rfl]
  have q : RpD B w.F (muX w.μ w.S.length p) (w.S ++ [Ob.dic []]).length (.r w.S.length) (.ref (muX w.μ w.S.length p w.S.length)) := .r (by simp)
  rw [e] at q
  exact k _ _ _ _ _ _ R2 X2 q h
end
/-! the law: its script -/
def noLs (K : PySem.W.Frag) : Bool := K.all fun p => match p.2.cls with
  | .type n => n != "list"
  | _ => true
theorem lk_mem {β : Type} {a : Nat} {b : β} : ∀ {l : List (Nat × β)}, l.lookup a = some b → (a, b) ∈ l
  | [], h => by simp at h
  | (k, v) :: l, h => by
    by_cases e : a = k
    · subst e; simp at h; subst h; exact List.mem_cons_self
    · have : (a == k) = false := beq_eq_false_iff_ne.mpr e
      simp only [List.lookup_cons, this] at h
      exact List.mem_cons_of_mem _ (lk_mem h)
theorem noLs_ok {K : PySem.W.Frag} (h : noLs K = true) {a : Addr} {o : Obj} (e : K.lookup a = some o) : o.cls ≠ .type "list" := by
  unfold noLs at h
  have hm : (a, o) ∈ K := lk_mem e
  have q := List.all_eq_true.mp h _ hm
  intro z
  simp only [z] at q
  exact absurd q (by decide)
/-- the law is told True at every script -/
def lawSp : Spc := fun ds S K _ => ∃ ns : List Int, ds = [.b (.list (ns.map .int))] ∧ S = [] ∧ ns.length ≤ 63 ∧ ∀ S', K (.z (.bool true)) S'
def spLawP (K : PySem.W.Frag) : Sp := fun vs H Q _ => ∃ (a : Addr) (ns : List Int), vs = [.ref a] ∧ SqL K H a (ns.map V.int) ∧ ns.length ≤ 63 ∧ ∀ H', Q (.bl true) H'
theorem law_imp {P : Program} {w : World} {K : PySem.W.Frag} {mg : Str → Option Value} {base : Heap} {CX : CXT} {k : Nat} {f : Addr} {fd : FuncData} {ps : List Str} (hK : noLs K = true) (h : FnOk P w K mg base CX k f fd ps (spOf lawSp)) : FnOk P w K mg base CX k f fd ps (spLawP K) := by
  refine h.imp fun vs H Q E q => ?_
  obtain ⟨a, ns, rfl, hs, hl, q⟩ := q
  have hr : Rd H a (.lst (ns.map V.int)) := by
    rcases hs with hs | ⟨o, its, n, e, hc, _⟩
    · exact hs
    · exact absurd hc (noLs_ok hK e)
  have R0 : Rl H (fun _ => none) (fun i => i) [] (fun _ => none) H := ⟨Sub.refl _, fun a o e => (by cases e), Sub.refl _, fun a o e => (by cases e), fun i j hi => absurd hi (Nat.not_lt_zero _), fun i hi => absurd hi (Nat.not_lt_zero _), fun i hi => absurd hi (Nat.not_lt_zero _), fun i o e => (by simp at e)⟩
  have allI : ∀ ns : List Int, RpTs (LB H fun _ => none) (TF fun _ => none) (ns.map .int) (ns.map V.int) := fun ns => by
    induction ns with
    | nil => exact .nil
    | cons n ns ih => exact .cons (.int n) ih
  refine ⟨H, _, ⟨fun i => i, [], fun _ => none⟩, _, fun d _ => d = .z (.bool true), fun _ _ => False, R0, .cons (.b (.lst (.inr hr) (allI ns))) .nil, ⟨ns, rfl, rfl, hl, fun _ => rfl⟩, fun d S v H' μ F R X r e => ?_, fun _ _ _ _ _ _ _ _ _ _ h => h.elim⟩
  subst e
  cases r with | z q1 => cases q1; exact q _
/-! -n; a module's own constants -/
def pNeg : P1 := fun x S K => match x with
  | .z (.int i) => K (.z (.int (-i))) S
  | _ => False
section
variable {X : Cx} {B F0 : Hp} {W : WX} {a : Expr} {wa : WE} {pos : Pos} {p : P1} {x : Str}
theorem xun {op : UnaryOp} (ho : UnR X (unaryOp op) (r1 B F0 p)) (ha : PX X B F0 W a wa) : PX X B F0 W (.UnaryOp op a pos) (w1 p wa) := wkE (pe_un ho ha) fun σ H Q h => by
  obtain ⟨w, env, K, KX, R, E, h, k, kx⟩ := h
  exact ⟨w, env, _, KX, R, E, h, fun d S1 v H1 μ1 F1 R1 X1 q1 h1 => ⟨⟨μ1, S1, F1⟩, d, K, R1, q1, h1, k.xt X1⟩, kx⟩
theorem oNeg : UnR X (unaryOp .USub) (r1 B F0 pNeg) := by
  intro pins s σ H v u Q I rx h
  obtain ⟨w, d, K, R, q, h, k⟩ := h
  unfold pNeg at h
  split at h
  · rw [rpInt q] at rx
    exact un_neg pins s σ H _ u Q I rx ⟨_, rfl, k.int R h⟩
  · exact h.elim
theorem xgS {z : Str} (hg : Gl X x) (h : ∃ t, X.mg x = some (.str z t)) (hdb : (x == ("__debug__" : Str)) = false := by decide) : PX X B F0 W (.Name x pos) (wC (.str z)) := by
  obtain ⟨t, e⟩ := h
  exact xglob (v := .str z) hg e ⟨t, rfl⟩ (fun _ _ => .str z) hdb
theorem xgI {z : Int} (hg : Gl X x) (h : ∃ t, X.mg x = some (.int z t)) (hdb : (x == ("__debug__" : Str)) = false := by decide) : PX X B F0 W (.Name x pos) (wC (.int z)) := by
  obtain ⟨t, e⟩ := h
  exact xglob (v := .int z) hg e ⟨t, rfl⟩ (fun _ _ => .int z) hdb
end
end PL

set_option Elab.async false
set_option linter.all false
set_option maxRecDepth 100000
/-! PL, part 11: promises over typed data; loops and comprehensions in plain Lean; lemmas about data -/
namespace PL
open PySem L2

/-- typed arguments, a precondition, the answer -/
def fsp {α : Type} (enc : α → List PyData) (pre : α → Prop) (out : α → PyData) : Fsp := fun es k _ => ∃ a, es = enc a ∧ pre a ∧ k (out a)
theorem fsp_len {α : Type} {enc : α → List PyData} {pre : α → Prop} {out : α → PyData} {n : Nat} (h : ∀ a, (enc a).length = n) : ∀ ds S K KX, lent (fsp enc pre out) ds S K KX → ds.length = n := by
  rintro ds S K KX ⟨es, kd, kx, rfl, rfl, ⟨a, rfl, _, _⟩, _⟩
  rw [List.length_map]; exact h a
abbrev ends (K : K1) (KX : KF) : KS := { nx := fun _ S1 => K (.z .none) S1, rt := K, ex := fun y _ S1 => KX y S1 }
theorem fsp_ok {α : Type} {enc : α → List PyData} {pre : α → Prop} {out : α → PyData} {ws : WS} {N : List Str} (h : ∀ a, pre a → ∀ K KX, (∀ d S', Vz S' d (out a) → K d S') → ws (ends K KX) (startE N ((enc a).map bz)) []) :
    ∀ ds S K KX, lent (fsp enc pre out) ds S K KX → ws { nx := fun _ S1 => K (.z .none) S1, rt := K, ex := fun y _ S1 => KX y S1 } (startE N ds) S := by
  rintro ds S K KX ⟨es, kd, kx, rfl, rfl, ⟨a, rfl, hp, hk⟩, hK, _⟩
  exact h a hp K KX fun d S' v => hK d S' _ v hk
/-- a call of such a def -/
theorem fsp_call {α : Type} {enc : α → List PyData} {pre : α → Prop} {out : α → PyData} {ds : List D} {S : Sto} {K : K1} {KX : KF} (a : α) (v : Vws S ds (enc a)) (hp : pre a) (h : K (.z (out a)) S) : pCall (frz (fsp enc pre out)) ds S K KX := pCall.mk ⟨_, v, a, rfl, hp, h⟩
/-- .. of one that may raise -/
def fspX {α : Type} (enc : α → List PyData) (pre : α → Prop) (out : α → Except Ex PyData) : Fsp := fun es k kx => ∃ a, es = enc a ∧ pre a ∧ match out a with
  | .ok d => k d
  | .error x => kx x

theorem sz_le {n : Nat} (h : Nat.ble n 1000 = true) : n ≤ sizeLine := Nat.le_trans (Nat.le_of_ble_eq_true h) (by decide)
theorem sz_lt {n : Nat} (h : Nat.ble n 1000 = true) : n < sizeLine := Nat.lt_of_le_of_lt (Nat.le_of_ble_eq_true h) (by decide)
theorem sz_le6 {n : Nat} (h : n ≤ 1000000) : n ≤ sizeLine := Nat.le_trans h (by decide)
theorem sz_lt6 {n : Nat} (h : n ≤ 1000000) : n < sizeLine := Nat.lt_of_le_of_lt h (by decide)
/-! ### places -/
theorem atD_in {α : Type} {xs : List α} {i : Int} (h0 : 0 ≤ i) (h1 : i < xs.length) : atD xs i = some (xs[i.toNat]'(by omega)) := by
  obtain ⟨j, rfl⟩ : ∃ j : Nat, i = (j : Int) := ⟨i.toNat, by omega⟩
  show xs[j]? = _
  have hj : j < xs.length := by omega
  rw [List.getElem?_eq_getElem hj]
  rfl
theorem atD_nat {α : Type} {xs : List α} {j : Nat} {x : α} (h : xs[j]? = some x) : atD xs (j : Int) = some x := h
theorem atD_map {α β : Type} (f : α → β) (xs : List α) (i : Int) : atD (xs.map f) i = (atD xs i).map f := by
  cases i with
  | ofNat k => show (xs.map f)[k]? = (xs[k]?).map f; rw [List.getElem?_map]
  | negSucc k =>
    rw [atD_neg, atD_neg, List.length_map]
    split
    · rw [List.getElem?_map]
    · rfl
theorem ixD_bL {α : Type} {S : Sto} {f : α → PyData} {xs : List α} {i : Int} {x : α} (h : atD xs i = some x) : ixD S (.b (.list (xs.map f))) i = some (bz (f x)) := by
  show (atD (xs.map f) i).map bz = _
  rw [atD_map, h]; rfl
theorem ixD_zL {α : Type} {S : Sto} {f : α → PyData} {xs : List α} {i : Int} {x : α} (h : atD xs i = some x) : ixD S (.z (.list (xs.map f))) i = some (.z (f x)) := by
  show (atD (xs.map f) i).map D.z = _
  rw [atD_map, h]; rfl
theorem bz_flat {d : PyData} (h : flatT d = true) : bz d = .z d := by unfold bz; rw [if_pos h]
theorem bz_list {ds : List PyData} : bz (.list ds) = .b (.list ds) := by unfold bz; rw [if_neg (by simp [flatT])]

/-! ### comprehensions whose element and test are plain: f of the item, where t holds -/
theorem pLc_map {α : Type} {src : Src} {tg : D → Env → Option Env} {wt : WT} {we : WE} {env : Env} {fin : Sto → Prop} {S : Sto} {xs : List α} (it f : α → D) (t : α → Bool) (hz : xs.length < 1000000) (hok : ∀ acc, src.ok (S ++ [.lst acc]))
    (ht : ∀ x ∈ xs, ∃ env2, tg (it x) env = some env2 ∧ (∀ (S1 : Sto) (K : Bool → Sto → Prop), (∃ acc, S1 = S ++ [.lst acc]) → K (t x) S1 → wt env2 S1 K X0) ∧ (t x = true → ∀ (S1 : Sto) (K : K1), (∃ acc, S1 = S ++ [.lst acc]) → K (f x) S1 → we env2 S1 K X0))
    (hf : fin (S ++ [.lst ((xs.filter t).map f)])) : pLc src tg wt we S.length env fin (xs.map it) (S ++ [.lst []]) := by
  have go : ∀ (done rest : List α), xs = done ++ rest → pLc src tg wt we S.length env fin (rest.map it) (S ++ [.lst ((done.filter t).map f)]) := by
    intro done rest
    induction rest generalizing done with
    | nil =>
      intro e
      rw [List.append_nil] at e
      subst e
      rw [List.map_nil, pLc.nil]
      exact ⟨hok _, hf⟩
    | cons d ds ih =>
      intro e
      rw [List.map_cons, pLc.cons]
      have hm : d ∈ xs := by rw [e]; simp
      obtain ⟨env2, h1, h2, h3⟩ := ht d hm
      refine ⟨hok _, pGet.mk h1 (h2 _ _ ⟨_, rfl⟩ (pIf.mk (fun c => ?_) fun c => ?_))⟩
      · refine h3 c _ _ ⟨_, rfl⟩ (pGet.mk (x := (done.filter t).map f) ?_ (pReq.mk ?_ ?_))
        · unfold lsR; simp
        · have h4 := List.length_filter_le t done
          have h5 : xs.length = done.length + (ds.length + 1) := by rw [e]; simp
          have h6 : ((done.filter t).map f).length < 1000000 := by rw [List.length_map]; omega
          exact Nat.lt_of_lt_of_le h6 (by rw [sizeLine_eq]; decide)
        · have ih2 := ih (done ++ [d]) (by rw [e]; simp)
          have es : (S ++ [Ob.lst ((done.filter t).map f)]).set S.length (.lst ((done.filter t).map f ++ [f d])) = S ++ [.lst (((done ++ [d]).filter t).map f)] := by
            simp [List.filter_append, c]
          rw [es]; exact ih2
      · have ih2 := ih (done ++ [d]) (by rw [e]; simp)
        have es : (done ++ [d]).filter t = done.filter t := by simp [List.filter_append, c]
        rw [es] at ih2
        exact ih2
  exact go [] xs rfl
/-- without a test -/
theorem pLc_all {α : Type} {src : Src} {tg : D → Env → Option Env} {we : WE} {env : Env} {fin : Sto → Prop} {S : Sto} {xs : List α} (it f : α → D) (hz : xs.length < 1000000) (hok : ∀ acc, src.ok (S ++ [.lst acc]))
    (he : ∀ x ∈ xs, ∃ env2, tg (it x) env = some env2 ∧ ∀ (S1 : Sto) (K : K1), (∃ acc, S1 = S ++ [.lst acc]) → K (f x) S1 → we env2 S1 K X0)
    (hf : fin (S ++ [.lst (xs.map f)])) : pLc src tg wYes we S.length env fin (xs.map it) (S ++ [.lst []]) := by
  refine pLc_map it f (fun _ => true) hz hok (fun d hd => ?_) (by rw [List.filter_eq_self.mpr fun _ _ => rfl]; exact hf)
  obtain ⟨env2, h1, h2⟩ := he d hd
  exact ⟨env2, h1, fun S1 K _ h => h, fun _ => h2⟩
/-- over a range -/
theorem pLc_rg {lo : Int} {n : Nat} {tg : D → Env → Option Env} {we : WE} {env : Env} {fin : Sto → Prop} {S : Sto} (f : Nat → D) (hz : n < 1000000)
    (he : ∀ i, i < n → ∃ env2, tg (.z (.int (lo + (i : Int)))) env = some env2 ∧ ∀ (S1 : Sto) (K : K1), (∃ acc, S1 = S ++ [.lst acc]) → K (f i) S1 → we env2 S1 K X0)
    (hf : fin (S ++ [.lst ((List.range n).map f)])) : pLc (rgD lo n) tg wYes we S.length env fin (rgD lo n).items (S ++ [.lst []]) :=
  pLc_all (xs := List.range n) (fun i => .z (.int (lo + (i : Int)))) f (by rw [List.length_range]; exact hz) (fun _ => trivial) (fun i hi => he i (List.mem_range.mp hi)) hf
/-! ### loops by an invariant over the turn -/
theorem pFor_each {src : Src} {g : WG} {body : WS} {k : KS} {items : List D} {env : Env} {S : Sto} (I : Nat → Env → Sto → Prop) (h0 : I 0 env S) (hok : ∀ i env S, i ≤ items.length → I i env S → src.ok S)
    (hs : ∀ i d env S (Q : Env → Sto → Prop), items[i]? = some d → I i env S → (∀ env' S', I (i + 1) env' S' → Q env' S') → g d env S fun env1 S1 => body { k with nx := Q, ct := Q, bk := k.nx } env1 S1)
    (hd : ∀ env S, I items.length env S → k.nx env S) : pFor src g body k items env S := by
  have go : ∀ (rest : List D) (i : Nat) env S, items.drop i = rest → i ≤ items.length → I i env S → pFor src g body k rest env S := by
    intro rest
    induction rest with
    | nil =>
      intro i env S e hi h
      rw [pFor.nil]
      have : i = items.length := by
        have := congrArg List.length e
        rw [List.length_drop] at this
        simp at this
        omega
      subst this
      exact ⟨hok _ _ _ (Nat.le_refl _) h, hd _ _ h⟩
    | cons d ds ih =>
      intro i env S e hi h
      rw [pFor.cons]
      have hlt : i < items.length := by
        have := congrArg List.length e
        rw [List.length_drop] at this
        simp at this
        omega
      have hget : items[i]? = some d := by
        have := congrArg (fun l => l[0]?) e
        simpa using this
      exact ⟨hok _ _ _ hi h, hs i d env S _ hget h fun env' S' h' => ih (i + 1) env' S' (by rw [← List.drop_drop, e]; rfl) hlt h'⟩
  exact go _ 0 env S rfl (Nat.zero_le _) h0
theorem pFor_range {lo : Int} {n : Nat} {g : WG} {body : WS} {k : KS} {env : Env} {S : Sto} (I : Nat → Env → Sto → Prop) (h0 : I 0 env S)
    (hs : ∀ (i : Nat) env S (Q : Env → Sto → Prop), i < n → I i env S → (∀ env' S', I (i + 1) env' S' → Q env' S') → g (.z (.int (lo + (i : Int)))) env S fun env1 S1 => body { k with nx := Q, ct := Q, bk := k.nx } env1 S1)
    (hd : ∀ env S, I n env S → k.nx env S) : pFor (rgD lo n) g body k (rgD lo n).items env S := by
  have hl : (rgD lo n).items.length = n := by simp [rgD]
  refine pFor_each I h0 (fun _ _ _ _ _ => trivial) (fun i d env S Q hi h hQ => ?_) (fun env S h => hd env S (by rw [hl] at h; exact h))
  have hlt : i < n := by
    have := (List.getElem?_eq_some_iff.mp hi).1
    rw [hl] at this; exact this
  have : d = .z (.int (lo + (i : Int))) := by
    have e : (rgD lo n).items[i]? = some (.z (.int (lo + (i : Int)))) := by
      show ((List.range n).map _)[i]? = _
      rw [List.getElem?_map, List.getElem?_range hlt]; rfl
    exact Option.some.inj (hi.symm.trans e)
  subst this
  exact hs i env S Q hlt h hQ
theorem pWhile_by {t : WT} {body : WS} {k : KS} {env : Env} {S : Sto} (P : Nat → Env → Sto → Prop) (m : Nat) (h0 : P m env S)
    (hs : ∀ m env S (Q : Env → Sto → Prop), P m env S → (∀ m' env' S', m' < m → P m' env' S' → Q env' S') → t env S (fun b S1 => pIf b (body { k with nx := Q, ct := Q, bk := k.nx } env S1) (k.nx env S1)) k.ex) : pWhile t body k env S := by
  unfold pWhile
  exact ⟨P, ⟨m, h0⟩, fun m env S h => hs m env S _ h fun m' env' S' hm h' => ⟨m', hm, h'⟩⟩
/-! ### what lies further down the store -/
theorem sto_last {S : Sto} {o : Ob} : (S ++ [o])[S.length]? = some o := by simp
theorem sto_app {S T : Sto} {n : Nat} {o : Ob} (h : S[n]? = some o) : (S ++ T)[n]? = some o := by
  rw [List.getElem?_append_left (List.getElem?_eq_some_iff.mp h).1]; exact h
theorem lsD_at {S : Sto} {n : Nat} {ds : List D} (h : S[n]? = some (.lst ds)) : lsD S (.r n) = some ds := by
  show (match S[n]? with | some (.lst ds) => some ds | _ => none) = some ds
  rw [h]
theorem lsR_at {S : Sto} {n : Nat} {ds : List D} (h : S[n]? = some (.lst ds)) : lsR S n = some ds := by unfold lsR; rw [h]
theorem lenD_at {S : Sto} {n : Nat} {ds : List D} (h : S[n]? = some (.lst ds)) : lenD S (.r n) = some ds.length := by
  show (match S[n]? with | some (.lst ds) => some ds.length | some (.dic kvs) => some kvs.length | _ => none) = some ds.length
  rw [h]
theorem allZ_map {α : Type} (f : α → PyData) : ∀ xs : List α, allZ (xs.map fun x => .z (f x)) = some (xs.map f)
  | [] => rfl
  | x :: xs => by simp [allZ, allZ_map f xs]
theorem mkT_map {α : Type} (f : α → PyData) (xs : List α) : mkT (xs.map fun x => .z (f x)) = .z (.tuple (xs.map f)) := by unfold mkT; rw [allZ_map]
theorem Vzs.map {S : Sto} {α : Type} (f : α → PyData) : ∀ xs : List α, Vzs S (xs.map fun x => .z (f x)) (xs.map f)
  | [] => .nil
  | x :: xs => .cons .z (Vzs.map f xs)
theorem Vws.map {S : Sto} {α : Type} (f : α → PyData) : ∀ xs : List α, Vws S (xs.map fun x => .z (f x)) (xs.map f)
  | [] => .nil
  | x :: xs => .cons .z (Vws.map f xs)
theorem lst_eq {a b : List D} {gs : Sto} (h : a = b) : Ob.lst a :: gs = Ob.lst b :: gs := by rw [h]
theorem range_snoc {α : Type} (f : Nat → α) (n : Nat) : (List.range (n + 1)).map f = (List.range n).map f ++ [f n] := by rw [List.range_succ, List.map_append]; rfl
theorem set0_app {A B : Ob} {gs T : Sto} : List.set (A :: gs ++ T) 0 B = B :: (gs ++ T) := rfl
theorem set0 {A B : Ob} {gs : Sto} : List.set (A :: gs) 0 B = B :: gs := rfl
end PL

set_option Elab.async false
set_option linter.all false
set_option maxRecDepth 100000
/-! PL, part 12: the shape of data; equality of data -/
namespace PL
open PySem L2

/-- texts of real signs, at most n deep -/
def Shp (n : Nat) (d : PyData) : Prop := d.canLay0 = true ∧ d.depth ≤ n
theorem Shp.ok {n : Nat} {d : PyData} (h : Shp n d) (hn : n ≤ 64 := by decide) : SeqAt.shaped d = true := by
  unfold SeqAt.shaped
  rw [h.1, decide_eq_true (Nat.le_trans h.2 hn)]; rfl
theorem Shp.refl {n : Nat} {d : PyData} (h : Shp n d) : PyData.eqv d d = true := SeqAt.eqv_refl d h.1
theorem Shp.mono {n m : Nat} {d : PyData} (h : Shp n d) (hm : n ≤ m) : Shp m d := ⟨h.1, Nat.le_trans h.2 hm⟩
theorem Shp.int {n : Nat} {i : Int} : Shp n (.int i) := ⟨by simp [PyData.canLay0], by simp [PyData.depth]⟩
theorem Shp.bool {n : Nat} {i : Bool} : Shp n (.bool i) := ⟨by simp [PyData.canLay0], by simp [PyData.depth]⟩
theorem Shp.none {n : Nat} : Shp n .none := ⟨by simp [PyData.canLay0], by simp [PyData.depth]⟩
theorem Shp.str {n : Nat} {x : Str} (h : PyData.strOk x = true) : Shp n (.str x) := ⟨by simpa [PyData.canLay0] using h, by simp [PyData.depth]⟩
theorem shpAll {n : Nat} : ∀ {ds : List PyData}, (∀ d ∈ ds, Shp n d) → PyData.canLayAll0 ds = true ∧ PyData.depthAll ds ≤ n
  | [], _ => ⟨by simp [PyData.canLayAll0], by simp [PyData.depthAll]⟩
  | d :: ds, h => by
    obtain ⟨h1, h2⟩ := shpAll fun e he => h e (List.mem_cons_of_mem _ he)
    have h3 := h d List.mem_cons_self
    refine ⟨by simp [PyData.canLayAll0, h1, h3.1], ?_⟩
    simp only [PyData.depthAll]
    exact Nat.max_le.mpr ⟨h3.2, h2⟩
theorem Shp.list {n : Nat} {ds : List PyData} (h : ∀ d ∈ ds, Shp n d) : Shp (n + 1) (.list ds) := by
  obtain ⟨h1, h2⟩ := shpAll h
  refine ⟨by simpa [PyData.canLay0] using h1, ?_⟩
  simp only [PyData.depth]; omega
theorem Shp.tuple {n : Nat} {ds : List PyData} (h : ∀ d ∈ ds, Shp n d) : Shp (n + 1) (.tuple ds) := by
  obtain ⟨h1, h2⟩ := shpAll h
  refine ⟨by simpa [PyData.canLay0] using h1, ?_⟩
  simp only [PyData.depth]; omega
theorem Shp.lists {α : Type} {n : Nat} {f : α → PyData} {xs : List α} (h : ∀ x ∈ xs, Shp n (f x)) : Shp (n + 1) (.list (xs.map f)) := .list fun d hd => by
  obtain ⟨x, hx, rfl⟩ := List.mem_map.mp hd
  exact h x hx
theorem Shp.tup2 {n : Nat} {a b : PyData} (h1 : Shp n a) (h2 : Shp n b) : Shp (n + 1) (.tuple [a, b]) := .tuple fun d hd => by
  simp only [List.mem_cons, List.not_mem_nil, or_false] at hd
  rcases hd with rfl | rfl <;> assumption
theorem Shp.tup3 {n : Nat} {a b c : PyData} (h1 : Shp n a) (h2 : Shp n b) (h3 : Shp n c) : Shp (n + 1) (.tuple [a, b, c]) := .tuple fun d hd => by
  simp only [List.mem_cons, List.not_mem_nil, or_false] at hd
  rcases hd with rfl | rfl | rfl <;> assumption
theorem Shp.tup4 {n : Nat} {a b c e : PyData} (h1 : Shp n a) (h2 : Shp n b) (h3 : Shp n c) (h4 : Shp n e) : Shp (n + 1) (.tuple [a, b, c, e]) := .tuple fun d hd => by
  simp only [List.mem_cons, List.not_mem_nil, or_false] at hd
  rcases hd with rfl | rfl | rfl | rfl <;> assumption
/-- two things seen as one datum are equal -/
theorem eq_same {n : Nat} {S : Sto} {x y : D} {d : PyData} {k : Bool → Prop} (h1 : Vw S x d) (h2 : Vw S y d) (hs : Shp n d) (hn : n ≤ 64) (hk : k true) : bEqG x y S k := by
  unfold bEqG
  exact ⟨d, d, h1, h2, hs.ok hn, hs.ok hn, by rw [hs.refl]; exact hk⟩
/-- by a decided equality -/
theorem eq_dec {n : Nat} {S : Sto} {x y : D} {d e : PyData} {k : Bool → Prop} {b : Bool} (h1 : Vw S x d) (h2 : Vw S y e) (hs : Shp n d) (ht : Shp n e) (hn : n ≤ 64) (hb : PyData.eqv d e = b) (hk : k b) : bEqG x y S k := by
  unfold bEqG
  exact ⟨d, e, h1, h2, hs.ok hn, ht.ok hn, by rw [hb]; exact hk⟩
end PL

set_option Elab.async false
set_option linter.all false
set_option maxRecDepth 100000
/-! PL, part 13: answers with fresh lists in them, which the caller may write -/
namespace PL
open PySem L2

/-- an answer: frozen data, a fresh list, a tuple -/
inductive RT where
  | z (d : PyData)
  | l (rs : List RT)
  | t (rs : List RT)
mutual
/-- as the caller's store takes it in, from the place n on -/
def al : RT → Nat → D × Sto
  | .z d, _ => (.z d, [])
  | .l rs, n => (.r (n + (als rs n).2.length), (als rs n).2 ++ [.lst (als rs n).1])
  | .t rs, n => (.t (als rs n).1, (als rs n).2)
def als : List RT → Nat → List D × Sto
  | [], _ => ([], [])
  | r :: rs, n => ((al r n).1 :: (als rs (n + (al r n).2.length)).1, (al r n).2 ++ (als rs (n + (al r n).2.length)).2)
end
theorem als_zs (n : Nat) : ∀ es : List PyData, als (es.map .z) n = (es.map .z, [])
  | [] => by simp [als]
  | e :: es => by simp [als, al, als_zs n es]
mutual
/-- frozen data that reads no place of U -/
inductive Vu (S : Sto) (U : List Nat) : D → PyData → Prop
  | z {d : PyData} : Vu S U (.z d) d
  | r {n : Nat} {ds : List D} {es : List PyData} : n ∉ U → S[n]? = some (.lst ds) → Vus S U ds es → Vu S U (.r n) (.list es)
  | t {ds : List D} {es : List PyData} : Vus S U ds es → Vu S U (.t ds) (.tuple es)
inductive Vus (S : Sto) (U : List Nat) : List D → List PyData → Prop
  | nil : Vus S U [] []
  | cons {d : D} {ds : List D} {e : PyData} {es : List PyData} : Vu S U d e → Vus S U ds es → Vus S U (d :: ds) (e :: es)
end
mutual
/-- an answer seen in a store; the places of its fresh lists -/
inductive VR (S : Sto) (U : List Nat) : D → RT → List Nat → Prop
  | z {d : D} {e : PyData} : Vu S U d e → VR S U d (.z e) []
  | l {n : Nat} {ds : List D} {rs : List RT} {ns : List Nat} : S[n]? = some (.lst ds) → VRs S U ds rs ns → VR S U (.r n) (.l rs) (ns ++ [n])
  | t {ds : List D} {rs : List RT} {ns : List Nat} : VRs S U ds rs ns → VR S U (.t ds) (.t rs) ns
inductive VRs (S : Sto) (U : List Nat) : List D → List RT → List Nat → Prop
  | nil : VRs S U [] [] []
  | cons {d : D} {ds : List D} {r : RT} {rs : List RT} {ns ms : List Nat} : VR S U d r ns → VRs S U ds rs ms → VRs S U (d :: ds) (r :: rs) (ns ++ ms)
end
theorem VRs.zs {S : Sto} {U : List Nat} {α : Type} (f : α → PyData) : ∀ xs : List α, VRs S U (xs.map fun x => .z (f x)) (xs.map fun x => .z (f x)) []
  | [] => .nil
  | x :: xs => .cons (ns := []) (.z .z) (VRs.zs f xs)
open Classical in
noncomputable def fu (μ : Nat → Addr) (n : Nat) (U : List Nat) (F H : Hp) : Hp := fun a => match F a with
  | some o => some o
  | none => if ∃ i, i < n ∧ i ∉ U ∧ μ i = a then H a else none
section
variable {B F0 F F' H H' : Hp} {μ μ' μ2 : Nat → Addr} {S S' : Sto} {U : List Nat}
theorem fu_sub : Sub F (fu μ S.length U F H) := fun a o h => by unfold fu; rw [h]
theorem fu_at {i : Nat} (hi : i < S.length) (hu : i ∉ U) (hF : F (μ i) = none) : fu μ S.length U F H (μ i) = H (μ i) := by
  unfold fu; rw [hF]; exact if_pos ⟨i, hi, hu, rfl⟩
theorem fu_cases {a : Addr} {o : HO} (h : fu μ S.length U F H a = some o) : F a = some o ∨ (F a = none ∧ (∃ i, i < S.length ∧ i ∉ U ∧ μ i = a) ∧ H a = some o) := by
  unfold fu at h
  split at h
  · rename_i e; cases h; exact .inl e
  · rename_i e
    by_cases c : ∃ i, i < S.length ∧ i ∉ U ∧ μ i = a
    · exact .inr ⟨e, c, (if_pos c).symm.trans h⟩
    · rw [if_neg c] at h; cases h
mutual
theorem Vu.rp (R : Rl B F0 μ S F H) : ∀ (e : PyData) (d : D) (v : V), Vu S U d e → RpD B F μ S.length d v → RpT (LF (fu μ S.length U F H)) (TF (fu μ S.length U F H)) e v
  | .none, _, _, w, h => by cases w with | z => cases h with | z a => cases a; exact .non
  | .bool _, _, _, w, h => by cases w with | z => cases h with | z a => cases a; exact .bl _
  | .int _, _, _, w, h => by cases w with | z => cases h with | z a => cases a; exact .int _
  | .str _, _, _, w, h => by cases w with | z => cases h with | z a => cases a; exact .str _
  | .dict _, _, _, w, h => by cases w with | z => cases h with | z a => cases a
  | .list es, _, _, w, h => by
    cases w with
    | z => cases h with | z a => exact RpT.mono (fun _ _ q => fu_sub _ _ q) (fun _ _ q => fu_sub _ _ q) _ _ a
    | r nu e ws =>
      cases h with
      | r hi =>
        obtain ⟨vs, hv, rv⟩ := R.ob _ _ e
        exact .lst (show fu μ S.length U F H _ = _ by rw [fu_at hi nu (R.nf _ hi)]; exact hv) (Vus.rp R es _ vs ws rv)
  | .tuple es, _, _, w, h => by
    cases w with
    | z => cases h with | z a => exact RpT.mono (fun _ _ q => fu_sub _ _ q) (fun _ _ q => fu_sub _ _ q) _ _ a
    | t ws => cases h with | t e rv => exact .tup (fu_sub _ _ e) (Vus.rp R es _ _ ws rv)
theorem Vus.rp (R : Rl B F0 μ S F H) : ∀ (es : List PyData) (ds : List D) (vs : List V), Vus S U ds es → RpDs B F μ S.length ds vs → RpTs (LF (fu μ S.length U F H)) (TF (fu μ S.length U F H)) es vs
  | [], _, _, w, h => by cases w; cases h; exact .nil
  | e :: es, _, _, w, h => by
    cases w with | cons a b => cases h with | cons r s => exact .cons (Vu.rp R e _ _ a r) (Vus.rp R es _ _ b s)
end
end
section
variable {B F0 F H H' A : Hp} {μ μ2 : Nat → Addr} {S : Sto} {U : List Nat} {N : Nat}
/-- what the caller holds then -/
def Got (B : Hp) (F2 : Hp) (μ μ2 : Nat → Addr) (N : Nat) (H : Hp) (ns : List Nat) (T : Sto) : Prop := T.length = ns.length ∧ ∀ (j n : Nat) (o : Ob), ns[j]? = some n → T[j]? = some o → ObRp B F2 μ2 N H (μ n) o
theorem Got.app {F2 : Hp} {ns ms : List Nat} {T T2 : Sto} (h1 : Got A F2 μ μ2 N H ns T) (h2 : Got A F2 μ μ2 N H ms T2) : Got A F2 μ μ2 N H (ns ++ ms) (T ++ T2) := by
  refine ⟨by simp [h1.1, h2.1], fun j n o hn ho => ?_⟩
  by_cases hj : j < ns.length
  · rw [List.getElem?_append_left hj] at hn
    rw [List.getElem?_append_left (by rw [h1.1]; exact hj)] at ho
    exact h1.2 j n o hn ho
  · rw [List.getElem?_append_right (by omega)] at hn
    rw [List.getElem?_append_right (by rw [h1.1]; omega), h1.1] at ho
    exact h2.2 _ n o hn ho
mutual
theorem VR.rp (R : Rl B F0 μ S F H) : ∀ (rt : RT) (d : D) (v : V) (ns : List Nat) (m : Nat), VR S U d rt ns → RpD B F μ S.length d v → (∀ j n, ns[j]? = some n → μ2 (m + j) = μ n) → m + ns.length ≤ N →
    RpD A (fu μ S.length U F H) μ2 N (al rt m).1 v ∧ Got A (fu μ S.length U F H) μ μ2 N H ns (al rt m).2
  | .z e, d, v, ns, m, w, h, hm, hN => by
    cases w with
    | z w => exact ⟨by unfold al; exact .z (Vu.rp R e d v w h), by unfold al; exact ⟨rfl, fun j n o a b => by simp at a⟩⟩
  | .t rs, d, v, ns, m, w, h, hm, hN => by
    cases w with
    | t w =>
      cases h with
      | t e rv =>
        obtain ⟨r1, g1⟩ := VRs.rp R rs _ _ ns m w rv hm hN
        unfold al
        exact ⟨.t (fu_sub _ _ e) r1, g1⟩
  | .l rs, d, v, ns, m, w, h, hm, hN => by
    cases w with
    | @l n ds _ ns e w =>
      cases h with
      | r hi =>
        obtain ⟨vs, hv, rv⟩ := R.ob _ _ e
        rw [List.length_append, List.length_singleton] at hN
        obtain ⟨r1, g1⟩ := VRs.rp R rs ds vs ns m w rv (fun j k hk => hm j k (by rw [List.getElem?_append_left (List.getElem?_eq_some_iff.mp hk).1]; exact hk)) (by omega)
        have e1 : μ2 (m + ns.length) = μ n := hm _ _ (by simp)
        unfold al
        refine ⟨?_, g1.app ⟨rfl, fun j k o a b => ?_⟩⟩
        · rw [g1.1, ← e1]; exact .r (by omega)
        · have hj : j = 0 := by
            have := (List.getElem?_eq_some_iff.mp a).1
            simp at this; exact this
          subst hj
          cases a; cases b
          exact ⟨vs, hv, r1⟩
theorem VRs.rp (R : Rl B F0 μ S F H) : ∀ (rs : List RT) (ds : List D) (vs : List V) (ns : List Nat) (m : Nat), VRs S U ds rs ns → RpDs B F μ S.length ds vs → (∀ j n, ns[j]? = some n → μ2 (m + j) = μ n) → m + ns.length ≤ N →
    RpDs A (fu μ S.length U F H) μ2 N (als rs m).1 vs ∧ Got A (fu μ S.length U F H) μ μ2 N H ns (als rs m).2
  | [], _, _, ns, m, w, h, hm, hN => by
    cases w; cases h
    unfold als
    exact ⟨.nil, rfl, fun j n o a b => by simp at a⟩
  | r :: rs, _, _, ns, m, w, h, hm, hN => by
    cases w with
    | @cons d ds _ _ ns ms w1 w2 =>
      cases h with
      | cons h1 h2 =>
        rw [List.length_append] at hN
        obtain ⟨r1, g1⟩ := VR.rp R r d _ ns m w1 h1 (fun j k hk => hm j k (by rw [List.getElem?_append_left (List.getElem?_eq_some_iff.mp hk).1]; exact hk)) (by omega)
        obtain ⟨r2, g2⟩ := VRs.rp R rs ds _ ms (m + (al r m).2.length) w2 h2 (fun j k hk => by
          rw [g1.1, Nat.add_assoc]
          refine hm _ k ?_
          rw [List.getElem?_append_right (by omega), Nat.add_sub_cancel_left]
          exact hk) (by rw [g1.1]; omega)
        unfold als
        exact ⟨.cons r1 r2, g1.app g2⟩
end
end
section
variable {B F0 F F' H H' : Hp} {μ μ' : Nat → Addr} {S S' : Sto} {U : List Nat}
def muU (μ μ' : Nat → Addr) (n : Nat) (U : List Nat) : Nat → Addr := fun i => if i < n then μ i else μ' (U.getD (i - n) 0)
/-- back in the caller's state, with the fresh lists -/
theorem Rl.backU (R : Rl B F0 μ S F H) (R' : Rl H F μ' S' F' H') (x : Sub F F') {T : Sto} (hU : ∀ n ∈ U, n < S'.length) (nd : U.Nodup) (g : Got B (fu μ' S'.length U F' H') μ' (muU μ μ' S.length U) (S.length + U.length) H' U T) :
    Rl B F0 (muU μ μ' S.length U) (S ++ T) (fu μ' S'.length U F' H') H' ∧ Xt μ S F (muU μ μ' S.length U) (S ++ T) (fu μ' S'.length U F' H') := by
  have s1 : Sub F (fu μ' S'.length U F' H') := x.trans fu_sub
  have m1 : ∀ i, i < S.length → muU μ μ' S.length U i = μ i := fun i hi => if_pos hi
  have hl : (S ++ T).length = S.length + U.length := by rw [List.length_append, g.1]
  have m2 : ∀ i, i < S.length + U.length → i < S.length ∨ ∃ j n, i = S.length + j ∧ U[j]? = some n ∧ n ∈ U ∧ muU μ μ' S.length U i = μ' n := by
    intro i hi
    by_cases h : i < S.length
    · exact .inl h
    · have hj : i - S.length < U.length := by omega
      refine .inr ⟨i - S.length, U[i - S.length], by omega, List.getElem?_eq_getElem hj, List.getElem_mem hj, ?_⟩
      unfold muU
      rw [if_neg h, List.getD_eq_getElem?_getD, List.getElem?_eq_getElem hj]
      rfl
  have ne : ∀ i n, i < S.length → n ∈ U → μ i ≠ μ' n := fun i n hi hn e => by
    obtain ⟨u, hu⟩ := R.has hi
    have := R'.nb n (hU n hn)
    rw [← e, hu] at this; cases this
  refine ⟨⟨R.bh.trans R'.bh, fun a o h => ?_, R.f0.trans s1, fun a o h => ?_, fun i j hi hj e => ?_, fun i hi => ?_, fun i hi => ?_, fun i o h => ?_⟩, ⟨s1, by rw [hl]; omega, m1⟩⟩
  · rcases fu_cases h with h | ⟨_, _, h⟩
    · exact R'.fh a o h
    · exact h
  · rcases fu_cases h with h | ⟨_, ⟨i, hi, _, rfl⟩, _⟩
    · rcases R'.fn a o h with q | q
      · exact R.fn a o q
      · exact .inr (R.bh.non q)
    · exact .inr (R.bh.non (R'.nb i hi))
  · rw [hl] at hi hj
    rcases m2 i hi with hi | ⟨a, n, rfl, ha, hn, e1⟩
    · rcases m2 j hj with hj | ⟨b, m, rfl, hb, hm, e2⟩
      · rw [m1 i hi, m1 j hj] at e; exact R.inj i j hi hj e
      · rw [m1 i hi, e2] at e; exact absurd e (ne i m hi hm)
    · rcases m2 j hj with hj | ⟨b, m, rfl, hb, hm, e2⟩
      · rw [e1, m1 j hj] at e; exact absurd e.symm (ne j n hj hn)
      · rw [e1, e2] at e
        have := R'.inj n m (hU n hn) (hU m hm) e
        subst this
        have h1 := (List.getElem?_eq_some_iff.mp ha).1
        have := (List.getElem?_inj h1 nd).mp (ha.trans hb.symm)
        rw [this]
  · rw [hl] at hi
    rcases m2 i hi with hi | ⟨a, n, rfl, ha, hn, e1⟩
    · rw [m1 i hi]; exact R.nb i hi
    · rw [e1]; exact R.bh.non (R'.nb n (hU n hn))
  · rw [hl] at hi
    rcases m2 i hi with hi | ⟨a, n, rfl, ha, hn, e1⟩
    · rw [m1 i hi]
      obtain ⟨u, hu⟩ := R.has hi
      cases q : fu μ' S'.length U F' H' (μ i) with
      | none => rfl
      | some o =>
        rcases fu_cases q with h | ⟨_, ⟨j, hj, _, e⟩, _⟩
        · rcases R'.fn _ o h with q | q
          · rw [R.nf i hi] at q; cases q
          · rw [hu] at q; cases q
        · have := R'.nb j hj
          rw [e, hu] at this; cases this
    · rw [e1]
      cases q : fu μ' S'.length U F' H' (μ' n) with
      | none => rfl
      | some o =>
        rcases fu_cases q with h | ⟨_, ⟨j, hj, hjU, e⟩, _⟩
        · rw [R'.nf n (hU n hn)] at h; cases h
        · have := R'.inj j n hj (hU n hn) e
          subst this
          exact absurd hn hjU
  · have hi := Rl.lt h
    rw [hl] at hi ⊢
    rcases m2 i hi with hi | ⟨a, n, rfl, ha, hn, e1⟩
    · rw [List.getElem?_append_left hi] at h
      rw [m1 i hi]
      obtain ⟨u, hu⟩ := R.has hi
      exact (R.ob i o h).mono s1 (Nat.le_add_right _ _) m1 ((R'.bh _ _ hu).trans hu.symm)
    · rw [List.getElem?_append_right (by omega), Nat.add_sub_cancel_left] at h
      rw [e1]
      exact g.2 a n o ha h
end
mutual
theorem VR.lt {S : Sto} {U : List Nat} : ∀ (rt : RT) (d : D) (ns : List Nat), VR S U d rt ns → ∀ n ∈ ns, n < S.length
  | .z _, _, _, w, n, hn => by cases w; simp at hn
  | .t rs, _, _, w, n, hn => by cases w with | t w => exact VRs.lt rs _ _ w n hn
  | .l rs, _, _, w, n, hn => by
    cases w with
    | l e w =>
      simp only [List.mem_append, List.mem_singleton] at hn
      rcases hn with hn | rfl
      · exact VRs.lt rs _ _ w n hn
      · exact (List.getElem?_eq_some_iff.mp e).1
theorem VRs.lt {S : Sto} {U : List Nat} : ∀ (rs : List RT) (ds : List D) (ns : List Nat), VRs S U ds rs ns → ∀ n ∈ ns, n < S.length
  | [], _, _, w, n, hn => by cases w; simp at hn
  | r :: rs, _, _, w, n, hn => by
    cases w with
    | cons w1 w2 =>
      rcases List.mem_append.mp hn with hn | hn
      · exact VR.lt r _ _ w1 n hn
      · exact VRs.lt rs _ _ w2 n hn
end
abbrev Fsr := List PyData → (RT → Prop) → (Ex → Prop) → Prop
def frr (p : Fsr) : Spc := fun ds S K KX => ∃ es, Vws S ds es ∧ p es (fun rt => K (al rt S.length).1 (S ++ (al rt S.length).2)) fun x => KX x S
def lentR (p : Fsr) : Spc := fun ds S K KX => ∃ es kd kx, ds = es.map bz ∧ S = [] ∧ p es kd kx ∧ (∀ d S' rt U, VR S' U d rt U → U.Nodup → kd rt → K d S') ∧ ∀ x S' x', ExV S' x x' → kx x' → KX x S'
theorem FnOk.frr {P : Program} {w : World} {K : PySem.W.Frag} {mg : Str → Option Value} {base : Heap} {CX : CXT} {k : Nat} {f : Addr} {fd : FuncData} {ps : List Str} {p : Fsr} (h : FnOk P w K mg base CX k f fd ps (spOf (lentR p))) : FnOk P w K mg base CX k f fd ps (spOf (PL.frr p)) := by
  refine h.imp fun vs H Q E q => ?_
  obtain ⟨B, F0, w, ds, K, KX, R, r, ⟨es, vw, q⟩, k, kx⟩ := q
  have R0 : Rl H w.F w.μ [] w.F H := ⟨Sub.refl _, R.fh, Sub.refl _, fun a o e => .inl e, fun i j hi => absurd hi (Nat.not_lt_zero _), fun i hi => absurd hi (Nat.not_lt_zero _), fun i hi => absurd hi (Nat.not_lt_zero _), fun i o e => by simp at e⟩
  refine ⟨H, w.F, ⟨w.μ, [], w.F⟩, es.map bz, fun d S' => ∃ rt U, VR S' U d rt U ∧ U.Nodup ∧ K (al rt w.S.length).1 (w.S ++ (al rt w.S.length).2), fun x S' => ∃ x', ExV S' x x' ∧ KX x' w.S, R0, RpDs.bzs (Vws.rp R _ _ _ vw r), ⟨es, _, _, rfl, rfl, q, fun d S' rt U a nd b => ⟨rt, U, a, nd, b⟩, fun x S' x' a b => ⟨x', a, b⟩⟩, ?_, ?_⟩
  · rintro d S' v H' μ' F' R' X' r' ⟨rt, U, hv, nd, hk⟩
    have hm : ∀ j n, U[j]? = some n → muU w.μ μ' w.S.length U (w.S.length + j) = μ' n := fun j n h => by
      unfold muU
      rw [if_neg (by omega), Nat.add_sub_cancel_left, List.getD_eq_getElem?_getD, h]; rfl
    obtain ⟨r2, g2⟩ := VR.rp (A := B) (N := w.S.length + U.length) R' rt d v U w.S.length hv r' hm (Nat.le_refl _)
    obtain ⟨R2, X2⟩ := R.backU R' X'.f (VR.lt rt d U hv) nd g2
    refine k _ _ _ _ _ _ R2 X2 ?_ hk
    rw [List.length_append, g2.1]
    exact r2
  · rintro x S' H' μ' F' cls dd R' X' r' ⟨x', ⟨hc, hf⟩, hk⟩
    obtain ⟨R2, X2⟩ := R.back R' X'.f
    refine kx x' _ _ _ _ cls dd R2 X2 ⟨by rw [hc]; exact r'.1, ?_⟩ hk
    obtain ⟨_, r2⟩ := r'
    cases h1 : x.fs with
    | none =>
      cases h2 : x'.fs with
      | none => rw [h1] at r2; exact r2
      | some gs => rw [h1, h2] at hf; exact hf.elim
    | some fs =>
      cases h2 : x'.fs with
      | none => rw [h1, h2] at hf; exact hf.elim
      | some gs =>
        rw [h1] at r2
        rw [h1, h2] at hf
        obtain ⟨a, ws, e1, e2, e3⟩ := r2
        refine ⟨a, ws, e1, e2, ?_⟩
        clear e2 h1 h2
        induction hf generalizing ws with
        | nil => cases e3; exact .nil
        | cons q t ih =>
          cases e3 with
          | cons r1 r2 =>
            obtain ⟨n1, e, ve, q2⟩ := q
            refine .cons ⟨n1.symm.trans r1.1, ?_⟩ (ih _ r2)
            rw [q2]
            exact .z (Vz.rp R' e _ _ ve r1.2)
theorem Fc.frr {P : Program} {w : World} {K : PySem.W.Frag} {mg : Str → Option Value} {base : Heap} {x : Str} {k : Nat} {ps : List Str} {p : Fsr} (c : Fc P w K mg base x k ps (lentR p)) : Fc P w K mg base x k ps (PL.frr p) := by
  obtain ⟨f, fd, h, r⟩ := c.ex
  exact ⟨f, fd, FnOk.frr h, r⟩
/-- typed -/
def fsr {α : Type} (enc : α → List PyData) (pre : α → Prop) (out : α → RT) : Fsr := fun es k _ => ∃ a, es = enc a ∧ pre a ∧ k (out a)
theorem fsr_len {α : Type} {enc : α → List PyData} {pre : α → Prop} {out : α → RT} {n : Nat} (h : ∀ a, (enc a).length = n) : ∀ ds S K KX, lentR (fsr enc pre out) ds S K KX → ds.length = n := by
  rintro ds S K KX ⟨es, kd, kx, rfl, rfl, ⟨a, rfl, _, _⟩, _⟩
  rw [List.length_map]; exact h a
theorem fsr_ok {α : Type} {enc : α → List PyData} {pre : α → Prop} {out : α → RT} {ws : WS} {N : List Str} (h : ∀ a, pre a → ∀ K KX, (∀ d S' U, VR S' U d (out a) U → U.Nodup → K d S') → ws (ends K KX) (startE N ((enc a).map bz)) []) :
    ∀ ds S K KX, lentR (fsr enc pre out) ds S K KX → ws { nx := fun _ S1 => K (.z .none) S1, rt := K, ex := fun y _ S1 => KX y S1 } (startE N ds) S := by
  rintro ds S K KX ⟨es, kd, kx, rfl, rfl, ⟨a, rfl, hp, hk⟩, hK, _⟩
  exact h a hp K KX fun d S' U v nd => hK d S' _ U v nd hk
theorem fsr_call {α : Type} {enc : α → List PyData} {pre : α → Prop} {out : α → RT} {ds : List D} {S : Sto} {K : K1} {KX : KF} (a : α) (v : Vws S ds (enc a)) (hp : pre a) (h : K (al (out a) S.length).1 (S ++ (al (out a) S.length).2)) : pCall (frr (fsr enc pre out)) ds S K KX := pCall.mk ⟨_, v, a, rfl, hp, h⟩
/-- a fresh list of frozen things -/
def lz {α : Type} (f : α → PyData) (xs : List α) : RT := .l (xs.map fun x => .z (f x))
theorem als_lz {α : Type} (f : α → PyData) (n : Nat) : ∀ xs : List α, als (xs.map fun x => RT.z (f x)) n = (xs.map fun x => .z (f x), [])
  | [] => by simp [als]
  | e :: es => by simp [als, al, als_lz f n es]
theorem al_lz {α : Type} (f : α → PyData) (xs : List α) (n : Nat) : al (lz f xs) n = (.r n, [.lst (xs.map fun x => .z (f x))]) := by
  unfold lz al
  rw [als_lz]
  rfl
theorem VR.lz {S : Sto} {n : Nat} {α : Type} {f : α → PyData} {xs : List α} (h : S[n]? = some (.lst (xs.map fun x => .z (f x)))) : VR S [n] (.r n) (PL.lz f xs) [n] := .l (ns := []) h (VRs.zs f xs)
theorem fsl_call {α β : Type} {enc : α → List PyData} {pre : α → Prop} {f : β → PyData} {out : α → List β} {ds : List D} {S : Sto} {K : K1} {KX : KF} (a : α) (v : Vws S ds (enc a)) (hp : pre a) (h : K (.r S.length) (S ++ [.lst ((out a).map fun x => .z (f x))])) : pCall (frr (fsr enc pre fun a => lz f (out a))) ds S K KX :=
  fsr_call a v hp (by rw [al_lz]; exact h)
/-! views stay, where the store only grows -/
mutual
theorem Vw.sub {S S' : Sto} (h : ∀ (n : Nat) (o : Ob), S[n]? = some o → S'[n]? = some o) : ∀ (e : PyData) (d : D), Vw S d e → Vw S' d e
  | .none, _, w => by cases w <;> constructor
  | .bool _, _, w => by cases w <;> constructor
  | .int _, _, w => by cases w <;> constructor
  | .str _, _, w => by cases w <;> constructor
  | .dict _, _, w => by cases w <;> constructor
  | .list es, _, w => by
    cases w with
    | z => exact .z
    | b => exact .b
    | r e ws => exact .r (h _ _ e) (Vws.sub h es _ ws)
  | .tuple es, _, w => by
    cases w with
    | z => exact .z
    | b => exact .b
    | t ws => exact .t (Vws.sub h es _ ws)
theorem Vws.sub {S S' : Sto} (h : ∀ (n : Nat) (o : Ob), S[n]? = some o → S'[n]? = some o) : ∀ (es : List PyData) (ds : List D), Vws S ds es → Vws S' ds es
  | [], _, w => by cases w; exact .nil
  | e :: es, _, w => by cases w with | cons a b => exact .cons (Vw.sub h e _ a) (Vws.sub h es _ b)
end
theorem Vw.app {S T : Sto} {d : D} {e : PyData} (h : Vw S d e) : Vw (S ++ T) d e := Vw.sub (fun _ _ => sto_app) e d h
theorem Vws.app {S T : Sto} {d : List D} {e : List PyData} (h : Vws S d e) : Vws (S ++ T) d e := Vws.sub (fun _ _ => sto_app) e d h
/-! comprehensions whose elements make lists too -/
theorem pLc_each {src : Src} {tg : D → Env → Option Env} {wt : WT} {we : WE} {L : Nat} {env : Env} {fin : Sto → Prop} {items : List D} {S : Sto} (I : Nat → Sto → Prop) (h0 : I 0 S) (hok : ∀ i S, i ≤ items.length → I i S → src.ok S)
    (hs : ∀ i d S (Q : Sto → Prop), items[i]? = some d → I i S → (∀ S', I (i + 1) S' → Q S') → pGet (tg d env) fun env2 => wt env2 S (fun c S1 => pIf c (we env2 S1 (fun x S2 => pGet (lsR S2 L) fun xs => pReq (xs.length < sizeLine) (Q (S2.set L (.lst (xs ++ [x]))))) X0) (Q S1)) X0)
    (hd : ∀ S, I items.length S → fin S) : pLc src tg wt we L env fin items S := by
  have go : ∀ (rest : List D) (i : Nat) S, items.drop i = rest → i ≤ items.length → I i S → pLc src tg wt we L env fin rest S := by
    intro rest
    induction rest with
    | nil =>
      intro i S e hi h
      rw [pLc.nil]
      have : i = items.length := by
        have := congrArg List.length e
        rw [List.length_drop] at this
        simp at this
        omega
      subst this
      exact ⟨hok _ _ (Nat.le_refl _) h, hd _ h⟩
    | cons d ds ih =>
      intro i S e hi h
      rw [pLc.cons]
      have hlt : i < items.length := by
        have := congrArg List.length e
        rw [List.length_drop] at this
        simp at this
        omega
      have hget : items[i]? = some d := by
        have := congrArg (fun l => l[0]?) e
        simpa using this
      exact ⟨hok _ _ hi h, hs i d S _ hget h fun S' h' => ih (i + 1) S' (by rw [← List.drop_drop, e]; rfl) hlt h'⟩
  exact go _ 0 S rfl (Nat.zero_le _) h0
end PL

set_option Elab.async false
set_option linter.all false
set_option maxRecDepth 100000
/-! PL, part 14: the law's head: facts of the defs by names -/
namespace PL
open PySem PySem.Spec PyProof.Rows L2

theorem fun_of {K : PySem.W.Frag} {x q : Str} {st : Stmt} {f : Addr} {fd : FuncData} (F : FunD K x q (defArgs st) (defBody st) (defScope st) [] [] f fd) : Fun K x q st f fd := by
  obtain ⟨oc, od, dV, kV, doc, pm, an, cdv, ct, osl, h1, h2, h3, h4, h5⟩ := F.ex
  have e : dV = .none := h4.elim (fun z => z.2) fun z => absurd rfl z.1
  subst e
  exact ⟨⟨oc, od, kV, doc, pm, an, cdv, ct, osl, h1, h2, h3⟩, F.kp⟩
abbrev dd (x : Str) (st : Stmt) : He.DefD := ⟨(x, none), x, x, defArgs st, defBody st, defScope st, [], []⟩
/-! the Hook, with a word about lists -/
def obsP (fa : List He.Fa) (fn : List He.DefD) (K : PySem.W.Frag) : Bool × He.AlD := (noLs K, He.obsD fa fn K)
def SaysP (fa : List He.Fa) (fn : List He.DefD) (K : PySem.W.Frag) : Prop := obsP fa fn K = (true, He.valD fn)
theorem SaysP.ls {fa : List He.Fa} {fn : List He.DefD} {K : PySem.W.Frag} (h : SaysP fa fn K) : noLs K = true := congrArg (fun z : Bool × He.AlD => z.1) h
theorem SaysP.sd {fa : List He.Fa} {fn : List He.DefD} {K : PySem.W.Frag} (h : SaysP fa fn K) : He.SaysD fa fn K := congrArg (fun z : Bool × He.AlD => z.2) h
def obsPG (n : Nat) (fa : List He.Fa) (fn : List He.DefD) (g : Addr → Option Obj) : Bool × He.AlD := obsP fa fn (He.frG g (He.asD g n))
def hookP (n : Nat) (fa : List He.Fa) (fn : List He.DefD) : PySem.W.Hook where
  α := Bool × He.AlD
  obs := fun s => obsPG n fa fn s.heap.get?
  val := fun _ => (true, He.valD fn)
  says := fun _ h => ∃ K : PySem.W.Frag, K.In h ∧ SaysP fa fn K
  of := fun _ _ e => ⟨_, He.frG_in, e⟩
  keeps := fun _ _ _ ⟨K, hK, c⟩ k => ⟨K, PySem.W.Frag.In.keeps hK k, c⟩
theorem obsPG_eq {n : Nat} {fa : List He.Fa} {fn : List He.DefD} {g : Addr → Option Obj} {s : Shared} (h : ∀ a, g a = s.heap.get? a) : obsPG n fa fn g = (hookP n fa fn).obs s := by
  have e : g = s.heap.get? := funext h
  rw [e] <;> rfl
/-- a def as its callers know it, by its place among the facts -/
theorem fc_mk {P : Program} {w : World} {K : PySem.W.Frag} {mg : Str → Option Value} {base h : Heap} {x : Str} {k : Nat} {ps : List Str} {sp : Spc} {st : Stmt} {fd : FuncData} (X : K.In h) (G : h.Ns mainGlobals mg) (FD : FunD K x x (defArgs st) (defBody st) (defScope st) [] [] (He.fAd K (x, none)) fd)
    (ok : FnOk P w K mg base (L2.CX P w) k (He.fAd K (x, none)) fd ps (spOf sp)) (g : (He.Fa.glo x).ok K = true)
    (hb : ∀ (kV doc pm : Value) (an : Option Addr) (cdv ct : Value) (us : List Value), us.length = ps.length → bindArgs (PySem.W.fnOf x x (defArgs st) (defBody st) (defScope st) .none kV doc pm an cdv ct) ⟨us, []⟩ = pure (ps.zip us)) : Fc P w K mg base x k ps sp :=
  ⟨_, fd, ok, He.glo_ok X G g, FD.kp, (fun_of FD).binds hb⟩
/-- the end -/
theorem pl_end {l : PySem.W.OpenLaw} {q : Program} {loose : List Str} {XP : (Str → Option Value) → Heap → Prop} {d : DefRec} {x : Str} {k n : Nat} {fa : List He.Fa} {fn : List He.DefD} {st : Stmt}
    (hn : l.most = some 63) (hd : d.name = ("law" : Str)) (hdf : d.params.defaults = []) (hr : Room k callerA)
    (hb : ∀ (kV doc pm : Value) (an : Option Addr) (cdv ct : Value) (us : List Value), us.length = [x].length → bindArgs (PySem.W.fnOf "law" "law" (defArgs st) (defBody st) (defScope st) .none kV doc pm an cdv ct) ⟨us, []⟩ = pure ([x].zip us))
    (F : ∀ (w : World) (K : PySem.W.Frag) (h : Heap) (mg : Str → Option Value), K.In h → h.Ns mainGlobals mg → SaysP fa fn K → ∃ fd, FunD K "law" "law" (defArgs st) (defBody st) (defScope st) [] [] (He.fAd K ("law", none)) fd ∧ mg ("law" : Str) = some (.ref (He.fAd K ("law", none))) ∧ ∀ base : Heap, FnOk l.prog w K mg base (L2.CX l.prog w) k (He.fAd K ("law", none)) fd [x] (spOf lawSp)) :
    PySem.W.WalkO q loose XP (hookP n fa fn).says l.row.toRowW d [] (fun f vs => PySem.call f vs) := by
  refine Att.attach_call hn hdf fun w s₀ s₁ mg mb fa' o pm cd doc a vs ns G Y ho hd' hcd hmg hobj hints hlen hg => ?_
  obtain ⟨K, KX, c⟩ := Y
  obtain ⟨fd, FD, e, hF⟩ := F w K _ mg KX G.T.g c
  have hmg2 : mg ("law" : Str) = some (.ref fa') := by rw [← hd]; exact hmg
  rw [e] at hmg2
  cases hmg2
  exact law_call KX G.T.g G.T.b G.T.builtins G.T.nolimit hg hobj hints (Nat.le_trans hlen (by decide)) hr (fun base _ _ => law_imp c.ls (hF base)) (fun s u => FD.bindsA (ps := [x]) hb s [u] rfl) (fun H hO hS => ⟨a, ns, rfl, hS, hlen, fun _ => rfl⟩) fun H e s' ⟨_, _, _, _, _, _, _, _, _, _, _, _, z⟩ => z
end PL

set_option Elab.async false
set_option linter.all false
set_option maxRecDepth 100000
/-! ND, part 1: nets, answers, as data; what is in a thing, where a step goes -/
namespace ND
open PySem L2 PL

structure Step where
  lab : Str
  by_ : Bool
  num : Int
structure Tell where
  lab : Str
  name : Str
  by_ : Bool
  num : Int
inductive Thing where
  | plain | part (s : Int) | sort (q : Int)
inductive Ans where
  | opn | thing (t : Int) | none_ (at_ : Int) | torn (at_ : Int)
structure Quest where
  scope : Int
  state : Int
  path : List Str
abbrev Scope := List Step × List Tell
structure Net where
  scopes : List Scope
  things : List Thing
  quests : List Quest
inductive Goal where
  | to (s : Int) | opn (q : Int) | no
def eStep (s : Step) : PyData := .tuple [.str s.lab, .str (if s.by_ then "by" else "to"), .int s.num]
def eTell (s : Tell) : PyData := .tuple [.str s.lab, .str s.name, .str (if s.by_ then "by" else "thing"), .int s.num]
def eThing : Thing → PyData
  | .plain => .tuple [.str "plain", .int 0]
  | .part s => .tuple [.str "part", .int s]
  | .sort q => .tuple [.str "sort", .int q]
def eAns : Ans → PyData
  | .opn => .none
  | .thing t => .tuple [.str "thing", .int t]
  | .none_ a => .tuple [.str "none", .int a]
  | .torn a => .tuple [.str "torn", .int a]
def eQuest (q : Quest) : PyData := .tuple [.int q.scope, .int q.state, .tuple (q.path.map .str)]
def eScope (s : Scope) : PyData := .tuple [.list (s.1.map eStep), .list (s.2.map eTell)]
def eNet (n : Net) : PyData := .tuple [.list (n.scopes.map eScope), .list (n.things.map eThing), .list (n.quests.map eQuest)]
def eAnss (a : List Ans) : PyData := .list (a.map eAns)
def eGoal : Goal → PyData
  | .to s => .tuple [.str "to", .int s]
  | .opn q => .tuple [.str "open", .int q]
  | .no => .tuple [.str "no", .int 0]

/-- the things' sorts are questions that have answers, their answers are things there -/
structure InOk (net : Net) (ans : List Ans) : Prop where
  sort : ∀ (q : Int), Thing.sort q ∈ net.things → 0 ≤ q ∧ q < ans.length
  ans : ∀ (t : Int), Ans.thing t ∈ ans → 0 ≤ t ∧ t < net.things.length
def getI {α : Type} (xs : List α) (d : α) (i : Int) : α := xs.getD i.toNat d
def inside (net : Net) (ans : List Ans) (t : Int) : Goal := match getI net.things .plain t with
  | .part s => .to s
  | .plain => .no
  | .sort q => match getI ans .opn q with
    | .opn => .opn q
    | .thing t => match getI net.things .plain t with
      | .part s => .to s
      | _ => .no
    | _ => .no
theorem getI_at {α : Type} {xs : List α} {d : α} {i : Int} (h : 0 ≤ i ∧ i < xs.length) : atD xs i = some (getI xs d i) := by
  rw [atD_in h.1 h.2]
  unfold getI
  rw [List.getD_eq_getElem?_getD, List.getElem?_eq_getElem (by omega)]
  rfl
theorem getI_mem {α : Type} {xs : List α} {d : α} {i : Int} (h : 0 ≤ i ∧ i < xs.length) : getI xs d i ∈ xs := by
  have := getI_at (d := d) h
  rw [atD_in h.1 h.2] at this
  rw [← Option.some.inj this]
  exact List.getElem_mem _
/-! no lists within -/
theorem flat_strs : ∀ xs : List Str, flatTs (xs.map .str) = true
  | [] => rfl
  | x :: xs => by simp [flatTs, flatT, flat_strs xs]
theorem bzQ (q : Quest) : bz (eQuest q) = .z (eQuest q) := bz_flat (by simp [eQuest, flatT, flatTs, flat_strs])
theorem bzT (t : Thing) : bz (eThing t) = .z (eThing t) := by cases t <;> rfl
theorem bzA (a : Ans) : bz (eAns a) = .z (eAns a) := by cases a <;> rfl
theorem bzG (g : Goal) : bz (eGoal g) = .z (eGoal g) := by cases g <;> rfl
theorem bzS (s : Step) : bz (eStep s) = .z (eStep s) := rfl
theorem bzL (t : Tell) : bz (eTell t) = .z (eTell t) := rfl
end ND

set_option Elab.async false
set_option linter.all false
set_option maxRecDepth 100000
/-! ND, part 2: a net in the store -/
namespace ND
open PySem L2 PL

theorem cutL_map {α β : Type} (f : α → β) (xs : List α) (lo hi : Option Int) : cutL (xs.map f) lo hi = (cutL xs lo hi).map f := by
  unfold cutL; rw [List.length_map, List.map_take, List.map_drop]
theorem cutL_len {α : Type} (xs : List α) (lo hi : Option Int) : (cutL xs lo hi).length ≤ xs.length := by
  unfold cutL; rw [List.length_take, List.length_drop]; omega
theorem cutL_mem {α : Type} {xs : List α} {lo hi : Option Int} {x : α} (h : x ∈ cutL xs lo hi) : x ∈ xs := List.mem_of_mem_drop (List.mem_of_mem_take h)
theorem bz_ints (ns : List Int) : (ns.map PyData.int).map bz = ns.map fun i => .z (.int i) := by rw [List.map_map]; rfl

theorem sqD_at {S : Sto} {n : Nat} {ds : List D} (h : S[n]? = some (.lst ds)) : sqD S (.r n) = some ds := lsD_at h
theorem ixN_at {n i : Nat} (h : i < n) : ixN n (0 + (i : Int)) = some i := by
  rw [Int.zero_add]
  unfold ixN
  split
  · simp [h]
  · omega
/-- a scope, its two lists at two places -/
def scD (p : Nat × Nat) : D := .t [.r p.1, .r p.2]
structure ScIn (S : Sto) (p : Nat × Nat) (s : Scope) : Prop where
  a : S[p.1]? = some (.lst (s.1.map fun x => .z (eStep x)))
  b : S[p.2]? = some (.lst (s.2.map fun x => .z (eTell x)))
theorem ScIn.vw {S : Sto} {p : Nat × Nat} {s : Scope} (h : ScIn S p s) : Vw S (scD p) (eScope s) :=
  .t (.cons (.r h.a (Vws.map _ _)) (.cons (.r h.b (Vws.map _ _)) .nil))
theorem ScIn.sub {S S' : Sto} {p : Nat × Nat} {s : Scope} (h : ScIn S p s) (k : ∀ (n : Nat) (o : Ob), S[n]? = some o → S'[n]? = some o) : ScIn S' p s := ⟨k _ _ h.a, k _ _ h.b⟩
inductive ScsIn (S : Sto) : List (Nat × Nat) → List Scope → Prop
  | nil : ScsIn S [] []
  | cons {p : Nat × Nat} {s : Scope} {ps : List (Nat × Nat)} {ss : List Scope} : ScIn S p s → ScsIn S ps ss → ScsIn S (p :: ps) (s :: ss)
theorem ScsIn.vws {S : Sto} : ∀ {ps : List (Nat × Nat)} {ss : List Scope}, ScsIn S ps ss → Vws S (ps.map scD) (ss.map eScope)
  | [], _, h => by cases h; exact .nil
  | p :: ps, _, h => by cases h with | cons a b => exact .cons a.vw b.vws
theorem ScsIn.sub {S S' : Sto} (k : ∀ (n : Nat) (o : Ob), S[n]? = some o → S'[n]? = some o) : ∀ {ps : List (Nat × Nat)} {ss : List Scope}, ScsIn S ps ss → ScsIn S' ps ss
  | [], _, h => by cases h; exact .nil
  | p :: ps, _, h => by cases h with | cons a b => exact .cons (a.sub k) (b.sub k)
/-- n empty scopes from the place L on -/
def emp (L n : Nat) : List (Nat × Nat) := (List.range n).map fun k => (L + 2 * k, L + 2 * k + 1)
def noSc : Scope := ([], [])
theorem emp_in {S T : Sto} {L : Nat} (hL : S.length = L) (n : Nat) : ScsIn (S ++ (List.replicate (2 * n) (.lst []) ++ T)) (emp L n) (List.replicate n noSc) := by
  have go : ∀ (ks : List Nat), (∀ k ∈ ks, k < n) → ScsIn (S ++ (List.replicate (2 * n) (.lst []) ++ T)) (ks.map fun k => (L + 2 * k, L + 2 * k + 1)) (List.replicate ks.length noSc) := by
    intro ks
    induction ks with
    | nil => intro _; exact .nil
    | cons k ks ih =>
      intro h
      have hk := h k List.mem_cons_self
      refine .cons ⟨?_, ?_⟩ (ih fun j hj => h j (List.mem_cons_of_mem _ hj))
      · show (S ++ _)[L + 2 * k]? = _
        rw [List.getElem?_append_right (by omega), List.getElem?_append_left (by rw [List.length_replicate]; omega), List.getElem?_replicate, if_pos (by omega)]; rfl
      · show (S ++ _)[L + 2 * k + 1]? = _
        rw [List.getElem?_append_right (by omega), List.getElem?_append_left (by rw [List.length_replicate]; omega), List.getElem?_replicate, if_pos (by omega)]; rfl
  have := go (List.range n) fun k hk => List.mem_range.mp hk
  rw [List.length_range] at this
  exact this
abbrev weEmp : WE := wTup (wCons (wLst wNil) (wCons (wLst wNil) wNil))
/-- [([], []) for .. in range(n)] -/
theorem pLc_emp {lo : Int} {n : Nat} {i : Nat} {env : PL.Env} {fin : Sto → Prop} {S : Sto} (hz : n < 1000000) (hf : fin (S ++ .lst ((emp (S.length + 1) n).map scD) :: List.replicate (2 * n) (.lst []))) :
    pLc (rgD lo n) (tgN i) wYes weEmp S.length env fin (rgD lo n).items (S ++ [.lst []]) := by
  have hl : (rgD lo n).items.length = n := by simp [rgD]
  refine pLc_each (fun j S' => j ≤ n ∧ S' = S ++ .lst ((emp (S.length + 1) j).map scD) :: List.replicate (2 * j) (.lst [])) ⟨Nat.zero_le _, rfl⟩ (fun _ _ _ _ => trivial) ?_ ?_
  · rintro j d _ Q hj ⟨hj2, rfl⟩ hQ
    have hlt : j < n := by rw [← hl]; exact (List.getElem?_eq_some_iff.mp hj).1
    refine pGet.mk rfl ?_
    refine pIf.tt rfl ?_
    refine pReq.mk (sz_le rfl) ?_
    refine pReq.mk (sz_le rfl) ?_
    refine pReq.mk (sz_le rfl) ?_
    refine pGet.mk (x := (emp (S.length + 1) j).map scD) ?_ (pReq.mk ?_ ?_)
    · rw [List.append_assoc, List.append_assoc]
      exact lsR_at (List.getElem?_append_right (Nat.le_refl _) |>.trans (by rw [Nat.sub_self]; rfl))
    · rw [List.length_map]
      refine sz_lt6 ?_
      unfold emp
      rw [List.length_map, List.length_range]
      omega
    · refine hQ _ ⟨hlt, ?_⟩
      rw [List.append_assoc, List.append_assoc, List.set_append_right _ _ (Nat.le_refl _), Nat.sub_self]
      have e1 : emp (S.length + 1) (j + 1) = emp (S.length + 1) j ++ [(S.length + 1 + 2 * j, S.length + 1 + 2 * j + 1)] := by
        unfold emp; rw [range_snoc]
      have e2 : List.replicate (2 * (j + 1)) (Ob.lst []) = List.replicate (2 * j) (.lst []) ++ [.lst [], .lst []] := by
        rw [show 2 * (j + 1) = 2 * j + 2 by omega, ← List.replicate_append_replicate]; rfl
      rw [e1, e2, List.map_append]
      have e3 : (S ++ Ob.lst ((emp (S.length + 1) j).map scD) :: List.replicate (2 * j) (Ob.lst [])).length = S.length + 1 + 2 * j := by simp; omega
      have e4 : ((S ++ Ob.lst ((emp (S.length + 1) j).map scD) :: List.replicate (2 * j) (Ob.lst [])) ++ [Ob.lst []]).length = S.length + 1 + 2 * j + 1 := by simp; omega
      show S ++ (Ob.lst (_ ++ [D.t [.r _, .r _]]) :: _) = _
      rw [e3, e4]
      rfl
  · rintro S' ⟨_, rfl⟩
    rw [hl]
    exact hf
end ND

set_option Elab.async false
set_option linter.all false
set_option maxRecDepth 100000
set_option maxHeartbeats 4000000
/-! the walk of each def; printed by gen.py -/
namespace K10
open PySem L2 PL
def top (i : Nat) : Stmt := PySem.Challenge.pw_namepaths_k10_what_is_in_a_thing.main.body.getD i (.Pass ⟨0, 0, 0, 0⟩)
/-- what the walks ask of the module's names -/
structure Txt (mg : Str → Option Value) : Prop where
  n_len : mg "len" = none
  n_int : mg "int" = none
  n_isinstance : mg "isinstance" = none
  n_bool : mg "bool" = none
  n_range : mg "range" = none
  n_tuple : mg "tuple" = none
  n_str : mg "str" = none
  n_list : mg "list" = none
section
variable {P : Program} {w : World} {K : PySem.W.Frag} {mg : Str → Option Value} {base : Heap}
abbrev st_inside : Stmt := top 1
abbrev nm_inside : List Str := ["net", "answers", "thing", "answer", "kind", "number"]
theorem sc_inside : FnScope nm_inside ["net", "answers", "thing"] (defScope st_inside) := ⟨rfl, rfl, rfl, by decide +kernel, rfl, by decide +kernel, by decide +kernel⟩
def inside_r1 : WS :=
  (wRet (wTup (wCons (wC (.str (PySem.Str.ofString "no"))) (wCons (wC (.int 0)) wNil))))
def inside_r2 : WS :=
  (wSeq (wIf (wB (w2 (cB bEq) (w2 pIx (wVar 3) (wC (.int 0))) (wC (.str (PySem.Str.ofString "thing"))))) (wSeq (wAsg (w2 pIx (w2 pIx (wVar 0) (wC (.int 1))) (w2 pIx (wVar 3) (wC (.int 1)))) (gT 2 (gC (gN 4) (gC (gN 5) gE))))
    (wIf (wB (w2 (cB bEq) (wVar 4) (wC (.str (PySem.Str.ofString "part"))))) (wRet (wTup (wCons (wC (.str (PySem.Str.ofString "to"))) (wCons (wVar 5) wNil)))) wNext)) wNext)
    inside_r1)
def inside_r3 : WS :=
  (wSeq (wAsg (w2 pIx (wVar 1) (wVar 5)) (gN 3))
    (wSeq (wIf (wB (w2 (cB bIs) (wVar 3) (wC .none))) (wRet (wTup (wCons (wC (.str (PySem.Str.ofString "open"))) (wCons (wVar 5) wNil)))) wNext)
    inside_r2))
def inside_r4 : WS :=
  (wSeq (wIf (wB (w2 (cB bEq) (wVar 4) (wC (.str (PySem.Str.ofString "plain"))))) (wRet (wTup (wCons (wC (.str (PySem.Str.ofString "no"))) (wCons (wC (.int 0)) wNil)))) wNext)
    inside_r3)
def ws_inside : WS :=
  (wSeq (wAsg (w2 pIx (w2 pIx (wVar 0) (wC (.int 1))) (wVar 2)) (gT 2 (gC (gN 4) (gC (gN 5) gE))))
    (wSeq (wIf (wB (w2 (cB bEq) (wVar 4) (wC (.str (PySem.Str.ofString "part"))))) (wRet (wTup (wCons (wC (.str (PySem.Str.ofString "to"))) (wCons (wVar 5) wNil)))) wNext)
    inside_r4))
theorem ok_inside {f : Addr} {fd : FuncData} {sp : Spc} (F : Fun K "inside" "inside" st_inside f fd) (T : Txt mg) (hl : ∀ ds S K KX, sp ds S K KX → ds.length = 3)
    (hs : ∀ ds S K KX, sp ds S K KX → ws_inside { nx := fun _ S1 => K (.z .none) S1, rt := K, ex := fun y _ S1 => KX y S1 } (startE nm_inside ds) S) : FnOk P w K mg base (L2.CX P w) 1 f fd ["net", "answers", "thing"] (spOf sp) := by
  have nd := sc_inside.nd
  refine fnpx F sc_inside hl (ws := ws_inside) (fun cdv A outer s H E B F0 hr tk hp => ?_) hs
  have hu := hu_px hr
  exact (bcons (xasg (xix (oIx hu) (xix (oIx hu) (xv 0) xint) (xv 2)) (xgt rfl (xgc (xgn 4 nd) (xgc (xgn 5 nd) xge))))
    (bcons (xif (xtcmp (oEq hu) (xv 4) xstr) (bone (xret (xtup (acons xstr (acons (xv 5) anil))))) bnil)
    (bcons (xif (xtcmp (oEq hu) (xv 4) xstr) (bone (xret (xtup (acons xstr (acons xint anil))))) bnil)
    (bcons (xasg (xix (oIx hu) (xv 1) (xv 5)) (xgn 3 nd))
    (bcons (xif (xtcmp oIs (xv 3) xnon) (bone (xret (xtup (acons xstr (acons (xv 5) anil))))) bnil)
    (bcons (xif (xtcmp (oEq hu) (xix (oIx hu) (xv 3) xint) xstr) (bcons (xasg (xix (oIx hu) (xix (oIx hu) (xv 0) xint) (xix (oIx hu) (xv 3) xint)) (xgt rfl (xgc (xgn 4 nd) (xgc (xgn 5 nd) xge))))
    (bone (xif (xtcmp (oEq hu) (xv 4) xstr) (bone (xret (xtup (acons xstr (acons (xv 5) anil))))) bnil))) bnil)
    (bone (xret (xtup (acons xstr (acons xint anil)))))))))))
abbrev st__law_cell_at : Stmt := top 3
abbrev nm__law_cell_at : List Str := ["_law_script", "_law_k"]
theorem sc__law_cell_at : FnScope nm__law_cell_at ["_law_script", "_law_k"] (defScope st__law_cell_at) := ⟨rfl, rfl, rfl, by decide +kernel, rfl, by decide +kernel, by decide +kernel⟩
def _law_cell_at_r1 : WS :=
  (wRet (wC (.int 0)))
def ws__law_cell_at : WS :=
  (wSeq (wIf (wB (w2 (cB bLt) (wVar 1) (wCall pLen (wCons (wVar 0) wNil)))) (wRet (w2 pIx (wVar 0) (wVar 1))) wNext)
    _law_cell_at_r1)
theorem ok__law_cell_at {f : Addr} {fd : FuncData} {sp : Spc} (F : Fun K "_law_cell_at" "_law_cell_at" st__law_cell_at f fd) (T : Txt mg) (hl : ∀ ds S K KX, sp ds S K KX → ds.length = 2)
    (hs : ∀ ds S K KX, sp ds S K KX → ws__law_cell_at { nx := fun _ S1 => K (.z .none) S1, rt := K, ex := fun y _ S1 => KX y S1 } (startE nm__law_cell_at ds) S) : FnOk P w K mg base (L2.CX P w) 1 f fd ["_law_script", "_law_k"] (spOf sp) := by
  have nd := sc__law_cell_at.nd
  refine fnpx F sc__law_cell_at hl (ws := ws__law_cell_at) (fun cdv A outer s H E B F0 hr tk hp => ?_) hs
  have hu := hu_px hr
  exact (bcons (xif (xtcmp oLt (xv 1) (xcallB oLen rfl T.n_len bb_len (acons (xv 0) anil))) (bone (xret (xix (oIx hu) (xv 0) (xv 1)))) bnil)
    (bone (xret xint)))
abbrev st__law_whole : Stmt := top 4
abbrev nm__law_whole : List Str := ["_law_found"]
theorem sc__law_whole : FnScope nm__law_whole ["_law_found"] (defScope st__law_whole) := ⟨rfl, rfl, rfl, by decide +kernel, rfl, by decide +kernel, by decide +kernel⟩
def ws__law_whole : WS :=
  (wRet (wAndV (wCall pIsi (wCons (wVar 0) (wCons (wTy .int) wNil))) (wNotV (wCall pIsi (wCons (wVar 0) (wCons (wTy .bool) wNil))))))
theorem ok__law_whole {f : Addr} {fd : FuncData} {sp : Spc} (F : Fun K "_law_whole" "_law_whole" st__law_whole f fd) (T : Txt mg) (hl : ∀ ds S K KX, sp ds S K KX → ds.length = 1)
    (hs : ∀ ds S K KX, sp ds S K KX → ws__law_whole { nx := fun _ S1 => K (.z .none) S1, rt := K, ex := fun y _ S1 => KX y S1 } (startE nm__law_whole ds) S) : FnOk P w K mg base (L2.CX P w) 1 f fd ["_law_found"] (spOf sp) := by
  have nd := sc__law_whole.nd
  refine fnpx F sc__law_whole hl (ws := ws__law_whole) (fun cdv A outer s H E B F0 hr tk hp => ?_) hs
  have hu := hu_px hr
  exact (bone (xret (xand (xcallB oIsi rfl T.n_isinstance bb_isinstance (acons (xv 0) (acons (xty (T := .int) rfl T.n_int bb_int) anil))) (xone (xnot (xcallB oIsi rfl T.n_isinstance bb_isinstance (acons (xv 0) (acons (xty (T := .bool) rfl T.n_bool bb_bool) anil))))))))
abbrev st__law_thing : Stmt := top 5
abbrev nm__law_thing : List Str := ["_law_cell", "_law_scopes", "_law_questions_here", "_law_number"]
theorem sc__law_thing : FnScope nm__law_thing ["_law_cell", "_law_scopes", "_law_questions_here"] (defScope st__law_thing) := ⟨rfl, rfl, rfl, by decide +kernel, rfl, by decide +kernel, by decide +kernel⟩
def _law_thing_r1 : WS :=
  (wRet (wTup (wCons (wC (.str (PySem.Str.ofString "plain"))) (wCons (wC (.int 0)) wNil))))
def _law_thing_r2 : WS :=
  (wSeq (wIf (wB (w2 (cB bEq) (w2 pMod (wVar 0) (wC (.int 3))) (wC (.int 1)))) (wRet (wTup (wCons (wC (.str (PySem.Str.ofString "sort"))) (wCons (w2 pMod (wVar 3) (wVar 2)) wNil)))) wNext)
    _law_thing_r1)
def ws__law_thing : WS :=
  (wSeq (wAsg (w2 pMod (w2 pMul (w2 pDiv (wVar 0) (wC (.int 3))) (wC (.int 48271))) (wC (.int 2147483647))) (gN 3))
    (wSeq (wIf (wB (w2 (cB bEq) (w2 pMod (wVar 0) (wC (.int 3))) (wC (.int 0)))) (wRet (wTup (wCons (wC (.str (PySem.Str.ofString "part"))) (wCons (w2 pMod (wVar 3) (wVar 1)) wNil)))) wNext)
    _law_thing_r2))
theorem ok__law_thing {f : Addr} {fd : FuncData} {sp : Spc} (F : Fun K "_law_thing" "_law_thing" st__law_thing f fd) (T : Txt mg) (hl : ∀ ds S K KX, sp ds S K KX → ds.length = 3)
    (hs : ∀ ds S K KX, sp ds S K KX → ws__law_thing { nx := fun _ S1 => K (.z .none) S1, rt := K, ex := fun y _ S1 => KX y S1 } (startE nm__law_thing ds) S) : FnOk P w K mg base (L2.CX P w) 1 f fd ["_law_cell", "_law_scopes", "_law_questions_here"] (spOf sp) := by
  have nd := sc__law_thing.nd
  refine fnpx F sc__law_thing hl (ws := ws__law_thing) (fun cdv A outer s H E B F0 hr tk hp => ?_) hs
  have hu := hu_px hr
  exact (bcons (xasg (xop oMod (xop oMul (xop oDiv (xv 0) xint) xint) xint) (xgn 3 nd))
    (bcons (xif (xtcmp (oEq hu) (xop oMod (xv 0) xint) xint) (bone (xret (xtup (acons xstr (acons (xop oMod (xv 3) (xv 1)) anil))))) bnil)
    (bcons (xif (xtcmp (oEq hu) (xop oMod (xv 0) xint) xint) (bone (xret (xtup (acons xstr (acons (xop oMod (xv 3) (xv 2)) anil))))) bnil)
    (bone (xret (xtup (acons xstr (acons xint anil))))))))
abbrev st__law_questions : Stmt := top 6
abbrev nm__law_questions : List Str := ["_law_cell", "_law_many", "_law_scopes", "_law_questions_here", "_law_k", "_law_names", "_law_j"]
theorem sc__law_questions : FnScope nm__law_questions ["_law_cell", "_law_many", "_law_scopes"] (defScope st__law_questions) := ⟨rfl, rfl, rfl, by decide +kernel, rfl, by decide +kernel, by decide +kernel⟩
def _law_questions_e1 : WE :=
  (w2 pMul (w2 pIx (wC (.str (PySem.Str.ofString "abcdefgh"))) (w2 pMod (w2 pAdd (wVar 0) (w2 pMul (wVar 4) (wVar 6))) (wC (.int 8)))) (w2 pAdd (wC (.int 1)) (w2 pMod (w2 pAdd (wVar 0) (wVar 6)) (wC (.int 8)))))
def _law_questions_b1 : WS :=
  (wSeq (wAsg (wLc (wRg1 (wCons (w2 pAdd (wC (.int 1)) (w2 pMod (w2 pAdd (wVar 0) (wVar 4)) (wC (.int 6)))) wNil)) (tgN 6) wYes _law_questions_e1 [6]) (gN 5))
    (wDrop (wMth .list pApp (wVar 3) (wCons (wTup (wCons (w2 pMod (w2 pAdd (wVar 0) (w2 pMul (wVar 4) (wVar 4))) (wVar 2)) (wCons (w2 pMod (w2 pAdd (wVar 0) (wVar 4)) (wC (.int 8))) (wCons (wCall pTuple (wCons (wVar 5) wNil)) wNil)))) wNil))))
def _law_questions_r1 : WS :=
  (wRet (wVar 3))
def ws__law_questions : WS :=
  (wSeq (wAsg (wLst wNil) (gN 3))
    (wSeq (wFor (wRg1 (wCons (wVar 1) wNil)) (gN 4) _law_questions_b1)
    _law_questions_r1))
theorem ok__law_questions {f : Addr} {fd : FuncData} {sp : Spc} (F : Fun K "_law_questions" "_law_questions" st__law_questions f fd) (T : Txt mg) (hl : ∀ ds S K KX, sp ds S K KX → ds.length = 3)
    (hs : ∀ ds S K KX, sp ds S K KX → ws__law_questions { nx := fun _ S1 => K (.z .none) S1, rt := K, ex := fun y _ S1 => KX y S1 } (startE nm__law_questions ds) S) : FnOk P w K mg base (L2.CX P w) 1 f fd ["_law_cell", "_law_many", "_law_scopes"] (spOf sp) := by
  have nd := sc__law_questions.nd
  refine fnpx F sc__law_questions hl (ws := ws__law_questions) (fun cdv A outer s H E B F0 hr tk hp => ?_) hs
  have hu := hu_px hr
  exact (bcons (xasg (xlst anil) (xgn 3 nd))
    (bcons (xfor hp rfl (xrg1 rfl T.n_range (acons (xv 1) anil)) (xgn 4 nd) (bcons (xsetLc (i := 5) (own := [("_law_j", 6)]) rfl nd rfl rfl (sw_true rfl rfl rfl (by decide +kernel)) (xrg1 rfl T.n_range (acons (xop oAdd xint (xop oMod (xop oAdd (xv 0) (xv 4)) xint)) anil)) (blkOk_by (N := nm__law_questions) (sc := defScope st__law_questions) (by decide +kernel)) (fun _ _ _ _ _ => pg_name (i := 6) nd rfl (Or.inl rfl)) tgok_name (fun _ _ _ _ _ => tsNil) (fun _ _ _ _ _ => (xop oMul (xix (oIx hu) xstr (xop oMod (xop oAdd (xv 0) (xop oMul (xv 4) (xv 6))) xint)) (xop oAdd xint (xop oMod (xop oAdd (xv 0) (xv 6)) xint)))))
    (bone (xexpr (xm1 (T := .list) PySem.F.plainAttrs_list PySem.F.slot_list_append PySem.F.type_list_append oApp (xv 3) (acons (xtup (acons (xop oMod (xop oAdd (xv 0) (xop oMul (xv 4) (xv 4))) (xv 2)) (acons (xop oMod (xop oAdd (xv 0) (xv 4)) xint) (acons (xcallT oTuple rfl T.n_tuple bb_tuple (acons (xv 5) anil)) anil)))) anil))))))
    (bone (xret (xv 3)))))
abbrev st__law_answers : Stmt := top 7
abbrev nm__law_answers : List Str := ["_law_cell", "_law_script", "_law_questions_here", "_law_things", "_law_answers_here", "_law_number", "_law_k"]
theorem sc__law_answers : FnScope nm__law_answers ["_law_cell", "_law_script", "_law_questions_here", "_law_things"] (defScope st__law_answers) := ⟨rfl, rfl, rfl, by decide +kernel, rfl, by decide +kernel, by decide +kernel⟩
def _law_answers_b1 (sp__law_cell_at : Spc) : WS :=
  (wSeq (wAsg (w2 pMod (w2 pAdd (w2 pAdd (w2 pMul (wVar 5) (wVar 5)) (w2 pMul (wC (.int 48271)) (wVar 5))) (wFn sp__law_cell_at [] (wCons (wVar 1) (wCons (w2 pAdd (wC (.int 3)) (wVar 6)) wNil)))) (wC (.int 2147483647))) (gN 5))
    (wIf (wB (w2 (cB bEq) (w2 pMod (wVar 5) (wC (.int 6))) (wC (.int 0)))) (wDrop (wMth .list pApp (wVar 4) (wCons (wC .none) wNil))) (wIf (wB (w2 (cB bLt) (w2 pMod (wVar 5) (wC (.int 6))) (wC (.int 3)))) (wDrop (wMth .list pApp (wVar 4) (wCons (wTup (wCons (w2 pIx (wLst (wCons (wC (.str (PySem.Str.ofString "none"))) (wCons (wC (.str (PySem.Str.ofString "torn"))) wNil))) (w2 pSub (w2 pMod (wVar 5) (wC (.int 6))) (wC (.int 1)))) (wCons (w2 pMod (w2 pDiv (wVar 5) (wC (.int 6))) (wCall pLen (wCons (w2 pIx (w2 pIx (wVar 2) (wVar 6)) (wC (.int 2))) wNil))) wNil))) wNil))) (wDrop (wMth .list pApp (wVar 4) (wCons (wTup (wCons (wC (.str (PySem.Str.ofString "thing"))) (wCons (w2 pMod (w2 pDiv (wVar 5) (wC (.int 6))) (wVar 3)) wNil))) wNil))))))
def _law_answers_r1 : WS :=
  (wRet (wVar 4))
def ws__law_answers (sp__law_cell_at : Spc) : WS :=
  (wSeq (wAsg (wLst wNil) (gN 4))
    (wSeq (wAsg (w2 pAdd (w2 pMod (wVar 0) (wC (.int 2147483629))) (wC (.int 1))) (gN 5))
    (wSeq (wFor (wRg1 (wCons (wCall pLen (wCons (wVar 2) wNil)) wNil)) (gN 6) (_law_answers_b1 sp__law_cell_at))
    _law_answers_r1)))
theorem ok__law_answers {f : Addr} {fd : FuncData} {sp : Spc} {sp__law_cell_at : Spc} (F : Fun K "_law_answers" "_law_answers" st__law_answers f fd) (T : Txt mg) (c__law_cell_at : Fc P w K mg base "_law_cell_at" 1 ["_law_script", "_law_k"] sp__law_cell_at) (hl : ∀ ds S K KX, sp ds S K KX → ds.length = 4)
    (hs : ∀ ds S K KX, sp ds S K KX → ws__law_answers sp__law_cell_at { nx := fun _ S1 => K (.z .none) S1, rt := K, ex := fun y _ S1 => KX y S1 } (startE nm__law_answers ds) S) : FnOk P w K mg base (L2.CX P w) 2 f fd ["_law_cell", "_law_script", "_law_questions_here", "_law_things"] (spOf sp) := by
  have nd := sc__law_answers.nd
  refine fnpx F sc__law_answers hl (ws := ws__law_answers sp__law_cell_at) (fun cdv A outer s H E B F0 hr tk hp => ?_) hs
  have hu := hu_px hr
  exact (bcons (xasg (xlst anil) (xgn 4 nd))
    (bcons (xasg (xop oAdd (xop oMod (xv 0) xint) xint) (xgn 5 nd))
    (bcons (xfor hp rfl (xrg1 rfl T.n_range (acons (xcallB oLen rfl T.n_len bb_len (acons (xv 2) anil)) anil)) (xgn 6 nd) (bcons (xasg (xop oMod (xop oAdd (xop oAdd (xop oMul (xv 5) (xv 5)) (xop oMul xint (xv 5))) (xfc c__law_cell_at (hr.mono (by decide)) tk rfl (acons (xv 1) (acons (xop oAdd xint (xv 6)) anil)))) xint) (xgn 5 nd))
    (bone (xif (xtcmp (oEq hu) (xop oMod (xv 5) xint) xint) (bone (xexpr (xm1 (T := .list) PySem.F.plainAttrs_list PySem.F.slot_list_append PySem.F.type_list_append oApp (xv 4) (acons xnon anil)))) (bone (xif (xtcmp oLt (xop oMod (xv 5) xint) xint) (bone (xexpr (xm1 (T := .list) PySem.F.plainAttrs_list PySem.F.slot_list_append PySem.F.type_list_append oApp (xv 4) (acons (xtup (acons (xix (oIx hu) (xlst (acons xstr (acons xstr anil))) (xop oSub (xop oMod (xv 5) xint) xint)) (acons (xop oMod (xop oDiv (xv 5) xint) (xcallB oLen rfl T.n_len bb_len (acons (xix (oIx hu) (xix (oIx hu) (xv 2) (xv 6)) xint) anil))) anil))) anil)))) (bone (xexpr (xm1 (T := .list) PySem.F.plainAttrs_list PySem.F.slot_list_append PySem.F.type_list_append oApp (xv 4) (acons (xtup (acons xstr (acons (xop oMod (xop oDiv (xv 5) xint) (xv 3)) anil))) anil))))))))))
    (bone (xret (xv 4))))))
abbrev st__law_inside : Stmt := top 8
abbrev nm__law_inside : List Str := ["_law_net", "_law_answers_here", "_law_number", "_law_thing_here", "_law_answer"]
theorem sc__law_inside : FnScope nm__law_inside ["_law_net", "_law_answers_here", "_law_number"] (defScope st__law_inside) := ⟨rfl, rfl, rfl, by decide +kernel, rfl, by decide +kernel, by decide +kernel⟩
def _law_inside_r1 : WS :=
  (wRet (wTup (wCons (wC (.str (PySem.Str.ofString "no"))) (wCons (wC (.int 0)) wNil))))
def _law_inside_r2 : WS :=
  (wSeq (wIf (wB (w2 (cB bEq) (w2 pIx (wVar 3) (wC (.int 0))) (wC (.str (PySem.Str.ofString "sort"))))) (wSeq (wAsg (w2 pIx (wVar 1) (w2 pIx (wVar 3) (wC (.int 1)))) (gN 4))
    (wSeq (wIf (wB (w2 (cB bIs) (wVar 4) (wC .none))) (wRet (wTup (wCons (wC (.str (PySem.Str.ofString "open"))) (wCons (w2 pIx (wVar 3) (wC (.int 1))) wNil)))) wNext)
    (wIf (wAnd (wB (w2 (cB bEq) (w2 pIx (wVar 4) (wC (.int 0))) (wC (.str (PySem.Str.ofString "thing"))))) (wB (w2 (cB bEq) (w2 pIx (w2 pIx (w2 pIx (wVar 0) (wC (.int 1))) (w2 pIx (wVar 4) (wC (.int 1)))) (wC (.int 0))) (wC (.str (PySem.Str.ofString "part")))))) (wRet (wTup (wCons (wC (.str (PySem.Str.ofString "to"))) (wCons (w2 pIx (w2 pIx (w2 pIx (wVar 0) (wC (.int 1))) (w2 pIx (wVar 4) (wC (.int 1)))) (wC (.int 1))) wNil)))) wNext))) wNext)
    _law_inside_r1)
def ws__law_inside : WS :=
  (wSeq (wAsg (w2 pIx (w2 pIx (wVar 0) (wC (.int 1))) (wVar 2)) (gN 3))
    (wSeq (wIf (wB (w2 (cB bEq) (w2 pIx (wVar 3) (wC (.int 0))) (wC (.str (PySem.Str.ofString "part"))))) (wRet (wTup (wCons (wC (.str (PySem.Str.ofString "to"))) (wCons (w2 pIx (wVar 3) (wC (.int 1))) wNil)))) wNext)
    _law_inside_r2))
theorem ok__law_inside {f : Addr} {fd : FuncData} {sp : Spc} (F : Fun K "_law_inside" "_law_inside" st__law_inside f fd) (T : Txt mg) (hl : ∀ ds S K KX, sp ds S K KX → ds.length = 3)
    (hs : ∀ ds S K KX, sp ds S K KX → ws__law_inside { nx := fun _ S1 => K (.z .none) S1, rt := K, ex := fun y _ S1 => KX y S1 } (startE nm__law_inside ds) S) : FnOk P w K mg base (L2.CX P w) 1 f fd ["_law_net", "_law_answers_here", "_law_number"] (spOf sp) := by
  have nd := sc__law_inside.nd
  refine fnpx F sc__law_inside hl (ws := ws__law_inside) (fun cdv A outer s H E B F0 hr tk hp => ?_) hs
  have hu := hu_px hr
  exact (bcons (xasg (xix (oIx hu) (xix (oIx hu) (xv 0) xint) (xv 2)) (xgn 3 nd))
    (bcons (xif (xtcmp (oEq hu) (xix (oIx hu) (xv 3) xint) xstr) (bone (xret (xtup (acons xstr (acons (xix (oIx hu) (xv 3) xint) anil))))) bnil)
    (bcons (xif (xtcmp (oEq hu) (xix (oIx hu) (xv 3) xint) xstr) (bcons (xasg (xix (oIx hu) (xv 1) (xix (oIx hu) (xv 3) xint)) (xgn 4 nd))
    (bcons (xif (xtcmp oIs (xv 4) xnon) (bone (xret (xtup (acons xstr (acons (xix (oIx hu) (xv 3) xint) anil))))) bnil)
    (bone (xif (xtw (yand (xtcmp (oEq hu) (xix (oIx hu) (xv 4) xint) xstr) (yand1 (xtcmp (oEq hu) (xix (oIx hu) (xix (oIx hu) (xix (oIx hu) (xv 0) xint) (xix (oIx hu) (xv 4) xint)) xint) xstr)))) (bone (xret (xtup (acons xstr (acons (xix (oIx hu) (xix (oIx hu) (xix (oIx hu) (xv 0) xint) (xix (oIx hu) (xv 4) xint)) xint) anil))))) bnil)))) bnil)
    (bone (xret (xtup (acons xstr (acons xint anil))))))))
abbrev st__law_told : Stmt := top 9
abbrev nm__law_told : List Str := ["_law_found", "_law_due"]
theorem sc__law_told : FnScope nm__law_told ["_law_found", "_law_due"] (defScope st__law_told) := ⟨rfl, rfl, rfl, by decide +kernel, rfl, by decide +kernel, by decide +kernel⟩
def _law_told_r1 (sp__law_whole : Spc) : WS :=
  (wRet (wAndV (wCall pIsi (wCons (w2 pIx (wVar 0) (wC (.int 0))) (wCons (wTy .str) wNil))) (wAndV (wFn sp__law_whole [] (wCons (w2 pIx (wVar 0) (wC (.int 1))) wNil)) (w2 (cB bEq) (wVar 0) (wVar 1)))))
def ws__law_told (sp__law_whole : Spc) : WS :=
  (wSeq (wIf (wOr (wNot (wB (wCall pIsi (wCons (wVar 0) (wCons (wTy .tuple) wNil))))) (wB (w2 (cB bNe) (wCall pLen (wCons (wVar 0) wNil)) (wC (.int 2))))) (wRet (wC (.bool false))) wNext)
    (_law_told_r1 sp__law_whole))
theorem ok__law_told {f : Addr} {fd : FuncData} {sp : Spc} {sp__law_whole : Spc} (F : Fun K "_law_told" "_law_told" st__law_told f fd) (T : Txt mg) (c__law_whole : Fc P w K mg base "_law_whole" 1 ["_law_found"] sp__law_whole) (hl : ∀ ds S K KX, sp ds S K KX → ds.length = 2)
    (hs : ∀ ds S K KX, sp ds S K KX → ws__law_told sp__law_whole { nx := fun _ S1 => K (.z .none) S1, rt := K, ex := fun y _ S1 => KX y S1 } (startE nm__law_told ds) S) : FnOk P w K mg base (L2.CX P w) 2 f fd ["_law_found", "_law_due"] (spOf sp) := by
  have nd := sc__law_told.nd
  refine fnpx F sc__law_told hl (ws := ws__law_told sp__law_whole) (fun cdv A outer s H E B F0 hr tk hp => ?_) hs
  have hu := hu_px hr
  exact (bcons (xif (xtw (yor (xtnot (xtv (xcallB oIsi rfl T.n_isinstance bb_isinstance (acons (xv 0) (acons (xty (T := .tuple) rfl T.n_tuple bb_tuple) anil))))) (yor1 (xtcmp (oNe hu) (xcallB oLen rfl T.n_len bb_len (acons (xv 0) anil)) xint)))) (bone (xret xbl)) bnil)
    (bone (xret (xand (xcallB oIsi rfl T.n_isinstance bb_isinstance (acons (xix (oIx hu) (xv 0) xint) (acons (xty (T := .str) rfl T.n_str bb_str) anil))) (xand (xfc c__law_whole (hr.mono (by decide)) tk rfl (acons (xix (oIx hu) (xv 0) xint) anil)) (xone (xcmp (oEq hu) (xv 0) (xv 1))))))))
abbrev st_law : Stmt := top 10
abbrev nm_law : List Str := ["_law_script", "_law_scopes", "_law_questions_here", "_law_things", "_law_net", "_law_kept", "_law_one", "_law_other", "_law_held", "_law_number", "_law_k", "_law_cell"]
theorem sc_law : FnScope nm_law ["_law_script"] (defScope st_law) := ⟨rfl, rfl, rfl, by decide +kernel, rfl, by decide +kernel, by decide +kernel⟩
def law_e1 (sp__law_thing : Spc) : WE :=
  (wFn sp__law_thing [] (wCons (wVar 11) (wCons (wVar 1) (wCons (wCall pLen (wCons (wVar 2) wNil)) wNil))))
def law_e2 : WE :=
  (wTup (wCons (wLst wNil) (wCons (wLst wNil) wNil)))
def law_e3 : WE :=
  (wTup (wCons (wLst wNil) (wCons (wLst wNil) wNil)))
def law_b1 (sp__law_inside : Spc) (sp_inside : Spc) (sp__law_told : Spc) : WS :=
  (wSeq (wIf (wNot (wB (wFn sp__law_told [] (wCons (wFn sp_inside [] (wCons (wVar 4) (wCons (wVar 6) (wCons (wVar 9) wNil)))) (wCons (wFn sp__law_inside [] (wCons (wVar 5) (wCons (w2 pIx (wVar 8) (wC (.int 0))) (wCons (wVar 9) wNil)))) wNil))))) (wRet (wC (.bool false))) wNext)
    (wIf (wNot (wB (wFn sp__law_told [] (wCons (wFn sp_inside [] (wCons (wVar 4) (wCons (wVar 7) (wCons (wVar 9) wNil)))) (wCons (wFn sp__law_inside [] (wCons (wVar 5) (wCons (w2 pIx (wVar 8) (wC (.int 1))) (wCons (wVar 9) wNil)))) wNil))))) (wRet (wC (.bool false))) wNext))
def law_b2 : WS :=
  (wAsg (w2 pIx (wVar 7) (wVar 10)) (gS (wVar 6) (wVar 10)))
def law_b3 (sp__law_inside : Spc) (sp_inside : Spc) (sp__law_told : Spc) : WS :=
  (wIf (wNot (wB (wFn sp__law_told [] (wCons (wFn sp_inside [] (wCons (wVar 4) (wCons (wVar 6) (wCons (wVar 9) wNil)))) (wCons (wFn sp__law_inside [] (wCons (wVar 5) (wCons (w2 pIx (wVar 8) (wC (.int 1))) (wCons (wVar 9) wNil)))) wNil))))) (wRet (wC (.bool false))) wNext)
def law_r1 : WS :=
  (wRet (wAndV (w2 (cB bEq) (wVar 4) (wVar 5)) (w2 (cB bEq) (wVar 6) (wVar 7))))
def law_r2 (sp__law_inside : Spc) (sp_inside : Spc) (sp__law_told : Spc) : WS :=
  (wSeq (wFor (wRg1 (wCons (wCall pLen (wCons (wVar 3) wNil)) wNil)) (gN 9) (law_b3 sp__law_inside sp_inside sp__law_told))
    law_r1)
def law_r3 (sp__law_inside : Spc) (sp_inside : Spc) (sp__law_told : Spc) : WS :=
  (wSeq (wFor (wRg1 (wCons (wCall pLen (wCons (wVar 6) wNil)) wNil)) (gN 10) law_b2)
    (law_r2 sp__law_inside sp_inside sp__law_told))
def law_r4 (sp__law_inside : Spc) (sp_inside : Spc) (sp__law_told : Spc) : WS :=
  (wSeq (wIf (wOr (wB (w2 (cB bNe) (wVar 4) (wVar 5))) (wOr (wB (w2 (cB bNe) (wVar 6) (w2 pIx (wVar 8) (wC (.int 0))))) (wB (w2 (cB bNe) (wVar 7) (w2 pIx (wVar 8) (wC (.int 1))))))) (wRet (wC (.bool false))) wNext)
    (law_r3 sp__law_inside sp_inside sp__law_told))
def law_r5 (sp__law_cell_at : Spc) (sp__law_answers : Spc) (sp__law_inside : Spc) (sp_inside : Spc) (sp__law_told : Spc) : WS :=
  (wSeq (wAsg (wTup (wCons (wLc (wRg1 (wCons (wVar 1) wNil)) (tgN 10) wYes law_e2 [10]) (wCons (wVar 3) (wCons (wVar 2) wNil)))) (gN 4))
    (wSeq (wAsg (wTup (wCons (wLc (wRg1 (wCons (wVar 1) wNil)) (tgN 10) wYes law_e3 [10]) (wCons (wCall pList (wCons (wVar 3) wNil)) (wCons (wCall pList (wCons (wVar 2) wNil)) wNil)))) (gN 5))
    (wSeq (wAsg (wFn sp__law_answers [] (wCons (w2 pDiv (wFn sp__law_cell_at [] (wCons (wVar 0) (wCons (wC (.int 0)) wNil))) (wC (.int 40))) (wCons (wVar 0) (wCons (wVar 2) (wCons (wCall pLen (wCons (wVar 3) wNil)) wNil))))) (gN 6))
    (wSeq (wAsg (wFn sp__law_answers [] (wCons (w2 pDiv (wFn sp__law_cell_at [] (wCons (wVar 0) (wCons (wC (.int 2)) wNil))) (wC (.int 60))) (wCons (wVar 0) (wCons (wVar 2) (wCons (wCall pLen (wCons (wVar 3) wNil)) wNil))))) (gN 7))
    (wSeq (wAsg (wLst (wCons (wCall pList (wCons (wVar 6) wNil)) (wCons (wCall pList (wCons (wVar 7) wNil)) wNil))) (gN 8))
    (wSeq (wFor (wRg1 (wCons (wCall pLen (wCons (wVar 3) wNil)) wNil)) (gN 9) (law_b1 sp__law_inside sp_inside sp__law_told))
    (law_r4 sp__law_inside sp_inside sp__law_told)))))))
def ws_law (sp__law_cell_at : Spc) (sp__law_questions : Spc) (sp__law_thing : Spc) (sp__law_answers : Spc) (sp__law_inside : Spc) (sp_inside : Spc) (sp__law_told : Spc) : WS :=
  (wSeq (wAsg (w2 pAdd (wC (.int 1)) (w2 pMod (wFn sp__law_cell_at [] (wCons (wVar 0) (wCons (wC (.int 0)) wNil))) (wC (.int 40)))) (gN 1))
    (wSeq (wAsg (wFn sp__law_questions [] (wCons (w2 pMod (wFn sp__law_cell_at [] (wCons (wVar 0) (wCons (wC (.int 1)) wNil))) (wC (.int 1009))) (wCons (w2 pAdd (wC (.int 1)) (w2 pMod (wFn sp__law_cell_at [] (wCons (wVar 0) (wCons (wC (.int 2)) wNil))) (wC (.int 60)))) (wCons (wVar 1) wNil)))) (gN 2))
    (wSeq (wAsg (wLc (wIt (wSl pSl (wVar 0) (wPart (wC (.int 3))) (wPart (wC (.int 83))))) (tgN 11) wYes (law_e1 sp__law_thing) [11]) (gN 3))
    (wSeq (wIf (wB (w2 (cB bEq) (wVar 3) (wLst wNil))) (wAsg (wLst (wCons (wTup (wCons (wC (.str (PySem.Str.ofString "part"))) (wCons (w2 pSub (wVar 1) (wC (.int 1))) wNil))) wNil)) (gN 3)) wNext)
    (law_r5 sp__law_cell_at sp__law_answers sp__law_inside sp_inside sp__law_told)))))
theorem ok_law {f : Addr} {fd : FuncData} {sp : Spc} {sp__law_cell_at : Spc} {sp__law_questions : Spc} {sp__law_thing : Spc} {sp__law_answers : Spc} {sp__law_inside : Spc} {sp_inside : Spc} {sp__law_told : Spc} (F : Fun K "law" "law" st_law f fd) (T : Txt mg) (c__law_cell_at : Fc P w K mg base "_law_cell_at" 1 ["_law_script", "_law_k"] sp__law_cell_at) (c__law_questions : Fc P w K mg base "_law_questions" 1 ["_law_cell", "_law_many", "_law_scopes"] sp__law_questions) (c__law_thing : Fc P w K mg base "_law_thing" 1 ["_law_cell", "_law_scopes", "_law_questions_here"] sp__law_thing) (c__law_answers : Fc P w K mg base "_law_answers" 2 ["_law_cell", "_law_script", "_law_questions_here", "_law_things"] sp__law_answers) (c__law_inside : Fc P w K mg base "_law_inside" 1 ["_law_net", "_law_answers_here", "_law_number"] sp__law_inside) (c_inside : Fc P w K mg base "inside" 1 ["net", "answers", "thing"] sp_inside) (c__law_told : Fc P w K mg base "_law_told" 2 ["_law_found", "_law_due"] sp__law_told) (hl : ∀ ds S K KX, sp ds S K KX → ds.length = 1)
    (hs : ∀ ds S K KX, sp ds S K KX → ws_law sp__law_cell_at sp__law_questions sp__law_thing sp__law_answers sp__law_inside sp_inside sp__law_told { nx := fun _ S1 => K (.z .none) S1, rt := K, ex := fun y _ S1 => KX y S1 } (startE nm_law ds) S) : FnOk P w K mg base (L2.CX P w) 3 f fd ["_law_script"] (spOf sp) := by
  have nd := sc_law.nd
  refine fnpx F sc_law hl (ws := ws_law sp__law_cell_at sp__law_questions sp__law_thing sp__law_answers sp__law_inside sp_inside sp__law_told) (fun cdv A outer s H E B F0 hr tk hp => ?_) hs
  have hu := hu_px hr
  exact (bcons (xasg (xop oAdd xint (xop oMod (xfc c__law_cell_at (hr.mono (by decide)) tk rfl (acons (xv 0) (acons xint anil))) xint)) (xgn 1 nd))
    (bcons (xasg (xfc c__law_questions (hr.mono (by decide)) tk rfl (acons (xop oMod (xfc c__law_cell_at (hr.mono (by decide)) tk rfl (acons (xv 0) (acons xint anil))) xint) (acons (xop oAdd xint (xop oMod (xfc c__law_cell_at (hr.mono (by decide)) tk rfl (acons (xv 0) (acons xint anil))) xint)) (acons (xv 1) anil)))) (xgn 2 nd))
    (bcons (xsetLc (i := 3) (own := [("_law_cell", 11)]) rfl nd rfl rfl (sw_true rfl rfl rfl (by decide +kernel)) (xit (xsl oSl (xv 0) (osome xint) (osome xint))) (blkOk_by (N := nm_law) (sc := defScope st_law) (by decide +kernel)) (fun _ _ _ _ _ => pg_name (i := 11) nd rfl (Or.inl rfl)) tgok_name (fun _ _ _ _ _ => tsNil) (fun _ _ _ _ _ => (xfc c__law_thing (hr.mono (by decide)) takes0 rfl (acons (xv 11) (acons (xv 1) (acons (xcallB oLen rfl T.n_len bb_len (acons (xv 2) anil)) anil))))))
    (bcons (xif (xtcmp (oEq hu) (xv 3) (xlst anil)) (bone (xasg (xlst (acons (xtup (acons xstr (acons (xop oSub (xv 1) xint) anil))) anil)) (xgn 3 nd))) bnil)
    (bcons (xasg (xtup (acons (xlc (own := [("_law_k", 10)]) rfl nd (xrg1 rfl T.n_range (acons (xv 1) anil)) (blkOk_by (N := nm_law) (sc := defScope st_law) (by decide +kernel)) (fun _ _ _ _ _ => pg_name (i := 10) nd rfl (Or.inl rfl)) tgok_name (fun _ _ _ _ _ => tsNil) (fun _ _ _ _ _ => (xtup (acons (xlst anil) (acons (xlst anil) anil))))) (acons (xv 3) (acons (xv 2) anil)))) (xgn 4 nd))
    (bcons (xasg (xtup (acons (xlc (own := [("_law_k", 10)]) rfl nd (xrg1 rfl T.n_range (acons (xv 1) anil)) (blkOk_by (N := nm_law) (sc := defScope st_law) (by decide +kernel)) (fun _ _ _ _ _ => pg_name (i := 10) nd rfl (Or.inl rfl)) tgok_name (fun _ _ _ _ _ => tsNil) (fun _ _ _ _ _ => (xtup (acons (xlst anil) (acons (xlst anil) anil))))) (acons (xcallT oList rfl T.n_list bb_list (acons (xv 3) anil)) (acons (xcallT oList rfl T.n_list bb_list (acons (xv 2) anil)) anil)))) (xgn 5 nd))
    (bcons (xasg (xfc c__law_answers (hr.mono (by decide)) tk rfl (acons (xop oDiv (xfc c__law_cell_at (hr.mono (by decide)) tk rfl (acons (xv 0) (acons xint anil))) xint) (acons (xv 0) (acons (xv 2) (acons (xcallB oLen rfl T.n_len bb_len (acons (xv 3) anil)) anil))))) (xgn 6 nd))
    (bcons (xasg (xfc c__law_answers (hr.mono (by decide)) tk rfl (acons (xop oDiv (xfc c__law_cell_at (hr.mono (by decide)) tk rfl (acons (xv 0) (acons xint anil))) xint) (acons (xv 0) (acons (xv 2) (acons (xcallB oLen rfl T.n_len bb_len (acons (xv 3) anil)) anil))))) (xgn 7 nd))
    (bcons (xasg (xlst (acons (xcallT oList rfl T.n_list bb_list (acons (xv 6) anil)) (acons (xcallT oList rfl T.n_list bb_list (acons (xv 7) anil)) anil))) (xgn 8 nd))
    (bcons (xfor hp rfl (xrg1 rfl T.n_range (acons (xcallB oLen rfl T.n_len bb_len (acons (xv 3) anil)) anil)) (xgn 9 nd) (bcons (xif (xtnot (xtv (xfc c__law_told (hr.mono (by decide)) tk rfl (acons (xfc c_inside (hr.mono (by decide)) tk rfl (acons (xv 4) (acons (xv 6) (acons (xv 9) anil)))) (acons (xfc c__law_inside (hr.mono (by decide)) tk rfl (acons (xv 5) (acons (xix (oIx hu) (xv 8) xint) (acons (xv 9) anil)))) anil))))) (bone (xret xbl)) bnil)
    (bone (xif (xtnot (xtv (xfc c__law_told (hr.mono (by decide)) tk rfl (acons (xfc c_inside (hr.mono (by decide)) tk rfl (acons (xv 4) (acons (xv 7) (acons (xv 9) anil)))) (acons (xfc c__law_inside (hr.mono (by decide)) tk rfl (acons (xv 5) (acons (xix (oIx hu) (xv 8) xint) (acons (xv 9) anil)))) anil))))) (bone (xret xbl)) bnil))))
    (bcons (xif (xtw (yor (xtcmp (oNe hu) (xv 4) (xv 5)) (yor (xtcmp (oNe hu) (xv 6) (xix (oIx hu) (xv 8) xint)) (yor1 (xtcmp (oNe hu) (xv 7) (xix (oIx hu) (xv 8) xint)))))) (bone (xret xbl)) bnil)
    (bcons (xfor hp rfl (xrg1 rfl T.n_range (acons (xcallB oLen rfl T.n_len bb_len (acons (xv 6) anil)) anil)) (xgn 10 nd) (bone (xasg (xix (oIx hu) (xv 7) (xv 10)) (xgs (W := W0) hu (xv 6) (xv 10)))))
    (bcons (xfor hp rfl (xrg1 rfl T.n_range (acons (xcallB oLen rfl T.n_len bb_len (acons (xv 3) anil)) anil)) (xgn 9 nd) (bone (xif (xtnot (xtv (xfc c__law_told (hr.mono (by decide)) tk rfl (acons (xfc c_inside (hr.mono (by decide)) tk rfl (acons (xv 4) (acons (xv 6) (acons (xv 9) anil)))) (acons (xfc c__law_inside (hr.mono (by decide)) tk rfl (acons (xv 5) (acons (xix (oIx hu) (xv 8) xint) (acons (xv 9) anil)))) anil))))) (bone (xret xbl)) bnil)))
    (bone (xret (xand (xcmp (oEq hu) (xv 4) (xv 5)) (xone (xcmp (oEq hu) (xv 6) (xv 7)))))))))))))))))))
end
end K10

set_option Elab.async false
set_option linter.all false
set_option maxRecDepth 100000
namespace K10
open PySem L2 PL ND
local macro_rules | `(tactic| walk_at "go") => `(tactic| ((try (conv => whnf)); repeat ((first | refine pGet.mk rfl ?_ | refine pReq.mk (sz_le rfl) ?_ | refine pReq.mk (sz_lt rfl) ?_ | refine pReq.mk (by decide) ?_ | refine pIf.tt rfl ?_ | refine pIf.ff rfl ?_); (try (conv => whnf)))))
structure AIn where
  net : Net
  ans : List Ans
  t : Int
def F_inside : Fsp := fsp (fun a : AIn => [eNet a.net, eAnss a.ans, .int a.t]) (fun a => InOk a.net a.ans ∧ 0 ≤ a.t ∧ a.t < a.net.things.length) fun a => eGoal (inside a.net a.ans a.t)
theorem pu_inside : ∀ ds S K KX, lent F_inside ds S K KX → ws_inside { nx := fun _ S1 => K (.z .none) S1, rt := K, ex := fun y _ S1 => KX y S1 } (startE nm_inside ds) S := by
  refine fsp_ok fun a ⟨hok, ht⟩ K KX hk => ?_
  walk_at "go"
  refine pGet.mk (ixD_bL (getI_at (d := .plain) ht)) ?_
  have hm := getI_mem (d := Thing.plain) ht
  unfold inside at hk
  cases hth : getI a.net.things .plain a.t with
  | plain => rw [hth] at hk; walk_at "go"; exact hk _ _ .z
  | part s => rw [hth] at hk; walk_at "go"; exact hk _ _ .z
  | sort q =>
    rw [hth] at hk hm
    have hq := hok.sort q hm
    walk_at "go"
    refine pGet.mk (ixD_bL (getI_at (d := .opn) hq)) ?_
    have hm2 := getI_mem (d := Ans.opn) hq
    dsimp only at hk
    cases ha : getI a.ans .opn q with
    | opn => rw [ha] at hk; walk_at "go"; exact hk _ _ .z
    | none_ x => rw [ha] at hk; walk_at "go"; exact hk _ _ .z
    | torn x => rw [ha] at hk; walk_at "go"; exact hk _ _ .z
    | thing t2 =>
      rw [ha] at hk hm2
      have ht2 := hok.ans t2 hm2
      walk_at "go"
      refine pGet.mk (ixD_bL (getI_at (d := .plain) ht2)) ?_
      dsimp only at hk
      cases h3 : getI a.net.things .plain t2 with
      | plain => rw [h3] at hk; walk_at "go"; exact hk _ _ .z
      | part s => rw [h3] at hk; walk_at "go"; exact hk _ _ .z
      | sort q => rw [h3] at hk; walk_at "go"; exact hk _ _ .z
end K10

set_option Elab.async false
set_option linter.all false
set_option maxRecDepth 100000
namespace K10
open PySem L2 PL ND
local macro_rules | `(tactic| walk_at "go") => `(tactic| ((try (conv => whnf)); repeat ((first | refine pGet.mk rfl ?_ | refine pReq.mk rfl ?_ | refine pReq.mk (sz_le rfl) ?_ | refine pReq.mk (sz_lt rfl) ?_ | refine pReq.mk (by decide) ?_ | refine pReq.mk (Or.inr (by decide)) ?_ | refine pReq.mk (Or.inl (by decide)) ?_ | refine pIf.tt rfl ?_ | refine pIf.ff rfl ?_ | refine pReq.mk (by assumption) ?_ | refine pReq.mk (by omega) ?_ | refine pReq.mk (sz_lt6 (by simp only [List.length_map, List.length_range, List.length_append, List.length_cons, List.length_nil]; omega)) ?_ | refine pReq.mk (sz_le6 (by simp only [List.length_map, List.length_range, List.length_append, List.length_cons, List.length_nil]; omega)) ?_); (try (conv => whnf)))))
def cellAt (ns : List Int) (k : Int) : Int := ns.getD k.toNat 0
def F_cell : Fsp := fsp (fun a : List Int × Int => [.list (a.1.map .int), .int a.2]) (fun a => 0 ≤ a.2) fun a => .int (cellAt a.1 a.2)
theorem pu_cell : ∀ ds S K KX, lent F_cell ds S K KX → ws__law_cell_at { nx := fun _ S1 => K (.z .none) S1, rt := K, ex := fun y _ S1 => KX y S1 } (startE nm__law_cell_at ds) S := by
  refine fsp_ok fun a h0 K KX hk => ?_
  walk_at "go"
  rw [List.length_map]
  refine pIf.mk (fun c => ?_) (fun c => ?_)
  · have h1 : a.2 < a.1.length := of_decide_eq_true c
    walk_at "go"
    refine pGet.mk (ixD_bL (atD_in h0 h1)) ?_
    walk_at "go"
    refine hk _ _ ?_
    have e : cellAt a.1 a.2 = a.1[a.2.toNat]'(by omega) := by
      unfold cellAt
      rw [List.getD_eq_getElem?_getD, List.getElem?_eq_getElem (by omega)]; rfl
    rw [e]; exact .z
  · have h1 : ¬ a.2 < a.1.length := of_decide_eq_false c
    walk_at "go"
    refine hk _ _ ?_
    have e : cellAt a.1 a.2 = 0 := by
      unfold cellAt
      rw [List.getD_eq_getElem?_getD, List.getElem?_eq_none (by omega)]; rfl
    rw [e]; exact .z
def F_whole : Fsp := fsp (fun a : PyData => [a]) (fun a => ∃ i, a = .int i) fun a => .bool true
theorem pu_whole : ∀ ds S K KX, lent F_whole ds S K KX → ws__law_whole { nx := fun _ S1 => K (.z .none) S1, rt := K, ex := fun y _ S1 => KX y S1 } (startE nm__law_whole ds) S := by
  refine fsp_ok fun a h0 K KX hk => ?_
  obtain ⟨i, rfl⟩ := h0
  walk_at "go"
  exact hk _ _ .z
/-- a drawn thing -/
def thingBy (cell scopes asked : Int) : Thing :=
  let n := (cell.fdiv 3 * 48271).fmod 2147483647
  if cell.fmod 3 = 0 then .part (n.fmod scopes) else if cell.fmod 3 = 1 then .sort (n.fmod asked) else .plain
def F_thing : Fsp := fsp (fun a : Int × Int × Int => [.int a.1, .int a.2.1, .int a.2.2]) (fun a => 0 < a.2.1 ∧ 0 < a.2.2) fun a => eThing (thingBy a.1 a.2.1 a.2.2)
theorem pu_thing : ∀ ds S K KX, lent F_thing ds S K KX → ws__law_thing { nx := fun _ S1 => K (.z .none) S1, rt := K, ex := fun y _ S1 => KX y S1 } (startE nm__law_thing ds) S := by
  refine fsp_ok fun ⟨c, s, q⟩ ⟨h1, h2⟩ K KX hk => ?_
  have h3 : s ≠ 0 := by simp only at h1; omega
  have h4 : q ≠ 0 := by simp only at h2; omega
  unfold thingBy at hk
  dsimp only at hk
  walk_at "go"
  refine pIf.mk (fun c1 => ?_) (fun c1 => ?_)
  · rw [if_pos (of_decide_eq_true c1)] at hk
    walk_at "go"
    exact hk _ _ .z
  · rw [if_neg (of_decide_eq_false c1)] at hk
    walk_at "go"
    refine pIf.mk (fun c2 => ?_) (fun c2 => ?_)
    · rw [if_pos (of_decide_eq_true c2)] at hk
      walk_at "go"
      exact hk _ _ .z
    · rw [if_neg (of_decide_eq_false c2)] at hk
      walk_at "go"
      exact hk _ _ .z
/-! drawn questions -/
def signs8 : List Nat := [97, 98, 99, 100, 101, 102, 103, 104]
def nameBy (cell : Int) (k j : Nat) : Str := strRep ⟨⟨[signs8.getD ((cell + (k : Int) * j).fmod 8).toNat 0]⟩⟩ (1 + (cell + j).fmod 8).toNat
def pathBy (cell : Int) (k : Nat) : List Str := (List.range (1 + (cell + k).fmod 6).toNat).map (nameBy cell k)
def questBy (cell scopes : Int) (k : Nat) : Quest := ⟨(cell + (k : Int) * k).fmod scopes, (cell + k).fmod 8, pathBy cell k⟩
def F_questions : Fsp := fsp (fun a : Int × Nat × Int => [.int a.1, .int a.2.1, .int a.2.2]) (fun a => a.2.1 ≤ 60 ∧ 0 < a.2.2) fun a => .list (((List.range a.2.1).map (questBy a.1 a.2.2)).map eQuest)
theorem s8 : (Str.ofString "abcdefgh").cps.toList = signs8 := by decide +kernel
theorem fmod_b {a b : Int} (h : 0 < b) : 0 ≤ a.fmod b ∧ a.fmod b < b := ⟨Int.fmod_nonneg_of_pos a h, Int.fmod_lt_of_pos a h⟩
theorem pu_questions : ∀ ds S K KX, lent F_questions ds S K KX → ws__law_questions { nx := fun _ S1 => K (.z .none) S1, rt := K, ex := fun y _ S1 => KX y S1 } (startE nm__law_questions ds) S := by
  refine fsp_ok fun ⟨c, n, s⟩ ⟨h1, h2⟩ K KX hk => ?_
  dsimp only at h1 h2 hk
  have hs0 : s ≠ 0 := by omega
  walk_at "go"
  refine pFor_range (fun i env S => ∃ v4 v5 v6 gs, env = [some (.z (.int c)), some (.z (.int n)), some (.z (.int s)), some (.r 0), v4, v5, v6] ∧ S = .lst ((List.range i).map fun k => .z (eQuest (questBy c s k))) :: gs) ⟨none, none, none, [], rfl, rfl⟩ ?_ ?_
  · rintro i _ _ Q hi ⟨v4, v5, v6, gs, rfl, rfl⟩ hQ
    have hi' : i < 60 := by omega
    have hb := fmod_b (a := c + (0 + (i : Int))) (b := 6) (by decide)
    walk_at "go"
    refine pLc_rg (fun j => .z (.str (nameBy c i j))) (by omega) (fun j hj => ⟨_, rfl, fun S1 K _ h => ?_⟩) ?_
    · have hj' : j < 10 := by omega
      have hb8 := fmod_b (a := c + (0 + (i : Int)) * (0 + (j : Int))) (b := 8) (by decide)
      have hb9 := fmod_b (a := c + (0 + (j : Int))) (b := 8) (by decide)
      have hc : CMul (0 + (i : Int)) (0 + (j : Int)) := .inl (by omega)
      walk_at "go"
      refine pGet.mk (x := signs8.getD ((c + (0 + (i : Int)) * (0 + (j : Int))).fmod 8).toNat 0) (by rw [s8]; exact getI_at ⟨hb8.1, hb8.2⟩) ?_
      walk_at "go"
      refine pReq.mk ⟨by omega, by omega, show (1 : Nat) ≤ 1000 by decide⟩ ?_
      have e : nameBy c i j = strRep ⟨⟨[signs8.getD ((c + (0 + (i : Int)) * (0 + (j : Int))).fmod 8).toNat 0]⟩⟩ (1 + (c + (0 + (j : Int))).fmod 8).toNat := by
        unfold nameBy; rw [Int.zero_add, Int.zero_add]
      rw [e] at h
      exact h
    · have hc : CMul (0 + (i : Int)) (0 + (i : Int)) := .inl (by omega)
      walk_at "go"
      refine pGet.mk (lsD_at (sto_last (S := .lst _ :: gs))) ?_
      walk_at "go"
      refine hQ _ _ ⟨_, _, _, ?gs, rfl, ?_⟩
      rotate_left
      refine Eq.trans (b := Ob.lst _ :: (gs ++ [_])) rfl ?_
      refine lst_eq ?_
      have e : mkT ((List.range (1 + (c + (0 + (i : Int))).fmod 6).toNat).map fun j => .z (.str (nameBy c i j))) = .z (.tuple ((pathBy c i).map .str)) := by
        rw [mkT_map, pathBy, List.map_map, Int.zero_add]; rfl
      rw [range_snoc, e, Int.zero_add]
      rfl
  · rintro _ _ ⟨v4, v5, v6, gs, rfl, rfl⟩
    walk_at "go"
    refine hk _ _ (.r rfl ?_)
    rw [List.map_map]
    exact Vzs.map _ _
/-! drawn answers -/
def numAt (ns : List Int) (cell : Int) : Nat → Int
  | 0 => cell.fmod 2147483629 + 1
  | k + 1 => (numAt ns cell k * numAt ns cell k + 48271 * numAt ns cell k + cellAt ns (3 + (k : Int))).fmod 2147483647
theorem numAt_b (ns : List Int) (cell : Int) : ∀ k, 0 ≤ numAt ns cell k ∧ numAt ns cell k < 2147483647
  | 0 => by have := fmod_b (a := cell) (b := 2147483629) (by decide); simp only [numAt]; omega
  | k + 1 => by simp only [numAt]; exact fmod_b (by decide)
def ansOf (n len things : Int) : Ans :=
  if n.fmod 6 = 0 then .opn else if n.fmod 6 = 1 then .none_ ((n.fdiv 6).fmod len) else if n.fmod 6 = 2 then .torn ((n.fdiv 6).fmod len) else .thing ((n.fdiv 6).fmod things)
def noQ : Quest := ⟨0, 0, []⟩
def ansBy (cell : Int) (ns : List Int) (qs : List Quest) (things : Int) (k : Nat) : Ans := ansOf (numAt ns cell (k + 1)) ((qs.getD k noQ).path.length) things
structure AAns where
  cell : Int
  ns : List Int
  qs : List Quest
  things : Int
def answers (a : AAns) : List Ans := (List.range a.qs.length).map (ansBy a.cell a.ns a.qs a.things)
def F_answers : Fsr := fsr (fun a : AAns => [.int a.cell, .list (a.ns.map .int), .list (a.qs.map eQuest), .int a.things]) (fun a => a.qs.length ≤ 60 ∧ (∀ q ∈ a.qs, q.path ≠ []) ∧ 0 < a.things) fun a => lz eAns (answers a)
set_option hygiene false in
theorem pu_answers : ∀ ds S K KX, lentR F_answers ds S K KX → ws__law_answers (frz F_cell) { nx := fun _ S1 => K (.z .none) S1, rt := K, ex := fun y _ S1 => KX y S1 } (startE nm__law_answers ds) S := by
  refine fsr_ok fun ⟨c, ns, qs, th⟩ ⟨h1, h2, h3⟩ K KX hk => ?_
  dsimp only at h1 h2 h3
  unfold answers at hk
  dsimp only at hk
  have h4 : th ≠ 0 := by omega
  walk_at "go"
  rw [List.length_map]
  refine pReq.mk (by omega) ?_
  walk_at "go"
  have en : ((qs.length : Int)).toNat = qs.length := by omega
  rw [en]
  refine pFor_range (fun i env S => ∃ v7 gs, env = [some (.z (.int c)), some (.b (.list (ns.map .int))), some (.b (.list (qs.map eQuest))), some (.z (.int th)), some (.r 0), some (.z (.int (numAt ns c i))), v7] ∧ S = .lst ((List.range i).map fun k => .z (eAns (ansBy c ns qs th k))) :: gs) ⟨none, [], rfl, rfl⟩ ?_ ?_
  · rintro i _ _ Q hi ⟨v7, gs, rfl, rfl⟩ hQ
    have hb := numAt_b ns c i
    have hc : CMul (numAt ns c i) (numAt ns c i) := .inl (by omega)
    walk_at "go"
    refine fsp_call (ns, 3 + (0 + (i : Int))) (.cons .b (.cons .z .nil)) (by show (0 : Int) ≤ _; omega) ?_
    walk_at "go"
    have e1 : (numAt ns c i * numAt ns c i + 48271 * numAt ns c i + cellAt ns (3 + (0 + (i : Int)))).fmod 2147483647 = numAt ns c (i + 1) := by
      rw [Int.zero_add]; rfl
    have e2 : ansBy c ns qs th i = ansOf (numAt ns c (i + 1)) ((qs.getD i noQ).path.length) th := rfl
    dsimp only
    rw [e1]
    have hb2 := numAt_b ns c (i + 1)
    generalize numAt ns c (i + 1) = m at *
    generalize hqd : qs.getD i noQ = q at *
    have hqx : atD qs (0 + (i : Int)) = some q := by
      rw [Int.zero_add]
      refine atD_nat ?_
      rw [← hqd, List.getD_eq_getElem?_getD, List.getElem?_eq_getElem hi]; rfl
    have hqm : q.path ≠ [] := by
      refine h2 q ?_
      rw [← hqd, List.getD_eq_getElem?_getD, List.getElem?_eq_getElem hi]
      exact List.getElem_mem _
    walk_at "go"
    have hl : ((q.path.length : Nat) : Int) ≠ 0 := by
      have : q.path.length ≠ 0 := fun e => hqm (List.length_eq_zero_iff.mp e)
      omega
    refine pIf.mk (fun c1 => ?_) (fun c1 => ?_)
    · have c1 := of_decide_eq_true c1
      walk_at "go"
      refine hQ _ _ ⟨_, gs, rfl, set0.trans (lst_eq ?_)⟩
      rw [range_snoc, e2]
      unfold ansOf
      rw [if_pos c1]; rfl
    · have c1 := of_decide_eq_false c1
      have hm6 := fmod_b (a := m) (b := 6) (by decide)
      walk_at "go"
      refine pIf.mk (fun c2 => ?_) (fun c2 => ?_)
      · have c2 := of_decide_eq_true c2
        obtain ⟨b, hb6⟩ : ∃ b : Bool, m.fmod 6 = if b then 1 else 2 := by
          by_cases h : m.fmod 6 = 1
          · exact ⟨true, h⟩
          · exact ⟨false, by simp only [Bool.false_eq_true, if_false]; omega⟩
        walk_at "go"
        have e3 : m.fmod 6 - 1 = if b then 0 else 1 := by rw [hb6]; cases b <;> rfl
        rw [sto_last, e3]
        refine pGet.mk (x := D.z (.str (if b then "none" else "torn"))) (by cases b <;> rfl) ?_
        walk_at "go"
        refine pGet.mk (ixD_bL hqx) ?_
        rw [bzQ]
        walk_at "go"
        rw [List.length_map]
        walk_at "go"
        refine hQ _ _ ⟨_, gs ++ _, rfl, (set0_app (gs := gs)).trans (lst_eq ?_)⟩
        rw [range_snoc, e2]
        unfold ansOf
        rw [if_neg c1, hb6]
        cases b <;> rfl
      · have c2 := of_decide_eq_false c2
        walk_at "go"
        refine hQ _ _ ⟨_, gs, rfl, set0.trans (lst_eq ?_)⟩
        rw [range_snoc, e2]
        unfold ansOf
        rw [if_neg c1, if_neg (by omega), if_neg (by omega)]; rfl
  · rintro _ _ ⟨v7, gs, rfl, rfl⟩
    walk_at "go"
    refine hk _ _ [0] (VR.lz ?_) (by decide)
    rw [List.map_map]; rfl
end K10

set_option Elab.async false
set_option linter.all false
set_option maxRecDepth 100000
namespace K10
open PySem L2 PL ND
local macro_rules | `(tactic| walk_at "go") => `(tactic| ((try (conv => whnf)); repeat ((first | refine pGet.mk rfl ?_ | refine pReq.mk rfl ?_ | refine pReq.mk (sz_le rfl) ?_ | refine pReq.mk (sz_lt rfl) ?_ | refine pReq.mk (by decide) ?_ | refine pReq.mk (Or.inr (by decide)) ?_ | refine pReq.mk (Or.inl (by decide)) ?_ | refine pIf.tt rfl ?_ | refine pIf.ff rfl ?_ | refine pReq.mk (by assumption) ?_ | refine pReq.mk (by omega) ?_ | refine pReq.mk (sz_lt6 (by simp only [List.length_map, List.length_range, List.length_append, List.length_cons, List.length_nil]; omega)) ?_ | refine pReq.mk (sz_le6 (by simp only [List.length_map, List.length_range, List.length_append, List.length_cons, List.length_nil]; omega)) ?_); (try (conv => whnf)))))
theorem pu_law_inside : ∀ ds S K KX, lent F_inside ds S K KX → ws__law_inside { nx := fun _ S1 => K (.z .none) S1, rt := K, ex := fun y _ S1 => KX y S1 } (startE nm__law_inside ds) S := by
  refine fsp_ok fun a ⟨hok, ht⟩ K KX hk => ?_
  walk_at "go"
  refine pGet.mk (ixD_bL (getI_at (d := .plain) ht)) ?_
  have hm := getI_mem (d := Thing.plain) ht
  unfold inside at hk
  cases hth : getI a.net.things .plain a.t with
  | plain => rw [hth] at hk; walk_at "go"; exact hk _ _ .z
  | part s => rw [hth] at hk; walk_at "go"; exact hk _ _ .z
  | sort q =>
    rw [hth] at hk hm
    have hq := hok.sort q hm
    walk_at "go"
    refine pGet.mk (ixD_bL (getI_at (d := .opn) hq)) ?_
    have hm2 := getI_mem (d := Ans.opn) hq
    dsimp only at hk
    cases ha : getI a.ans .opn q with
    | opn => rw [ha] at hk; walk_at "go"; exact hk _ _ .z
    | none_ x => rw [ha] at hk; walk_at "go"; exact hk _ _ .z
    | torn x => rw [ha] at hk; walk_at "go"; exact hk _ _ .z
    | thing t2 =>
      rw [ha] at hk hm2
      have ht2 := hok.ans t2 hm2
      walk_at "go"
      refine pGet.mk (ixD_bL (getI_at (d := .plain) ht2)) ?_
      dsimp only at hk
      cases h3 : getI a.net.things .plain t2 with
      | plain => rw [h3] at hk; walk_at "go"; exact hk _ _ .z
      | part s =>
        rw [h3] at hk; walk_at "go"
        refine pGet.mk (ixD_bL (getI_at (d := .plain) ht2)) ?_
        rw [h3]
        walk_at "go"
        exact hk _ _ .z
      | sort q => rw [h3] at hk; walk_at "go"; exact hk _ _ .z
theorem shG (g : Goal) : Shp 1 (eGoal g) := by cases g <;> exact .tup2 (.str (by decide +kernel)) .int
def F_told : Fsp := fsp (fun g : Goal => [eGoal g, eGoal g]) (fun _ => True) fun _ => .bool true
theorem pu_told : ∀ ds S K KX, lent F_told ds S K KX → ws__law_told (frz F_whole) { nx := fun _ S1 => K (.z .none) S1, rt := K, ex := fun y _ S1 => KX y S1 } (startE nm__law_told ds) S := by
  refine fsp_ok fun g _ K KX hk => ?_
  have hs := shG g
  cases g with
  | to s =>
    walk_at "go"
    refine fsp_call (.int s) (.cons .z .nil) ⟨s, rfl⟩ ?_
    walk_at "go"
    refine eq_same .z Vw.bz hs (by decide) ?_
    walk_at "go"
    exact hk _ _ .z
  | opn s =>
    walk_at "go"
    refine fsp_call (.int s) (.cons .z .nil) ⟨s, rfl⟩ ?_
    walk_at "go"
    refine eq_same .z Vw.bz hs (by decide) ?_
    walk_at "go"
    exact hk _ _ .z
  | no =>
    walk_at "go"
    refine fsp_call (.int 0) (.cons .z .nil) ⟨0, rfl⟩ ?_
    walk_at "go"
    refine eq_same .z Vw.bz hs (by decide) ?_
    walk_at "go"
    exact hk _ _ .z
end K10

set_option Elab.async false
set_option linter.all false
set_option maxRecDepth 100000
namespace K10
open PySem L2 PL ND
local macro_rules | `(tactic| walk_at "go") => `(tactic| ((try (conv => whnf)); repeat ((first | refine pGet.mk rfl ?_ | refine pReq.mk rfl ?_ | refine pReq.mk (sz_le rfl) ?_ | refine pReq.mk (sz_lt rfl) ?_ | refine pReq.mk (by decide) ?_ | refine pReq.mk (Or.inr (by decide)) ?_ | refine pReq.mk (Or.inl (by decide)) ?_ | refine pIf.tt rfl ?_ | refine pIf.ff rfl ?_ | refine pReq.mk (by assumption) ?_ | refine pReq.mk (by omega) ?_ | refine pReq.mk (sz_lt6 (by simp only [List.length_map, List.length_range, List.length_append, List.length_cons, List.length_nil]; omega)) ?_ | refine pReq.mk (sz_le6 (by simp only [List.length_map, List.length_range, List.length_append, List.length_cons, List.length_nil]; omega)) ?_); (try (conv => whnf)))))
/-- all of a net's texts are texts, and so on -/
theorem shQ {q : Quest} (h : ∀ x ∈ q.path, PyData.strOk x = true) : Shp 2 (eQuest q) := .tup3 .int .int (.tuple fun d hd => by
  obtain ⟨x, hx, rfl⟩ := List.mem_map.mp hd
  exact .str (h x hx))
theorem shT (t : Thing) : Shp 2 (eThing t) := by cases t <;> exact .mono (.tup2 (n := 0) (.str (by decide +kernel)) .int) (by decide)
theorem shA (t : Ans) : Shp 2 (eAns t) := by cases t <;> first | exact .none | exact .mono (.tup2 (n := 0) (.str (by decide +kernel)) .int) (by decide)
theorem shE : Shp 2 (eScope noSc) := .tup2 (.list fun d hd => by cases hd) (.list fun d hd => by cases hd)
theorem strOk_rep {x : Str} (h : PyData.strOk x = true) (k : Nat) : PyData.strOk (strRep x k) = true := by
  unfold PyData.strOk strRep at *
  rw [Array.all_eq_true'] at *
  intro c hc
  simp only [Array.mem_def, List.mem_flatten] at hc
  obtain ⟨l, hl, hc⟩ := hc
  rw [List.mem_replicate] at hl
  rw [hl.2] at hc
  exact h c (by simpa using hc)
theorem nameBy_ok (cell : Int) (k j : Nat) : PyData.strOk (nameBy cell k j) = true := by
  unfold nameBy
  refine strOk_rep ?_ _
  have h := fmod_b (a := cell + (k : Int) * j) (b := 8) (by decide)
  obtain ⟨m, hm⟩ : ∃ m : Nat, (cell + (k : Int) * j).fmod 8 = (m : Int) := ⟨((cell + (k : Int) * j).fmod 8).toNat, by omega⟩
  rw [hm] at h ⊢
  have h8 : m < 8 := by omega
  have key : ∀ m : Fin 8, PyData.strOk ⟨⟨[signs8.getD ((m.val : Int)).toNat 0]⟩⟩ = true := by decide +kernel
  exact key ⟨m, h8⟩
section
variable {ns : List Int} {sc nth : Int} {nq : Nat} {qs : List Quest} {ths : List Thing} {ss : List ND.Scope} {K : K1} {KX : KF}
/-- what the inputs keep to -/
structure Good (qs : List Quest) (ths : List Thing) : Prop where
  q60 : qs.length ≤ 60
  qp : ∀ q ∈ qs, q.path ≠ []
  qt : ∀ q ∈ qs, ∀ x ∈ q.path, PyData.strOk x = true
  t1 : ths ≠ []
  t80 : ths.length ≤ 80
  ts : ∀ q, Thing.sort q ∈ ths → 0 ≤ q ∧ q < qs.length
theorem answers_ok (a : AAns) (h : a.qs.length ≤ 60) (g : 0 < a.things) : (answers a).length = a.qs.length ∧ ∀ t, Ans.thing t ∈ answers a → 0 ≤ t ∧ t < a.things := by
  refine ⟨by unfold answers; rw [List.length_map, List.length_range], fun t ht => ?_⟩
  unfold answers at ht
  obtain ⟨k, _, hk⟩ := List.mem_map.mp ht
  unfold ansBy ansOf at hk
  split at hk
  · cases hk
  · split at hk
    · cases hk
    · split at hk
      · cases hk
      · cases hk
        exact fmod_b g
/-- from the first answers on -/
theorem tail2 (hk : ∀ S', K (D.z (PyData.bool true)) S') (g : Good qs ths) {A : Sto} {n3 : Nat} {en ek : List D} (hss : ∀ s ∈ ss, Shp 2 (eScope s)) (h3 : A[n3]? = some (.lst (ths.map fun x => .z (eThing x)))) (hn : Vw A (.t en) (eNet ⟨ss, ths, qs⟩)) (hd : Vw A (.t ek) (eNet ⟨ss, ths, qs⟩))
    {one other : List Ans} (l1 : one.length = qs.length) (l2 : other.length = qs.length) (t1 : ∀ t, Ans.thing t ∈ one → 0 ≤ t ∧ t < ths.length) (t2 : ∀ t, Ans.thing t ∈ other → 0 ≤ t ∧ t < ths.length) (v9 v10 v11 : Option D) :
    wSeq (wAsg (wLst (wCons (wCall pList (wCons (wVar 6) wNil)) (wCons (wCall pList (wCons (wVar 7) wNil)) wNil))) (gN 8))
      (wSeq (wFor (wRg1 (wCons (wCall pLen (wCons (wVar 3) wNil)) wNil)) (gN 9) (law_b1 (frz F_inside) (frz F_inside) (frz F_told)))
      (law_r4 (frz F_inside) (frz F_inside) (frz F_told))) (ends K KX)
      [some (.b (.list (ns.map .int))), some (.z (.int sc)), some (.z (.list (qs.map eQuest))), some (.r n3), some (.t en), some (.t ek), some (.r A.length), some (.r (A.length + 1)), none, v9, v10, v11]
      (A ++ [.lst (one.map fun x => .z (eAns x)), .lst (other.map fun x => .z (eAns x))]) := by
  walk_at "go"
  refine pGet.mk (sqD_at (ds := one.map fun x => .z (eAns x)) (by simp)) ?_
  walk_at "go"
  refine pGet.mk (sqD_at (ds := other.map fun x => .z (eAns x)) (by simp [List.getElem?_append])) ?_
  walk_at "go"
  simp only [List.append_assoc, List.cons_append, List.nil_append, List.length_append, List.length_cons, List.length_nil]
  refine pGet.mk (lenD_at (sto_app h3)) ?_
  rw [List.length_map]
  have h80 := g.t80
  refine pReq.mk (by omega) ?_
  walk_at "go"
  have eln : ((ths.length : Nat) : Int).toNat = ths.length := by omega
  rw [eln]
  generalize hS : (A ++ [Ob.lst (one.map fun x => D.z (eAns x)), Ob.lst (other.map fun x => D.z (eAns x)), Ob.lst (one.map fun x => D.z (eAns x)), Ob.lst (other.map fun x => D.z (eAns x)), Ob.lst [D.r (A.length + (0 + 1 + 1)), D.r (A.length + (0 + 1 + 1 + 1))]]) = S
  have a3 : S[n3]? = some (.lst (ths.map fun x => .z (eThing x))) := by rw [← hS]; exact sto_app h3
  have an : Vw S (.t en) (eNet ⟨ss, ths, qs⟩) := by rw [← hS]; exact hn.app
  have ad : Vw S (.t ek) (eNet ⟨ss, ths, qs⟩) := by rw [← hS]; exact hd.app
  have a6 : S[A.length]? = some (.lst (one.map fun x => .z (eAns x))) := by rw [← hS]; simp
  have a7 : S[A.length + 1]? = some (.lst (other.map fun x => .z (eAns x))) := by rw [← hS]; simp
  have a8 : S[A.length + 2]? = some (.lst (one.map fun x => .z (eAns x))) := by rw [← hS]; simp
  have a9 : S[A.length + 3]? = some (.lst (other.map fun x => .z (eAns x))) := by rw [← hS]; simp
  have a10 : S[A.length + 4]? = some (.lst [.r (A.length + 2), .r (A.length + 3)]) := by rw [← hS]; simp
  have io1 : InOk ⟨ss, ths, qs⟩ one := ⟨fun q hq => by rw [l1]; exact g.ts q hq, t1⟩
  have io2 : InOk ⟨ss, ths, qs⟩ other := ⟨fun q hq => by rw [l2]; exact g.ts q hq, t2⟩
  refine pFor_range (fun i env S1 => ∃ v9, env = [some (.b (.list (ns.map .int))), some (.z (.int sc)), some (.z (.list (qs.map eQuest))), some (.r n3), some (.t en), some (.t ek), some (.r A.length), some (.r (A.length + 1)), some (.r (A.length + 4)), v9, v10, v11] ∧ S1 = S) ⟨v9, rfl, rfl⟩ ?_ ?_
  · rintro i _ _ Q hi ⟨v9, rfl, rfl⟩ hQ
    walk_at "go"
    have ht : (0 : Int) ≤ 0 + (i : Int) ∧ 0 + (i : Int) < ths.length := by omega
    refine fsp_call (⟨⟨ss, ths, qs⟩, one, 0 + (i : Int)⟩ : AIn) (.cons an (.cons (.r a6 (Vws.map _ _)) (.cons .z .nil))) ⟨io1, ht⟩ ?_
    walk_at "go"
    rw [a10]
    walk_at "go"
    refine fsp_call (⟨⟨ss, ths, qs⟩, one, 0 + (i : Int)⟩ : AIn) (.cons ad (.cons (.r a8 (Vws.map _ _)) (.cons .z .nil))) ⟨io1, ht⟩ ?_
    walk_at "go"
    refine fsp_call (inside ⟨ss, ths, qs⟩ one (0 + (i : Int))) (.cons .z (.cons .z .nil)) trivial ?_
    walk_at "go"
    refine fsp_call (⟨⟨ss, ths, qs⟩, other, 0 + (i : Int)⟩ : AIn) (.cons an (.cons (.r a7 (Vws.map _ _)) (.cons .z .nil))) ⟨io2, ht⟩ ?_
    walk_at "go"
    rw [a10]
    walk_at "go"
    refine fsp_call (⟨⟨ss, ths, qs⟩, other, 0 + (i : Int)⟩ : AIn) (.cons ad (.cons (.r a9 (Vws.map _ _)) (.cons .z .nil))) ⟨io2, ht⟩ ?_
    walk_at "go"
    refine fsp_call (inside ⟨ss, ths, qs⟩ other (0 + (i : Int))) (.cons .z (.cons .z .nil)) trivial ?_
    walk_at "go"
    exact hQ _ _ ⟨_, rfl, rfl⟩
  · rintro _ _ ⟨v9, rfl, rfl⟩
    walk_at "go"
    have shN : Shp 4 (eNet ⟨ss, ths, qs⟩) := .tup3 (.lists fun s hs => hss s hs) (.lists fun t _ => shT t) (.lists fun q hq => shQ (g.qt q hq))
    have shAs : ∀ a : List Ans, Shp 3 (eAnss a) := fun a => .lists fun t _ => shA t
    refine eq_same an ad shN (by decide) ?_
    walk_at "go"
    rw [a10]
    walk_at "go"
    refine eq_same (.r a6 (Vws.map _ _)) (.r a8 (Vws.map _ _)) (shAs one) (by decide) ?_
    walk_at "go"
    rw [a10]
    walk_at "go"
    refine eq_same (.r a7 (Vws.map _ _)) (.r a9 (Vws.map _ _)) (shAs other) (by decide) ?_
    walk_at "go"
    refine pGet.mk (lenD_at a6) ?_
    walk_at "go"
    rw [List.length_map]
    have h60 := g.q60
    refine pReq.mk (by omega) ?_
    walk_at "go"
    have elo : ((one.length : Nat) : Int).toNat = one.length := by omega
    rw [elo]
    let ob := fun (i : Nat) => A ++ [Ob.lst ((other.take i ++ one.drop i).map fun x => D.z (eAns x)), Ob.lst (other.map fun x => D.z (eAns x)), Ob.lst (one.map fun x => D.z (eAns x)), Ob.lst (other.map fun x => D.z (eAns x)), Ob.lst [D.r (A.length + 2), D.r (A.length + 3)]]
    refine pFor_range (fun i env S1 => ∃ v10, env = [some (.b (.list (ns.map .int))), some (.z (.int sc)), some (.z (.list (qs.map eQuest))), some (.r n3), some (.t en), some (.t ek), some (.r A.length), some (.r (A.length + 1)), some (.r (A.length + 4)), v9, v10, v11] ∧ S1 = ob i) ⟨v10, rfl, hS.symm⟩ ?_ ?_
    · rintro i _ _ Q hi ⟨v10, rfl, rfl⟩ hQ
      have b6 : (ob i)[A.length]? = some (.lst ((other.take i ++ one.drop i).map fun x => D.z (eAns x))) := by simp [ob]
      have b7 : (ob i)[A.length + 1]? = some (.lst (other.map fun x => .z (eAns x))) := by simp [ob]
      walk_at "go"
      rw [b7]
      walk_at "go"
      have hi2 : i < other.length := by omega
      refine pGet.mk (x := D.z (eAns other[i])) (by rw [Int.zero_add, atD_map]; exact congrArg _ (atD_nat (List.getElem?_eq_getElem hi2))) ?_
      walk_at "go"
      rw [b6]
      walk_at "go"
      have hi3 : i < ((other.take i ++ one.drop i).map fun x => D.z (eAns x)).length := by simp; omega
      refine pGet.mk (ixN_at hi3) ?_
      refine hQ _ _ ⟨_, rfl, ?_⟩
      have e1 : ((other.take i ++ one.drop i).map fun x => D.z (eAns x)).set i (D.z (eAns other[i])) = (other.take (i + 1) ++ one.drop (i + 1)).map fun x => D.z (eAns x) := by
        rw [← List.map_set (f := fun x => D.z (eAns x))]
        congr 1
        rw [List.set_append_right _ _ (by rw [List.length_take]; omega), List.length_take, Nat.min_eq_left (by omega), Nat.sub_self, List.drop_eq_getElem_cons hi, List.set_cons_zero, List.take_add_one, List.getElem?_eq_getElem hi2]
        simp only [Option.toList_some, List.append_assoc, List.cons_append, List.nil_append]
      rw [e1]
      show (A ++ _).set A.length _ = _
      rw [List.set_append_right _ _ (Nat.le_refl _), Nat.sub_self]
      rfl
    · rintro _ _ ⟨v10, rfl, rfl⟩
      have ht : other.take one.length = other := by rw [l1, ← l2]; exact List.take_length
      have b0 : ob one.length = A ++ [Ob.lst (other.map fun x => D.z (eAns x)), Ob.lst (other.map fun x => D.z (eAns x)), Ob.lst (one.map fun x => D.z (eAns x)), Ob.lst (other.map fun x => D.z (eAns x)), Ob.lst [D.r (A.length + 2), D.r (A.length + 3)]] := by
        show A ++ [Ob.lst ((other.take one.length ++ one.drop one.length).map fun x => D.z (eAns x)), _, _, _, _] = _
        rw [ht, List.drop_length, List.append_nil]
      rw [b0]
      generalize hS2 : (A ++ [Ob.lst (other.map fun x => D.z (eAns x)), Ob.lst (other.map fun x => D.z (eAns x)), Ob.lst (one.map fun x => D.z (eAns x)), Ob.lst (other.map fun x => D.z (eAns x)), Ob.lst [D.r (A.length + 2), D.r (A.length + 3)]]) = S2
      have c3 : S2[n3]? = some (.lst (ths.map fun x => .z (eThing x))) := by rw [← hS2]; exact sto_app h3
      have cn : Vw S2 (.t en) (eNet ⟨ss, ths, qs⟩) := by rw [← hS2]; exact hn.app
      have cd : Vw S2 (.t ek) (eNet ⟨ss, ths, qs⟩) := by rw [← hS2]; exact hd.app
      have c6 : S2[A.length]? = some (.lst (other.map fun x => .z (eAns x))) := by rw [← hS2]; simp
      have c7 : S2[A.length + 1]? = some (.lst (other.map fun x => .z (eAns x))) := by rw [← hS2]; simp
      have c9 : S2[A.length + 3]? = some (.lst (other.map fun x => .z (eAns x))) := by rw [← hS2]; simp
      have c10 : S2[A.length + 4]? = some (.lst [.r (A.length + 2), .r (A.length + 3)]) := by rw [← hS2]; simp
      walk_at "go"
      refine pGet.mk (lenD_at c3) ?_
      walk_at "go"
      rw [List.length_map]
      refine pReq.mk (by omega) ?_
      walk_at "go"
      rw [eln]
      refine pFor_range (fun i env S1 => ∃ v9, env = [some (.b (.list (ns.map .int))), some (.z (.int sc)), some (.z (.list (qs.map eQuest))), some (.r n3), some (.t en), some (.t ek), some (.r A.length), some (.r (A.length + 1)), some (.r (A.length + 4)), v9, v10, v11] ∧ S1 = S2) ⟨v9, rfl, rfl⟩ ?_ ?_
      · rintro i _ _ Q hi ⟨v9, rfl, rfl⟩ hQ
        have ht : (0 : Int) ≤ 0 + (i : Int) ∧ 0 + (i : Int) < ths.length := by omega
        walk_at "go"
        refine fsp_call (⟨⟨ss, ths, qs⟩, other, 0 + (i : Int)⟩ : AIn) (.cons cn (.cons (.r c6 (Vws.map _ _)) (.cons .z .nil))) ⟨io2, ht⟩ ?_
        walk_at "go"
        rw [c10]
        walk_at "go"
        refine fsp_call (⟨⟨ss, ths, qs⟩, other, 0 + (i : Int)⟩ : AIn) (.cons cd (.cons (.r c9 (Vws.map _ _)) (.cons .z .nil))) ⟨io2, ht⟩ ?_
        walk_at "go"
        refine fsp_call (inside ⟨ss, ths, qs⟩ other (0 + (i : Int))) (.cons .z (.cons .z .nil)) trivial ?_
        walk_at "go"
        exact hQ _ _ ⟨_, rfl, rfl⟩
      · rintro _ _ ⟨v9, rfl, rfl⟩
        walk_at "go"
        refine eq_same cn cd shN (by decide) ?_
        walk_at "go"
        refine eq_same (.r c6 (Vws.map _ _)) (.r c7 (Vws.map _ _)) (shAs other) (by decide) ?_
        walk_at "go"
        exact hk _
theorem tail1 (hk : ∀ S', K (D.z (PyData.bool true)) S') (g : Good qs ths) {sn : Nat} (hsc : sc = sn) (hs40 : sn ≤ 40) {S : Sto} {n3 : Nat} (h3 : S[n3]? = some (.lst (ths.map fun x => .z (eThing x)))) :
    law_r5 (frz F_cell) (frr F_answers) (frz F_inside) (frz F_inside) (frz F_told) (ends K KX)
      [some (.b (.list (ns.map .int))), some (.z (.int sc)), some (.z (.list (qs.map eQuest))), some (.r n3), none, none, none, none, none, none, none, none] S := by
  subst hsc
  have h80 := g.t80
  have h60 := g.q60
  walk_at "go"
  refine pLc_emp (by omega) ?_
  have esn : ((sn : Nat) : Int).toNat = sn := by omega
  rw [esn]
  walk_at "go"
  refine pLc_emp (by omega) ?_
  rw [esn]
  have hl0 : (S ++ [Ob.lst ((emp (S.length + 1) sn).map scD)]).length = S.length + 1 := by simp
  generalize hA1 : S ++ Ob.lst ((emp (S.length + 1) sn).map scD) :: List.replicate (2 * sn) (Ob.lst []) = A1
  have i1 : ScsIn A1 (emp (S.length + 1) sn) (List.replicate sn noSc) := by
    have := emp_in (T := []) hl0 sn
    rw [List.append_nil, List.append_assoc] at this
    rw [← hA1]
    exact this
  have j1 : A1[S.length]? = some (.lst ((emp (S.length + 1) sn).map scD)) := by rw [← hA1]; simp
  have k1 : A1[n3]? = some (.lst (ths.map fun x => .z (eThing x))) := by rw [← hA1]; exact sto_app h3
  have hl1 : (A1 ++ [Ob.lst ((emp (A1.length + 1) sn).map scD)]).length = A1.length + 1 := by simp
  generalize hA2 : A1 ++ Ob.lst ((emp (A1.length + 1) sn).map scD) :: List.replicate (2 * sn) (Ob.lst []) = A2
  have i2 : ScsIn A2 (emp (A1.length + 1) sn) (List.replicate sn noSc) := by
    have := emp_in (T := []) hl1 sn
    rw [List.append_nil, List.append_assoc] at this
    rw [← hA2]
    exact this
  have j2 : A2[A1.length]? = some (.lst ((emp (A1.length + 1) sn).map scD)) := by rw [← hA2]; simp
  have k2 : A2[n3]? = some (.lst (ths.map fun x => .z (eThing x))) := by rw [← hA2]; exact sto_app k1
  have m2 : Vw A2 (.t [.r S.length, .r n3, .z (.list (qs.map eQuest))]) (eNet ⟨List.replicate sn noSc, ths, qs⟩) := by
    rw [← hA2]
    exact .t (.cons (.r (sto_app j1) (ScsIn.sub (fun _ _ => sto_app) i1).vws) (.cons (.r (sto_app k1) (Vws.map _ _)) (.cons .z .nil)))
  walk_at "go"
  refine pGet.mk (sqD_at k2) ?_
  walk_at "go"
  generalize hA3 : A2 ++ [Ob.lst (ths.map fun x => D.z (eThing x))] ++ [Ob.lst ((qs.map eQuest).map D.z)] = A3
  have m3 : Vw A3 (.t [.r S.length, .r n3, .z (.list (qs.map eQuest))]) (eNet ⟨List.replicate sn noSc, ths, qs⟩) := by
    rw [← hA3]; exact m2.app.app
  have l3 : (A2 ++ [Ob.lst (ths.map fun x => D.z (eThing x))]).length = A2.length + 1 := by simp
  have n3' : Vw A3 (.t [.r A1.length, .r A2.length, .r (A2.length + 1)]) (eNet ⟨List.replicate sn noSc, ths, qs⟩) := by
    rw [← hA3]
    refine .t (.cons (.r (sto_app (sto_app j2)) (ScsIn.sub (fun _ _ h => sto_app (sto_app h)) i2).vws) (.cons (.r (sto_app sto_last) (Vws.map _ _)) (.cons (.r ?_ (Vws.zs _)) .nil)))
    rw [← l3]; exact sto_last
  have k3 : A3[n3]? = some (.lst (ths.map fun x => .z (eThing x))) := by rw [← hA3]; exact sto_app (sto_app k2)
  rw [l3]
  refine fsp_call (ns, 0) (.cons .b (.cons .z .nil)) (Int.le_refl _) ?_
  walk_at "go"
  refine pGet.mk (lenD_at k3) ?_
  walk_at "go"
  rw [List.length_map]
  have hth : 0 < (ths.length : Int) := by
    have : ths.length ≠ 0 := fun e => g.t1 (List.length_eq_zero_iff.mp e)
    omega
  have ok1 := answers_ok ⟨(cellAt ns 0).fdiv 40, ns, qs, ths.length⟩ h60 hth
  refine fsl_call ⟨(cellAt ns 0).fdiv 40, ns, qs, ths.length⟩ (.cons .z (.cons .b (.cons .z (.cons .z .nil)))) ⟨h60, g.qp, hth⟩ ?_
  walk_at "go"
  refine fsp_call (ns, 2) (.cons .b (.cons .z .nil)) (show (0 : Int) ≤ 2 by decide) ?_
  walk_at "go"
  refine pGet.mk (lenD_at (sto_app k3)) ?_
  walk_at "go"
  rw [List.length_map]
  have ok2 := answers_ok ⟨(cellAt ns 2).fdiv 60, ns, qs, ths.length⟩ h60 hth
  refine fsl_call ⟨(cellAt ns 2).fdiv 60, ns, qs, ths.length⟩ (.cons .z (.cons .b (.cons .z (.cons .z .nil)))) ⟨h60, g.qp, hth⟩ ?_
  have := tail2 (K := K) (KX := KX) (ns := ns) (sc := (sn : Int)) hk g (fun s hs => by rw [List.eq_of_mem_replicate hs]; exact shE) k3 m3 n3' ok1.1 ok2.1 ok1.2 ok2.2 none none none
  rw [List.append_assoc, List.length_append]
  exact this
theorem pu_law : ∀ ds S K KX, lawSp ds S K KX → ws_law (frz F_cell) (frz F_questions) (frz F_thing) (frr F_answers) (frz F_inside) (frz F_inside) (frz F_told) { nx := fun _ S1 => K (.z .none) S1, rt := K, ex := fun y _ S1 => KX y S1 } (startE nm_law ds) S := by
  rintro ds S K KX ⟨ns, rfl, rfl, hn, hk⟩
  have fin : ∀ (qs : List Quest) (ths : List Thing) (g : Good qs ths) (sn : Nat) (_ : sn ≤ 40) (S : Sto) (n3 : Nat) (_ : S[n3]? = some (.lst (ths.map fun x => .z (eThing x)))), law_r5 (frz F_cell) (frr F_answers) (frz F_inside) (frz F_inside) (frz F_told) (ends K KX)
      [some (.b (.list (ns.map .int))), some (.z (.int sn)), some (.z (.list (qs.map eQuest))), some (.r n3), none, none, none, none, none, none, none, none] S := fun qs ths g sn h1 S n3 h2 => tail1 hk g rfl h1 h2
  unfold ws_law
  generalize law_r5 (frz F_cell) (frr F_answers) (frz F_inside) (frz F_inside) (frz F_told) = r5 at fin ⊢
  walk_at "go"
  refine fsp_call (ns, 0) (.cons .b (.cons .z .nil)) (Int.le_refl _) ?_
  dsimp only
  generalize cellAt ns 0 = c0
  walk_at "go"
  refine fsp_call (ns, 1) (.cons .b (.cons .z .nil)) (show (0 : Int) ≤ 1 by decide) ?_
  dsimp only
  generalize cellAt ns 1 = c1
  walk_at "go"
  refine fsp_call (ns, 2) (.cons .b (.cons .z .nil)) (show (0 : Int) ≤ 2 by decide) ?_
  dsimp only
  generalize cellAt ns 2 = c2
  walk_at "go"
  have hb0 := fmod_b (a := c0) (b := 40) (by decide)
  have hb2 := fmod_b (a := c2) (b := 60) (by decide)
  obtain ⟨nq, hnq⟩ : ∃ nq : Nat, 1 + c2.fmod 60 = (nq : Int) := ⟨(1 + c2.fmod 60).toNat, by omega⟩
  obtain ⟨sn, hsn⟩ : ∃ sn : Nat, 1 + c0.fmod 40 = (sn : Int) := ⟨(1 + c0.fmod 40).toNat, by omega⟩
  rw [hnq, hsn]
  refine fsp_call (c1.fmod 1009, nq, (sn : Int)) (.cons .z (.cons .z (.cons .z .nil))) ⟨by show nq ≤ 60; omega, by show (0 : Int) < sn; omega⟩ ?_
  dsimp only
  generalize hqs : (List.range nq).map (questBy (c1.fmod 1009) sn) = qs
  have lq : qs.length = nq := by rw [← hqs]; simp
  walk_at "go"
  rw [bz_ints, cutL_map]
  refine pLc_all (xs := cutL ns (some 3) (some 83)) (fun i => .z (.int i)) (fun i => .z (eThing (thingBy i sn nq))) ?_ ?_ ?_ ?_
  · have := cutL_len ns (some 3) (some 83); omega
  · intro acc; rfl
  · intro c _
    refine ⟨_, rfl, fun S1 K _ h => ?_⟩
    walk_at "go"
    rw [List.length_map, lq]
    refine fsp_call (c, (sn : Int), (nq : Int)) (.cons .z (.cons .z (.cons .z .nil))) ⟨by show (0 : Int) < sn; omega, by show (0 : Int) < nq; omega⟩ ?_
    exact h
  have shqs : ∀ q ∈ qs, q.path ≠ [] ∧ ∀ x ∈ q.path, PyData.strOk x = true := by
    intro q hq
    rw [← hqs] at hq
    obtain ⟨k, _, rfl⟩ := List.mem_map.mp hq
    have hb6 := fmod_b (a := c1.fmod 1009 + k) (b := 6) (by decide)
    refine ⟨fun e => ?_, fun x hx => ?_⟩
    · have := congrArg List.length e
      simp [questBy, pathBy] at this
      omega
    · simp only [questBy, pathBy, List.mem_map] at hx
      obtain ⟨j, _, rfl⟩ := hx
      exact nameBy_ok _ _ _
  have lc := cutL_len ns (some 3) (some 83)
  generalize hths : (cutL ns (some 3) (some 83)).map (fun i => thingBy i sn nq) = ths
  have e1 : (cutL ns (some 3) (some 83)).map (fun i => D.z (eThing (thingBy i sn nq))) = ths.map fun x => .z (eThing x) := by rw [← hths, List.map_map]; rfl
  rw [e1]
  have l80 : ths.length ≤ 80 := by rw [← hths, List.length_map]; omega
  have hts : ∀ q, Thing.sort q ∈ ths → 0 ≤ q ∧ q < qs.length := by
    intro q hq
    rw [← hths] at hq
    obtain ⟨i, _, hi⟩ := List.mem_map.mp hq
    unfold thingBy at hi
    dsimp only at hi
    split at hi
    · cases hi
    · split at hi
      · cases hi
        rw [lq]
        exact fmod_b (by omega)
      · cases hi
  walk_at "go"
  have e2 : PyData.eqv (.list (ths.map eThing)) (.list []) = decide (ths = []) := by
    cases ths <;> rfl
  refine eq_dec (.r (by simp) (Vws.map _ _)) (.r sto_last .nil) (n := 3) (.lists fun t _ => shT t) (.list fun d hd => by cases hd) (by decide) e2 ?_
  walk_at "go"
  refine pIf.mk (fun c => ?_) (fun c => ?_)
  · walk_at "go"
    refine fin qs [.part ((sn : Int) - 1)] ⟨by omega, fun q hq => (shqs q hq).1, fun q hq => (shqs q hq).2, by simp, by simp, fun q hq => by simp at hq⟩ sn (by omega) _ _ ?_
    exact sto_last
  · have c := of_decide_eq_false c
    walk_at "go"
    refine fin qs ths ⟨by omega, fun q hq => (shqs q hq).1, fun q hq => (shqs q hq).2, c, l80, hts⟩ sn (by omega) _ _ ?_
    simp
end
end K10

set_option Elab.async false
set_option linter.all false
set_option maxHeartbeats 4000000
set_option maxRecDepth 100000
namespace K10
open PySem PySem.Spec PyProof.Rows L2 PL
def fn : List He.DefD := [dd "inside" st_inside, dd "_law_cell_at" st__law_cell_at, dd "_law_whole" st__law_whole, dd "_law_thing" st__law_thing, dd "_law_questions" st__law_questions, dd "_law_answers" st__law_answers, dd "_law_inside" st__law_inside, dd "_law_told" st__law_told, dd "law" st_law]
def fa0 : List He.Fa := [.glo "inside", .glo "_law_cell_at", .glo "_law_whole", .glo "_law_thing", .glo "_law_questions", .glo "_law_answers", .glo "_law_inside", .glo "_law_told", .glo "law", .free "len", .free "int", .free "isinstance", .free "bool", .free "range", .free "tuple", .free "str", .free "list"]
def fa : List He.Fa := fa0
def loose : List PySem.Str := ["inside", "_law_cell_at", "_law_whole", "_law_thing", "_law_questions", "_law_answers", "_law_inside", "_law_told"]
abbrev R : PySem.W.OpenRow := PySem.W.OpenLaw.row PySem.Challenge.rw_namepaths_k10_what_is_in_a_thing
abbrev hk : PySem.W.Hook := hookP 4 fa fn
def ob (s : PySem.W.SharedT) : Bool × He.AlD := obsPG 4 fa fn (HandSHeadRun.getT s)
theorem ob_eq (s : PySem.W.SharedT) : ob s = hk.obs s.abs := obsPG_eq (HandSHeadRun.getT_eq s)
theorem run (w : World) : HandSHeadRun.RunEq R (PySem.W.view R.prog [10]) hk ob 2000 loose w := by
  intro os
  kernel_rfl
theorem facts {P : Program} {w : World} {K : PySem.W.Frag} {h : Heap} {mg : Str → Option Value} (X : K.In h) (G : h.Ns mainGlobals mg) (c0 : SaysP fa fn K) :
    ∃ fd, FunD K "law" "law" (defArgs st_law) (defBody st_law) (defScope st_law) [] [] (He.fAd K ("law", none)) fd ∧ mg ("law" : Str) = some (.ref (He.fAd K ("law", none))) ∧ ∀ base : Heap, FnOk P w K mg base (L2.CX P w) 3 (He.fAd K ("law", none)) fd ["_law_script"] (spOf lawSp) := by
  have c := c0.sd
  have T : Txt mg := ⟨He.free_ok X G (c.fact 9 (f := .free "len") rfl), He.free_ok X G (c.fact 10 (f := .free "int") rfl), He.free_ok X G (c.fact 11 (f := .free "isinstance") rfl), He.free_ok X G (c.fact 12 (f := .free "bool") rfl), He.free_ok X G (c.fact 13 (f := .free "range") rfl), He.free_ok X G (c.fact 14 (f := .free "tuple") rfl), He.free_ok X G (c.fact 15 (f := .free "str") rfl), He.free_ok X G (c.fact 16 (f := .free "list") rfl)⟩
  obtain ⟨fd_inside, D_inside⟩ := c.def_ 0 (d := dd "inside" st_inside) rfl
  obtain ⟨fd__law_cell_at, D__law_cell_at⟩ := c.def_ 1 (d := dd "_law_cell_at" st__law_cell_at) rfl
  obtain ⟨fd__law_whole, D__law_whole⟩ := c.def_ 2 (d := dd "_law_whole" st__law_whole) rfl
  obtain ⟨fd__law_thing, D__law_thing⟩ := c.def_ 3 (d := dd "_law_thing" st__law_thing) rfl
  obtain ⟨fd__law_questions, D__law_questions⟩ := c.def_ 4 (d := dd "_law_questions" st__law_questions) rfl
  obtain ⟨fd__law_answers, D__law_answers⟩ := c.def_ 5 (d := dd "_law_answers" st__law_answers) rfl
  obtain ⟨fd__law_inside, D__law_inside⟩ := c.def_ 6 (d := dd "_law_inside" st__law_inside) rfl
  obtain ⟨fd__law_told, D__law_told⟩ := c.def_ 7 (d := dd "_law_told" st__law_told) rfl
  obtain ⟨fd_law, D_law⟩ := c.def_ 8 (d := dd "law" st_law) rfl
  refine ⟨fd_law, D_law, He.glo_ok X G (c.fact 8 (f := .glo "law") rfl), fun base => ?_⟩
  have c_inside : Fc P w K mg base "inside" 1 ["net", "answers", "thing"] (frz F_inside) := Fc.frz (fc_mk (st := st_inside) X G D_inside (ok_inside (fun_of D_inside) T (fsp_len fun _ => rfl) pu_inside) (c.fact 0 (f := .glo "inside") rfl) fun _ _ _ _ _ _ us hl => match us, hl with | [_, _, _], _ => rfl)
  have c__law_cell_at : Fc P w K mg base "_law_cell_at" 1 ["_law_script", "_law_k"] (frz F_cell) := Fc.frz (fc_mk (st := st__law_cell_at) X G D__law_cell_at (ok__law_cell_at (fun_of D__law_cell_at) T (fsp_len fun _ => rfl) pu_cell) (c.fact 1 (f := .glo "_law_cell_at") rfl) fun _ _ _ _ _ _ us hl => match us, hl with | [_, _], _ => rfl)
  have c__law_whole : Fc P w K mg base "_law_whole" 1 ["_law_found"] (frz F_whole) := Fc.frz (fc_mk (st := st__law_whole) X G D__law_whole (ok__law_whole (fun_of D__law_whole) T (fsp_len fun _ => rfl) pu_whole) (c.fact 2 (f := .glo "_law_whole") rfl) fun _ _ _ _ _ _ us hl => match us, hl with | [_], _ => rfl)
  have c__law_thing : Fc P w K mg base "_law_thing" 1 ["_law_cell", "_law_scopes", "_law_questions_here"] (frz F_thing) := Fc.frz (fc_mk (st := st__law_thing) X G D__law_thing (ok__law_thing (fun_of D__law_thing) T (fsp_len fun _ => rfl) pu_thing) (c.fact 3 (f := .glo "_law_thing") rfl) fun _ _ _ _ _ _ us hl => match us, hl with | [_, _, _], _ => rfl)
  have c__law_questions : Fc P w K mg base "_law_questions" 1 ["_law_cell", "_law_many", "_law_scopes"] (frz F_questions) := Fc.frz (fc_mk (st := st__law_questions) X G D__law_questions (ok__law_questions (fun_of D__law_questions) T (fsp_len fun _ => rfl) pu_questions) (c.fact 4 (f := .glo "_law_questions") rfl) fun _ _ _ _ _ _ us hl => match us, hl with | [_, _, _], _ => rfl)
  have c__law_inside : Fc P w K mg base "_law_inside" 1 ["_law_net", "_law_answers_here", "_law_number"] (frz F_inside) := Fc.frz (fc_mk (st := st__law_inside) X G D__law_inside (ok__law_inside (fun_of D__law_inside) T (fsp_len fun _ => rfl) pu_law_inside) (c.fact 6 (f := .glo "_law_inside") rfl) fun _ _ _ _ _ _ us hl => match us, hl with | [_, _, _], _ => rfl)
  have c__law_answers : Fc P w K mg base "_law_answers" 2 ["_law_cell", "_law_script", "_law_questions_here", "_law_things"] (frr F_answers) := Fc.frr (fc_mk (st := st__law_answers) X G D__law_answers (ok__law_answers (fun_of D__law_answers) T c__law_cell_at (fsr_len fun _ => rfl) pu_answers) (c.fact 5 (f := .glo "_law_answers") rfl) fun _ _ _ _ _ _ us hl => match us, hl with | [_, _, _, _], _ => rfl)
  have c__law_told : Fc P w K mg base "_law_told" 2 ["_law_found", "_law_due"] (frz F_told) := Fc.frz (fc_mk (st := st__law_told) X G D__law_told (ok__law_told (fun_of D__law_told) T c__law_whole (fsp_len fun _ => rfl) pu_told) (c.fact 7 (f := .glo "_law_told") rfl) fun _ _ _ _ _ _ us hl => match us, hl with | [_, _], _ => rfl)
  exact ok_law (fun_of D_law) T c__law_cell_at c__law_questions c__law_thing c__law_answers c__law_inside c_inside c__law_told (by rintro ds S K KX ⟨ns, rfl, _⟩; rfl) pu_law
end K10
open PySem PySem.W PySem.Calls PyProof.Rows
set_option maxRecDepth 100000 in
set_option maxHeartbeats 0 in
theorem PySem.Challenge.cw_namepaths_k10_what_is_in_a_thing_holds : PySem.Challenge.rw_namepaths_k10_what_is_in_a_thing.Holds := by
  w_on; o_law
  refine HandSHeadRun.head_any (r := OpenLaw.row PySem.Challenge.rw_namepaths_k10_what_is_in_a_thing) (q := view (OpenLaw.row PySem.Challenge.rw_namepaths_k10_what_is_in_a_thing).prog [10]) (H := K10.hk) (ob := K10.ob) (M := 2000) (loose := K10.loose) (d := HandSHeadRun.topDef (OpenLaw.row PySem.Challenge.rw_namepaths_k10_what_is_in_a_thing).prog 10) (kwd := []) K10.ob_eq
    (by kernel_rfl) (fun s => by kernel_rfl) K10.run (by kernel_rfl) (by kernel_rfl) (by kernel_rfl) (by rfl) (by first | assumption | decide +kernel) (by decide +kernel) ⟨rfl, rfl, rfl, rfl, rfl, by decide +kernel⟩ ?hw ?hc
  case hw => w_witness2
  case hc =>
    refine PL.pl_end (l := PySem.Challenge.rw_namepaths_k10_what_is_in_a_thing) (k := 3) (x := "_law_script") (st := K10.st_law) rfl (by kernel_rfl) (by kernel_rfl) ⟨rfl, by decide, by decide⟩ (fun _ _ _ _ _ _ us hl => match us, hl with | [_], _ => rfl) ?_
    intro w K h mg KX G c
    exact K10.facts KX G c
#print axioms PySem.Challenge.cw_namepaths_k10_what_is_in_a_thing_holds

