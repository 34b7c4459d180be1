import PyProof.Rows.All
import Wide.All
import OpenK.AllK
import Wide.FinOn
import HandS.ForMost
import HandS.ForExc
import HandS.Walk
import HandS.CallSlots
import HandS.Deep
import HandS.Flow
import HandS.TupAny
import HandS.IsInst
import HandS.More
import HandS.Small
import HandS.List
import HandS.TupLe
import HandS.Text
import HandS.Zip
import HandS.Head0
import HandS.Head1
import HandS.Head2
import HandS.Defaults
import HandS.HeadEnd
import HandS.HeadHook1
import HandS.HeadHook2
import HandS.Exc
import HandS.ExcOwn
import HandS.ExcIs
import HandS.TryOnly
import HandS.WordsExc
import PySem.Challenge.RW_namepaths_k17_whole_nets_judged
import KE.KStateDown
set_option Elab.async false
set_option linter.all false
set_option maxRecDepth 100000
/-! PL, part 1: pure data over a numbered store; how they stand in the abstract heap -/
namespace PL
open PySem L2

/-- built-in types that are named -/
inductive Ty where
  | int | bool | str | list | tuple | dict | none
def Ty.s : Ty → String
  | .int => "int" | .bool => "bool" | .str => "str" | .list => "list" | .tuple => "tuple" | .dict => "dict" | .none => "NoneType"
/-- a value: z frozen data for good, b data lent by a caller, r the n-th object of the store, t a tuple of such, o an address that is just handed about (a class, an exception) -/
inductive D where
  | z (d : PyData) | b (d : PyData) | r (n : Nat) | t (ds : List D) | o (a : Addr) | y (T : Ty)
/-- an object of the store -/
inductive Ob where
  | lst (ds : List D)
  | dic (kvs : List (Key × D))
abbrev Env := List (Option D)
abbrev Sto := List Ob
/-- an exception: its class, its fields (where it has its own __init__) -/
structure Ex where
  c : Value
  fs : Option (List (Str × D))

def Sub (H H' : Hp) : Prop := ∀ a o, H a = some o → H' a = some o
theorem Sub.refl (H : Hp) : Sub H H := fun _ _ h => h
theorem Sub.trans {H H1 H2 : Hp} (a : Sub H H1) (b : Sub H1 H2) : Sub H H2 := fun c o h => b c o (a c o h)
theorem Sub.non {H H' : Hp} (e : Sub H H') {a : Addr} (h : H' a = none) : H a = none := by
  cases q : H a with
  | none => rfl
  | some o => rw [e a o q] at h; cases h
theorem Sub.new {H : Hp} {p : Addr} {o : HO} (h : H p = none) : Sub H (upd H p o) := fun a u e => by
  rw [upd_ne (ne_of_none e h)]; exact e
theorem Sub.up {H H' : Hp} {p : Addr} {o : HO} (e : Sub H H') (h : H p = none) : Sub H (upd H' p o) := fun a u ha => by
  rw [upd_ne (ne_of_none ha h)]; exact e a u ha
theorem Sub.up2 {F H : Hp} {p : Addr} {o : HO} (e : Sub F H) : Sub (upd F p o) (upd H p o) := fun a u ha => by
  by_cases h : a = p
  · subst h; rw [upd_same] at ha ⊢; exact ha
  · rw [upd_ne h] at ha ⊢; exact e a u ha
theorem Sub.rd {H H' : Hp} {a : Addr} {u : HO} (e : Sub H H') (h : Rd H a u) : Rd H' a u := by
  rcases h with h | ⟨o, h⟩
  · exact .inl (e a _ h)
  · exact .inr ⟨o, e a _ h⟩

/-! ### data -/
abbrev Lk := Addr → List V → Prop
mutual
inductive RpT (L T : Lk) : PyData → V → Prop
  | non : RpT L T .none .non
  | bl (b : Bool) : RpT L T (.bool b) (.bl b)
  | int (i : Int) : RpT L T (.int i) (.int i)
  | str (x : Str) : RpT L T (.str x) (.str x)
  | lst {a : Addr} {vs : List V} {ds : List PyData} : L a vs → RpTs L T ds vs → RpT L T (.list ds) (.ref a)
  | tup {a : Addr} {vs : List V} {ds : List PyData} : T a vs → RpTs L T ds vs → RpT L T (.tuple ds) (.ref a)
inductive RpTs (L T : Lk) : List PyData → List V → Prop
  | nil : RpTs L T [] []
  | cons {d : PyData} {ds : List PyData} {v : V} {vs : List V} : RpT L T d v → RpTs L T ds vs → RpTs L T (d :: ds) (v :: vs)
end
section
variable {L T L' T' : Lk}
mutual
theorem RpT.mono (hl : ∀ a vs, L a vs → L' a vs) (ht : ∀ a vs, T a vs → T' a vs) : ∀ (d : PyData) (v : V), RpT L T d v → RpT L' T' d v
  | .none, _, h => by cases h; exact .non
  | .bool _, _, h => by cases h; exact .bl _
  | .int _, _, h => by cases h; exact .int _
  | .str _, _, h => by cases h; exact .str _
  | .list ds, _, h => by cases h with | lst a b => exact .lst (hl _ _ a) (RpTs.mono hl ht ds _ b)
  | .tuple ds, _, h => by cases h with | tup a b => exact .tup (ht _ _ a) (RpTs.mono hl ht ds _ b)
  | .dict _, _, h => by cases h
theorem RpTs.mono (hl : ∀ a vs, L a vs → L' a vs) (ht : ∀ a vs, T a vs → T' a vs) : ∀ (ds : List PyData) (vs : List V), RpTs L T ds vs → RpTs L' T' ds vs
  | [], _, h => by cases h; exact .nil
  | d :: ds, _, h => by cases h with | cons a b => exact .cons (RpT.mono hl ht d _ a) (RpTs.mono hl ht ds _ b)
end
/-! no list within -/
mutual
def flatT : PyData → Bool
  | .list _ => false
  | .tuple ds => flatTs ds
  | .dict _ => false
  | _ => true
def flatTs : List PyData → Bool
  | [] => true
  | d :: ds => flatT d && flatTs ds
end
mutual
theorem RpT.flat (ht : ∀ a vs, T a vs → T' a vs) : ∀ (d : PyData) (v : V), flatT d = true → RpT L T d v → RpT L' T' d v
  | .none, _, _, h => by cases h; exact .non
  | .bool _, _, _, h => by cases h; exact .bl _
  | .int _, _, _, h => by cases h; exact .int _
  | .str _, _, _, h => by cases h; exact .str _
  | .list ds, _, f, _ => by simp [flatT] at f
  | .tuple ds, _, f, h => by cases h with | tup a b => exact .tup (ht _ _ a) (RpTs.flat ht ds _ (by simpa [flatT] using f) b)
  | .dict _, _, _, h => by cases h
theorem RpTs.flat (ht : ∀ a vs, T a vs → T' a vs) : ∀ (ds : List PyData) (vs : List V), flatTs ds = true → RpTs L T ds vs → RpTs L' T' ds vs
  | [], _, _, h => by cases h; exact .nil
  | d :: ds, _, f, h => by
    simp only [flatTs, Bool.and_eq_true] at f
    cases h with | cons a b => exact .cons (RpT.flat ht d _ f.1 a) (RpTs.flat ht ds _ f.2 b)
end
theorem RpTs.length : ∀ {ds : List PyData} {vs : List V}, RpTs L T ds vs → ds.length = vs.length
  | [], _, h => by cases h; rfl
  | d :: ds, _, h => by cases h with | cons a b => simp [RpTs.length b]
theorem RpTs.get : ∀ {ds : List PyData} {vs : List V} {i : Nat} {d : PyData}, RpTs L T ds vs → ds[i]? = some d → ∃ v, vs[i]? = some v ∧ RpT L T d v
  | [], _, _, _, _, e => by simp at e
  | d :: ds, _, 0, _, h, e => by cases h with | cons a b => simp at e; subst e; exact ⟨_, rfl, a⟩
  | d :: ds, _, i + 1, x, h, e => by
    cases h with
    | cons a b =>
      obtain ⟨v, h1, h2⟩ := RpTs.get (i := i) (d := x) b (by simpa using e)
      exact ⟨v, by simpa using h1, h2⟩
end

def LF (F : Hp) : Lk := fun a vs => F a = some (.lst vs)
def TF (F : Hp) : Lk := fun a vs => F a = some (.tup vs)
def LB (B F : Hp) : Lk := fun a vs => Rd F a (.lst vs) ∨ Rd B a (.lst vs)
mutual
inductive RpD (B F : Hp) (μ : Nat → Addr) (n : Nat) : D → V → Prop
  | z {d : PyData} {v : V} : RpT (LF F) (TF F) d v → RpD B F μ n (.z d) v
  | b {d : PyData} {v : V} : RpT (LB B F) (TF F) d v → RpD B F μ n (.b d) v
  | r {i : Nat} : i < n → RpD B F μ n (.r i) (.ref (μ i))
  | t {a : Addr} {ds : List D} {vs : List V} : F a = some (.tup vs) → RpDs B F μ n ds vs → RpD B F μ n (.t ds) (.ref a)
  | o {a : Addr} : RpD B F μ n (.o a) (.ref a)
  | y {T : Ty} : RpD B F μ n (.y T) (.ty T.s)
inductive RpDs (B F : Hp) (μ : Nat → Addr) (n : Nat) : List D → List V → Prop
  | nil : RpDs B F μ n [] []
  | cons {d : D} {ds : List D} {v : V} {vs : List V} : RpD B F μ n d v → RpDs B F μ n ds vs → RpDs B F μ n (d :: ds) (v :: vs)
end
section
variable {B F F' : Hp} {μ μ' : Nat → Addr} {n n' : Nat}
mutual
theorem RpD.mono (hF : Sub F F') (hn : n ≤ n') (hm : ∀ i, i < n → μ' i = μ i) : ∀ (d : D) (v : V), RpD B F μ n d v → RpD B F' μ' n' d v
  | .z d, _, h => by cases h with | z a => exact .z (RpT.mono (fun _ _ q => hF _ _ q) (fun _ _ q => hF _ _ q) _ _ a)
  | .b d, _, h => by
    cases h with
    | b a =>
      refine .b (RpT.mono (fun _ _ q => ?_) (fun _ _ q => hF _ _ q) _ _ a)
      rcases q with q | q
      · exact .inl (hF.rd q)
      · exact .inr q
  | .r i, _, h => by cases h with | r a => rw [← hm i a]; exact .r (Nat.lt_of_lt_of_le a hn)
  | .t ds, _, h => by cases h with | t a b => exact .t (hF _ _ a) (RpDs.mono hF hn hm ds _ b)
  | .o a, _, h => by cases h; exact .o
  | .y a, _, h => by cases h; exact .y
theorem RpDs.mono (hF : Sub F F') (hn : n ≤ n') (hm : ∀ i, i < n → μ' i = μ i) : ∀ (ds : List D) (vs : List V), RpDs B F μ n ds vs → RpDs B F' μ' n' ds vs
  | [], _, h => by cases h; exact .nil
  | d :: ds, _, h => by cases h with | cons a b => exact .cons (RpD.mono hF hn hm d _ a) (RpDs.mono hF hn hm ds _ b)
end
theorem RpDs.length : ∀ {ds : List D} {vs : List V}, RpDs B F μ n ds vs → ds.length = vs.length
  | [], _, h => by cases h; rfl
  | d :: ds, _, h => by cases h with | cons a b => simp [RpDs.length b]
theorem RpDs.get : ∀ {ds : List D} {vs : List V} {i : Nat} {d : D}, RpDs B F μ n ds vs → ds[i]? = some d → ∃ v, vs[i]? = some v ∧ RpD B F μ n d v
  | [], _, _, _, _, e => by simp at e
  | d :: ds, _, 0, _, h, e => by cases h with | cons a b => simp at e; subst e; exact ⟨_, rfl, a⟩
  | d :: ds, _, i + 1, x, h, e => by
    cases h with
    | cons a b =>
      obtain ⟨v, h1, h2⟩ := RpDs.get (i := i) (d := x) b (by simpa using e)
      exact ⟨v, by simpa using h1, h2⟩
theorem RpDs.getV : ∀ {ds : List D} {vs : List V} {i : Nat} {v : V}, RpDs B F μ n ds vs → vs[i]? = some v → ∃ d, ds[i]? = some d ∧ RpD B F μ n d v
  | [], _, _, _, h, e => by cases h; simp at e
  | d :: ds, _, 0, _, h, e => by cases h with | cons a b => simp at e; subst e; exact ⟨_, rfl, a⟩
  | d :: ds, _, i + 1, x, h, e => by
    cases h with
    | cons a b =>
      obtain ⟨v, h1, h2⟩ := RpDs.getV (i := i) (v := x) b (by simpa using e)
      exact ⟨v, by simpa using h1, h2⟩
theorem RpDs.append : ∀ {ds es : List D} {vs us : List V}, RpDs B F μ n ds vs → RpDs B F μ n es us → RpDs B F μ n (ds ++ es) (vs ++ us)
  | [], _, _, _, h, k => by cases h; exact k
  | d :: ds, _, _, _, h, k => by cases h with | cons a b => exact .cons a (RpDs.append b k)
theorem RpDs.take : ∀ {ds : List D} {vs : List V} (k : Nat), RpDs B F μ n ds vs → RpDs B F μ n (ds.take k) (vs.take k)
  | _, _, 0, _ => .nil
  | [], _, _ + 1, h => by cases h; exact .nil
  | d :: ds, _, k + 1, h => by cases h with | cons a b => exact .cons a (RpDs.take k b)
theorem RpDs.drop : ∀ {ds : List D} {vs : List V} (k : Nat), RpDs B F μ n ds vs → RpDs B F μ n (ds.drop k) (vs.drop k)
  | _, _, 0, h => h
  | [], _, _ + 1, h => by cases h; exact .nil
  | d :: ds, _, k + 1, h => by cases h with | cons a b => exact RpDs.drop k b
theorem RpDs.set {d : D} {v : V} (hd : RpD B F μ n d v) : ∀ {ds : List D} {vs : List V} (k : Nat), RpDs B F μ n ds vs → RpDs B F μ n (ds.set k d) (vs.set k v)
  | [], _, _, h => by cases h; exact .nil
  | e :: ds, _, 0, h => by cases h with | cons a b => exact .cons hd b
  | e :: ds, _, k + 1, h => by cases h with | cons a b => exact .cons a (RpDs.set hd k b)
theorem RpDs.erase : ∀ {ds : List D} {vs : List V} (k : Nat), RpDs B F μ n ds vs → RpDs B F μ n (ds.eraseIdx k) (vs.eraseIdx k)
  | [], _, _, h => by cases h; exact .nil
  | e :: ds, _, 0, h => by cases h with | cons a b => exact b
  | e :: ds, _, k + 1, h => by cases h with | cons a b => exact .cons a (RpDs.erase k b)
theorem RpDs.rev {ds : List D} {vs : List V} (h : RpDs B F μ n ds vs) : RpDs B F μ n ds.reverse vs.reverse := by
  induction ds generalizing vs with
  | nil => cases h; exact .nil
  | cons d ds ih => cases h with | cons a b => rw [List.reverse_cons, List.reverse_cons]; exact (ih b).append (.cons a .nil)
theorem RpDs.dropLast {ds : List D} {vs : List V} (h : RpDs B F μ n ds vs) : RpDs B F μ n ds.dropLast vs.dropLast := by
  rw [List.dropLast_eq_take, List.dropLast_eq_take, h.length]
  exact h.take _
/-- frozen data as a row of values -/
theorem RpDs.zs : ∀ {ds : List PyData} {vs : List V}, RpTs (LF F) (TF F) ds vs → RpDs B F μ n (ds.map .z) vs
  | [], _, h => by cases h; exact .nil
  | d :: ds, _, h => by cases h with | cons a b => exact .cons (.z a) (RpDs.zs b)
/-- lent data: what has no list in it is for good -/
def bz (d : PyData) : D := if flatT d = true then .z d else .b d
theorem RpD.bz {d : PyData} {v : V} (h : RpT (LB B F) (TF F) d v) : RpD B F μ n (bz d) v := by
  unfold PL.bz
  split
  · rename_i f
    exact .z (RpT.flat (fun _ _ q => q) d v f h)
  · exact .b h
theorem RpDs.bzs : ∀ {ds : List PyData} {vs : List V}, RpTs (LB B F) (TF F) ds vs → RpDs B F μ n (ds.map PL.bz) vs
  | [], _, h => by cases h; exact .nil
  | d :: ds, _, h => by cases h with | cons a b => exact .cons (RpD.bz a) (RpDs.bzs b)
end

/-! ### an object of the store; the whole state -/
def ObRp (B F : Hp) (μ : Nat → Addr) (n : Nat) (H : Hp) (a : Addr) : Ob → Prop
  | .lst ds => ∃ vs, H a = some (.lst vs) ∧ RpDs B F μ n ds vs
  | .dic kvs => ∃ ws, H a = some (.dK ws) ∧ Paired (fun (p : Key × D) (q : Key × V) => p.1 = q.1 ∧ RpD B F μ n p.2 q.2) kvs ws
theorem ObRp.there {B F H : Hp} {μ : Nat → Addr} {n : Nat} {a : Addr} {o : Ob} (h : ObRp B F μ n H a o) : ∃ u, H a = some u ∧ Mut (some u) := by
  cases o with
  | lst ds => obtain ⟨vs, e, _⟩ := h; exact ⟨_, e, trivial⟩
  | dic kvs => obtain ⟨vs, e, _⟩ := h; exact ⟨_, e, trivial⟩
theorem ObRp.mono {B F F' H H' : Hp} {μ μ' : Nat → Addr} {n n' : Nat} {a : Addr} {o : Ob} (hF : Sub F F') (hn : n ≤ n') (hm : ∀ i, i < n → μ' i = μ i) (ha : H' a = H a) (h : ObRp B F μ n H a o) : ObRp B F' μ' n' H' a o := by
  cases o with
  | lst ds => obtain ⟨vs, e, r⟩ := h; exact ⟨vs, ha.trans e, RpDs.mono hF hn hm _ _ r⟩
  | dic kvs => obtain ⟨ws, e, r⟩ := h; exact ⟨ws, ha.trans e, Paired.mapP r fun p q z => ⟨z.1, RpD.mono hF hn hm _ _ z.2⟩⟩

/-- the state: B stays (all that stood at the def's entry but the store's own), F0 what was frozen for good at the entry, μ where the store's objects stand, F what is frozen for good -/
structure Rl (B F0 : Hp) (μ : Nat → Addr) (S : Sto) (F H : Hp) : Prop where
  bh : Sub B H
  fh : Sub F H
  f0 : Sub F0 F
  fn : ∀ a o, F a = some o → F0 a = some o ∨ B a = none
  inj : ∀ i j, i < S.length → j < S.length → μ i = μ j → i = j
  nb : ∀ i, i < S.length → B (μ i) = none
  nf : ∀ i, i < S.length → F (μ i) = none
  ob : ∀ i o, S[i]? = some o → ObRp B F μ S.length H (μ i) o
/-- a later state -/
structure Xt (μ : Nat → Addr) (S : Sto) (F : Hp) (μ' : Nat → Addr) (S' : Sto) (F' : Hp) : Prop where
  f : Sub F F'
  n : S.length ≤ S'.length
  m : ∀ i, i < S.length → μ' i = μ i
section
variable {B F0 F F' F'' H H' : Hp} {μ μ' μ'' : Nat → Addr} {S S' S'' : Sto}
theorem Xt.refl : Xt μ S F μ S F := ⟨Sub.refl _, Nat.le_refl _, fun _ _ => rfl⟩
theorem Xt.trans (a : Xt μ S F μ' S' F') (b : Xt μ' S' F' μ'' S'' F'') : Xt μ S F μ'' S'' F'' :=
  ⟨a.f.trans b.f, Nat.le_trans a.n b.n, fun i h => (b.m i (Nat.lt_of_lt_of_le h a.n)).trans (a.m i h)⟩
theorem RpD.xt {d : D} {v : V} (h : RpD B F μ S.length d v) (x : Xt μ S F μ' S' F') : RpD B F' μ' S'.length d v := RpD.mono x.f x.n x.m d v h
theorem RpDs.xt {d : List D} {v : List V} (h : RpDs B F μ S.length d v) (x : Xt μ S F μ' S' F') : RpDs B F' μ' S'.length d v := RpDs.mono x.f x.n x.m d v h
theorem Rl.there (R : Rl B F0 μ S F H) {i : Nat} {o : Ob} (h : S[i]? = some o) : ∃ u, H (μ i) = some u ∧ Mut (some u) := (R.ob i o h).there
theorem Rl.lt {i : Nat} {o : Ob} (h : S[i]? = some o) : i < S.length := (List.getElem?_eq_some_iff.mp h).1
theorem Rl.has (R : Rl B F0 μ S F H) {i : Nat} (h : i < S.length) : ∃ u, H (μ i) = some u := by
  obtain ⟨u, e, _⟩ := R.there (List.getElem?_eq_getElem h)
  exact ⟨u, e⟩
/-- a new object frozen for good -/
theorem Rl.froze (R : Rl B F0 μ S F H) {p : Addr} (u : HO) (hp : H p = none) : Rl B F0 μ S (upd F p u) (upd H p u) ∧ Xt μ S F μ S (upd F p u) := by
  have hF : F p = none := R.fh.non hp
  have hB : B p = none := R.bh.non hp
  have ne : ∀ i, i < S.length → μ i ≠ p := fun i hi e => by
    obtain ⟨o, ho⟩ := R.has hi
    rw [e, hp] at ho; cases ho
  refine ⟨⟨R.bh.trans (Sub.new hp), R.fh.up2, R.f0.trans (Sub.new hF), fun a o e => ?_, R.inj, R.nb, fun i hi => by rw [upd_ne (ne i hi)]; exact R.nf i hi, fun i o h => ?_⟩, ⟨Sub.new hF, Nat.le_refl _, fun _ _ => rfl⟩⟩
  · by_cases h : a = p
    · subst h; exact .inr hB
    · rw [upd_ne h] at e; exact R.fn a o e
  · exact (R.ob i o h).mono (Sub.new hF) (Nat.le_refl _) (fun _ _ => rfl) (by rw [upd_ne (ne i (Rl.lt h))])
/-- a new object of the store -/
def muX (μ : Nat → Addr) (n : Nat) (p : Addr) : Nat → Addr := fun i => if i = n then p else μ i
theorem Rl.grow (R : Rl B F0 μ S F H) {p : Addr} {u : HO} {o : Ob} (hp : H p = none) (ho : ∀ G : Hp, G p = some u → ObRp B F μ S.length G p o) : Rl B F0 (muX μ S.length p) (S ++ [o]) F (upd H p u) ∧ Xt μ S F (muX μ S.length p) (S ++ [o]) F := by
  have hF : F p = none := R.fh.non hp
  have hB : B p = none := R.bh.non hp
  have mo : ∀ i, i < S.length → muX μ S.length p i = μ i := fun i hi => by unfold muX; rw [if_neg (Nat.ne_of_lt hi)]
  have mn : muX μ S.length p S.length = p := by unfold muX; rw [if_pos rfl]
  have ne : ∀ i, i < S.length → μ i ≠ p := fun i hi e => by
    obtain ⟨o, ho⟩ := R.has hi
    rw [e, hp] at ho; cases ho
  have hl : (S ++ [o]).length = S.length + 1 := by simp
  have sp : ∀ i, i < S.length + 1 → i < S.length ∨ i = S.length := fun i h => by omega
  refine ⟨⟨R.bh.trans (Sub.new hp), R.fh.trans (Sub.new hp), R.f0, R.fn, fun i j hi hj e => ?_, fun i hi => ?_, fun i hi => ?_, fun i o' h => ?_⟩, ⟨Sub.refl _, by rw [hl]; omega, mo⟩⟩
  · rw [hl] at hi hj
    rcases sp i hi with hi | rfl
    · rcases sp j hj with hj | rfl
      · rw [mo i hi, mo j hj] at e; exact R.inj i j hi hj e
      · rw [mo i hi, mn] at e; exact absurd e (ne i hi)
    · rcases sp j hj with hj | rfl
      · rw [mo j hj, mn] at e; exact absurd e.symm (ne j hj)
      · rfl
  · rw [hl] at hi
    rcases sp i hi with hi | rfl
    · rw [mo i hi]; exact R.nb i hi
    · rw [mn]; exact hB
  · rw [hl] at hi
    rcases sp i hi with hi | rfl
    · rw [mo i hi]; exact R.nf i hi
    · rw [mn]; exact hF
  · rw [hl]
    by_cases hi : i < S.length
    · rw [List.getElem?_append_left hi] at h
      rw [mo i hi]
      exact (R.ob i o' h).mono (Sub.refl _) (Nat.le_succ _) mo (by rw [upd_ne (ne i hi)])
    · have e : i = S.length := by
        have := Rl.lt h
        rw [hl] at this; omega
      subst e
      rw [List.getElem?_append_right (Nat.le_refl _), Nat.sub_self] at h
      cases h
      rw [mn]
      exact (ho (upd H p u) upd_same).mono (Sub.refl _) (Nat.le_succ _) mo rfl
/-- an object of the store is written -/
theorem Rl.write (R : Rl B F0 μ S F H) {n : Nat} {u : HO} {o : Ob} (hn : n < S.length) (ho : ∀ G : Hp, G (μ n) = some u → ObRp B F μ S.length G (μ n) o) : Rl B F0 μ (S.set n o) F (upd H (μ n) u) ∧ Xt μ S F μ (S.set n o) F := by
  have hl : (S.set n o).length = S.length := by simp
  refine ⟨⟨R.bh.up (R.nb n hn), R.fh.up (R.nf n hn), R.f0, R.fn, fun i j hi hj e => R.inj i j (hl ▸ hi) (hl ▸ hj) e, fun i hi => R.nb i (hl ▸ hi), fun i hi => R.nf i (hl ▸ hi), fun i o' h => ?_⟩, ⟨Sub.refl _, by rw [hl]; exact Nat.le_refl _, fun _ _ => rfl⟩⟩
  rw [hl]
  by_cases hi : i = n
  · subst hi
    rw [List.getElem?_set_self hn] at h
    cases h
    exact ho _ upd_same
  · rw [List.getElem?_set_ne (Ne.symm hi)] at h
    exact (R.ob i o' h).mono (Sub.refl _) (Nat.le_refl _) (fun _ _ => rfl) (by rw [upd_ne fun e => hi (R.inj i n (Rl.lt h) hn e)])
end

/-! ### the def's names -/
def EnvR (B F : Hp) (μ : Nat → Addr) (n : Nat) : Env → St → Prop := Paired fun e s => ∀ d, e = some d → ∃ v, s = some v ∧ RpD B F μ n d v
section
variable {B F0 F F' H : Hp} {μ μ' : Nat → Addr} {S S' : Sto} {env : Env} {σ : St}
theorem EnvR.xt (h : EnvR B F μ S.length env σ) (x : Xt μ S F μ' S' F') : EnvR B F' μ' S'.length env σ := Paired.mapP h fun e s q d hd => by
  obtain ⟨v, h1, h2⟩ := q d hd
  exact ⟨v, h1, h2.xt x⟩
theorem EnvR.get {n : Nat} : ∀ {env : Env} {σ : St} {i : Nat} {d : D}, EnvR B F μ n env σ → env[i]? = some (some d) → ∃ v, σ[i]? = some (some v) ∧ RpD B F μ n d v
  | _, _, _, _, .nil, e => by simp at e
  | _, _, 0, _, .cons r _, e => by
    simp at e
    obtain ⟨v, h1, h2⟩ := r _ e
    exact ⟨v, by simp [h1], h2⟩
  | _, _, i + 1, d, .cons _ t, e => by
    obtain ⟨v, h1, h2⟩ := EnvR.get (i := i) (d := d) t (by simpa using e)
    exact ⟨v, by simpa using h1, h2⟩
theorem EnvR.set {n : Nat} {d : D} {v : V} (hd : RpD B F μ n d v) : ∀ {env : Env} {σ : St} (i : Nat), EnvR B F μ n env σ → EnvR B F μ n (env.set i (some d)) (σ.set i (some v))
  | _, _, _, .nil => .nil
  | _, _, 0, .cons r t => .cons (fun e he => by cases he; exact ⟨v, rfl, hd⟩) t
  | _, _, i + 1, .cons q t => .cons q (EnvR.set hd i t)
theorem EnvR.unset {n : Nat} {w : Option V} : ∀ {env : Env} {σ : St} (i : Nat), EnvR B F μ n env σ → EnvR B F μ n (env.set i none) (σ.set i w)
  | _, _, _, .nil => .nil
  | _, _, 0, .cons r t => .cons (fun e he => by cases he) t
  | _, _, i + 1, .cons q t => .cons q (EnvR.unset i t)
end

/-! ### data seen through the store -/
mutual
inductive Vw (S : Sto) : D → PyData → Prop
  | z {d : PyData} : Vw S (.z d) d
  | b {d : PyData} : Vw S (.b d) d
  | r {n : Nat} {ds : List D} {es : List PyData} : S[n]? = some (.lst ds) → Vws S ds es → Vw S (.r n) (.list es)
  | t {ds : List D} {es : List PyData} : Vws S ds es → Vw S (.t ds) (.tuple es)
inductive Vws (S : Sto) : List D → List PyData → Prop
  | nil : Vws S [] []
  | cons {d : D} {ds : List D} {e : PyData} {es : List PyData} : Vw S d e → Vws S ds es → Vws S (d :: ds) (e :: es)
end
section
variable {B F0 F H : Hp} {μ : Nat → Addr} {S : Sto}
theorem RpT.lent {d : PyData} {v : V} (hb : Sub B H) (h : RpT (LB B F) (TF F) d v) : RpT (LB H F) (TF F) d v :=
  RpT.mono (fun _ _ q => q.imp id fun q => hb.rd q) (fun _ _ q => q) d v h
mutual
theorem Vw.rp (R : Rl B F0 μ S F H) : ∀ (e : PyData) (d : D) (v : V), Vw S d e → RpD B F μ S.length d v → RpT (LB H F) (TF F) e v
  | .none, _, _, w, h => by
    cases w with
    | z => cases h with | z a => cases a; exact .non
    | b => cases h with | b a => cases a; exact .non
  | .bool _, _, _, w, h => by
    cases w with
    | z => cases h with | z a => cases a; exact .bl _
    | b => cases h with | b a => cases a; exact .bl _
  | .int _, _, _, w, h => by
    cases w with
    | z => cases h with | z a => cases a; exact .int _
    | b => cases h with | b a => cases a; exact .int _
  | .str _, _, _, w, h => by
    cases w with
    | z => cases h with | z a => cases a; exact .str _
    | b => cases h with | b a => cases a; exact .str _
  | .dict _, _, _, w, h => by
    cases w with
    | z => cases h with | z a => cases a
    | b => cases h with | b a => cases a
  | .list es, _, _, w, h => by
    cases w with
    | z => cases h with | z a => exact RpT.mono (fun _ _ q => .inl (.inl q)) (fun _ _ q => q) _ _ a
    | b => cases h with | b a => exact a.lent R.bh
    | r e ws =>
      cases h with
      | r hi =>
        obtain ⟨vs, hv, rv⟩ := R.ob _ _ e
        exact .lst (.inr (.inl hv)) (Vws.rp R es _ vs ws rv)
  | .tuple es, _, _, w, h => by
    cases w with
    | z => cases h with | z a => exact RpT.mono (fun _ _ q => .inl (.inl q)) (fun _ _ q => q) _ _ a
    | b => cases h with | b a => exact a.lent R.bh
    | t ws => cases h with | t e rv => exact .tup e (Vws.rp R es _ _ ws rv)
theorem Vws.rp (R : Rl B F0 μ S F H) : ∀ (es : List PyData) (ds : List D) (vs : List V), Vws S ds es → RpDs B F μ S.length ds vs → RpTs (LB H F) (TF F) es vs
  | [], _, _, w, h => by cases w; cases h; exact .nil
  | e :: es, _, _, w, h => by
    cases w with | cons a b => cases h with | cons r s => exact .cons (Vw.rp R e _ _ a r) (Vws.rp R es _ _ b s)
end
mutual
theorem RpT.dp {K : PySem.W.Frag} (hf : Sub F H) : ∀ (d : PyData) (v : V), RpT (LB H F) (TF F) d v → Dp K H v d
  | .none, _, h => by cases h; exact .non
  | .bool _, _, h => by cases h; exact .bl _
  | .int _, _, h => by cases h; exact .int _
  | .str _, _, h => by cases h; exact .str _
  | .list ds, _, h => by cases h with | lst a b => exact .lst (.inl (a.elim (fun q => hf.rd q) id)) (RpTs.dp hf ds _ b)
  | .tuple ds, _, h => by cases h with | tup a b => exact .tup (.inl (.inl (hf _ _ a))) (RpTs.dp hf ds _ b)
  | .dict _, _, h => by cases h
theorem RpTs.dp {K : PySem.W.Frag} (hf : Sub F H) : ∀ (ds : List PyData) (vs : List V), RpTs (LB H F) (TF F) ds vs → DpAll K H vs ds
  | [], _, h => by cases h; exact .nil
  | d :: ds, _, h => by cases h with | cons a b => exact .cons (RpT.dp hf d _ a) (RpTs.dp hf ds _ b)
end
theorem Vws.append : ∀ {ds es : List D} {fs gs : List PyData}, Vws S ds fs → Vws S es gs → Vws S (ds ++ es) (fs ++ gs)
  | [], _, _, _, h, k => by cases h; exact k
  | d :: ds, _, _, _, h, k => by cases h with | cons a b => exact .cons a (Vws.append b k)
theorem Vws.zs : ∀ (ds : List PyData), Vws S (ds.map .z) ds
  | [] => .nil
  | d :: ds => .cons .z (Vws.zs ds)
theorem Vw.bz {d : PyData} : Vw S (PL.bz d) d := by
  unfold PL.bz
  split
  · exact .z
  · exact .b
theorem Vws.bzs : ∀ (ds : List PyData), Vws S (ds.map PL.bz) ds
  | [] => .nil
  | d :: ds => .cons Vw.bz (Vws.bzs ds)
end
end PL

set_option Elab.async false
set_option linter.all false
set_option maxRecDepth 100000
/-! PL, part 2: what an expression wants, over store and names; the rules of expressions -/
namespace PL
open PySem L2

abbrev K1 := D → Sto → Prop
abbrev KX := Ex → Env → Sto → Prop
/-- what an expression, a test, a row of arguments asks -/
abbrev WE := Env → Sto → K1 → KX → Prop
abbrev WT := Env → Sto → (Bool → Sto → Prop) → KX → Prop
abbrev WA := Env → Sto → (List D → Sto → Prop) → KX → Prop
structure KS where
  nx : Env → Sto → Prop
  rt : K1
  ex : KX
  bk : Env → Sto → Prop := fun _ _ => False
  ct : Env → Sto → Prop := fun _ _ => False
abbrev WS := KS → Env → Sto → Prop

/-! where a walk halts -/
structure pReq (c : Prop) (k : Prop) : Prop where
  mk' ::
  out : c ∧ k
structure pGet {α : Type} (o : Option α) (k : α → Prop) : Prop where
  mk' ::
  out : ∃ x, o = some x ∧ k x
structure pIf (b : Bool) (x y : Prop) : Prop where
  mk' ::
  out : if b = true then x else y
theorem pReq.mk {c k : Prop} (h : c) (q : k) : pReq c k := ⟨⟨h, q⟩⟩
theorem pGet.mk {α : Type} {o : Option α} {k : α → Prop} {x : α} (h : o = some x) (q : k x) : pGet o k := ⟨⟨x, h, q⟩⟩
theorem pIf.mk {b : Bool} {x y : Prop} (h1 : b = true → x) (h2 : b = false → y) : pIf b x y := by
  refine ⟨?_⟩
  cases b with
  | true => rw [if_pos rfl]; exact h1 rfl
  | false => rw [if_neg Bool.false_ne_true]; exact h2 rfl
theorem pIf.tt {b : Bool} {x y : Prop} (h : b = true) (q : x) : pIf b x y := pIf.mk (fun _ => q) fun e => by rw [h] at e; cases e
theorem pIf.ff {b : Bool} {x y : Prop} (h : b = false) (q : y) : pIf b x y := pIf.mk (fun e => by rw [h] at e; cases e) fun _ => q

/-! ### the readings -/
def ExR (B F : Hp) (μ : Nat → Addr) (n : Nat) (H : Hp) (x : Ex) (cls : Value) (dd : Option Addr) : Prop :=
  cls = x.c ∧ match x.fs with
    | none => dd = none
    | some fs => ∃ a ws, dd = some a ∧ H a = some (.xd ws) ∧ Paired (fun (p : Str × D) (q : Str × V) => p.1 = q.1 ∧ RpD B F μ n p.2 q.2) fs ws
/-- the state at hand -/
structure Wd where
  μ : Nat → Addr
  S : Sto
  F : Hp
def Fi (B F0 : Hp) (w : Wd) (K : K1) (Q : VK) : Prop := ∀ d S' v H' μ' F', Rl B F0 μ' S' F' H' → Xt w.μ w.S w.F μ' S' F' → RpD B F' μ' S'.length d v → K d S' → Q v H'
def FiT (B F0 : Hp) (w : Wd) (K : Bool → Sto → Prop) (Q : Bool → Hp → Prop) : Prop := ∀ b S' H' μ' F', Rl B F0 μ' S' F' H' → Xt w.μ w.S w.F μ' S' F' → K b S' → Q b H'
def FiA (B F0 : Hp) (w : Wd) (K : List D → Sto → Prop) (Q : List V → Hp → Prop) : Prop := ∀ ds S' vs H' μ' F', Rl B F0 μ' S' F' H' → Xt w.μ w.S w.F μ' S' F' → RpDs B F' μ' S'.length ds vs → K ds S' → Q vs H'
def FiX (B F0 : Hp) (W : WX) (w : Wd) (env : Env) (σ : St) (K : KX) : Prop := ∀ x S' H' μ' F' cls dd, Rl B F0 μ' S' F' H' → Xt w.μ w.S w.F μ' S' F' → ExR B F' μ' S'.length H' x cls dd → K x env S' → W cls dd σ H'
section
variable {B F0 H : Hp} {w w' : Wd} {W : WX} {env : Env} {σ : St}
theorem Fi.xt {K : K1} {Q : VK} (h : Fi B F0 w K Q) (x : Xt w.μ w.S w.F w'.μ w'.S w'.F) : Fi B F0 w' K Q := fun d S v H μ F R X r k => h d S v H μ F R (x.trans X) r k
theorem FiT.xt {K : Bool → Sto → Prop} {Q : Bool → Hp → Prop} (h : FiT B F0 w K Q) (x : Xt w.μ w.S w.F w'.μ w'.S w'.F) : FiT B F0 w' K Q := fun b S H μ F R X k => h b S H μ F R (x.trans X) k
theorem FiA.xt {K : List D → Sto → Prop} {Q : List V → Hp → Prop} (h : FiA B F0 w K Q) (x : Xt w.μ w.S w.F w'.μ w'.S w'.F) : FiA B F0 w' K Q := fun d S v H μ F R X r k => h d S v H μ F R (x.trans X) r k
theorem FiX.xt {K : KX} (h : FiX B F0 W w env σ K) (x : Xt w.μ w.S w.F w'.μ w'.S w'.F) : FiX B F0 W w' env σ K := fun e S H μ F c dd R X r k => h e S H μ F c dd R (x.trans X) r k
end
abbrev RlW (B F0 : Hp) (w : Wd) (H : Hp) : Prop := Rl B F0 w.μ w.S w.F H
abbrev RpW (B : Hp) (w : Wd) (d : D) (v : V) : Prop := RpD B w.F w.μ w.S.length d v
abbrev RpsW (B : Hp) (w : Wd) (d : List D) (v : List V) : Prop := RpDs B w.F w.μ w.S.length d v
def tE (B F0 : Hp) (W : WX) (we : WE) : TE := fun σ H Q => ∃ (w : Wd) (env : Env) (K : K1) (KX : KX), RlW B F0 w H ∧ EnvR B w.F w.μ w.S.length env σ ∧ we env w.S K KX ∧ Fi B F0 w K Q ∧ FiX B F0 W w env σ KX
def tT (B F0 : Hp) (W : WX) (wt : WT) : TT := fun σ H Q => ∃ (w : Wd) (env : Env) (K : Bool → Sto → Prop) (KX : KX), RlW B F0 w H ∧ EnvR B w.F w.μ w.S.length env σ ∧ wt env w.S K KX ∧ FiT B F0 w K Q ∧ FiX B F0 W w env σ KX
def tA (B F0 : Hp) (W : WX) (wa : WA) : TA := fun σ H Q => ∃ (w : Wd) (env : Env) (K : List D → Sto → Prop) (KX : KX), RlW B F0 w H ∧ EnvR B w.F w.μ w.S.length env σ ∧ wa env w.S K KX ∧ FiA B F0 w K Q ∧ FiX B F0 W w env σ KX
/-- how a statement's ends are met -/
structure FiS (B F0 : Hp) (W : WX) (w : Wd) (k : KS) (D : Ends) : Prop where
  nx : ∀ env S σ H μ F, Rl B F0 μ S F H → Xt w.μ w.S w.F μ S F → EnvR B F μ S.length env σ → k.nx env S → D.nx σ H
  rt : Fi B F0 w k.rt D.rt
  bk : ∀ env S σ H μ F, Rl B F0 μ S F H → Xt w.μ w.S w.F μ S F → EnvR B F μ S.length env σ → k.bk env S → D.bk σ H
  ct : ∀ env S σ H μ F, Rl B F0 μ S F H → Xt w.μ w.S w.F μ S F → EnvR B F μ S.length env σ → k.ct env S → D.ct σ H
  ex : ∀ x env S σ H μ F cls dd, Rl B F0 μ S F H → Xt w.μ w.S w.F μ S F → EnvR B F μ S.length env σ → ExR B F μ S.length H x cls dd → k.ex x env S → W cls dd σ H
theorem FiS.xt {B F0 : Hp} {W : WX} {w w' : Wd} {k : KS} {D : Ends} (h : FiS B F0 W w k D) (x : Xt w.μ w.S w.F w'.μ w'.S w'.F) : FiS B F0 W w' k D :=
  ⟨fun e S s H μ F R X r q => h.nx e S s H μ F R (x.trans X) r q, h.rt.xt x, fun e S s H μ F R X r q => h.bk e S s H μ F R (x.trans X) r q, fun e S s H μ F R X r q => h.ct e S s H μ F R (x.trans X) r q,
   fun y e S s H μ F c d R X r q z => h.ex y e S s H μ F c d R (x.trans X) r q z⟩
theorem FiS.toX {B F0 : Hp} {W : WX} {w : Wd} {k : KS} {D : Ends} {env : Env} {σ : St} (h : FiS B F0 W w k D) (e : EnvR B w.F w.μ w.S.length env σ) : FiX B F0 W w env σ k.ex :=
  fun x S H μ F c d R X r q => h.ex x env S σ H μ F c d R X (e.xt X) r q
def tS (B F0 : Hp) (W : WX) (ws : WS) : TS := fun D σ H => ∃ (w : Wd) (env : Env) (k : KS), RlW B F0 w H ∧ EnvR B w.F w.μ w.S.length env σ ∧ ws k env w.S ∧ FiS B F0 W w k D

def PX (X : Cx) (B F0 : Hp) (W : WX) (e : Expr) (we : WE) : Prop := PE X e (tE B F0 W we)
def PXT (X : Cx) (B F0 : Hp) (W : WX) (e : Expr) (wt : WT) : Prop := PT X e (tT B F0 W wt)
def PXW (X : Cx) (B F0 : Hp) (W : WX) (e : Expr) (wt : WT) : Prop := PW X e (tT B F0 W wt)
def PXA (X : Cx) (B F0 : Hp) (W : WX) (es : List Expr) (wa : WA) : Prop := PA X es (tA B F0 W wa)
def PXS (X : Cx) (B F0 : Hp) (W : WX) (st : Stmt) (ws : WS) : Prop := PS X st (tS B F0 W ws)
def PXB (X : Cx) (B F0 : Hp) (W : WX) (st : List Stmt) (ws : WS) : Prop := PSs X st (tS B F0 W ws)
section
variable {X : Cx}
theorem wkE {e : Expr} {t t' : TE} (h : PE X e t) (k : ∀ σ H Q, t' σ H Q → t σ H Q) : PE X e t' := ⟨fun p s σ H Q I q => h.run p s σ H Q I (k σ H Q q)⟩
theorem wkT {e : Expr} {t t' : TT} (h : PT X e t) (k : ∀ σ H Q, t' σ H Q → t σ H Q) : PT X e t' := ⟨fun p s σ H Q I q => h.run p s σ H Q I (k σ H Q q)⟩
theorem wkW {e : Expr} {t t' : TT} (h : PW X e t) (k : ∀ σ H Q, t' σ H Q → t σ H Q) : PW X e t' := ⟨fun wh p s σ H Q I q => h.run wh p s σ H Q I (k σ H Q q)⟩
theorem wkA {e : List Expr} {t t' : TA} (h : PA X e t) (k : ∀ σ H Q, t' σ H Q → t σ H Q) : PA X e t' := ⟨fun pos p s σ H Q I q => h.run pos p s σ H Q I (k σ H Q q)⟩
theorem wkS {e : Stmt} {t t' : TS} (h : PS X e t) (k : ∀ D σ H, t' D σ H → t D σ H) : PS X e t' := ⟨fun p s σ H D I q => h.run p s σ H D I (k D σ H q)⟩
theorem wkB {e : List Stmt} {t t' : TS} (h : PSs X e t) (k : ∀ D σ H, t' D σ H → t D σ H) : PSs X e t' := ⟨fun p s σ H D I q => h.run p s σ H D I (k D σ H q)⟩
end

/-! ### names, constants -/
def wVar (i : Nat) : WE := fun env S K _ => match env[i]? with
  | some (some d) => K d S
  | _ => False
def wC (d : PyData) : WE := fun _ S K _ => K (.z d) S
def wO (a : Addr) : WE := fun _ S K _ => K (.o a) S
section
variable {X : Cx} {B F0 : Hp} {W : WX} {pos : Pos}
theorem xv (i : Nat) {x : Str} (hN : X.N[i]? = some x := by rfl) (hv : Vis X.env.scope x := by first | exact Or.inl rfl | exact Or.inr (Or.inl rfl) | exact Or.inr (Or.inr rfl)) (hd : (x == ("__debug__" : Str)) = false := by decide)
    (hcd : (x == ("__classdict__" : Str)) = false := by decide) : PX X B F0 W (.Name x pos) (wVar i) := wkE (pe_var hN hv hd hcd) fun σ H Q h => by
  obtain ⟨w, env, K, KX, R, E, h, k, _⟩ := h
  unfold wVar at h
  split at h
  · rename_i d e
    obtain ⟨v, h1, h2⟩ := EnvR.get E e
    exact ⟨v, h1, k d w.S v H w.μ w.F R .refl h2 h⟩
  · exact h.elim
theorem xc {e : Expr} {c : V} {d : PyData} (h : PE X e (tC c)) (r : ∀ L T, RpT L T d c) : PX X B F0 W e (wC d) := wkE h fun σ H Q h => by
  obtain ⟨w, env, K, KX, R, E, h, k, _⟩ := h
  exact k _ w.S c H w.μ w.F R .refl (.z (r _ _)) h
theorem xint {i : Int} {j : Nat} : PX X B F0 W (.Constant (.int i) j pos) (wC (.int i)) := xc pe_int fun _ _ => .int i
theorem xbl {b : Bool} {j : Nat} : PX X B F0 W (.Constant (.bool b) j pos) (wC (.bool b)) := xc pe_bl fun _ _ => .bl b
theorem xnon {j : Nat} : PX X B F0 W (.Constant .none j pos) (wC .none) := xc pe_non fun _ _ => .non
theorem xstr {x : Str} {j : Nat} : PX X B F0 W (.Constant (.str x) j pos) (wC (.str x)) := xc pe_str fun _ _ => .str x
/-- a module's constant -/
theorem xglob {x : Str} {v : V} {u : Value} {d : PyData} (hg : Gl X x) (hm : X.mg x = some u) (r : RelV v u) (hd : ∀ L T, RpT L T d v) (hdb : (x == ("__debug__" : Str)) = false := by decide) : PX X B F0 W (.Name x pos) (wC d) :=
  xc (pe_glob hg hm r hdb) hd
theorem xglobO {x : Str} {a : Addr} (hg : Gl X x) (hm : X.mg x = some (.ref a)) (hdb : (x == ("__debug__" : Str)) = false := by decide) : PX X B F0 W (.Name x pos) (wO a) := wkE (pe_glob (v := .ref a) hg hm rfl hdb) fun σ H Q h => by
  obtain ⟨w, env, K, KX, R, E, h, k, _⟩ := h
  exact k _ w.S _ H w.μ w.F R .refl .o h
end

/-! ### operators -/
/-- two values, the store: what is asked -/
abbrev P2 := D → D → Sto → K1 → Prop
abbrev P1 := D → Sto → K1 → Prop
abbrev PL := List D → Sto → K1 → Prop
def r2 (B F0 : Hp) (p : P2) : R2 := fun a b H Q => ∃ (w : Wd) (x y : D) (K : K1), RlW B F0 w H ∧ RpW B w x a ∧ RpW B w y b ∧ p x y w.S K ∧ Fi B F0 w K Q
def r1 (B F0 : Hp) (p : P1) : V → Hp → VK → Prop := fun a H Q => ∃ (w : Wd) (x : D) (K : K1), RlW B F0 w H ∧ RpW B w x a ∧ p x w.S K ∧ Fi B F0 w K Q
def rL (B F0 : Hp) (p : PL) : List V → Hp → VK → Prop := fun vs H Q => ∃ (w : Wd) (xs : List D) (K : K1), RlW B F0 w H ∧ RpsW B w xs vs ∧ p xs w.S K ∧ Fi B F0 w K Q
def rM (B F0 : Hp) (p : D → PL) : V → List V → Hp → VK → Prop := fun v vs H Q => ∃ (w : Wd) (x : D) (xs : List D) (K : K1), RlW B F0 w H ∧ RpW B w x v ∧ RpsW B w xs vs ∧ p x xs w.S K ∧ Fi B F0 w K Q
def w2 (p : P2) (wa wb : WE) : WE := fun env S K KX => wa env S (fun x S1 => wb env S1 (fun y S2 => p x y S2 K) KX) KX
def w1 (p : P1) (wa : WE) : WE := fun env S K KX => wa env S (fun x S1 => p x S1 K) KX
/-- a value that is True or False, as a test -/
def asB (k : Bool → Sto → Prop) : K1 := fun d S => match d with
  | .z (.bool b) => k b S
  | _ => False
def wB (wa : WE) : WT := fun env S K KX => wa env S (asB K) KX
section
variable {X : Cx} {B F0 : Hp} {W : WX} {a b c : Expr} {wa wb wc : WE} {pos : Pos} {p p' : P2}
/-- two operands, then something by their values -/
theorem two {r : R2} (hr : ∀ x y H Q, r2 B F0 p x y H Q → r x y H Q) (σ : St) (H : Hp) (Q : VK) (h : tE B F0 W (w2 p wa wb) σ H Q) : tOp r (tE B F0 W wa) (tE B F0 W wb) σ H Q := by
  obtain ⟨w, env, K, KX, R, E, h, k, kx⟩ := h
  refine ⟨w, env, _, KX, R, E, h, fun x S1 v H1 μ1 F1 R1 X1 r1 h1 => ?_, kx⟩
  refine ⟨⟨μ1, S1, F1⟩, env, _, KX, R1, E.xt X1, h1, fun y S2 u H2 μ2 F2 R2 X2 r2 h2 => ?_, kx.xt X1⟩
  exact hr v u H2 Q ⟨⟨μ2, S2, F2⟩, x, y, K, R2, r1.xt X2, r2, h2, k.xt (X1.trans X2)⟩
theorem xop {op : Operator} (ho : OpR X (binaryOp op) (r2 B F0 p)) (ha : PX X B F0 W a wa) (hb : PX X B F0 W b wb) : PX X B F0 W (.BinOp a op b pos) (w2 p wa wb) := wkE (pe_op ho ha hb) (two fun _ _ _ _ h => h)
theorem xcmp {op : CmpOp} (ho : OpR X (compareOp op) (r2 B F0 p)) (ha : PX X B F0 W a wa) (hb : PX X B F0 W b wb) (hm : behindInMarks op b = false := by rfl) : PX X B F0 W (.Compare a [op] [b] pos) (w2 p wa wb) :=
  wkE (pe_cmpR ho ha hb hm) (two fun _ _ _ _ h => h)
theorem xix (ho : IxR X (r2 B F0 p)) (ha : PX X B F0 W a wa) (hb : PX X B F0 W b wb) (hs : PlainIx b := by exact fun _ _ => rfl) : PX X B F0 W (.Subscript a b pos) (w2 p wa wb) := wkE (pe_ix ho ha hb hs) (two fun _ _ _ _ h => h)
/-- an expression as a test, by its value -/
theorem testOf (σ : St) (H : Hp) (Q : Bool → Hp → Prop) (h : tT B F0 W (wB wa) σ H Q) : tTest (tE B F0 W wa) σ H Q := by
  obtain ⟨w, env, K, KX, R, E, h, k, kx⟩ := h
  refine ⟨w, env, _, KX, R, E, h, fun x S1 v H1 μ1 F1 R1 X1 r1 h1 => ?_, kx⟩
  unfold asB at h1
  split at h1
  · cases r1 with | z q => cases q; exact ⟨_, rfl, k _ S1 H1 μ1 F1 R1 X1 h1⟩
  · exact h1.elim
theorem xtv (h : PX X B F0 W a wa) (he : ∀ whole, isTrue a X.env whole = (do let v ← whole; standAt a.pos; holding [v] (truthy v)) := by intro _; rfl) : PXT X B F0 W a (wB wa) := wkT (pt_val h he) fun σ H Q q => testOf σ H Q q
theorem xtcmp {op : CmpOp} (ho : OpR X (compareOp op) (r2 B F0 p)) (ha : PX X B F0 W a wa) (hb : PX X B F0 W b wb) (hm : behindInMarks op b = false := by rfl) : PXT X B F0 W (.Compare a [op] [b] pos) (wB (w2 p wa wb)) :=
  wkT (pt_cmpR ho ha hb hm) fun σ H Q h => by
    obtain ⟨w, env, K, KX, R, E, h, k, kx⟩ := h
    refine two (fun _ _ _ _ h => h) σ H _ ⟨w, env, asB K, KX, R, E, h, fun x S1 v H1 μ1 F1 R1 X1 r1 h1 => ?_, kx⟩
    unfold asB at h1
    split at h1
    · cases r1 with | z q => cases q; exact ⟨_, rfl, k _ S1 H1 μ1 F1 R1 X1 h1⟩
    · exact h1.elim
/-- a < b < c -/
def w3 (p p' : P2) (wa wb wc : WE) : WE := fun env S K KX => wa env S (fun x S1 => wb env S1 (fun y S2 => p x y S2 (asB fun k S3 => pIf k (wc env S3 (fun z S4 => p' y z S4 K) KX) (K (.z (.bool false)) S3))) KX) KX
theorem asB.out {w : Wd} {d : D} {v : V} {K : Bool → Sto → Prop} {S : Sto} (h : asB K d S) (r : RpW B w d v) : ∃ k, v = .bl k ∧ K k S := by
  unfold asB at h
  split at h
  · cases r with | z q => cases q; exact ⟨_, rfl, h⟩
  · exact h.elim
theorem three {r r' : R2} (hr : ∀ x y H Q, r2 B F0 p x y H Q → r x y H Q) (hr' : ∀ x y H Q, r2 B F0 p' x y H Q → r' x y H Q) (σ : St) (H : Hp) (Q : VK) (h : tE B F0 W (w3 p p' wa wb wc) σ H Q) : tChain r r' (tE B F0 W wa) (tE B F0 W wb) (tE B F0 W wc) σ H Q := by
  obtain ⟨w, env, K, KX, R, E, h, k, kx⟩ := h
  refine ⟨w, env, _, KX, R, E, h, fun x S1 v H1 μ1 F1 R1 X1 r1 h1 => ?_, kx⟩
  refine ⟨⟨μ1, S1, F1⟩, env, _, KX, R1, E.xt X1, h1, fun y S2 u H2 μ2 F2 R2 X2 r2 h2 => ?_, kx.xt X1⟩
  refine hr v u H2 _ ⟨⟨μ2, S2, F2⟩, x, y, _, R2, r1.xt X2, r2, h2, fun z S3 t H3 μ3 F3 R3 X3 r3 h3 => ?_⟩
  obtain ⟨kb, rfl, h3⟩ := asB.out (w := ⟨μ3, S3, F3⟩) h3 r3
  refine ⟨kb, rfl, ?_⟩
  have h3 := h3.out
  cases kb with
  | true =>
    rw [if_pos rfl] at h3 ⊢
    refine ⟨⟨μ3, S3, F3⟩, env, _, KX, R3, E.xt ((X1.trans X2).trans X3), h3, fun z S4 t H4 μ4 F4 R4 X4 r4 h4 => ?_, kx.xt ((X1.trans X2).trans X3)⟩
    exact hr' u t H4 Q ⟨⟨μ4, S4, F4⟩, y, z, K, R4, r2.xt (X3.trans X4), r4, h4, k.xt (((X1.trans X2).trans X3).trans X4)⟩
  | false =>
    rw [if_neg Bool.false_ne_true] at h3 ⊢
    exact k _ S3 _ H3 μ3 F3 R3 ((X1.trans X2).trans X3) (.z (.bl _)) h3
theorem xch {op op' : CmpOp} (ho : OpR X (compareOp op) (r2 B F0 p)) (ho' : OpR X (compareOp op') (r2 B F0 p')) (ha : PX X B F0 W a wa) (hb : PX X B F0 W b wb) (hc : PX X B F0 W c wc)
    (hm : lastMarks [op, op'] [b, c] = false := by rfl) : PX X B F0 W (.Compare a [op, op'] [b, c] pos) (w3 p p' wa wb wc) :=
  wkE (pe_chain ho ho' ha hb hc hm) (three (fun _ _ _ _ h => h) fun _ _ _ _ h => h)
theorem xtch {op op' : CmpOp} (ho : OpR X (compareOp op) (r2 B F0 p)) (ho' : OpR X (compareOp op') (r2 B F0 p')) (ha : PX X B F0 W a wa) (hb : PX X B F0 W b wb) (hc : PX X B F0 W c wc) (hm : lastMarks [op, op'] [b, c] = false := by rfl) : PXT X B F0 W (.Compare a [op, op'] [b, c] pos) (wB (w3 p p' wa wb wc)) :=
  wkT (pt_chain ho ho' ha hb hc hm) fun σ H Q h => by
    obtain ⟨w, env, K, KX, R, E, h, k, kx⟩ := h
    refine three (fun _ _ _ _ h => h) (fun _ _ _ _ h => h) σ H _ ⟨w, env, asB K, KX, R, E, h, fun x S1 v H1 μ1 F1 R1 X1 r1 h1 => ?_, kx⟩
    obtain ⟨kb, rfl, h2⟩ := asB.out (w := ⟨μ1, S1, F1⟩) h1 r1
    exact ⟨kb, rfl, k _ S1 H1 μ1 F1 R1 X1 h2⟩
end

/-! ### and, or, not, if-else -/
def wAnd (t u : WT) : WT := fun env S K KX => t env S (fun c S1 => pIf c (u env S1 K KX) (K false S1)) KX
def wOr (t u : WT) : WT := fun env S K KX => t env S (fun c S1 => pIf c (K true S1) (u env S1 K KX)) KX
def wNot (t : WT) : WT := fun env S K KX => t env S (fun c S1 => K (!c) S1) KX
def wAndV (wa wb : WE) : WE := fun env S K KX => wa env S (asB fun c S1 => pIf c (wb env S1 K KX) (K (.z (.bool false)) S1)) KX
def wOrV (wa wb : WE) : WE := fun env S K KX => wa env S (asB fun c S1 => pIf c (K (.z (.bool true)) S1) (wb env S1 K KX)) KX
def wNotV (wa : WE) : WE := fun env S K KX => wa env S (asB fun c S1 => K (.z (.bool (!c))) S1) KX
def wIfE (t : WT) (wa wb : WE) : WE := fun env S K KX => t env S (fun c S1 => pIf c (wa env S1 K KX) (wb env S1 K KX)) KX
section
variable {X : Cx} {B F0 : Hp} {W : WX} {a b c : Expr} {wa wb : WE} {t u : WT} {pos : Pos} {rest : List Expr}
theorem yand1 (ha : PXT X B F0 W a t) : PXW X B F0 W (.BoolOp .And [a] pos) t := pw_and1 ha
theorem yor1 (ha : PXT X B F0 W a t) : PXW X B F0 W (.BoolOp .Or [a] pos) t := pw_or1 ha
theorem yand (ha : PXT X B F0 W a t) (hb : PXW X B F0 W (.BoolOp .And (b :: rest) pos) u) : PXW X B F0 W (.BoolOp .And (a :: b :: rest) pos) (wAnd t u) := wkW (pw_and ha hb) fun σ H Q h => by
  obtain ⟨w, env, K, KX, R, E, h, k, kx⟩ := h
  refine ⟨w, env, _, KX, R, E, h, fun x S1 H1 μ1 F1 R1 X1 h1 => ?_, kx⟩
  have h1 := h1.out
  dsimp only
  cases x with
  | true => rw [if_pos rfl] at h1 ⊢; exact ⟨⟨μ1, S1, F1⟩, env, K, KX, R1, E.xt X1, h1, k.xt X1, kx.xt X1⟩
  | false => rw [if_neg Bool.false_ne_true] at h1 ⊢; exact k _ S1 H1 μ1 F1 R1 X1 h1
theorem yor (ha : PXT X B F0 W a t) (hb : PXW X B F0 W (.BoolOp .Or (b :: rest) pos) u) : PXW X B F0 W (.BoolOp .Or (a :: b :: rest) pos) (wOr t u) := wkW (pw_or ha hb) fun σ H Q h => by
  obtain ⟨w, env, K, KX, R, E, h, k, kx⟩ := h
  refine ⟨w, env, _, KX, R, E, h, fun x S1 H1 μ1 F1 R1 X1 h1 => ?_, kx⟩
  have h1 := h1.out
  dsimp only
  cases x with
  | false => rw [if_neg Bool.false_ne_true] at h1 ⊢; exact ⟨⟨μ1, S1, F1⟩, env, K, KX, R1, E.xt X1, h1, k.xt X1, kx.xt X1⟩
  | true => rw [if_pos rfl] at h1 ⊢; exact k _ S1 H1 μ1 F1 R1 X1 h1
theorem xtw (h : PXW X B F0 W a t) : PXT X B F0 W a t := h.pt
theorem xtnot (h : PXT X B F0 W a t) : PXT X B F0 W (.UnaryOp .Not a pos) (wNot t) := wkT (pt_not h) fun σ H Q h => by
  obtain ⟨w, env, K, KX, R, E, h, k, kx⟩ := h
  exact ⟨w, env, _, KX, R, E, h, fun x S1 H1 μ1 F1 R1 X1 h1 => k _ S1 H1 μ1 F1 R1 X1 h1, kx⟩
theorem xone {op : BoolOp} (h : PX X B F0 W a wa) : PX X B F0 W (.BoolOp op [a] pos) wa := pe_one h
theorem xand (ha : PX X B F0 W a wa) (hb : PX X B F0 W (.BoolOp .And (b :: rest) pos) wb) : PX X B F0 W (.BoolOp .And (a :: b :: rest) pos) (wAndV wa wb) := wkE (pe_and ha hb) fun σ H Q h => by
  obtain ⟨w, env, K, KX, R, E, h, k, kx⟩ := h
  refine ⟨w, env, _, KX, R, E, h, fun x S1 v H1 μ1 F1 R1 X1 r1 h1 => ?_, kx⟩
  obtain ⟨kb, rfl, h2⟩ := asB.out (w := ⟨μ1, S1, F1⟩) h1 r1
  refine ⟨kb, rfl, ?_⟩
  have h2 := h2.out
  cases kb with
  | true => rw [if_pos rfl] at h2 ⊢; exact ⟨⟨μ1, S1, F1⟩, env, K, KX, R1, E.xt X1, h2, k.xt X1, kx.xt X1⟩
  | false => rw [if_neg Bool.false_ne_true] at h2 ⊢; exact k _ S1 _ H1 μ1 F1 R1 X1 (.z (.bl _)) h2
theorem xor' (ha : PX X B F0 W a wa) (hb : PX X B F0 W (.BoolOp .Or (b :: rest) pos) wb) : PX X B F0 W (.BoolOp .Or (a :: b :: rest) pos) (wOrV wa wb) := wkE (pe_or ha hb) fun σ H Q h => by
  obtain ⟨w, env, K, KX, R, E, h, k, kx⟩ := h
  refine ⟨w, env, _, KX, R, E, h, fun x S1 v H1 μ1 F1 R1 X1 r1 h1 => ?_, kx⟩
  obtain ⟨kb, rfl, h2⟩ := asB.out (w := ⟨μ1, S1, F1⟩) h1 r1
  refine ⟨kb, rfl, ?_⟩
  have h2 := h2.out
  cases kb with
  | false => rw [if_neg Bool.false_ne_true] at h2 ⊢; exact ⟨⟨μ1, S1, F1⟩, env, K, KX, R1, E.xt X1, h2, k.xt X1, kx.xt X1⟩
  | true => rw [if_pos rfl] at h2 ⊢; exact k _ S1 _ H1 μ1 F1 R1 X1 (.z (.bl _)) h2
theorem xnot (ha : PX X B F0 W a wa) : PX X B F0 W (.UnaryOp .Not a pos) (wNotV wa) := wkE (pe_not ha) fun σ H Q h => by
  obtain ⟨w, env, K, KX, R, E, h, k, kx⟩ := h
  refine ⟨w, env, _, KX, R, E, h, fun x S1 v H1 μ1 F1 R1 X1 r1 h1 => ?_, kx⟩
  obtain ⟨kb, rfl, h2⟩ := asB.out (w := ⟨μ1, S1, F1⟩) h1 r1
  exact ⟨kb, rfl, k _ S1 _ H1 μ1 F1 R1 X1 (.z (.bl _)) h2⟩
theorem xife (hc : PXT X B F0 W c t) (ha : PX X B F0 W a wa) (hb : PX X B F0 W b wb) : PX X B F0 W (.IfExp c a b pos) (wIfE t wa wb) := wkE (pe_ifExp hc ha hb) fun σ H Q h => by
  obtain ⟨w, env, K, KX, R, E, h, k, kx⟩ := h
  refine ⟨w, env, _, KX, R, E, h, fun x S1 H1 μ1 F1 R1 X1 h1 => ?_, kx⟩
  have h1 := h1.out
  dsimp only
  cases x with
  | true => rw [if_pos rfl] at h1 ⊢; exact ⟨⟨μ1, S1, F1⟩, env, K, KX, R1, E.xt X1, h1, k.xt X1, kx.xt X1⟩
  | false => rw [if_neg Bool.false_ne_true] at h1 ⊢; exact ⟨⟨μ1, S1, F1⟩, env, K, KX, R1, E.xt X1, h1, k.xt X1, kx.xt X1⟩
end

/-! ### arguments, displays, calls by value -/
def wNil : WA := fun _ S K _ => K [] S
def wCons (wa : WE) (wr : WA) : WA := fun env S K KX => wa env S (fun x S1 => wr env S1 (fun xs S2 => K (x :: xs) S2) KX) KX
/-- a tuple of values: frozen, where all of them are -/
def allZ : List D → Option (List PyData)
  | [] => some []
  | .z d :: ds => (allZ ds).map (d :: ·)
  | _ :: _ => none
def mkT (ds : List D) : D := match allZ ds with
  | some es => .z (.tuple es)
  | none => .t ds
def wTup (wa : WA) : WE := fun env S K KX => wa env S (fun ds S1 => pReq (ds.length ≤ sizeLine) (K (mkT ds) S1)) KX
def wLst (wa : WA) : WE := fun env S K KX => wa env S (fun ds S1 => pReq (ds.length ≤ sizeLine) (K (.r S1.length) (S1 ++ [.lst ds]))) KX
def wCall (p : PL) (wa : WA) : WE := fun env S K KX => wa env S (fun ds S1 => p ds S1 K) KX
def wMeth (p : D → PL) (wo : WE) (wa : WA) : WE := fun env S K KX => wo env S (fun x S1 => wa env S1 (fun ds S2 => p x ds S2 K) KX) KX
theorem allZ_rp {B F : Hp} {μ : Nat → Addr} {n : Nat} : ∀ {ds : List D} {es : List PyData} {vs : List V}, allZ ds = some es → RpDs B F μ n ds vs → RpTs (LF F) (TF F) es vs
  | [], _, _, e, h => by cases h; simp [allZ] at e; subst e; exact .nil
  | .z d :: ds, _, _, e, h => by
    cases h with
    | cons a b =>
      simp only [allZ, Option.map_eq_some_iff] at e
      obtain ⟨es, h1, rfl⟩ := e
      cases a with | z q => exact .cons q (allZ_rp h1 b)
  | .b d :: ds, _, _, e, h => by simp [allZ] at e
  | .r d :: ds, _, _, e, h => by simp [allZ] at e
  | .t d :: ds, _, _, e, h => by simp [allZ] at e
  | .o d :: ds, _, _, e, h => by simp [allZ] at e
  | .y d :: ds, _, _, e, h => by simp [allZ] at e
theorem mkT_rp {B F : Hp} {μ : Nat → Addr} {n : Nat} {ds : List D} {vs : List V} {p : Addr} (hp : F p = some (.tup vs)) (h : RpDs B F μ n ds vs) : RpD B F μ n (mkT ds) (.ref p) := by
  unfold mkT
  split
  · rename_i es e
    exact .z (.tup hp (allZ_rp e h))
  · exact .t hp h
section
variable {X : Cx} {B F0 : Hp} {W : WX} {e o : Expr} {es : List Expr} {we wo : WE} {wa : WA} {pos cpos apos : Pos} {x : Str} {id T : String}
theorem anil : PXA X B F0 W [] wNil := wkA pa_nil fun σ H Q h => by
  obtain ⟨w, env, K, KX, R, E, h, k, kx⟩ := h
  exact k [] w.S [] H w.μ w.F R .refl .nil h
theorem acons (h1 : PX X B F0 W e we) (h2 : PXA X B F0 W es wa) (hs : starEach (e :: es) X.env = (false, eval e X.env) :: starEach es X.env := by rfl) : PXA X B F0 W (e :: es) (wCons we wa) := wkA (pa_cons h1 h2 hs) fun σ H Q h => by
  obtain ⟨w, env, K, KX, R, E, h, k, kx⟩ := h
  refine ⟨w, env, _, KX, R, E, h, fun x S1 v H1 μ1 F1 R1 X1 r1 h1 => ?_, kx⟩
  exact ⟨⟨μ1, S1, F1⟩, env, _, KX, R1, E.xt X1, h1, fun xs S2 vs H2 μ2 F2 R2 X2 r2 h2 => k _ S2 _ H2 μ2 F2 R2 (X1.trans X2) (.cons (r1.xt X2) r2) h2, kx.xt X1⟩
theorem xtup {j : Nat} (h : PXA X B F0 W es wa) : PX X B F0 W (.Tuple es j pos) (wTup wa) := wkE (pe_tup h) fun σ H Q h => by
  obtain ⟨w, env, K, KX, R, E, h, k, kx⟩ := h
  refine ⟨w, env, _, KX, R, E, h, fun xs S1 vs H1 μ1 F1 R1 X1 r1 h1 => ?_, kx⟩
  obtain ⟨z, h1⟩ := h1.out
  refine ⟨by rw [← r1.length]; exact z, fun p hp => ?_⟩
  obtain ⟨R2, X2⟩ := R1.froze (.tup vs) hp
  exact k _ S1 _ _ μ1 _ R2 (X1.trans X2) (mkT_rp upd_same (r1.xt X2)) h1
theorem xlst (h : PXA X B F0 W es wa) : PX X B F0 W (.List es pos) (wLst wa) := wkE (pe_lst h) fun σ H Q h => by
  obtain ⟨w, env, K, KX, R, E, h, k, kx⟩ := h
  refine ⟨w, env, _, KX, R, E, h, fun xs S1 vs H1 μ1 F1 R1 X1 r1 h1 => ?_, kx⟩
  obtain ⟨z, h1⟩ := h1.out
  refine ⟨by rw [← r1.length]; exact z, fun p hp => ?_⟩
  obtain ⟨R2, X2⟩ := R1.grow (u := .lst vs) (o := .lst xs) hp fun G hG => ⟨vs, hG, r1⟩
  have e : muX μ1 S1.length p S1.length = p := by unfold muX; rw [if_pos rfl]
  have r : RpD B F1 (muX μ1 S1.length p) (S1 ++ [Ob.lst xs]).length (.r S1.length) (.ref p) := by
    have q : RpD B F1 (muX μ1 S1.length p) (S1 ++ [Ob.lst xs]).length (.r S1.length) (.ref (muX μ1 S1.length p S1.length)) := .r (by simp)
    rw [e] at q
    exact q
  exact k _ _ _ _ _ _ R2 (X1.trans X2) r h1
/-- arguments, then something by their values -/
theorem args {p : PL} {r : List V → Hp → VK → Prop} (hr : ∀ vs H Q, rL B F0 p vs H Q → r vs H Q) (σ : St) (H : Hp) (Q : VK) (h : tE B F0 W (wCall p wa) σ H Q) : tCB r (tA B F0 W wa) σ H Q := by
  obtain ⟨w, env, K, KX, R, E, h, k, kx⟩ := h
  exact ⟨w, env, _, KX, R, E, h, fun xs S1 vs H1 μ1 F1 R1 X1 r1 h1 => hr vs H1 Q ⟨⟨μ1, S1, F1⟩, xs, K, R1, r1, h1, k.xt X1⟩, kx⟩
theorem xcallB {p : PL} {q : Pos} (hc : CallR X (.builtin id) (rL B F0 p)) (hg : Gl X x) (hm : X.mg x = none) (hv : bootBuiltins x = some (.builtin id)) (ha : PXA X B F0 W (e :: es) wa) (hn : x ≠ "__name__" := by decide) (hdb : (x == ("__debug__" : Str)) = false := by decide)
    (he : starEach (e :: es) X.env = (false, eval e X.env) :: starEach es X.env := by rfl) (hpl : (backTo pos (starEach es X.env)).any (·.1) = false := by rfl) : PX X B F0 W (.Call (.Name x q) (e :: es) [] pos) (wCall p wa) :=
  wkE (pe_callB hc hg hm hv ha hn hdb he hpl) (args fun _ _ _ h => h)
theorem xcallT {p : PL} {q : Pos} (hc : CallR X (.type T) (rL B F0 p)) (hg : Gl X x) (hm : X.mg x = none) (hv : bootBuiltins x = some (.type T)) (ha : PXA X B F0 W (e :: es) wa) (hn : x ≠ "__name__" := by decide) (hdb : (x == ("__debug__" : Str)) = false := by decide)
    (he : starEach (e :: es) X.env = (false, eval e X.env) :: starEach es X.env := by rfl) (hpl : (backTo pos (starEach es X.env)).any (·.1) = false := by rfl) : PX X B F0 W (.Call (.Name x q) (e :: es) [] pos) (wCall p wa) :=
  wkE (pe_callTy hc hg hm hv ha hn hdb he hpl) (args fun _ _ _ h => h)
end

/-! ### slices -/
abbrev WO := Env → Sto → (Option Int → Sto → Prop) → KX → Prop
def wNo : WO := fun _ S K _ => K none S
def wPart (wa : WE) : WO := fun env S K KX => wa env S (fun x S1 => match x with
  | .z (.int i) => K (some i) S1
  | _ => False) KX
def FiO (B F0 : Hp) (w : Wd) (K : Option Int → Sto → Prop) (Q : Option Int → Hp → Prop) : Prop := ∀ b S' H' μ' F', Rl B F0 μ' S' F' H' → Xt w.μ w.S w.F μ' S' F' → K b S' → Q b H'
theorem FiO.xt {B F0 : Hp} {w w' : Wd} {K : Option Int → Sto → Prop} {Q : Option Int → Hp → Prop} (h : FiO B F0 w K Q) (x : Xt w.μ w.S w.F w'.μ w'.S w'.F) : FiO B F0 w' K Q := fun b S H μ F R X k => h b S H μ F R (x.trans X) k
def tO (B F0 : Hp) (W : WX) (wt : WO) : TO := fun σ H Q => ∃ (w : Wd) (env : Env) (K : Option Int → Sto → Prop) (KX : KX), RlW B F0 w H ∧ EnvR B w.F w.μ w.S.length env σ ∧ wt env w.S K KX ∧ FiO B F0 w K Q ∧ FiX B F0 W w env σ KX
def PXO (X : Cx) (B F0 : Hp) (W : WX) (e : Option Expr) (wt : WO) : Prop := PO X e (tO B F0 W wt)
def rSl (B F0 : Hp) (p : D → Option Int → Option Int → Sto → K1 → Prop) : V → Option Int → Option Int → Hp → VK → Prop := fun v lo hi H Q => ∃ (w : Wd) (x : D) (K : K1), RlW B F0 w H ∧ RpW B w x v ∧ p x lo hi w.S K ∧ Fi B F0 w K Q
def wSl (p : D → Option Int → Option Int → Sto → K1 → Prop) (wa : WE) (wl wh : WO) : WE := fun env S K KX => wa env S (fun x S1 => wl env S1 (fun lo S2 => wh env S2 (fun hi S3 => p x lo hi S3 K) KX) KX) KX
section
variable {X : Cx} {B F0 : Hp} {W : WX} {e o : Expr} {we : WE} {wl wh : WO} {lo hi : Option Expr} {pos p2 : Pos}
theorem ono : PXO X B F0 W none wNo := ⟨fun pins s σ H Q I h => by
  obtain ⟨w, env, K, KX, R, E, h, k, kx⟩ := h
  exact po_none.run pins s σ H Q I (k none w.S H w.μ w.F R .refl h)⟩
theorem osome (h1 : PX X B F0 W e we) : PXO X B F0 W (some e) (wPart we) := ⟨fun pins s σ H Q I h => by
  obtain ⟨w, env, K, KX, R, E, h, k, kx⟩ := h
  refine (po_some h1).run pins s σ H Q I ⟨w, env, _, KX, R, E, h, fun x S1 v H1 μ1 F1 R1 X1 r1 h1 => ?_, kx⟩
  dsimp only at h1 ⊢
  split at h1
  · cases r1 with | z q => cases q; exact ⟨_, rfl, k _ S1 H1 μ1 F1 R1 X1 h1⟩
  · exact h1.elim⟩
theorem xsl {p : D → Option Int → Option Int → Sto → K1 → Prop} (hr : SlR X (rSl B F0 p)) (he : PX X B F0 W e we) (hl : PXO X B F0 W lo wl) (hu : PXO X B F0 W hi wh) : PX X B F0 W (.Subscript e (.Slice lo hi none p2) pos) (wSl p we wl wh) :=
  wkE (pe_slice hr he hl hu) fun σ H Q h => by
    obtain ⟨w, env, K, KX, R, E, h, k, kx⟩ := h
    refine ⟨w, env, _, KX, R, E, h, fun x S1 v H1 μ1 F1 R1 X1 r1 h1 => ?_, kx⟩
    refine ⟨⟨μ1, S1, F1⟩, env, _, KX, R1, E.xt X1, h1, fun lo S2 H2 μ2 F2 R2 X2 h2 => ?_, kx.xt X1⟩
    refine ⟨⟨μ2, S2, F2⟩, env, _, KX, R2, E.xt (X1.trans X2), h2, fun hi S3 H3 μ3 F3 R3 X3 h3 => ?_, kx.xt (X1.trans X2)⟩
    exact ⟨⟨μ3, S3, F3⟩, x, K, R3, r1.xt (X2.trans X3), h3, k.xt ((X1.trans X2).trans X3)⟩
end

/-! ### methods of built-in types -/
/-- what a receiver must be -/
def isTy (T : Ty) (S : Sto) (x : D) : Bool := match T, x with
  | .str, .z (.str _) => true
  | .list, .r n => match S[n]? with
    | some (.lst _) => true
    | _ => false
  | .dict, .r n => match S[n]? with
    | some (.dic _) => true
    | _ => false
  | .list, .z (.list _) => true
  | .list, .b (.list _) => true
  | _, _ => false
def wMth (T : Ty) (p : D → PL) (wo : WE) (wa : WA) : WE := fun env S K KX => wo env S (fun x S1 => pReq (isTy T S1 x = true) (wa env S1 (fun ds S2 => p x ds S2 K) KX)) KX
theorem isTy_ok {K : PySem.W.Frag} {T : Ty} {B F0 H : Hp} {w : Wd} {x : D} {v : V} (R : RlW B F0 w H) (r : RpW B w x v) (h : isTy T w.S x = true) : tyV K T.s v H := by
  unfold isTy at h
  split at h
  · cases r with | z q => cases q; exact rfl
  · cases r with
    | r hi =>
      split at h
      · rename_i ds e
        obtain ⟨vs, hv, _⟩ := R.ob _ _ e
        exact .inl ⟨rfl, vs, SqL.of hv⟩
      · cases h
  · cases r with
    | r hi =>
      split at h
      · rename_i ds e
        obtain ⟨vs, hv, _⟩ := R.ob _ _ e
        exact .inr (.inr (.inl ⟨rfl, .inl ⟨_, hv⟩⟩))
      · cases h
  · cases r with | z q => cases q with | lst a b => exact .inl ⟨rfl, _, SqL.of (R.fh _ _ a)⟩
  · cases r with
    | b q =>
      cases q with
      | lst a b => exact .inl ⟨rfl, _, .inl (a.elim (fun z => R.fh.rd z) fun z => R.bh.rd z)⟩
  · cases h
section
variable {X : Cx} {B F0 : Hp} {W : WX} {o e : Expr} {es : List Expr} {wo : WE} {wa : WA} {name : Str} {apos cpos : Pos} {T : Ty} {id : String} {p : D → PL}
theorem xm0 (pa : PlainAttrs T.s) (slot : Slot T.s name id) (hty : typeOf (.builtin id) = pure (.type "method_descriptor")) (hm : MtR X id (rM B F0 p)) (ho : PX X B F0 W o wo)
    (hbase : attributeBase o name X.env (eval o X.env) = eval o X.env := by rfl) (hline : (apos.endLine == cpos.line) = true := by rfl) : PX X B F0 W (.Call (.Attribute o name apos) [] [] cpos) (wMth T p wo wNil) :=
  wkE (pe_bm0 pa slot hty hm ho hbase hline) fun σ H Q h => by
    obtain ⟨w, env, K, KX, R, E, h, k, kx⟩ := h
    refine ⟨w, env, _, KX, R, E, h, fun x S1 v H1 μ1 F1 R1 X1 r1 h1 => ?_, kx⟩
    obtain ⟨ty, h1⟩ := h1.out
    exact ⟨isTy_ok (w := ⟨μ1, S1, F1⟩) R1 r1 ty, ⟨μ1, S1, F1⟩, x, [], K, R1, r1, .nil, h1, k.xt X1⟩
theorem xm1 (pa : PlainAttrs T.s) (slot : Slot T.s name id) (hty : typeOf (.builtin id) = pure (.type "method_descriptor")) (hm : MtR X id (rM B F0 p)) (ho : PX X B F0 W o wo) (ha : PXA X B F0 W (e :: es) wa)
    (hbase : attributeBase o name X.env (eval o X.env) = eval o X.env := by rfl)
    (hfew : ((backTo cpos (starEach (e :: es) X.env)).all (fun x => !x.1) && (backToKw cpos (keywordEach [] X.env)).all (fun x => x.1.isSome)
      && decide ((e :: es).length + ([] : List Keyword).length + (if ([] : List Keyword).isEmpty then 0 else 1) < 30)) = true := by rfl)
    (hline : (apos.endLine == cpos.line) = true := by rfl) (hs : starEach (e :: es) X.env = (false, eval e X.env) :: starEach es X.env := by rfl) (hplain : (backTo cpos (starEach es X.env)).any (·.1) = false := by rfl) :
    PX X B F0 W (.Call (.Attribute o name apos) (e :: es) [] cpos) (wMth T p wo wa) :=
  wkE (pe_bm pa slot hty hm ho ha hbase hfew hline hs hplain) fun σ H Q h => by
    obtain ⟨w, env, K, KX, R, E, h, k, kx⟩ := h
    refine ⟨w, env, _, KX, R, E, h, fun x S1 v H1 μ1 F1 R1 X1 r1 h1 => ?_, kx⟩
    obtain ⟨ty, h1⟩ := h1.out
    refine ⟨isTy_ok (w := ⟨μ1, S1, F1⟩) R1 r1 ty, ⟨μ1, S1, F1⟩, env, _, KX, R1, E.xt X1, h1, fun xs S2 vs H2 μ2 F2 R2 X2 r2 h2 => ?_, kx.xt X1⟩
    exact ⟨⟨μ2, S2, F2⟩, x, xs, K, R2, r1.xt X2, r2, h2, k.xt (X1.trans X2)⟩
end
end PL

set_option Elab.async false
set_option linter.all false
set_option maxRecDepth 100000
/-! PL, part 3: operators, subscripts, built-in calls and methods, over data -/
namespace PL
open PySem L2

/-- the items of a list, of a tuple -/
def lsD (S : Sto) : D → Option (List D)
  | .z (.list ds) => some (ds.map .z)
  | .b (.list ds) => some (ds.map bz)
  | .r n => match S[n]? with
    | some (.lst ds) => some ds
    | _ => none
  | _ => none
def tpD : D → Option (List D)
  | .z (.tuple ds) => some (ds.map .z)
  | .b (.tuple ds) => some (ds.map bz)
  | .t ds => some ds
  | _ => none
/-- the items of either -/
def sqD (S : Sto) : D → Option (List D)
  | .z (.tuple ds) => some (ds.map .z)
  | .b (.tuple ds) => some (ds.map bz)
  | .t ds => some ds
  | x => lsD S x
def lenD (S : Sto) : D → Option Nat
  | .z (.list ds) => some ds.length
  | .b (.list ds) => some ds.length
  | .z (.tuple ds) => some ds.length
  | .b (.tuple ds) => some ds.length
  | .t ds => some ds.length
  | .r n => match S[n]? with
    | some (.lst ds) => some ds.length
    | some (.dic kvs) => some kvs.length
    | _ => none
  | _ => none
/-- an item by its place, from either end -/
def atD {α : Type} (xs : List α) : Int → Option α
  | .ofNat k => xs[k]?
  | .negSucc k => if k < xs.length then xs[xs.length - (k + 1)]? else none
def ixD (S : Sto) : D → Int → Option D
  | .z (.list ds), i => (atD ds i).map .z
  | .b (.list ds), i => (atD ds i).map bz
  | .z (.tuple ds), i => (atD ds i).map .z
  | .b (.tuple ds), i => (atD ds i).map bz
  | .t ds, i => atD ds i
  | .r n, i => match S[n]? with
    | some (.lst ds) => atD ds i
    | _ => none
  | _, _ => none
theorem atD_neg {α : Type} (xs : List α) (k : Nat) : atD xs (Int.negSucc k) = if k < xs.length then xs[xs.length - (k + 1)]? else none := rfl
theorem atD_atI {α : Type} {xs : List α} {i : Int} {x : α} (h : atD xs i = some x) : atI xs i = some x := by
  cases i with
  | ofNat k => exact atI_nat h
  | negSucc k =>
    rw [atD_neg] at h
    split at h
    · rename_i hk
      have e : ixN xs.length (Int.negSucc k) = some (xs.length - (k + 1)) := by
        unfold ixN
        rw [if_neg (by omega), if_pos (by omega)]
        congr 1
        omega
      unfold atI
      rw [e]
      exact h
    · cases h
section
variable {K : PySem.W.Frag} {B F0 H : Hp} {w : Wd}
theorem lsD_ok {x : D} {v : V} {ds : List D} (R : RlW B F0 w H) (r : RpW B w x v) (h : lsD w.S x = some ds) : ∃ a vs, v = .ref a ∧ Rd H a (.lst vs) ∧ RpsW B w ds vs := by
  unfold lsD at h
  split at h
  · cases h; cases r with | z q => cases q with | lst a b => exact ⟨_, _, rfl, .inl (R.fh _ _ a), RpDs.zs b⟩
  · cases h; cases r with | b q => cases q with | lst a b => exact ⟨_, _, rfl, a.elim (fun z => R.fh.rd z) fun z => R.bh.rd z, RpDs.bzs b⟩
  · split at h
    · rename_i e
      cases h; cases r with | r hi => obtain ⟨vs, hv, rv⟩ := R.ob _ _ e; exact ⟨_, vs, rfl, .inl hv, rv⟩
    · cases h
  · cases h
theorem tpD_ok {x : D} {v : V} {ds : List D} (R : RlW B F0 w H) (r : RpW B w x v) (h : tpD x = some ds) : ∃ a vs, v = .ref a ∧ H a = some (.tup vs) ∧ RpsW B w ds vs := by
  unfold tpD at h
  split at h
  · cases h; cases r with | z q => cases q with | tup a b => exact ⟨_, _, rfl, R.fh _ _ a, RpDs.zs b⟩
  · cases h; cases r with | b q => cases q with | tup a b => exact ⟨_, _, rfl, R.fh _ _ a, RpDs.bzs b⟩
  · cases h; cases r with | t a b => exact ⟨_, _, rfl, R.fh _ _ a, b⟩
  · cases h
theorem tpD_okF {x : D} {v : V} {ds : List D} (R : RlW B F0 w H) (r : RpW B w x v) (h : tpD x = some ds) : ∃ a vs, v = .ref a ∧ H a = some (.tup vs) ∧ w.F a = some (.tup vs) ∧ RpsW B w ds vs := by
  unfold tpD at h
  split at h
  · cases h; cases r with | z q => cases q with | tup a b => exact ⟨_, _, rfl, R.fh _ _ a, a, RpDs.zs b⟩
  · cases h; cases r with | b q => cases q with | tup a b => exact ⟨_, _, rfl, R.fh _ _ a, a, RpDs.bzs b⟩
  · cases h; cases r with | t a b => exact ⟨_, _, rfl, R.fh _ _ a, a, b⟩
  · cases h
theorem sqD_ok {x : D} {v : V} {ds : List D} (R : RlW B F0 w H) (r : RpW B w x v) (h : sqD w.S x = some ds) : ∃ a vs, v = .ref a ∧ (SqL K H a vs ∨ SqT K H a vs) ∧ RpsW B w ds vs := by
  unfold sqD at h
  split at h
  · cases h; cases r with | z q => cases q with | tup a b => exact ⟨_, _, rfl, .inr (.inl (.inl (R.fh _ _ a))), RpDs.zs b⟩
  · cases h; cases r with | b q => cases q with | tup a b => exact ⟨_, _, rfl, .inr (.inl (.inl (R.fh _ _ a))), RpDs.bzs b⟩
  · cases h; cases r with | t a b => exact ⟨_, _, rfl, .inr (.inl (.inl (R.fh _ _ a))), b⟩
  · obtain ⟨a, vs, e, h1, h2⟩ := lsD_ok R r h
    exact ⟨a, vs, e, .inl (.inl h1), h2⟩
theorem ixD_ok {x d : D} {v : V} {i : Int} (R : RlW B F0 w H) (r : RpW B w x v) (h : ixD w.S x i = some d) : ∃ a vs u, v = .ref a ∧ (SqL K H a vs ∨ SqT K H a vs) ∧ atI vs i = some u ∧ RpW B w d u := by
  have key : ∀ {ds : List D} {vs : List V}, RpsW B w ds vs → atD ds i = some d → ∃ u, atI vs i = some u ∧ RpW B w d u := fun {ds vs} rv e => by
    cases i with
    | ofNat k =>
      obtain ⟨u, h1, h2⟩ := RpDs.get rv e
      exact ⟨u, atI_nat h1, h2⟩
    | negSucc k =>
      have e2 : atD ds (Int.negSucc k) = some d := e
      rw [atD_neg] at e
      split at e
      · rename_i hk
        obtain ⟨u, h1, h2⟩ := RpDs.get rv e
        refine ⟨u, atD_atI ?_, h2⟩
        have hl : vs.length = ds.length := rv.length.symm
        rw [atD_neg, hl, if_pos hk]
        exact h1
      · cases e
  have mp : ∀ {f : PyData → D} {ds : List PyData}, (atD ds i).map f = some d → atD (ds.map f) i = some d := fun {f ds} e => by
    cases i with
    | ofNat k => show (ds.map f)[k]? = _; rw [List.getElem?_map]; exact e
    | negSucc k =>
      rw [atD_neg] at e ⊢
      rw [List.length_map]
      split at e
      · rename_i hk
        rw [if_pos hk, List.getElem?_map]; exact e
      · simp at e
  unfold ixD at h
  split at h
  · cases r with | z q => cases q with | lst a b => obtain ⟨u, h1, h2⟩ := key (RpDs.zs b) (mp h); exact ⟨_, _, u, rfl, .inl (.inl (.inl (R.fh _ _ a))), h1, h2⟩
  · cases r with | b q => cases q with | lst a b => obtain ⟨u, h1, h2⟩ := key (RpDs.bzs b) (mp h); exact ⟨_, _, u, rfl, .inl (.inl (a.elim (fun z => R.fh.rd z) fun z => R.bh.rd z)), h1, h2⟩
  · cases r with | z q => cases q with | tup a b => obtain ⟨u, h1, h2⟩ := key (RpDs.zs b) (mp h); exact ⟨_, _, u, rfl, .inr (.inl (.inl (R.fh _ _ a))), h1, h2⟩
  · cases r with | b q => cases q with | tup a b => obtain ⟨u, h1, h2⟩ := key (RpDs.bzs b) (mp h); exact ⟨_, _, u, rfl, .inr (.inl (.inl (R.fh _ _ a))), h1, h2⟩
  · cases r with | t a b => obtain ⟨u, h1, h2⟩ := key b h; exact ⟨_, _, u, rfl, .inr (.inl (.inl (R.fh _ _ a))), h1, h2⟩
  · split at h
    · rename_i e
      cases r with | r hi => obtain ⟨vs, hv, rv⟩ := R.ob _ _ e; obtain ⟨u, h1, h2⟩ := key rv h; exact ⟨_, _, u, rfl, .inl (.inl (.inl hv)), h1, h2⟩
    · cases h
  · cases h
end

/-! ### the ends of operations -/
section
variable {B F0 H : Hp} {w : Wd} {K : K1} {Q : VK}
theorem Fi.data {d : PyData} {v : V} (k : Fi B F0 w K Q) (R : RlW B F0 w H) (r : ∀ L T, RpT L T d v) (h : K (.z d) w.S) : Q v H := k _ w.S v H w.μ w.F R .refl (.z (r _ _)) h
theorem Fi.int {i : Int} (k : Fi B F0 w K Q) (R : RlW B F0 w H) (h : K (.z (.int i)) w.S) : Q (.int i) H := k.data R (fun _ _ => .int i) h
theorem Fi.bl {i : Bool} (k : Fi B F0 w K Q) (R : RlW B F0 w H) (h : K (.z (.bool i)) w.S) : Q (.bl i) H := k.data R (fun _ _ => .bl i) h
theorem Fi.str {i : Str} (k : Fi B F0 w K Q) (R : RlW B F0 w H) (h : K (.z (.str i)) w.S) : Q (.str i) H := k.data R (fun _ _ => .str i) h
theorem Fi.non (k : Fi B F0 w K Q) (R : RlW B F0 w H) (h : K (.z .none) w.S) : Q .non H := k.data R (fun _ _ => .non) h
/-- a new list -/
theorem Fi.newL {ds : List D} {vs : List V} (k : Fi B F0 w K Q) (R : RlW B F0 w H) (r : RpsW B w ds vs) (h : K (.r w.S.length) (w.S ++ [.lst ds])) {p : Addr} (hp : H p = none) : Q (.ref p) (upd H p (.lst vs)) := by
  obtain ⟨R2, X2⟩ := R.grow (u := .lst vs) (o := .lst ds) hp fun G hG => ⟨vs, hG, r⟩
  have e : muX w.μ w.S.length p w.S.length = p := by unfold muX; rw [if_pos rfl]
  have q : RpD B w.F (muX w.μ w.S.length p) (w.S ++ [Ob.lst ds]).length (.r w.S.length) (.ref (muX w.μ w.S.length p w.S.length)) := .r (by simp)
  rw [e] at q
  exact k _ _ _ _ _ _ R2 X2 q h
/-- a new tuple -/
theorem Fi.newT {ds : List D} {vs : List V} (k : Fi B F0 w K Q) (R : RlW B F0 w H) (r : RpsW B w ds vs) (h : K (mkT ds) w.S) {p : Addr} (hp : H p = none) : Q (.ref p) (upd H p (.tup vs)) := by
  obtain ⟨R2, X2⟩ := R.froze (.tup vs) hp
  exact k _ _ _ _ _ _ R2 X2 (mkT_rp upd_same (r.xt X2)) h
/-- a list is written -/
theorem Fi.setL {n : Nat} {ds : List D} {vs : List V} {d : D} {v : V} (k : Fi B F0 w K Q) (R : RlW B F0 w H) (hn : n < w.S.length) (r : RpsW B w ds vs) (rd : RpW B w d v) (h : K d (w.S.set n (.lst ds))) : Q v (upd H (w.μ n) (.lst vs)) := by
  obtain ⟨R2, X2⟩ := R.write (u := .lst vs) (o := .lst ds) hn fun G hG => ⟨vs, hG, r⟩
  exact k _ _ _ _ _ _ R2 X2 (rd.xt X2) h
end
def lsR (S : Sto) (n : Nat) : Option (List D) := match S[n]? with
  | some (.lst ds) => some ds
  | _ => none
theorem lsR_ok {B F0 H : Hp} {w : Wd} {n : Nat} {ds : List D} (R : RlW B F0 w H) (h : lsR w.S n = some ds) : n < w.S.length ∧ ∃ vs, H (w.μ n) = some (.lst vs) ∧ RpsW B w ds vs := by
  unfold lsR at h
  split at h
  · rename_i e
    cases h
    obtain ⟨vs, hv, rv⟩ := R.ob _ _ e
    exact ⟨Rl.lt e, vs, hv, rv⟩
  · cases h

/-! ### arithmetic and + -/
def pCat : P2 := fun x y S K => pGet (lsD S x) fun xs => pGet (lsD S y) fun ys => pReq (xs.length + ys.length ≤ sizeLine) (K (.r S.length) (S ++ [.lst (xs ++ ys)]))
def pAdd : P2 := fun x y S K => match x, y with
  | .z (.int i), .z (.int j) => K (.z (.int (i + j))) S
  | .z (.str a), .z (.str b) => pReq (a.length + b.length ≤ sizeLine) (K (.z (.str (a ++ b))) S)
  | x, y => match tpD x, tpD y with
    | some xs, some ys => pReq (xs.length + ys.length ≤ sizeLine) (K (mkT (xs ++ ys)) S)
    | _, _ => pCat x y S K
def pSub : P2 := fun x y S K => match x, y with
  | .z (.int i), .z (.int j) => K (.z (.int (i - j))) S
  | _, _ => False
/-- k times a text -/
def strRep (x : Str) (k : Nat) : Str := ⟨(List.replicate k x.cps.toList).flatten.toArray⟩
def pMul : P2 := fun x y S K => match x, y with
  | .z (.int i), .z (.int j) => pReq (CMul i j) (K (.z (.int (i * j))) S)
  | .z (.str a), .z (.int j) => pReq (0 ≤ j ∧ j ≤ 1000 ∧ a.length ≤ 1000) (K (.z (.str (strRep a j.toNat))) S)
  | .r n, .z (.int j) => pGet (lsR S n) fun xs => pReq (-(2 ^ 63) ≤ j ∧ j < 2 ^ 63 ∧ xs.length * j.toNat ≤ sizeLine) (K (.r S.length) (S ++ [.lst (List.replicate j.toNat xs).flatten]))
  | _, _ => False
def pDiv : P2 := fun x y S K => match x, y with
  | .z (.int i), .z (.int j) => pReq (j ≠ 0 ∧ j.natAbs < 1073741824) (K (.z (.int (i.fdiv j))) S)
  | _, _ => False
def pMod : P2 := fun x y S K => match x, y with
  | .z (.int i), .z (.int j) => pReq (j ≠ 0) (K (.z (.int (i.fmod j))) S)
  | _, _ => False
def pPow : P2 := fun x y S K => match x, y with
  | .z (.int i), .z (.int j) => pReq (0 ≤ j ∧ j ≤ 1000000 ∧ i.natAbs < 2 ^ 64) (K (.z (.int (i ^ j.toNat))) S)
  | _, _ => False
def pShl : P2 := fun x y S K => match x, y with
  | .z (.int i), .z (.int j) => pReq (0 ≤ j ∧ j ≤ 1000000 ∧ i.natAbs < 2 ^ 64) (K (.z (.int (i * 2 ^ j.toNat))) S)
  | _, _ => False
def pShr : P2 := fun x y S K => match x, y with
  | .z (.int i), .z (.int j) => pReq (0 ≤ j) (K (.z (.int (i / 2 ^ j.toNat))) S)
  | _, _ => False
def pAnd : P2 := fun x y S K => match x, y with
  | .z (.int i), .z (.int j) => K (.z (.int (Builtin.bitAnd i j))) S
  | _, _ => False
def pOr : P2 := fun x y S K => match x, y with
  | .z (.int i), .z (.int j) => K (.z (.int (Builtin.bitOr i j))) S
  | _, _ => False
theorem rpInt {B : Hp} {w : Wd} {i : Int} {v : V} (r : RpW B w (.z (.int i)) v) : v = .int i := by cases r with | z q => cases q; rfl
theorem rpStr {B : Hp} {w : Wd} {i : Str} {v : V} (r : RpW B w (.z (.str i)) v) : v = .str i := by cases r with | z q => cases q; rfl
theorem rpBl {B : Hp} {w : Wd} {i : Bool} {v : V} (r : RpW B w (.z (.bool i)) v) : v = .bl i := by cases r with | z q => cases q; rfl
theorem strRep_ok (x : Str) : ∀ k : Nat, (List.replicate k x.cps).foldl (· ++ ·) #[] = (strRep x k).cps := by
  have h : ∀ (k : Nat) (acc : Array Nat), (List.replicate k x.cps).foldl (· ++ ·) acc = acc ++ (List.replicate k x.cps.toList).flatten.toArray := by
    intro k
    induction k with
    | zero => intro acc; simp
    | succ k ih => intro acc; rw [List.replicate_succ, List.foldl_cons, ih, List.replicate_succ, List.flatten_cons]; apply Array.ext'; simp
  intro k
  rw [h]; simp [strRep]
section
variable {X : Cx} {B F0 : Hp}
theorem catR {f : Value → Value → Sem Value} (hf : ∀ {pins : List (Addr × Obj)} {s : Shared} {σ : St} {H : Hp} {l b : Addr} {xs zs : List V} {Q : VK}, Inv X pins σ H s → Rd H l (.lst xs) → Rd H b (.lst zs) → xs.length + zs.length ≤ sizeLine → (∀ p, H p = none → Q (.ref p) (upd H p (.lst (xs ++ zs)))) →
    wpAny (model X.prog X.w) X.A (f (.ref l) (.ref b)) (EP X pins σ Q) X.xe s) : OpR X f (r2 B F0 pCat) := by
  intro pins s σ H x y v u Q I rx ry h
  obtain ⟨w, dx, dy, K, R, r1, r2, h, k⟩ := h
  obtain ⟨xs, e1, h⟩ := h.out
  obtain ⟨ys, e2, h⟩ := h.out
  obtain ⟨hz, h⟩ := h.out
  obtain ⟨a, vs, rfl, d1, q1⟩ := lsD_ok R r1 e1
  obtain ⟨b, us, rfl, d2, q2⟩ := lsD_ok R r2 e2
  cases rx; cases ry
  exact hf I d1 d2 (by rw [← q1.length, ← q2.length]; exact hz) fun p hp => k.newL R (q1.append q2) h hp
theorem cat_lists {pins : List (Addr × Obj)} {s : Shared} {σ : St} {H : Hp} {l b : Addr} {xs zs : List V} {Q : VK} (I : Inv X pins σ H s) (h1 : Rd H l (.lst xs)) (h2 : Rd H b (.lst zs)) (hz : xs.length + zs.length ≤ sizeLine)
    (q : ∀ p, H p = none → Q (.ref p) (upd H p (.lst (xs ++ zs)))) : wpAny (model X.prog X.w) X.A (binaryOp .Add (.ref l) (.ref b)) (EP X pins σ Q) X.xe s := by
  obtain ⟨z1, its, n, v1, e1⟩ := h1.ok I.hok
  obtain ⟨z2, jts, m, v2, e2⟩ := h2.ok I.hok
  have l1 := v1.length
  have l2 := v2.length
  refine PySem.P.add_list e1 e2 ?_ ?_
  · have ea : its.toArray ++ jts.toArray = (its ++ jts).toArray := by simp
    rw [ea]
    exact ⟨.ref _, _, I.lnew (t' := s.toks) (v1.append v2) (by simp; omega), rfl, q _ I.fresh⟩
  · simp; omega
theorem oAdd : OpR X (binaryOp .Add) (r2 B F0 pAdd) := by
  intro pins s σ H x y v u Q I rx ry h
  obtain ⟨w, dx, dy, K, R, q1, q2, h, k⟩ := h
  unfold pAdd at h
  split at h
  · rw [rpInt q1] at rx; rw [rpInt q2] at ry
    exact op_add pins s σ H _ _ v u Q I rx ry ⟨_, _, rfl, rfl, k.int R h⟩
  · obtain ⟨hz, h⟩ := h.out
    rw [rpStr q1] at rx; rw [rpStr q2] at ry
    exact op_add_str pins s σ H _ _ v u Q I rx ry ⟨_, _, rfl, rfl, hz, k.str R h⟩
  split at h
  · rename_i xs ys e1 e2
    obtain ⟨hz, h⟩ := h.out
    obtain ⟨a, vs, rfl, ha, fa, ra⟩ := tpD_okF R q1 e1
    obtain ⟨b, us, rfl, hb, fb, rb⟩ := tpD_okF R q2 e2
    refine op_catA pins s σ H _ _ v u Q I rx ry ⟨a, b, vs, us, rfl, rfl, .inl (.inl ha), .inl (.inl hb), by rw [← ra.length, ← rb.length]; exact hz, fun z => ?_, fun _ z => ?_, fun _ _ p hp => k.newT R (ra.append rb) h hp⟩
    · subst z
      cases ra
      exact k _ w.S _ H w.μ w.F R .refl (mkT_rp fb rb) h
    · subst z
      cases rb
      rw [List.append_nil] at h
      exact k _ w.S _ H w.μ w.F R .refl (mkT_rp fa ra) h
  · exact catR (B := B) (F0 := F0) (fun {_ _ _ _ _ _ _ _ _} I a b c d => cat_lists I a b c d) pins s σ H _ _ v u Q I rx ry ⟨w, _, _, K, R, q1, q2, h, k⟩
/-- two ints, by a rule -/
theorem intOp {op : Operator} {g : Int → Int → Int} {C : Int → Int → Prop} {p : P2} (ho : OpR X (binaryOp op) (rI C fun i j => .int (g i j))) (hp : ∀ x y S K, p x y S K → ∃ i j, x = .z (.int i) ∧ y = .z (.int j) ∧ C i j ∧ K (.z (.int (g i j))) S) : OpR X (binaryOp op) (r2 B F0 p) := by
  intro pins s σ H x y v u Q I rx ry h
  obtain ⟨w, dx, dy, K, R, q1, q2, h, k⟩ := h
  obtain ⟨i, j, rfl, rfl, hc, h5⟩ := hp _ _ _ _ h
  rw [rpInt q1] at rx; rw [rpInt q2] at ry
  exact ho pins s σ H _ _ v u Q I rx ry ⟨_, _, rfl, rfl, hc, k.int R h5⟩
theorem intOp0 {op : Operator} {g : Int → Int → Int} {p : P2} (ho : OpR X (binaryOp op) (rI0 fun i j => .int (g i j))) (hp : ∀ x y S K, p x y S K → ∃ i j, x = .z (.int i) ∧ y = .z (.int j) ∧ K (.z (.int (g i j))) S) : OpR X (binaryOp op) (r2 B F0 p) := by
  intro pins s σ H x y v u Q I rx ry h
  obtain ⟨w, dx, dy, K, R, q1, q2, h, k⟩ := h
  obtain ⟨i, j, rfl, rfl, h5⟩ := hp _ _ _ _ h
  rw [rpInt q1] at rx; rw [rpInt q2] at ry
  exact ho pins s σ H _ _ v u Q I rx ry ⟨_, _, rfl, rfl, k.int R h5⟩
theorem oSub : OpR X (binaryOp .Sub) (r2 B F0 pSub) := intOp0 op_sub fun x y S K h => by
  unfold pSub at h; split at h
  · exact ⟨_, _, rfl, rfl, h⟩
  · exact h.elim
theorem RpDs.rep {B : Hp} {w : Wd} {ds : List D} {vs : List V} (h : RpsW B w ds vs) : ∀ k : Nat, RpsW B w (List.replicate k ds).flatten (List.replicate k vs).flatten
  | 0 => .nil
  | k + 1 => by
    rw [List.replicate_succ, List.replicate_succ, List.flatten_cons, List.flatten_cons]
    exact h.append (RpDs.rep h k)
theorem oMul : OpR X (binaryOp .Mult) (r2 B F0 pMul) := by
  intro pins s σ H x y v u Q I rx ry h
  obtain ⟨w, dx, dy, K, R, q1, q2, h, k⟩ := h
  unfold pMul at h
  split at h
  · obtain ⟨hc, h⟩ := h.out
    rw [rpInt q1] at rx; rw [rpInt q2] at ry
    exact op_mul pins s σ H _ _ v u Q I rx ry ⟨_, _, rfl, rfl, hc, k.int R h⟩
  · rename_i a j
    obtain ⟨⟨h0, h1, h2⟩, h⟩ := h.out
    rw [rpStr q1] at rx; rw [rpInt q2] at ry
    obtain ⟨t, rfl⟩ := rx
    obtain ⟨t', rfl⟩ := ry
    have hm : a.length * j.toNat ≤ 1000000 := Nat.le_trans (Nat.mul_le_mul h2 (show j.toNat ≤ 1000 by omega)) (by decide)
    refine PySem.P.mul_str (by rw [decide_eq_false (by omega), decide_eq_false (by omega)]; rfl) (fun hn _ => ?_) (fun _ _ => ?_) ?_
    · have e : (1000 : Int) ≤ (2 ^ 63 - 1) / j := (Int.le_ediv_iff_mul_le (by omega)).mpr (by omega)
      omega
    · unfold Builtin.Str.tooLong
      exact decide_eq_false (by rw [sizeLine_eq]; omega)
    · have fin : ∀ t, EP X pins σ Q (.str (strRep a j.toNat) t) s := fun t => ⟨.str _, H, I, ⟨t, rfl⟩, k.str R h⟩
      have fin' : ∀ t n, EP X pins σ Q (.str (strRep a j.toNat) t) { s with toks := n } := fun t n => ⟨.str _, H, I.tok n, ⟨t, rfl⟩, k.str R h⟩
      by_cases c1 : j < 1
      · rw [if_pos c1]
        have e : strRep a j.toNat = Str.empty := by
          have : j.toNat = 0 := by omega
          rw [this]; rfl
        rw [e] at fin'
        exact ⟨by decide, fin' _ _⟩
      · rw [if_neg c1]
        by_cases c2 : (j == 1 || a.length == 0) = true
        · rw [if_pos c2]
          have e : strRep a j.toNat = a := by
            rcases Bool.or_eq_true_iff.mp c2 with c | c
            · have : j.toNat = 1 := by have := eq_of_beq c; omega
              rw [this]
              simp [strRep]
            · have hl : a.cps.toList = [] := by
                have := eq_of_beq c
                exact List.eq_nil_of_length_eq_zero this
              have ha : a = ⟨#[]⟩ := by
                cases a with | mk cps => simp at hl; rw [hl]
              rw [ha]; simp [strRep]
          rw [e] at fin
          exact fin t
        · rw [if_neg c2, strRep_ok]
          have e : (⟨(strRep a j.toNat).cps⟩ : Str) = strRep a j.toNat := rfl
          rw [e]
          refine ⟨?_, fin' _ _⟩
          show (strRep a j.toNat).length ≤ _
          have : (strRep a j.toNat).length = j.toNat * a.length := by
            show (strRep a j.toNat).cps.size = _
            simp [strRep, Str.length]
          rw [this, Nat.mul_comm, sizeLine_eq]; omega
  · rename_i n j
    obtain ⟨xs, e1, h⟩ := h.out
    obtain ⟨⟨h1, h2, hz⟩, h⟩ := h.out
    rw [rpInt q2] at ry
    obtain ⟨hn, vs, hv, rv⟩ := lsR_ok R e1
    cases q1
    exact op_rep pins s σ H _ _ v u Q I rx ry ⟨w.μ n, _, vs, rfl, rfl, hv, h1, h2, by rw [← rv.length]; exact hz, fun p hp => k.newL R (RpDs.rep rv j.toNat) h hp⟩
  · exact h.elim
theorem oDiv : OpR X (binaryOp .FloorDiv) (r2 B F0 pDiv) := intOp op_fdivN fun x y S K h => by
  unfold pDiv at h; split at h
  · obtain ⟨hc, h⟩ := h.out; exact ⟨_, _, rfl, rfl, hc, h⟩
  · exact h.elim
theorem oMod : OpR X (binaryOp .Mod) (r2 B F0 pMod) := intOp op_modN fun x y S K h => by
  unfold pMod at h; split at h
  · obtain ⟨hc, h⟩ := h.out; exact ⟨_, _, rfl, rfl, hc, h⟩
  · exact h.elim
theorem oPow : OpR X (binaryOp .Pow) (r2 B F0 pPow) := intOp op_pow fun x y S K h => by
  unfold pPow at h; split at h
  · obtain ⟨hc, h⟩ := h.out; exact ⟨_, _, rfl, rfl, hc, h⟩
  · exact h.elim
theorem oShl : OpR X (binaryOp .LShift) (r2 B F0 pShl) := intOp op_shl fun x y S K h => by
  unfold pShl at h; split at h
  · obtain ⟨hc, h⟩ := h.out; exact ⟨_, _, rfl, rfl, hc, h⟩
  · exact h.elim
theorem oShr : OpR X (binaryOp .RShift) (r2 B F0 pShr) := intOp op_shr fun x y S K h => by
  unfold pShr at h; split at h
  · obtain ⟨hc, h⟩ := h.out; exact ⟨_, _, rfl, rfl, hc, h⟩
  · exact h.elim
theorem oAnd : OpR X (binaryOp .BitAnd) (r2 B F0 pAnd) := intOp0 op_and fun x y S K h => by
  unfold pAnd at h; split at h
  · exact ⟨_, _, rfl, rfl, h⟩
  · exact h.elim
theorem oOr : OpR X (binaryOp .BitOr) (r2 B F0 pOr) := intOp0 op_or fun x y S K h => by
  unfold pOr at h; split at h
  · exact ⟨_, _, rfl, rfl, h⟩
  · exact h.elim
end
end PL

set_option Elab.async false
set_option linter.all false
set_option maxRecDepth 100000
/-! PL, part 4: comparisons, subscripts, calls and methods by value -/
namespace PL
open PySem L2

abbrev B2 := D → D → Sto → (Bool → Prop) → Prop
def cB (p : B2) : P2 := fun x y S K => p x y S fun b => K (.z (.bool b)) S
/-- any data: by what is seen -/
structure bEqG (x y : D) (S : Sto) (k : Bool → Prop) : Prop where
  out : ∃ d e, Vw S x d ∧ Vw S y e ∧ SeqAt.shaped d = true ∧ SeqAt.shaped e = true ∧ k (PyData.eqv d e)
def bEq : B2 := fun x y S k => match x, y with
  | .z (.int i), .z (.int j) => k (decide (i = j))
  | .z (.str i), .z (.str j) => k (decide (i = j))
  | .z (.bool i), .z (.bool j) => k (decide (i = j))
  | x, y => bEqG x y S k
def bNe : B2 := fun x y S k => bEq x y S fun b => k (!b)
def bI (g : Int → Int → Bool) : B2 := fun x y _ k => match x, y with
  | .z (.int i), .z (.int j) => k (g i j)
  | _, _ => False
abbrev bLt : B2 := bI fun i j => decide (i < j)
abbrev bLe : B2 := bI fun i j => decide (i ≤ j)
abbrev bGt : B2 := bI fun i j => decide (j < i)
abbrev bGe : B2 := bI fun i j => decide (j ≤ i)
def isN : D → Bool
  | .z .none => true
  | .b .none => true
  | _ => false
def bIs : B2 := fun x y _ k => match x, y with
  | x, .z .none => k (isN x)
  | .z (.bool a), .z (.bool b) => k (decide (a = b))
  | _, _ => False
def bIsNot : B2 := fun x y S k => bIs x y S fun b => k (!b)
/-- a dict's key -/
def keyD : D → Option Key
  | .z (.int i) => some (.inl i)
  | .z (.str s) => some (.inr s)
  | _ => none
def dcD (S : Sto) : D → Option (List (Key × D))
  | .r n => match S[n]? with
    | some (.dic kvs) => some kvs
    | _ => none
  | _ => none
def hasD (kvs : List (Key × D)) (k : Key) : Bool := kvs.any fun p => decide (p.1 = k)
structure bInG (x y : D) (S : Sto) (k : Bool → Prop) : Prop where
  out : (∃ d ds, Vw S x d ∧ Vw S y (.list ds) ∧ SeqAt.shaped d = true ∧ SeqAt.shaped (.list ds) = true ∧ k (ds.any fun z => PyData.eqv z d)) ∨
  (∃ (s : Str) (ss : List Str), x = .z (.str s) ∧ Vw S y (.tuple (ss.map .str)) ∧ k (decide (s ∈ ss)))
def bIn : B2 := fun x y S k => match x, y with
  | .z (.str ⟨⟨[c]⟩⟩), .z (.str s) => k (decide (c ∈ s.cps.toList))
  | x, .r n => pGet S[n]? fun o => match o with
    | .dic kvs => pGet (keyD x) fun κ => k (hasD kvs κ)
    | .lst _ => bInG x (.r n) S k
  | x, y => bInG x y S k
def bNotIn : B2 := fun x y S k => bIn x y S fun b => k (!b)

section
variable {X : Cx} {B F0 : Hp}
theorem cmpR {f : Value → Value → Sem Value} {p : B2}
    (hf : ∀ {pins : List (Addr × Obj)} {s : Shared} {σ : St} {H : Hp} {x y : V} {v u : Value} {w : Wd} {dx dy : D} {k : Bool → Prop} {Q : VK}, Inv X pins σ H s → RelV x v → RelV y u → RlW B F0 w H → RpW B w dx x → RpW B w dy y → p dx dy w.S k → (∀ b, k b → Q (.bl b) H) →
      wpAny (model X.prog X.w) X.A (f v u) (EP X pins σ Q) X.xe s) : OpR X f (r2 B F0 (cB p)) := by
  intro pins s σ H x y v u Q I rx ry h
  obtain ⟨w, dx, dy, K, R, q1, q2, h, k⟩ := h
  exact hf I rx ry R q1 q2 h fun b hb => k.bl R hb
theorem eq_int_dec (i j : Int) : decide (V.int i = V.int j) = decide (i = j) := by rw [dec_int]; exact Bool.beq_eq_decide_eq i j
theorem eq_str_dec (i j : Str) : decide (V.str i = V.str j) = decide (i = j) := by rw [dec_str]; by_cases h : i = j <;> simp [h]
theorem eq_bl_dec (i j : Bool) : decide (V.bl i = V.bl j) = decide (i = j) := by rw [dec_bl]; by_cases h : i = j <;> simp [h]
theorem oEq (hu : X.A.units + 100 < cLine) : OpR X (compareOp .Eq) (r2 B F0 (cB bEq)) := cmpR fun {pins s σ H x y v u w dx dy k Q} I rx ry R q1 q2 h kb => by
  unfold bEq at h
  split at h
  · rw [rpInt q1] at rx; rw [rpInt q2] at ry
    exact op_eq pins s σ H _ _ v u Q I rx ry ⟨rfl, by rw [eq_int_dec]; exact kb _ h⟩
  · rw [rpStr q1] at rx; rw [rpStr q2] at ry
    exact op_eq pins s σ H _ _ v u Q I rx ry ⟨rfl, by rw [eq_str_dec]; exact kb _ h⟩
  · rw [rpBl q1] at rx; rw [rpBl q2] at ry
    exact op_eq pins s σ H _ _ v u Q I rx ry ⟨rfl, by rw [eq_bl_dec]; exact kb _ h⟩
  · have h := h.out
    obtain ⟨d, e, w1, w2, s1, s2, h⟩ := h
    exact op_eqD (by omega) pins s σ H x y v u Q I rx ry ⟨d, e, RpT.dp R.fh _ _ (Vw.rp R _ _ _ w1 q1), RpT.dp R.fh _ _ (Vw.rp R _ _ _ w2 q2), s1, s2, kb _ h⟩
theorem oNe (hu : X.A.units + 100 < cLine) : OpR X (compareOp .NotEq) (r2 B F0 (cB bNe)) := cmpR fun {pins s σ H x y v u w dx dy k Q} I rx ry R q1 q2 h kb => by
  unfold bNe bEq at h
  split at h
  · rw [rpInt q1] at rx; rw [rpInt q2] at ry
    exact op_ne pins s σ H _ _ v u Q I rx ry ⟨rfl, by rw [eq_int_dec]; exact kb _ h⟩
  · rw [rpStr q1] at rx; rw [rpStr q2] at ry
    exact op_ne pins s σ H _ _ v u Q I rx ry ⟨rfl, by rw [eq_str_dec]; exact kb _ h⟩
  · rw [rpBl q1] at rx; rw [rpBl q2] at ry
    exact op_ne pins s σ H _ _ v u Q I rx ry ⟨rfl, by rw [eq_bl_dec]; exact kb _ h⟩
  · have h := h.out
    obtain ⟨d, e, w1, w2, s1, s2, h⟩ := h
    exact op_neD (by omega) pins s σ H x y v u Q I rx ry ⟨d, e, RpT.dp R.fh _ _ (Vw.rp R _ _ _ w1 q1), RpT.dp R.fh _ _ (Vw.rp R _ _ _ w2 q2), s1, s2, kb _ h⟩
theorem cmpI {op : CmpOp} {g : Int → Int → Bool} (ho : OpR X (compareOp op) (rI0 fun i j => .bl (g i j))) : OpR X (compareOp op) (r2 B F0 (cB (bI g))) := cmpR fun {pins s σ H x y v u w dx dy k Q} I rx ry R q1 q2 h kb => by
  unfold bI at h
  split at h
  · rw [rpInt q1] at rx; rw [rpInt q2] at ry
    exact ho pins s σ H _ _ v u Q I rx ry ⟨_, _, rfl, rfl, kb _ h⟩
  · exact h.elim
theorem oLt : OpR X (compareOp .Lt) (r2 B F0 (cB bLt)) := cmpI op_lt
theorem oLe : OpR X (compareOp .LtE) (r2 B F0 (cB bLe)) := cmpI op_le
theorem oGt : OpR X (compareOp .Gt) (r2 B F0 (cB bGt)) := cmpI op_gt
theorem oGe : OpR X (compareOp .GtE) (r2 B F0 (cB bGe)) := cmpI op_ge
theorem isN_ok {w : Wd} {d : D} {v : V} (r : RpW B w d v) : decide (v = .non) = isN d := by
  cases d with
  | z d => cases r with | z q => cases q <;> rfl
  | b d => cases r with | b q => cases q <;> rfl
  | r n => cases r; rfl
  | t ds => cases r; rfl
  | o a => cases r; rfl
  | y T => cases r; rfl
theorem oIs : OpR X (compareOp .Is) (r2 B F0 (cB bIs)) := cmpR fun {pins s σ H x y v u w dx dy k Q} I rx ry R q1 q2 h kb => by
  unfold bIs at h
  split at h
  · have e : y = .non := by cases q2 with | z q => cases q; rfl
    exact op_isN pins s σ H x y v u Q I rx ry ⟨e, by rw [isN_ok q1]; exact kb _ h⟩
  · exact op_is_bl pins s σ H x y v u Q I rx ry ⟨_, _, rpBl q1, rpBl q2, kb _ h⟩
  · exact h.elim
theorem oIsNot : OpR X (compareOp .IsNot) (r2 B F0 (cB bIsNot)) := cmpR fun {pins s σ H x y v u w dx dy k Q} I rx ry R q1 q2 h kb => by
  unfold bIsNot bIs at h
  split at h
  · have e : y = .non := by cases q2 with | z q => cases q; rfl
    exact op_notN pins s σ H x y v u Q I rx ry ⟨e, by rw [isN_ok q1]; exact kb _ h⟩
  · exact op_isnot_bl pins s σ H x y v u Q I rx ry ⟨_, _, rpBl q1, rpBl q2, kb _ h⟩
  · exact h.elim
theorem keyD_ok {w : Wd} {d : D} {v : V} {κ : Key} (r : RpW B w d v) (h : keyD d = some κ) : v = kV κ := by
  unfold keyD at h
  split at h
  · cases h; exact rpInt r
  · cases h; exact rpStr r
  · cases h
end

/-! ### dicts -/
def getD' (kvs : List (Key × D)) (k : Key) : Option D := (kvs.find? fun p => decide (p.1 = k)).map (·.2)
def putD (kvs : List (Key × D)) (k : Key) (v : D) : List (Key × D) := if hasD kvs k = true then kvs.map (fun p => if p.1 = k then (p.1, v) else p) else kvs ++ [(k, v)]
def KvR (B F : Hp) (μ : Nat → Addr) (n : Nat) : List (Key × D) → List (Key × V) → Prop := Paired fun (p : Key × D) (q : Key × V) => p.1 = q.1 ∧ RpD B F μ n p.2 q.2
section
variable {B F0 H : Hp} {w : Wd}
abbrev KvW (B : Hp) (w : Wd) (kvs : List (Key × D)) (ws : List (Key × V)) : Prop := KvR B w.F w.μ w.S.length kvs ws
theorem KvR.get {kvs : List (Key × D)} {ws : List (Key × V)} (h : KvW B w kvs ws) (k : Key) : (getD' kvs k = none ∧ valV ws k = none) ∨ ∃ d v, getD' kvs k = some d ∧ valV ws k = some v ∧ RpW B w d v := by
  induction h with
  | nil => exact .inl ⟨rfl, rfl⟩
  | @cons p q ps qs r t ih =>
    by_cases e : p.1 = k
    · refine .inr ⟨p.2, q.2, ?_, ?_, r.2⟩
      · unfold getD'; rw [List.find?_cons_of_pos (by simp [e])]; rfl
      · exact valV_pos (r.1 ▸ e)
    · have e' : ¬ q.1 = k := r.1 ▸ e
      have h1 : getD' (p :: ps) k = getD' ps k := by unfold getD'; rw [List.find?_cons_of_neg (by simp [e])]
      rw [h1, valV_neg e']
      exact ih
theorem hasD_get {kvs : List (Key × D)} {k : Key} : hasD kvs k = (getD' kvs k).isSome := by
  induction kvs with
  | nil => rfl
  | cons p ps ih =>
    by_cases e : p.1 = k
    · simp [hasD, getD', List.find?_cons, e]
    · unfold hasD getD' at *
      rw [List.any_cons, List.find?_cons_of_neg (by simp [e]), ih]
      simp [e]
theorem KvR.has {kvs : List (Key × D)} {ws : List (Key × V)} (h : KvW B w kvs ws) (k : Key) : (ws.any fun kv => decide (kv.1 = k)) = hasD kvs k := by
  induction h with
  | nil => rfl
  | @cons p q ps qs r t ih => unfold hasD at *; rw [List.any_cons, List.any_cons, ih, r.1]
theorem KvR.put {kvs : List (Key × D)} {ws : List (Key × V)} {d : D} {v : V} (h : KvW B w kvs ws) (k : Key) (rd : RpW B w d v) : KvW B w (putD kvs k d) (putK ws k v) := by
  have hh := h.has k
  unfold putD putK
  by_cases c : hasD kvs k = true
  · rw [if_pos c, if_pos (by rw [hh]; exact c)]
    clear hh c
    induction h with
    | nil => exact .nil
    | @cons p q ps qs r t ih =>
      refine .cons ?_ ih
      show (if p.1 = k then (p.1, d) else p).1 = (if q.1 = k then (q.1, v) else q).1 ∧ RpD B w.F w.μ w.S.length (if p.1 = k then (p.1, d) else p).2 (if q.1 = k then (q.1, v) else q).2
      rw [← r.1]
      by_cases e : p.1 = k
      · rw [if_pos e, if_pos e]; exact ⟨rfl, rd⟩
      · rw [if_neg e, if_neg e]; exact r
  · rw [if_neg c, if_neg (by rw [hh]; exact c)]
    exact Paired.snoc h ⟨rfl, rd⟩
def dcR (S : Sto) (n : Nat) : Option (List (Key × D)) := match S[n]? with
  | some (.dic kvs) => some kvs
  | _ => none
theorem dcR_ok {n : Nat} {kvs : List (Key × D)} (R : RlW B F0 w H) (h : dcR w.S n = some kvs) : n < w.S.length ∧ ∃ ws, H (w.μ n) = some (.dK ws) ∧ KvW B w kvs ws := by
  unfold dcR at h
  split at h
  · rename_i e
    cases h
    obtain ⟨ws, hv, rv⟩ := R.ob _ _ e
    exact ⟨Rl.lt e, ws, hv, rv⟩
  · cases h
theorem Fi.setK {K : K1} {Q : VK} {n : Nat} {ds : List (Key × D)} {vs : List (Key × V)} {d : D} {v : V} (k : Fi B F0 w K Q) (R : RlW B F0 w H) (hn : n < w.S.length) (r : KvW B w ds vs) (rd : RpW B w d v) (h : K d (w.S.set n (.dic ds))) : Q v (upd H (w.μ n) (.dK vs)) := by
  obtain ⟨R2, X2⟩ := R.write (u := .dK vs) (o := .dic ds) hn fun G hG => ⟨vs, hG, r⟩
  exact k _ _ _ _ _ _ R2 X2 (rd.xt X2) h
end

section
variable {X : Cx} {B F0 : Hp}
theorem inV_strs (z : Str) : ∀ zs : List Str, inV (.str z) (zs.map V.str) = decide (z ∈ zs)
  | [] => rfl
  | c :: cs => by
    have h : inV (.str z) ((c :: cs).map V.str) = (eqV (V.str c) (V.str z) || inV (.str z) (cs.map V.str)) := rfl
    have e : eqV (V.str c) (V.str z) = decide (c = z) := by
      show (c == z) = decide (c = z)
      by_cases hc : c = z <;> simp [hc]
    rw [h, e, inV_strs z cs]
    by_cases hc : c = z
    · simp [hc]
    · have hz : ¬ z = c := fun e => hc e.symm
      simp [hc, hz]
theorem inG {neg : Bool} (hu : X.A.units + 100 < cLine) {pins : List (Addr × Obj)} {s : Shared} {σ : St} {H : Hp} {x y : V} {v u : Value} {w : Wd} {dx dy : D} {k : Bool → Prop} {Q : VK} (I : Inv X pins σ H s) (rx : RelV x v) (ry : RelV y u) (R : RlW B F0 w H) (q1 : RpW B w dx x) (q2 : RpW B w dy y) (h : bInG dx dy w.S k) (kb : ∀ b, k b → Q (.bl (if neg then !b else b)) H) :
    wpAny (model X.prog X.w) X.A (compareOp (if neg then .NotIn else .In) v u) (EP X pins σ Q) X.xe s := by
  have h := h.out
  rcases h with ⟨d, ds, w1, w2, s1, s2, h⟩ | ⟨z, zs, rfl, w2, h⟩
  · have a := RpT.dp (K := X.K) R.fh _ _ (Vw.rp R _ _ _ w1 q1)
    have b := RpT.dp (K := X.K) R.fh _ _ (Vw.rp R _ _ _ w2 q2)
    cases neg with
    | true => exact op_notInD (by omega) pins s σ H x y v u Q I rx ry ⟨d, ds, a, b, s1, s2, kb _ h⟩
    | false => exact op_inD (by omega) pins s σ H x y v u Q I rx ry ⟨d, ds, a, b, s1, s2, kb _ h⟩
  · cases rpStr q1
    have a := Vw.rp R _ _ _ w2 q2
    cases a with
    | tup h1 h2 =>
      have hv : ∀ (ss : List Str) (vs : List V), RpTs (LB H w.F) (TF w.F) (ss.map .str) vs → vs = ss.map V.str := fun ss => by
        induction ss with
        | nil => intro vs q; cases q; rfl
        | cons c cs ih => intro vs q; cases q with | cons q1 q2 => cases q1; rw [ih _ q2]; rfl
      have e := hv zs _ h2
      subst e
      have hin := inV_strs z zs
      have hq : (TF w.F) _ (zs.map V.str) := h1
      have hfl : (zs.map V.str).all flatV = true := by simp [flatV]
      cases neg with
      | true => exact op_notIn_seq pins s σ H _ _ v u Q I rx ry ⟨_, _, rfl, .inr (.inl (.inl (R.fh _ _ hq))), rfl, hfl, by rw [hin]; exact kb _ h⟩
      | false => exact op_in_seq pins s σ H _ _ v u Q I rx ry ⟨_, _, rfl, .inr (.inl (.inl (R.fh _ _ hq))), rfl, hfl, by rw [hin]; exact kb _ h⟩
theorem inR {neg : Bool} (hu : X.A.units + 100 < cLine) {pins : List (Addr × Obj)} {s : Shared} {σ : St} {H : Hp} {x y : V} {v u : Value} {w : Wd} {dx dy : D} {k : Bool → Prop} {Q : VK} (I : Inv X pins σ H s) (rx : RelV x v) (ry : RelV y u) (R : RlW B F0 w H) (q1 : RpW B w dx x) (q2 : RpW B w dy y) (h : bIn dx dy w.S k) (kb : ∀ b, k b → Q (.bl (if neg then !b else b)) H) :
    wpAny (model X.prog X.w) X.A (compareOp (if neg then .NotIn else .In) v u) (EP X pins σ Q) X.xe s := by
  unfold bIn at h
  split at h
  · rw [rpStr q1] at rx; rw [rpStr q2] at ry
    cases neg with
    | true => exact op_notIn_sign pins s σ H _ _ v u Q I rx ry ⟨_, _, rfl, rfl, kb _ h⟩
    | false => exact op_in_sign pins s σ H _ _ v u Q I rx ry ⟨_, _, rfl, rfl, kb _ h⟩
  · rename_i n
    obtain ⟨o, e, h⟩ := h.out
    cases o with
    | dic kvs =>
      dsimp only at h
      obtain ⟨κ, hκ, h⟩ := h.out
      obtain ⟨hn, ws, hv, rv⟩ := dcR_ok (n := n) R (show dcR w.S n = some kvs by unfold dcR; rw [e])
      have ey := keyD_ok q1 hκ
      subst ey
      cases q2 with
      | r hi =>
        cases ry
        have g : DGet H (w.μ n) (kV κ) (valV ws κ) := DGet.k hv
        have eb : (valV ws κ).isSome = hasD kvs κ := by
          rw [hasD_get]
          rcases rv.get κ with ⟨a, b⟩ | ⟨d, v, a, b, _⟩ <;> rw [a, b] <;> rfl
        cases neg with
        | true => exact d_notIn (by omega) I g rx fun s3 I3 => ⟨.bl _, H, I3, rfl, by rw [eb]; exact kb _ h⟩
        | false => exact d_in (by omega) I g rx fun s3 I3 => ⟨.bl _, H, I3, rfl, by rw [eb]; exact kb _ h⟩
    | lst _ => exact inG hu I rx ry R q1 q2 h kb
  · exact inG hu I rx ry R q1 q2 h kb
theorem oIn (hu : X.A.units + 100 < cLine) : OpR X (compareOp .In) (r2 B F0 (cB bIn)) := cmpR fun I rx ry R q1 q2 h kb => inR (neg := false) hu I rx ry R q1 q2 h kb
theorem oNotIn (hu : X.A.units + 100 < cLine) : OpR X (compareOp .NotIn) (r2 B F0 (cB bNotIn)) := cmpR fun {_ _ _ _ _ _ _ _ _ _ _ k _} I rx ry R q1 q2 h kb => inR (neg := true) (k := fun b => k (!b)) hu I rx ry R q1 q2 h fun b hb => kb _ hb

/-! ### subscripts -/
def pIx : P2 := fun x y S K => match x, y with
  | .z (.str s), .z (.int i) => pReq (s.length ≤ sizeLine) (pGet (atD s.cps.toList i) fun c => K (.z (.str ⟨⟨[c]⟩⟩)) S)
  | .r n, y => pGet S[n]? fun o => match o with
    | .dic kvs => pGet (keyD y) fun κ => pGet (getD' kvs κ) fun d => K d S
    | .lst ds => match y with
      | .z (.int i) => pGet (atD ds i) fun d => K d S
      | _ => False
  | x, .z (.int i) => pGet (ixD S x i) fun d => K d S
  | _, _ => False
theorem ixD_r {S : Sto} {n : Nat} {ds : List D} {i : Int} {d : D} (e : S[n]? = some (.lst ds)) (h : atD ds i = some d) : ixD S (.r n) i = some d := by
  show (match S[n]? with | some (.lst ds) => atD ds i | _ => none) = some d
  rw [e]; exact h
theorem ixSeq {value slice : Expr} {pins : List (Addr × Obj)} {s : Shared} {σ : St} {H : Hp} {v u : Value} {a : Addr} {vs : List V} {i : Int} {z : V} {Q : VK} (I : Inv X pins σ H s) (rx : RelV (.ref a) v) (ry : RelV (.int i) u) (hs : SqL X.K H a vs ∨ SqT X.K H a vs) (ha : atI vs i = some z) (q : Q z H)
    (e : subscripted slice false v u = operate [v, u] (getItem v u)) : wpAny (model X.prog X.w) X.A (PyProof.Rows.subscriptTail value slice v u) (EP X pins σ Q) X.xe s := by
  rcases hs with hs | hs
  · exact ix_list value slice pins s σ H _ _ v u Q I rx ry ⟨_, _, _, _, rfl, rfl, hs, ha, q⟩ e
  · exact ix_tup value slice pins s σ H _ _ v u Q I rx ry ⟨_, _, _, _, rfl, rfl, hs, ha, q⟩ e
theorem oIx (hu : X.A.units + 100 < cLine) : IxR X (r2 B F0 pIx) := by
  intro value slice pins s σ H x y v u Q I rx ry h es
  obtain ⟨w, dx, dy, K, R, q1, q2, h, k⟩ := h
  unfold pIx at h
  split at h
  · obtain ⟨hz, h⟩ := h.out
    obtain ⟨c, hc, h⟩ := h.out
    rw [rpStr q1] at rx; rw [rpInt q2] at ry
    exact ix_str value slice pins s σ H _ _ v u Q I rx ry ⟨_, _, _, rfl, rfl, hz, atD_atI hc, k.str R h⟩ es
  · rename_i n
    obtain ⟨o, e, h⟩ := h.out
    cases o with
    | dic kvs =>
      dsimp only at h
      obtain ⟨κ, hκ, h⟩ := h.out
      obtain ⟨d, hd, h⟩ := h.out
      obtain ⟨hn, ws, hv, rv⟩ := dcR_ok (n := n) R (show dcR w.S n = some kvs by unfold dcR; rw [e])
      have ey := keyD_ok q2 hκ
      subst ey
      cases q1 with
      | r hi =>
        cases rx
        rcases rv.get κ with ⟨a, b⟩ | ⟨d', z, a, b, rd⟩
        · rw [hd] at a; cases a
        · rw [hd] at a; cases a
          have g : DGet H (w.μ n) (kV κ) (some z) := by rw [← b]; exact DGet.k hv
          unfold PyProof.Rows.subscriptTail
          have hT := dict_typeIs I g
          refine wpAny_bind ?_
          rw [getitemInPython_of_ne hT.not_modules]
          refine wpAny_bind (wpAny_specialOf hT PySem.F.slot_dict_getitem.lookup ?_)
          have fin : wpAny (model X.prog X.w) X.A (subscripted slice false (.ref (w.μ n)) u) (fun r s₃ => wpAny (model X.prog X.w) X.A (letTemporaryGo value (.ref (w.μ n)) r >>= fun _ => pure r) (EP X pins σ Q) X.xe s₃) X.xe s := by
            rw [es]
            exact wpAny_operating (d_getItem (by omega) I g ry fun w' s3 I3 rw' => wpAny_bind (wpAny_letTemporaryGo (wpAny_pure ⟨z, H, I3, rw', k d w.S z H w.μ w.F R .refl rd h⟩)))
          first
            | exact wpAny_pure (wpAny_bind fin)
            | exact wpAny_bind fin
            | exact fin
    | lst ds =>
      dsimp only at h
      split at h
      · obtain ⟨d, hd, h⟩ := h.out
        rw [rpInt q2] at ry
        obtain ⟨a, vs, z, rfl, hs, ha, rd⟩ := ixD_ok (K := X.K) R q1 (ixD_r e hd)
        exact ixSeq I rx ry hs ha (k d w.S z H w.μ w.F R .refl rd h) es
      · exact h.elim
  · obtain ⟨d, hd, h⟩ := h.out
    rw [rpInt q2] at ry
    obtain ⟨a, vs, z, rfl, hs, ha, rd⟩ := ixD_ok (K := X.K) R q1 hd
    exact ixSeq I rx ry hs ha (k d w.S z H w.μ w.F R .refl rd h) es
  · exact h.elim
end

/-! ### slices -/
def cutL {α : Type} (xs : List α) (lo hi : Option Int) : List α := (xs.drop (HT.sIx xs.length 0 lo)).take (HT.sIx xs.length xs.length hi - HT.sIx xs.length 0 lo)
def pSl : D → Option Int → Option Int → Sto → K1 → Prop := fun x lo hi S K => match x with
  | .z (.str s) => pReq (s.length ≤ sizeLine) (K (.z (.str (cutS s lo hi))) S)
  | x => match tpD x with
    | some ds => K (mkT (cutL ds lo hi)) S
    | none => pGet (lsD S x) fun ds => K (.r S.length) (S ++ [.lst (cutL ds lo hi)])
section
variable {X : Cx} {B F0 : Hp}
theorem RpDs.cut {B : Hp} {w : Wd} {ds : List D} {vs : List V} (h : RpsW B w ds vs) (lo hi : Option Int) : RpsW B w (cutL ds lo hi) (cutV vs lo hi) := by
  unfold cutL cutV
  rw [h.length]
  exact (RpDs.drop _ h).take _
theorem oSl : SlR X (rSl B F0 pSl) := by
  intro pins s σ H x v vl vu lo hi sl Q I rx hs pl pu h
  obtain ⟨w, d, K, R, r, h, k⟩ := h
  unfold pSl at h
  split at h
  · obtain ⟨hz, h⟩ := h.out
    exact sl_str pins s σ H _ v vl vu lo hi sl Q I rx hs pl pu ⟨_, rpStr r, hz, k.str R h⟩
  split at h
  · rename_i ds e
    obtain ⟨a, vs, rfl, ha, fa, ra⟩ := tpD_okF R r e
    refine sl_tupA pins s σ H _ v vl vu lo hi sl Q I rx hs pl pu ⟨a, vs, rfl, .inl (.inl ha), fun z => ?_, fun _ p hp => k.newT R (ra.cut lo hi) h hp⟩
    have e2 : cutL ds lo hi = ds := by
      unfold cutL
      rw [ra.length, z.1, z.2, List.drop_zero, Nat.sub_zero, ← ra.length, List.take_length]
    rw [e2] at h
    exact k _ w.S _ H w.μ w.F R .refl (mkT_rp fa ra) h
  obtain ⟨ds, e, h⟩ := h.out
  obtain ⟨a, vs, rfl, d1, q1⟩ := lsD_ok R r e
  exact sl_list pins s σ H _ v vl vu lo hi sl Q I rx hs pl pu ⟨a, vs, rfl, .inl d1, fun p hp => k.newL R (q1.cut lo hi) h hp⟩
end
end PL

set_option Elab.async false
set_option linter.all false
set_option maxRecDepth 100000
/-! PL, part 5: built-in calls and methods by value -/
namespace PL
open PySem L2

/-! ### isinstance against a built-in type -/
def tyD (S : Sto) : D → Option Ty
  | .z .none => some .none
  | .z (.bool _) => some .bool
  | .z (.int _) => some .int
  | .z (.str _) => some .str
  | .z (.list _) => some .list
  | .z (.tuple _) => some .tuple
  | .b (.list _) => some .list
  | .b (.tuple _) => some .tuple
  | .t _ => some .tuple
  | .r n => match S[n]? with
    | some (.lst _) => some .list
    | some (.dic _) => some .dict
    | _ => none
  | _ => none
/-- a value of the type a is one of b -/
def isT : Ty → Ty → Bool
  | .int, .int => true | .bool, .bool => true | .bool, .int => true | .str, .str => true | .list, .list => true | .tuple, .tuple => true | .dict, .dict => true | _, _ => false
theorem isT_kit (a b : Ty) (hb : b ≠ .none) : kitB a.s b.s = some (isT a b) := by
  cases a <;> cases b <;> first | exact absurd rfl hb | decide +kernel
def pIsi : PL := fun xs S K => match xs with
  | [x, .y T] => match T with
    | .none => False
    | T => pGet (tyD S x) fun t => K (.z (.bool (isT t T))) S
  | _ => False
theorem tyD_ok {K : PySem.W.Frag} {B F0 H : Hp} {w : Wd} {x : D} {v : V} {t : Ty} (R : RlW B F0 w H) (r : RpW B w x v) (h : tyD w.S x = some t) : TyX K H v (.type t.s) := by
  have rd : ∀ {a : Addr} {vs : List V}, Rd H a (.lst vs) → TyX K H (.ref a) (.type "list") := fun q => q.elim (fun q => .base (.lst q)) fun ⟨_, q⟩ => .base (.frz q)
  unfold tyD at h
  split at h
  · cases h; cases r with | z q => cases q; exact .base .non
  · cases h; cases r with | z q => cases q; exact .base (.bl _)
  · cases h; cases r with | z q => cases q; exact .base (.int _)
  · cases h; cases r with | z q => cases q; exact .base (.str _)
  · cases h; cases r with | z q => cases q with | lst a b => exact .base (.lst (R.fh _ _ a))
  · cases h; cases r with | z q => cases q with | tup a b => exact .base (.tup (R.fh _ _ a))
  · cases h; cases r with | b q => cases q with | lst a b => exact rd (a.elim (fun z => R.fh.rd z) fun z => R.bh.rd z)
  · cases h; cases r with | b q => cases q with | tup a b => exact .base (.tup (R.fh _ _ a))
  · cases h; cases r with | t a b => exact .base (.tup (R.fh _ _ a))
  · cases r with
    | r hi =>
      split at h
      · rename_i e; cases h; obtain ⟨vs, hv, _⟩ := R.ob _ _ e; exact .base (.lst hv)
      · rename_i e; cases h; obtain ⟨vs, hv, _⟩ := R.ob _ _ e; exact .base (.dK hv)
      · cases h
  · cases h
section
variable {X : Cx} {B F0 : Hp}
theorem callR {f : Value} {p : PL} (hf : ∀ {pins : List (Addr × Obj)} {s : Shared} {σ : St} {H : Hp} {vs : List V} {us : List Value} {w : Wd} {ds : List D} {K : K1} {Q : VK}, Inv X pins σ H s → Vals vs us → RlW B F0 w H → RpsW B w ds vs → p ds w.S K → Fi B F0 w K Q →
    wpAny (model X.prog X.w) X.A (call f us) (EP X pins σ Q) X.xe s) : CallR X f (rL B F0 p) := by
  intro pins s σ H vs us Q I r h
  obtain ⟨w, ds, K, R, q, h, k⟩ := h
  exact hf I r R q h k
theorem methR {id : String} {p : D → PL} (hf : ∀ {pins : List (Addr × Obj)} {s : Shared} {σ : St} {H : Hp} {x : V} {v : Value} {vs : List V} {us : List Value} {w : Wd} {d : D} {ds : List D} {K : K1} {Q : VK}, Inv X pins σ H s → RelV x v → Vals vs us → RlW B F0 w H → RpW B w d x → RpsW B w ds vs → p d ds w.S K → Fi B F0 w K Q →
    wpAny (model X.prog X.w) X.A (call (.builtin id) (v :: us)) (EP X pins σ Q) X.xe s) : MtR X id (rM B F0 p) := by
  intro pins s σ H x vs v us Q I rx r h
  obtain ⟨w, d, ds, K, R, q, qs, h, k⟩ := h
  exact hf I rx r R q qs h k
theorem oIsi : CallR X (.builtin "isinstance") (rL B F0 pIsi) := callR fun {pins s σ H vs us w ds K Q} I r R q h k => by
  unfold pIsi at h
  split at h
  · rename_i x T
    cases q with
    | cons q1 q2 =>
      cases q2 with
      | cons q2 q3 =>
        cases q3
        cases q2
        have key : T ≠ .none → (pGet (tyD w.S x) fun t => K (.z (.bool (isT t T))) w.S) → wpAny (model X.prog X.w) X.A (call (.builtin "isinstance") us) (EP X pins σ Q) X.xe s := fun hT h => by
          obtain ⟨t, e, h⟩ := h.out
          exact call_isi pins s σ H _ us Q I r ⟨_, _, _, _, _, rfl, .ty _, tyD_ok (K := X.K) R q1 e, kit_ty (isT_kit t T hT), k.bl R h⟩
        cases T with
        | none => exact False.elim h
        | _ => exact key (by intro z; cases z) h
  · exact h.elim

/-! ### len, list, tuple, int, str, min, max, sum, any, all -/
def pLen : PL := fun xs S K => match xs with
  | [.z (.str s)] => pReq (s.length ≤ sizeLine) (K (.z (.int s.length)) S)
  | [x] => pGet (lenD S x) fun n => K (.z (.int n)) S
  | _ => False
def pList : PL := fun xs S K => match xs with
  | [x] => pGet (sqD S x) fun ds => K (.r S.length) (S ++ [.lst ds])
  | _ => False
def pTuple : PL := fun xs S K => match xs with
  | [x] => pGet (lsD S x) fun ds => K (mkT ds) S
  | _ => False
def pInt : PL := fun xs S K => match xs with
  | [.z (.int i)] => K (.z (.int i)) S
  | [.z (.bool b)] => K (.z (.int (if b then 1 else 0))) S
  | _ => False
def pMax2 : PL := fun xs S K => match xs with
  | [.z (.int i), .z (.int j)] => K (.z (.int (if j > i then j else i))) S
  | _ => False
def pMin2 : PL := fun xs S K => match xs with
  | [.z (.int i), .z (.int j)] => K (.z (.int (if j < i then j else i))) S
  | _ => False
/-- a list of truths, of ints -/
def pAll : PL := fun xs S K => match xs with
  | [x] => pGet (lsD S x) fun ds => ∃ bs : List Bool, ds = bs.map (fun b => .z (.bool b)) ∧ K (.z (.bool (bs.all id))) S
  | _ => False
def pAny : PL := fun xs S K => match xs with
  | [x] => pGet (lsD S x) fun ds => ∃ bs : List Bool, ds = bs.map (fun b => .z (.bool b)) ∧ K (.z (.bool (bs.any id))) S
  | _ => False
def pSum : PL := fun xs S K => match xs with
  | [x] => pGet (lsD S x) fun ds => ∃ ns : List Int, ds = ns.map (fun n => .z (.int n)) ∧ K (.z (.int ns.sum)) S
  | _ => False
theorem RpDs.one {B : Hp} {w : Wd} {d : D} {vs : List V} (h : RpsW B w [d] vs) : ∃ v, vs = [v] ∧ RpW B w d v := by
  cases h with | cons a b => cases b; exact ⟨_, rfl, a⟩
theorem RpDs.two {B : Hp} {w : Wd} {d e : D} {vs : List V} (h : RpsW B w [d, e] vs) : ∃ v u, vs = [v, u] ∧ RpW B w d v ∧ RpW B w e u := by
  cases h with | cons a b => cases b with | cons b c => cases c; exact ⟨_, _, rfl, a, b⟩
theorem RpDs.bls {B : Hp} {w : Wd} : ∀ {bs : List Bool} {vs : List V}, RpsW B w (bs.map fun b => .z (.bool b)) vs → vs = bs.map V.bl
  | [], _, h => by cases h; rfl
  | b :: bs, _, h => by cases h with | cons a t => rw [rpBl a, RpDs.bls t]; rfl
theorem RpDs.ints {B : Hp} {w : Wd} : ∀ {bs : List Int} {vs : List V}, RpsW B w (bs.map fun b => .z (.int b)) vs → vs = bs.map V.int
  | [], _, h => by cases h; rfl
  | b :: bs, _, h => by cases h with | cons a t => rw [rpInt a, RpDs.ints t]; rfl
theorem RpDs.strs {B : Hp} {w : Wd} : ∀ {bs : List Str} {vs : List V}, RpsW B w (bs.map fun b => .z (.str b)) vs → vs = bs.map V.str
  | [], _, h => by cases h; rfl
  | b :: bs, _, h => by cases h with | cons a t => rw [rpStr a, RpDs.strs t]; rfl
theorem lenD_ok {K : PySem.W.Frag} {H : Hp} {w : Wd} {x : D} {v : V} {n : Nat} (R : RlW B F0 w H) (r : RpW B w x v) (h : lenD w.S x = some n) : (∃ a vs, v = .ref a ∧ vs.length = n ∧ (SqL K H a vs ∨ SqT K H a vs)) ∨ ∃ a kvs, v = .ref a ∧ H a = some (.dK kvs) ∧ kvs.length = n := by
  unfold lenD at h
  split at h
  · cases h; cases r with | z q => cases q with | lst a b => exact .inl ⟨_, _, rfl, b.length.symm, .inl (.inl (.inl (R.fh _ _ a)))⟩
  · cases h; cases r with | b q => cases q with | lst a b => exact .inl ⟨_, _, rfl, b.length.symm, .inl (.inl (a.elim (fun z => R.fh.rd z) fun z => R.bh.rd z))⟩
  · cases h; cases r with | z q => cases q with | tup a b => exact .inl ⟨_, _, rfl, b.length.symm, .inr (.inl (.inl (R.fh _ _ a)))⟩
  · cases h; cases r with | b q => cases q with | tup a b => exact .inl ⟨_, _, rfl, b.length.symm, .inr (.inl (.inl (R.fh _ _ a)))⟩
  · cases h; cases r with | t a b => exact .inl ⟨_, _, rfl, b.length.symm, .inr (.inl (.inl (R.fh _ _ a)))⟩
  · cases r with
    | r hi =>
      split at h
      · rename_i e; cases h; obtain ⟨vs, hv, rv⟩ := R.ob _ _ e; exact .inl ⟨_, _, rfl, rv.length.symm, .inl (.inl (.inl hv))⟩
      · rename_i e; cases h; obtain ⟨vs, hv, rv⟩ := R.ob _ _ e; exact .inr ⟨_, _, rfl, hv, (Paired.length rv).symm⟩
      · cases h
  · cases h
theorem oLen : CallR X (.builtin "len") (rL B F0 pLen) := callR fun {pins s σ H vs us w ds K Q} I r R q h k => by
  unfold pLen at h
  split at h
  · obtain ⟨hz, h⟩ := h.out
    obtain ⟨v, rfl, q9⟩ := q.one
    rw [rpStr q9] at r
    exact call_len_str pins s σ H _ us Q I r ⟨_, rfl, hz, k.int R h⟩
  · obtain ⟨n, e, h⟩ := h.out
    obtain ⟨v, rfl, q9⟩ := q.one
    rcases lenD_ok (K := X.K) R q9 e with ⟨a, vs, rfl, rfl, hs⟩ | ⟨a, kvs, rfl, hd, rfl⟩
    · exact call_len_seq pins s σ H _ us Q I r ⟨a, vs, rfl, hs, k.int R h⟩
    · exact call_lenD pins s σ H _ us Q I r ⟨a, kvs, rfl, hd, k.int R h⟩
  · exact h.elim
theorem oList : CallR X (.type "list") (rL B F0 pList) := callR fun {pins s σ H vs us w ds K Q} I r R q h k => by
  unfold pList at h
  split at h
  · obtain ⟨ds, e, h⟩ := h.out
    obtain ⟨v, rfl, q9⟩ := q.one
    obtain ⟨a, vs, rfl, hs, rv⟩ := sqD_ok (K := X.K) R q9 e
    exact call_list_of pins s σ H _ us Q I r ⟨a, vs, rfl, hs, fun p hp => k.newL R rv h hp⟩
  · exact h.elim
theorem oTuple : CallR X (.type "tuple") (rL B F0 pTuple) := callR fun {pins s σ H vs us w ds K Q} I r R q h k => by
  unfold pTuple at h
  split at h
  · obtain ⟨ds, e, h⟩ := h.out
    obtain ⟨v, rfl, q9⟩ := q.one
    obtain ⟨a, vs, rfl, hs, rv⟩ := lsD_ok R q9 e
    exact call_tuple_of pins s σ H _ us Q I r ⟨a, vs, rfl, .inl ⟨.inl hs, fun p hp => k.newT R rv h hp⟩⟩
  · exact h.elim
theorem oInt : CallR X (.type "int") (rL B F0 pInt) := callR fun {pins s σ H vs us w ds K Q} I r R q h k => by
  unfold pInt at h
  split at h
  · obtain ⟨v, rfl, q9⟩ := q.one
    rw [rpInt q9] at r
    exact call_int1 pins s σ H _ us Q I r (.inl ⟨_, rfl, k.int R h⟩)
  · obtain ⟨v, rfl, q9⟩ := q.one
    rw [rpBl q9] at r
    exact call_int1 pins s σ H _ us Q I r (.inr ⟨_, rfl, k.int R h⟩)
  · exact h.elim
theorem oMax2 (hc : X.calm = true) : CallR X (.builtin "max") (rL B F0 pMax2) := callR fun {pins s σ H vs us w ds K Q} I r R q h k => by
  unfold pMax2 at h
  split at h
  · obtain ⟨v, u, rfl, q1, q2⟩ := q.two
    rw [rpInt q1, rpInt q2] at r
    exact call_max2 hc pins s σ H _ us Q I r ⟨_, _, rfl, k.int R h⟩
  · exact h.elim
theorem oMin2 (hc : X.calm = true) : CallR X (.builtin "min") (rL B F0 pMin2) := callR fun {pins s σ H vs us w ds K Q} I r R q h k => by
  unfold pMin2 at h
  split at h
  · obtain ⟨v, u, rfl, q1, q2⟩ := q.two
    rw [rpInt q1, rpInt q2] at r
    exact call_min2 hc pins s σ H _ us Q I r ⟨_, _, rfl, k.int R h⟩
  · exact h.elim
theorem oAll (hc : X.calm = true) : CallR X (.builtin "all") (rL B F0 pAll) := callR fun {pins s σ H vs us w ds K Q} I r R q h k => by
  unfold pAll at h
  split at h
  · obtain ⟨ds, e, bs, rfl, h⟩ := h.out
    obtain ⟨v, rfl, q9⟩ := q.one
    obtain ⟨a, vs, rfl, hs, rv⟩ := lsD_ok R q9 e
    rw [rv.bls] at hs
    exact cr_all hc pins s σ H _ us Q I r ⟨a, bs, rfl, .inl hs, k.bl R h⟩
  · exact h.elim
theorem oAny (hc : X.calm = true) : CallR X (.builtin "any") (rL B F0 pAny) := callR fun {pins s σ H vs us w ds K Q} I r R q h k => by
  unfold pAny at h
  split at h
  · obtain ⟨ds, e, bs, rfl, h⟩ := h.out
    obtain ⟨v, rfl, q9⟩ := q.one
    obtain ⟨a, vs, rfl, hs, rv⟩ := lsD_ok R q9 e
    rw [rv.bls] at hs
    exact cr_any hc pins s σ H _ us Q I r ⟨a, bs, rfl, .inl hs, k.bl R h⟩
  · exact h.elim
theorem oSum (hc : X.calm = true) : CallR X (.builtin "sum") (rL B F0 pSum) := callR fun {pins s σ H vs us w ds K Q} I r R q h k => by
  unfold pSum at h
  split at h
  · obtain ⟨ds, e, bs, rfl, h⟩ := h.out
    obtain ⟨v, rfl, q9⟩ := q.one
    obtain ⟨a, vs, rfl, hs, rv⟩ := lsD_ok R q9 e
    rw [rv.ints] at hs
    exact cr_sum hc pins s σ H _ us Q I r ⟨a, bs, rfl, .inl hs, k.int R h⟩
  · exact h.elim

/-! ### methods of lists -/
def pApp : D → PL := fun x xs S K => match x, xs with
  | .r n, [y] => pGet (lsR S n) fun ds => pReq (ds.length < sizeLine) (K (.z .none) (S.set n (.lst (ds ++ [y]))))
  | _, _ => False
def pExt : D → PL := fun x xs S K => match x, xs with
  | .r n, [y] => pGet (lsR S n) fun ds => pGet (lsD S y) fun es => pReq (ds.length + es.length ≤ sizeLine) (K (.z .none) (S.set n (.lst (ds ++ es))))
  | _, _ => False
def pPop : D → PL := fun x xs S K => match x, xs with
  | .r n, [] => pGet (lsR S n) fun ds => pGet ds[ds.length - 1]? fun d => K d (S.set n (.lst ds.dropLast))
  | .r n, [.z (.int (.ofNat i))] => pGet (lsR S n) fun ds => pGet ds[i]? fun d => pReq (i < 9223372036854775808) (K d (S.set n (.lst (ds.eraseIdx i))))
  | _, _ => False
def pClear : D → PL := fun x xs S K => match x, xs with
  | .r n, [] => pGet (lsR S n) fun _ => K (.z .none) (S.set n (.lst []))
  | _, _ => False
def pRev : D → PL := fun x xs S K => match x, xs with
  | .r n, [] => pGet (lsR S n) fun ds => K (.z .none) (S.set n (.lst ds.reverse))
  | _, _ => False
/-- the first place of a datum -/
def idxD (ds : List PyData) (d : PyData) : Option Nat := ds.findIdx? fun z => PyData.eqv z d
def pIndex : D → PL := fun x xs S K => match xs with
  | [y] => ∃ ds d, Vw S x (.list ds) ∧ Vw S y d ∧ SeqAt.shaped (.list ds) = true ∧ SeqAt.shaped d = true ∧ pGet (idxD ds d) fun j => K (.z (.int j)) S
  | _ => False
theorem oApp : MtR X "list.append" (rM B F0 pApp) := methR fun {pins s σ H x v vs us w d ds K Q} I rx r R q qs h k => by
  unfold pApp at h
  split at h
  · rename_i n y
    obtain ⟨ds, e, h⟩ := h.out
    obtain ⟨hz, h⟩ := h.out
    obtain ⟨hn, ws, hv, rv⟩ := lsR_ok R e
    obtain ⟨u, rfl, q1⟩ := qs.one
    cases q
    exact mt_append pins s σ H _ _ v us Q I rx r ⟨w.μ n, ws, u, rfl, rfl, hv, by rw [← rv.length]; exact hz, k.setL R hn (rv.append (.cons q1 .nil)) (.z .non) h⟩
  · exact h.elim
theorem ext_lists {pins : List (Addr × Obj)} {s : Shared} {σ : St} {H : Hp} {l b : Addr} {xs zs : List V} {Q : VK} (I : Inv X pins σ H s) (h1 : H l = some (.lst xs)) (h2 : Rd H b (.lst zs)) (hz : xs.length + zs.length ≤ sizeLine)
    (q : Q .non (upd H l (.lst (xs ++ zs)))) : wpAny (model X.prog X.w) X.A (call (.builtin "list.extend") [.ref l, .ref b]) (EP X pins σ Q) X.xe s := by
  obtain ⟨z1, its, n, v1, l1, e1⟩ := I.lstM h1
  obtain ⟨z2, jts, m, v2, e2⟩ := h2.ok I.hok
  have l2 := v2.length
  have small : its.toArray.size + jts.toArray.size ≤ sizeLine := by simp; omega
  refine call_meets PySem.F.slot_list_extend ⟨_, e1, rfl⟩ PySem.F.entry_list_extend (PySem.F.args_list_extend_2 _ _)
    (AutoSeq1.list_extend_list_list_0 l its.toArray n b jts.toArray m (by rw [notLongL small, Bool.and_false]; exact Bool.false_ne_true) (by simp; omega) (by omega)) ⟨e1, e2, ?_⟩
  exact ⟨.non, _, I.lset (its' := its ++ jts) h1 e1 (by simp) (v1.append v2) (by simp; omega), rfl, q⟩
theorem oExt : MtR X "list.extend" (rM B F0 pExt) := methR fun {pins s σ H x v vs us w d ds K Q} I rx r R q qs h k => by
  unfold pExt at h
  split at h
  · rename_i n y
    obtain ⟨ds, e, h⟩ := h.out
    obtain ⟨es, e2, h⟩ := h.out
    obtain ⟨hz, h⟩ := h.out
    obtain ⟨hn, ws, hv, rv⟩ := lsR_ok R e
    obtain ⟨u, rfl, q1⟩ := qs.one
    obtain ⟨b, zs, rfl, hb, rb⟩ := lsD_ok R q1 e2
    cases q
    cases rx
    rw [Vals.ref1 r]
    exact ext_lists I hv hb (by rw [← rv.length, ← rb.length]; exact hz) (k.setL R hn (rv.append rb) (.z .non) h)
  · exact h.elim
theorem oPop : MtR X "list.pop" (rM B F0 pPop) := methR fun {pins s σ H x v vs us w d ds K Q} I rx r R q qs h k => by
  unfold pPop at h
  split at h
  · rename_i n
    obtain ⟨ds, e, h⟩ := h.out
    obtain ⟨d, e2, h⟩ := h.out
    obtain ⟨hn, ws, hv, rv⟩ := lsR_ok R e
    cases qs
    cases q
    obtain ⟨u, hu, ru⟩ := rv.get e2
    rw [rv.length] at hu
    exact mt_pop pins s σ H _ _ v us Q I rx r ⟨w.μ n, ws, u, rfl, rfl, hv, hu, k.setL R hn rv.dropLast ru h⟩
  · rename_i n i
    obtain ⟨ds, e, h⟩ := h.out
    obtain ⟨d, e2, h⟩ := h.out
    obtain ⟨hi, h⟩ := h.out
    obtain ⟨hn, ws, hv, rv⟩ := lsR_ok R e
    obtain ⟨u0, rfl, q1⟩ := qs.one
    cases rpInt q1
    cases q
    obtain ⟨u, hu, ru⟩ := rv.get e2
    have hlt : i < ws.length := (List.getElem?_eq_some_iff.mp hu).1
    have h0 : (0 : Int) ≤ Int.ofNat i := Int.natCast_nonneg i
    have h1 : Int.ofNat i < (ws.length : Int) := Int.ofNat_lt.mpr hlt
    have hx : seqIndex? (Int.ofNat i) ws.length = some i := (ixN_seq (show ixN ws.length (Int.ofNat i) = some i by unfold ixN; rw [if_pos h0, if_pos h1]; rfl)).1
    exact mt_popAt pins s σ H _ _ v us Q I rx r ⟨w.μ n, ws, _, i, u, rfl, rfl, hv, by have : (0 : Int) ≤ Int.ofNat i := Int.natCast_nonneg i; omega, Int.ofNat_lt.mpr hi, hx, hu, k.setL R hn (rv.erase i) ru h⟩
  · exact h.elim
theorem oClear : MtR X "list.clear" (rM B F0 pClear) := methR fun {pins s σ H x v vs us w d ds K Q} I rx r R q qs h k => by
  unfold pClear at h
  split at h
  · rename_i n
    obtain ⟨ds, e, h⟩ := h.out
    obtain ⟨hn, ws, hv, rv⟩ := lsR_ok R e
    cases qs
    cases q
    exact mt_clear pins s σ H _ _ v us Q I rx r ⟨w.μ n, ws, rfl, rfl, hv, k.setL R hn .nil (.z .non) h⟩
  · exact h.elim
theorem oRev : MtR X "list.reverse" (rM B F0 pRev) := methR fun {pins s σ H x v vs us w d ds K Q} I rx r R q qs h k => by
  unfold pRev at h
  split at h
  · rename_i n
    obtain ⟨ds, e, h⟩ := h.out
    obtain ⟨hn, ws, hv, rv⟩ := lsR_ok R e
    cases qs
    cases q
    exact mt_reverse pins s σ H _ _ v us Q I rx r ⟨w.μ n, ws, rfl, rfl, hv, k.setL R hn rv.rev (.z .non) h⟩
  · exact h.elim
theorem oIndex (hu : X.A.units + 100 < cLine) : MtR X "list.index" (rM B F0 pIndex) := methR fun {pins s σ H x v vs us w d ds K Q} I rx r R q qs h k => by
  unfold pIndex at h
  split at h
  · obtain ⟨es, e, w1, w2, s1, s2, h⟩ := h
    obtain ⟨j, hj, h⟩ := h.out
    obtain ⟨u, rfl, q1⟩ := qs.one
    have a := RpT.dp (K := X.K) R.fh _ _ (Vw.rp R _ _ _ w1 q)
    have b := RpT.dp (K := X.K) R.fh _ _ (Vw.rp R _ _ _ w2 q1)
    obtain ⟨p, rfl⟩ : ∃ p, x = .ref p := by cases a; exact ⟨_, rfl⟩
    obtain ⟨hl, hj1, hj2⟩ := List.findIdx?_eq_some_iff_getElem.mp hj
    refine mt_indexD (by omega) pins s σ H _ _ v us Q I rx r ⟨p, u, e, es, j, es[j], rfl, rfl, a, b, s1, s2, List.getElem?_eq_getElem hl, hj1, fun m z' hm hz => ?_, k.int R h⟩
    obtain ⟨hm', rfl⟩ := List.getElem?_eq_some_iff.mp hz
    simpa using hj2 m hm
  · exact h.elim
end
end PL

set_option Elab.async false
set_option linter.all false
set_option maxRecDepth 100000
/-! PL, part 6: statements, targets, loops -/
namespace PL
open PySem L2

/-! ### targets -/
abbrev WG := D → Env → Sto → (Env → Sto → Prop) → Prop
abbrev WGs := List D → Env → Sto → (Env → Sto → Prop) → Prop
def FiG (B F0 : Hp) (w : Wd) (K : Env → Sto → Prop) (Q : St → Hp → Prop) : Prop := ∀ env S σ H μ F, Rl B F0 μ S F H → Xt w.μ w.S w.F μ S F → EnvR B F μ S.length env σ → K env S → Q σ H
theorem FiG.xt {B F0 : Hp} {w w' : Wd} {K : Env → Sto → Prop} {Q : St → Hp → Prop} (h : FiG B F0 w K Q) (x : Xt w.μ w.S w.F w'.μ w'.S w'.F) : FiG B F0 w' K Q := fun e S s H μ F R X r q => h e S s H μ F R (x.trans X) r q
def tG (B F0 : Hp) (g : WG) : TG := fun v σ H Q => ∃ (w : Wd) (env : Env) (d : D) (K : Env → Sto → Prop), RlW B F0 w H ∧ EnvR B w.F w.μ w.S.length env σ ∧ RpW B w d v ∧ g d env w.S K ∧ FiG B F0 w K Q
def tGs (B F0 : Hp) (g : WGs) : TGs := fun vs σ H Q => ∃ (w : Wd) (env : Env) (ds : List D) (K : Env → Sto → Prop), RlW B F0 w H ∧ EnvR B w.F w.μ w.S.length env σ ∧ RpsW B w ds vs ∧ g ds env w.S K ∧ FiG B F0 w K Q
def PXG (X : Cx) (B F0 : Hp) (e : Expr) (g : WG) : Prop := PG X e (tG B F0 g)
def PXGs (X : Cx) (B F0 : Hp) (es : List Expr) (g : WGs) : Prop := PGs X es (tGs B F0 g)
def gN (i : Nat) : WG := fun d env S K => K (env.set i (some d)) S
def gE : WGs := fun ds env S K => match ds with
  | [] => K env S
  | _ => False
def gC (g : WG) (gs : WGs) : WGs := fun ds env S K => match ds with
  | d :: r => g d env S fun env1 S1 => gs r env1 S1 K
  | [] => False
def tpN (n : Nat) (d : D) : Option (List D) := match tpD d with
  | some ds => if ds.length = n then some ds else none
  | none => none
def gT (n : Nat) (gs : WGs) : WG := fun d env S K => pGet (tpN n d) fun ds => gs ds env S K
/-- o[i] = v: lists and dicts -/
def pSet (o i v : D) (S : Sto) (K : Sto → Prop) : Prop := match o with
  | .r n => pGet S[n]? fun o => match o with
    | .lst ds => match i with
      | .z (.int k) => pGet (ixN ds.length k) fun j => K (S.set n (.lst (ds.set j v)))
      | _ => False
    | .dic kvs => pGet (keyD i) fun κ => pReq (kvs.length < sizeLine) (K (S.set n (.dic (putD kvs κ v))))
  | _ => False
def gS (wo wi : WE) : WG := fun v env S K => wo env S (fun o S1 => wi env S1 (fun i S2 => pSet o i v S2 fun S3 => K env S3) fun _ _ _ => False) fun _ _ _ => False
section
variable {X : Cx} {B F0 : Hp} {W : WX} {pos : Pos}
theorem wkG {e : Expr} {t t' : TG} (h : PG X e t) (k : ∀ v σ H Q, t' v σ H Q → t v σ H Q) : PG X e t' := ⟨fun p s σ H v u Q I r q => h.run p s σ H v u Q I r (k v σ H Q q)⟩
theorem wkGs {e : List Expr} {t t' : TGs} (h : PGs X e t) (k : ∀ v σ H Q, t' v σ H Q → t v σ H Q) : PGs X e t' := ⟨fun p s σ H v u Q I r q => h.run p s σ H v u Q I r (k v σ H Q q)⟩
theorem xgn (i : Nat) {x : Str} (hN : X.N.Nodup) (hi : X.N[i]? = some x := by rfl) (hx : Loc X.env.scope x := by first | exact Or.inl rfl | exact Or.inr rfl) (hf : X.fn x = true ∨ X.env.scope.names.lookup x = some .local := by first | exact .inl rfl | exact .inr rfl | assumption) : PXG X B F0 (.Name x pos) (gN i) :=
  wkG (pg_name hN hi hx hf) fun v σ H Q h => by
    obtain ⟨w, env, d, K, R, E, r, h, k⟩ := h
    exact k _ _ _ _ _ _ R .refl (EnvR.set r i E) h
theorem xge : PXGs X B F0 [] gE := wkGs pgs_nil fun vs σ H Q h => by
  obtain ⟨w, env, ds, K, R, E, r, h, k⟩ := h
  unfold gE at h
  split at h
  · cases r; exact ⟨rfl, k _ _ _ _ _ _ R .refl E h⟩
  · exact h.elim
theorem xgc {e : Expr} {es : List Expr} {g : WG} {gs : WGs} (h1 : PXG X B F0 e g) (h2 : PXGs X B F0 es gs) (hs : (assignEach (e :: es) X.env).map (·.2) = assign e X.env :: (assignEach es X.env).map (·.2) := by rfl) : PXGs X B F0 (e :: es) (gC g gs) :=
  wkGs (pgs_cons h1 h2 hs) fun vs σ H Q h => by
    obtain ⟨w, env, ds, K, R, E, r, h, k⟩ := h
    unfold gC at h
    split at h
    · cases r with
      | cons r1 r2 =>
        refine ⟨_, _, rfl, w, env, _, _, R, E, r1, h, fun env1 S1 σ1 H1 μ1 F1 R1 X1 E1 h1 => ?_⟩
        exact ⟨⟨μ1, S1, F1⟩, env1, _, K, R1, E1, r2.xt X1, h1, k.xt X1⟩
    · exact h.elim
theorem xgt {es : List Expr} {j n : Nat} {gs : WGs} (hc : X.calm = true) (h : PXGs X B F0 es gs) (hn : (assignEach es X.env).length = n := by rfl) (hst : (assignEach es X.env).findIdx? (·.1) = none := by rfl) : PXG X B F0 (.Tuple es j pos) (gT n gs) :=
  wkG (pg_tup hc h hn hst) fun v σ H Q h => by
    obtain ⟨w, env, d, K, R, E, r, h, k⟩ := h
    obtain ⟨ds, e, h⟩ := h.out
    unfold tpN at e
    split at e
    · rename_i ds' e1
      split at e
      · rename_i hl
        cases e
        obtain ⟨a, vs, rfl, ha, rv⟩ := tpD_ok R r e1
        exact ⟨a, vs, rfl, .inl (.inl ha), by rw [← rv.length]; exact hl, w, env, _, K, R, E, rv, h, k⟩
      · cases e
    · cases e
theorem oSet (hu : X.A.units + 100 < cLine) : PSet X (fun o i v H Q => ∃ (w : Wd) (do' di dv : D) (K : Sto → Prop), RlW B F0 w H ∧ RpW B w do' o ∧ RpW B w di i ∧ RpW B w dv v ∧ pSet do' di dv w.S K ∧ ∀ S' H' μ' F', Rl B F0 μ' S' F' H' → Xt w.μ w.S w.F μ' S' F' → K S' → Q H') := by
  intro pins s σ H o i v ov iv u Q I ro ri rv h
  obtain ⟨w, d1, d2, d3, K, R, q1, q2, q3, h, k⟩ := h
  unfold pSet at h
  split at h
  · rename_i n
    obtain ⟨o, e, h⟩ := h.out
    cases o with
    | lst ds =>
      dsimp only at h
      split at h
      · obtain ⟨j, hj, h⟩ := h.out
        obtain ⟨hn, ws, hv, rw'⟩ := lsR_ok (n := n) R (show lsR w.S n = some ds by unfold lsR; rw [e])
        cases q1
        have e2 := rpInt q2
        subst e2
        refine set_list pins s σ H _ _ v ov iv u Q I ro ri rv ⟨_, ws, _, j, rfl, rfl, hv, by rw [← rw'.length]; exact hj, ?_⟩
        obtain ⟨R2, X2⟩ := R.write (u := .lst (ws.set j v)) (o := .lst (ds.set j d3)) hn fun G hG => ⟨_, hG, rw'.set q3 j⟩
        exact k _ _ _ _ R2 X2 h
      · exact h.elim
    | dic kvs =>
      dsimp only at h
      obtain ⟨κ, hκ, h⟩ := h.out
      obtain ⟨hz, h⟩ := h.out
      obtain ⟨hn, ws, hv, rw'⟩ := dcR_ok (n := n) R (show dcR w.S n = some kvs by unfold dcR; rw [e])
      have ey := keyD_ok q2 hκ
      subst ey
      cases q1
      cases ro
      have g : DPut H (w.μ n) (kV κ) v (upd H (w.μ n) (.dK (putK ws κ v))) := DPut.k hv (by rw [← Paired.length rw']; exact hz)
      obtain ⟨R2, X2⟩ := R.write (u := .dK (putK ws κ v)) (o := .dic (putD kvs κ d3)) hn fun G hG => ⟨_, hG, KvR.put rw' κ q3⟩
      exact d_setItem (by omega) I g ri rv fun s3 I3 => ⟨_, I3, k _ _ _ _ R2 X2 h⟩
  · exact h.elim
theorem xgs {o i : Expr} {wo wi : WE} (hu : X.A.units + 100 < cLine) (ho : PX X B F0 W o wo) (hi : PX X B F0 W i wi) (ha : ∀ v, assign (.Subscript o i pos) X.env v = (do
      let ov ← holding [v] (eval o X.env)
      let iv ← holding [v, ov] (eval i X.env)
      standAt pos
      holding [v, ov, iv] (setItem ov iv v)
      release [v, ov, iv] []) := by intro _; rfl) : PXG X B F0 (.Subscript o i pos) (gS wo wi) := wkG (pg_sub ho hi (oSet (B := B) (F0 := F0) hu) ha) fun v σ H Q h => by
  obtain ⟨w, env, d, K, R, E, r, h, k⟩ := h
  refine ⟨w, env, _, _, R, E, h, fun x S1 v1 H1 μ1 F1 R1 X1 r1 h1 => ?_, fun _ _ _ _ _ _ _ _ _ _ h => h.elim⟩
  refine ⟨⟨μ1, S1, F1⟩, env, _, _, R1, E.xt X1, h1, fun y S2 v2 H2 μ2 F2 R2 X2 r2 h2 => ?_, fun _ _ _ _ _ _ _ _ _ _ h => h.elim⟩
  exact ⟨⟨μ2, S2, F2⟩, x, y, d, _, R2, r1.xt X2, r2, r.xt (X1.trans X2), h2, fun S3 H3 μ3 F3 R3 X3 h3 => k env S3 σ H3 μ3 F3 R3 ((X1.trans X2).trans X3) (E.xt ((X1.trans X2).trans X3)) h3⟩
end

/-! ### simple statements -/
def wNext : WS := fun k env S => k.nx env S
def wSeq (a b : WS) : WS := fun k env S => a { k with nx := fun env1 S1 => b k env1 S1 } env S
def wDrop (we : WE) : WS := fun k env S => we env S (fun _ S1 => k.nx env S1) k.ex
def wRet (we : WE) : WS := fun k env S => we env S k.rt k.ex
def wRetN : WS := fun k _ S => k.rt (.z .none) S
def wAsg (we : WE) (g : WG) : WS := fun k env S => we env S (fun d S1 => g d env S1 k.nx) k.ex
def wIf (t : WT) (a b : WS) : WS := fun k env S => t env S (fun c S1 => pIf c (a k env S1) (b k env S1)) k.ex
def wBrk : WS := fun k env S => k.bk env S
def wCnt : WS := fun k env S => k.ct env S
def wAug (p : P2) (i : Nat) (we : WE) : WS := fun k env S => match env[i]? with
  | some (some d) => we env S (fun e S1 => p d e S1 fun d' S2 => k.nx (env.set i (some d')) S2) k.ex
  | _ => False
section
variable {X : Cx} {B F0 : Hp} {W : WX} {e c : Expr} {we : WE} {st : Stmt} {rest body orelse : List Stmt} {a b : WS} {t : WT} {pos : Pos}
theorem bnil : PXB X B F0 W [] wNext := wkB pss_nil fun D σ H h => by
  obtain ⟨w, env, k, R, E, h, f⟩ := h
  exact f.nx _ _ _ _ _ _ R .refl E h
theorem bone (h : PXS X B F0 W st a) : PXB X B F0 W [st] a := pss_one h
theorem bcons (h1 : PXS X B F0 W st a) (h2 : PXB X B F0 W rest b) : PXB X B F0 W (st :: rest) (wSeq a b) := wkB (pss_cons h1 h2) fun D σ H h => by
  obtain ⟨w, env, k, R, E, h, f⟩ := h
  refine ⟨w, env, _, R, E, h, ⟨fun env1 S1 σ1 H1 μ1 F1 R1 X1 E1 h1 => ?_, f.rt, f.bk, f.ct, f.ex⟩⟩
  exact ⟨⟨μ1, S1, F1⟩, env1, k, R1, E1, h1, f.xt X1⟩
theorem xexpr (he : PX X B F0 W e we) (hs : swapsWith e none pos.line X.env = pure false := by rfl) : PXS X B F0 W (.Expr e pos) (wDrop we) := wkS (ps_expr he hs) fun D σ H h => by
  obtain ⟨w, env, k, R, E, h, f⟩ := h
  exact ⟨w, env, _, _, R, E, h, fun d S1 v H1 μ1 F1 R1 X1 r1 h1 => f.nx _ _ _ _ _ _ R1 X1 (E.xt X1) h1, f.toX E⟩
theorem xdoc {x : Str} {j : Nat} {pos' : Pos} : PXS X B F0 W (.Expr (.Constant (.str x) j pos) pos') wNext := wkS ps_doc fun D σ H h => by
  obtain ⟨w, env, k, R, E, h, f⟩ := h
  exact f.nx _ _ _ _ _ _ R .refl E h
theorem xpass : PXS X B F0 W (.Pass pos) wNext := wkS ps_pass fun D σ H h => by
  obtain ⟨w, env, k, R, E, h, f⟩ := h
  exact f.nx _ _ _ _ _ _ R .refl E h
theorem xbrk : PXS X B F0 W (.Break pos) wBrk := wkS ps_break fun D σ H h => by
  obtain ⟨w, env, k, R, E, h, f⟩ := h
  exact f.bk _ _ _ _ _ _ R .refl E h
theorem xcnt : PXS X B F0 W (.Continue pos) wCnt := wkS ps_continue fun D σ H h => by
  obtain ⟨w, env, k, R, E, h, f⟩ := h
  exact f.ct _ _ _ _ _ _ R .refl E h
theorem xret (he : PX X B F0 W e we) : PXS X B F0 W (.Return (some e) pos) (wRet we) := wkS (ps_ret he) fun D σ H h => by
  obtain ⟨w, env, k, R, E, h, f⟩ := h
  exact ⟨w, env, _, _, R, E, h, f.rt, f.toX E⟩
theorem xretN : PXS X B F0 W (.Return none pos) wRetN := wkS ps_retN fun D σ H h => by
  obtain ⟨w, env, k, R, E, h, f⟩ := h
  exact f.rt _ _ _ _ _ _ R .refl (.z .non) h
theorem xif (hc : PXT X B F0 W c t) (h1 : PXB X B F0 W body a) (h2 : PXB X B F0 W orelse b) : PXS X B F0 W (.If c body orelse pos) (wIf t a b) := wkS (ps_if hc h1 h2) fun D σ H h => by
  obtain ⟨w, env, k, R, E, h, f⟩ := h
  refine ⟨w, env, _, _, R, E, h, fun x S1 H1 μ1 F1 R1 X1 h1 => ?_, f.toX E⟩
  have h1 := h1.out
  dsimp only
  cases x with
  | true => rw [if_pos rfl] at h1 ⊢; exact ⟨⟨μ1, S1, F1⟩, env, k, R1, E.xt X1, h1, f.xt X1⟩
  | false => rw [if_neg Bool.false_ne_true] at h1 ⊢; exact ⟨⟨μ1, S1, F1⟩, env, k, R1, E.xt X1, h1, f.xt X1⟩
theorem xasg {tg : Expr} {g : WG} (he : PX X B F0 W e we) (hg : PXG X B F0 tg g) (hs : swapsWithSole [tg] e pos.line X.env = pure false := by rfl) (hw : swappedStores [tg] e X.env = pure none := by rfl)
    (h1 : (assignEach [tg] X.env).map (·.2) = [assign tg X.env] := by rfl) : PXS X B F0 W (.Assign [tg] e pos) (wAsg we g) := wkS (ps_asg he hg hs hw h1) fun D σ H h => by
  obtain ⟨w, env, k, R, E, h, f⟩ := h
  refine ⟨w, env, _, _, R, E, h, fun d S1 v H1 μ1 F1 R1 X1 r1 h1 => ?_, f.toX E⟩
  exact ⟨⟨μ1, S1, F1⟩, env, d, k.nx, R1, E.xt X1, r1, h1, fun env2 S2 σ2 H2 μ2 F2 R2 X2 E2 h2 => f.nx _ _ _ _ _ _ R2 (X1.trans X2) E2 h2⟩
theorem xaug {p : P2} (i : Nat) {x : Str} {op : Operator} {pos' : Pos} (ho : OpR X (inplaceOp op) (r2 B F0 p)) (hN : X.N.Nodup) (he : PX X B F0 W e we) (hi : X.N[i]? = some x := by rfl) (hx : Loc X.env.scope x := by first | exact Or.inl rfl | exact Or.inr rfl)
    (hf : X.fn x = true ∨ X.env.scope.names.lookup x = some .local := by first | exact .inl rfl | exact .inr rfl | assumption) : PXS X B F0 W (.AugAssign (.Name x pos') op e pos) (wAug p i we) :=
  wkS (ps_aug (ti := r2 B F0 p) hN hi hx he (fun pins s σ H x y v u Q I rx ry h => ho pins s σ H x y v u Q I rx ry h) hf) fun D σ H h => by
    obtain ⟨w, env, k, R, E, h, f⟩ := h
    unfold wAug at h
    split at h
    · rename_i d e1
      obtain ⟨v, h1, h2⟩ := EnvR.get E e1
      refine ⟨v, h1, w, env, _, _, R, E, h, fun d2 S1 u H1 μ1 F1 R1 X1 r1 q1 => ?_, f.toX E⟩
      refine ⟨⟨μ1, S1, F1⟩, d, d2, _, R1, h2.xt X1, r1, q1, fun d3 S2 z H2 μ2 F2 R2 X2 r2 q2 => ?_⟩
      exact f.nx _ _ _ _ _ _ R2 (X1.trans X2) (EnvR.set r2 i (E.xt (X1.trans X2))) q2
    · exact h.elim
end
section
variable {X : Cx} {B F0 : Hp}
theorem intOpI {op : Operator} {g : Int → Int → Int} {C : Int → Int → Prop} {p : P2} (ho : OpR X (inplaceOp op) (rI C fun i j => .int (g i j))) (hp : ∀ x y S K, p x y S K → ∃ i j, x = .z (.int i) ∧ y = .z (.int j) ∧ C i j ∧ K (.z (.int (g i j))) S) : OpR X (inplaceOp op) (r2 B F0 p) := by
  intro pins s σ H x y v u Q I rx ry h
  obtain ⟨w, dx, dy, K, R, q1, q2, h, k⟩ := h
  obtain ⟨i, j, rfl, rfl, hc, h5⟩ := hp _ _ _ _ h
  rw [rpInt q1] at rx; rw [rpInt q2] at ry
  exact ho pins s σ H _ _ v u Q I rx ry ⟨_, _, rfl, rfl, hc, k.int R h5⟩
def pAddI : P2 := fun x y S K => match x, y with
  | .z (.int i), .z (.int j) => K (.z (.int (i + j))) S
  | _, _ => False
/-- // by a positive one -/
def pDivI : P2 := fun x y S K => match x, y with
  | .z (.int i), .z (.int j) => pReq (0 < j ∧ j < 1073741824) (K (.z (.int (i / j))) S)
  | _, _ => False
theorem oAddI : OpR X (inplaceOp .Add) (r2 B F0 pAddI) := by
  intro pins s σ H x y v u Q I rx ry h
  obtain ⟨w, dx, dy, K, R, q1, q2, h, k⟩ := h
  unfold pAddI at h
  split at h
  · rw [rpInt q1] at rx; rw [rpInt q2] at ry
    exact iop_add pins s σ H _ _ v u Q I rx ry ⟨_, _, rfl, rfl, k.int R h⟩
  · exact h.elim
theorem oSubI : OpR X (inplaceOp .Sub) (r2 B F0 pSub) := by
  intro pins s σ H x y v u Q I rx ry h
  obtain ⟨w, dx, dy, K, R, q1, q2, h, k⟩ := h
  unfold pSub at h
  split at h
  · rw [rpInt q1] at rx; rw [rpInt q2] at ry
    exact iop_sub pins s σ H _ _ v u Q I rx ry ⟨_, _, rfl, rfl, k.int R h⟩
  · exact h.elim
theorem oDivI : OpR X (inplaceOp .FloorDiv) (r2 B F0 pDivI) := intOpI iop_fdiv fun x y S K h => by
  unfold pDivI at h; split at h
  · obtain ⟨hc, h⟩ := h.out; exact ⟨_, _, rfl, rfl, hc, h⟩
  · exact h.elim
end
end PL

set_option Elab.async false
set_option linter.all false
set_option maxRecDepth 100000
/-! PL, part 7: what is walked; for, while -/
namespace PL
open PySem L2

/-- what a loop walks: its items, and what must stand at each turn -/
structure Src where
  items : List D
  ok : Sto → Prop
abbrev WI := Env → Sto → (Src → Sto → Prop) → KX → Prop
/-- a walk of the layer gives the items of src -/
structure SrcOk (B F0 : Hp) (w0 : Wd) (src : Src) (J : It) (G : Hp → Prop) (Y : Nat → Hp → V → Hp → Prop) : Prop where
  walk : Walk J src.items.length G Y
  good : ∀ (w : Wd) H, RlW B F0 w H → Xt w0.μ w0.S w0.F w.μ w.S w.F → src.ok w.S → G H
  item : ∀ (w : Wd) H i x H', i < src.items.length → RlW B F0 w H → Xt w0.μ w0.S w0.F w.μ w.S w.F → src.ok w.S → Y i H x H' → ∃ (w' : Wd) (d : D), src.items[i]? = some d ∧ w'.S = w.S ∧ RlW B F0 w' H' ∧ Xt w.μ w.S w.F w'.μ w'.S w'.F ∧ RpW B w' d x
def tI (B F0 : Hp) (W : WX) (wi : WI) : TI := fun σ H R => ∃ (w : Wd) (env : Env) (K : Src → Sto → Prop) (KX : KX), RlW B F0 w H ∧ EnvR B w.F w.μ w.S.length env σ ∧ wi env w.S K KX ∧ FiX B F0 W w env σ KX ∧
  ∀ src S' H' μ' F' J G Y, Rl B F0 μ' S' F' H' → Xt w.μ w.S w.F μ' S' F' → K src S' → SrcOk B F0 ⟨μ', S', F'⟩ src J G Y → R J H'
def PXI (X : Cx) (B F0 : Hp) (W : WX) (tg iter : Expr) (wi : WI) : Prop := PI X tg iter (tI B F0 W wi)
section
variable {X : Cx} {B F0 : Hp} {W : WX} {tg e : Expr} {we : WE} {wa : WA} {pos p : Pos}
theorem wkI {iter : Expr} {t t' : TI} (h : PI X tg iter t) (k : ∀ σ H Q, t' σ H Q → t σ H Q) : PI X tg iter t' := ⟨fun p s σ H R I q => h.run p s σ H R I (k σ H R q)⟩
/-- items that stand, by any walk that gives them as they are -/
theorem SrcOk.at {w0 : Wd} {src : Src} {J : It} {G : Hp → Prop} {vs : List V} (hw : Walk J vs.length G (YAt vs)) (hl : src.items.length = vs.length) (hg : ∀ (w : Wd) H, RlW B F0 w H → Xt w0.μ w0.S w0.F w.μ w.S w.F → src.ok w.S → G H)
    (hr : RpsW B w0 src.items vs) : SrcOk B F0 w0 src J G (YAt vs) := ⟨by rw [hl]; exact hw, hg, fun w H i x H' _ R X1 ho y => by
  obtain ⟨rfl, hx⟩ := y
  obtain ⟨d, hd, rd⟩ := RpDs.getV hr hx
  exact ⟨w, d, hd, rfl, R, .refl, rd.xt X1⟩⟩
def srcD (S : Sto) : D → Option Src
  | .z (.list ds) => some ⟨ds.map .z, fun _ => True⟩
  | .b (.list ds) => some ⟨ds.map bz, fun _ => True⟩
  | .r n => match S[n]? with
    | some (.lst ds) => some ⟨ds, fun S => S[n]? = some (.lst ds)⟩
    | _ => none
  | .z (.tuple ds) => some ⟨ds.map .z, fun _ => True⟩
  | .b (.tuple ds) => some ⟨ds.map bz, fun _ => True⟩
  | .t ds => some ⟨ds, fun _ => True⟩
  | .z (.str s) => some ⟨s.cps.toList.map fun c => .z (.str ⟨⟨[c]⟩⟩), fun _ => True⟩
  | _ => none
def wIt (we : WE) : WI := fun env S K KX => we env S (fun x S1 => pGet (srcD S1 x) fun src => K src S1) KX
/-- a list, a tuple, a text -/
def iAny (K : PySem.W.Frag) (tl : TE) : TI := fun σ H R => tl σ H fun x H1 => (∃ a vs, x = .ref a ∧ SqL K H1 a vs ∧ R (Itl K a) H1) ∨ (∃ a vs, x = .ref a ∧ SqT K H1 a vs ∧ R (Itt K a) H1) ∨ ∃ z, x = .str z ∧ R (Its z) H1
theorem pi_any {tl : TE} (he : PE X e tl) : PI X tg e (iAny X.K tl) := by
  refine ⟨fun pins s σ H R I hw => thn (he.run pins s σ H _ I hw) fun v s1 ⟨x, H1, J, rx, qx⟩ => ?_⟩
  have one : ∀ {o : Obj} {tn : Nat → Heap → Prop} {Jt : It}, Turn X.prog X.w X.K tg Jt [s1.heap.objs.size] s1.heap.objs.size tn → tn 0 (s1.heap.push o) → R Jt H1 → PIE X pins σ tg R (.ref s1.heap.objs.size) { s1 with heap := s1.heap.push o } := fun {o tn Jt} T t0 q =>
    ⟨s1.heap.objs.size, [s1.heap.objs.size], tn, Jt, H1, rfl, J.kept (t' := s1.toks) fun b o e => Heap.get?_push_of_some _ e, T, t0, fun b hb => by
      have e : b = s1.heap.objs.size := by simpa using hb
      rw [e]
      exact J.fpOk (Nat.le_refl _) (J.hok.fresh (Nat.le_refl _)), q⟩
  rcases qx with ⟨a, vs, rfl, hq, q⟩ | ⟨a, vs, rfl, hq, q⟩ | ⟨z, rfl, q⟩
  · cases rx
    obtain ⟨its, rv, pl, _⟩ := J.list hq
    exact wpAny_pyIter_list pl.isList (one (turn_list a _) ⟨_, Heap.get?_push_size _ rfl, rfl, rfl⟩ q)
  · cases rx
    obtain ⟨its, rv, pl, _⟩ := J.tuple hq
    exact wpAny_pyIter_tuple (show s1.heap.IsTuple a its.toArray from pl) (one (turn_tuple a _) ⟨_, Heap.get?_push_size _ rfl, rfl, rfl⟩ q)
  · obtain ⟨t, rfl⟩ := rx
    cases hc : z.cps.all (· < 128)
    · exact wpAny_pyIter_wide hc (one (turn_str _ z t "str_iterator" (.inr rfl)) ⟨_, Heap.get?_push_size _ rfl, rfl, rfl⟩ q)
    · exact wpAny_pyIter_ascii hc (one (turn_str _ z t "str_ascii_iterator" (.inl rfl)) ⟨_, Heap.get?_push_size _ rfl, rfl, rfl⟩ q)
theorem rd_sq {K : PySem.W.Frag} {H : Hp} {a : Addr} {vs : List V} (h : Rd H a (.lst vs)) : SqL K H a vs := .inl h
theorem srcD_ok {K : PySem.W.Frag} {w : Wd} {H : Hp} {x : D} {v : V} {src : Src} {R : It → Hp → Prop} (r : RpW B w x v) (R1 : RlW B F0 w H) (e : srcD w.S x = some src) (k : ∀ J G Y, SrcOk B F0 w src J G Y → R J H) :
    (∃ a vs, v = .ref a ∧ SqL K H a vs ∧ R (Itl K a) H) ∨ (∃ a vs, v = .ref a ∧ SqT K H a vs ∧ R (Itt K a) H) ∨ ∃ z, v = .str z ∧ R (Its z) H := by
  unfold srcD at e
  split at e
  · cases e
    cases r with
    | z q => cases q with | lst a b => exact .inl ⟨_, _, rfl, rd_sq (.inl (R1.fh _ _ a)), k _ _ _ (.at walk_list (by simp [b.length]) (fun w' H' R' X' _ => rd_sq (.inl (R'.fh _ _ (X'.f _ _ a)))) (RpDs.zs b))⟩
  · cases e
    cases r with
    | b q =>
      cases q with
      | lst a b =>
        have all : ∀ (w' : Wd) (H' : Hp), RlW B F0 w' H' → Xt w.μ w.S w.F w'.μ w'.S w'.F → Rd H' _ (.lst _) := fun w' H' R' X' => a.elim (fun z => R'.fh.rd (X'.f.rd z)) fun z => R'.bh.rd z
        exact .inl ⟨_, _, rfl, rd_sq (all w H R1 .refl), k _ _ _ (.at walk_list (by simp [b.length]) (fun w' H' R' X' _ => rd_sq (all w' H' R' X')) (RpDs.bzs b))⟩
  · rename_i n
    split at e
    · rename_i ds e1
      cases e
      cases r with
      | r hi =>
        obtain ⟨vs, hv, rv⟩ := R1.ob _ _ e1
        have em : ∀ (w' : Wd), Xt w.μ w.S w.F w'.μ w'.S w'.F → w'.μ n = w.μ n := fun w' X' => X'.m n (Rl.lt e1)
        have there : ∀ (w' : Wd) (H' : Hp), RlW B F0 w' H' → Xt w.μ w.S w.F w'.μ w'.S w'.F → w'.S[n]? = some (.lst ds) → ∃ us, SqL K H' (w.μ n) us ∧ RpsW B w' ds us := fun w' H' R' X' ho => by
          obtain ⟨us, hu, ru⟩ := R'.ob _ _ ho
          rw [em w' X'] at hu
          exact ⟨us, rd_sq (.inl hu), ru⟩
        refine .inl ⟨_, _, rfl, rd_sq (.inl hv), k _ (fun H => ∃ us, SqL K H (w.μ n) us ∧ us.length = ds.length) (fun i H x H' => H' = H ∧ ∀ us, SqL K H (w.μ n) us → us[i]? = some x) ⟨⟨?_, ?_, ?_⟩, ?_, ?_⟩⟩
        · rintro i H2 hi2 ⟨us, hu, hl⟩
          have hi3 : i < us.length := by rw [hl]; exact hi2
          exact ⟨us, us[i], hu, List.getElem?_eq_getElem hi3⟩
        · rintro H2 ⟨us, hu, hl⟩
          exact ⟨us, hu, by rw [hl]; exact Nat.le_refl _⟩
        · exact fun i H x H' _ _ y => y
        · intro w' H' R' X' ho
          obtain ⟨us, h1, h2⟩ := there w' H' R' X' ho
          exact ⟨us, h1, h2.length.symm⟩
        · intro w' H' i x H2 _ R' X' ho y
          obtain ⟨rfl, y⟩ := y
          obtain ⟨us, h1, h2⟩ := there w' _ R' X' ho
          obtain ⟨d, hd, rd⟩ := RpDs.getV h2 (y us h1)
          exact ⟨w', d, hd, rfl, R', .refl, rd⟩
    · cases e
  · cases e
    cases r with
    | z q => cases q with | tup a b => exact .inr (.inl ⟨_, _, rfl, .inl (.inl (R1.fh _ _ a)), k _ _ _ (.at walk_tup (by simp [b.length]) (fun w' H' R' X' _ => .inl (.inl (R'.fh _ _ (X'.f _ _ a)))) (RpDs.zs b))⟩)
  · cases e
    cases r with
    | b q => cases q with | tup a b => exact .inr (.inl ⟨_, _, rfl, .inl (.inl (R1.fh _ _ a)), k _ _ _ (.at walk_tup (by simp [b.length]) (fun w' H' R' X' _ => .inl (.inl (R'.fh _ _ (X'.f _ _ a)))) (RpDs.bzs b))⟩)
  · cases e
    cases r with
    | t a b => exact .inr (.inl ⟨_, _, rfl, .inl (.inl (R1.fh _ _ a)), k _ _ _ (.at walk_tup b.length (fun w' H' R' X' _ => .inl (.inl (R'.fh _ _ (X'.f _ _ a)))) b)⟩)
  · rename_i z
    cases e
    have := rpStr r
    subst this
    refine .inr (.inr ⟨z, rfl, k (Its z) (fun _ => True) (fun i H v H' => H' = H ∧ ∃ c, z.cps[i]? = some c ∧ v = .str ⟨#[c]⟩) ⟨?_, fun _ _ _ _ _ => trivial, fun w' H' i x H2 _ R' X' _ y => ?_⟩⟩)
    · simpa using walk_str (z := z)
    · obtain ⟨rfl, c, hc, rfl⟩ := y
      refine ⟨w', .z (.str ⟨⟨[c]⟩⟩), ?_, rfl, R', .refl, .z (.str _)⟩
      have hc' : z.cps.toList[i]? = some c := by rw [Array.getElem?_toList]; exact hc
      simp [hc']
  · cases e
theorem xit (he : PX X B F0 W e we) : PXI X B F0 W tg e (wIt we) := wkI (pi_any he) fun σ H Q h => by
  obtain ⟨w, env, K, KX, R, E, h, kx, q⟩ := h
  refine ⟨w, env, _, KX, R, E, h, fun x S1 v H1 μ1 F1 R1 X1 r1 h1 => ?_, kx⟩
  obtain ⟨src, e, h1⟩ := h1.out
  exact srcD_ok (w := ⟨μ1, S1, F1⟩) (R := Q) r1 R1 e fun J G Y ok => q src S1 H1 μ1 F1 J G Y R1 X1 h1 ok
/-- range(n), range(a, b) -/
def rgD (lo : Int) (n : Nat) : Src := ⟨(List.range n).map fun (i : Nat) => .z (.int (lo + (i : Int))), fun _ => True⟩
def wRg1 (wa : WA) : WI := fun env S K KX => wa env S (fun xs S1 => match xs with
  | [.z (.int j)] => pReq (-1000000 < j ∧ j < 1000000) (K (rgD 0 j.toNat) S1)
  | _ => False) KX
def wRg2 (wa : WA) : WI := fun env S K KX => wa env S (fun xs S1 => match xs with
  | [.z (.int i), .z (.int j)] => pReq (-1000000 < i ∧ i < 1000000 ∧ -1000000 < j ∧ j < 1000000) (K (rgD i (j - i).toNat) S1)
  | _ => False) KX
theorem rgD_ok {w : Wd} {lo : Int} {n : Nat} : SrcOk B F0 w (rgD lo n) (Itr lo n) (fun _ => True) (YFn fun i => .int (lo + (i : Int))) := ⟨by simpa [rgD] using walk_range (lo := lo) (n := n), fun _ _ _ _ _ => trivial, fun w' H i x H' hi R X1 _ y => by
  obtain ⟨rfl, rfl⟩ := y
  have hi2 : i < n := by simpa [rgD] using hi
  refine ⟨w', .z (.int (lo + (i : Int))), ?_, rfl, R, .refl, .z (.int _)⟩
  show ((List.range n).map _)[i]? = _
  rw [List.getElem?_map, List.getElem?_range hi2]
  rfl⟩
theorem xrg1 {a : Expr} (hg : Gl X "range") (hm : X.mg "range" = none) (ha : PXA X B F0 W [a] wa) (hs : starEach [a] X.env = [(false, eval a X.env)] := by rfl) : PXI X B F0 W tg (.Call (.Name "range" p) [a] [] pos) (wRg1 wa) := wkI (pi_range1 hg hm ha hs) fun σ H Q h => by
  obtain ⟨w, env, K, KX, R, E, h, kx, q⟩ := h
  refine ⟨w, env, _, KX, R, E, h, fun xs S1 vs H1 μ1 F1 R1 X1 r1 h1 => ?_, kx⟩
  dsimp only at h1
  split at h1
  · obtain ⟨hz, h1⟩ := h1.out
    obtain ⟨v, rfl, r2⟩ := RpDs.one (w := ⟨μ1, S1, F1⟩) r1
    have := rpInt (w := ⟨μ1, S1, F1⟩) r2
    subst this
    exact ⟨_, rfl, by omega, by omega, q _ S1 H1 μ1 F1 _ _ _ R1 X1 h1 rgD_ok⟩
  · exact h1.elim
theorem xrg2 {a b : Expr} (hg : Gl X "range") (hm : X.mg "range" = none) (ha : PXA X B F0 W [a, b] wa) (hs : starEach [a, b] X.env = [(false, eval a X.env), (false, eval b X.env)] := by rfl) (hs2 : starEach [b] X.env = [(false, eval b X.env)] := by rfl) :
    PXI X B F0 W tg (.Call (.Name "range" p) [a, b] [] pos) (wRg2 wa) := wkI (pi_range2 hg hm ha hs hs2) fun σ H Q h => by
  obtain ⟨w, env, K, KX, R, E, h, kx, q⟩ := h
  refine ⟨w, env, _, KX, R, E, h, fun xs S1 vs H1 μ1 F1 R1 X1 r1 h1 => ?_, kx⟩
  dsimp only at h1
  split at h1
  · obtain ⟨hz, h1⟩ := h1.out
    obtain ⟨v, u, rfl, r2, r3⟩ := RpDs.two (w := ⟨μ1, S1, F1⟩) r1
    have := rpInt (w := ⟨μ1, S1, F1⟩) r2
    subst this
    have := rpInt (w := ⟨μ1, S1, F1⟩) r3
    subst this
    exact ⟨_, _, rfl, ⟨by omega, by omega, by omega, by omega⟩, q _ S1 H1 μ1 F1 _ _ _ R1 X1 h1 rgD_ok⟩
  · exact h1.elim
/-! enumerate(list), zip(list, list), reversed(list) -/
/-- a list that is walked: its items, and that it stands -/
def lsSrc (S : Sto) : D → Option Src
  | .z (.list ds) => some ⟨ds.map .z, fun _ => True⟩
  | .b (.list ds) => some ⟨ds.map bz, fun _ => True⟩
  | .r n => match S[n]? with
    | some (.lst ds) => some ⟨ds, fun S => S[n]? = some (.lst ds)⟩
    | _ => none
  | _ => none
/-- what such a source is in the heap: at a the list stands, while ok -/
structure Lsd (K : PySem.W.Frag) (B F0 : Hp) (w0 : Wd) (src : Src) (a : Addr) : Prop where
  at_ : ∀ (w : Wd) H, RlW B F0 w H → Xt w0.μ w0.S w0.F w.μ w.S w.F → src.ok w.S → ∃ vs, SqL K H a vs ∧ RpsW B w src.items vs
theorem lsSrc_ok {K : PySem.W.Frag} {w : Wd} {H : Hp} {x : D} {v : V} {src : Src} (r : RpW B w x v) (R1 : RlW B F0 w H) (e : lsSrc w.S x = some src) : ∃ a, v = .ref a ∧ Lsd K B F0 w src a ∧ src.ok w.S := by
  unfold lsSrc at e
  split at e
  · cases e
    cases r with
    | z q => cases q with | lst a b => exact ⟨_, rfl, ⟨fun w' H' R' X' _ => ⟨_, rd_sq (.inl (R'.fh _ _ (X'.f _ _ a))), (RpDs.zs (B := B) (μ := w.μ) (n := w.S.length) b).xt X'⟩⟩, trivial⟩
  · cases e
    cases r with
    | b q => cases q with | lst a b => exact ⟨_, rfl, ⟨fun w' H' R' X' _ => ⟨_, rd_sq (a.elim (fun z => R'.fh.rd (X'.f.rd z)) fun z => R'.bh.rd z), (RpDs.bzs (B := B) (μ := w.μ) (n := w.S.length) b).xt X'⟩⟩, trivial⟩
  · rename_i n
    split at e
    · rename_i ds e1
      cases e
      cases r with
      | r hi =>
        refine ⟨_, rfl, ⟨fun w' H' R' X' ho => ?_⟩, e1⟩
        obtain ⟨us, hu, ru⟩ := R'.ob _ _ ho
        rw [X'.m n hi] at hu
        exact ⟨us, rd_sq (.inl hu), ru⟩
    · cases e
  · cases e
def enumSrc (src : Src) : Src := ⟨src.items.mapIdx fun i d => mkT [.z (.int (i : Int)), d], src.ok⟩
def zipSrc (s1 s2 : Src) : Src := ⟨List.zipWith (fun a b => mkT [a, b]) s1.items s2.items, fun S => s1.ok S ∧ s2.ok S⟩
def revSrc (src : Src) : Src := ⟨src.items.reverse, src.ok⟩
def wEn (wa : WA) : WI := fun env S K KX => wa env S (fun xs S1 => match xs with
  | [x] => pGet (lsSrc S1 x) fun src => K (enumSrc src) S1
  | _ => False) KX
def wZp (wa : WA) : WI := fun env S K KX => wa env S (fun xs S1 => match xs with
  | [x, y] => pGet (lsSrc S1 x) fun s1 => pGet (lsSrc S1 y) fun s2 => K (zipSrc s1 s2) S1
  | _ => False) KX
def wRv (wa : WA) : WI := fun env S K KX => wa env S (fun xs S1 => match xs with
  | [x] => pGet (lsSrc S1 x) fun src => K (revSrc src) S1
  | _ => False) KX
theorem new_pair {w : Wd} {H : Hp} {T : Addr} {x y : V} {d e : D} (R : RlW B F0 w H) (hT : H T = none) (r1 : RpW B w d x) (r2 : RpW B w e y) : ∃ w' : Wd, w'.S = w.S ∧ RlW B F0 w' (upd H T (.tup [x, y])) ∧ Xt w.μ w.S w.F w'.μ w'.S w'.F ∧ RpW B w' (mkT [d, e]) (.ref T) := by
  obtain ⟨R2, X2⟩ := R.froze (.tup [x, y]) hT
  exact ⟨⟨w.μ, w.S, upd w.F T (.tup [x, y])⟩, rfl, R2, X2, mkT_rp upd_same (.cons (r1.xt X2) (.cons (r2.xt X2) .nil))⟩
theorem enum_ok {K : PySem.W.Frag} {w0 : Wd} {src : Src} {a : Addr} (h : Lsd K B F0 w0 src a) : SrcOk B F0 w0 (enumSrc src) (Ite K a) (fun H => ∃ vs, SqL K H a vs ∧ vs.length = src.items.length)
    (fun i H v H' => ∃ T x, v = .ref T ∧ H T = none ∧ H' = upd H T (.tup [.int (i : Nat), x]) ∧ ∀ xs, SqL K H a xs → xs[i]? = some x) := by
  have hl : (enumSrc src).items.length = src.items.length := by simp [enumSrc]
  refine ⟨⟨?_, ?_, fun i H x H' _ _ y => y⟩, ?_, ?_⟩
  · rintro i H hi ⟨vs, h1, h2⟩
    rw [hl] at hi
    have : i < vs.length := by omega
    exact ⟨vs, vs[i], h1, List.getElem?_eq_getElem this⟩
  · rintro H ⟨vs, h1, h2⟩
    exact ⟨vs, h1, by rw [hl]; omega⟩
  · intro w H R X1 ho
    obtain ⟨vs, h1, h2⟩ := h.at_ w H R X1 ho
    exact ⟨vs, h1, h2.length.symm⟩
  · intro w H i x H' hi R X1 ho y
    obtain ⟨T, z, rfl, hT, rfl, hz⟩ := y
    obtain ⟨vs, h1, h2⟩ := h.at_ w H R X1 ho
    obtain ⟨d, hd, rd⟩ := RpDs.getV h2 (hz vs h1)
    obtain ⟨w', e1, e2, e3, e4⟩ := new_pair (d := .z (.int (i : Nat))) R hT (.z (.int _)) rd
    exact ⟨w', _, by simp [enumSrc, hd], e1, e2, e3, e4⟩
theorem zip_ok {K : PySem.W.Frag} {w0 : Wd} {s1 s2 : Src} {a b : Addr} (h1 : Lsd K B F0 w0 s1 a) (h2 : Lsd K B F0 w0 s2 b) : SrcOk B F0 w0 (zipSrc s1 s2) (Itz K a b) (fun H => ∃ xs ys, SqL K H a xs ∧ SqL K H b ys ∧ xs.length = s1.items.length ∧ ys.length = s2.items.length)
    (fun i H v H' => ∃ T x y, v = .ref T ∧ H T = none ∧ H' = upd H T (.tup [x, y]) ∧ (∀ xs, SqL K H a xs → xs[i]? = some x) ∧ ∀ ys, SqL K H b ys → ys[i]? = some y) := by
  have hl : (zipSrc s1 s2).items.length = min s1.items.length s2.items.length := by simp [zipSrc]
  refine ⟨⟨?_, ?_, fun i H x H' _ _ y => y⟩, ?_, ?_⟩
  · rintro i H hi ⟨xs, ys, q1, q2, l1, l2⟩
    rw [hl] at hi
    have a1 : i < xs.length := by omega
    have a2 : i < ys.length := by omega
    exact ⟨xs, ys, xs[i], ys[i], q1, q2, List.getElem?_eq_getElem a1, List.getElem?_eq_getElem a2⟩
  · rintro H ⟨xs, ys, q1, q2, l1, l2⟩
    exact ⟨xs, ys, q1, q2, by rw [hl]; omega⟩
  · intro w H R X1 ho
    obtain ⟨xs, q1, r1⟩ := h1.at_ w H R X1 ho.1
    obtain ⟨ys, q2, r2⟩ := h2.at_ w H R X1 ho.2
    exact ⟨xs, ys, q1, q2, r1.length.symm, r2.length.symm⟩
  · intro w H i x H' hi R X1 ho y
    obtain ⟨T, z, u, rfl, hT, rfl, hz, hu⟩ := y
    obtain ⟨xs, q1, r1⟩ := h1.at_ w H R X1 ho.1
    obtain ⟨ys, q2, r2⟩ := h2.at_ w H R X1 ho.2
    obtain ⟨d, hd, rd⟩ := RpDs.getV r1 (hz xs q1)
    obtain ⟨e, he, re⟩ := RpDs.getV r2 (hu ys q2)
    obtain ⟨w', e1, e2, e3, e4⟩ := new_pair R hT rd re
    exact ⟨w', _, by simp [zipSrc, List.getElem?_zipWith, hd, he], e1, e2, e3, e4⟩
theorem rev_ok {K : PySem.W.Frag} {w0 : Wd} {src : Src} {a : Addr} (h : Lsd K B F0 w0 src a) : SrcOk B F0 w0 (revSrc src) (Itv K a src.items.length) (fun H => ∃ vs, SqL K H a vs ∧ vs.length = src.items.length)
    (fun i H x H' => H' = H ∧ ∀ xs, SqL K H a xs → xs[src.items.length - 1 - i]? = some x) := by
  have hl : (revSrc src).items.length = src.items.length := by simp [revSrc]
  refine ⟨⟨?_, fun H _ => by rw [hl]; exact Nat.le_refl _, fun i H x H' _ _ y => y⟩, ?_, ?_⟩
  · rintro i H hi ⟨vs, h1, h2⟩
    rw [hl] at hi
    have : src.items.length - 1 - i < vs.length := by omega
    exact ⟨hi, vs, vs[src.items.length - 1 - i], h1, List.getElem?_eq_getElem this⟩
  · intro w H R X1 ho
    obtain ⟨vs, h1, h2⟩ := h.at_ w H R X1 ho
    exact ⟨vs, h1, h2.length.symm⟩
  · intro w H i x H' hi R X1 ho y
    obtain ⟨rfl, hz⟩ := y
    obtain ⟨vs, h1, h2⟩ := h.at_ w _ R X1 ho
    obtain ⟨d, hd, rd⟩ := RpDs.getV h2 (hz vs h1)
    rw [hl] at hi
    exact ⟨w, d, by show src.items.reverse[i]? = _; rw [List.getElem?_reverse hi]; exact hd, rfl, R, .refl, rd⟩
theorem xen {elts : List Expr} {kk : Nat} {tpos : Pos} (hg : Gl X "enumerate") (hm : X.mg "enumerate" = none) (ha : PXA X B F0 W [e] wa) (hs : starEach [e] X.env = [(false, eval e X.env)] := by rfl) : PXI X B F0 W (.Tuple elts kk tpos) (.Call (.Name "enumerate" p) [e] [] pos) (wEn wa) :=
  wkI (pi_enum hg hm ha hs) fun σ H Q h => by
    obtain ⟨w, env, K, KX, R, E, h, kx, q⟩ := h
    refine ⟨w, env, _, KX, R, E, h, fun xs S1 vs H1 μ1 F1 R1 X1 r1 h1 => ?_, kx⟩
    dsimp only at h1
    split at h1
    · obtain ⟨src, e1, h1⟩ := h1.out
      obtain ⟨v, rfl, r2⟩ := RpDs.one (w := ⟨μ1, S1, F1⟩) r1
      obtain ⟨a, rfl, hl, ho⟩ := lsSrc_ok (K := X.K) (w := ⟨μ1, S1, F1⟩) r2 R1 e1
      obtain ⟨us, hu, _⟩ := hl.at_ ⟨μ1, S1, F1⟩ H1 R1 .refl ho
      exact ⟨a, us, rfl, hu, q _ S1 H1 μ1 F1 _ _ _ R1 X1 h1 (enum_ok hl)⟩
    · exact h1.elim
theorem xzp {e2 : Expr} {elts : List Expr} {kk : Nat} {tpos : Pos} (hg : Gl X "zip") (hm : X.mg "zip" = none) (ha : PXA X B F0 W [e, e2] wa) (hs : starEach [e, e2] X.env = (false, eval e X.env) :: starEach [e2] X.env := by rfl) (hpl : (backTo pos (starEach [e2] X.env)).any (·.1) = false := by rfl) :
    PXI X B F0 W (.Tuple elts kk tpos) (.Call (.Name "zip" p) [e, e2] [] pos) (wZp wa) :=
  wkI (pi_zip hg hm ha hs hpl) fun σ H Q h => by
    obtain ⟨w, env, K, KX, R, E, h, kx, q⟩ := h
    refine ⟨w, env, _, KX, R, E, h, fun xs S1 vs H1 μ1 F1 R1 X1 r1 h1 => ?_, kx⟩
    dsimp only at h1
    split at h1
    · obtain ⟨src1, e1, h1⟩ := h1.out
      obtain ⟨src2, e2, h1⟩ := h1.out
      obtain ⟨v, u, rfl, r2, r3⟩ := RpDs.two (w := ⟨μ1, S1, F1⟩) r1
      obtain ⟨a, rfl, hl, ho⟩ := lsSrc_ok (K := X.K) (w := ⟨μ1, S1, F1⟩) r2 R1 e1
      obtain ⟨us, hu, _⟩ := hl.at_ ⟨μ1, S1, F1⟩ H1 R1 .refl ho
      obtain ⟨b, rfl, hl2, ho2⟩ := lsSrc_ok (K := X.K) (w := ⟨μ1, S1, F1⟩) r3 R1 e2
      obtain ⟨us2, hu2, _⟩ := hl2.at_ ⟨μ1, S1, F1⟩ H1 R1 .refl ho2
      exact ⟨a, b, us, us2, rfl, hu, hu2, q _ S1 H1 μ1 F1 _ _ _ R1 X1 h1 (zip_ok hl hl2)⟩
    · exact h1.elim
theorem xrv (hg : Gl X "reversed") (hm : X.mg "reversed" = none) (ha : PXA X B F0 W [e] wa) (hs : starEach [e] X.env = [(false, eval e X.env)] := by rfl) : PXI X B F0 W tg (.Call (.Name "reversed" p) [e] [] pos) (wRv wa) :=
  wkI (pi_reversed hg hm ha hs) fun σ H Q h => by
    obtain ⟨w, env, K, KX, R, E, h, kx, q⟩ := h
    refine ⟨w, env, _, KX, R, E, h, fun xs S1 vs H1 μ1 F1 R1 X1 r1 h1 => ?_, kx⟩
    dsimp only at h1
    split at h1
    · obtain ⟨src, e1, h1⟩ := h1.out
      obtain ⟨v, rfl, r2⟩ := RpDs.one (w := ⟨μ1, S1, F1⟩) r1
      obtain ⟨a, rfl, hl, ho⟩ := lsSrc_ok (K := X.K) (w := ⟨μ1, S1, F1⟩) r2 R1 e1
      obtain ⟨us, hu, ru⟩ := hl.at_ ⟨μ1, S1, F1⟩ H1 R1 .refl ho
      refine ⟨a, us, rfl, hu, ?_⟩
      rw [← ru.length]
      exact q _ S1 H1 μ1 F1 _ _ _ R1 X1 h1 (rev_ok hl)
    · exact h1.elim
end

/-! ### for, while -/
def pForGo (src : Src) (g : WG) (body : WS) (k : KS) : List D → Env → Sto → Prop
  | [] => fun env S => src.ok S ∧ k.nx env S
  | d :: ds => fun env S => src.ok S ∧ g d env S fun env1 S1 => body { k with nx := pForGo src g body k ds, ct := pForGo src g body k ds, bk := k.nx } env1 S1
structure pFor (src : Src) (g : WG) (body : WS) (k : KS) (ds : List D) (env : Env) (S : Sto) : Prop where
  go : pForGo src g body k ds env S
theorem pFor.nil {src : Src} {g : WG} {body : WS} {k : KS} {env : Env} {S : Sto} : pFor src g body k [] env S = (src.ok S ∧ k.nx env S) := propext ⟨fun h => h.go, fun h => ⟨h⟩⟩
theorem pFor.cons {src : Src} {g : WG} {body : WS} {k : KS} {d : D} {ds : List D} {env : Env} {S : Sto} : pFor src g body k (d :: ds) env S = (src.ok S ∧ g d env S fun env1 S1 => body { k with nx := pFor src g body k ds, ct := pFor src g body k ds, bk := k.nx } env1 S1) := by
  have e : pFor src g body k ds = pForGo src g body k ds := by funext e s; exact propext ⟨fun h => h.go, fun h => ⟨h⟩⟩
  rw [e]; exact propext ⟨fun h => h.go, fun h => ⟨h⟩⟩
def wFor (wi : WI) (g : WG) (body : WS) : WS := fun k env S => wi env S (fun src S1 => pFor src g body k src.items env S1) k.ex
/-- by an invariant over (measure, names, store) -/
structure pWhile (t : WT) (body : WS) (k : KS) (env : Env) (S : Sto) : Prop where
  ex : ∃ P : Nat → Env → Sto → Prop, (∃ m, P m env S) ∧ ∀ m env S, P m env S →
  t env S (fun b S1 => pIf b (body { k with nx := fun env2 S2 => ∃ m', m' < m ∧ P m' env2 S2, ct := fun env2 S2 => ∃ m', m' < m ∧ P m' env2 S2, bk := k.nx } env S1) (k.nx env S1)) k.ex
def wWhile (t : WT) (body : WS) : WS := fun k env S => pWhile t body k env S
section
variable {X : Cx} {B F0 : Hp} {W : WX} {tg iter c : Expr} {body : List Stmt} {wi : WI} {g : WG} {b : WS} {t : WT} {pos : Pos}
theorem xfor (hp : PassesOwn (model X.prog X.w) X.A X.env X.xe) (hc : X.calm = true) (hi : PXI X B F0 W tg iter wi) (hg : PXG X B F0 tg g) (hb : PXB X B F0 W body b) (hs : ∀ x, foldedSetIterable iter X.env x = pure x := by intro _; rfl) : PXS X B F0 W (.For tg iter body [] pos) (wFor wi g b) :=
  wkS (ps_for hp hc hi hg hb hs) fun D σ H h => by
    obtain ⟨w, env, k, R, E, h, f⟩ := h
    refine ⟨w, env, _, _, R, E, h, f.toX E, fun src S1 H1 μ1 F1 J G Y R1 X1 h1 ok => ?_⟩
    refine for_it ok.walk (fun i σ2 H2 => ∃ (w2 : Wd) (env2 : Env), RlW B F0 w2 H2 ∧ Xt μ1 S1 F1 w2.μ w2.S w2.F ∧ EnvR B w2.F w2.μ w2.S.length env2 σ2 ∧ pFor src g b k (src.items.drop i) env2 w2.S) ?_ ?_ ?_ ?_
    · exact ⟨⟨μ1, S1, F1⟩, env, R1, .refl, E.xt X1, h1⟩
    · rintro i σ2 H2 _ ⟨w2, env2, R2, X2, E2, h2⟩
      refine ok.good w2 H2 R2 X2 ?_
      cases hd : src.items.drop i with
      | nil => rw [hd, pFor.nil] at h2; exact h2.1
      | cons d ds => rw [hd, pFor.cons] at h2; exact h2.1
    · rintro i x σ2 H2 H3 hi ⟨w2, env2, R2, X2, E2, h2⟩ y
      rw [List.drop_eq_getElem_cons hi, pFor.cons] at h2
      obtain ⟨ho, h2⟩ := h2
      obtain ⟨w3, d, hd, eS, R3, X3, rd⟩ := ok.item w2 H2 i x H3 hi R2 X2 ho y
      have ed : src.items[i] = d := Option.some.inj ((List.getElem?_eq_getElem hi).symm.trans hd)
      rw [ed, ← eS] at h2
      refine ⟨w3, env2, d, _, R3, E2.xt X3, rd, h2, fun env4 S4 σ4 H4 μ4 F4 R4 X4 E4 h4 => ?_⟩
      have X24 := X2.trans (X3.trans X4)
      refine ⟨⟨μ4, S4, F4⟩, env4, _, R4, E4, h4, ⟨fun env5 S5 σ5 H5 μ5 F5 R5 X5 E5 h5 => ?_, f.rt.xt (X1.trans X24), fun env5 S5 σ5 H5 μ5 F5 R5 X5 E5 h5 => ?_, fun env5 S5 σ5 H5 μ5 F5 R5 X5 E5 h5 => ?_, fun y5 env5 S5 σ5 H5 μ5 F5 c5 d5 R5 X5 E5 r5 h5 => ?_⟩⟩
      · exact ⟨⟨μ5, S5, F5⟩, env5, R5, X24.trans X5, E5, h5⟩
      · exact f.nx _ _ _ _ _ _ R5 ((X1.trans X24).trans X5) E5 h5
      · exact ⟨⟨μ5, S5, F5⟩, env5, R5, X24.trans X5, E5, h5⟩
      · exact f.ex _ _ _ _ _ _ _ _ _ R5 ((X1.trans X24).trans X5) E5 r5 h5
    · rintro σ2 H2 ⟨w2, env2, R2, X2, E2, h2⟩
      rw [List.drop_length, pFor.nil] at h2
      exact f.nx _ _ _ _ _ _ R2 (X1.trans X2) E2 h2.2
theorem xwhile (hp : PassesOwn (model X.prog X.w) X.A X.env X.xe) (hc : PXT X B F0 W c t) (hb : PXB X B F0 W body b) : PXS X B F0 W (.While c body [] pos) (wWhile t b) := wkS (ps_while hp hc hb) fun D σ H h => by
  obtain ⟨w, env, k, R, E, h, f⟩ := h
  unfold wWhile at h
  have h := h.ex
  obtain ⟨P, ⟨m0, p0⟩, turn⟩ := h
  refine ⟨fun m σ2 H2 => ∃ (w2 : Wd) (env2 : Env), RlW B F0 w2 H2 ∧ Xt w.μ w.S w.F w2.μ w2.S w2.F ∧ EnvR B w2.F w2.μ w2.S.length env2 σ2 ∧ P m env2 w2.S, ⟨m0, w, env, R, .refl, E, p0⟩, ?_⟩
  rintro m σ2 H2 ⟨w2, env2, R2, X2, E2, p2⟩
  refine ⟨w2, env2, _, _, R2, E2, turn m env2 w2.S p2, fun kb S3 H3 μ3 F3 R3 X3 h3 => ?_, (f.xt X2).toX E2⟩
  have h3 := h3.out
  dsimp only
  cases kb with
  | true =>
    rw [if_pos rfl] at h3 ⊢
    refine ⟨fun σ4 H4 => ∃ m', m' < m ∧ ∃ (w4 : Wd) (env4 : Env), RlW B F0 w4 H4 ∧ Xt w.μ w.S w.F w4.μ w4.S w4.F ∧ EnvR B w4.F w4.μ w4.S.length env4 σ4 ∧ P m' env4 w4.S, fun σ4 H4 h => h, ?_⟩
    have X23 := X2.trans X3
    refine ⟨⟨μ3, S3, F3⟩, env2, _, R3, E2.xt X3, h3, ⟨fun env5 S5 σ5 H5 μ5 F5 R5 X5 E5 h5 => ?_, f.rt.xt X23, fun env5 S5 σ5 H5 μ5 F5 R5 X5 E5 h5 => ?_, fun env5 S5 σ5 H5 μ5 F5 R5 X5 E5 h5 => ?_, fun y5 env5 S5 σ5 H5 μ5 F5 c5 d5 R5 X5 E5 r5 h5 => ?_⟩⟩
    · obtain ⟨m', hm, p5⟩ := h5; exact ⟨m', hm, ⟨μ5, S5, F5⟩, env5, R5, X23.trans X5, E5, p5⟩
    · exact f.nx _ _ _ _ _ _ R5 (X23.trans X5) E5 h5
    · obtain ⟨m', hm, p5⟩ := h5; exact ⟨m', hm, ⟨μ5, S5, F5⟩, env5, R5, X23.trans X5, E5, p5⟩
    · exact f.ex _ _ _ _ _ _ _ _ _ R5 (X23.trans X5) E5 r5 h5
  | false =>
    rw [if_neg Bool.false_ne_true] at h3 ⊢
    exact f.nx _ _ _ _ _ _ R3 (X2.trans X3) (E2.xt X3) h3
end
end PL

set_option Elab.async false
set_option linter.all false
set_option maxRecDepth 100000
/-! PL, part 8: list comprehensions -/
namespace PL
open PySem L2

def W0 : WX := fun _ _ _ _ => False
def X0 : KX := fun _ _ _ => False
theorem fix0 {B F0 : Hp} {w : Wd} {env : Env} {σ : St} {W : WX} : FiX B F0 W w env σ X0 := fun _ _ _ _ _ _ _ _ _ _ h => h.elim
def wipeE (env : Env) : List Nat → Env
  | [] => env
  | v :: vs => (wipeE env vs).set v none
theorem EnvR.wipe {B F : Hp} {μ : Nat → Addr} {n : Nat} {env : Env} {σ : St} (E : EnvR B F μ n env σ) : ∀ vs : List Nat, EnvR B F μ n (wipeE env vs) (L2.wipe σ vs)
  | [] => E
  | v :: vs => EnvR.unset v (EnvR.wipe E vs)
theorem wipe_set {σ : St} {i : Nat} {x : Option V} : ∀ {vs : List Nat}, i ∈ vs → L2.wipe (σ.set i x) vs = L2.wipe σ vs
  | [], h => by cases h
  | v :: vs, h => by
    show (L2.wipe (σ.set i x) vs).set v none = (L2.wipe σ vs).set v none
    by_cases hm : i ∈ vs
    · rw [wipe_set hm]
    · have e : i = v := (List.mem_cons.mp h).resolve_right hm
      subst e
      have comm : ∀ (us : List Nat) (τ : St), i ∉ us → L2.wipe (τ.set i x) us = (L2.wipe τ us).set i x := by
        intro us
        induction us with
        | nil => intro τ _; rfl
        | cons u us ih =>
          intro τ hu
          have h1 : i ∉ us := fun z => hu (List.mem_cons_of_mem _ z)
          have h2 : i ≠ u := fun z => hu (by rw [z]; exact List.mem_cons_self)
          show (L2.wipe (τ.set i x) us).set u none = ((L2.wipe τ us).set u none).set i x
          rw [ih τ h1, List.set_comm _ _ h2]
      rw [comm vs σ hm, List.set_set]
theorem wipe_idem {σ : St} : ∀ (vs : List Nat), L2.wipe (L2.wipe σ vs) vs = L2.wipe σ vs
  | [] => rfl
  | v :: vs => by
    have h : L2.wipe ((L2.wipe σ vs).set v none) (v :: vs) = L2.wipe (L2.wipe σ vs) (v :: vs) := wipe_set List.mem_cons_self
    show L2.wipe ((L2.wipe σ vs).set v none) (v :: vs) = (L2.wipe σ vs).set v none
    rw [h]
    show (L2.wipe (L2.wipe σ vs) vs).set v none = _
    rw [wipe_idem vs]
/-- a comprehension's target: names of its own -/
structure TgOk (K : PySem.W.Frag) (B F0 : Hp) (g : TG) (tg : D → Env → Option Env) (vs : List Nat) : Prop where
  run : ∀ (w : Wd) (H : Hp) (d : D) (v : V) (env env2 : Env) (σ : St) (Q : St → Hp → Prop), RlW B F0 w H → RpW B w d v → EnvR B w.F w.μ w.S.length env σ → tg d env = some env2 →
    (∀ σ2, EnvR B w.F w.μ w.S.length env2 σ2 → L2.wipe σ2 vs = L2.wipe σ vs → Q σ2 H) → g v σ H Q
def tgN (i : Nat) : D → Env → Option Env := fun d env => some (env.set i (some d))
def setE : Env → List Nat → List D → Option Env
  | env, [], [] => some env
  | env, i :: is, d :: ds => setE (env.set i (some d)) is ds
  | _, _, _ => none
def tgT (is : List Nat) : D → Env → Option Env := fun d env => match tpD d with
  | some ds => setE env is ds
  | none => none
section
variable {K : PySem.W.Frag} {B F0 : Hp}
theorem tgok_name {i : Nat} {vs : List Nat} (hi : i ∈ vs := by simp) : TgOk K B F0 (gName i) (tgN i) vs := ⟨fun w H d v env env2 σ Q R r E e k => by
  cases e
  exact k _ (EnvR.set r i E) (wipe_set hi)⟩
def gNames : List Nat → TGs
  | [] => gNil
  | i :: is => gCons (gName i) (gNames is)
theorem gNames_ok {w : Wd} {H : Hp} {vs : List Nat} {Q : St → Hp → Prop} : ∀ {is : List Nat} {ds : List D} {us : List V} {env env2 : Env} {σ σ0 : St}, (∀ i ∈ is, i ∈ vs) → RpsW B w ds us → EnvR B w.F w.μ w.S.length env σ → setE env is ds = some env2 → L2.wipe σ vs = L2.wipe σ0 vs →
    (∀ σ2, EnvR B w.F w.μ w.S.length env2 σ2 → L2.wipe σ2 vs = L2.wipe σ0 vs → Q σ2 H) → gNames is us σ H Q ∧ us.length = is.length
  | [], [], _, _, _, _, _, _, r, E, e, hw, k => by
    cases r
    cases e
    exact ⟨⟨rfl, k _ E hw⟩, rfl⟩
  | [], _ :: _, _, _, _, _, _, _, _, _, e, _, _ => by cases e
  | _ :: _, [], _, _, _, _, _, _, _, _, e, _, _ => by cases e
  | i :: is, d :: ds, _, env, env2, σ, σ0, hv, r, E, e, hw, k => by
    cases r with
    | cons r1 r2 =>
      obtain ⟨h1, h2⟩ := gNames_ok (is := is) (fun j hj => hv j (List.mem_cons_of_mem _ hj)) r2 (EnvR.set r1 i E) e ((wipe_set (hv i List.mem_cons_self)).trans hw) k
      exact ⟨⟨_, _, rfl, h1⟩, by simp [h2]⟩
theorem tgok_tup {is : List Nat} {vs : List Nat} {n : Nat} (hn : is.length = n := by rfl) (hi : ∀ i ∈ is, i ∈ vs := by decide) : TgOk K B F0 (gTup K n (gNames is)) (tgT is) vs := ⟨fun w H d v env env2 σ Q R r E e k => by
  unfold tgT at e
  split at e
  · rename_i ds e1
    obtain ⟨a, us, rfl, ha, ru⟩ := tpD_ok R r e1
    obtain ⟨h1, h2⟩ := gNames_ok hi ru E e rfl k
    exact ⟨a, us, rfl, .inl (.inl ha), h2.trans hn, h1⟩
  · cases e⟩
end

def pLcGo (src : Src) (tg : D → Env → Option Env) (wt : WT) (we : WE) (L : Nat) (env : Env) (fin : Sto → Prop) : List D → Sto → Prop
  | [] => fun S => src.ok S ∧ fin S
  | d :: ds => fun S => src.ok S ∧ pGet (tg d env) fun env2 => wt env2 S (fun b S1 => pIf b (we env2 S1 (fun y S2 => pGet (lsR S2 L) fun acc => pReq (acc.length < sizeLine) (pLcGo src tg wt we L env fin ds (S2.set L (.lst (acc ++ [y]))))) X0) (pLcGo src tg wt we L env fin ds S1)) X0
structure pLc (src : Src) (tg : D → Env → Option Env) (wt : WT) (we : WE) (L : Nat) (env : Env) (fin : Sto → Prop) (ds : List D) (S : Sto) : Prop where
  go : pLcGo src tg wt we L env fin ds S
theorem pLc.nil {src : Src} {tg : D → Env → Option Env} {wt : WT} {we : WE} {L : Nat} {env : Env} {fin : Sto → Prop} {S : Sto} : pLc src tg wt we L env fin [] S = (src.ok S ∧ fin S) := propext ⟨fun h => h.go, fun h => ⟨h⟩⟩
theorem pLc.cons {src : Src} {tg : D → Env → Option Env} {wt : WT} {we : WE} {L : Nat} {env : Env} {fin : Sto → Prop} {d : D} {ds : List D} {S : Sto} : pLc src tg wt we L env fin (d :: ds) S = (src.ok S ∧ pGet (tg d env) fun env2 => wt env2 S (fun b S1 => pIf b (we env2 S1 (fun y S2 => pGet (lsR S2 L) fun acc => pReq (acc.length < sizeLine) (pLc src tg wt we L env fin ds (S2.set L (.lst (acc ++ [y]))))) X0) (pLc src tg wt we L env fin ds S1)) X0) := by
  have e : pLc src tg wt we L env fin ds = pLcGo src tg wt we L env fin ds := by funext s; exact propext ⟨fun h => h.go, fun h => ⟨h⟩⟩
  rw [e]; exact propext ⟨fun h => h.go, fun h => ⟨h⟩⟩
def wLc (wi : WI) (tg : D → Env → Option Env) (wt : WT) (we : WE) (vs : List Nat) : WE := fun env S K KX => wi env S (fun src S1 => pLc src tg wt we S1.length (wipeE env vs) (fun S2 => K (.r S1.length) S2) src.items (S1 ++ [.lst []])) KX
/-- no test -/
def wYes : WT := fun _ S K _ => K true S
section
variable {X : Cx} {B F0 : Hp} {W : WX}
theorem lc_wk {wi : WI} {g : TG} {tg : D → Env → Option Env} {wt : WT} {we : WE} {vs : List Nat} (hg : TgOk X.K B F0 g tg vs) {σ : St} {H : Hp} {Q : VK} (h : tE B F0 W (wLc wi tg wt we vs) σ H Q) : tLc (tI B F0 W wi) g (tT B F0 W0 wt) (tE B F0 W0 we) vs σ H Q := by
  obtain ⟨w, env, K, KX, R, E, h, k, kx⟩ := h
  refine ⟨w, env, _, KX, R, E, h, kx, fun src S1 H1 μ1 F1 J G Y R1 X1 h1 ok => fun Dl hD => ?_⟩
  obtain ⟨Rg, Xg⟩ := R1.grow (u := .lst []) (o := .lst []) hD fun G hG => ⟨[], hG, .nil⟩
  refine lc_it ok.walk (fun i H2 => ∃ (w2 : Wd), RlW B F0 w2 H2 ∧ Xt (muX μ1 S1.length Dl) (S1 ++ [.lst []]) F1 w2.μ w2.S w2.F ∧ pLc src tg wt we S1.length (wipeE env vs) (fun S2 => K (.r S1.length) S2) (src.items.drop i) w2.S) ?_ ?_ ?_ ?_
  · exact ⟨⟨_, _, _⟩, Rg, .refl, h1⟩
  · rintro i H2 _ ⟨w2, R2, X2, h2⟩
    refine ok.good w2 H2 R2 (Xg.trans X2) ?_
    cases hd : src.items.drop i with
    | nil => rw [hd, pLc.nil] at h2; exact h2.1
    | cons d ds => rw [hd, pLc.cons] at h2; exact h2.1
  · rintro i x H2 H3 hi ⟨w2, R2, X2, h2⟩ y
    rw [List.drop_eq_getElem_cons hi, pLc.cons] at h2
    obtain ⟨ho, h2⟩ := h2
    obtain ⟨env2, he2, h2⟩ := h2.out
    obtain ⟨w3, d, hd, eS, R3, X3, rd⟩ := ok.item w2 H2 i x H3 hi R2 (Xg.trans X2) ho y
    have ed : src.items[i] = d := Option.some.inj ((List.getElem?_eq_getElem hi).symm.trans hd)
    rw [ed] at he2
    rw [← eS] at h2
    have X13 : Xt w.μ w.S w.F w3.μ w3.S w3.F := (X1.trans Xg).trans (X2.trans X3)
    refine hg.run w3 H3 d x (wipeE env vs) env2 (L2.wipe σ vs) _ R3 rd ((E.xt X13).wipe vs) he2 fun σ2 E2 hw2 => ⟨hw2.trans (wipe_idem vs), ?_⟩
    refine ⟨w3, env2, _, X0, R3, E2, h2, fun b S4 H4 μ4 F4 R4 X4 h4 => ?_, fix0⟩
    have h4 := h4.out
    dsimp only
    cases b with
    | false =>
      rw [if_neg Bool.false_ne_true] at h4 ⊢
      exact ⟨⟨μ4, S4, F4⟩, R4, X2.trans (X3.trans X4), h4⟩
    | true =>
      rw [if_pos rfl] at h4 ⊢
      refine ⟨⟨μ4, S4, F4⟩, env2, _, X0, R4, E2.xt X4, h4, fun yd S5 yv H5 μ5 F5 R5 X5 r5 h5 => ?_, fix0⟩
      obtain ⟨acc, ea, h5⟩ := h5.out
      obtain ⟨hz, h5⟩ := h5.out
      obtain ⟨hn, as, hv, ra⟩ := lsR_ok (w := ⟨μ5, S5, F5⟩) R5 ea
      have X25 := X2.trans (X3.trans (X4.trans X5))
      have eD : μ5 S1.length = Dl := by
        have := X25.m S1.length (by simp)
        rw [this]
        unfold muX
        rw [if_pos rfl]
      have hv : H5 (μ5 S1.length) = some (.lst as) := hv
      rw [eD] at hv
      refine ⟨as, hv, by rw [← ra.length]; exact hz, ?_⟩
      obtain ⟨R6, X6⟩ := R5.write (u := .lst (as ++ [yv])) (o := .lst (acc ++ [yd])) hn fun G hG => ⟨_, hG, ra.append (.cons r5 .nil)⟩
      rw [eD] at R6
      exact ⟨⟨μ5, _, F5⟩, R6, X25.trans X6, h5⟩
  · rintro H2 ⟨w2, R2, X2, h2⟩
    rw [List.drop_length, pLc.nil] at h2
    have eD : w2.μ S1.length = Dl := by
      have := X2.m S1.length (by simp)
      rw [this]
      unfold muX
      rw [if_pos rfl]
    have hlt : S1.length < w2.S.length := Nat.lt_of_lt_of_le (by simp) X2.n
    have r : RpD B w2.F w2.μ w2.S.length (.r S1.length) (.ref (w2.μ S1.length)) := .r hlt
    rw [eD] at r
    exact k _ _ _ _ _ _ R2 ((X1.trans Xg).trans X2) r h2.2
variable {elt tg iter : Expr} {ifs : List Expr} {scope : Scope} {own : List (Str × Nat)} {pos spos : Pos} {wi : WI} {g : TG} {tgd : D → Env → Option Env} {wt : WT} {we : WE}
def PXTs (X : Cx) (B F0 : Hp) (ifs : List Expr) (wt : WT) : Prop := PTs X ifs (tT B F0 W0 wt)
theorem tsNil : PXTs X B F0 [] wYes := ⟨fun pins s σ H Q I h => by
  obtain ⟨w, env, K, KX, R, E, h, k, _⟩ := h
  exact pts_nil.run pins s σ H Q I (k true w.S H w.μ w.F R .refl h)⟩
theorem tsOne {c : Expr} (h : PXT X B F0 W0 c wt) : PXTs X B F0 [c] wt := pts_one h
theorem xlc (hc : X.calm = true) (hN : X.N.Nodup) (hi : PXI X B F0 W tg iter wi) (ok : BlkOk X.N X.env.scope scope own)
    (hg : ∀ (s : Shared) (H : Hp) (C : Addr) (cl : List (Str × Addr)) (fp : List Addr), PG (X.blk s H scope (compEnvC scope cl C X.env) fp) tg g) (hk : TgOk X.K B F0 g tgd (own.map (·.2)))
    (ht : ∀ (s : Shared) (H : Hp) (C : Addr) (cl : List (Str × Addr)) (fp : List Addr), PXTs (X.blk s H scope (compEnvC scope cl C X.env) fp) B F0 ifs wt)
    (he : ∀ (s : Shared) (H : Hp) (C : Addr) (cl : List (Str × Addr)) (fp : List Addr), PX (X.blk s H scope (compEnvC scope cl C X.env) fp) B F0 W0 elt we) (hs : ∀ x, foldedSetIterable iter X.env x = pure x := by intro _; rfl) :
    PX X B F0 W (.ListComp elt [⟨tg, iter, ifs, 0⟩] scope pos) (wLc wi tgd wt we (own.map (·.2))) := wkE (pe_lc hc hN hi ok hg ht he hs) fun σ H Q h => lc_wk hk h
theorem xsetLc {i : Nat} {y : Str} {py : Pos} (hc : X.calm = true) (hN : X.N.Nodup) (hy : X.N[i]? = some y) (hyl : X.env.scope.names.lookup y = some .local)
    (hsw : swapsWith (.ListComp elt [⟨tg, iter, ifs, 0⟩] scope pos) (some (.Name y py)) spos.line X.env = pure true) (hi : PXI X B F0 W tg iter wi) (ok : BlkOk X.N X.env.scope scope own)
    (hg : ∀ (s : Shared) (H : Hp) (C : Addr) (cl : List (Str × Addr)) (fp : List Addr), PG (X.blk s H scope (compEnvC scope cl C X.env) fp) tg g) (hk : TgOk X.K B F0 g tgd (own.map (·.2)))
    (ht : ∀ (s : Shared) (H : Hp) (C : Addr) (cl : List (Str × Addr)) (fp : List Addr), PXTs (X.blk s H scope (compEnvC scope cl C X.env) fp) B F0 ifs wt)
    (he : ∀ (s : Shared) (H : Hp) (C : Addr) (cl : List (Str × Addr)) (fp : List Addr), PX (X.blk s H scope (compEnvC scope cl C X.env) fp) B F0 W0 elt we) (hs : ∀ x, foldedSetIterable iter X.env x = pure x := by intro _; rfl) :
    PXS X B F0 W (.Assign [.Name y py] (.ListComp elt [⟨tg, iter, ifs, 0⟩] scope pos) spos) (wAsg (wLc wi tgd wt we (own.map (·.2))) (gN i)) := wkS (ps_setLc hc hN hy hyl hsw hi ok hg ht he hs) fun Dn σ H h => by
  obtain ⟨w, env, k, R, E, h, f⟩ := h
  refine lc_wk hk ⟨w, env, _, _, R, E, h, fun d S1 v H1 μ1 F1 R1 X1 r1 h1 => ?_, f.toX E⟩
  exact f.nx _ _ _ _ _ _ R1 X1 (EnvR.set r1 i (E.xt X1)) h1
end
end PL

set_option Elab.async false
set_option linter.all false
set_option maxRecDepth 100000
/-! PL, part 9: defs: promises over data, calls, data frozen at the end of a call -/
namespace PL
open PySem L2

abbrev KF := Ex → Sto → Prop
/-- a def's promise: its arguments, the store, what is wanted -/
abbrev Spc := List D → Sto → K1 → KF → Prop
def spOf (sp : Spc) : Sp := fun vs H Q E => ∃ (B F0 : Hp) (w : Wd) (ds : List D) (K : K1) (KX : KF), RlW B F0 w H ∧ RpsW B w ds vs ∧ sp ds w.S K KX ∧ Fi B F0 w K Q ∧
  ∀ x S' H' μ' F' cls dd, Rl B F0 μ' S' F' H' → Xt w.μ w.S w.F μ' S' F' → ExR B F' μ' S'.length H' x cls dd → KX x S' → E cls dd H'
structure pCall (sp : Spc) (ds : List D) (S : Sto) (K : K1) (KX : KF) : Prop where
  mk' ::
  out : sp ds S K KX
theorem pCall.mk {sp : Spc} {ds : List D} {S : Sto} {K : K1} {KX : KF} (h : sp ds S K KX) : pCall sp ds S K KX := ⟨h⟩
def wFn (sp : Spc) (dvs : List D) (wa : WA) : WE := fun env S K KX => wa env S (fun ds S1 => pCall sp (ds ++ dvs) S1 K fun x S2 => KX x env S2) KX
/-- defaults -/
def litV : PyData → Option V
  | .none => some .non
  | .bool b => some (.bl b)
  | .int i => some (.int i)
  | .str x => some (.str x)
  | _ => none
structure Dft (dvs : List D) (ds : List Value) : Prop where
  ok : ∃ vs : List V, Vals vs ds ∧ ∀ B w, RpsW B w dvs vs
theorem dft0 : Dft [] [] := ⟨[], .nil, fun _ _ => .nil⟩
section
variable {X : Cx} {B F0 : Hp} {W : WX} {e : Expr} {es : List Expr} {wa : WA} {x : Str} {p pos : Pos} {k : Nat} {f : Addr} {fd : FuncData} {ps : List Str} {sp : Spc} {dvs : List D} {dd : List Value}
theorem xcall (G : FnOk X.prog X.w X.K X.mg X.base (L2.CX X.prog X.w) k f fd ps (spOf sp)) (hr : Room k X.A) (hg : Gl X x) (hm : X.mg x = some (.ref f)) (hk : PySem.W.keepIn X.K (.ref f) = true) (hb : Binds X.K fd ps dd) (hd : Dft dvs dd) (tk : Takes X W) (ha : PXA X B F0 W (e :: es) wa)
    (hdb : (x == ("__debug__" : Str)) = false := by decide) (he : starEach (e :: es) X.env = (false, eval e X.env) :: starEach es X.env := by rfl) (hpl : (backTo pos (starEach es X.env)).any (·.1) = false := by rfl) : PX X B F0 W (.Call (.Name x p) (e :: es) [] pos) (wFn sp dvs wa) := by
  obtain ⟨vsd, hv, hrp⟩ := hd.ok
  refine wkE (pe_callSD (E := fun σ cls d H => W cls d σ H) G hr hg hm hk hb hv (fun σ => passAt tk σ) ha hdb he hpl) fun σ H Q h => ?_
  obtain ⟨w, env, K, KX, R, E, h, k, kx⟩ := h
  refine ⟨w, env, _, _, R, E, h, fun ds S1 vs H1 μ1 F1 R1 X1 r1 h1 => ?_, kx⟩
  have happ : ∀ {a b : List D} {u v : List V}, RpDs B F1 μ1 S1.length a u → RpDs B F1 μ1 S1.length b v → RpDs B F1 μ1 S1.length (a ++ b) (u ++ v) := fun a b => a.append b
  exact ⟨B, F0, ⟨μ1, S1, F1⟩, ds ++ dvs, K, _, R1, happ r1 (hrp B ⟨μ1, S1, F1⟩), h1.out, k.xt X1, fun y S2 H2 μ2 F2 cls dd R2 X2 r2 h2 => kx y S2 H2 μ2 F2 cls dd R2 (X1.trans X2) r2 h2⟩
end

/-! ### a def of the text -/
def startE (N : List Str) (ds : List D) : Env := ds.map some ++ List.replicate (N.length - ds.length) none
theorem startE_ok {B F : Hp} {μ : Nat → Addr} {n : Nat} {N : List Str} : ∀ {ds : List D} {vs : List V}, RpDs B F μ n ds vs → EnvR B F μ n (startE N ds) (L2.start N vs) := by
  intro ds vs r
  unfold startE L2.start
  rw [r.length]
  generalize N.length - vs.length = j
  have h2 : ∀ j : Nat, EnvR B F μ n (List.replicate j none) (List.replicate j none) := by
    intro j
    induction j with
    | zero => exact .nil
    | succ j ih => exact .cons (fun d hd => by cases hd) ih
  clear N
  induction ds generalizing vs with
  | nil => cases r; exact h2 j
  | cons d ds ih => cases r with | cons a b => exact .cons (fun e he => by cases he; exact ⟨_, rfl, a⟩) (ih b)
def wE (E : XK) : WX := fun cls d _ H => E cls d H
theorem hu_px {A : Around} {k : Nat} (hr : Room k A) : A.units + 100 < cLine := by have := hr.un; omega
theorem fnpx {P : Program} {w : World} {K : PySem.W.Frag} {mg : Str → Option Value} {base : Heap} {x qual : Str} {st : Stmt} {f : Addr} {fd : FuncData} {N ps : List Str} {k : Nat} {sp : Spc} {ws : WS} (F : Fun K x qual st f fd) (S : FnScope N ps (defScope st))
    (hl : ∀ ds S K KX, sp ds S K KX → ds.length = ps.length)
    (hb : ∀ (cdv : Value) (A : Around) (outer : List PySem.Env) (s : Shared) (H : Hp) (E : XK) (B F0 : Hp), Room k (A.deeper (PyProof.Rows.envOfC qual (defScope st) s.heap.objs.size f cdv)) → Takes (cxOf (L2.CX P w) P w K mg base N qual (defScope st) f cdv A outer s H E) (wE E) →
      PassesOwn (model P w) (cxOf (L2.CX P w) P w K mg base N qual (defScope st) f cdv A outer s H E).A (cxOf (L2.CX P w) P w K mg base N qual (defScope st) f cdv A outer s H E).env (cxOf (L2.CX P w) P w K mg base N qual (defScope st) f cdv A outer s H E).xe →
      PXB (cxOf (L2.CX P w) P w K mg base N qual (defScope st) f cdv A outer s H E) B F0 (wE E) (defBody st) ws)
    (hs : ∀ ds S K KX, sp ds S K KX → ws { nx := fun _ S1 => K (.z .none) S1, rt := K, ex := fun y _ S1 => KX y S1 } (startE N ds) S) : FnOk P w K mg base (L2.CX P w) (k + 1) f fd ps (spOf sp) := by
  refine F.okX S (fun vs H Q E h => ?_) (fun cdv A outer s H vs Q E hr h => ?_)
  · obtain ⟨B, F0, w', ds, K', KX, _, r, h, _⟩ := h
    rw [← r.length]
    exact hl _ _ _ _ h
  · obtain ⟨B, F0, w', ds, K', KX, R, r, h, k', kx⟩ := h
    refine ⟨_, hb cdv A outer s H E B F0 hr (takes_of rfl rfl rfl rfl) (passes_of rfl), w', _, _, R, startE_ok r, hs _ _ _ _ h, ⟨fun env S σ H μ F R X _ q => ?_, k', fun _ _ _ _ _ _ _ _ _ q => q.elim, fun _ _ _ _ _ _ _ _ _ q => q.elim, fun y env S σ H μ F cls dd R X _ r q => ?_⟩⟩
    · exact k' _ _ _ _ _ _ R X (.z .non) q
    · exact kx y S H μ F cls dd R X r q

/-! ### what is handed back is frozen -/
mutual
inductive Vz (S : Sto) : D → PyData → Prop
  | z {d : PyData} : Vz S (.z d) d
  | r {n : Nat} {ds : List D} {es : List PyData} : S[n]? = some (.lst ds) → Vzs S ds es → Vz S (.r n) (.list es)
  | t {ds : List D} {es : List PyData} : Vzs S ds es → Vz S (.t ds) (.tuple es)
inductive Vzs (S : Sto) : List D → List PyData → Prop
  | nil : Vzs S [] []
  | cons {d : D} {ds : List D} {e : PyData} {es : List PyData} : Vz S d e → Vzs S ds es → Vzs S (d :: ds) (e :: es)
end
theorem Vzs.zs {S : Sto} : ∀ (ds : List PyData), Vzs S (ds.map .z) ds
  | [] => .nil
  | d :: ds => .cons .z (Vzs.zs ds)
open Classical in
/-- F with all of the store frozen -/
noncomputable def fz (μ : Nat → Addr) (n : Nat) (F H : Hp) : Hp := fun a => match F a with
  | some o => some o
  | none => if ∃ i, i < n ∧ μ i = a then H a else none
section
variable {B F0 F F' H H' : Hp} {μ μ' : Nat → Addr} {S S' : Sto}
theorem fz_sub : Sub F (fz μ S.length F H) := fun a o h => by unfold fz; rw [h]
theorem fz_at {i : Nat} (hi : i < S.length) (hF : F (μ i) = none) : fz μ S.length F H (μ i) = H (μ i) := by
  unfold fz; rw [hF]; exact if_pos ⟨i, hi, rfl⟩
theorem fz_cases {a : Addr} {o : HO} (h : fz μ S.length F H a = some o) : F a = some o ∨ (F a = none ∧ (∃ i, i < S.length ∧ μ i = a) ∧ H a = some o) := by
  unfold fz at h
  split at h
  · rename_i e; cases h; exact .inl e
  · rename_i e
    by_cases c : ∃ i, i < S.length ∧ μ i = a
    · exact .inr ⟨e, c, (if_pos c).symm.trans h⟩
    · rw [if_neg c] at h; cases h
mutual
theorem Vz.rp (R : Rl B F0 μ S F H) : ∀ (e : PyData) (d : D) (v : V), Vz S d e → RpD B F μ S.length d v → RpT (LF (fz μ S.length F H)) (TF (fz μ S.length F H)) e v
  | .none, _, _, w, h => by cases w with | z => cases h with | z a => cases a; exact .non
  | .bool _, _, _, w, h => by cases w with | z => cases h with | z a => cases a; exact .bl _
  | .int _, _, _, w, h => by cases w with | z => cases h with | z a => cases a; exact .int _
  | .str _, _, _, w, h => by cases w with | z => cases h with | z a => cases a; exact .str _
  | .dict _, _, _, w, h => by cases w with | z => cases h with | z a => cases a
  | .list es, _, _, w, h => by
    cases w with
    | z => cases h with | z a => exact RpT.mono (fun _ _ q => fz_sub _ _ q) (fun _ _ q => fz_sub _ _ q) _ _ a
    | r e ws =>
      cases h with
      | r hi =>
        obtain ⟨vs, hv, rv⟩ := R.ob _ _ e
        exact .lst (show fz μ S.length F H _ = _ by rw [fz_at hi (R.nf _ hi)]; exact hv) (Vzs.rp R es _ vs ws rv)
  | .tuple es, _, _, w, h => by
    cases w with
    | z => cases h with | z a => exact RpT.mono (fun _ _ q => fz_sub _ _ q) (fun _ _ q => fz_sub _ _ q) _ _ a
    | t ws => cases h with | t e rv => exact .tup (fz_sub _ _ e) (Vzs.rp R es _ _ ws rv)
theorem Vzs.rp (R : Rl B F0 μ S F H) : ∀ (es : List PyData) (ds : List D) (vs : List V), Vzs S ds es → RpDs B F μ S.length ds vs → RpTs (LF (fz μ S.length F H)) (TF (fz μ S.length F H)) es vs
  | [], _, _, w, h => by cases w; cases h; exact .nil
  | e :: es, _, _, w, h => by
    cases w with | cons a b => cases h with | cons r s => exact .cons (Vz.rp R e _ _ a r) (Vzs.rp R es _ _ b s)
end
/-- back in the caller's state -/
theorem Rl.back (R : Rl B F0 μ S F H) (R' : Rl H F μ' S' F' H') (x : Sub F F') : Rl B F0 μ S (fz μ' S'.length F' H') H' ∧ Xt μ S F μ S (fz μ' S'.length F' H') := by
  have s1 : Sub F (fz μ' S'.length F' H') := x.trans fz_sub
  refine ⟨⟨R.bh.trans R'.bh, fun a o h => ?_, R.f0.trans s1, fun a o h => ?_, R.inj, R.nb, fun i hi => ?_, fun i o h => ?_⟩, ⟨s1, Nat.le_refl _, fun _ _ => rfl⟩⟩
  · rcases fz_cases h with h | ⟨_, _, h⟩
    · exact R'.fh a o h
    · exact h
  · rcases fz_cases h with h | ⟨_, ⟨i, hi, rfl⟩, _⟩
    · rcases R'.fn a o h with q | q
      · exact R.fn a o q
      · exact .inr (R.bh.non q)
    · exact .inr (R.bh.non (R'.nb i hi))
  · obtain ⟨u, hu⟩ := R.has hi
    cases q : fz μ' S'.length F' H' (μ i) with
    | none => rfl
    | some o =>
      rcases fz_cases q with h | ⟨_, ⟨j, hj, e⟩, _⟩
      · rcases R'.fn _ o h with q | q
        · rw [R.nf i hi] at q; cases q
        · rw [hu] at q; cases q
      · have := R'.nb j hj
        rw [e, hu] at this; cases this
  · obtain ⟨u, hu⟩ := R.has (Rl.lt h)
    exact (R.ob i o h).mono s1 (Nat.le_refl _) (fun _ _ => rfl) ((R'.bh _ _ hu).trans hu.symm)
end
/-- an exception's fields frozen -/
def ExV (S : Sto) (x x' : Ex) : Prop := x'.c = x.c ∧ match x.fs, x'.fs with
  | none, none => True
  | some fs, some gs => Paired (fun (p q : Str × D) => p.1 = q.1 ∧ ∃ e, Vz S p.2 e ∧ q.2 = .z e) fs gs
  | _, _ => False
/-- a promise over data alone -/
abbrev Fsp := List PyData → (PyData → Prop) → (Ex → Prop) → Prop
/-- as callers use it -/
def frz (p : Fsp) : Spc := fun ds S K KX => ∃ es, Vws S ds es ∧ p es (fun d => K (.z d) S) fun x => KX x S
/-- as its body keeps it -/
def lent (p : Fsp) : Spc := fun ds S K KX => ∃ es kd kx, ds = es.map bz ∧ S = [] ∧ p es kd kx ∧ (∀ d S' e, Vz S' d e → kd e → K d S') ∧ ∀ x S' x', ExV S' x x' → kx x' → KX x S'
theorem FnOk.frz {P : Program} {w : World} {K : PySem.W.Frag} {mg : Str → Option Value} {base : Heap} {CX : CXT} {k : Nat} {f : Addr} {fd : FuncData} {ps : List Str} {p : Fsp} (h : FnOk P w K mg base CX k f fd ps (spOf (lent p))) : FnOk P w K mg base CX k f fd ps (spOf (PL.frz p)) := by
  refine h.imp fun vs H Q E q => ?_
  obtain ⟨B, F0, w, ds, K, KX, R, r, ⟨es, vw, q⟩, k, kx⟩ := q
  have R0 : Rl H w.F w.μ [] w.F H := ⟨Sub.refl _, R.fh, Sub.refl _, fun a o e => .inl e, fun i j hi => absurd hi (Nat.not_lt_zero _), fun i hi => absurd hi (Nat.not_lt_zero _), fun i hi => absurd hi (Nat.not_lt_zero _), fun i o e => by simp at e⟩
  refine ⟨H, w.F, ⟨w.μ, [], w.F⟩, es.map bz, fun d S' => ∃ e, Vz S' d e ∧ K (.z e) w.S, fun x S' => ∃ x', ExV S' x x' ∧ KX x' w.S, R0, RpDs.bzs (Vws.rp R _ _ _ vw r), ⟨es, _, _, rfl, rfl, q, fun d S' e a b => ⟨e, a, b⟩, fun x S' x' a b => ⟨x', a, b⟩⟩, ?_, ?_⟩
  · rintro d S' v H' μ' F' R' X' r' ⟨e, he, hk⟩
    obtain ⟨R2, X2⟩ := R.back R' X'.f
    exact k _ _ _ _ _ _ R2 X2 (.z (Vz.rp R' e d v he r')) hk
  · rintro x S' H' μ' F' cls dd R' X' r' ⟨x', ⟨hc, hf⟩, hk⟩
    obtain ⟨R2, X2⟩ := R.back R' X'.f
    refine kx x' _ _ _ _ cls dd R2 X2 ⟨by rw [hc]; exact r'.1, ?_⟩ hk
    obtain ⟨_, r2⟩ := r'
    cases h1 : x.fs with
    | none =>
      cases h2 : x'.fs with
      | none => rw [h1] at r2; exact r2
      | some gs => rw [h1, h2] at hf; exact hf.elim
    | some fs =>
      cases h2 : x'.fs with
      | none => rw [h1, h2] at hf; exact hf.elim
      | some gs =>
        rw [h1] at r2
        rw [h1, h2] at hf
        obtain ⟨a, ws, e1, e2, e3⟩ := r2
        refine ⟨a, ws, e1, e2, ?_⟩
        clear e2 h1 h2
        induction hf generalizing ws with
        | nil => cases e3; exact .nil
        | cons q t ih =>
          cases e3 with
          | cons r1 r2 =>
            obtain ⟨n1, e, ve, q2⟩ := q
            refine .cons ⟨n1.symm.trans r1.1, ?_⟩ (ih _ r2)
            rw [q2]
            exact .z (Vz.rp R' e _ _ ve r1.2)
end PL

set_option Elab.async false
set_option linter.all false
set_option maxRecDepth 100000
/-! PL, part 10: short words for derivations: own defs, built-in names, loops -/
namespace PL
open PySem L2

/-- a def of the module, as its callers know it -/
structure Fc (P : Program) (w : World) (K : PySem.W.Frag) (mg : Str → Option Value) (base : Heap) (x : Str) (k : Nat) (ps : List Str) (sp : Spc) : Prop where
  ex : ∃ (f : Addr) (fd : FuncData), FnOk P w K mg base (L2.CX P w) k f fd ps (spOf sp) ∧ mg x = some (.ref f) ∧ PySem.W.keepIn K (.ref f) = true ∧ Binds K fd ps []
theorem Fc.frz {P : Program} {w : World} {K : PySem.W.Frag} {mg : Str → Option Value} {base : Heap} {x : Str} {k : Nat} {ps : List Str} {p : Fsp} (c : Fc P w K mg base x k ps (lent p)) : Fc P w K mg base x k ps (PL.frz p) := by
  obtain ⟨f, fd, h, r⟩ := c.ex
  exact ⟨f, fd, FnOk.frz h, r⟩
section
variable {X : Cx} {B F0 : Hp} {W : WX} {e : Expr} {es : List Expr} {wa : WA} {x : Str} {p pos : Pos} {k : Nat} {ps : List Str} {sp : Spc}
theorem xfc (c : Fc X.prog X.w X.K X.mg X.base x k ps sp) (hr : Room k X.A) (tk : Takes X W) (hg : Gl X x) (ha : PXA X B F0 W (e :: es) wa)
    (hdb : (x == ("__debug__" : Str)) = false := by decide) (he : starEach (e :: es) X.env = (false, eval e X.env) :: starEach es X.env := by rfl) (hpl : (backTo pos (starEach es X.env)).any (·.1) = false := by rfl) : PX X B F0 W (.Call (.Name x p) (e :: es) [] pos) (wFn sp [] wa) := by
  obtain ⟨f, fd, h, hm, hk, hb⟩ := c.ex
  exact xcall h hr hg hm hk hb dft0 tk ha hdb he hpl
def wTy (T : Ty) : WE := fun _ S K _ => K (.y T) S
theorem xty {T : Ty} (hg : Gl X x) (hm : X.mg x = none) (hv : bootBuiltins x = some (.type T.s)) (hn : x ≠ "__name__" := by decide) (hd : (x == ("__debug__" : Str)) = false := by decide) : PX X B F0 W (.Name x pos) (wTy T) :=
  wkE (pe_bltn (v := .ty T.s) hg hm hv rfl hn hd) fun σ H Q h => by
    obtain ⟨w, env, K, KX, R, E, h, k, _⟩ := h
    exact k _ w.S _ H w.μ w.F R .refl .y h
end
theorem bb_len : bootBuiltins "len" = some (.builtin "len") := by decide +kernel
theorem bb_isinstance : bootBuiltins "isinstance" = some (.builtin "isinstance") := by decide +kernel
theorem bb_all : bootBuiltins "all" = some (.builtin "all") := by decide +kernel
theorem bb_any : bootBuiltins "any" = some (.builtin "any") := by decide +kernel
theorem bb_sum : bootBuiltins "sum" = some (.builtin "sum") := by decide +kernel
theorem bb_max : bootBuiltins "max" = some (.builtin "max") := by decide +kernel
theorem bb_min : bootBuiltins "min" = some (.builtin "min") := by decide +kernel
theorem bb_sorted : bootBuiltins "sorted" = some (.builtin "sorted") := by decide +kernel
theorem bb_list : bootBuiltins "list" = some (.type "list") := by decide +kernel
theorem bb_tuple : bootBuiltins "tuple" = some (.type "tuple") := by decide +kernel
theorem bb_int : bootBuiltins "int" = some (.type "int") := by decide +kernel
theorem bb_str : bootBuiltins "str" = some (.type "str") := by decide +kernel
theorem bb_bool : bootBuiltins "bool" = some (.type "bool") := by decide +kernel
theorem bb_set : bootBuiltins "set" = some (.type "set") := by decide +kernel
theorem bb_dict : bootBuiltins "dict" = some (.type "dict") := by decide +kernel
/-! {} -/
def wDic : WE := fun _ S K _ => K (.r S.length) (S ++ [.dic []])
section
variable {X : Cx} {B F0 : Hp} {W : WX} {pos : Pos}
theorem xdic : PX X B F0 W (.Dict [] [] pos) wDic := wkE pe_dnewK fun σ H Q h p hp => by
  obtain ⟨w, env, K, KX, R, E, h, k, _⟩ := h
  obtain ⟨R2, X2⟩ := R.grow (u := .dK []) (o := .dic []) hp fun G hG => ⟨[], hG, .nil⟩
  have e : muX w.μ w.S.length p w.S.length = p := by unfold muX; rw [if_pos rfl]
  have q : RpD B w.F (muX w.μ w.S.length p) (w.S ++ [Ob.dic []]).length (.r w.S.length) (.ref (muX w.μ w.S.length p w.S.length)) := .r (by simp)
  rw [e] at q
  exact k _ _ _ _ _ _ R2 X2 q h
end
/-! the law: its script -/
def noLs (K : PySem.W.Frag) : Bool := K.all fun p => match p.2.cls with
  | .type n => n != "list"
  | _ => true
theorem lk_mem {β : Type} {a : Nat} {b : β} : ∀ {l : List (Nat × β)}, l.lookup a = some b → (a, b) ∈ l
  | [], h => by simp at h
  | (k, v) :: l, h => by
    by_cases e : a = k
    · subst e; simp at h; subst h; exact List.mem_cons_self
    · have : (a == k) = false := beq_eq_false_iff_ne.mpr e
      simp only [List.lookup_cons, this] at h
      exact List.mem_cons_of_mem _ (lk_mem h)
theorem noLs_ok {K : PySem.W.Frag} (h : noLs K = true) {a : Addr} {o : Obj} (e : K.lookup a = some o) : o.cls ≠ .type "list" := by
  unfold noLs at h
  have hm : (a, o) ∈ K := lk_mem e
  have q := List.all_eq_true.mp h _ hm
  intro z
  simp only [z] at q
  exact absurd q (by decide)
/-- the law is told True at every script -/
def lawSp : Spc := fun ds S K _ => ∃ ns : List Int, ds = [.b (.list (ns.map .int))] ∧ S = [] ∧ ns.length ≤ 63 ∧ ∀ S', K (.z (.bool true)) S'
def spLawP (K : PySem.W.Frag) : Sp := fun vs H Q _ => ∃ (a : Addr) (ns : List Int), vs = [.ref a] ∧ SqL K H a (ns.map V.int) ∧ ns.length ≤ 63 ∧ ∀ H', Q (.bl true) H'
theorem law_imp {P : Program} {w : World} {K : PySem.W.Frag} {mg : Str → Option Value} {base : Heap} {CX : CXT} {k : Nat} {f : Addr} {fd : FuncData} {ps : List Str} (hK : noLs K = true) (h : FnOk P w K mg base CX k f fd ps (spOf lawSp)) : FnOk P w K mg base CX k f fd ps (spLawP K) := by
  refine h.imp fun vs H Q E q => ?_
  obtain ⟨a, ns, rfl, hs, hl, q⟩ := q
  have hr : Rd H a (.lst (ns.map V.int)) := by
    rcases hs with hs | ⟨o, its, n, e, hc, _⟩
    · exact hs
    · exact absurd hc (noLs_ok hK e)
  have R0 : Rl H (fun _ => none) (fun i => i) [] (fun _ => none) H := ⟨Sub.refl _, fun a o e => (by cases e), Sub.refl _, fun a o e => (by cases e), fun i j hi => absurd hi (Nat.not_lt_zero _), fun i hi => absurd hi (Nat.not_lt_zero _), fun i hi => absurd hi (Nat.not_lt_zero _), fun i o e => (by simp at e)⟩
  have allI : ∀ ns : List Int, RpTs (LB H fun _ => none) (TF fun _ => none) (ns.map .int) (ns.map V.int) := fun ns => by
    induction ns with
    | nil => exact .nil
    | cons n ns ih => exact .cons (.int n) ih
  refine ⟨H, _, ⟨fun i => i, [], fun _ => none⟩, _, fun d _ => d = .z (.bool true), fun _ _ => False, R0, .cons (.b (.lst (.inr hr) (allI ns))) .nil, ⟨ns, rfl, rfl, hl, fun _ => rfl⟩, fun d S v H' μ F R X r e => ?_, fun _ _ _ _ _ _ _ _ _ _ h => h.elim⟩
  subst e
  cases r with | z q1 => cases q1; exact q _
/-! -n; a module's own constants -/
def pNeg : P1 := fun x S K => match x with
  | .z (.int i) => K (.z (.int (-i))) S
  | _ => False
section
variable {X : Cx} {B F0 : Hp} {W : WX} {a : Expr} {wa : WE} {pos : Pos} {p : P1} {x : Str}
theorem xun {op : UnaryOp} (ho : UnR X (unaryOp op) (r1 B F0 p)) (ha : PX X B F0 W a wa) : PX X B F0 W (.UnaryOp op a pos) (w1 p wa) := wkE (pe_un ho ha) fun σ H Q h => by
  obtain ⟨w, env, K, KX, R, E, h, k, kx⟩ := h
  exact ⟨w, env, _, KX, R, E, h, fun d S1 v H1 μ1 F1 R1 X1 q1 h1 => ⟨⟨μ1, S1, F1⟩, d, K, R1, q1, h1, k.xt X1⟩, kx⟩
theorem oNeg : UnR X (unaryOp .USub) (r1 B F0 pNeg) := by
  intro pins s σ H v u Q I rx h
  obtain ⟨w, d, K, R, q, h, k⟩ := h
  unfold pNeg at h
  split at h
  · rw [rpInt q] at rx
    exact un_neg pins s σ H _ u Q I rx ⟨_, rfl, k.int R h⟩
  · exact h.elim
theorem xgS {z : Str} (hg : Gl X x) (h : ∃ t, X.mg x = some (.str z t)) (hdb : (x == ("__debug__" : Str)) = false := by decide) : PX X B F0 W (.Name x pos) (wC (.str z)) := by
  obtain ⟨t, e⟩ := h
  exact xglob (v := .str z) hg e ⟨t, rfl⟩ (fun _ _ => .str z) hdb
theorem xgI {z : Int} (hg : Gl X x) (h : ∃ t, X.mg x = some (.int z t)) (hdb : (x == ("__debug__" : Str)) = false := by decide) : PX X B F0 W (.Name x pos) (wC (.int z)) := by
  obtain ⟨t, e⟩ := h
  exact xglob (v := .int z) hg e ⟨t, rfl⟩ (fun _ _ => .int z) hdb
end
end PL

set_option Elab.async false
set_option linter.all false
set_option maxRecDepth 100000
/-! PL, part 11: promises over typed data; loops and comprehensions in plain Lean; lemmas about data -/
namespace PL
open PySem L2

/-- typed arguments, a precondition, the answer -/
def fsp {α : Type} (enc : α → List PyData) (pre : α → Prop) (out : α → PyData) : Fsp := fun es k _ => ∃ a, es = enc a ∧ pre a ∧ k (out a)
theorem fsp_len {α : Type} {enc : α → List PyData} {pre : α → Prop} {out : α → PyData} {n : Nat} (h : ∀ a, (enc a).length = n) : ∀ ds S K KX, lent (fsp enc pre out) ds S K KX → ds.length = n := by
  rintro ds S K KX ⟨es, kd, kx, rfl, rfl, ⟨a, rfl, _, _⟩, _⟩
  rw [List.length_map]; exact h a
abbrev ends (K : K1) (KX : KF) : KS := { nx := fun _ S1 => K (.z .none) S1, rt := K, ex := fun y _ S1 => KX y S1 }
theorem fsp_ok {α : Type} {enc : α → List PyData} {pre : α → Prop} {out : α → PyData} {ws : WS} {N : List Str} (h : ∀ a, pre a → ∀ K KX, (∀ d S', Vz S' d (out a) → K d S') → ws (ends K KX) (startE N ((enc a).map bz)) []) :
    ∀ ds S K KX, lent (fsp enc pre out) ds S K KX → ws { nx := fun _ S1 => K (.z .none) S1, rt := K, ex := fun y _ S1 => KX y S1 } (startE N ds) S := by
  rintro ds S K KX ⟨es, kd, kx, rfl, rfl, ⟨a, rfl, hp, hk⟩, hK, _⟩
  exact h a hp K KX fun d S' v => hK d S' _ v hk
/-- a call of such a def -/
theorem fsp_call {α : Type} {enc : α → List PyData} {pre : α → Prop} {out : α → PyData} {ds : List D} {S : Sto} {K : K1} {KX : KF} (a : α) (v : Vws S ds (enc a)) (hp : pre a) (h : K (.z (out a)) S) : pCall (frz (fsp enc pre out)) ds S K KX := pCall.mk ⟨_, v, a, rfl, hp, h⟩
/-- .. of one that may raise -/
def fspX {α : Type} (enc : α → List PyData) (pre : α → Prop) (out : α → Except Ex PyData) : Fsp := fun es k kx => ∃ a, es = enc a ∧ pre a ∧ match out a with
  | .ok d => k d
  | .error x => kx x

theorem sz_le {n : Nat} (h : Nat.ble n 1000 = true) : n ≤ sizeLine := Nat.le_trans (Nat.le_of_ble_eq_true h) (by decide)
theorem sz_lt {n : Nat} (h : Nat.ble n 1000 = true) : n < sizeLine := Nat.lt_of_le_of_lt (Nat.le_of_ble_eq_true h) (by decide)
theorem sz_le6 {n : Nat} (h : n ≤ 1000000) : n ≤ sizeLine := Nat.le_trans h (by decide)
theorem sz_lt6 {n : Nat} (h : n ≤ 1000000) : n < sizeLine := Nat.lt_of_le_of_lt h (by decide)
/-! ### places -/
theorem atD_in {α : Type} {xs : List α} {i : Int} (h0 : 0 ≤ i) (h1 : i < xs.length) : atD xs i = some (xs[i.toNat]'(by omega)) := by
  obtain ⟨j, rfl⟩ : ∃ j : Nat, i = (j : Int) := ⟨i.toNat, by omega⟩
  show xs[j]? = _
  have hj : j < xs.length := by omega
  rw [List.getElem?_eq_getElem hj]
  rfl
theorem atD_nat {α : Type} {xs : List α} {j : Nat} {x : α} (h : xs[j]? = some x) : atD xs (j : Int) = some x := h
theorem atD_map {α β : Type} (f : α → β) (xs : List α) (i : Int) : atD (xs.map f) i = (atD xs i).map f := by
  cases i with
  | ofNat k => show (xs.map f)[k]? = (xs[k]?).map f; rw [List.getElem?_map]
  | negSucc k =>
    rw [atD_neg, atD_neg, List.length_map]
    split
    · rw [List.getElem?_map]
    · rfl
theorem ixD_bL {α : Type} {S : Sto} {f : α → PyData} {xs : List α} {i : Int} {x : α} (h : atD xs i = some x) : ixD S (.b (.list (xs.map f))) i = some (bz (f x)) := by
  show (atD (xs.map f) i).map bz = _
  rw [atD_map, h]; rfl
theorem ixD_zL {α : Type} {S : Sto} {f : α → PyData} {xs : List α} {i : Int} {x : α} (h : atD xs i = some x) : ixD S (.z (.list (xs.map f))) i = some (.z (f x)) := by
  show (atD (xs.map f) i).map D.z = _
  rw [atD_map, h]; rfl
theorem bz_flat {d : PyData} (h : flatT d = true) : bz d = .z d := by unfold bz; rw [if_pos h]
theorem bz_list {ds : List PyData} : bz (.list ds) = .b (.list ds) := by unfold bz; rw [if_neg (by simp [flatT])]

/-! ### comprehensions whose element and test are plain: f of the item, where t holds -/
theorem pLc_map {α : Type} {src : Src} {tg : D → Env → Option Env} {wt : WT} {we : WE} {env : Env} {fin : Sto → Prop} {S : Sto} {xs : List α} (it f : α → D) (t : α → Bool) (hz : xs.length < 1000000) (hok : ∀ acc, src.ok (S ++ [.lst acc]))
    (ht : ∀ x ∈ xs, ∃ env2, tg (it x) env = some env2 ∧ (∀ (S1 : Sto) (K : Bool → Sto → Prop), (∃ acc, S1 = S ++ [.lst acc]) → K (t x) S1 → wt env2 S1 K X0) ∧ (t x = true → ∀ (S1 : Sto) (K : K1), (∃ acc, S1 = S ++ [.lst acc]) → K (f x) S1 → we env2 S1 K X0))
    (hf : fin (S ++ [.lst ((xs.filter t).map f)])) : pLc src tg wt we S.length env fin (xs.map it) (S ++ [.lst []]) := by
  have go : ∀ (done rest : List α), xs = done ++ rest → pLc src tg wt we S.length env fin (rest.map it) (S ++ [.lst ((done.filter t).map f)]) := by
    intro done rest
    induction rest generalizing done with
    | nil =>
      intro e
      rw [List.append_nil] at e
      subst e
      rw [List.map_nil, pLc.nil]
      exact ⟨hok _, hf⟩
    | cons d ds ih =>
      intro e
      rw [List.map_cons, pLc.cons]
      have hm : d ∈ xs := by rw [e]; simp
      obtain ⟨env2, h1, h2, h3⟩ := ht d hm
      refine ⟨hok _, pGet.mk h1 (h2 _ _ ⟨_, rfl⟩ (pIf.mk (fun c => ?_) fun c => ?_))⟩
      · refine h3 c _ _ ⟨_, rfl⟩ (pGet.mk (x := (done.filter t).map f) ?_ (pReq.mk ?_ ?_))
        · unfold lsR; simp
        · have h4 := List.length_filter_le t done
          have h5 : xs.length = done.length + (ds.length + 1) := by rw [e]; simp
          have h6 : ((done.filter t).map f).length < 1000000 := by rw [List.length_map]; omega
          exact Nat.lt_of_lt_of_le h6 (by rw [sizeLine_eq]; decide)
        · have ih2 := ih (done ++ [d]) (by rw [e]; simp)
          have es : (S ++ [Ob.lst ((done.filter t).map f)]).set S.length (.lst ((done.filter t).map f ++ [f d])) = S ++ [.lst (((done ++ [d]).filter t).map f)] := by
            simp [List.filter_append, c]
          rw [es]; exact ih2
      · have ih2 := ih (done ++ [d]) (by rw [e]; simp)
        have es : (done ++ [d]).filter t = done.filter t := by simp [List.filter_append, c]
        rw [es] at ih2
        exact ih2
  exact go [] xs rfl
/-- without a test -/
theorem pLc_all {α : Type} {src : Src} {tg : D → Env → Option Env} {we : WE} {env : Env} {fin : Sto → Prop} {S : Sto} {xs : List α} (it f : α → D) (hz : xs.length < 1000000) (hok : ∀ acc, src.ok (S ++ [.lst acc]))
    (he : ∀ x ∈ xs, ∃ env2, tg (it x) env = some env2 ∧ ∀ (S1 : Sto) (K : K1), (∃ acc, S1 = S ++ [.lst acc]) → K (f x) S1 → we env2 S1 K X0)
    (hf : fin (S ++ [.lst (xs.map f)])) : pLc src tg wYes we S.length env fin (xs.map it) (S ++ [.lst []]) := by
  refine pLc_map it f (fun _ => true) hz hok (fun d hd => ?_) (by rw [List.filter_eq_self.mpr fun _ _ => rfl]; exact hf)
  obtain ⟨env2, h1, h2⟩ := he d hd
  exact ⟨env2, h1, fun S1 K _ h => h, fun _ => h2⟩
/-- over a range -/
theorem pLc_rg {lo : Int} {n : Nat} {tg : D → Env → Option Env} {we : WE} {env : Env} {fin : Sto → Prop} {S : Sto} (f : Nat → D) (hz : n < 1000000)
    (he : ∀ i, i < n → ∃ env2, tg (.z (.int (lo + (i : Int)))) env = some env2 ∧ ∀ (S1 : Sto) (K : K1), (∃ acc, S1 = S ++ [.lst acc]) → K (f i) S1 → we env2 S1 K X0)
    (hf : fin (S ++ [.lst ((List.range n).map f)])) : pLc (rgD lo n) tg wYes we S.length env fin (rgD lo n).items (S ++ [.lst []]) :=
  pLc_all (xs := List.range n) (fun i => .z (.int (lo + (i : Int)))) f (by rw [List.length_range]; exact hz) (fun _ => trivial) (fun i hi => he i (List.mem_range.mp hi)) hf
/-! ### loops by an invariant over the turn -/
theorem pFor_each {src : Src} {g : WG} {body : WS} {k : KS} {items : List D} {env : Env} {S : Sto} (I : Nat → Env → Sto → Prop) (h0 : I 0 env S) (hok : ∀ i env S, i ≤ items.length → I i env S → src.ok S)
    (hs : ∀ i d env S (Q : Env → Sto → Prop), items[i]? = some d → I i env S → (∀ env' S', I (i + 1) env' S' → Q env' S') → g d env S fun env1 S1 => body { k with nx := Q, ct := Q, bk := k.nx } env1 S1)
    (hd : ∀ env S, I items.length env S → k.nx env S) : pFor src g body k items env S := by
  have go : ∀ (rest : List D) (i : Nat) env S, items.drop i = rest → i ≤ items.length → I i env S → pFor src g body k rest env S := by
    intro rest
    induction rest with
    | nil =>
      intro i env S e hi h
      rw [pFor.nil]
      have : i = items.length := by
        have := congrArg List.length e
        rw [List.length_drop] at this
        simp at this
        omega
      subst this
      exact ⟨hok _ _ _ (Nat.le_refl _) h, hd _ _ h⟩
    | cons d ds ih =>
      intro i env S e hi h
      rw [pFor.cons]
      have hlt : i < items.length := by
        have := congrArg List.length e
        rw [List.length_drop] at this
        simp at this
        omega
      have hget : items[i]? = some d := by
        have := congrArg (fun l => l[0]?) e
        simpa using this
      exact ⟨hok _ _ _ hi h, hs i d env S _ hget h fun env' S' h' => ih (i + 1) env' S' (by rw [← List.drop_drop, e]; rfl) hlt h'⟩
  exact go _ 0 env S rfl (Nat.zero_le _) h0
theorem pFor_range {lo : Int} {n : Nat} {g : WG} {body : WS} {k : KS} {env : Env} {S : Sto} (I : Nat → Env → Sto → Prop) (h0 : I 0 env S)
    (hs : ∀ (i : Nat) env S (Q : Env → Sto → Prop), i < n → I i env S → (∀ env' S', I (i + 1) env' S' → Q env' S') → g (.z (.int (lo + (i : Int)))) env S fun env1 S1 => body { k with nx := Q, ct := Q, bk := k.nx } env1 S1)
    (hd : ∀ env S, I n env S → k.nx env S) : pFor (rgD lo n) g body k (rgD lo n).items env S := by
  have hl : (rgD lo n).items.length = n := by simp [rgD]
  refine pFor_each I h0 (fun _ _ _ _ _ => trivial) (fun i d env S Q hi h hQ => ?_) (fun env S h => hd env S (by rw [hl] at h; exact h))
  have hlt : i < n := by
    have := (List.getElem?_eq_some_iff.mp hi).1
    rw [hl] at this; exact this
  have : d = .z (.int (lo + (i : Int))) := by
    have e : (rgD lo n).items[i]? = some (.z (.int (lo + (i : Int)))) := by
      show ((List.range n).map _)[i]? = _
      rw [List.getElem?_map, List.getElem?_range hlt]; rfl
    exact Option.some.inj (hi.symm.trans e)
  subst this
  exact hs i env S Q hlt h hQ
theorem pWhile_by {t : WT} {body : WS} {k : KS} {env : Env} {S : Sto} (P : Nat → Env → Sto → Prop) (m : Nat) (h0 : P m env S)
    (hs : ∀ m env S (Q : Env → Sto → Prop), P m env S → (∀ m' env' S', m' < m → P m' env' S' → Q env' S') → t env S (fun b S1 => pIf b (body { k with nx := Q, ct := Q, bk := k.nx } env S1) (k.nx env S1)) k.ex) : pWhile t body k env S := by
  exact ⟨⟨P, ⟨m, h0⟩, fun m env S h => hs m env S _ h fun m' env' S' hm h' => ⟨m', hm, h'⟩⟩⟩
/-! ### what lies further down the store -/
theorem sto_last {S : Sto} {o : Ob} : (S ++ [o])[S.length]? = some o := by simp
theorem sto_app {S T : Sto} {n : Nat} {o : Ob} (h : S[n]? = some o) : (S ++ T)[n]? = some o := by
  rw [List.getElem?_append_left (List.getElem?_eq_some_iff.mp h).1]; exact h
theorem lsD_at {S : Sto} {n : Nat} {ds : List D} (h : S[n]? = some (.lst ds)) : lsD S (.r n) = some ds := by
  show (match S[n]? with | some (.lst ds) => some ds | _ => none) = some ds
  rw [h]
theorem lsR_at {S : Sto} {n : Nat} {ds : List D} (h : S[n]? = some (.lst ds)) : lsR S n = some ds := by unfold lsR; rw [h]
theorem lenD_at {S : Sto} {n : Nat} {ds : List D} (h : S[n]? = some (.lst ds)) : lenD S (.r n) = some ds.length := by
  show (match S[n]? with | some (.lst ds) => some ds.length | some (.dic kvs) => some kvs.length | _ => none) = some ds.length
  rw [h]
theorem allZ_map {α : Type} (f : α → PyData) : ∀ xs : List α, allZ (xs.map fun x => .z (f x)) = some (xs.map f)
  | [] => rfl
  | x :: xs => by simp [allZ, allZ_map f xs]
theorem mkT_map {α : Type} (f : α → PyData) (xs : List α) : mkT (xs.map fun x => .z (f x)) = .z (.tuple (xs.map f)) := by unfold mkT; rw [allZ_map]
theorem Vzs.map {S : Sto} {α : Type} (f : α → PyData) : ∀ xs : List α, Vzs S (xs.map fun x => .z (f x)) (xs.map f)
  | [] => .nil
  | x :: xs => .cons .z (Vzs.map f xs)
theorem Vws.map {S : Sto} {α : Type} (f : α → PyData) : ∀ xs : List α, Vws S (xs.map fun x => .z (f x)) (xs.map f)
  | [] => .nil
  | x :: xs => .cons .z (Vws.map f xs)
theorem lst_eq {a b : List D} {gs : Sto} (h : a = b) : Ob.lst a :: gs = Ob.lst b :: gs := by rw [h]
theorem range_snoc {α : Type} (f : Nat → α) (n : Nat) : (List.range (n + 1)).map f = (List.range n).map f ++ [f n] := by rw [List.range_succ, List.map_append]; rfl
theorem set0_app {A B : Ob} {gs T : Sto} : List.set (A :: gs ++ T) 0 B = B :: (gs ++ T) := rfl
theorem set0 {A B : Ob} {gs : Sto} : List.set (A :: gs) 0 B = B :: gs := rfl
end PL

set_option Elab.async false
set_option linter.all false
set_option maxRecDepth 100000
/-! PL, part 12: the shape of data; equality of data -/
namespace PL
open PySem L2

/-- texts of real signs, at most n deep -/
def Shp (n : Nat) (d : PyData) : Prop := d.canLay0 = true ∧ d.depth ≤ n
theorem Shp.ok {n : Nat} {d : PyData} (h : Shp n d) (hn : n ≤ 64 := by decide) : SeqAt.shaped d = true := by
  unfold SeqAt.shaped
  rw [h.1, decide_eq_true (Nat.le_trans h.2 hn)]; rfl
theorem Shp.refl {n : Nat} {d : PyData} (h : Shp n d) : PyData.eqv d d = true := SeqAt.eqv_refl d h.1
theorem Shp.mono {n m : Nat} {d : PyData} (h : Shp n d) (hm : n ≤ m) : Shp m d := ⟨h.1, Nat.le_trans h.2 hm⟩
theorem Shp.int {n : Nat} {i : Int} : Shp n (.int i) := ⟨by simp [PyData.canLay0], by simp [PyData.depth]⟩
theorem Shp.bool {n : Nat} {i : Bool} : Shp n (.bool i) := ⟨by simp [PyData.canLay0], by simp [PyData.depth]⟩
theorem Shp.none {n : Nat} : Shp n .none := ⟨by simp [PyData.canLay0], by simp [PyData.depth]⟩
theorem Shp.str {n : Nat} {x : Str} (h : PyData.strOk x = true) : Shp n (.str x) := ⟨by simpa [PyData.canLay0] using h, by simp [PyData.depth]⟩
theorem shpAll {n : Nat} : ∀ {ds : List PyData}, (∀ d ∈ ds, Shp n d) → PyData.canLayAll0 ds = true ∧ PyData.depthAll ds ≤ n
  | [], _ => ⟨by simp [PyData.canLayAll0], by simp [PyData.depthAll]⟩
  | d :: ds, h => by
    obtain ⟨h1, h2⟩ := shpAll fun e he => h e (List.mem_cons_of_mem _ he)
    have h3 := h d List.mem_cons_self
    refine ⟨by simp [PyData.canLayAll0, h1, h3.1], ?_⟩
    simp only [PyData.depthAll]
    exact Nat.max_le.mpr ⟨h3.2, h2⟩
theorem Shp.list {n : Nat} {ds : List PyData} (h : ∀ d ∈ ds, Shp n d) : Shp (n + 1) (.list ds) := by
  obtain ⟨h1, h2⟩ := shpAll h
  refine ⟨by simpa [PyData.canLay0] using h1, ?_⟩
  simp only [PyData.depth]; omega
theorem Shp.tuple {n : Nat} {ds : List PyData} (h : ∀ d ∈ ds, Shp n d) : Shp (n + 1) (.tuple ds) := by
  obtain ⟨h1, h2⟩ := shpAll h
  refine ⟨by simpa [PyData.canLay0] using h1, ?_⟩
  simp only [PyData.depth]; omega
theorem Shp.lists {α : Type} {n : Nat} {f : α → PyData} {xs : List α} (h : ∀ x ∈ xs, Shp n (f x)) : Shp (n + 1) (.list (xs.map f)) := .list fun d hd => by
  obtain ⟨x, hx, rfl⟩ := List.mem_map.mp hd
  exact h x hx
theorem Shp.tup2 {n : Nat} {a b : PyData} (h1 : Shp n a) (h2 : Shp n b) : Shp (n + 1) (.tuple [a, b]) := .tuple fun d hd => by
  simp only [List.mem_cons, List.not_mem_nil, or_false] at hd
  rcases hd with rfl | rfl <;> assumption
theorem Shp.tup3 {n : Nat} {a b c : PyData} (h1 : Shp n a) (h2 : Shp n b) (h3 : Shp n c) : Shp (n + 1) (.tuple [a, b, c]) := .tuple fun d hd => by
  simp only [List.mem_cons, List.not_mem_nil, or_false] at hd
  rcases hd with rfl | rfl | rfl <;> assumption
theorem Shp.tup4 {n : Nat} {a b c e : PyData} (h1 : Shp n a) (h2 : Shp n b) (h3 : Shp n c) (h4 : Shp n e) : Shp (n + 1) (.tuple [a, b, c, e]) := .tuple fun d hd => by
  simp only [List.mem_cons, List.not_mem_nil, or_false] at hd
  rcases hd with rfl | rfl | rfl | rfl <;> assumption
/-- two things seen as one datum are equal -/
theorem eq_same {n : Nat} {S : Sto} {x y : D} {d : PyData} {k : Bool → Prop} (h1 : Vw S x d) (h2 : Vw S y d) (hs : Shp n d) (hn : n ≤ 64) (hk : k true) : bEqG x y S k := by
  exact ⟨⟨d, d, h1, h2, hs.ok hn, hs.ok hn, by rw [hs.refl]; exact hk⟩⟩
/-- by a decided equality -/
theorem eq_dec {n : Nat} {S : Sto} {x y : D} {d e : PyData} {k : Bool → Prop} {b : Bool} (h1 : Vw S x d) (h2 : Vw S y e) (hs : Shp n d) (ht : Shp n e) (hn : n ≤ 64) (hb : PyData.eqv d e = b) (hk : k b) : bEqG x y S k := by
  exact ⟨⟨d, e, h1, h2, hs.ok hn, ht.ok hn, by rw [hb]; exact hk⟩⟩
end PL

set_option Elab.async false
set_option linter.all false
set_option maxRecDepth 100000
/-! PL, part 13: answers with fresh lists in them, which the caller may write -/
namespace PL
open PySem L2

/-- an answer: frozen data, a fresh list, a tuple -/
inductive RT where
  | z (d : PyData)
  | l (rs : List RT)
  | t (rs : List RT)
mutual
/-- as the caller's store takes it in, from the place n on -/
def al : RT → Nat → D × Sto
  | .z d, _ => (.z d, [])
  | .l rs, n => (.r (n + (als rs n).2.length), (als rs n).2 ++ [.lst (als rs n).1])
  | .t rs, n => (.t (als rs n).1, (als rs n).2)
def als : List RT → Nat → List D × Sto
  | [], _ => ([], [])
  | r :: rs, n => ((al r n).1 :: (als rs (n + (al r n).2.length)).1, (al r n).2 ++ (als rs (n + (al r n).2.length)).2)
end
theorem als_zs (n : Nat) : ∀ es : List PyData, als (es.map .z) n = (es.map .z, [])
  | [] => by simp [als]
  | e :: es => by simp [als, al, als_zs n es]
mutual
/-- frozen data that reads no place of U -/
inductive Vu (S : Sto) (U : List Nat) : D → PyData → Prop
  | z {d : PyData} : Vu S U (.z d) d
  | r {n : Nat} {ds : List D} {es : List PyData} : n ∉ U → S[n]? = some (.lst ds) → Vus S U ds es → Vu S U (.r n) (.list es)
  | t {ds : List D} {es : List PyData} : Vus S U ds es → Vu S U (.t ds) (.tuple es)
inductive Vus (S : Sto) (U : List Nat) : List D → List PyData → Prop
  | nil : Vus S U [] []
  | cons {d : D} {ds : List D} {e : PyData} {es : List PyData} : Vu S U d e → Vus S U ds es → Vus S U (d :: ds) (e :: es)
end
mutual
/-- an answer seen in a store; the places of its fresh lists -/
inductive VR (S : Sto) (U : List Nat) : D → RT → List Nat → Prop
  | z {d : D} {e : PyData} : Vu S U d e → VR S U d (.z e) []
  | l {n : Nat} {ds : List D} {rs : List RT} {ns : List Nat} : S[n]? = some (.lst ds) → VRs S U ds rs ns → VR S U (.r n) (.l rs) (ns ++ [n])
  | t {ds : List D} {rs : List RT} {ns : List Nat} : VRs S U ds rs ns → VR S U (.t ds) (.t rs) ns
inductive VRs (S : Sto) (U : List Nat) : List D → List RT → List Nat → Prop
  | nil : VRs S U [] [] []
  | cons {d : D} {ds : List D} {r : RT} {rs : List RT} {ns ms : List Nat} : VR S U d r ns → VRs S U ds rs ms → VRs S U (d :: ds) (r :: rs) (ns ++ ms)
end
theorem VRs.zs {S : Sto} {U : List Nat} {α : Type} (f : α → PyData) : ∀ xs : List α, VRs S U (xs.map fun x => .z (f x)) (xs.map fun x => .z (f x)) []
  | [] => .nil
  | x :: xs => .cons (ns := []) (.z .z) (VRs.zs f xs)
open Classical in
noncomputable def fu (μ : Nat → Addr) (n : Nat) (U : List Nat) (F H : Hp) : Hp := fun a => match F a with
  | some o => some o
  | none => if ∃ i, i < n ∧ i ∉ U ∧ μ i = a then H a else none
section
variable {B F0 F F' H H' : Hp} {μ μ' μ2 : Nat → Addr} {S S' : Sto} {U : List Nat}
theorem fu_sub : Sub F (fu μ S.length U F H) := fun a o h => by unfold fu; rw [h]
theorem fu_at {i : Nat} (hi : i < S.length) (hu : i ∉ U) (hF : F (μ i) = none) : fu μ S.length U F H (μ i) = H (μ i) := by
  unfold fu; rw [hF]; exact if_pos ⟨i, hi, hu, rfl⟩
theorem fu_cases {a : Addr} {o : HO} (h : fu μ S.length U F H a = some o) : F a = some o ∨ (F a = none ∧ (∃ i, i < S.length ∧ i ∉ U ∧ μ i = a) ∧ H a = some o) := by
  unfold fu at h
  split at h
  · rename_i e; cases h; exact .inl e
  · rename_i e
    by_cases c : ∃ i, i < S.length ∧ i ∉ U ∧ μ i = a
    · exact .inr ⟨e, c, (if_pos c).symm.trans h⟩
    · rw [if_neg c] at h; cases h
mutual
theorem Vu.rp (R : Rl B F0 μ S F H) : ∀ (e : PyData) (d : D) (v : V), Vu S U d e → RpD B F μ S.length d v → RpT (LF (fu μ S.length U F H)) (TF (fu μ S.length U F H)) e v
  | .none, _, _, w, h => by cases w with | z => cases h with | z a => cases a; exact .non
  | .bool _, _, _, w, h => by cases w with | z => cases h with | z a => cases a; exact .bl _
  | .int _, _, _, w, h => by cases w with | z => cases h with | z a => cases a; exact .int _
  | .str _, _, _, w, h => by cases w with | z => cases h with | z a => cases a; exact .str _
  | .dict _, _, _, w, h => by cases w with | z => cases h with | z a => cases a
  | .list es, _, _, w, h => by
    cases w with
    | z => cases h with | z a => exact RpT.mono (fun _ _ q => fu_sub _ _ q) (fun _ _ q => fu_sub _ _ q) _ _ a
    | r nu e ws =>
      cases h with
      | r hi =>
        obtain ⟨vs, hv, rv⟩ := R.ob _ _ e
        exact .lst (show fu μ S.length U F H _ = _ by rw [fu_at hi nu (R.nf _ hi)]; exact hv) (Vus.rp R es _ vs ws rv)
  | .tuple es, _, _, w, h => by
    cases w with
    | z => cases h with | z a => exact RpT.mono (fun _ _ q => fu_sub _ _ q) (fun _ _ q => fu_sub _ _ q) _ _ a
    | t ws => cases h with | t e rv => exact .tup (fu_sub _ _ e) (Vus.rp R es _ _ ws rv)
theorem Vus.rp (R : Rl B F0 μ S F H) : ∀ (es : List PyData) (ds : List D) (vs : List V), Vus S U ds es → RpDs B F μ S.length ds vs → RpTs (LF (fu μ S.length U F H)) (TF (fu μ S.length U F H)) es vs
  | [], _, _, w, h => by cases w; cases h; exact .nil
  | e :: es, _, _, w, h => by
    cases w with | cons a b => cases h with | cons r s => exact .cons (Vu.rp R e _ _ a r) (Vus.rp R es _ _ b s)
end
end
section
variable {B F0 F H H' A : Hp} {μ μ2 : Nat → Addr} {S : Sto} {U : List Nat} {N : Nat}
/-- what the caller holds then -/
def Got (B : Hp) (F2 : Hp) (μ μ2 : Nat → Addr) (N : Nat) (H : Hp) (ns : List Nat) (T : Sto) : Prop := T.length = ns.length ∧ ∀ (j n : Nat) (o : Ob), ns[j]? = some n → T[j]? = some o → ObRp B F2 μ2 N H (μ n) o
theorem Got.app {F2 : Hp} {ns ms : List Nat} {T T2 : Sto} (h1 : Got A F2 μ μ2 N H ns T) (h2 : Got A F2 μ μ2 N H ms T2) : Got A F2 μ μ2 N H (ns ++ ms) (T ++ T2) := by
  refine ⟨by simp [h1.1, h2.1], fun j n o hn ho => ?_⟩
  by_cases hj : j < ns.length
  · rw [List.getElem?_append_left hj] at hn
    rw [List.getElem?_append_left (by rw [h1.1]; exact hj)] at ho
    exact h1.2 j n o hn ho
  · rw [List.getElem?_append_right (by omega)] at hn
    rw [List.getElem?_append_right (by rw [h1.1]; omega), h1.1] at ho
    exact h2.2 _ n o hn ho
mutual
theorem VR.rp (R : Rl B F0 μ S F H) : ∀ (rt : RT) (d : D) (v : V) (ns : List Nat) (m : Nat), VR S U d rt ns → RpD B F μ S.length d v → (∀ j n, ns[j]? = some n → μ2 (m + j) = μ n) → m + ns.length ≤ N →
    RpD A (fu μ S.length U F H) μ2 N (al rt m).1 v ∧ Got A (fu μ S.length U F H) μ μ2 N H ns (al rt m).2
  | .z e, d, v, ns, m, w, h, hm, hN => by
    cases w with
    | z w => exact ⟨by unfold al; exact .z (Vu.rp R e d v w h), by unfold al; exact ⟨rfl, fun j n o a b => by simp at a⟩⟩
  | .t rs, d, v, ns, m, w, h, hm, hN => by
    cases w with
    | t w =>
      cases h with
      | t e rv =>
        obtain ⟨r1, g1⟩ := VRs.rp R rs _ _ ns m w rv hm hN
        unfold al
        exact ⟨.t (fu_sub _ _ e) r1, g1⟩
  | .l rs, d, v, ns, m, w, h, hm, hN => by
    cases w with
    | @l n ds _ ns e w =>
      cases h with
      | r hi =>
        obtain ⟨vs, hv, rv⟩ := R.ob _ _ e
        rw [List.length_append, List.length_singleton] at hN
        obtain ⟨r1, g1⟩ := VRs.rp R rs ds vs ns m w rv (fun j k hk => hm j k (by rw [List.getElem?_append_left (List.getElem?_eq_some_iff.mp hk).1]; exact hk)) (by omega)
        have e1 : μ2 (m + ns.length) = μ n := hm _ _ (by simp)
        unfold al
        refine ⟨?_, g1.app ⟨rfl, fun j k o a b => ?_⟩⟩
        · rw [g1.1, ← e1]; exact .r (by omega)
        · have hj : j = 0 := by
            have := (List.getElem?_eq_some_iff.mp a).1
            simp at this; exact this
          subst hj
          cases a; cases b
          exact ⟨vs, hv, r1⟩
theorem VRs.rp (R : Rl B F0 μ S F H) : ∀ (rs : List RT) (ds : List D) (vs : List V) (ns : List Nat) (m : Nat), VRs S U ds rs ns → RpDs B F μ S.length ds vs → (∀ j n, ns[j]? = some n → μ2 (m + j) = μ n) → m + ns.length ≤ N →
    RpDs A (fu μ S.length U F H) μ2 N (als rs m).1 vs ∧ Got A (fu μ S.length U F H) μ μ2 N H ns (als rs m).2
  | [], _, _, ns, m, w, h, hm, hN => by
    cases w; cases h
    unfold als
    exact ⟨.nil, rfl, fun j n o a b => by simp at a⟩
  | r :: rs, _, _, ns, m, w, h, hm, hN => by
    cases w with
    | @cons d ds _ _ ns ms w1 w2 =>
      cases h with
      | cons h1 h2 =>
        rw [List.length_append] at hN
        obtain ⟨r1, g1⟩ := VR.rp R r d _ ns m w1 h1 (fun j k hk => hm j k (by rw [List.getElem?_append_left (List.getElem?_eq_some_iff.mp hk).1]; exact hk)) (by omega)
        obtain ⟨r2, g2⟩ := VRs.rp R rs ds _ ms (m + (al r m).2.length) w2 h2 (fun j k hk => by
          rw [g1.1, Nat.add_assoc]
          refine hm _ k ?_
          rw [List.getElem?_append_right (by omega), Nat.add_sub_cancel_left]
          exact hk) (by rw [g1.1]; omega)
        unfold als
        exact ⟨.cons r1 r2, g1.app g2⟩
end
end
section
variable {B F0 F F' H H' : Hp} {μ μ' : Nat → Addr} {S S' : Sto} {U : List Nat}
def muU (μ μ' : Nat → Addr) (n : Nat) (U : List Nat) : Nat → Addr := fun i => if i < n then μ i else μ' (U.getD (i - n) 0)
/-- back in the caller's state, with the fresh lists -/
theorem Rl.backU (R : Rl B F0 μ S F H) (R' : Rl H F μ' S' F' H') (x : Sub F F') {T : Sto} (hU : ∀ n ∈ U, n < S'.length) (nd : U.Nodup) (g : Got B (fu μ' S'.length U F' H') μ' (muU μ μ' S.length U) (S.length + U.length) H' U T) :
    Rl B F0 (muU μ μ' S.length U) (S ++ T) (fu μ' S'.length U F' H') H' ∧ Xt μ S F (muU μ μ' S.length U) (S ++ T) (fu μ' S'.length U F' H') := by
  have s1 : Sub F (fu μ' S'.length U F' H') := x.trans fu_sub
  have m1 : ∀ i, i < S.length → muU μ μ' S.length U i = μ i := fun i hi => if_pos hi
  have hl : (S ++ T).length = S.length + U.length := by rw [List.length_append, g.1]
  have m2 : ∀ i, i < S.length + U.length → i < S.length ∨ ∃ j n, i = S.length + j ∧ U[j]? = some n ∧ n ∈ U ∧ muU μ μ' S.length U i = μ' n := by
    intro i hi
    by_cases h : i < S.length
    · exact .inl h
    · have hj : i - S.length < U.length := by omega
      refine .inr ⟨i - S.length, U[i - S.length], by omega, List.getElem?_eq_getElem hj, List.getElem_mem hj, ?_⟩
      unfold muU
      rw [if_neg h, List.getD_eq_getElem?_getD, List.getElem?_eq_getElem hj]
      rfl
  have ne : ∀ i n, i < S.length → n ∈ U → μ i ≠ μ' n := fun i n hi hn e => by
    obtain ⟨u, hu⟩ := R.has hi
    have := R'.nb n (hU n hn)
    rw [← e, hu] at this; cases this
  refine ⟨⟨R.bh.trans R'.bh, fun a o h => ?_, R.f0.trans s1, fun a o h => ?_, fun i j hi hj e => ?_, fun i hi => ?_, fun i hi => ?_, fun i o h => ?_⟩, ⟨s1, by rw [hl]; omega, m1⟩⟩
  · rcases fu_cases h with h | ⟨_, _, h⟩
    · exact R'.fh a o h
    · exact h
  · rcases fu_cases h with h | ⟨_, ⟨i, hi, _, rfl⟩, _⟩
    · rcases R'.fn a o h with q | q
      · exact R.fn a o q
      · exact .inr (R.bh.non q)
    · exact .inr (R.bh.non (R'.nb i hi))
  · rw [hl] at hi hj
    rcases m2 i hi with hi | ⟨a, n, rfl, ha, hn, e1⟩
    · rcases m2 j hj with hj | ⟨b, m, rfl, hb, hm, e2⟩
      · rw [m1 i hi, m1 j hj] at e; exact R.inj i j hi hj e
      · rw [m1 i hi, e2] at e; exact absurd e (ne i m hi hm)
    · rcases m2 j hj with hj | ⟨b, m, rfl, hb, hm, e2⟩
      · rw [e1, m1 j hj] at e; exact absurd e.symm (ne j n hj hn)
      · rw [e1, e2] at e
        have := R'.inj n m (hU n hn) (hU m hm) e
        subst this
        have h1 := (List.getElem?_eq_some_iff.mp ha).1
        have := (List.getElem?_inj h1 nd).mp (ha.trans hb.symm)
        rw [this]
  · rw [hl] at hi
    rcases m2 i hi with hi | ⟨a, n, rfl, ha, hn, e1⟩
    · rw [m1 i hi]; exact R.nb i hi
    · rw [e1]; exact R.bh.non (R'.nb n (hU n hn))
  · rw [hl] at hi
    rcases m2 i hi with hi | ⟨a, n, rfl, ha, hn, e1⟩
    · rw [m1 i hi]
      obtain ⟨u, hu⟩ := R.has hi
      cases q : fu μ' S'.length U F' H' (μ i) with
      | none => rfl
      | some o =>
        rcases fu_cases q with h | ⟨_, ⟨j, hj, _, e⟩, _⟩
        · rcases R'.fn _ o h with q | q
          · rw [R.nf i hi] at q; cases q
          · rw [hu] at q; cases q
        · have := R'.nb j hj
          rw [e, hu] at this; cases this
    · rw [e1]
      cases q : fu μ' S'.length U F' H' (μ' n) with
      | none => rfl
      | some o =>
        rcases fu_cases q with h | ⟨_, ⟨j, hj, hjU, e⟩, _⟩
        · rw [R'.nf n (hU n hn)] at h; cases h
        · have := R'.inj j n hj (hU n hn) e
          subst this
          exact absurd hn hjU
  · have hi := Rl.lt h
    rw [hl] at hi ⊢
    rcases m2 i hi with hi | ⟨a, n, rfl, ha, hn, e1⟩
    · rw [List.getElem?_append_left hi] at h
      rw [m1 i hi]
      obtain ⟨u, hu⟩ := R.has hi
      exact (R.ob i o h).mono s1 (Nat.le_add_right _ _) m1 ((R'.bh _ _ hu).trans hu.symm)
    · rw [List.getElem?_append_right (by omega), Nat.add_sub_cancel_left] at h
      rw [e1]
      exact g.2 a n o ha h
end
mutual
theorem VR.lt {S : Sto} {U : List Nat} : ∀ (rt : RT) (d : D) (ns : List Nat), VR S U d rt ns → ∀ n ∈ ns, n < S.length
  | .z _, _, _, w, n, hn => by cases w; simp at hn
  | .t rs, _, _, w, n, hn => by cases w with | t w => exact VRs.lt rs _ _ w n hn
  | .l rs, _, _, w, n, hn => by
    cases w with
    | l e w =>
      simp only [List.mem_append, List.mem_singleton] at hn
      rcases hn with hn | rfl
      · exact VRs.lt rs _ _ w n hn
      · exact (List.getElem?_eq_some_iff.mp e).1
theorem VRs.lt {S : Sto} {U : List Nat} : ∀ (rs : List RT) (ds : List D) (ns : List Nat), VRs S U ds rs ns → ∀ n ∈ ns, n < S.length
  | [], _, _, w, n, hn => by cases w; simp at hn
  | r :: rs, _, _, w, n, hn => by
    cases w with
    | cons w1 w2 =>
      rcases List.mem_append.mp hn with hn | hn
      · exact VR.lt r _ _ w1 n hn
      · exact VRs.lt rs _ _ w2 n hn
end
abbrev Fsr := List PyData → (RT → Prop) → (Ex → Prop) → Prop
def frr (p : Fsr) : Spc := fun ds S K KX => ∃ es, Vws S ds es ∧ p es (fun rt => K (al rt S.length).1 (S ++ (al rt S.length).2)) fun x => KX x S
def lentR (p : Fsr) : Spc := fun ds S K KX => ∃ es kd kx, ds = es.map bz ∧ S = [] ∧ p es kd kx ∧ (∀ d S' rt U, VR S' U d rt U → U.Nodup → kd rt → K d S') ∧ ∀ x S' x', ExV S' x x' → kx x' → KX x S'
theorem FnOk.frr {P : Program} {w : World} {K : PySem.W.Frag} {mg : Str → Option Value} {base : Heap} {CX : CXT} {k : Nat} {f : Addr} {fd : FuncData} {ps : List Str} {p : Fsr} (h : FnOk P w K mg base CX k f fd ps (spOf (lentR p))) : FnOk P w K mg base CX k f fd ps (spOf (PL.frr p)) := by
  refine h.imp fun vs H Q E q => ?_
  obtain ⟨B, F0, w, ds, K, KX, R, r, ⟨es, vw, q⟩, k, kx⟩ := q
  have R0 : Rl H w.F w.μ [] w.F H := ⟨Sub.refl _, R.fh, Sub.refl _, fun a o e => .inl e, fun i j hi => absurd hi (Nat.not_lt_zero _), fun i hi => absurd hi (Nat.not_lt_zero _), fun i hi => absurd hi (Nat.not_lt_zero _), fun i o e => by simp at e⟩
  refine ⟨H, w.F, ⟨w.μ, [], w.F⟩, es.map bz, fun d S' => ∃ rt U, VR S' U d rt U ∧ U.Nodup ∧ K (al rt w.S.length).1 (w.S ++ (al rt w.S.length).2), fun x S' => ∃ x', ExV S' x x' ∧ KX x' w.S, R0, RpDs.bzs (Vws.rp R _ _ _ vw r), ⟨es, _, _, rfl, rfl, q, fun d S' rt U a nd b => ⟨rt, U, a, nd, b⟩, fun x S' x' a b => ⟨x', a, b⟩⟩, ?_, ?_⟩
  · rintro d S' v H' μ' F' R' X' r' ⟨rt, U, hv, nd, hk⟩
    have hm : ∀ j n, U[j]? = some n → muU w.μ μ' w.S.length U (w.S.length + j) = μ' n := fun j n h => by
      unfold muU
      rw [if_neg (by omega), Nat.add_sub_cancel_left, List.getD_eq_getElem?_getD, h]; rfl
    obtain ⟨r2, g2⟩ := VR.rp (A := B) (N := w.S.length + U.length) R' rt d v U w.S.length hv r' hm (Nat.le_refl _)
    obtain ⟨R2, X2⟩ := R.backU R' X'.f (VR.lt rt d U hv) nd g2
    refine k _ _ _ _ _ _ R2 X2 ?_ hk
    rw [List.length_append, g2.1]
    exact r2
  · rintro x S' H' μ' F' cls dd R' X' r' ⟨x', ⟨hc, hf⟩, hk⟩
    obtain ⟨R2, X2⟩ := R.back R' X'.f
    refine kx x' _ _ _ _ cls dd R2 X2 ⟨by rw [hc]; exact r'.1, ?_⟩ hk
    obtain ⟨_, r2⟩ := r'
    cases h1 : x.fs with
    | none =>
      cases h2 : x'.fs with
      | none => rw [h1] at r2; exact r2
      | some gs => rw [h1, h2] at hf; exact hf.elim
    | some fs =>
      cases h2 : x'.fs with
      | none => rw [h1, h2] at hf; exact hf.elim
      | some gs =>
        rw [h1] at r2
        rw [h1, h2] at hf
        obtain ⟨a, ws, e1, e2, e3⟩ := r2
        refine ⟨a, ws, e1, e2, ?_⟩
        clear e2 h1 h2
        induction hf generalizing ws with
        | nil => cases e3; exact .nil
        | cons q t ih =>
          cases e3 with
          | cons r1 r2 =>
            obtain ⟨n1, e, ve, q2⟩ := q
            refine .cons ⟨n1.symm.trans r1.1, ?_⟩ (ih _ r2)
            rw [q2]
            exact .z (Vz.rp R' e _ _ ve r1.2)
theorem Fc.frr {P : Program} {w : World} {K : PySem.W.Frag} {mg : Str → Option Value} {base : Heap} {x : Str} {k : Nat} {ps : List Str} {p : Fsr} (c : Fc P w K mg base x k ps (lentR p)) : Fc P w K mg base x k ps (PL.frr p) := by
  obtain ⟨f, fd, h, r⟩ := c.ex
  exact ⟨f, fd, FnOk.frr h, r⟩
/-- typed -/
def fsr {α : Type} (enc : α → List PyData) (pre : α → Prop) (out : α → RT) : Fsr := fun es k _ => ∃ a, es = enc a ∧ pre a ∧ k (out a)
theorem fsr_len {α : Type} {enc : α → List PyData} {pre : α → Prop} {out : α → RT} {n : Nat} (h : ∀ a, (enc a).length = n) : ∀ ds S K KX, lentR (fsr enc pre out) ds S K KX → ds.length = n := by
  rintro ds S K KX ⟨es, kd, kx, rfl, rfl, ⟨a, rfl, _, _⟩, _⟩
  rw [List.length_map]; exact h a
theorem fsr_ok {α : Type} {enc : α → List PyData} {pre : α → Prop} {out : α → RT} {ws : WS} {N : List Str} (h : ∀ a, pre a → ∀ K KX, (∀ d S' U, VR S' U d (out a) U → U.Nodup → K d S') → ws (ends K KX) (startE N ((enc a).map bz)) []) :
    ∀ ds S K KX, lentR (fsr enc pre out) ds S K KX → ws { nx := fun _ S1 => K (.z .none) S1, rt := K, ex := fun y _ S1 => KX y S1 } (startE N ds) S := by
  rintro ds S K KX ⟨es, kd, kx, rfl, rfl, ⟨a, rfl, hp, hk⟩, hK, _⟩
  exact h a hp K KX fun d S' U v nd => hK d S' _ U v nd hk
theorem fsr_call {α : Type} {enc : α → List PyData} {pre : α → Prop} {out : α → RT} {ds : List D} {S : Sto} {K : K1} {KX : KF} (a : α) (v : Vws S ds (enc a)) (hp : pre a) (h : K (al (out a) S.length).1 (S ++ (al (out a) S.length).2)) : pCall (frr (fsr enc pre out)) ds S K KX := pCall.mk ⟨_, v, a, rfl, hp, h⟩
/-- a fresh list of frozen things -/
def lz {α : Type} (f : α → PyData) (xs : List α) : RT := .l (xs.map fun x => .z (f x))
theorem als_lz {α : Type} (f : α → PyData) (n : Nat) : ∀ xs : List α, als (xs.map fun x => RT.z (f x)) n = (xs.map fun x => .z (f x), [])
  | [] => by simp [als]
  | e :: es => by simp [als, al, als_lz f n es]
theorem al_lz {α : Type} (f : α → PyData) (xs : List α) (n : Nat) : al (lz f xs) n = (.r n, [.lst (xs.map fun x => .z (f x))]) := by
  unfold lz al
  rw [als_lz]
  rfl
theorem VR.lz {S : Sto} {n : Nat} {α : Type} {f : α → PyData} {xs : List α} (h : S[n]? = some (.lst (xs.map fun x => .z (f x)))) : VR S [n] (.r n) (PL.lz f xs) [n] := .l (ns := []) h (VRs.zs f xs)
theorem fsl_call {α β : Type} {enc : α → List PyData} {pre : α → Prop} {f : β → PyData} {out : α → List β} {ds : List D} {S : Sto} {K : K1} {KX : KF} (a : α) (v : Vws S ds (enc a)) (hp : pre a) (h : K (.r S.length) (S ++ [.lst ((out a).map fun x => .z (f x))])) : pCall (frr (fsr enc pre fun a => lz f (out a))) ds S K KX :=
  fsr_call a v hp (by rw [al_lz]; exact h)
/-! views stay, where the store only grows -/
mutual
theorem Vw.sub {S S' : Sto} (h : ∀ (n : Nat) (o : Ob), S[n]? = some o → S'[n]? = some o) : ∀ (e : PyData) (d : D), Vw S d e → Vw S' d e
  | .none, _, w => by cases w <;> constructor
  | .bool _, _, w => by cases w <;> constructor
  | .int _, _, w => by cases w <;> constructor
  | .str _, _, w => by cases w <;> constructor
  | .dict _, _, w => by cases w <;> constructor
  | .list es, _, w => by
    cases w with
    | z => exact .z
    | b => exact .b
    | r e ws => exact .r (h _ _ e) (Vws.sub h es _ ws)
  | .tuple es, _, w => by
    cases w with
    | z => exact .z
    | b => exact .b
    | t ws => exact .t (Vws.sub h es _ ws)
theorem Vws.sub {S S' : Sto} (h : ∀ (n : Nat) (o : Ob), S[n]? = some o → S'[n]? = some o) : ∀ (es : List PyData) (ds : List D), Vws S ds es → Vws S' ds es
  | [], _, w => by cases w; exact .nil
  | e :: es, _, w => by cases w with | cons a b => exact .cons (Vw.sub h e _ a) (Vws.sub h es _ b)
end
theorem Vw.app {S T : Sto} {d : D} {e : PyData} (h : Vw S d e) : Vw (S ++ T) d e := Vw.sub (fun _ _ => sto_app) e d h
theorem Vws.app {S T : Sto} {d : List D} {e : List PyData} (h : Vws S d e) : Vws (S ++ T) d e := Vws.sub (fun _ _ => sto_app) e d h
/-! comprehensions whose elements make lists too -/
theorem pLc_each {src : Src} {tg : D → Env → Option Env} {wt : WT} {we : WE} {L : Nat} {env : Env} {fin : Sto → Prop} {items : List D} {S : Sto} (I : Nat → Sto → Prop) (h0 : I 0 S) (hok : ∀ i S, i ≤ items.length → I i S → src.ok S)
    (hs : ∀ i d S (Q : Sto → Prop), items[i]? = some d → I i S → (∀ S', I (i + 1) S' → Q S') → pGet (tg d env) fun env2 => wt env2 S (fun c S1 => pIf c (we env2 S1 (fun x S2 => pGet (lsR S2 L) fun xs => pReq (xs.length < sizeLine) (Q (S2.set L (.lst (xs ++ [x]))))) X0) (Q S1)) X0)
    (hd : ∀ S, I items.length S → fin S) : pLc src tg wt we L env fin items S := by
  have go : ∀ (rest : List D) (i : Nat) S, items.drop i = rest → i ≤ items.length → I i S → pLc src tg wt we L env fin rest S := by
    intro rest
    induction rest with
    | nil =>
      intro i S e hi h
      rw [pLc.nil]
      have : i = items.length := by
        have := congrArg List.length e
        rw [List.length_drop] at this
        simp at this
        omega
      subst this
      exact ⟨hok _ _ (Nat.le_refl _) h, hd _ h⟩
    | cons d ds ih =>
      intro i S e hi h
      rw [pLc.cons]
      have hlt : i < items.length := by
        have := congrArg List.length e
        rw [List.length_drop] at this
        simp at this
        omega
      have hget : items[i]? = some d := by
        have := congrArg (fun l => l[0]?) e
        simpa using this
      exact ⟨hok _ _ hi h, hs i d S _ hget h fun S' h' => ih (i + 1) S' (by rw [← List.drop_drop, e]; rfl) hlt h'⟩
  exact go _ 0 S rfl (Nat.zero_le _) h0
end PL

set_option Elab.async false
set_option linter.all false
set_option maxRecDepth 100000
/-! PL, part 14: the law's head: facts of the defs by names -/
namespace PL
open PySem PySem.Spec PyProof.Rows L2

theorem fun_of {K : PySem.W.Frag} {x q : Str} {st : Stmt} {f : Addr} {fd : FuncData} (F : FunD K x q (defArgs st) (defBody st) (defScope st) [] [] f fd) : Fun K x q st f fd := by
  obtain ⟨oc, od, dV, kV, doc, pm, an, cdv, ct, osl, h1, h2, h3, h4, h5⟩ := F.ex
  have e : dV = .none := h4.elim (fun z => z.2) fun z => absurd rfl z.1
  subst e
  exact ⟨⟨oc, od, kV, doc, pm, an, cdv, ct, osl, h1, h2, h3⟩, F.kp⟩
abbrev dd (x : Str) (st : Stmt) : He.DefD := ⟨(x, none), x, x, defArgs st, defBody st, defScope st, [], []⟩
/-! the Hook, with a word about lists -/
def obsP (fa : List He.Fa) (fn : List He.DefD) (K : PySem.W.Frag) : Bool × He.AlD := (noLs K, He.obsD fa fn K)
def SaysP (fa : List He.Fa) (fn : List He.DefD) (K : PySem.W.Frag) : Prop := obsP fa fn K = (true, He.valD fn)
theorem SaysP.ls {fa : List He.Fa} {fn : List He.DefD} {K : PySem.W.Frag} (h : SaysP fa fn K) : noLs K = true := congrArg (fun z : Bool × He.AlD => z.1) h
theorem SaysP.sd {fa : List He.Fa} {fn : List He.DefD} {K : PySem.W.Frag} (h : SaysP fa fn K) : He.SaysD fa fn K := congrArg (fun z : Bool × He.AlD => z.2) h
def obsPG (n : Nat) (fa : List He.Fa) (fn : List He.DefD) (g : Addr → Option Obj) : Bool × He.AlD := obsP fa fn (He.frG g (He.asD g n))
def hookP (n : Nat) (fa : List He.Fa) (fn : List He.DefD) : PySem.W.Hook where
  α := Bool × He.AlD
  obs := fun s => obsPG n fa fn s.heap.get?
  val := fun _ => (true, He.valD fn)
  says := fun _ h => ∃ K : PySem.W.Frag, K.In h ∧ SaysP fa fn K
  of := fun _ _ e => ⟨_, He.frG_in, e⟩
  keeps := fun _ _ _ ⟨K, hK, c⟩ k => ⟨K, PySem.W.Frag.In.keeps hK k, c⟩
theorem obsPG_eq {n : Nat} {fa : List He.Fa} {fn : List He.DefD} {g : Addr → Option Obj} {s : Shared} (h : ∀ a, g a = s.heap.get? a) : obsPG n fa fn g = (hookP n fa fn).obs s := by
  have e : g = s.heap.get? := funext h
  rw [e] <;> rfl
/-- a def as its callers know it, by its place among the facts -/
theorem fc_mk {P : Program} {w : World} {K : PySem.W.Frag} {mg : Str → Option Value} {base h : Heap} {x : Str} {k : Nat} {ps : List Str} {sp : Spc} {st : Stmt} {fd : FuncData} (X : K.In h) (G : h.Ns mainGlobals mg) (FD : FunD K x x (defArgs st) (defBody st) (defScope st) [] [] (He.fAd K (x, none)) fd)
    (ok : FnOk P w K mg base (L2.CX P w) k (He.fAd K (x, none)) fd ps (spOf sp)) (g : (He.Fa.glo x).ok K = true)
    (hb : ∀ (kV doc pm : Value) (an : Option Addr) (cdv ct : Value) (us : List Value), us.length = ps.length → bindArgs (PySem.W.fnOf x x (defArgs st) (defBody st) (defScope st) .none kV doc pm an cdv ct) ⟨us, []⟩ = pure (ps.zip us)) : Fc P w K mg base x k ps sp :=
  ⟨_, fd, ok, He.glo_ok X G g, FD.kp, (fun_of FD).binds hb⟩
/-- the end -/
theorem pl_end {l : PySem.W.OpenLaw} {q : Program} {loose : List Str} {XP : (Str → Option Value) → Heap → Prop} {d : DefRec} {x : Str} {k n : Nat} {fa : List He.Fa} {fn : List He.DefD} {st : Stmt}
    (hn : l.most = some 63) (hd : d.name = ("law" : Str)) (hdf : d.params.defaults = []) (hr : Room k callerA)
    (hb : ∀ (kV doc pm : Value) (an : Option Addr) (cdv ct : Value) (us : List Value), us.length = [x].length → bindArgs (PySem.W.fnOf "law" "law" (defArgs st) (defBody st) (defScope st) .none kV doc pm an cdv ct) ⟨us, []⟩ = pure ([x].zip us))
    (F : ∀ (w : World) (K : PySem.W.Frag) (h : Heap) (mg : Str → Option Value), K.In h → h.Ns mainGlobals mg → SaysP fa fn K → ∃ fd, FunD K "law" "law" (defArgs st) (defBody st) (defScope st) [] [] (He.fAd K ("law", none)) fd ∧ mg ("law" : Str) = some (.ref (He.fAd K ("law", none))) ∧ ∀ base : Heap, FnOk l.prog w K mg base (L2.CX l.prog w) k (He.fAd K ("law", none)) fd [x] (spOf lawSp)) :
    PySem.W.WalkO q loose XP (hookP n fa fn).says l.row.toRowW d [] (fun f vs => PySem.call f vs) := by
  refine Att.attach_call hn hdf fun w s₀ s₁ mg mb fa' o pm cd doc a vs ns G Y ho hd' hcd hmg hobj hints hlen hg => ?_
  obtain ⟨K, KX, c⟩ := Y
  obtain ⟨fd, FD, e, hF⟩ := F w K _ mg KX G.T.g c
  have hmg2 : mg ("law" : Str) = some (.ref fa') := by rw [← hd]; exact hmg
  rw [e] at hmg2
  cases hmg2
  exact law_call KX G.T.g G.T.b G.T.builtins G.T.nolimit hg hobj hints (Nat.le_trans hlen (by decide)) hr (fun base _ _ => law_imp c.ls (hF base)) (fun s u => FD.bindsA (ps := [x]) hb s [u] rfl) (fun H hO hS => ⟨a, ns, rfl, hS, hlen, fun _ => rfl⟩) fun H e s' ⟨_, _, _, _, _, _, _, _, _, _, _, _, z⟩ => z
end PL

set_option Elab.async false
set_option linter.all false
set_option maxRecDepth 100000
/-! PL, part 15: promises of an answer that is any fit one; promises over the caller's own store -/
namespace PL
open PySem L2

def fsq {α β : Type} (enc : α → List PyData) (pre : α → Prop) (post : α → β → Prop) (out : β → PyData) : Fsp := fun es k _ => ∃ a, es = enc a ∧ pre a ∧ ∀ b, post a b → k (out b)
theorem fsq_len {α β : Type} {enc : α → List PyData} {pre : α → Prop} {post : α → β → Prop} {out : β → PyData} {n : Nat} (h : ∀ a, (enc a).length = n) : ∀ ds S K KX, lent (fsq enc pre post out) ds S K KX → ds.length = n := by
  rintro ds S K KX ⟨es, kd, kx, rfl, rfl, ⟨a, rfl, _, _⟩, _⟩
  rw [List.length_map]; exact h a
theorem fsq_ok {α β : Type} {enc : α → List PyData} {pre : α → Prop} {post : α → β → Prop} {out : β → PyData} {ws : WS} {N : List Str} (h : ∀ a, pre a → ∀ K KX, (∀ d S' b, Vz S' d (out b) → post a b → K d S') → ws (ends K KX) (startE N ((enc a).map bz)) []) :
    ∀ ds S K KX, lent (fsq enc pre post out) ds S K KX → ws { nx := fun _ S1 => K (.z .none) S1, rt := K, ex := fun y _ S1 => KX y S1 } (startE N ds) S := by
  rintro ds S K KX ⟨es, kd, kx, rfl, rfl, ⟨a, rfl, hp, hk⟩, hK, _⟩
  exact h a hp K KX fun d S' b v q => hK d S' _ v (hk b q)
theorem fsq_call {α β : Type} {enc : α → List PyData} {pre : α → Prop} {post : α → β → Prop} {out : β → PyData} {ds : List D} {S : Sto} {K : K1} {KX : KF} (a : α) (v : Vws S ds (enc a)) (hp : pre a) (h : ∀ b, post a b → K (.z (out b)) S) : pCall (frz (fsq enc pre post out)) ds S K KX :=
  pCall.mk ⟨_, v, a, rfl, hp, h⟩
/-! .. with fresh lists -/
def fsrq {α β : Type} (enc : α → List PyData) (pre : α → Prop) (post : α → β → Prop) (out : β → RT) : Fsr := fun es k _ => ∃ a, es = enc a ∧ pre a ∧ ∀ b, post a b → k (out b)
theorem fsrq_len {α β : Type} {enc : α → List PyData} {pre : α → Prop} {post : α → β → Prop} {out : β → RT} {n : Nat} (h : ∀ a, (enc a).length = n) : ∀ ds S K KX, lentR (fsrq enc pre post out) ds S K KX → ds.length = n := by
  rintro ds S K KX ⟨es, kd, kx, rfl, rfl, ⟨a, rfl, _, _⟩, _⟩
  rw [List.length_map]; exact h a
theorem fsrq_ok {α β : Type} {enc : α → List PyData} {pre : α → Prop} {post : α → β → Prop} {out : β → RT} {ws : WS} {N : List Str} (h : ∀ a, pre a → ∀ K KX, (∀ d S' b U, VR S' U d (out b) U → U.Nodup → post a b → K d S') → ws (ends K KX) (startE N ((enc a).map bz)) []) :
    ∀ ds S K KX, lentR (fsrq enc pre post out) ds S K KX → ws { nx := fun _ S1 => K (.z .none) S1, rt := K, ex := fun y _ S1 => KX y S1 } (startE N ds) S := by
  rintro ds S K KX ⟨es, kd, kx, rfl, rfl, ⟨a, rfl, hp, hk⟩, hK, _⟩
  exact h a hp K KX fun d S' b U v nd q => hK d S' _ U v nd (hk b q)
theorem fsrq_call {α β : Type} {enc : α → List PyData} {pre : α → Prop} {post : α → β → Prop} {out : β → RT} {ds : List D} {S : Sto} {K : K1} {KX : KF} (a : α) (v : Vws S ds (enc a)) (hp : pre a) (h : ∀ b, post a b → K (al (out b) S.length).1 (S ++ (al (out b) S.length).2)) : pCall (frr (fsrq enc pre post out)) ds S K KX :=
  pCall.mk ⟨_, v, a, rfl, hp, h⟩
theorem fslq_call {α β : Type} {enc : α → List PyData} {pre : α → Prop} {f : β → PyData} {post : α → List β → Prop} {ds : List D} {S : Sto} {K : K1} {KX : KF} (a : α) (v : Vws S ds (enc a)) (hp : pre a) (h : ∀ b, post a b → K (.r S.length) (S ++ [.lst (b.map fun x => .z (f x))])) : pCall (frr (fsrq enc pre post fun b => lz f b)) ds S K KX :=
  fsrq_call a v hp fun b hb => by rw [al_lz]; exact h b hb
/-! .. over the caller's store: it may write what it was handed -/
def fsm {α : Type} (pre : α → List D → Sto → Prop) (post : α → D → Sto → Sto → Prop) : Spc := fun ds S K _ => ∃ a, pre a ds S ∧ ∀ d S', post a d S S' → K d S'
theorem fsm_len {α : Type} {pre : α → List D → Sto → Prop} {post : α → D → Sto → Sto → Prop} {n : Nat} (h : ∀ a ds S, pre a ds S → ds.length = n) : ∀ ds S K KX, fsm pre post ds S K KX → ds.length = n := by
  rintro ds S K KX ⟨a, hp, _⟩
  exact h a ds S hp
theorem fsm_ok {α : Type} {pre : α → List D → Sto → Prop} {post : α → D → Sto → Sto → Prop} {ws : WS} {N : List Str} (h : ∀ a ds S, pre a ds S → ∀ K KX, (∀ d S', post a d S S' → K d S') → ws (ends K KX) (startE N ds) S) :
    ∀ ds S K KX, fsm pre post ds S K KX → ws { nx := fun _ S1 => K (.z .none) S1, rt := K, ex := fun y _ S1 => KX y S1 } (startE N ds) S := by
  rintro ds S K KX ⟨a, hp, hk⟩
  exact h a ds S hp K KX hk
theorem fsm_call {α : Type} {pre : α → List D → Sto → Prop} {post : α → D → Sto → Sto → Prop} {ds : List D} {S : Sto} {K : K1} {KX : KF} (a : α) (hp : pre a ds S) (h : ∀ d S', post a d S S' → K d S') : pCall (fsm pre post) ds S K KX := pCall.mk ⟨a, hp, h⟩
/-- what stays but at the places U -/
def Keep (U : List Nat) (S S' : Sto) : Prop := ∀ (n : Nat) (o : Ob), n ∉ U → S[n]? = some o → S'[n]? = some o
theorem Keep.refl {U : List Nat} {S : Sto} : Keep U S S := fun _ _ _ h => h
theorem Keep.trans {U : List Nat} {S T R : Sto} (a : Keep U S T) (b : Keep U T R) : Keep U S R := fun n o h e => b n o h (a n o h e)
theorem Keep.app {U : List Nat} {S T : Sto} : Keep U S (S ++ T) := fun _ _ _ h => sto_app h
theorem Keep.set {U : List Nat} {S : Sto} {n : Nat} {o : Ob} (h : n ∈ U) : Keep U S (S.set n o) := fun m _ hm e => by
  rw [List.getElem?_set_ne (fun z : n = m => hm (by rw [← z]; exact h))]; exact e
theorem Keep.mono {U V : List Nat} {S T : Sto} (h : ∀ n ∈ U, n ∈ V) (k : Keep U S T) : Keep V S T := fun n o hn e => k n o (fun z => hn (h n z)) e
/-! for the walk -/
theorem pGet.ex {α : Type} {o : Option α} {k : α → Prop} {P : α → Prop} (h : ∃ x, o = some x ∧ P x) (q : ∀ x, P x → k x) : pGet o k := by
  obtain ⟨x, e, hp⟩ := h
  exact pGet.mk e (q x hp)
theorem isTy_l {S : Sto} {n : Nat} {ds : List D} (h : S[n]? = some (.lst ds)) : isTy .list S (.r n) = true := by
  show (match S[n]? with | some (.lst _) => true | _ => false) = true
  rw [h]
theorem isTy_d {S : Sto} {n : Nat} {kvs : List (Key × D)} (h : S[n]? = some (.dic kvs)) : isTy .dict S (.r n) = true := by
  show (match S[n]? with | some (.dic _) => true | _ => false) = true
  rw [h]
theorem sqD_at {S : Sto} {n : Nat} {ds : List D} (h : S[n]? = some (.lst ds)) : sqD S (.r n) = some ds := lsD_at h
theorem srcD_at {S : Sto} {n : Nat} {ds : List D} (h : S[n]? = some (.lst ds)) : srcD S (.r n) = some ⟨ds, fun S => S[n]? = some (.lst ds)⟩ := by
  show (match S[n]? with | some (.lst ds) => _ | _ => _) = _
  rw [h]
theorem tyD_l {S : Sto} {n : Nat} {ds : List D} (h : S[n]? = some (.lst ds)) : tyD S (.r n) = some .list := by
  show (match S[n]? with | some (.lst _) => _ | some (.dic _) => _ | _ => _) = _
  rw [h]
theorem ixN_at {n i : Nat} (h : i < n) : ixN n (0 + (i : Int)) = some i := by
  rw [Int.zero_add]
  unfold ixN
  split
  · simp [h]
  · omega
theorem sto_r {A T : Sto} {k : Nat} {o : Ob} (h : T[k]? = some o) : (A ++ T)[A.length + k]? = some o := by
  rw [List.getElem?_append_right (Nat.le_add_right _ _), Nat.add_sub_cancel_left]; exact h
theorem sto_r0 {A T : Sto} {a : Ob} : (A ++ a :: T)[A.length]? = some a := by simp
theorem sto_r1 {A T : Sto} {a b : Ob} : (A ++ a :: b :: T)[A.length + 1]? = some b := sto_r rfl
theorem sto_r2 {A T : Sto} {a b c : Ob} : (A ++ a :: b :: c :: T)[A.length + 2]? = some c := sto_r rfl
theorem sto_r3 {A T : Sto} {a b c d : Ob} : (A ++ a :: b :: c :: d :: T)[A.length + 3]? = some d := sto_r rfl
theorem sto_r4 {A T : Sto} {a b c d e : Ob} : (A ++ a :: b :: c :: d :: e :: T)[A.length + 4]? = some e := sto_r rfl
/-- a loop over the data of a list -/
theorem pFor_xs {α : Type} {src : Src} {g : WG} {body : WS} {k : KS} {env : Env} {S : Sto} (xs : List α) (f : α → D) (e : src.items = xs.map f) (I : Nat → Env → Sto → Prop) (h0 : I 0 env S) (hok : ∀ i env S, i ≤ xs.length → I i env S → src.ok S)
    (hs : ∀ i x env S (Q : Env → Sto → Prop), xs[i]? = some x → I i env S → (∀ env' S', I (i + 1) env' S' → Q env' S') → g (f x) env S fun env1 S1 => body { k with nx := Q, ct := Q, bk := k.nx } env1 S1)
    (hd : ∀ env S, I xs.length env S → k.nx env S) : pFor src g body k src.items env S := by
  have hl : src.items.length = xs.length := by rw [e, List.length_map]
  refine pFor_each I h0 (fun i env S hi h => hok i env S (by omega) h) (fun i d env S Q hi h hQ => ?_) (fun env S h => hd env S (by rw [← hl]; exact h))
  rw [e, List.getElem?_map] at hi
  cases hx : xs[i]? with
  | none => rw [hx] at hi; simp at hi
  | some x =>
    rw [hx] at hi
    simp at hi
    subst hi
    exact hs i x env S Q hx h hQ
theorem fmod_b {a b : Int} (h : 0 < b) : 0 ≤ a.fmod b ∧ a.fmod b < b := ⟨Int.fmod_nonneg_of_pos a h, Int.fmod_lt_of_pos a h⟩
end PL

set_option Elab.async false
set_option linter.all false
set_option maxRecDepth 100000
/-! PL, part 16: what is never reached -/
namespace PL
open PySem L2

def wNever : WS := fun _ _ _ => False
theorem xnever {X : Cx} {B F0 : Hp} {W : WX} {st : Stmt} : PXS X B F0 W st wNever := ⟨fun pins s σ H D I h => by
  obtain ⟨w, env, k, _, _, h, _⟩ := h
  exact h.elim⟩
theorem ixN_nat {n i : Nat} (h : i < n) : ixN n (i : Int) = some i := by
  have := ixN_at h
  rw [Int.zero_add] at this
  exact this
/-- a loop that ends with False at the first item that is not p -/
theorem pFor_allB {α : Type} {src : Src} {g : WG} {body : WS} {k : KS} {env : Env} {S : Sto} (xs : List α) (f : α → D) (p : α → Bool) (J : Env → Prop) (e : src.items = xs.map f) (hok : src.ok S) (h0 : J env)
    (hs : ∀ x env (Q : Env → Sto → Prop), x ∈ xs → J env → (p x = true → ∀ env', J env' → Q env' S) → (p x = false → k.rt (.z (.bool false)) S) → g (f x) env S fun env1 S1 => body { k with nx := Q, ct := Q, bk := k.nx } env1 S1)
    (hd : xs.all p = true → ∀ env, J env → k.nx env S) (hf : xs.all p = false → k.rt (.z (.bool false)) S) : pFor src g body k src.items env S := by
  refine pFor_xs xs f e (fun i env S1 => S1 = S ∧ J env ∧ (xs.take i).all p = true) ⟨rfl, h0, by simp⟩ (fun i env S1 _ h => by rw [h.1]; exact hok) ?_ ?_
  · rintro i x env S1 Q hx ⟨rfl, hj, ha⟩ hQ
    refine hs x env Q (List.mem_of_getElem? hx) hj (fun hp env' hj' => hQ env' _ ⟨rfl, hj', ?_⟩) (fun hp => hf ?_)
    · rw [List.take_add_one, hx, List.all_append, ha, Option.toList_some]
      simp [hp]
    · cases h : xs.all p with
      | false => rfl
      | true =>
        have := List.all_eq_true.mp h x (List.mem_of_getElem? hx)
        rw [hp] at this; cases this
  · rintro env S1 ⟨rfl, hj, ha⟩
    rw [List.take_length] at ha
    exact hd ha env hj
end PL

set_option Elab.async false
set_option linter.all false
set_option maxRecDepth 100000
/-! PL, part 17: raise; try .. except; what a caught exception is -/
namespace PL
open PySem L2

/-- a class of the program that is a ValueError -/
structure ExcF (K : PySem.W.Frag) (mg : Str → Option Value) (x : Str) (C : Addr) : Prop where
  q : PySem.W.excIn K C He.veBase "ValueError.__new__" = true
  k : PySem.W.keepIn K (.ref C) = true
  s : PySem.W.subIn K (.ref C) (.type "BaseException") = some true
  t : PySem.W.typeIn K (.ref C) = some (.type "type")
  g : mg x = some (.ref C)
def wRaise (C : Addr) : WS := fun k env S => k.ex ⟨.ref C, none⟩ env S
section
variable {X : Cx} {B F0 : Hp} {W : WX} {x m : Str} {C : Addr} {p p2 p3 pos : Pos} {j : Nat}
theorem xraise (hc : X.calm = true) (tk : Takes X W) (F : ExcF X.K X.mg x C) (hg : Gl X x) (hdb : (x == ("__debug__" : Str)) = false := by decide) : PXS X B F0 W (.Raise (some (.Call (.Name x p) [.Constant (.str m) j p2] [] p3)) none pos) (wRaise C) :=
  wkS (ps_raise hc tk (pmk_own PySem.F.excBase_ValueError F.q F.g F.k (raises_own F.s F.t) hg hdb)) fun D σ H h => by
    obtain ⟨w, env, k, R, E, h, f⟩ := h
    exact f.ex _ _ _ _ _ _ _ _ _ R .refl E ⟨rfl, rfl⟩ h
end
/-- try: b, except .. as (slot i): h. kn: the classes that may come, mt: which of them are caught -/
def wTryAs (kn : Value → Prop) (mt : Value → Bool) (i : Nat) (b : WS) (h : Addr → Value → WS) : WS := fun k env S =>
  b { k with ex := fun x env1 S1 => pReq (kn x.c ∧ x.fs = none) (pIf (mt x.c) (∀ a, h a x.c { nx := fun e2 S2 => k.nx (e2.set i none) S2, rt := k.rt, ex := fun _ _ _ => False, bk := fun e2 S2 => k.bk (e2.set i none) S2, ct := fun e2 S2 => k.ct (e2.set i none) S2 } (env1.set i (some (.o a))) S1) (k.ex x env1 S1)) } env S
section
variable {X : Cx} {B F0 : Hp} {W : WX} {x n : Str} {c : Value} {i : Nat} {body suite : List Stmt} {b₀ : Stmt} {np pos pos' : Pos} {b : WS} {h : Addr → Value → WS} {kn : Value → Prop} {mt : Value → Bool}
theorem EnvR.setN {B F : Hp} {μ : Nat → Addr} {n : Nat} {env : Env} {σ : St} (E : EnvR B F μ n env σ) (i : Nat) (w : Option V) : EnvR B F μ n (env.set i none) (σ.set i w) := EnvR.unset i E
theorem xtryas (hs : X.stack = X.env :: X.outer) (hf : X.env.frame = some X.env.locals) (hN : X.N.Nodup) (hi : X.N[i]? = some n) (hln : X.env.kindOf n = some .local) (hc : Names X x c) (tk : Takes X W)
    (hb : ∀ (W' : WX) (pn : List (Addr × Obj)) (xe : Value → Shared → Prop), Takes (X.tr pn xe) W' → PassesOwn (model X.prog X.w) X.A X.env xe → PXB (X.tr pn xe) B F0 W' body b)
    (hm : ∀ v, kn v → PySem.W.exmOne X.K v c = some (mt v))
    (hh : ∀ (a : Addr) (oe : Obj) (v : Value) (pn : List (Addr × Obj)), kn v → Zc v none oe → (∃ vs, oe.data = .fields vs) → PXB (X.suite a ((a, oe) :: pn)) B F0 (fun _ _ _ _ => False) (b₀ :: suite) (h a v)) :
    PXS X B F0 W (.Try body [.ExceptHandler (some (.Name x np)) (some n) (b₀ :: suite) pos'] [] [] pos) (wTryAs kn mt i b h) := by
  refine wkS (ps_try_as hs hf hN hi hln hc tk (tb := fun W' => tS B F0 W' b) (ts := fun a cls d => fun D σ H => kn cls ∧ d = none ∧ tS B F0 (fun _ _ _ _ => False) (h a cls) D σ H) hb fun a oe cls d pn hz hd => ?_) fun D σ H h' => ?_
  · refine ⟨fun pins s σ H D I q => ?_⟩
    obtain ⟨hk, rfl, q⟩ := q
    exact (hh a oe cls pn hk hz hd).run pins s σ H D I q
  · obtain ⟨w, env, k, R, E, h', f⟩ := h'
    refine ⟨w, env, _, R, E, h', ?_⟩
    refine ⟨f.nx, f.rt, f.bk, f.ct, fun y env1 S1 σ1 H1 μ1 F1 cls dd R1 X1 E1 r1 q => ?_⟩
    obtain ⟨⟨hk, hfs⟩, q⟩ := q.out
    have hc1 : cls = y.c := r1.1
    have hd1 : dd = none := by
      have := r1.2
      rw [hfs] at this
      exact this
    subst hc1 hd1
    refine ⟨mt y.c, hm _ hk, fun hb => ?_, fun hb => ?_⟩
    · intro a ha
      have q := q.out
      rw [if_pos hb] at q
      refine ⟨hk, rfl, ⟨μ1, S1, F1⟩, _, _, R1, EnvR.set .o i E1, q a, ?_⟩
      have f2 := f.xt (w' := ⟨μ1, S1, F1⟩) X1
      exact ⟨fun e2 S2 σ2 H2 μ2 F2 R2 X2 E2 z => f2.nx _ _ _ _ _ _ R2 X2 (E2.setN i none) z, f2.rt, fun e2 S2 σ2 H2 μ2 F2 R2 X2 E2 z => f2.bk _ _ _ _ _ _ R2 X2 (E2.setN i none) z,
        fun e2 S2 σ2 H2 μ2 F2 R2 X2 E2 z => f2.ct _ _ _ _ _ _ R2 X2 (E2.setN i none) z, fun _ _ _ _ _ _ _ _ _ _ _ _ _ z => z⟩
    · have q := q.out
      rw [if_neg (by rw [hb]; exact Bool.false_ne_true)] at q
      exact f.ex y env1 S1 σ1 H1 μ1 F1 y.c none R1 X1 E1 r1 q
end
/-- isinstance(e, y), e the exception that the suite holds -/
def wIsE (i : Nat) (a : Addr) (b : Bool) : WE := fun env S K _ => pReq (env[i]? = some (some (.o a))) (K (.z (.bool b)) S)
section
variable {X : Cx} {B F0 : Hp} {W : WX} {x y n : Str} {C D : Addr} {i : Nat} {a : Addr} {b : Bool} {oe : Obj} {pn : List (Addr × Obj)} {p p2 p3 pos : Pos}
theorem xisE0 {c : V} {cv : Value} {e2 : Expr} (he2 : PE (X.suite a ((a, oe) :: pn)) e2 (tC c)) (hcv : ∀ u, RelV c u → u = cv) (ek : PySem.W.kitOne X.K (.ref D) cv = some b) (Cf : ExcC X.K D) (hz : Zc (.ref D) none oe) (hd : ∃ vs, oe.data = .fields vs) (hgi : Gl (X.suite a ((a, oe) :: pn)) "isinstance") (hmi : X.mg "isinstance" = none)
    (hv : PE (X.suite a ((a, oe) :: pn)) (.Name n p) (tVar i)) (he : starEach [.Name n p, e2] X.env = (false, eval (.Name n p) X.env) :: starEach [e2] X.env := by rfl) (hpl : (backTo pos (starEach [e2] X.env)).any (·.1) = false := by rfl)
    (hs : starEach [e2] X.env = (false, eval e2 X.env) :: starEach [] X.env := by rfl) :
    PX (X.suite a ((a, oe) :: pn)) B F0 W (.Call (.Name "isinstance" p2) [.Name n p, e2] [] pos) (wIsE i a b) :=
  wkE (pe_callB (X := X.suite a ((a, oe) :: pn)) (call_isE Cf hz hd) hgi hmi bb_isinstance (pa_cons hv (pa_cons he2 pa_nil hs) he) (by decide) (by decide) he hpl) fun σ H Q h => by
    obtain ⟨w, env, K, KX, R, E, h, k, _⟩ := h
    obtain ⟨h1, h⟩ := h.out
    obtain ⟨v, h2, r⟩ := EnvR.get E h1
    cases r
    refine ⟨_, h2, ?_⟩
    refine ⟨c, cv, b, rfl, hcv, ek, k _ w.S _ H w.μ w.F R .refl (.z (.bl _)) h⟩
theorem xisE (ek : PySem.W.kitOne X.K (.ref D) (.ref C) = some b) (Cf : ExcC X.K D) (hz : Zc (.ref D) none oe) (hd : ∃ vs, oe.data = .fields vs) (hgi : Gl (X.suite a ((a, oe) :: pn)) "isinstance") (hmi : X.mg "isinstance" = none) (hg : Gl (X.suite a ((a, oe) :: pn)) y) (hm : X.mg y = some (.ref C))
    (hv : PE (X.suite a ((a, oe) :: pn)) (.Name n p) (tVar i)) (hdb : (y == ("__debug__" : Str)) = false := by decide) (he : starEach [.Name n p, .Name y p3] X.env = (false, eval (.Name n p) X.env) :: starEach [.Name y p3] X.env := by rfl) (hpl : (backTo pos (starEach [.Name y p3] X.env)).any (·.1) = false := by rfl)
    (hs : starEach [.Name y p3] X.env = (false, eval (.Name y p3) X.env) :: starEach [] X.env := by rfl) :
    PX (X.suite a ((a, oe) :: pn)) B F0 W (.Call (.Name "isinstance" p2) [.Name n p, .Name y p3] [] pos) (wIsE i a b) :=
  xisE0 (pe_glob (X := X.suite a ((a, oe) :: pn)) (v := .ref C) hg hm rfl hdb) (fun u r => by cases r; rfl) ek Cf hz hd hgi hmi hv he hpl hs
theorem xisV (ek : PySem.W.kitOne X.K (.ref D) (.type "ValueError") = some b) (Cf : ExcC X.K D) (hz : Zc (.ref D) none oe) (hd : ∃ vs, oe.data = .fields vs) (hgi : Gl (X.suite a ((a, oe) :: pn)) "isinstance") (hmi : X.mg "isinstance" = none) (hg : Gl (X.suite a ((a, oe) :: pn)) "ValueError") (hm : X.mg "ValueError" = none)
    (hv : PE (X.suite a ((a, oe) :: pn)) (.Name n p) (tVar i)) (he : starEach [.Name n p, .Name "ValueError" p3] X.env = (false, eval (.Name n p) X.env) :: starEach [.Name "ValueError" p3] X.env := by rfl) (hpl : (backTo pos (starEach [.Name "ValueError" p3] X.env)).any (·.1) = false := by rfl)
    (hs : starEach [.Name "ValueError" p3] X.env = (false, eval (.Name "ValueError" p3) X.env) :: starEach [] X.env := by rfl) :
    PX (X.suite a ((a, oe) :: pn)) B F0 W (.Call (.Name "isinstance" p2) [.Name n p, .Name "ValueError" p3] [] pos) (wIsE i a b) :=
  xisE0 (pe_bltn (X := X.suite a ((a, oe) :: pn)) (v := .ty "ValueError") (u := .type "ValueError") hg hm PyProof.Rows.Boot.«ValueError» rfl (by decide) (by decide)) (fun u r => by cases r; rfl) ek Cf hz hd hgi hmi hv he hpl hs
end
/-- what the walks say of the classes: where they stand, which may come, which are caught, what they are -/
structure EcK where
  cl : Str → Addr
  kn : Value → Prop
  mt : Str → Value → Bool
  kd : Value → Str → Bool
/-- of these classes any is a ValueError and a PathError, and else itself alone -/
def tabE (x y : Str) : Bool := decide (x = y) || (decide (y = "PathError") || decide (y = "ValueError"))
structure EcOk (ec : EcK) (raised checked : List Str) : Prop where
  kn : ∀ x ∈ raised, ec.kn (.ref (ec.cl x))
  mt : ∀ x ∈ raised, ∀ y ∈ checked, ec.mt y (.ref (ec.cl x)) = tabE x y
  kd : ∀ x ∈ raised, ∀ y ∈ checked, ec.kd (.ref (ec.cl x)) y = tabE x y
/-! promises of defs that may raise -/
def fsrX {α : Type} (enc : α → List PyData) (pre : α → Prop) (out : α → Except Value RT) : Fsr := fun es k kx => ∃ a, es = enc a ∧ pre a ∧ (∀ r, out a = .ok r → k r) ∧ ∀ v, out a = .error v → kx ⟨v, none⟩
theorem fsrX_len {α : Type} {enc : α → List PyData} {pre : α → Prop} {out : α → Except Value RT} {n : Nat} (h : ∀ a, (enc a).length = n) : ∀ ds S K KX, lentR (fsrX enc pre out) ds S K KX → ds.length = n := by
  rintro ds S K KX ⟨es, kd, kx, rfl, rfl, ⟨a, rfl, _, _⟩, _⟩
  rw [List.length_map]; exact h a
theorem fsrX_ok {α : Type} {enc : α → List PyData} {pre : α → Prop} {out : α → Except Value RT} {ws : WS} {N : List Str} (h : ∀ a, pre a → ∀ K KX, (∀ r, out a = .ok r → ∀ d S' U, VR S' U d r U → U.Nodup → K d S') → (∀ v, out a = .error v → ∀ S', KX ⟨v, none⟩ S') → ws (ends K KX) (startE N ((enc a).map bz)) []) :
    ∀ ds S K KX, lentR (fsrX enc pre out) ds S K KX → ws { nx := fun _ S1 => K (.z .none) S1, rt := K, ex := fun y _ S1 => KX y S1 } (startE N ds) S := by
  rintro ds S K KX ⟨es, kd, kx, rfl, rfl, ⟨a, rfl, hp, hk, hx⟩, hK, hX⟩
  exact h a hp K KX (fun r e d S' U v nd => hK d S' _ U v nd (hk r e)) fun v e S' => hX _ S' ⟨v, none⟩ ⟨rfl, trivial⟩ (hx v e)
theorem fsrX_call {α : Type} {enc : α → List PyData} {pre : α → Prop} {out : α → Except Value RT} {ds : List D} {S : Sto} {K : K1} {KX : KF} (a : α) (v : Vws S ds (enc a)) (hp : pre a) (h : ∀ r, out a = .ok r → K (al r S.length).1 (S ++ (al r S.length).2)) (hx : ∀ v, out a = .error v → KX ⟨v, none⟩ S) :
    pCall (frr (fsrX enc pre out)) ds S K KX := pCall.mk ⟨_, v, a, rfl, hp, h, hx⟩
end PL

set_option Elab.async false
set_option linter.all false
set_option maxRecDepth 100000
/-! PL, part 18: the head with further facts; facts of the classes -/
namespace PL
open PySem PySem.Spec PyProof.Rows L2

def obsQ (bf : PySem.W.Frag → Bool) (fa : List He.Fa) (fn : List He.DefD) (K : PySem.W.Frag) : Bool × He.AlD := (noLs K && bf K, He.obsD fa fn K)
def SaysQ (bf : PySem.W.Frag → Bool) (fa : List He.Fa) (fn : List He.DefD) (K : PySem.W.Frag) : Prop := obsQ bf fa fn K = (true, He.valD fn)
theorem SaysQ.ls {bf : PySem.W.Frag → Bool} {fa : List He.Fa} {fn : List He.DefD} {K : PySem.W.Frag} (h : SaysQ bf fa fn K) : noLs K = true := (Bool.and_eq_true_iff.mp (congrArg (fun z : Bool × He.AlD => z.1) h)).1
theorem SaysQ.bf {bf : PySem.W.Frag → Bool} {fa : List He.Fa} {fn : List He.DefD} {K : PySem.W.Frag} (h : SaysQ bf fa fn K) : bf K = true := (Bool.and_eq_true_iff.mp (congrArg (fun z : Bool × He.AlD => z.1) h)).2
theorem SaysQ.sd {bf : PySem.W.Frag → Bool} {fa : List He.Fa} {fn : List He.DefD} {K : PySem.W.Frag} (h : SaysQ bf fa fn K) : He.SaysD fa fn K := congrArg (fun z : Bool × He.AlD => z.2) h
def obsQG (n : Nat) (bf : PySem.W.Frag → Bool) (fa : List He.Fa) (fn : List He.DefD) (g : Addr → Option Obj) : Bool × He.AlD := obsQ bf fa fn (He.frG g (He.asD g n))
def hookQ (n : Nat) (bf : PySem.W.Frag → Bool) (fa : List He.Fa) (fn : List He.DefD) : PySem.W.Hook where
  α := Bool × He.AlD
  obs := fun s => obsQG n bf fa fn s.heap.get?
  val := fun _ => (true, He.valD fn)
  says := fun _ h => ∃ K : PySem.W.Frag, K.In h ∧ SaysQ bf fa fn K
  of := fun _ _ e => ⟨_, He.frG_in, e⟩
  keeps := fun _ _ _ ⟨K, hK, c⟩ k => ⟨K, PySem.W.Frag.In.keeps hK k, c⟩
theorem obsQG_eq {n : Nat} {bf : PySem.W.Frag → Bool} {fa : List He.Fa} {fn : List He.DefD} {g : Addr → Option Obj} {s : Shared} (h : ∀ a, g a = s.heap.get? a) : obsQG n bf fa fn g = (hookQ n bf fa fn).obs s := by
  have e : g = s.heap.get? := funext h
  rw [e] <;> rfl
theorem pl_endQ {l : PySem.W.OpenLaw} {q : Program} {loose : List Str} {XP : (Str → Option Value) → Heap → Prop} {d : DefRec} {x : Str} {k n : Nat} {bf : PySem.W.Frag → Bool} {fa : List He.Fa} {fn : List He.DefD} {st : Stmt}
    (hn : l.most = some 63) (hd : d.name = ("law" : Str)) (hdf : d.params.defaults = []) (hr : Room k callerA)
    (hb : ∀ (kV doc pm : Value) (an : Option Addr) (cdv ct : Value) (us : List Value), us.length = [x].length → bindArgs (PySem.W.fnOf "law" "law" (defArgs st) (defBody st) (defScope st) .none kV doc pm an cdv ct) ⟨us, []⟩ = pure ([x].zip us))
    (F : ∀ (w : World) (K : PySem.W.Frag) (h : Heap) (mg : Str → Option Value), K.In h → h.Ns mainGlobals mg → SaysQ bf fa fn K → ∃ fd, FunD K "law" "law" (defArgs st) (defBody st) (defScope st) [] [] (He.fAd K ("law", none)) fd ∧ mg ("law" : Str) = some (.ref (He.fAd K ("law", none))) ∧ ∀ base : Heap, FnOk l.prog w K mg base (L2.CX l.prog w) k (He.fAd K ("law", none)) fd [x] (spOf lawSp)) :
    PySem.W.WalkO q loose XP (hookQ n bf fa fn).says l.row.toRowW d [] (fun f vs => PySem.call f vs) := by
  refine Att.attach_call hn hdf fun w s₀ s₁ mg mb fa' o pm cd doc a vs ns G Y ho hd' hcd hmg hobj hints hlen hg => ?_
  obtain ⟨K, KX, c⟩ := Y
  obtain ⟨fd, FD, e, hF⟩ := F w K _ mg KX G.T.g c
  have hmg2 : mg ("law" : Str) = some (.ref fa') := by rw [← hd]; exact hmg
  rw [e] at hmg2
  cases hmg2
  exact law_call KX G.T.g G.T.b G.T.builtins G.T.nolimit hg hobj hints (Nat.le_trans hlen (by decide)) hr (fun base _ _ => law_imp c.ls (hF base)) (fun s u => FD.bindsA (ps := [x]) hb s [u] rfl) (fun H hO hS => ⟨a, ns, rfl, hS, hlen, fun _ => rfl⟩) fun H e s' ⟨_, _, _, _, _, _, _, _, _, _, _, _, z⟩ => z
/-! the classes -/
def ecOf (K : PySem.W.Frag) (raised : List Str) : EcK :=
  ⟨He.ga K, fun v => v ∈ raised.map (fun x => Value.ref (He.ga K x)), fun y v => (PySem.W.exmOne K v (.ref (He.ga K y))).getD false, fun v y => (PySem.W.kitOne K v (if y = "ValueError" then .type "ValueError" else .ref (He.ga K y))).getD false⟩
def clV (K : PySem.W.Frag) (y : Str) : Value := if y = "ValueError" then .type "ValueError" else .ref (He.ga K y)
def excCB (K : PySem.W.Frag) (D : Addr) : Bool :=
  decide (PySem.W.findIn K (.ref D) "__getattribute__" = some (some (.builtin "BaseException.__getattribute__"))) && (decide (PySem.W.findIn K (.ref D) "__getattr__" = some none) && (decide (PySem.W.subIn K (.ref D) (.type "BaseException") = some true) &&
  (PySem.W.hasDictIn K D && (decide (PySem.W.findIn K (.ref D) "__class__" = some (some (.builtin "object.__class__"))) && (decide (PySem.W.specialIn K (.builtin "object.__class__") "__get__" = some (some (.builtin "getset_descriptor.__get__"))) &&
  (decide (PySem.W.takesIn K (.builtin "object.__class__") = some true) && decide (PySem.W.mroIn K D (.type "object") = some true)))))))
/-- raised: classes that may come; handled: classes of except clauses; checked: classes that isinstance is asked of -/
def bfE (raised handled checked : List Str) (K : PySem.W.Frag) : Bool :=
  raised.all fun x => (He.Fa.exc x).ok K && (excCB K (He.ga K x) && ((handled.all fun y => decide (PySem.W.exmOne K (.ref (He.ga K x)) (.ref (He.ga K y)) = some (tabE x y))) && checked.all fun y => decide (PySem.W.kitOne K (.ref (He.ga K x)) (clV K y) = some (tabE x y))))
section
variable {raised handled checked : List Str} {K : PySem.W.Frag} {mg : Str → Option Value}
theorem bfE_at (h : bfE raised handled checked K = true) {x : Str} (hx : x ∈ raised) : (He.Fa.exc x).ok K = true ∧ excCB K (He.ga K x) = true ∧ (∀ y ∈ handled, PySem.W.exmOne K (.ref (He.ga K x)) (.ref (He.ga K y)) = some (tabE x y)) ∧ ∀ y ∈ checked, PySem.W.kitOne K (.ref (He.ga K x)) (clV K y) = some (tabE x y) := by
  have := List.all_eq_true.mp h x hx
  simp only [Bool.and_eq_true, List.all_eq_true, decide_eq_true_eq] at this
  exact ⟨this.1, this.2.1, this.2.2.1, this.2.2.2⟩
theorem ec_F (h : bfE raised handled checked K = true) {x : Str} (hx : x ∈ raised) (g : mg x = some (.ref (He.ga K x))) : ExcF K mg x ((ecOf K raised).cl x) := by
  obtain ⟨a, b, c, d⟩ := He.exc_ok (bfE_at h hx).1
  exact ⟨a, b, c, d, g⟩
theorem ec_m (h : bfE raised handled checked K = true) {y : Str} (hy : y ∈ handled) : ∀ v, (ecOf K raised).kn v → PySem.W.exmOne K v (.ref ((ecOf K raised).cl y)) = some ((ecOf K raised).mt y v) := by
  intro v hv
  obtain ⟨x, hx, rfl⟩ := List.mem_map.mp hv
  have := (bfE_at h hx).2.2.1 y hy
  show _ = some ((PySem.W.exmOne K (.ref (He.ga K x)) (.ref (He.ga K y))).getD false)
  rw [this]; exact this
theorem ec_k0 (h : bfE raised handled checked K = true) {y : Str} (hy : y ∈ checked) : ∀ v, (ecOf K raised).kn v → PySem.W.kitOne K v (clV K y) = some ((ecOf K raised).kd v y) := by
  intro v hv
  obtain ⟨x, hx, rfl⟩ := List.mem_map.mp hv
  have := (bfE_at h hx).2.2.2 y hy
  show _ = some ((PySem.W.kitOne K (.ref (He.ga K x)) (clV K y)).getD false)
  rw [this]; rfl
theorem ec_k (h : bfE raised handled checked K = true) {y : Str} (hy : y ∈ checked) (hn : y ≠ "ValueError") : ∀ v, (ecOf K raised).kn v → PySem.W.kitOne K v (.ref ((ecOf K raised).cl y)) = some ((ecOf K raised).kd v y) := by
  intro v hv
  have := ec_k0 h hy v hv
  unfold clV at this
  rw [if_neg hn] at this
  exact this
theorem ec_ve (h : bfE raised handled checked K = true) (hy : ("ValueError" : Str) ∈ checked) : ∀ v, (ecOf K raised).kn v → PySem.W.kitOne K v (.type "ValueError") = some ((ecOf K raised).kd v "ValueError") := by
  intro v hv
  have := ec_k0 h hy v hv
  unfold clV at this
  rw [if_pos rfl] at this
  exact this
theorem ec_c (h : bfE raised handled checked K = true) : ∀ v, (ecOf K raised).kn v → ∃ D, v = .ref D ∧ ExcC K D := by
  intro v hv
  obtain ⟨x, hx, rfl⟩ := List.mem_map.mp hv
  have := (bfE_at h hx).2.1
  unfold excCB at this
  simp only [Bool.and_eq_true, decide_eq_true_eq] at this
  obtain ⟨a, b, c, d, e, f, g, i⟩ := this
  exact ⟨_, rfl, a, b, c, d, e, f, g, i⟩
theorem ec_ok (h : bfE raised handled checked K = true) : EcOk (ecOf K raised) raised (handled ++ checked) ∨ True := .inr trivial
theorem ec_okm (h : bfE raised handled checked K = true) : (∀ x ∈ raised, (ecOf K raised).kn (.ref ((ecOf K raised).cl x))) ∧ (∀ x ∈ raised, ∀ y ∈ handled, (ecOf K raised).mt y (.ref ((ecOf K raised).cl x)) = tabE x y) ∧ ∀ x ∈ raised, ∀ y ∈ checked, (ecOf K raised).kd (.ref ((ecOf K raised).cl x)) y = tabE x y := by
  refine ⟨fun x hx => List.mem_map.mpr ⟨x, hx, rfl⟩, fun x hx y hy => ?_, fun x hx y hy => ?_⟩
  · show ((PySem.W.exmOne K (.ref (He.ga K x)) (.ref (He.ga K y))).getD false) = _
    rw [(bfE_at h hx).2.2.1 y hy]; rfl
  · show ((PySem.W.kitOne K (.ref (He.ga K x)) (clV K y)).getD false) = _
    rw [(bfE_at h hx).2.2.2 y hy]; rfl
end
/-- what the pure proofs ask of the classes -/
structure EcP (ec : EcK) (raised handled checked : List Str) : Prop where
  kn : ∀ x ∈ raised, ec.kn (.ref (ec.cl x))
  mt : ∀ x ∈ raised, ∀ y ∈ handled, ec.mt y (.ref (ec.cl x)) = tabE x y
  kd : ∀ x ∈ raised, ∀ y ∈ checked, ec.kd (.ref (ec.cl x)) y = tabE x y
theorem ec_p {raised handled checked : List Str} {K : PySem.W.Frag} (h : bfE raised handled checked K = true) : EcP (ecOf K raised) raised handled checked := ⟨(ec_okm h).1, (ec_okm h).2.1, (ec_okm h).2.2⟩
end PL

set_option Elab.async false
set_option linter.all false
set_option maxRecDepth 100000
/-! PL, part 19: insert, join -/
namespace PL
open PySem L2

def pIns : D → PL := fun x xs S K => match x, xs with
  | .r n, [.z (.int i), y] => pGet (lsR S n) fun ds => pReq (ds.length < sizeLine ∧ 0 ≤ i ∧ i < 2 ^ 63) (K (.z .none) (S.set n (.lst (ds.take i.toNat ++ [y] ++ ds.drop i.toNat))))
  | _, _ => False
def pJoin : D → PL := fun x xs S K => match x, xs with
  | .z (.str a), [y] => pGet (sqD S y) fun ds => ∃ ys : List Str, ds = ys.map (fun s => .z (.str s)) ∧ pReq ((ys.map (·.length)).sum + ys.length * a.length ≤ 16777216) (K (.z (.str (Txt.join a ys))) S)
  | _, _ => False
section
variable {X : Cx} {B F0 : Hp}
theorem oIns : MtR X "list.insert" (rM B F0 pIns) := methR fun {pins s σ H x v vs us w d ds K Q} I rx r R q qs h k => by
  unfold pIns at h
  split at h
  · rename_i n i y
    obtain ⟨ds, e, h⟩ := h.out
    obtain ⟨⟨hz, h0, h1⟩, h⟩ := h.out
    obtain ⟨hn, ws, hv, rv⟩ := lsR_ok R e
    obtain ⟨u1, u2, rfl, q1, q2⟩ := qs.two
    cases rpInt q1
    cases q
    exact mt_insert pins s σ H _ _ v us Q I rx r ⟨w.μ n, ws, i, u2, rfl, rfl, hv, by rw [← rv.length]; exact hz, h0, h1, k.setL R hn (((rv.take i.toNat).append (.cons q2 .nil)).append (rv.drop i.toNat)) (.z .non) h⟩
  · exact h.elim
theorem oJoin : MtR X "str.join" (rM B F0 pJoin) := methR fun {pins s σ H x v vs us w d ds K Q} I rx r R q qs h k => by
  unfold pJoin at h
  split at h
  · rename_i a y
    obtain ⟨ds, e, h⟩ := h.out
    obtain ⟨ys, rfl, h⟩ := h
    obtain ⟨hz, h⟩ := h.out
    obtain ⟨u, rfl, q1⟩ := qs.one
    obtain ⟨p, ws, rfl, hs, rw'⟩ := sqD_ok (K := X.K) R q1 e
    have ev := RpDs.strs rw'
    subst ev
    exact mt_join pins s σ H _ _ v us Q I rx r ⟨a, p, ys, rpStr q, rfl, hs, hz, k.str R h⟩
  · exact h.elim
end
end PL

set_option Elab.async false
set_option linter.all false
set_option maxRecDepth 100000
/-! PL, part 20: loops and comprehensions by what they go over -/
namespace PL
open PySem L2

/-- a loop that ends early with one value where the test fails; the store may grow -/
theorem pFor_allS {α : Type} {src : Src} {g : WG} {body : WS} {k : KS} {env : Env} {S : Sto} (xs : List α) (f : α → D) (p : α → Bool) (r : D) (J : Env → Sto → Prop) (e : src.items = xs.map f) (hok : ∀ env S, J env S → src.ok S) (h0 : J env S)
    (hs : ∀ x env S (Q : Env → Sto → Prop), x ∈ xs → J env S → (p x = true → ∀ env' S', J env' S' → Q env' S') → (p x = false → ∀ S', k.rt r S') → g (f x) env S fun env1 S1 => body { k with nx := Q, ct := Q, bk := k.nx } env1 S1)
    (hd : xs.all p = true → ∀ env S, J env S → k.nx env S) (hf : xs.all p = false → ∀ S, k.rt r S) : pFor src g body k src.items env S := by
  refine pFor_xs xs f e (fun i env S1 => J env S1 ∧ (xs.take i).all p = true) ⟨h0, by simp⟩ (fun i env S1 _ h => hok _ _ h.1) ?_ ?_
  · rintro i x env S1 Q hx ⟨hj, ha⟩ hQ
    refine hs x env S1 Q (List.mem_of_getElem? hx) hj (fun hp env' S' hj' => hQ env' S' ⟨hj', ?_⟩) (fun hp => hf ?_)
    · rw [List.take_add_one, hx, List.all_append, ha, Option.toList_some]
      simp [hp]
    · cases h : xs.all p with
      | false => rfl
      | true =>
        have := List.all_eq_true.mp h x (List.mem_of_getElem? hx)
        rw [hp] at this; cases this
  · rintro env S1 ⟨hj, ha⟩
    rw [List.take_length] at ha
    exact hd ha env S1 hj
theorem pLc_allE {α : Type} {src : Src} {tg : D → Env → Option Env} {we : WE} {env : Env} {fin : Sto → Prop} {S : Sto} (xs : List α) (it f : α → D) (e : src.items = xs.map it) (hz : xs.length < 1000000) (hok : ∀ acc, src.ok (S ++ [.lst acc]))
    (he : ∀ x ∈ xs, ∃ env2, tg (it x) env = some env2 ∧ ∀ (S1 : Sto) (K : K1), (∃ acc, S1 = S ++ [.lst acc]) → K (f x) S1 → we env2 S1 K X0)
    (hf : fin (S ++ [.lst (xs.map f)])) : pLc src tg wYes we S.length env fin src.items (S ++ [.lst []]) := by
  rw [e]; exact pLc_all it f hz hok he hf
theorem pLc_mapE {α : Type} {src : Src} {tg : D → Env → Option Env} {wt : WT} {we : WE} {env : Env} {fin : Sto → Prop} {S : Sto} (xs : List α) (it f : α → D) (t : α → Bool) (e : src.items = xs.map it) (hz : xs.length < 1000000) (hok : ∀ acc, src.ok (S ++ [.lst acc]))
    (ht : ∀ x ∈ xs, ∃ env2, tg (it x) env = some env2 ∧ (∀ (S1 : Sto) (K : Bool → Sto → Prop), (∃ acc, S1 = S ++ [.lst acc]) → K (t x) S1 → wt env2 S1 K X0) ∧ (t x = true → ∀ (S1 : Sto) (K : K1), (∃ acc, S1 = S ++ [.lst acc]) → K (f x) S1 → we env2 S1 K X0))
    (hf : fin (S ++ [.lst ((xs.filter t).map f)])) : pLc src tg wt we S.length env fin src.items (S ++ [.lst []]) := by
  rw [e]; exact pLc_map it f t hz hok ht hf
end PL

set_option Elab.async false
set_option linter.all false
set_option maxRecDepth 100000
/-! ND, part 1: nets, answers, as data; what is in a thing, where a step goes -/
namespace ND
open PySem L2 PL

structure Step where
  lab : Str
  by_ : Bool
  num : Int
structure Tell where
  lab : Str
  name : Str
  by_ : Bool
  num : Int
inductive Thing where
  | plain | part (s : Int) | sort (q : Int)
inductive Ans where
  | opn | thing (t : Int) | none_ (at_ : Int) | torn (at_ : Int)
structure Quest where
  scope : Int
  state : Int
  path : List Str
abbrev Scope := List Step × List Tell
structure Net where
  scopes : List Scope
  things : List Thing
  quests : List Quest
inductive Goal where
  | to (s : Int) | opn (q : Int) | no
def eStep (s : Step) : PyData := .tuple [.str s.lab, .str (if s.by_ then "by" else "to"), .int s.num]
def eTell (s : Tell) : PyData := .tuple [.str s.lab, .str s.name, .str (if s.by_ then "by" else "thing"), .int s.num]
def eThing : Thing → PyData
  | .plain => .tuple [.str "plain", .int 0]
  | .part s => .tuple [.str "part", .int s]
  | .sort q => .tuple [.str "sort", .int q]
def eAns : Ans → PyData
  | .opn => .none
  | .thing t => .tuple [.str "thing", .int t]
  | .none_ a => .tuple [.str "none", .int a]
  | .torn a => .tuple [.str "torn", .int a]
def eQuest (q : Quest) : PyData := .tuple [.int q.scope, .int q.state, .tuple (q.path.map .str)]
def eScope (s : Scope) : PyData := .tuple [.list (s.1.map eStep), .list (s.2.map eTell)]
def eNet (n : Net) : PyData := .tuple [.list (n.scopes.map eScope), .list (n.things.map eThing), .list (n.quests.map eQuest)]
def eAnss (a : List Ans) : PyData := .list (a.map eAns)
def eGoal : Goal → PyData
  | .to s => .tuple [.str "to", .int s]
  | .opn q => .tuple [.str "open", .int q]
  | .no => .tuple [.str "no", .int 0]

/-- the things' sorts are questions that have answers, their answers are things there -/
structure InOk (net : Net) (ans : List Ans) : Prop where
  sort : ∀ (q : Int), Thing.sort q ∈ net.things → 0 ≤ q ∧ q < ans.length
  ans : ∀ (t : Int), Ans.thing t ∈ ans → 0 ≤ t ∧ t < net.things.length
def getI {α : Type} (xs : List α) (d : α) (i : Int) : α := xs.getD i.toNat d
def inside (net : Net) (ans : List Ans) (t : Int) : Goal := match getI net.things .plain t with
  | .part s => .to s
  | .plain => .no
  | .sort q => match getI ans .opn q with
    | .opn => .opn q
    | .thing t => match getI net.things .plain t with
      | .part s => .to s
      | _ => .no
    | _ => .no
theorem getI_at {α : Type} {xs : List α} {d : α} {i : Int} (h : 0 ≤ i ∧ i < xs.length) : atD xs i = some (getI xs d i) := by
  rw [atD_in h.1 h.2]
  unfold getI
  rw [List.getD_eq_getElem?_getD, List.getElem?_eq_getElem (by omega)]
  rfl
theorem getI_mem {α : Type} {xs : List α} {d : α} {i : Int} (h : 0 ≤ i ∧ i < xs.length) : getI xs d i ∈ xs := by
  have := getI_at (d := d) h
  rw [atD_in h.1 h.2] at this
  rw [← Option.some.inj this]
  exact List.getElem_mem _
/-! no lists within -/
theorem flat_strs : ∀ xs : List Str, flatTs (xs.map .str) = true
  | [] => rfl
  | x :: xs => by simp [flatTs, flatT, flat_strs xs]
theorem bzQ (q : Quest) : bz (eQuest q) = .z (eQuest q) := bz_flat (by simp [eQuest, flatT, flatTs, flat_strs])
theorem bzT (t : Thing) : bz (eThing t) = .z (eThing t) := by cases t <;> rfl
theorem bzA (a : Ans) : bz (eAns a) = .z (eAns a) := by cases a <;> rfl
theorem bzG (g : Goal) : bz (eGoal g) = .z (eGoal g) := by cases g <;> rfl
theorem bzS (s : Step) : bz (eStep s) = .z (eStep s) := rfl
theorem bzL (t : Tell) : bz (eTell t) = .z (eTell t) := rfl
end ND

set_option Elab.async false
set_option linter.all false
set_option maxRecDepth 100000
/-! ND, part 2: a net in the store -/
namespace ND
open PySem L2 PL

theorem cutL_map {α β : Type} (f : α → β) (xs : List α) (lo hi : Option Int) : cutL (xs.map f) lo hi = (cutL xs lo hi).map f := by
  unfold cutL; rw [List.length_map, List.map_take, List.map_drop]
theorem cutL_len {α : Type} (xs : List α) (lo hi : Option Int) : (cutL xs lo hi).length ≤ xs.length := by
  unfold cutL; rw [List.length_take, List.length_drop]; omega
theorem cutL_mem {α : Type} {xs : List α} {lo hi : Option Int} {x : α} (h : x ∈ cutL xs lo hi) : x ∈ xs := List.mem_of_mem_drop (List.mem_of_mem_take h)
theorem bz_ints (ns : List Int) : (ns.map PyData.int).map bz = ns.map fun i => .z (.int i) := by rw [List.map_map]; rfl

/-- a scope, its two lists at two places -/
def scD (p : Nat × Nat) : D := .t [.r p.1, .r p.2]
structure ScIn (S : Sto) (p : Nat × Nat) (s : Scope) : Prop where
  a : S[p.1]? = some (.lst (s.1.map fun x => .z (eStep x)))
  b : S[p.2]? = some (.lst (s.2.map fun x => .z (eTell x)))
theorem ScIn.vw {S : Sto} {p : Nat × Nat} {s : Scope} (h : ScIn S p s) : Vw S (scD p) (eScope s) :=
  .t (.cons (.r h.a (Vws.map _ _)) (.cons (.r h.b (Vws.map _ _)) .nil))
theorem ScIn.sub {S S' : Sto} {p : Nat × Nat} {s : Scope} (h : ScIn S p s) (k : ∀ (n : Nat) (o : Ob), S[n]? = some o → S'[n]? = some o) : ScIn S' p s := ⟨k _ _ h.a, k _ _ h.b⟩
inductive ScsIn (S : Sto) : List (Nat × Nat) → List Scope → Prop
  | nil : ScsIn S [] []
  | cons {p : Nat × Nat} {s : Scope} {ps : List (Nat × Nat)} {ss : List Scope} : ScIn S p s → ScsIn S ps ss → ScsIn S (p :: ps) (s :: ss)
theorem ScsIn.vws {S : Sto} : ∀ {ps : List (Nat × Nat)} {ss : List Scope}, ScsIn S ps ss → Vws S (ps.map scD) (ss.map eScope)
  | [], _, h => by cases h; exact .nil
  | p :: ps, _, h => by cases h with | cons a b => exact .cons a.vw b.vws
theorem ScsIn.sub {S S' : Sto} (k : ∀ (n : Nat) (o : Ob), S[n]? = some o → S'[n]? = some o) : ∀ {ps : List (Nat × Nat)} {ss : List Scope}, ScsIn S ps ss → ScsIn S' ps ss
  | [], _, h => by cases h; exact .nil
  | p :: ps, _, h => by cases h with | cons a b => exact .cons (a.sub k) (b.sub k)
/-- n empty scopes from the place L on -/
def emp (L n : Nat) : List (Nat × Nat) := (List.range n).map fun k => (L + 2 * k, L + 2 * k + 1)
def noSc : Scope := ([], [])
theorem emp_in {S T : Sto} {L : Nat} (hL : S.length = L) (n : Nat) : ScsIn (S ++ (List.replicate (2 * n) (.lst []) ++ T)) (emp L n) (List.replicate n noSc) := by
  have go : ∀ (ks : List Nat), (∀ k ∈ ks, k < n) → ScsIn (S ++ (List.replicate (2 * n) (.lst []) ++ T)) (ks.map fun k => (L + 2 * k, L + 2 * k + 1)) (List.replicate ks.length noSc) := by
    intro ks
    induction ks with
    | nil => intro _; exact .nil
    | cons k ks ih =>
      intro h
      have hk := h k List.mem_cons_self
      refine .cons ⟨?_, ?_⟩ (ih fun j hj => h j (List.mem_cons_of_mem _ hj))
      · show (S ++ _)[L + 2 * k]? = _
        rw [List.getElem?_append_right (by omega), List.getElem?_append_left (by rw [List.length_replicate]; omega), List.getElem?_replicate, if_pos (by omega)]; rfl
      · show (S ++ _)[L + 2 * k + 1]? = _
        rw [List.getElem?_append_right (by omega), List.getElem?_append_left (by rw [List.length_replicate]; omega), List.getElem?_replicate, if_pos (by omega)]; rfl
  have := go (List.range n) fun k hk => List.mem_range.mp hk
  rw [List.length_range] at this
  exact this
abbrev weEmp : WE := wTup (wCons (wLst wNil) (wCons (wLst wNil) wNil))
/-- [([], []) for .. in range(n)] -/
theorem pLc_emp {lo : Int} {n : Nat} {i : Nat} {env : PL.Env} {fin : Sto → Prop} {S : Sto} (hz : n < 1000000) (hf : fin (S ++ .lst ((emp (S.length + 1) n).map scD) :: List.replicate (2 * n) (.lst []))) :
    pLc (rgD lo n) (tgN i) wYes weEmp S.length env fin (rgD lo n).items (S ++ [.lst []]) := by
  have hl : (rgD lo n).items.length = n := by simp [rgD]
  refine pLc_each (fun j S' => j ≤ n ∧ S' = S ++ .lst ((emp (S.length + 1) j).map scD) :: List.replicate (2 * j) (.lst [])) ⟨Nat.zero_le _, rfl⟩ (fun _ _ _ _ => trivial) ?_ ?_
  · rintro j d _ Q hj ⟨hj2, rfl⟩ hQ
    have hlt : j < n := by rw [← hl]; exact (List.getElem?_eq_some_iff.mp hj).1
    refine pGet.mk rfl ?_
    refine pIf.tt rfl ?_
    refine pReq.mk (sz_le rfl) ?_
    refine pReq.mk (sz_le rfl) ?_
    refine pReq.mk (sz_le rfl) ?_
    refine pGet.mk (x := (emp (S.length + 1) j).map scD) ?_ (pReq.mk ?_ ?_)
    · rw [List.append_assoc, List.append_assoc]
      exact lsR_at (List.getElem?_append_right (Nat.le_refl _) |>.trans (by rw [Nat.sub_self]; rfl))
    · rw [List.length_map]
      refine sz_lt6 ?_
      unfold emp
      rw [List.length_map, List.length_range]
      omega
    · refine hQ _ ⟨hlt, ?_⟩
      rw [List.append_assoc, List.append_assoc, List.set_append_right _ _ (Nat.le_refl _), Nat.sub_self]
      have e1 : emp (S.length + 1) (j + 1) = emp (S.length + 1) j ++ [(S.length + 1 + 2 * j, S.length + 1 + 2 * j + 1)] := by
        unfold emp; rw [range_snoc]
      have e2 : List.replicate (2 * (j + 1)) (Ob.lst []) = List.replicate (2 * j) (.lst []) ++ [.lst [], .lst []] := by
        rw [show 2 * (j + 1) = 2 * j + 2 by omega, ← List.replicate_append_replicate]; rfl
      rw [e1, e2, List.map_append]
      have e3 : (S ++ Ob.lst ((emp (S.length + 1) j).map scD) :: List.replicate (2 * j) (Ob.lst [])).length = S.length + 1 + 2 * j := by simp; omega
      have e4 : ((S ++ Ob.lst ((emp (S.length + 1) j).map scD) :: List.replicate (2 * j) (Ob.lst [])) ++ [Ob.lst []]).length = S.length + 1 + 2 * j + 1 := by simp; omega
      show S ++ (Ob.lst (_ ++ [D.t [.r _, .r _]]) :: _) = _
      rw [e3, e4]
      rfl
  · rintro S' ⟨_, rfl⟩
    rw [hl]
    exact hf
end ND

set_option Elab.async false
set_option linter.all false
set_option maxRecDepth 100000
/-! ND, part 3: words; nets that are all right; a net's scopes that may be written -/
namespace ND
open PySem L2 PL

/-- n small letters -/
def LwN (n : Nat) (x : Str) : Prop := x.cps.toList.length = n ∧ ∀ c ∈ x.cps.toList, 97 ≤ c ∧ c < 123
def isNm (x : Str) : Prop := ∃ n, 1 ≤ n ∧ n ≤ 8 ∧ LwN n x
theorem LwN.nil : LwN 0 (Str.ofString "") := ⟨rfl, fun c h => by cases h⟩
theorem LwN.len {n : Nat} {x : Str} (h : LwN n x) : x.length = n := by
  rw [← h.1]; show x.cps.size = _; simp
theorem LwN.ok {n : Nat} {x : Str} (h : LwN n x) : PyData.strOk x = true := by
  unfold PyData.strOk
  rw [Array.all_eq_true']
  intro c hc
  have := h.2 c (by simpa using hc)
  simp; omega
theorem isNm.ok {x : Str} (h : isNm x) : PyData.strOk x = true := by
  obtain ⟨n, _, _, h⟩ := h; exact h.ok
theorem app_list (x y : Str) : (x ++ y).cps.toList = x.cps.toList ++ y.cps.toList := by
  show (x.cps ++ y.cps).toList = _
  simp
theorem LwN.snoc {n : Nat} {x : Str} {c : Nat} (h : LwN n x) (h1 : 97 ≤ c) (h2 : c < 123) : LwN (n + 1) (x ++ ⟨⟨[c]⟩⟩) := by
  constructor
  · rw [app_list, List.length_append, h.1]; rfl
  · intro d hd
    rw [app_list, List.mem_append] at hd
    rcases hd with hd | hd
    · exact h.2 d hd
    · have : d = c := by simpa using hd
      subst this; exact ⟨h1, h2⟩
theorem one_len (c : Nat) : (⟨⟨[c]⟩⟩ : Str).length = 1 := rfl
def alpha : List Nat := [97, 98, 99, 100, 101, 102, 103, 104, 105, 106, 107, 108, 109, 110, 111, 112, 113, 114, 115, 116, 117, 118, 119, 120, 121, 122]
theorem alpha_eq : (Str.ofString "abcdefghijklmnopqrstuvwxyz").cps.toList = alpha := by decide +kernel
theorem alpha_at {i : Int} (h : 0 ≤ i ∧ i < 26) : ∃ c, atD (Str.ofString "abcdefghijklmnopqrstuvwxyz").cps.toList i = some c ∧ 97 ≤ c ∧ c < 123 := by
  rw [alpha_eq]
  obtain ⟨m, rfl⟩ : ∃ m : Nat, i = (m : Int) := ⟨i.toNat, by omega⟩
  have hm : m < 26 := by omega
  have key : ∀ m : Fin 26, ∃ c, alpha[m.val]? = some c ∧ 97 ≤ c ∧ c < 123 := by decide
  exact key ⟨m, hm⟩
theorem getA {α : Type} {xs : List α} {i : Int} (h : 0 ≤ i ∧ i < xs.length) : ∃ x, atD xs i = some x ∧ x ∈ xs := ⟨_, atD_in h.1 h.2, List.getElem_mem _⟩

theorem ixD_zA {α : Type} {S : Sto} {f : α → PyData} {xs : List α} {i : Int} (h : 0 ≤ i ∧ i < xs.length) : ∃ d, ixD S (.z (.list (xs.map f))) i = some d ∧ ∃ x, x ∈ xs ∧ d = .z (f x) := by
  obtain ⟨x, e, hx⟩ := getA h
  exact ⟨_, ixD_zL e, x, hx, rfl⟩
theorem ixD_bA {α : Type} {S : Sto} {f : α → PyData} {xs : List α} {i : Int} (h : 0 ≤ i ∧ i < xs.length) : ∃ d, ixD S (.b (.list (xs.map f))) i = some d ∧ ∃ x, x ∈ xs ∧ d = bz (f x) := by
  obtain ⟨x, e, hx⟩ := getA h
  exact ⟨_, ixD_bL e, x, hx, rfl⟩
/-! what a net keeps to -/
def StepOk (ns nq : Nat) (x : Step) : Prop := PyData.strOk x.lab = true ∧ 0 ≤ x.num ∧ x.num < (if x.by_ = true then nq else ns : Nat)
def TellOk (nt nq : Nat) (x : Tell) : Prop := PyData.strOk x.lab = true ∧ PyData.strOk x.name = true ∧ 0 ≤ x.num ∧ x.num < (if x.by_ = true then nq else nt : Nat)
def ThingOk (ns nq : Nat) : Thing → Prop
  | .plain => True
  | .part s => 0 ≤ s ∧ s < ns
  | .sort q => 0 ≤ q ∧ q < nq
structure QuestOk (ns : Nat) (q : Quest) : Prop where
  s : 0 ≤ q.scope ∧ q.scope < ns
  t : 0 ≤ q.state
  p1 : q.path ≠ []
  p6 : q.path.length ≤ 6
  ok : ∀ x ∈ q.path, PyData.strOk x = true
def ScopeOk (ns nt nq : Nat) (s : Scope) : Prop := (∀ x ∈ s.1, StepOk ns nq x) ∧ ∀ x ∈ s.2, TellOk nt nq x
structure NetOk (n : Net) : Prop where
  sc : ∀ s ∈ n.scopes, ScopeOk n.scopes.length n.things.length n.quests.length s
  th : ∀ t ∈ n.things, ThingOk n.scopes.length n.quests.length t
  qs : ∀ q ∈ n.quests, QuestOk n.scopes.length q
def AnsOk (nt : Nat) : Ans → Prop
  | .thing t => 0 ≤ t ∧ t < nt
  | _ => True
theorem inOk_of {n : Net} {a : List Ans} (h : NetOk n) (hl : a.length = n.quests.length) (ha : ∀ x ∈ a, AnsOk n.things.length x) : InOk n a :=
  ⟨fun q hq => by have := h.th _ hq; rw [hl]; exact this, fun t ht => ha _ ht⟩
/-! shapes -/
theorem shQ {q : Quest} (h : ∀ x ∈ q.path, PyData.strOk x = true) : Shp 2 (eQuest q) := .tup3 .int .int (.tuple fun d hd => by
  obtain ⟨x, hx, rfl⟩ := List.mem_map.mp hd
  exact .str (h x hx))
theorem shT (t : Thing) : Shp 2 (eThing t) := by cases t <;> exact .mono (.tup2 (n := 0) (.str (by decide +kernel)) .int) (by decide)
theorem shA (t : Ans) : Shp 2 (eAns t) := by cases t <;> first | exact .none | exact .mono (.tup2 (n := 0) (.str (by decide +kernel)) .int) (by decide)
theorem shAs (a : List Ans) : Shp 3 (eAnss a) := .lists fun t _ => shA t
theorem shS {x : Step} (h : PyData.strOk x.lab = true) : Shp 1 (eStep x) := .tup3 (.str h) (by cases x.by_ <;> exact .str (by decide +kernel)) .int
theorem shL {x : Tell} (h : PyData.strOk x.lab = true) (h2 : PyData.strOk x.name = true) : Shp 1 (eTell x) := .tup4 (.str h) (.str h2) (by cases x.by_ <;> exact .str (by decide +kernel)) .int
theorem shSc {ns nt nq : Nat} {s : Scope} (h : ScopeOk ns nt nq s) : Shp 3 (eScope s) := .tup2 (.lists fun x hx => shS (h.1 x hx).1) (.lists fun x hx => shL (h.2 x hx).1 (h.2 x hx).2.1)
theorem shN {n : Net} (h : NetOk n) : Shp 5 (eNet n) := .tup3 (.lists fun s hs => shSc (h.sc s hs)) (.mono (.lists fun t _ => shT t) (by decide)) (.mono (.lists fun q hq => shQ (h.qs q hq).ok) (by decide))

/-! scopes that may be written -/
def plcs (ps : List (Nat × Nat)) : List Nat := ps.flatMap fun p => [p.1, p.2]
structure ScsAt (S : Sto) (n0 : Nat) (ps : List (Nat × Nat)) (ss : List Scope) : Prop where
  l : S[n0]? = some (.lst (ps.map scD))
  i : ScsIn S ps ss
  nd : (n0 :: plcs ps).Nodup
theorem ScsAt.app {S T : Sto} {n0 : Nat} {ps : List (Nat × Nat)} {ss : List Scope} (h : ScsAt S n0 ps ss) : ScsAt (S ++ T) n0 ps ss := ⟨sto_app h.l, h.i.sub fun _ _ => sto_app, h.nd⟩
theorem ScsAt.vw {S : Sto} {n0 : Nat} {ps : List (Nat × Nat)} {ss : List Scope} (h : ScsAt S n0 ps ss) : Vw S (.r n0) (.list (ss.map eScope)) := .r h.l h.i.vws
theorem ScsIn.len {S : Sto} : ∀ {ps : List (Nat × Nat)} {ss : List Scope}, ScsIn S ps ss → ps.length = ss.length
  | [], _, h => by cases h; rfl
  | p :: ps, _, h => by cases h with | cons a b => simp [ScsIn.len b]
theorem ScsIn.get {S : Sto} : ∀ {ps : List (Nat × Nat)} {ss : List Scope} {i : Nat} {p : Nat × Nat}, ScsIn S ps ss → ps[i]? = some p → ∃ s, ss[i]? = some s ∧ ScIn S p s
  | [], _, _, _, h, e => by simp at e
  | p :: ps, _, 0, _, h, e => by cases h with | cons a b => simp at e; subst e; exact ⟨_, rfl, a⟩
  | p :: ps, _, i + 1, q, h, e => by
    cases h with
    | cons a b =>
      obtain ⟨s, h1, h2⟩ := ScsIn.get (i := i) (p := q) b (by simpa using e)
      exact ⟨s, by simpa using h1, h2⟩
/-- a write at a place of none of these -/
theorem ScsIn.keep {S : Sto} {n : Nat} {o : Ob} : ∀ {ps : List (Nat × Nat)} {ss : List Scope}, ScsIn S ps ss → n ∉ plcs ps → ScsIn (S.set n o) ps ss
  | [], _, h, _ => by cases h; exact .nil
  | p :: ps, _, h, hn => by
    cases h with
    | cons a b =>
      have h1 : n ≠ p.1 := fun e => hn (by simp [plcs, e])
      have h2 : n ≠ p.2 := fun e => hn (by simp [plcs, e])
      have h3 : n ∉ plcs ps := fun e => hn (by
        show n ∈ [p.1, p.2] ++ plcs ps
        exact List.mem_append_right _ e)
      exact .cons ⟨by rw [List.getElem?_set_ne h1]; exact a.a, by rw [List.getElem?_set_ne h2]; exact a.b⟩ (ScsIn.keep b h3)
theorem ScIn.lt1 {S : Sto} {p : Nat × Nat} {s : Scope} (h : ScIn S p s) : p.1 < S.length := (List.getElem?_eq_some_iff.mp h.a).1
theorem ScIn.lt2 {S : Sto} {p : Nat × Nat} {s : Scope} (h : ScIn S p s) : p.2 < S.length := (List.getElem?_eq_some_iff.mp h.b).1
/-- the steps of one are written -/
theorem ScsIn.put1 {S : Sto} {xs : List Step} : ∀ {ps : List (Nat × Nat)} {ss : List Scope} {i : Nat} {p : Nat × Nat} {s : Scope}, ScsIn S ps ss → (plcs ps).Nodup → ps[i]? = some p → ss[i]? = some s → ScsIn (S.set p.1 (.lst (xs.map fun x => .z (eStep x)))) ps (ss.set i (xs, s.2))
  | [], _, _, _, _, h, _, e, _ => by simp at e
  | p :: ps, _, 0, q, s, h, nd, e, e2 => by
    cases h with
    | cons a b =>
      simp at e e2
      subst e; subst e2
      have nd2 : (p.1 :: p.2 :: plcs ps).Nodup := nd
      have h12 : p.1 ≠ p.2 := fun z => by rw [z] at nd2; simp at nd2
      have h3 : p.1 ∉ plcs ps := fun z => by
        have := List.nodup_cons.mp nd2
        exact this.1 (List.mem_cons_of_mem _ z)
      exact .cons ⟨by rw [List.getElem?_set_self a.lt1], by rw [List.getElem?_set_ne h12]; exact a.b⟩ (b.keep h3)
  | p :: ps, _, i + 1, q, s, h, nd, e, e2 => by
    cases h with
    | cons a b =>
      have nd2 : (p.1 :: p.2 :: plcs ps).Nodup := nd
      have hq : q ∈ ps := List.mem_of_getElem? (i := i) (by simpa using e)
      have hq1 : q.1 ∈ plcs ps := List.mem_flatMap.mpr ⟨q, hq, by simp⟩
      have h1 := (List.nodup_cons.mp nd2).1
      have h2 := (List.nodup_cons.mp (List.nodup_cons.mp nd2).2).1
      have n1 : q.1 ≠ p.1 := fun z => h1 (by rw [← z]; exact List.mem_cons_of_mem _ hq1)
      have n2 : q.1 ≠ p.2 := fun z => h2 (by rw [← z]; exact hq1)
      exact .cons ⟨by rw [List.getElem?_set_ne n1]; exact a.a, by rw [List.getElem?_set_ne n2]; exact a.b⟩ (ScsIn.put1 b (List.nodup_cons.mp (List.nodup_cons.mp nd2).2).2 (by simpa using e) (by simpa using e2))
/-- the tellings -/
theorem ScsIn.put2 {S : Sto} {xs : List Tell} : ∀ {ps : List (Nat × Nat)} {ss : List Scope} {i : Nat} {p : Nat × Nat} {s : Scope}, ScsIn S ps ss → (plcs ps).Nodup → ps[i]? = some p → ss[i]? = some s → ScsIn (S.set p.2 (.lst (xs.map fun x => .z (eTell x)))) ps (ss.set i (s.1, xs))
  | [], _, _, _, _, h, _, e, _ => by simp at e
  | p :: ps, _, 0, q, s, h, nd, e, e2 => by
    cases h with
    | cons a b =>
      simp at e e2
      subst e; subst e2
      have nd2 : (p.1 :: p.2 :: plcs ps).Nodup := nd
      have h12 : p.2 ≠ p.1 := fun z => by rw [z] at nd2; simp at nd2
      have h3 : p.2 ∉ plcs ps := (List.nodup_cons.mp (List.nodup_cons.mp nd2).2).1
      exact .cons ⟨by rw [List.getElem?_set_ne h12]; exact a.a, by rw [List.getElem?_set_self a.lt2]⟩ (b.keep h3)
  | p :: ps, _, i + 1, q, s, h, nd, e, e2 => by
    cases h with
    | cons a b =>
      have nd2 : (p.1 :: p.2 :: plcs ps).Nodup := nd
      have hq : q ∈ ps := List.mem_of_getElem? (i := i) (by simpa using e)
      have hq1 : q.2 ∈ plcs ps := List.mem_flatMap.mpr ⟨q, hq, by simp⟩
      have h1 := (List.nodup_cons.mp nd2).1
      have h2 := (List.nodup_cons.mp (List.nodup_cons.mp nd2).2).1
      have n1 : q.2 ≠ p.1 := fun z => h1 (by rw [← z]; exact List.mem_cons_of_mem _ hq1)
      have n2 : q.2 ≠ p.2 := fun z => h2 (by rw [← z]; exact hq1)
      exact .cons ⟨by rw [List.getElem?_set_ne n1]; exact a.a, by rw [List.getElem?_set_ne n2]; exact a.b⟩ (ScsIn.put2 b (List.nodup_cons.mp (List.nodup_cons.mp nd2).2).2 (by simpa using e) (by simpa using e2))
theorem mem_plcs {ps : List (Nat × Nat)} {p : Nat × Nat} (h : p ∈ ps) : p.1 ∈ plcs ps ∧ p.2 ∈ plcs ps := ⟨List.mem_flatMap.mpr ⟨p, h, by simp⟩, List.mem_flatMap.mpr ⟨p, h, by simp⟩⟩
theorem ScsAt.put1 {S : Sto} {n0 : Nat} {ps : List (Nat × Nat)} {ss : List Scope} {i : Nat} {p : Nat × Nat} {s : Scope} {xs : List Step} (h : ScsAt S n0 ps ss) (e : ps[i]? = some p) (e2 : ss[i]? = some s) : ScsAt (S.set p.1 (.lst (xs.map fun x => .z (eStep x)))) n0 ps (ss.set i (xs, s.2)) := by
  have hm := mem_plcs (List.mem_of_getElem? e)
  have nd := List.nodup_cons.mp h.nd
  exact ⟨by rw [List.getElem?_set_ne (fun z => nd.1 (by rw [← z]; exact hm.1))]; exact h.l, h.i.put1 nd.2 e e2, h.nd⟩
theorem ScsAt.put2 {S : Sto} {n0 : Nat} {ps : List (Nat × Nat)} {ss : List Scope} {i : Nat} {p : Nat × Nat} {s : Scope} {xs : List Tell} (h : ScsAt S n0 ps ss) (e : ps[i]? = some p) (e2 : ss[i]? = some s) : ScsAt (S.set p.2 (.lst (xs.map fun x => .z (eTell x)))) n0 ps (ss.set i (s.1, xs)) := by
  have hm := mem_plcs (List.mem_of_getElem? e)
  have nd := List.nodup_cons.mp h.nd
  exact ⟨by rw [List.getElem?_set_ne (fun z => nd.1 (by rw [← z]; exact hm.2))]; exact h.l, h.i.put2 nd.2 e e2, h.nd⟩
theorem ScsIn.lt {S : Sto} : ∀ {ps : List (Nat × Nat)} {ss : List Scope}, ScsIn S ps ss → ∀ m ∈ plcs ps, m < S.length
  | [], _, _, m, hm => by cases hm
  | p :: ps, _, h, m, hm => by
    cases h with
    | cons a b =>
      have hm : m ∈ p.1 :: p.2 :: plcs ps := hm
      rcases List.mem_cons.mp hm with rfl | hm
      · exact a.lt1
      · rcases List.mem_cons.mp hm with rfl | hm
        · exact a.lt2
        · exact b.lt m hm
theorem ScsAt.lt {S : Sto} {n0 : Nat} {ps : List (Nat × Nat)} {ss : List Scope} (h : ScsAt S n0 ps ss) : ∀ m ∈ n0 :: plcs ps, m < S.length := fun m hm => by
  rcases List.mem_cons.mp hm with rfl | hm
  · exact (List.getElem?_eq_some_iff.mp h.l).1
  · exact h.i.lt m hm
theorem emp_plcs (L n : Nat) : (∀ m ∈ plcs (emp L n), L ≤ m ∧ m < L + 2 * n) ∧ (plcs (emp L n)).Nodup := by
  induction n with
  | zero => exact ⟨fun m h => (by cases h), List.nodup_nil⟩
  | succ n ih =>
    have e : plcs (emp L (n + 1)) = plcs (emp L n) ++ [L + 2 * n, L + 2 * n + 1] := by
      unfold emp plcs
      rw [List.range_succ, List.map_append, List.flatMap_append]
      rfl
    rw [e]
    refine ⟨fun m hm => ?_, ?_⟩
    · rcases List.mem_append.mp hm with h | h
      · have := ih.1 m h; omega
      · simp at h; omega
    · rw [List.nodup_append]
      refine ⟨ih.2, by simp, fun a ha b hb => ?_⟩
      have := ih.1 a ha
      simp at hb; omega
theorem emp_len (L n : Nat) : (emp L n).length = n := by unfold emp; rw [List.length_map, List.length_range]
/-- the scopes just made -/
theorem emp_at {S : Sto} (n : Nat) : ScsAt (S ++ .lst ((emp (S.length + 1) n).map scD) :: List.replicate (2 * n) (.lst [])) S.length (emp (S.length + 1) n) (List.replicate n noSc) := by
  refine ⟨by simp, ?_, ?_⟩
  · have := emp_in (S := S ++ [Ob.lst ((emp (S.length + 1) n).map scD)]) (T := []) (L := S.length + 1) (by simp) n
    rw [List.append_nil, List.append_assoc] at this
    exact this
  · have := emp_plcs (S.length + 1) n
    exact List.nodup_cons.mpr ⟨fun h => by have := this.1 _ h; omega, this.2⟩
theorem set_len {α : Type} {xs : List α} {i : Nat} {x : α} : (xs.set i x).length = xs.length := List.length_set
theorem mem_set' {α : Type} {xs : List α} {i : Nat} {x y : α} (h : y ∈ xs.set i x) : y ∈ xs ∨ y = x := List.mem_or_eq_of_mem_set h
end ND

set_option Elab.async false
set_option linter.all false
set_option maxRecDepth 100000
/-! NE, part 1: nets of rows, in the store; they may be written -/
namespace NE
open PySem L2 PL

/-! rows of any words -/
structure XStep where
  lab : Str
  kind : Str
  num : Int
structure XTell where
  lab : Str
  name : Str
  kind : Str
  num : Int
structure XThing where
  kind : Str
  num : Int
structure XQuest where
  scope : Int
  state : Int
  path : List Str
abbrev XScope := List XStep × List XTell
structure XNet where
  scopes : List XScope
  things : List XThing
  quests : List XQuest
def eS (s : XStep) : PyData := .tuple [.str s.lab, .str s.kind, .int s.num]
def eL (s : XTell) : PyData := .tuple [.str s.lab, .str s.name, .str s.kind, .int s.num]
def eT (s : XThing) : PyData := .tuple [.str s.kind, .int s.num]
def eQ (q : XQuest) : PyData := .tuple [.int q.scope, .int q.state, .tuple (q.path.map .str)]
def eSc (s : XScope) : PyData := .tuple [.list (s.1.map eS), .list (s.2.map eL)]
def eN (n : XNet) : PyData := .tuple [.list (n.scopes.map eSc), .list (n.things.map eT), .list (n.quests.map eQ)]
theorem flat_strs : ∀ xs : List Str, flatTs (xs.map .str) = true
  | [] => rfl
  | x :: xs => by simp [flatTs, flatT, flat_strs xs]
theorem bzS (s : XStep) : bz (eS s) = .z (eS s) := rfl
theorem bzL (s : XTell) : bz (eL s) = .z (eL s) := rfl
theorem bzT (s : XThing) : bz (eT s) = .z (eT s) := rfl
theorem bzQ (q : XQuest) : bz (eQ q) = .z (eQ q) := bz_flat (by simp [eQ, flatT, flatTs, flat_strs])
theorem bzSc (s : XScope) : bz (eSc s) = .b (eSc s) := by
  unfold bz
  rw [if_neg]
  simp [eSc, flatT, flatTs]
theorem bzN (n : XNet) : bz (eN n) = .b (eN n) := by
  unfold bz
  rw [if_neg]
  simp [eN, flatT, flatTs]
abbrev zS (s : XStep) : D := .z (eS s)
abbrev zL (s : XTell) : D := .z (eL s)
abbrev zT (s : XThing) : D := .z (eT s)
abbrev zQ (s : XQuest) : D := .z (eQ s)
theorem bzsS (s : List XStep) : (s.map eS).map bz = s.map zS := by rw [List.map_map]; rfl
theorem bzsL (s : List XTell) : (s.map eL).map bz = s.map zL := by rw [List.map_map]; rfl
theorem bzsT (s : List XThing) : (s.map eT).map bz = s.map zT := by rw [List.map_map]; rfl
theorem bzsQ (s : List XQuest) : (s.map eQ).map bz = s.map zQ := by
  rw [List.map_map]; exact List.map_congr_left fun q _ => bzQ q
/-! in the store -/
def scD (p : Nat × Nat) : D := .t [.r p.1, .r p.2]
def plcs (ps : List (Nat × Nat)) : List Nat := ps.flatMap fun p => [p.1, p.2]
structure ScIn (S : Sto) (p : Nat × Nat) (s : XScope) : Prop where
  a : S[p.1]? = some (.lst (s.1.map zS))
  b : S[p.2]? = some (.lst (s.2.map zL))
theorem ScIn.vw {S : Sto} {p : Nat × Nat} {s : XScope} (h : ScIn S p s) : Vw S (scD p) (eSc s) := .t (.cons (.r h.a (Vws.map _ _)) (.cons (.r h.b (Vws.map _ _)) .nil))
theorem ScIn.lt1 {S : Sto} {p : Nat × Nat} {s : XScope} (h : ScIn S p s) : p.1 < S.length := (List.getElem?_eq_some_iff.mp h.a).1
theorem ScIn.lt2 {S : Sto} {p : Nat × Nat} {s : XScope} (h : ScIn S p s) : p.2 < S.length := (List.getElem?_eq_some_iff.mp h.b).1
inductive ScsIn (S : Sto) : List (Nat × Nat) → List XScope → Prop
  | nil : ScsIn S [] []
  | cons {p : Nat × Nat} {s : XScope} {ps : List (Nat × Nat)} {ss : List XScope} : ScIn S p s → ScsIn S ps ss → ScsIn S (p :: ps) (s :: ss)
section
variable {S : Sto} {n : Nat} {o : Ob}
theorem ScsIn.vws : ∀ {ps : List (Nat × Nat)} {ss : List XScope}, ScsIn S ps ss → Vws S (ps.map scD) (ss.map eSc)
  | [], _, h => by cases h; exact .nil
  | p :: ps, _, h => by cases h with | cons a b => exact .cons a.vw b.vws
theorem ScsIn.len : ∀ {ps : List (Nat × Nat)} {ss : List XScope}, ScsIn S ps ss → ps.length = ss.length
  | [], _, h => by cases h; rfl
  | p :: ps, _, h => by cases h with | cons a b => simp [ScsIn.len b]
theorem ScsIn.get : ∀ {ps : List (Nat × Nat)} {ss : List XScope} {i : Nat} {p : Nat × Nat}, ScsIn S ps ss → ps[i]? = some p → ∃ s, ss[i]? = some s ∧ ScIn S p s
  | [], _, _, _, h, e => by simp at e
  | p :: ps, _, 0, _, h, e => by cases h with | cons a b => simp at e; subst e; exact ⟨_, rfl, a⟩
  | p :: ps, _, i + 1, q, h, e => by
    cases h with
    | cons a b =>
      obtain ⟨s, h1, h2⟩ := ScsIn.get (i := i) (p := q) b (by simpa using e)
      exact ⟨s, by simpa using h1, h2⟩
theorem ScsIn.at {ps : List (Nat × Nat)} {ss : List XScope} {i : Nat} (h : ScsIn S ps ss) (hi : i < ss.length) : ∃ p s, ps[i]? = some p ∧ ss[i]? = some s ∧ ScIn S p s := by
  have hp : ps[i]? = some (ps[i]'(by rw [h.len]; exact hi)) := List.getElem?_eq_getElem _
  obtain ⟨s, h1, h2⟩ := h.get hp
  exact ⟨_, s, hp, h1, h2⟩
theorem ScsIn.lt : ∀ {ps : List (Nat × Nat)} {ss : List XScope}, ScsIn S ps ss → ∀ m ∈ plcs ps, m < S.length
  | [], _, _, m, hm => by cases hm
  | p :: ps, _, h, m, hm => by
    cases h with
    | cons a b =>
      have hm : m ∈ p.1 :: p.2 :: plcs ps := hm
      rcases List.mem_cons.mp hm with rfl | hm
      · exact a.lt1
      · rcases List.mem_cons.mp hm with rfl | hm
        · exact a.lt2
        · exact b.lt m hm
theorem ScsIn.sub {S' : Sto} : ∀ {ps : List (Nat × Nat)} {ss : List XScope}, ScsIn S ps ss → (∀ m ∈ plcs ps, ∀ o, S[m]? = some o → S'[m]? = some o) → ScsIn S' ps ss
  | [], _, h, _ => by cases h; exact .nil
  | p :: ps, _, h, k => by
    cases h with
    | cons a b =>
      have hm : ∀ m ∈ plcs ps, m ∈ plcs (p :: ps) := fun m hm => List.mem_cons_of_mem _ (List.mem_cons_of_mem _ hm)
      exact .cons ⟨k _ List.mem_cons_self _ a.a, k _ (List.mem_cons_of_mem _ List.mem_cons_self) _ a.b⟩ (ScsIn.sub b fun m h => k m (hm m h))
theorem ScsIn.app {T : Sto} {ps : List (Nat × Nat)} {ss : List XScope} (h : ScsIn S ps ss) : ScsIn (S ++ T) ps ss := h.sub fun _ _ _ => sto_app
theorem ScsIn.keep {ps : List (Nat × Nat)} {ss : List XScope} (h : ScsIn S ps ss) (hn : n ∉ plcs ps) : ScsIn (S.set n o) ps ss := h.sub fun m hm o e => by
  rw [List.getElem?_set_ne (fun z : n = m => hn (by rw [z]; exact hm))]; exact e
theorem ScsIn.snoc : ∀ {ps : List (Nat × Nat)} {ss : List XScope} {p : Nat × Nat} {s : XScope}, ScsIn S ps ss → ScIn S p s → ScsIn S (ps ++ [p]) (ss ++ [s])
  | [], _, _, _, h, k => by cases h; exact .cons k .nil
  | p :: ps, _, _, _, h, k => by cases h with | cons a b => exact .cons a (ScsIn.snoc b k)
theorem mem_plcs {ps : List (Nat × Nat)} {p : Nat × Nat} (h : p ∈ ps) : p.1 ∈ plcs ps ∧ p.2 ∈ plcs ps := ⟨List.mem_flatMap.mpr ⟨p, h, by simp⟩, List.mem_flatMap.mpr ⟨p, h, by simp⟩⟩
theorem ScsIn.put1 {xs : List XStep} : ∀ {ps : List (Nat × Nat)} {ss : List XScope} {i : Nat} {p : Nat × Nat} {s : XScope}, ScsIn S ps ss → (plcs ps).Nodup → ps[i]? = some p → ss[i]? = some s → ScsIn (S.set p.1 (.lst (xs.map zS))) ps (ss.set i (xs, s.2))
  | [], _, _, _, _, h, _, e, _ => by simp at e
  | p :: ps, _, 0, q, s, h, nd, e, e2 => by
    cases h with
    | cons a b =>
      simp at e e2
      subst e; subst e2
      have nd2 : (p.1 :: p.2 :: plcs ps).Nodup := nd
      have h12 : p.1 ≠ p.2 := fun z => by rw [z] at nd2; simp at nd2
      have h3 : p.1 ∉ plcs ps := fun z => (List.nodup_cons.mp nd2).1 (List.mem_cons_of_mem _ z)
      exact .cons ⟨by rw [List.getElem?_set_self a.lt1], by rw [List.getElem?_set_ne h12]; exact a.b⟩ (b.keep h3)
  | p :: ps, _, i + 1, q, s, h, nd, e, e2 => by
    cases h with
    | cons a b =>
      have nd2 : (p.1 :: p.2 :: plcs ps).Nodup := nd
      have hq1 := (mem_plcs (List.mem_of_getElem? (i := i) (show ps[i]? = some q by simpa using e))).1
      have h1 := (List.nodup_cons.mp nd2).1
      have h2 := (List.nodup_cons.mp (List.nodup_cons.mp nd2).2).1
      have n1 : q.1 ≠ p.1 := fun z => h1 (by rw [← z]; exact List.mem_cons_of_mem _ hq1)
      have n2 : q.1 ≠ p.2 := fun z => h2 (by rw [← z]; exact hq1)
      exact .cons ⟨by rw [List.getElem?_set_ne n1]; exact a.a, by rw [List.getElem?_set_ne n2]; exact a.b⟩ (ScsIn.put1 b (List.nodup_cons.mp (List.nodup_cons.mp nd2).2).2 (by simpa using e) (by simpa using e2))
theorem ScsIn.put2 {xs : List XTell} : ∀ {ps : List (Nat × Nat)} {ss : List XScope} {i : Nat} {p : Nat × Nat} {s : XScope}, ScsIn S ps ss → (plcs ps).Nodup → ps[i]? = some p → ss[i]? = some s → ScsIn (S.set p.2 (.lst (xs.map zL))) ps (ss.set i (s.1, xs))
  | [], _, _, _, _, h, _, e, _ => by simp at e
  | p :: ps, _, 0, q, s, h, nd, e, e2 => by
    cases h with
    | cons a b =>
      simp at e e2
      subst e; subst e2
      have nd2 : (p.1 :: p.2 :: plcs ps).Nodup := nd
      have h12 : p.2 ≠ p.1 := fun z => by rw [z] at nd2; simp at nd2
      have h3 : p.2 ∉ plcs ps := (List.nodup_cons.mp (List.nodup_cons.mp nd2).2).1
      exact .cons ⟨by rw [List.getElem?_set_ne h12]; exact a.a, by rw [List.getElem?_set_self a.lt2]⟩ (b.keep h3)
  | p :: ps, _, i + 1, q, s, h, nd, e, e2 => by
    cases h with
    | cons a b =>
      have nd2 : (p.1 :: p.2 :: plcs ps).Nodup := nd
      have hq1 := (mem_plcs (List.mem_of_getElem? (i := i) (show ps[i]? = some q by simpa using e))).2
      have h1 := (List.nodup_cons.mp nd2).1
      have h2 := (List.nodup_cons.mp (List.nodup_cons.mp nd2).2).1
      have n1 : q.2 ≠ p.1 := fun z => h1 (by rw [← z]; exact List.mem_cons_of_mem _ hq1)
      have n2 : q.2 ≠ p.2 := fun z => h2 (by rw [← z]; exact hq1)
      exact .cons ⟨by rw [List.getElem?_set_ne n1]; exact a.a, by rw [List.getElem?_set_ne n2]; exact a.b⟩ (ScsIn.put2 b (List.nodup_cons.mp (List.nodup_cons.mp nd2).2).2 (by simpa using e) (by simpa using e2))
end
/-- a whole net: the places of its three lists, of its scopes' lists; all of them different -/
structure NetAt (S : Sto) (n0 n1 n2 : Nat) (ps : List (Nat × Nat)) (n : XNet) : Prop where
  l : S[n0]? = some (.lst (ps.map scD))
  i : ScsIn S ps n.scopes
  t : S[n1]? = some (.lst (n.things.map zT))
  q : S[n2]? = some (.lst (n.quests.map zQ))
  nd : (n0 :: n1 :: n2 :: plcs ps).Nodup
section
variable {S : Sto} {n0 n1 n2 : Nat} {ps : List (Nat × Nat)} {n : XNet}
abbrev nPl (n0 n1 n2 : Nat) (ps : List (Nat × Nat)) : List Nat := n0 :: n1 :: n2 :: plcs ps
theorem NetAt.vw (h : NetAt S n0 n1 n2 ps n) : Vw S (.t [.r n0, .r n1, .r n2]) (eN n) := .t (.cons (.r h.l h.i.vws) (.cons (.r h.t (Vws.map _ _)) (.cons (.r h.q (Vws.map _ _)) .nil)))
theorem NetAt.sub {S' : Sto} (h : NetAt S n0 n1 n2 ps n) (k : ∀ m ∈ nPl n0 n1 n2 ps, ∀ o, S[m]? = some o → S'[m]? = some o) : NetAt S' n0 n1 n2 ps n :=
  ⟨k _ (by simp) _ h.l, h.i.sub fun m hm => k m (by simp [hm]), k _ (by simp) _ h.t, k _ (by simp) _ h.q, h.nd⟩
theorem NetAt.app {T : Sto} (h : NetAt S n0 n1 n2 ps n) : NetAt (S ++ T) n0 n1 n2 ps n := h.sub fun _ _ _ => sto_app
theorem NetAt.keep {U : List Nat} {S' : Sto} (h : NetAt S n0 n1 n2 ps n) (k : Keep U S S') (d : ∀ m ∈ U, m ∉ nPl n0 n1 n2 ps) : NetAt S' n0 n1 n2 ps n := h.sub fun m hm o e => k m o (fun z => d m z hm) e
theorem NetAt.lt (h : NetAt S n0 n1 n2 ps n) : ∀ m ∈ nPl n0 n1 n2 ps, m < S.length := fun m hm => by
  rcases List.mem_cons.mp hm with rfl | hm
  · exact (List.getElem?_eq_some_iff.mp h.l).1
  rcases List.mem_cons.mp hm with rfl | hm
  · exact (List.getElem?_eq_some_iff.mp h.t).1
  rcases List.mem_cons.mp hm with rfl | hm
  · exact (List.getElem?_eq_some_iff.mp h.q).1
  · exact h.i.lt m hm
theorem NetAt.nds (h : NetAt S n0 n1 n2 ps n) : n0 ≠ n1 ∧ n0 ≠ n2 ∧ n1 ≠ n2 ∧ n0 ∉ plcs ps ∧ n1 ∉ plcs ps ∧ n2 ∉ plcs ps ∧ (plcs ps).Nodup := by
  have a := List.nodup_cons.mp h.nd
  have b := List.nodup_cons.mp a.2
  have c := List.nodup_cons.mp b.2
  refine ⟨fun z => a.1 (by simp [z]), fun z => a.1 (by simp [z]), fun z => b.1 (by simp [z]), fun z => a.1 (by simp [z]), fun z => b.1 (by simp [z]), c.1, c.2⟩
theorem NetAt.put1 {i : Nat} {p : Nat × Nat} {s : XScope} {xs : List XStep} (h : NetAt S n0 n1 n2 ps n) (e : ps[i]? = some p) (e2 : n.scopes[i]? = some s) : NetAt (S.set p.1 (.lst (xs.map zS))) n0 n1 n2 ps ⟨n.scopes.set i (xs, s.2), n.things, n.quests⟩ := by
  obtain ⟨_, _, _, a, b, c, d⟩ := h.nds
  have hm := (mem_plcs (List.mem_of_getElem? e)).1
  exact ⟨by rw [List.getElem?_set_ne (fun z => a (by rw [← z]; exact hm))]; exact h.l, h.i.put1 d e e2, by rw [List.getElem?_set_ne (fun z => b (by rw [← z]; exact hm))]; exact h.t, by rw [List.getElem?_set_ne (fun z => c (by rw [← z]; exact hm))]; exact h.q, h.nd⟩
theorem NetAt.put2 {i : Nat} {p : Nat × Nat} {s : XScope} {xs : List XTell} (h : NetAt S n0 n1 n2 ps n) (e : ps[i]? = some p) (e2 : n.scopes[i]? = some s) : NetAt (S.set p.2 (.lst (xs.map zL))) n0 n1 n2 ps ⟨n.scopes.set i (s.1, xs), n.things, n.quests⟩ := by
  obtain ⟨_, _, _, a, b, c, d⟩ := h.nds
  have hm := (mem_plcs (List.mem_of_getElem? e)).2
  exact ⟨by rw [List.getElem?_set_ne (fun z => a (by rw [← z]; exact hm))]; exact h.l, h.i.put2 d e e2, by rw [List.getElem?_set_ne (fun z => b (by rw [← z]; exact hm))]; exact h.t, by rw [List.getElem?_set_ne (fun z => c (by rw [← z]; exact hm))]; exact h.q, h.nd⟩
theorem NetAt.putT {xs : List XThing} (h : NetAt S n0 n1 n2 ps n) : NetAt (S.set n1 (.lst (xs.map zT))) n0 n1 n2 ps ⟨n.scopes, xs, n.quests⟩ := by
  obtain ⟨h01, h02, h12, a, b, c, d⟩ := h.nds
  exact ⟨by rw [List.getElem?_set_ne h01.symm]; exact h.l, h.i.keep b, by rw [List.getElem?_set_self (h.lt n1 (by simp))], by rw [List.getElem?_set_ne h12]; exact h.q, h.nd⟩
theorem NetAt.putQ {xs : List XQuest} (h : NetAt S n0 n1 n2 ps n) : NetAt (S.set n2 (.lst (xs.map zQ))) n0 n1 n2 ps ⟨n.scopes, n.things, xs⟩ := by
  obtain ⟨h01, h02, h12, a, b, c, d⟩ := h.nds
  exact ⟨by rw [List.getElem?_set_ne h02.symm]; exact h.l, h.i.keep c, by rw [List.getElem?_set_ne h12.symm]; exact h.t, by rw [List.getElem?_set_self (h.lt n2 (by simp))], h.nd⟩
theorem plcs_app (a b : List (Nat × Nat)) : plcs (a ++ b) = plcs a ++ plcs b := List.flatMap_append
/-- a scope more, its lists just made -/
theorem NetAt.more {s : XScope} {T : Sto} (h : NetAt S n0 n1 n2 ps n) : NetAt ((S ++ (.lst (s.1.map zS) :: .lst (s.2.map zL) :: T)).set n0 (.lst ((ps ++ [(S.length, S.length + 1)]).map scD))) n0 n1 n2 (ps ++ [(S.length, S.length + 1)]) ⟨n.scopes ++ [s], n.things, n.quests⟩ := by
  obtain ⟨h01, h02, h12, a, b, c, d⟩ := h.nds
  have hlt := h.lt
  have hn0 : n0 < S.length := hlt n0 (by simp)
  have g : ∀ (m : Nat) (o : Ob), m ≠ n0 → (S ++ (.lst (s.1.map zS) :: .lst (s.2.map zL) :: T))[m]? = some o → ((S ++ (.lst (s.1.map zS) :: .lst (s.2.map zL) :: T)).set n0 (.lst ((ps ++ [(S.length, S.length + 1)]).map scD)))[m]? = some o := fun m o hm e => by
    rw [List.getElem?_set_ne hm.symm]; exact e
  refine ⟨by rw [List.getElem?_set_self (by rw [List.length_append]; omega)], ScsIn.snoc (h.i.sub fun m hm o e => g m o (fun z => a (by rw [← z]; exact hm)) (sto_app e)) ⟨g _ _ (Nat.ne_of_gt hn0) (by simp), g _ _ (Nat.ne_of_gt (Nat.lt_succ_of_lt hn0)) sto_r1⟩, g _ _ h01.symm (sto_app h.t), g _ _ h02.symm (sto_app h.q), ?_⟩
  rw [plcs_app]
  have e : n0 :: n1 :: n2 :: (plcs ps ++ plcs [(S.length, S.length + 1)]) = (n0 :: n1 :: n2 :: plcs ps) ++ [S.length, S.length + 1] := rfl
  rw [e, List.nodup_append]
  refine ⟨h.nd, by simp, fun x hx y hy => ?_⟩
  have := hlt x hx
  simp at hy
  omega
end
end NE

set_option Elab.async false
set_option linter.all false
set_option maxRecDepth 100000
/-! NE, part 2: nets made, copied, handed back -/
namespace NE
open PySem L2 PL
open ND (cutL_map cutL_len cutL_mem bz_ints LwN isNm alpha alpha_eq alpha_at getA ixD_zA ixD_bA app_list one_len)

def cps (ss : List XScope) : Sto := ss.flatMap fun s => [.lst (s.1.map zS), .lst (s.2.map zL)]
def emp (L n : Nat) : List (Nat × Nat) := (List.range n).map fun k => (L + 2 * k, L + 2 * k + 1)
def noSc : XScope := ([], [])
theorem emp_len (L n : Nat) : (emp L n).length = n := by unfold emp; rw [List.length_map, List.length_range]
theorem emp_snoc (L n : Nat) : emp L (n + 1) = emp L n ++ [(L + 2 * n, L + 2 * n + 1)] := by unfold emp; rw [range_snoc]
theorem cps_app (a b : List XScope) : cps (a ++ b) = cps a ++ cps b := List.flatMap_append
theorem cps_len (ss : List XScope) : (cps ss).length = 2 * ss.length := by
  induction ss with
  | nil => rfl
  | cons s ss ih =>
    show ([_, _] ++ cps ss).length = _
    rw [List.length_append, ih, List.length_cons]
    simp; omega
theorem cps_in {S T : Sto} {L : Nat} (hL : S.length = L) (ss : List XScope) : ScsIn (S ++ (cps ss ++ T)) (emp L ss.length) ss := by
  have go : ∀ (n : Nat) (ss : List XScope), ss.length = n → ∀ T, ScsIn (S ++ (cps ss ++ T)) (emp L ss.length) ss := by
    intro n
    induction n with
    | zero => intro ss h T; cases ss with | nil => exact .nil | cons _ _ => simp at h
    | succ n ih =>
      intro ss h T
      obtain ⟨ini, s, rfl⟩ : ∃ ini s, ss = ini ++ [s] := ⟨ss.dropLast, ss.getLast (by intro e; rw [e] at h; simp at h), (List.dropLast_concat_getLast _).symm⟩
      have hi : ini.length = n := by simp at h; exact h
      have hc := cps_len ini
      rw [List.length_append, List.length_singleton, emp_snoc, cps_app, List.append_assoc]
      refine (ih ini hi (cps [s] ++ T)).snoc ⟨?_, ?_⟩
      · show (S ++ _)[L + 2 * ini.length]? = _
        rw [List.getElem?_append_right (by omega), List.getElem?_append_right (by omega), show L + 2 * ini.length - S.length - (cps ini).length = 0 by omega]; rfl
      · show (S ++ _)[L + 2 * ini.length + 1]? = _
        rw [List.getElem?_append_right (by omega), List.getElem?_append_right (by omega), show L + 2 * ini.length + 1 - S.length - (cps ini).length = 1 by omega]; rfl
  exact go _ ss rfl T
theorem emp_plcs (L n : Nat) : (∀ m ∈ plcs (emp L n), L ≤ m ∧ m < L + 2 * n) ∧ (plcs (emp L n)).Nodup := by
  induction n with
  | zero => exact ⟨fun m h => (by cases h), List.nodup_nil⟩
  | succ n ih =>
    rw [emp_snoc, plcs_app]
    have e : plcs [(L + 2 * n, L + 2 * n + 1)] = [L + 2 * n, L + 2 * n + 1] := rfl
    rw [e]
    refine ⟨fun m hm => ?_, ?_⟩
    · rcases List.mem_append.mp hm with h | h
      · have := ih.1 m h; omega
      · simp at h; omega
    · rw [List.nodup_append]
      refine ⟨ih.2, by simp, fun a ha b hb => ?_⟩
      have := ih.1 a ha
      simp at hb; omega
/-! comprehensions -/
abbrev weEmp : WE := wTup (wCons (wLst wNil) (wCons (wLst wNil) wNil))
/-- [([], []) for .. in range(n)] -/
theorem pLc_emp {lo : Int} {n : Nat} {i : Nat} {env : PL.Env} {fin : Sto → Prop} {S : Sto} (hz : n < 1000000) (hf : fin (S ++ .lst ((emp (S.length + 1) n).map scD) :: cps (List.replicate n noSc))) :
    pLc (rgD lo n) (tgN i) wYes weEmp S.length env fin (rgD lo n).items (S ++ [.lst []]) := by
  have hl : (rgD lo n).items.length = n := by simp [rgD]
  refine pLc_each (fun j S' => j ≤ n ∧ S' = S ++ .lst ((emp (S.length + 1) j).map scD) :: cps (List.replicate j noSc)) ⟨Nat.zero_le _, rfl⟩ (fun _ _ _ _ => trivial) ?_ ?_
  · rintro j d _ Q hj ⟨hj2, rfl⟩ hQ
    have hlt : j < n := by rw [← hl]; exact (List.getElem?_eq_some_iff.mp hj).1
    have hcl := cps_len (List.replicate j noSc)
    rw [List.length_replicate] at hcl
    refine pGet.mk rfl ?_
    refine pIf.tt rfl ?_
    refine pReq.mk (sz_le rfl) ?_
    refine pReq.mk (sz_le rfl) ?_
    refine pReq.mk (sz_le rfl) ?_
    refine pGet.mk (x := (emp (S.length + 1) j).map scD) ?_ (pReq.mk ?_ ?_)
    · rw [List.append_assoc, List.append_assoc]
      exact lsR_at (List.getElem?_append_right (Nat.le_refl _) |>.trans (by rw [Nat.sub_self]; rfl))
    · rw [List.length_map, emp_len]
      exact sz_lt6 (by omega)
    · refine hQ _ ⟨hlt, ?_⟩
      rw [List.append_assoc, List.append_assoc, List.set_append_right _ _ (Nat.le_refl _), Nat.sub_self]
      have e2 : cps (List.replicate (j + 1) noSc) = cps (List.replicate j noSc) ++ [.lst [], .lst []] := by
        rw [List.replicate_succ', cps_app]; rfl
      rw [emp_snoc, e2, List.map_append]
      have e3 : (S ++ Ob.lst ((emp (S.length + 1) j).map scD) :: cps (List.replicate j noSc)).length = S.length + 1 + 2 * j := by rw [List.length_append, List.length_cons, hcl]; omega
      have e4 : ((S ++ Ob.lst ((emp (S.length + 1) j).map scD) :: cps (List.replicate j noSc)) ++ [Ob.lst []]).length = S.length + 1 + 2 * j + 1 := by rw [List.length_append, e3]; rfl
      show S ++ (Ob.lst (_ ++ [D.t [.r _, .r _]]) :: _) = _
      rw [e3, e4]
      rfl
  · rintro S' ⟨_, rfl⟩
    rw [hl]
    exact hf
abbrev weCopy (a b : Nat) : WE := wTup (wCons (wCall pList (wCons (wVar a) wNil)) (wCons (wCall pList (wCons (wVar b) wNil)) wNil))
/-- an item that is seen as a scope -/
def SeenSc (S : Sto) (d : D) (s : XScope) : Prop := ∃ x y, tpD d = some [x, y] ∧ ∀ T, sqD (S ++ T) x = some (s.1.map zS) ∧ sqD (S ++ T) y = some (s.2.map zL)
theorem ScIn.seen {S : Sto} {p : Nat × Nat} {s : XScope} (h : ScIn S p s) : SeenSc S (scD p) s := ⟨_, _, rfl, fun T => ⟨sqD_at (sto_app h.a), sqD_at (sto_app h.b)⟩⟩
theorem seen_b {S : Sto} (s : XScope) : SeenSc S (bz (eSc s)) s := by
  rw [bzSc]
  refine ⟨.b (.list (s.1.map eS)), .b (.list (s.2.map eL)), ?_, fun T => ⟨?_, ?_⟩⟩
  · show some ([PyData.list _, PyData.list _].map bz) = _
    rw [List.map_cons, List.map_cons, bz_list, bz_list]; rfl
  · show some ((s.1.map eS).map bz) = _
    rw [bzsS]
  · show some ((s.2.map eL).map bz) = _
    rw [bzsL]
theorem wVar_at {i : Nat} {env : PL.Env} {S : Sto} {K : K1} {KX : KX} {d : D} (h : env[i]? = some (some d)) (k : K d S) : wVar i env S K KX := by
  unfold wVar; rw [h]; exact k
/-- [(list(a), list(b)) for a, b in ..] -/
theorem pLc_copy {src : Src} {ss : List XScope} {a b : Nat} {env : PL.Env} {fin : Sto → Prop} {S : Sto} (hz : ss.length < 1000000) (hlen : src.items.length = ss.length) (hok : ∀ acc T, src.ok (S ++ (.lst acc :: T)))
    (hit : ∀ (i : Nat) (d : D) (s : XScope), src.items[i]? = some d → ss[i]? = some s → SeenSc S d s) (ha : ∀ x y, ((env.set a (some x)).set b (some y))[a]? = some (some x)) (hb : ∀ x y, ((env.set a (some x)).set b (some y))[b]? = some (some y))
    (hf : fin (S ++ .lst ((emp (S.length + 1) ss.length).map scD) :: cps ss)) : pLc src (tgT [a, b]) wYes (weCopy a b) S.length env fin src.items (S ++ [.lst []]) := by
  refine pLc_each (fun j S' => j ≤ ss.length ∧ S' = S ++ .lst ((emp (S.length + 1) j).map scD) :: cps (ss.take j)) ⟨Nat.zero_le _, rfl⟩ ?_ ?_ ?_
  · rintro j _ _ ⟨_, rfl⟩
    exact hok _ _
  · rintro j d _ Q hj ⟨_, rfl⟩ hQ
    have hlt : j < ss.length := by rw [← hlen]; exact (List.getElem?_eq_some_iff.mp hj).1
    have hs := List.getElem?_eq_getElem hlt
    obtain ⟨x, y, htp, hxy⟩ := hit j d _ hj hs
    have htl : (ss.take j).length = j := by rw [List.length_take]; omega
    have hcl := cps_len (ss.take j)
    rw [htl] at hcl
    generalize ss[j] = s at hs hxy
    refine pGet.mk (x := (env.set a (some x)).set b (some y)) (by unfold tgT; rw [htp]; rfl) ?_
    refine pIf.tt rfl ?_
    have e3 : (S ++ Ob.lst ((emp (S.length + 1) j).map scD) :: cps (ss.take j)).length = S.length + 1 + 2 * j := by rw [List.length_append, List.length_cons, hcl]; omega
    have hx := (hxy (Ob.lst ((emp (S.length + 1) j).map scD) :: cps (ss.take j))).1
    have hy := (hxy (Ob.lst ((emp (S.length + 1) j).map scD) :: (cps (ss.take j) ++ [.lst (s.1.map zS)]))).2
    dsimp only [weCopy, wTup, wCons, wCall, wNil, pList]
    refine wVar_at (ha _ _) ?_
    refine pGet.mk hx ?_
    try dsimp only
    refine wVar_at (hb _ _) ?_
    rw [List.append_assoc]
    refine pGet.mk hy ?_
    refine pReq.mk (sz_le rfl) ?_
    refine pGet.mk (x := (emp (S.length + 1) j).map scD) ?_ (pReq.mk ?_ ?_)
    · rw [List.append_assoc]
      exact lsR_at (List.getElem?_append_right (Nat.le_refl _) |>.trans (by rw [Nat.sub_self]; rfl))
    · rw [List.length_map, emp_len]
      exact sz_lt6 (by omega)
    · refine hQ _ ⟨hlt, ?_⟩
      rw [List.append_assoc, List.set_append_right _ _ (Nat.le_refl _), Nat.sub_self]
      have e2 : cps (ss.take (j + 1)) = cps (ss.take j) ++ [.lst (s.1.map zS), .lst (s.2.map zL)] := by
        rw [List.take_add_one, hs, cps_app]; rfl
      rw [emp_snoc, e2, List.map_append]
      have e4 : (S ++ (Ob.lst ((emp (S.length + 1) j).map scD) :: cps (ss.take j) ++ [Ob.lst (s.1.map zS)])).length = S.length + 1 + 2 * j + 1 := by
        rw [← List.append_assoc, List.length_append, e3]; rfl
      show S ++ (Ob.lst (_ ++ [D.t [.r _, .r _]]) :: _) = _
      rw [e3, e4]
      generalize cps (ss.take j) = C
      have e5 : ∀ A B : Ob, (C ++ [A]) ++ [B] = C ++ [A, B] := fun A B => by rw [List.append_assoc]; rfl
      exact congrArg (fun Z => S ++ Ob.lst _ :: Z) (e5 _ _)
  · rintro S' ⟨_, rfl⟩
    rw [hlen, List.take_length]
    exact hf
/-! handed back -/
def rSc (s : XScope) : RT := .t [lz eS s.1, lz eL s.2]
def rN (n : XNet) : RT := .t [.l (n.scopes.map rSc), lz eT n.things, lz eQ n.quests]
theorem al_sc (s : XScope) (n : Nat) : al (rSc s) n = (scD (n, n + 1), [.lst (s.1.map zS), .lst (s.2.map zL)]) := by
  unfold rSc al
  simp only [als, al_lz]
  rfl
theorem als_scs : ∀ (ss : List XScope) (n : Nat), als (ss.map rSc) n = ((emp n ss.length).map scD, cps ss)
  | [], n => by unfold als; rfl
  | s :: ss, n => by
    rw [List.map_cons]
    unfold als
    rw [al_sc, als_scs ss]
    have e : emp n (s :: ss).length = (n, n + 1) :: emp (n + 2) ss.length := by
      unfold emp
      rw [List.length_cons, List.range_succ_eq_map, List.map_cons, List.map_map]
      congr 1
      refine List.map_congr_left fun k _ => ?_
      simp; omega
    rw [e]
    rfl
theorem al_net (n : XNet) (L : Nat) : al (rN n) L = (.t [.r (L + 2 * n.scopes.length), .r (L + 2 * n.scopes.length + 1), .r (L + 2 * n.scopes.length + 2)],
    cps n.scopes ++ [.lst ((emp L n.scopes.length).map scD), .lst (n.things.map zT), .lst (n.quests.map zQ)]) := by
  unfold rN al
  simp only [als, al, als_scs, al_lz, cps_len, List.length_append, List.length_cons, List.length_nil, List.append_nil, List.append_assoc]
  rfl
/-- a call that hands back a net: where it stands then -/
theorem al_at (S : Sto) (n : XNet) : NetAt (S ++ (al (rN n) S.length).2) (S.length + 2 * n.scopes.length) (S.length + 2 * n.scopes.length + 1) (S.length + 2 * n.scopes.length + 2) (emp S.length n.scopes.length) n := by
  rw [al_net]
  have hc := cps_len n.scopes
  have hl : (S ++ cps n.scopes).length = S.length + 2 * n.scopes.length := by rw [List.length_append, hc]
  have hp := emp_plcs S.length n.scopes.length
  refine ⟨?_, cps_in rfl _, ?_, ?_, ?_⟩
  · rw [← List.append_assoc, ← hl]; simp
  · rw [← List.append_assoc, ← hl]; exact sto_r1
  · rw [← List.append_assoc, ← hl]; exact sto_r2
  · have h1 : ∀ m, S.length + 2 * n.scopes.length ≤ m → m ∉ plcs (emp S.length n.scopes.length) := fun m hm z => by have := hp.1 m z; omega
    refine List.nodup_cons.mpr ⟨?_, List.nodup_cons.mpr ⟨?_, List.nodup_cons.mpr ⟨h1 _ (by omega), hp.2⟩⟩⟩
    · simp only [List.mem_cons, not_or]
      exact ⟨by omega, by omega, h1 _ (by omega)⟩
    · simp only [List.mem_cons, not_or]
      exact ⟨by omega, h1 _ (by omega)⟩
theorem VRs.scs {S : Sto} {U : List Nat} : ∀ {ps : List (Nat × Nat)} {ss : List XScope}, ScsIn S ps ss → VRs S U (ps.map scD) (ss.map rSc) (plcs ps)
  | [], _, h => by cases h; exact .nil
  | p :: ps, _, h => by
    cases h with
    | cons a b =>
      refine .cons (ns := [p.1, p.2]) (.t ?_) (VRs.scs b)
      exact .cons (ns := [p.1]) (.l (ns := []) a.a (VRs.zs _ _)) (.cons (ns := [p.2]) (ms := []) (.l (ns := []) a.b (VRs.zs _ _)) .nil)
/-- the net is what is handed back -/
theorem NetAt.vr {S : Sto} {n0 n1 n2 : Nat} {ps : List (Nat × Nat)} {n : XNet} (h : NetAt S n0 n1 n2 ps n) : ∃ U, VR S U (.t [.r n0, .r n1, .r n2]) (rN n) U ∧ U.Nodup := by
  refine ⟨(plcs ps ++ [n0]) ++ ([n1] ++ ([n2] ++ [])), .t (.cons (.l h.l (VRs.scs h.i)) (.cons (.l (ns := []) h.t (VRs.zs _ _)) (.cons (.l (ns := []) h.q (VRs.zs _ _)) .nil))), ?_⟩
  have := h.nd
  have e : (n0 :: n1 :: n2 :: plcs ps) = [n0, n1, n2] ++ plcs ps := rfl
  rw [e] at this
  have p : ((plcs ps ++ [n0]) ++ ([n1] ++ ([n2] ++ []))).Perm ([n0, n1, n2] ++ plcs ps) := by
    rw [List.append_assoc]
    exact List.perm_append_comm
  exact p.nodup_iff.mpr this
/-- from lists of its own -/
theorem netAt_mk {S : Sto} {n0 n1 n2 : Nat} {ps : List (Nat × Nat)} {n : XNet} (l : S[n0]? = some (.lst (ps.map scD))) (i : ScsIn S ps n.scopes) (t : S[n1]? = some (.lst (n.things.map zT))) (q : S[n2]? = some (.lst (n.quests.map zQ))) (nd : (n0 :: n1 :: n2 :: plcs ps).Nodup) : NetAt S n0 n1 n2 ps n := ⟨l, i, t, q, nd⟩
/-! shapes -/
def strOks (n : XNet) : Prop := (∀ s ∈ n.scopes, (∀ x ∈ s.1, PyData.strOk x.lab = true ∧ PyData.strOk x.kind = true) ∧ ∀ x ∈ s.2, PyData.strOk x.lab = true ∧ PyData.strOk x.name = true ∧ PyData.strOk x.kind = true) ∧ (∀ t ∈ n.things, PyData.strOk t.kind = true) ∧ ∀ q ∈ n.quests, ∀ x ∈ q.path, PyData.strOk x = true
theorem shSc {s : XScope} (h : (∀ x ∈ s.1, PyData.strOk x.lab = true ∧ PyData.strOk x.kind = true) ∧ ∀ x ∈ s.2, PyData.strOk x.lab = true ∧ PyData.strOk x.name = true ∧ PyData.strOk x.kind = true) : Shp 3 (eSc s) :=
  .tup2 (.lists fun x hx => .tup3 (.str (h.1 x hx).1) (.str (h.1 x hx).2) .int) (.lists fun x hx => .tup4 (.str (h.2 x hx).1) (.str (h.2 x hx).2.1) (.str (h.2 x hx).2.2) .int)
theorem shN {n : XNet} (h : strOks n) : Shp 5 (eN n) := .tup3 (.lists fun s hs => shSc (h.1 s hs)) (.mono (.lists fun t ht => .tup2 (n := 0) (.str (h.2.1 t ht)) .int) (by decide))
  (.mono (.lists fun q hq => .tup3 (n := 1) .int .int (.tuple fun d hd => by
    obtain ⟨x, hx, rfl⟩ := List.mem_map.mp hd
    exact .str (h.2.2 q hq x hx))) (by decide))
end NE

set_option Elab.async false
set_option linter.all false
set_option maxRecDepth 100000
/-! NE, part 3: calls that hand back nets -/
namespace PL
open PySem L2
mutual
theorem Vz.of_z {S' : Sto} : ∀ (e : PyData) (d : D), Vz [] d e → Vz S' d e
  | .none, _, h => by cases h; exact .z
  | .bool _, _, h => by cases h; exact .z
  | .int _, _, h => by cases h; exact .z
  | .str _, _, h => by cases h; exact .z
  | .dict _, _, h => by cases h; exact .z
  | .list es, _, h => by
    cases h with
    | z => exact .z
    | r e ws => simp at e
  | .tuple es, _, h => by
    cases h with
    | z => exact .z
    | t ws => exact .t (Vzs.of_z0 es _ ws)
theorem Vzs.of_z0 {S' : Sto} : ∀ (es : List PyData) (ds : List D), Vzs [] ds es → Vzs S' ds es
  | [], _, h => by cases h; exact .nil
  | e :: es, _, h => by cases h with | cons a b => exact .cons (Vz.of_z e _ a) (Vzs.of_z0 es _ b)
end
theorem Vzs.of_z {S' : Sto} {es : List PyData} {ds : List D} (h : Vzs [] ds es) : Vzs S' ds es := Vzs.of_z0 es ds h
end PL
namespace NE
open PySem L2 PL
abbrev lSc (n : XNet) : PyData := .list (n.scopes.map eSc)
abbrev lTh (n : XNet) : PyData := .list (n.things.map eT)
abbrev lQu (n : XNet) : PyData := .list (n.quests.map eQ)
theorem bz_scs (n : XNet) : (n.scopes.map eSc).map bz = n.scopes.map fun s => bz (eSc s) := List.map_map
theorem al_ge {S : Sto} {n : XNet} : ∀ m ∈ nPl (S.length + 2 * n.scopes.length) (S.length + 2 * n.scopes.length + 1) (S.length + 2 * n.scopes.length + 2) (emp S.length n.scopes.length), S.length ≤ m := by
  intro m hm
  have := emp_plcs S.length n.scopes.length
  simp only [nPl, List.mem_cons] at hm
  rcases hm with rfl | rfl | rfl | hm
  · omega
  · omega
  · omega
  · exact (this.1 m hm).1
theorem net_call {K : K1} {S : Sto} {n : XNet} (h : ∀ (S1 : Sto) (a b c : Nat) (ps : List (Nat × Nat)), NetAt S1 a b c ps n → Keep [] S S1 → (∀ m ∈ nPl a b c ps, S.length ≤ m) → K (.t [.r a, .r b, .r c]) S1) : K (al (rN n) S.length).1 (S ++ (al (rN n) S.length).2) := by
  have hA := al_at S n
  have e : (al (rN n) S.length).1 = .t [.r (S.length + 2 * n.scopes.length), .r (S.length + 2 * n.scopes.length + 1), .r (S.length + 2 * n.scopes.length + 2)] := by rw [al_net]
  rw [e]
  exact h _ _ _ _ _ hA Keep.app al_ge
theorem args3 {S : Sto} {a b c : Nat} {ps : List (Nat × Nat)} {n : XNet} (h : NetAt S a b c ps n) : Vws S [.r a, .r b, .r c] [lSc n, lTh n, lQu n] := .cons (.r h.l h.i.vws) (.cons (.r h.t (Vws.map _ _)) (.cons (.r h.q (Vws.map _ _)) .nil))
theorem NetAt.all {S S' : Sto} {a b c : Nat} {ps : List (Nat × Nat)} {n : XNet} (h : NetAt S a b c ps n) (k : Keep [] S S') : NetAt S' a b c ps n := h.keep k fun m hm => by cases hm
/-- the older net is not in the way -/
theorem NetAt.apart {S S' : Sto} {a b c a' b' c' : Nat} {ps ps' : List (Nat × Nat)} {n : XNet} (h : NetAt S a b c ps n) (k : Keep (nPl a' b' c' ps') S S') (d : ∀ m ∈ nPl a b c ps, ∀ m' ∈ nPl a' b' c' ps', m ≠ m') : NetAt S' a b c ps n := h.keep k fun m hm z => d m z m hm rfl
theorem netq_call {α : Type} {enc : α → List PyData} {pre : α → Prop} {post : α → XNet → Prop} {ds : List D} {S : Sto} {K : K1} {KX : KF} (a : α) (v : Vws S ds (enc a)) (hp : pre a)
    (h : ∀ n, post a n → ∀ (S1 : Sto) (a b c : Nat) (ps : List (Nat × Nat)), NetAt S1 a b c ps n → Keep [] S S1 → (∀ m ∈ nPl a b c ps, S.length ≤ m) → K (.t [.r a, .r b, .r c]) S1) : pCall (frr (fsrq enc pre post rN)) ds S K KX := fsrq_call a v hp fun n hn => net_call (h n hn)
theorem netr_call {α : Type} {enc : α → List PyData} {pre : α → Prop} {out : α → XNet} {ds : List D} {S : Sto} {K : K1} {KX : KF} (a : α) (v : Vws S ds (enc a)) (hp : pre a)
    (h : ∀ (S1 : Sto) (x b c : Nat) (ps : List (Nat × Nat)), NetAt S1 x b c ps (out a) → Keep [] S S1 → (∀ m ∈ nPl x b c ps, S.length ≤ m) → K (.t [.r x, .r b, .r c]) S1) : pCall (frr (fsr enc pre fun a => rN (out a))) ds S K KX := fsr_call a v hp (net_call h)
theorem copied (n : XNet) {K : K1} (hk : ∀ d S' U, VR S' U d (rN n) U → U.Nodup → K d S') : K (.t [.r 0, .r (List.length (Ob.lst ((emp 1 n.scopes.length).map scD) :: cps n.scopes)), .r (List.length (Ob.lst ((emp 1 n.scopes.length).map scD) :: cps n.scopes ++ [Ob.lst (n.things.map zT)]))]) (Ob.lst ((emp 1 n.scopes.length).map scD) :: cps n.scopes ++ [Ob.lst (n.things.map zT)] ++ [Ob.lst (n.quests.map zQ)]) := by
  have h3 := cps_len n.scopes
  have hp := emp_plcs 1 n.scopes.length
  have hA : NetAt ([Ob.lst ((emp 1 n.scopes.length).map scD)] ++ cps n.scopes ++ [Ob.lst (n.things.map zT)] ++ [Ob.lst (n.quests.map zQ)]) 0 (1 + 2 * n.scopes.length) (1 + 2 * n.scopes.length + 1) (emp 1 n.scopes.length) n := by
    have hl : ([Ob.lst ((emp 1 n.scopes.length).map scD)] ++ cps n.scopes).length = 1 + 2 * n.scopes.length := by simp [h3]; omega
    have h1 : ∀ m, 1 + 2 * n.scopes.length ≤ m → m ∉ plcs (emp 1 n.scopes.length) := fun m hm z => by have := hp.1 m z; omega
    refine ⟨rfl, ?_, ?_, ?_, ?_⟩
    · have := cps_in (S := [Ob.lst ((emp 1 n.scopes.length).map scD)]) (T := [Ob.lst (n.things.map zT), Ob.lst (n.quests.map zQ)]) (L := 1) rfl n.scopes
      rw [← List.append_assoc] at this
      rw [List.append_assoc]
      exact this
    · rw [← hl]; exact sto_app sto_last
    · rw [← hl, List.append_assoc]; exact sto_r1
    · refine List.nodup_cons.mpr ⟨?_, List.nodup_cons.mpr ⟨?_, List.nodup_cons.mpr ⟨h1 _ (by omega), hp.2⟩⟩⟩
      · simp only [List.mem_cons, not_or]
        exact ⟨by omega, by omega, fun z => by have := hp.1 0 z; omega⟩
      · simp only [List.mem_cons, not_or]
        exact ⟨by omega, h1 _ (by omega)⟩
  obtain ⟨U, hv, hu⟩ := hA.vr
  have e1 : (Ob.lst ((emp 1 n.scopes.length).map scD) :: cps n.scopes).length = 1 + 2 * n.scopes.length := by rw [List.length_cons, h3]; omega
  have e2 : (Ob.lst ((emp 1 n.scopes.length).map scD) :: cps n.scopes ++ [Ob.lst (n.things.map zT)]).length = 1 + 2 * n.scopes.length + 1 := by rw [List.length_append, e1]; rfl
  rw [e1, e2]
  exact hk _ _ U hv hu
end NE

set_option Elab.async false
set_option linter.all false
set_option maxRecDepth 100000
set_option maxHeartbeats 4000000
/-! the walk of each def; printed by gen.py -/
namespace K17
open PySem L2 PL
def top (i : Nat) : Stmt := PySem.Challenge.pw_namepaths_k17_whole_nets_judged.main.body.getD i (.Pass ⟨0, 0, 0, 0⟩)
/-- what the walks ask of the module's names -/
structure Txt (K : PySem.W.Frag) (mg : Str → Option Value) (ec : EcK) : Prop where
  n_str : mg "str" = none
  n_isinstance : mg "isinstance" = none
  n_len : mg "len" = none
  n_list : mg "list" = none
  n_range : mg "range" = none
  n_ValueError : mg "ValueError" = none
  n_tuple : mg "tuple" = none
  n_int : mg "int" = none
  n_any : mg "any" = none
  n_all : mg "all" = none
  n_max : mg "max" = none
  c_LETTERS : ∃ t, mg "LETTERS" = some (.str (PySem.Str.ofString "abcdefghijklmnopqrstuvwxyz") t)
  c_MOST_SCOPES : ∃ t, mg "MOST_SCOPES" = some (.int 40 t)
  c_MOST_THINGS : ∃ t, mg "MOST_THINGS" = some (.int 80 t)
  c_MOST_QUESTIONS : ∃ t, mg "MOST_QUESTIONS" = some (.int 60 t)
  c_MOST_STEPS : ∃ t, mg "MOST_STEPS" = some (.int 8 t)
  c_MOST_TELLINGS : ∃ t, mg "MOST_TELLINGS" = some (.int 12 t)
  c_MOST_NAMES : ∃ t, mg "MOST_NAMES" = some (.int 6 t)
  x_TooGreat : ExcF K mg "TooGreat" (ec.cl "TooGreat")
  x_NoName : ExcF K mg "NoName" (ec.cl "NoName")
  x_NoPlace : ExcF K mg "NoPlace" (ec.cl "NoPlace")
  m_PathError : ∀ v, ec.kn v → PySem.W.exmOne K v (.ref (ec.cl "PathError")) = some (ec.mt "PathError" v)
  k_TooGreat : ∀ v, ec.kn v → PySem.W.kitOne K v (.ref (ec.cl "TooGreat")) = some (ec.kd v "TooGreat")
  k_NoName : ∀ v, ec.kn v → PySem.W.kitOne K v (.ref (ec.cl "NoName")) = some (ec.kd v "NoName")
  k_NoPlace : ∀ v, ec.kn v → PySem.W.kitOne K v (.ref (ec.cl "NoPlace")) = some (ec.kd v "NoPlace")
  k_Twice : ∀ v, ec.kn v → PySem.W.kitOne K v (.ref (ec.cl "Twice")) = some (ec.kd v "Twice")
  k_Tangled : ∀ v, ec.kn v → PySem.W.kitOne K v (.ref (ec.cl "Tangled")) = some (ec.kd v "Tangled")
  k_NoText : ∀ v, ec.kn v → PySem.W.kitOne K v (.ref (ec.cl "NoText")) = some (ec.kd v "NoText")
  k_NoRow : ∀ v, ec.kn v → PySem.W.kitOne K v (.ref (ec.cl "NoRow")) = some (ec.kd v "NoRow")
  k_Ring : ∀ v, ec.kn v → PySem.W.kitOne K v (.ref (ec.cl "Ring")) = some (ec.kd v "Ring")
  k_Caught : ∀ v, ec.kn v → PySem.W.kitOne K v (.ref (ec.cl "Caught")) = some (ec.kd v "Caught")
  kve : ∀ v, ec.kn v → PySem.W.kitOne K v (.type "ValueError") = some (ec.kd v "ValueError")
  g_PathError : mg "PathError" = some (.ref (ec.cl "PathError"))
  g_TooGreat : mg "TooGreat" = some (.ref (ec.cl "TooGreat"))
  g_NoName : mg "NoName" = some (.ref (ec.cl "NoName"))
  g_NoPlace : mg "NoPlace" = some (.ref (ec.cl "NoPlace"))
  g_Twice : mg "Twice" = some (.ref (ec.cl "Twice"))
  g_Tangled : mg "Tangled" = some (.ref (ec.cl "Tangled"))
  g_NoText : mg "NoText" = some (.ref (ec.cl "NoText"))
  g_NoRow : mg "NoRow" = some (.ref (ec.cl "NoRow"))
  g_Ring : mg "Ring" = some (.ref (ec.cl "Ring"))
  g_Caught : mg "Caught" = some (.ref (ec.cl "Caught"))
  kc : ∀ v, ec.kn v → ∃ D, v = .ref D ∧ ExcC K D
section
variable {P : Program} {w : World} {K : PySem.W.Frag} {mg : Str → Option Value} {base : Heap}
abbrev st_is_name : Stmt := top 13
abbrev nm_is_name : List Str := ["thing", "sign"]
theorem sc_is_name : FnScope nm_is_name ["thing"] (defScope st_is_name) := ⟨rfl, rfl, rfl, by decide +kernel, rfl, by decide +kernel, by decide +kernel⟩
def is_name_b1 : WS :=
  (wIf (wB (w2 (cB bNotIn) (wVar 1) (wC (.str (PySem.Str.ofString "abcdefghijklmnopqrstuvwxyz"))))) (wRet (wC (.bool false))) wNext)
def is_name_r1 : WS :=
  (wRet (wC (.bool true)))
def is_name_r2 : WS :=
  (wSeq (wFor (wIt (wVar 0)) (gN 1) is_name_b1)
    is_name_r1)
def ws_is_name : WS :=
  (wSeq (wIf (wOr (wNot (wB (wCall pIsi (wCons (wVar 0) (wCons (wTy .str) wNil))))) (wOr (wB (w2 (cB bLt) (wCall pLen (wCons (wVar 0) wNil)) (wC (.int 1)))) (wB (w2 (cB bGt) (wCall pLen (wCons (wVar 0) wNil)) (wC (.int 8)))))) (wRet (wC (.bool false))) wNext)
    is_name_r2)
theorem ok_is_name {f : Addr} {fd : FuncData} {sp : Spc} {ec : EcK} (F : Fun K "is_name" "is_name" st_is_name f fd) (T : Txt K mg ec) (hl : ∀ ds S K KX, sp ds S K KX → ds.length = 1)
    (hs : ∀ ds S K KX, sp ds S K KX → ws_is_name { nx := fun _ S1 => K (.z .none) S1, rt := K, ex := fun y _ S1 => KX y S1 } (startE nm_is_name ds) S) : FnOk P w K mg base (L2.CX P w) 1 f fd ["thing"] (spOf sp) := by
  have nd := sc_is_name.nd
  refine fnpx F sc_is_name hl (ws := ws_is_name) (fun cdv A outer s H E B F0 hr tk hp => ?_) hs
  have hu := hu_px hr
  exact (bcons (xif (xtw (yor (xtnot (xtv (xcallB oIsi rfl T.n_isinstance bb_isinstance (acons (xv 0) (acons (xty (T := .str) rfl T.n_str bb_str) anil))))) (yor (xtcmp oLt (xcallB oLen rfl T.n_len bb_len (acons (xv 0) anil)) xint) (yor1 (xtcmp oGt (xcallB oLen rfl T.n_len bb_len (acons (xv 0) anil)) xint))))) (bone (xret xbl)) bnil)
    (bcons (xfor hp rfl (xit (xv 0)) (xgn 1 nd) (bone (xif (xtcmp (oNotIn hu) (xv 1) (xgS rfl T.c_LETTERS)) (bone (xret xbl)) bnil)))
    (bone (xret xbl))))
abbrev st_small_enough : Stmt := top 21
abbrev nm_small_enough : List Str := ["scopes", "things", "questions", "steps", "tellings", "scope", "state", "path"]
theorem sc_small_enough : FnScope nm_small_enough ["scopes", "things", "questions"] (defScope st_small_enough) := ⟨rfl, rfl, rfl, by decide +kernel, rfl, by decide +kernel, by decide +kernel⟩
def small_enough_b1 : WS :=
  (wIf (wOr (wB (w2 (cB bGt) (wCall pLen (wCons (wVar 3) wNil)) (wC (.int 8)))) (wB (w2 (cB bGt) (wCall pLen (wCons (wVar 4) wNil)) (wC (.int 12))))) (wRet (wC (.bool false))) wNext)
def small_enough_b2 : WS :=
  (wIf (wB (w2 (cB bGt) (wCall pLen (wCons (wVar 7) wNil)) (wC (.int 6)))) (wRet (wC (.bool false))) wNext)
def small_enough_r1 : WS :=
  (wRet (wC (.bool true)))
def small_enough_r2 : WS :=
  (wSeq (wFor (wIt (wVar 2)) (gT 3 (gC (gN 5) (gC (gN 6) (gC (gN 7) gE)))) small_enough_b2)
    small_enough_r1)
def small_enough_r3 : WS :=
  (wSeq (wFor (wIt (wVar 0)) (gT 2 (gC (gN 3) (gC (gN 4) gE))) small_enough_b1)
    small_enough_r2)
def ws_small_enough : WS :=
  (wSeq (wIf (wOr (wB (w2 (cB bGt) (wCall pLen (wCons (wVar 0) wNil)) (wC (.int 40)))) (wOr (wB (w2 (cB bGt) (wCall pLen (wCons (wVar 1) wNil)) (wC (.int 80)))) (wB (w2 (cB bGt) (wCall pLen (wCons (wVar 2) wNil)) (wC (.int 60)))))) (wRet (wC (.bool false))) wNext)
    small_enough_r3)
theorem ok_small_enough {f : Addr} {fd : FuncData} {sp : Spc} {ec : EcK} (F : Fun K "small_enough" "small_enough" st_small_enough f fd) (T : Txt K mg ec) (hl : ∀ ds S K KX, sp ds S K KX → ds.length = 3)
    (hs : ∀ ds S K KX, sp ds S K KX → ws_small_enough { nx := fun _ S1 => K (.z .none) S1, rt := K, ex := fun y _ S1 => KX y S1 } (startE nm_small_enough ds) S) : FnOk P w K mg base (L2.CX P w) 1 f fd ["scopes", "things", "questions"] (spOf sp) := by
  have nd := sc_small_enough.nd
  refine fnpx F sc_small_enough hl (ws := ws_small_enough) (fun cdv A outer s H E B F0 hr tk hp => ?_) hs
  have hu := hu_px hr
  exact (bcons (xif (xtw (yor (xtcmp oGt (xcallB oLen rfl T.n_len bb_len (acons (xv 0) anil)) (xgI rfl T.c_MOST_SCOPES)) (yor (xtcmp oGt (xcallB oLen rfl T.n_len bb_len (acons (xv 1) anil)) (xgI rfl T.c_MOST_THINGS)) (yor1 (xtcmp oGt (xcallB oLen rfl T.n_len bb_len (acons (xv 2) anil)) (xgI rfl T.c_MOST_QUESTIONS)))))) (bone (xret xbl)) bnil)
    (bcons (xfor hp rfl (xit (xv 0)) (xgt rfl (xgc (xgn 3 nd) (xgc (xgn 4 nd) xge))) (bone (xif (xtw (yor (xtcmp oGt (xcallB oLen rfl T.n_len bb_len (acons (xv 3) anil)) (xgI rfl T.c_MOST_STEPS)) (yor1 (xtcmp oGt (xcallB oLen rfl T.n_len bb_len (acons (xv 4) anil)) (xgI rfl T.c_MOST_TELLINGS))))) (bone (xret xbl)) bnil)))
    (bcons (xfor hp rfl (xit (xv 2)) (xgt rfl (xgc (xgn 5 nd) (xgc (xgn 6 nd) (xgc (xgn 7 nd) xge)))) (bone (xif (xtcmp oGt (xcallB oLen rfl T.n_len bb_len (acons (xv 7) anil)) (xgI rfl T.c_MOST_NAMES)) (bone (xret xbl)) bnil)))
    (bone (xret xbl)))))
abbrev st_all_named : Stmt := top 22
abbrev nm_all_named : List Str := ["scopes", "questions", "steps", "tellings", "step", "telling", "scope", "state", "path", "name"]
theorem sc_all_named : FnScope nm_all_named ["scopes", "questions"] (defScope st_all_named) := ⟨rfl, rfl, rfl, by decide +kernel, rfl, by decide +kernel, by decide +kernel⟩
def all_named_b1 (sp_is_name : Spc) : WS :=
  (wIf (wNot (wB (wFn sp_is_name [] (wCons (w2 pIx (wVar 4) (wC (.int 0))) wNil)))) (wRet (wC (.bool false))) wNext)
def all_named_b2 (sp_is_name : Spc) : WS :=
  (wIf (wOr (wNot (wB (wFn sp_is_name [] (wCons (w2 pIx (wVar 5) (wC (.int 0))) wNil)))) (wNot (wB (wFn sp_is_name [] (wCons (w2 pIx (wVar 5) (wC (.int 1))) wNil))))) (wRet (wC (.bool false))) wNext)
def all_named_b3 (sp_is_name : Spc) : WS :=
  (wSeq (wFor (wIt (wVar 2)) (gN 4) (all_named_b1 sp_is_name))
    (wFor (wIt (wVar 3)) (gN 5) (all_named_b2 sp_is_name)))
def all_named_b4 (sp_is_name : Spc) : WS :=
  (wIf (wNot (wB (wFn sp_is_name [] (wCons (wVar 9) wNil)))) (wRet (wC (.bool false))) wNext)
def all_named_b5 (sp_is_name : Spc) : WS :=
  (wSeq (wIf (wB (w2 (cB bEq) (wCall pLen (wCons (wVar 8) wNil)) (wC (.int 0)))) (wRet (wC (.bool false))) wNext)
    (wFor (wIt (wVar 8)) (gN 9) (all_named_b4 sp_is_name)))
def all_named_r1 : WS :=
  (wRet (wC (.bool true)))
def all_named_r2 (sp_is_name : Spc) : WS :=
  (wSeq (wFor (wIt (wVar 1)) (gT 3 (gC (gN 6) (gC (gN 7) (gC (gN 8) gE)))) (all_named_b5 sp_is_name))
    all_named_r1)
def ws_all_named (sp_is_name : Spc) : WS :=
  (wSeq (wFor (wIt (wVar 0)) (gT 2 (gC (gN 2) (gC (gN 3) gE))) (all_named_b3 sp_is_name))
    (all_named_r2 sp_is_name))
theorem ok_all_named {f : Addr} {fd : FuncData} {sp : Spc} {ec : EcK} {sp_is_name : Spc} (F : Fun K "all_named" "all_named" st_all_named f fd) (T : Txt K mg ec) (c_is_name : Fc P w K mg base "is_name" 1 ["thing"] sp_is_name) (hl : ∀ ds S K KX, sp ds S K KX → ds.length = 2)
    (hs : ∀ ds S K KX, sp ds S K KX → ws_all_named sp_is_name { nx := fun _ S1 => K (.z .none) S1, rt := K, ex := fun y _ S1 => KX y S1 } (startE nm_all_named ds) S) : FnOk P w K mg base (L2.CX P w) 2 f fd ["scopes", "questions"] (spOf sp) := by
  have nd := sc_all_named.nd
  refine fnpx F sc_all_named hl (ws := ws_all_named sp_is_name) (fun cdv A outer s H E B F0 hr tk hp => ?_) hs
  have hu := hu_px hr
  exact (bcons (xfor hp rfl (xit (xv 0)) (xgt rfl (xgc (xgn 2 nd) (xgc (xgn 3 nd) xge))) (bcons (xfor hp rfl (xit (xv 2)) (xgn 4 nd) (bone (xif (xtnot (xtv (xfc c_is_name (hr.mono (by decide)) tk rfl (acons (xix (oIx hu) (xv 4) xint) anil)))) (bone (xret xbl)) bnil)))
    (bone (xfor hp rfl (xit (xv 3)) (xgn 5 nd) (bone (xif (xtw (yor (xtnot (xtv (xfc c_is_name (hr.mono (by decide)) tk rfl (acons (xix (oIx hu) (xv 5) xint) anil)))) (yor1 (xtnot (xtv (xfc c_is_name (hr.mono (by decide)) tk rfl (acons (xix (oIx hu) (xv 5) xint) anil))))))) (bone (xret xbl)) bnil))))))
    (bcons (xfor hp rfl (xit (xv 1)) (xgt rfl (xgc (xgn 6 nd) (xgc (xgn 7 nd) (xgc (xgn 8 nd) xge)))) (bcons (xif (xtcmp (oEq hu) (xcallB oLen rfl T.n_len bb_len (acons (xv 8) anil)) xint) (bone (xret xbl)) bnil)
    (bone (xfor hp rfl (xit (xv 8)) (xgn 9 nd) (bone (xif (xtnot (xtv (xfc c_is_name (hr.mono (by decide)) tk rfl (acons (xv 9) anil)))) (bone (xret xbl)) bnil))))))
    (bone (xret xbl))))
abbrev st_step_there : Stmt := top 23
abbrev nm_step_there : List Str := ["step", "scopes", "questions"]
theorem sc_step_there : FnScope nm_step_there ["step", "scopes", "questions"] (defScope st_step_there) := ⟨rfl, rfl, rfl, by decide +kernel, rfl, by decide +kernel, by decide +kernel⟩
def step_there_r1 : WS :=
  (wRet (wAndV (w2 (cB bEq) (w2 pIx (wVar 0) (wC (.int 1))) (wC (.str (PySem.Str.ofString "by")))) (w3 (cB bLe) (cB bLt) (wC (.int 0)) (w2 pIx (wVar 0) (wC (.int 2))) (wCall pLen (wCons (wVar 2) wNil)))))
def ws_step_there : WS :=
  (wSeq (wIf (wB (w2 (cB bEq) (w2 pIx (wVar 0) (wC (.int 1))) (wC (.str (PySem.Str.ofString "to"))))) (wRet (w3 (cB bLe) (cB bLt) (wC (.int 0)) (w2 pIx (wVar 0) (wC (.int 2))) (wCall pLen (wCons (wVar 1) wNil)))) wNext)
    step_there_r1)
theorem ok_step_there {f : Addr} {fd : FuncData} {sp : Spc} {ec : EcK} (F : Fun K "step_there" "step_there" st_step_there f fd) (T : Txt K mg ec) (hl : ∀ ds S K KX, sp ds S K KX → ds.length = 3)
    (hs : ∀ ds S K KX, sp ds S K KX → ws_step_there { nx := fun _ S1 => K (.z .none) S1, rt := K, ex := fun y _ S1 => KX y S1 } (startE nm_step_there ds) S) : FnOk P w K mg base (L2.CX P w) 1 f fd ["step", "scopes", "questions"] (spOf sp) := by
  have nd := sc_step_there.nd
  refine fnpx F sc_step_there hl (ws := ws_step_there) (fun cdv A outer s H E B F0 hr tk hp => ?_) hs
  have hu := hu_px hr
  exact (bcons (xif (xtcmp (oEq hu) (xix (oIx hu) (xv 0) xint) xstr) (bone (xret (xch oLe oLt xint (xix (oIx hu) (xv 0) xint) (xcallB oLen rfl T.n_len bb_len (acons (xv 1) anil))))) bnil)
    (bone (xret (xand (xcmp (oEq hu) (xix (oIx hu) (xv 0) xint) xstr) (xone (xch oLe oLt xint (xix (oIx hu) (xv 0) xint) (xcallB oLen rfl T.n_len bb_len (acons (xv 2) anil))))))))
abbrev st_telling_there : Stmt := top 24
abbrev nm_telling_there : List Str := ["telling", "things", "questions"]
theorem sc_telling_there : FnScope nm_telling_there ["telling", "things", "questions"] (defScope st_telling_there) := ⟨rfl, rfl, rfl, by decide +kernel, rfl, by decide +kernel, by decide +kernel⟩
def telling_there_r1 : WS :=
  (wRet (wAndV (w2 (cB bEq) (w2 pIx (wVar 0) (wC (.int 2))) (wC (.str (PySem.Str.ofString "by")))) (w3 (cB bLe) (cB bLt) (wC (.int 0)) (w2 pIx (wVar 0) (wC (.int 3))) (wCall pLen (wCons (wVar 2) wNil)))))
def ws_telling_there : WS :=
  (wSeq (wIf (wB (w2 (cB bEq) (w2 pIx (wVar 0) (wC (.int 2))) (wC (.str (PySem.Str.ofString "thing"))))) (wRet (w3 (cB bLe) (cB bLt) (wC (.int 0)) (w2 pIx (wVar 0) (wC (.int 3))) (wCall pLen (wCons (wVar 1) wNil)))) wNext)
    telling_there_r1)
theorem ok_telling_there {f : Addr} {fd : FuncData} {sp : Spc} {ec : EcK} (F : Fun K "telling_there" "telling_there" st_telling_there f fd) (T : Txt K mg ec) (hl : ∀ ds S K KX, sp ds S K KX → ds.length = 3)
    (hs : ∀ ds S K KX, sp ds S K KX → ws_telling_there { nx := fun _ S1 => K (.z .none) S1, rt := K, ex := fun y _ S1 => KX y S1 } (startE nm_telling_there ds) S) : FnOk P w K mg base (L2.CX P w) 1 f fd ["telling", "things", "questions"] (spOf sp) := by
  have nd := sc_telling_there.nd
  refine fnpx F sc_telling_there hl (ws := ws_telling_there) (fun cdv A outer s H E B F0 hr tk hp => ?_) hs
  have hu := hu_px hr
  exact (bcons (xif (xtcmp (oEq hu) (xix (oIx hu) (xv 0) xint) xstr) (bone (xret (xch oLe oLt xint (xix (oIx hu) (xv 0) xint) (xcallB oLen rfl T.n_len bb_len (acons (xv 1) anil))))) bnil)
    (bone (xret (xand (xcmp (oEq hu) (xix (oIx hu) (xv 0) xint) xstr) (xone (xch oLe oLt xint (xix (oIx hu) (xv 0) xint) (xcallB oLen rfl T.n_len bb_len (acons (xv 2) anil))))))))
abbrev st_thing_there : Stmt := top 25
abbrev nm_thing_there : List Str := ["thing", "scopes", "questions"]
theorem sc_thing_there : FnScope nm_thing_there ["thing", "scopes", "questions"] (defScope st_thing_there) := ⟨rfl, rfl, rfl, by decide +kernel, rfl, by decide +kernel, by decide +kernel⟩
def thing_there_r1 : WS :=
  (wRet (wAndV (w2 (cB bEq) (w2 pIx (wVar 0) (wC (.int 0))) (wC (.str (PySem.Str.ofString "sort")))) (w3 (cB bLe) (cB bLt) (wC (.int 0)) (w2 pIx (wVar 0) (wC (.int 1))) (wCall pLen (wCons (wVar 2) wNil)))))
def thing_there_r2 : WS :=
  (wSeq (wIf (wB (w2 (cB bEq) (w2 pIx (wVar 0) (wC (.int 0))) (wC (.str (PySem.Str.ofString "part"))))) (wRet (w3 (cB bLe) (cB bLt) (wC (.int 0)) (w2 pIx (wVar 0) (wC (.int 1))) (wCall pLen (wCons (wVar 1) wNil)))) wNext)
    thing_there_r1)
def ws_thing_there : WS :=
  (wSeq (wIf (wB (w2 (cB bEq) (w2 pIx (wVar 0) (wC (.int 0))) (wC (.str (PySem.Str.ofString "plain"))))) (wRet (w2 (cB bEq) (w2 pIx (wVar 0) (wC (.int 1))) (wC (.int 0)))) wNext)
    thing_there_r2)
theorem ok_thing_there {f : Addr} {fd : FuncData} {sp : Spc} {ec : EcK} (F : Fun K "thing_there" "thing_there" st_thing_there f fd) (T : Txt K mg ec) (hl : ∀ ds S K KX, sp ds S K KX → ds.length = 3)
    (hs : ∀ ds S K KX, sp ds S K KX → ws_thing_there { nx := fun _ S1 => K (.z .none) S1, rt := K, ex := fun y _ S1 => KX y S1 } (startE nm_thing_there ds) S) : FnOk P w K mg base (L2.CX P w) 1 f fd ["thing", "scopes", "questions"] (spOf sp) := by
  have nd := sc_thing_there.nd
  refine fnpx F sc_thing_there hl (ws := ws_thing_there) (fun cdv A outer s H E B F0 hr tk hp => ?_) hs
  have hu := hu_px hr
  exact (bcons (xif (xtcmp (oEq hu) (xix (oIx hu) (xv 0) xint) xstr) (bone (xret (xcmp (oEq hu) (xix (oIx hu) (xv 0) xint) xint))) bnil)
    (bcons (xif (xtcmp (oEq hu) (xix (oIx hu) (xv 0) xint) xstr) (bone (xret (xch oLe oLt xint (xix (oIx hu) (xv 0) xint) (xcallB oLen rfl T.n_len bb_len (acons (xv 1) anil))))) bnil)
    (bone (xret (xand (xcmp (oEq hu) (xix (oIx hu) (xv 0) xint) xstr) (xone (xch oLe oLt xint (xix (oIx hu) (xv 0) xint) (xcallB oLen rfl T.n_len bb_len (acons (xv 2) anil)))))))))
abbrev st_all_there : Stmt := top 26
abbrev nm_all_there : List Str := ["scopes", "things", "questions", "thing", "steps", "tellings", "step", "telling", "scope", "state", "path"]
theorem sc_all_there : FnScope nm_all_there ["scopes", "things", "questions"] (defScope st_all_there) := ⟨rfl, rfl, rfl, by decide +kernel, rfl, by decide +kernel, by decide +kernel⟩
def all_there_b1 (sp_step_there : Spc) : WS :=
  (wIf (wNot (wB (wFn sp_step_there [] (wCons (wVar 6) (wCons (wVar 0) (wCons (wVar 2) wNil)))))) (wRet (wC (.bool false))) wNext)
def all_there_b2 (sp_telling_there : Spc) : WS :=
  (wIf (wNot (wB (wFn sp_telling_there [] (wCons (wVar 7) (wCons (wVar 1) (wCons (wVar 2) wNil)))))) (wRet (wC (.bool false))) wNext)
def all_there_b3 (sp_step_there : Spc) (sp_telling_there : Spc) : WS :=
  (wSeq (wFor (wIt (wVar 4)) (gN 6) (all_there_b1 sp_step_there))
    (wFor (wIt (wVar 5)) (gN 7) (all_there_b2 sp_telling_there)))
def all_there_b4 (sp_thing_there : Spc) : WS :=
  (wIf (wNot (wB (wFn sp_thing_there [] (wCons (wVar 3) (wCons (wVar 0) (wCons (wVar 2) wNil)))))) (wRet (wC (.bool false))) wNext)
def all_there_b5 : WS :=
  (wIf (wOr (wB (w2 (cB bLt) (wVar 8) (wC (.int 0)))) (wOr (wB (w2 (cB bGe) (wVar 8) (wCall pLen (wCons (wVar 0) wNil)))) (wB (w2 (cB bLt) (wVar 9) (wC (.int 0)))))) (wRet (wC (.bool false))) wNext)
def all_there_r1 : WS :=
  (wRet (wC (.bool true)))
def all_there_r2 : WS :=
  (wSeq (wFor (wIt (wVar 2)) (gT 3 (gC (gN 8) (gC (gN 9) (gC (gN 10) gE)))) all_there_b5)
    all_there_r1)
def all_there_r3 (sp_thing_there : Spc) : WS :=
  (wSeq (wFor (wIt (wVar 1)) (gN 3) (all_there_b4 sp_thing_there))
    all_there_r2)
def ws_all_there (sp_step_there : Spc) (sp_telling_there : Spc) (sp_thing_there : Spc) : WS :=
  (wSeq (wFor (wIt (wVar 0)) (gT 2 (gC (gN 4) (gC (gN 5) gE))) (all_there_b3 sp_step_there sp_telling_there))
    (all_there_r3 sp_thing_there))
theorem ok_all_there {f : Addr} {fd : FuncData} {sp : Spc} {ec : EcK} {sp_step_there : Spc} {sp_telling_there : Spc} {sp_thing_there : Spc} (F : Fun K "all_there" "all_there" st_all_there f fd) (T : Txt K mg ec) (c_step_there : Fc P w K mg base "step_there" 1 ["step", "scopes", "questions"] sp_step_there) (c_telling_there : Fc P w K mg base "telling_there" 1 ["telling", "things", "questions"] sp_telling_there) (c_thing_there : Fc P w K mg base "thing_there" 1 ["thing", "scopes", "questions"] sp_thing_there) (hl : ∀ ds S K KX, sp ds S K KX → ds.length = 3)
    (hs : ∀ ds S K KX, sp ds S K KX → ws_all_there sp_step_there sp_telling_there sp_thing_there { nx := fun _ S1 => K (.z .none) S1, rt := K, ex := fun y _ S1 => KX y S1 } (startE nm_all_there ds) S) : FnOk P w K mg base (L2.CX P w) 2 f fd ["scopes", "things", "questions"] (spOf sp) := by
  have nd := sc_all_there.nd
  refine fnpx F sc_all_there hl (ws := ws_all_there sp_step_there sp_telling_there sp_thing_there) (fun cdv A outer s H E B F0 hr tk hp => ?_) hs
  have hu := hu_px hr
  exact (bcons (xfor hp rfl (xit (xv 0)) (xgt rfl (xgc (xgn 4 nd) (xgc (xgn 5 nd) xge))) (bcons (xfor hp rfl (xit (xv 4)) (xgn 6 nd) (bone (xif (xtnot (xtv (xfc c_step_there (hr.mono (by decide)) tk rfl (acons (xv 6) (acons (xv 0) (acons (xv 2) anil)))))) (bone (xret xbl)) bnil)))
    (bone (xfor hp rfl (xit (xv 5)) (xgn 7 nd) (bone (xif (xtnot (xtv (xfc c_telling_there (hr.mono (by decide)) tk rfl (acons (xv 7) (acons (xv 1) (acons (xv 2) anil)))))) (bone (xret xbl)) bnil))))))
    (bcons (xfor hp rfl (xit (xv 1)) (xgn 3 nd) (bone (xif (xtnot (xtv (xfc c_thing_there (hr.mono (by decide)) tk rfl (acons (xv 3) (acons (xv 0) (acons (xv 2) anil)))))) (bone (xret xbl)) bnil)))
    (bcons (xfor hp rfl (xit (xv 2)) (xgt rfl (xgc (xgn 8 nd) (xgc (xgn 9 nd) (xgc (xgn 10 nd) xge)))) (bone (xif (xtw (yor (xtcmp oLt (xv 8) xint) (yor (xtcmp oGe (xv 8) (xcallB oLen rfl T.n_len bb_len (acons (xv 0) anil))) (yor1 (xtcmp oLt (xv 9) xint))))) (bone (xret xbl)) bnil)))
    (bone (xret xbl)))))
abbrev st_net_of : Stmt := top 27
abbrev nm_net_of : List Str := ["scopes", "things", "questions", "steps", "tellings"]
theorem sc_net_of : FnScope nm_net_of ["scopes", "things", "questions"] (defScope st_net_of) := ⟨rfl, rfl, rfl, by decide +kernel, rfl, by decide +kernel, by decide +kernel⟩
def net_of_e1 : WE :=
  (wTup (wCons (wCall pList (wCons (wVar 3) wNil)) (wCons (wCall pList (wCons (wVar 4) wNil)) wNil)))
def net_of_r1 : WS :=
  (wRet (wTup (wCons (wLc (wIt (wVar 0)) (tgT [3, 4]) wYes net_of_e1 [3, 4]) (wCons (wCall pList (wCons (wVar 1) wNil)) (wCons (wCall pList (wCons (wVar 2) wNil)) wNil)))))
def net_of_r2 (ec : EcK) (sp_all_there : Spc) : WS :=
  (wSeq (wIf (wNot (wB (wFn sp_all_there [] (wCons (wVar 0) (wCons (wVar 1) (wCons (wVar 2) wNil)))))) (wRaise (ec.cl "NoPlace")) wNext)
    net_of_r1)
def net_of_r3 (ec : EcK) (sp_all_named : Spc) (sp_all_there : Spc) : WS :=
  (wSeq (wIf (wNot (wB (wFn sp_all_named [] (wCons (wVar 0) (wCons (wVar 2) wNil))))) (wRaise (ec.cl "NoName")) wNext)
    (net_of_r2 ec  sp_all_there))
def ws_net_of (ec : EcK) (sp_small_enough : Spc) (sp_all_named : Spc) (sp_all_there : Spc) : WS :=
  (wSeq (wIf (wNot (wB (wFn sp_small_enough [] (wCons (wVar 0) (wCons (wVar 1) (wCons (wVar 2) wNil)))))) (wRaise (ec.cl "TooGreat")) wNext)
    (net_of_r3 ec  sp_all_named sp_all_there))
theorem ok_net_of {f : Addr} {fd : FuncData} {sp : Spc} {ec : EcK} {sp_small_enough : Spc} {sp_all_named : Spc} {sp_all_there : Spc} (F : Fun K "net_of" "net_of" st_net_of f fd) (T : Txt K mg ec) (c_small_enough : Fc P w K mg base "small_enough" 1 ["scopes", "things", "questions"] sp_small_enough) (c_all_named : Fc P w K mg base "all_named" 2 ["scopes", "questions"] sp_all_named) (c_all_there : Fc P w K mg base "all_there" 2 ["scopes", "things", "questions"] sp_all_there) (hl : ∀ ds S K KX, sp ds S K KX → ds.length = 3)
    (hs : ∀ ds S K KX, sp ds S K KX → ws_net_of ec sp_small_enough sp_all_named sp_all_there { nx := fun _ S1 => K (.z .none) S1, rt := K, ex := fun y _ S1 => KX y S1 } (startE nm_net_of ds) S) : FnOk P w K mg base (L2.CX P w) 3 f fd ["scopes", "things", "questions"] (spOf sp) := by
  have nd := sc_net_of.nd
  refine fnpx F sc_net_of hl (ws := ws_net_of ec sp_small_enough sp_all_named sp_all_there) (fun cdv A outer s H E B F0 hr tk hp => ?_) hs
  have hu := hu_px hr
  exact (bcons (xif (xtnot (xtv (xfc c_small_enough (hr.mono (by decide)) tk rfl (acons (xv 0) (acons (xv 1) (acons (xv 2) anil)))))) (bone (xraise rfl tk T.x_TooGreat rfl)) bnil)
    (bcons (xif (xtnot (xtv (xfc c_all_named (hr.mono (by decide)) tk rfl (acons (xv 0) (acons (xv 2) anil))))) (bone (xraise rfl tk T.x_NoName rfl)) bnil)
    (bcons (xif (xtnot (xtv (xfc c_all_there (hr.mono (by decide)) tk rfl (acons (xv 0) (acons (xv 1) (acons (xv 2) anil)))))) (bone (xraise rfl tk T.x_NoPlace rfl)) bnil)
    (bone (xret (xtup (acons (xlc (own := [("steps", 3), ("tellings", 4)]) rfl nd (xit (xv 0)) (blkOk_by (N := nm_net_of) (sc := defScope st_net_of) (by decide +kernel)) (fun _ _ _ _ _ => pg_tup (n := 2) rfl (pgs_cons (pg_name (i := 3) nd rfl (Or.inl rfl)) (pgs_cons (pg_name (i := 4) nd rfl (Or.inl rfl)) pgs_nil))) (tgok_tup (is := [3, 4])) (fun _ _ _ _ _ => tsNil) (fun _ _ _ _ _ => (xtup (acons (xcallT oList rfl T.n_list bb_list (acons (xv 3) anil)) (acons (xcallT oList rfl T.n_list bb_list (acons (xv 4) anil)) anil))))) (acons (xcallT oList rfl T.n_list bb_list (acons (xv 1) anil)) (acons (xcallT oList rfl T.n_list bb_list (acons (xv 2) anil)) anil)))))))))
abbrev st__law_cell_at : Stmt := top 29
abbrev nm__law_cell_at : List Str := ["_law_script", "_law_k"]
theorem sc__law_cell_at : FnScope nm__law_cell_at ["_law_script", "_law_k"] (defScope st__law_cell_at) := ⟨rfl, rfl, rfl, by decide +kernel, rfl, by decide +kernel, by decide +kernel⟩
def _law_cell_at_r1 : WS :=
  (wRet (wC (.int 0)))
def ws__law_cell_at : WS :=
  (wSeq (wIf (wB (w2 (cB bLt) (wVar 1) (wCall pLen (wCons (wVar 0) wNil)))) (wRet (w2 pIx (wVar 0) (wVar 1))) wNext)
    _law_cell_at_r1)
theorem ok__law_cell_at {f : Addr} {fd : FuncData} {sp : Spc} {ec : EcK} (F : Fun K "_law_cell_at" "_law_cell_at" st__law_cell_at f fd) (T : Txt K mg ec) (hl : ∀ ds S K KX, sp ds S K KX → ds.length = 2)
    (hs : ∀ ds S K KX, sp ds S K KX → ws__law_cell_at { nx := fun _ S1 => K (.z .none) S1, rt := K, ex := fun y _ S1 => KX y S1 } (startE nm__law_cell_at ds) S) : FnOk P w K mg base (L2.CX P w) 1 f fd ["_law_script", "_law_k"] (spOf sp) := by
  have nd := sc__law_cell_at.nd
  refine fnpx F sc__law_cell_at hl (ws := ws__law_cell_at) (fun cdv A outer s H E B F0 hr tk hp => ?_) hs
  have hu := hu_px hr
  exact (bcons (xif (xtcmp oLt (xv 1) (xcallB oLen rfl T.n_len bb_len (acons (xv 0) anil))) (bone (xret (xix (oIx hu) (xv 0) (xv 1)))) bnil)
    (bone (xret xint)))
abbrev st__law_words : Stmt := top 30
abbrev nm__law_words : List Str := ["_law_cell", "_law_many", "_law_letters", "_law_size", "_law_at", "_law_words_here", "_law_k", "_law_word_here", "_law_j", "_law_number_here"]
theorem sc__law_words : FnScope nm__law_words ["_law_cell", "_law_many"] (defScope st__law_words) := ⟨rfl, rfl, rfl, by decide +kernel, rfl, by decide +kernel, by decide +kernel⟩
def _law_words_b1 : WS :=
  (wSeq (wAsg (w2 pAdd (w2 pDiv (w2 pDiv (wVar 0) (wC (.int 49))) (w2 pAdd (wVar 8) (wC (.int 1)))) (w2 pMul (wVar 8) (wVar 8))) (gN 9))
    (wSeq (wIf (wB (w2 (cB bEq) (wVar 8) (wVar 4))) (wAug pAddI 9 (wVar 6)) wNext)
    (wAsg (w2 pAdd (wVar 7) (w2 pIx (wVar 2) (w2 pMod (wVar 9) (wC (.int 26))))) (gN 7))))
def _law_words_b2 : WS :=
  (wSeq (wAsg (wC (.str (PySem.Str.ofString ""))) (gN 7))
    (wSeq (wFor (wRg1 (wCons (wVar 3) wNil)) (gN 8) _law_words_b1)
    (wDrop (wMth .list pApp (wVar 5) (wCons (wVar 7) wNil)))))
def _law_words_r1 : WS :=
  (wRet (wVar 5))
def _law_words_r2 : WS :=
  (wSeq (wIf (wB (w2 (cB bEq) (w2 pMod (w2 pDiv (wVar 0) (wC (.int 49))) (wC (.int 3))) (wC (.int 1)))) (wAsg (w2 pAdd (w2 pIx (wVar 5) (wC (.int 0))) (w2 pIx (wVar 2) (w2 pMod (w2 pDiv (wVar 0) (wC (.int 147))) (wC (.int 26))))) (gS (wVar 5) (wC (.int 1)))) wNext)
    _law_words_r1)
def ws__law_words : WS :=
  (wSeq (wAsg (wC (.str (PySem.Str.ofString "abcdefghijklmnopqrstuvwxyz"))) (gN 2))
    (wSeq (wAsg (w2 pAdd (wC (.int 1)) (w2 pMod (wVar 0) (wC (.int 7)))) (gN 3))
    (wSeq (wAsg (w2 pMod (w2 pDiv (wVar 0) (wC (.int 7))) (wVar 3)) (gN 4))
    (wSeq (wAsg (wLst wNil) (gN 5))
    (wSeq (wFor (wRg1 (wCons (wVar 1) wNil)) (gN 6) _law_words_b2)
    _law_words_r2)))))
theorem ok__law_words {f : Addr} {fd : FuncData} {sp : Spc} {ec : EcK} (F : Fun K "_law_words" "_law_words" st__law_words f fd) (T : Txt K mg ec) (hl : ∀ ds S K KX, sp ds S K KX → ds.length = 2)
    (hs : ∀ ds S K KX, sp ds S K KX → ws__law_words { nx := fun _ S1 => K (.z .none) S1, rt := K, ex := fun y _ S1 => KX y S1 } (startE nm__law_words ds) S) : FnOk P w K mg base (L2.CX P w) 1 f fd ["_law_cell", "_law_many"] (spOf sp) := by
  have nd := sc__law_words.nd
  refine fnpx F sc__law_words hl (ws := ws__law_words) (fun cdv A outer s H E B F0 hr tk hp => ?_) hs
  have hu := hu_px hr
  exact (bcons (xasg xstr (xgn 2 nd))
    (bcons (xasg (xop oAdd xint (xop oMod (xv 0) xint)) (xgn 3 nd))
    (bcons (xasg (xop oMod (xop oDiv (xv 0) xint) (xv 3)) (xgn 4 nd))
    (bcons (xasg (xlst anil) (xgn 5 nd))
    (bcons (xfor hp rfl (xrg1 rfl T.n_range (acons (xv 1) anil)) (xgn 6 nd) (bcons (xasg xstr (xgn 7 nd))
    (bcons (xfor hp rfl (xrg1 rfl T.n_range (acons (xv 3) anil)) (xgn 8 nd) (bcons (xasg (xop oAdd (xop oDiv (xop oDiv (xv 0) xint) (xop oAdd (xv 8) xint)) (xop oMul (xv 8) (xv 8))) (xgn 9 nd))
    (bcons (xif (xtcmp (oEq hu) (xv 8) (xv 4)) (bone (xaug 9 oAddI nd (xv 6))) bnil)
    (bone (xasg (xop oAdd (xv 7) (xix (oIx hu) (xv 2) (xop oMod (xv 9) xint))) (xgn 7 nd))))))
    (bone (xexpr (xm1 (T := .list) PySem.F.plainAttrs_list PySem.F.slot_list_append PySem.F.type_list_append oApp (xv 5) (acons (xv 7) anil)))))))
    (bcons (xif (xtcmp (oEq hu) (xop oMod (xop oDiv (xv 0) xint) xint) xint) (bone (xasg (xop oAdd (xix (oIx hu) (xv 5) xint) (xix (oIx hu) (xv 2) (xop oMod (xop oDiv (xv 0) xint) xint))) (xgs (W := W0) hu (xv 5) xint))) bnil)
    (bone (xret (xv 5)))))))))
abbrev st__law_kinds_of : Stmt := top 31
abbrev nm__law_kinds_of : List Str := ["_law_scopes", "_law_things", "_law_questions", "_law_kinds", "e"]
theorem sc__law_kinds_of : FnScope nm__law_kinds_of ["_law_scopes", "_law_things", "_law_questions"] (defScope st__law_kinds_of) := ⟨rfl, rfl, rfl, by decide +kernel, rfl, by decide +kernel, by decide +kernel⟩
def _law_kinds_of_r1 : WS :=
  (wRet (wVar 3))
def ws__law_kinds_of (ec : EcK) (sp_net_of : Spc) : WS :=
  (wSeq (wAsg (wC .none) (gN 3))
    (wSeq (wTryAs ec.kn (ec.mt "PathError") 4 (wDrop (wFn sp_net_of [] (wCons (wVar 0) (wCons (wVar 1) (wCons (wVar 2) wNil)))))
    (fun a v => (wSeq (wAsg (wLst (wCons (wIsE 4 a (ec.kd v "ValueError")) (wCons (wIsE 4 a (ec.kd v "TooGreat")) (wCons (wIsE 4 a (ec.kd v "NoName")) (wCons (wIsE 4 a (ec.kd v "NoPlace")) wNil))))) (gN 3))
    (wSeq (wAsg (w2 pAdd (wVar 3) (wLst (wCons (wIsE 4 a (ec.kd v "Twice")) (wCons (wIsE 4 a (ec.kd v "Tangled")) (wCons (wIsE 4 a (ec.kd v "NoText")) (wCons (wIsE 4 a (ec.kd v "NoRow")) wNil)))))) (gN 3))
    (wAsg (w2 pAdd (wVar 3) (wLst (wCons (wIsE 4 a (ec.kd v "Ring")) (wCons (wIsE 4 a (ec.kd v "Caught")) wNil)))) (gN 3))))))
    _law_kinds_of_r1))
theorem ok__law_kinds_of {f : Addr} {fd : FuncData} {sp : Spc} {ec : EcK} {sp_net_of : Spc} (F : Fun K "_law_kinds_of" "_law_kinds_of" st__law_kinds_of f fd) (T : Txt K mg ec) (c_net_of : Fc P w K mg base "net_of" 3 ["scopes", "things", "questions"] sp_net_of) (hl : ∀ ds S K KX, sp ds S K KX → ds.length = 3)
    (hs : ∀ ds S K KX, sp ds S K KX → ws__law_kinds_of ec sp_net_of { nx := fun _ S1 => K (.z .none) S1, rt := K, ex := fun y _ S1 => KX y S1 } (startE nm__law_kinds_of ds) S) : FnOk P w K mg base (L2.CX P w) 4 f fd ["_law_scopes", "_law_things", "_law_questions"] (spOf sp) := by
  have nd := sc__law_kinds_of.nd
  refine fnpx F sc__law_kinds_of hl (ws := ws__law_kinds_of ec sp_net_of) (fun cdv A outer s H E B F0 hr tk hp => ?_) hs
  have hu := hu_px hr
  exact (bcons (xasg xnon (xgn 3 nd))
    (bcons (xtryas (i := 4) rfl rfl nd rfl rfl ⟨rfl, by decide, .inl T.g_PathError⟩ tk (fun W2 pn xe tk hp => (bone (xexpr (xfc c_net_of (hr.mono (by decide)) tk rfl (acons (xv 0) (acons (xv 1) (acons (xv 2) anil))))))) T.m_PathError
    (fun a oe v pn hk hz hd => by obtain ⟨D, rfl, Cf⟩ := T.kc v hk; exact (bcons (xasg (xlst (acons (xisV (T.kve _ hk) Cf hz hd rfl T.n_isinstance rfl T.n_ValueError (pv 4)) (acons (xisE (T.k_TooGreat _ hk) Cf hz hd rfl T.n_isinstance rfl T.g_TooGreat (pv 4)) (acons (xisE (T.k_NoName _ hk) Cf hz hd rfl T.n_isinstance rfl T.g_NoName (pv 4)) (acons (xisE (T.k_NoPlace _ hk) Cf hz hd rfl T.n_isinstance rfl T.g_NoPlace (pv 4)) anil))))) (xgn 3 nd))
    (bcons (xasg (xop oAdd (xv 3) (xlst (acons (xisE (T.k_Twice _ hk) Cf hz hd rfl T.n_isinstance rfl T.g_Twice (pv 4)) (acons (xisE (T.k_Tangled _ hk) Cf hz hd rfl T.n_isinstance rfl T.g_Tangled (pv 4)) (acons (xisE (T.k_NoText _ hk) Cf hz hd rfl T.n_isinstance rfl T.g_NoText (pv 4)) (acons (xisE (T.k_NoRow _ hk) Cf hz hd rfl T.n_isinstance rfl T.g_NoRow (pv 4)) anil)))))) (xgn 3 nd))
    (bone (xasg (xop oAdd (xv 3) (xlst (acons (xisE (T.k_Ring _ hk) Cf hz hd rfl T.n_isinstance rfl T.g_Ring (pv 4)) (acons (xisE (T.k_Caught _ hk) Cf hz hd rfl T.n_isinstance rfl T.g_Caught (pv 4)) anil)))) (xgn 3 nd)))))))
    (bone (xret (xv 3)))))
abbrev st__law_refused_as : Stmt := top 32
abbrev nm__law_refused_as : List Str := ["_law_kinds", "_law_due_here", "_law_k"]
theorem sc__law_refused_as : FnScope nm__law_refused_as ["_law_kinds", "_law_due_here"] (defScope st__law_refused_as) := ⟨rfl, rfl, rfl, by decide +kernel, rfl, by decide +kernel, by decide +kernel⟩
def _law_refused_as_e1 : WE :=
  (w2 (cB bEq) (wVar 2) (wVar 1))
def _law_refused_as_r1 : WS :=
  (wRet (w2 (cB bEq) (wSl pSl (wVar 0) (wPart (wC (.int 1))) wNo) (wLc (wRg1 (wCons (wC (.int 9)) wNil)) (tgN 2) wYes _law_refused_as_e1 [2])))
def ws__law_refused_as : WS :=
  (wSeq (wIf (wOr (wB (w2 (cB bIs) (wVar 0) (wC .none))) (wB (w2 (cB bIsNot) (w2 pIx (wVar 0) (wC (.int 0))) (wC (.bool true))))) (wRet (wC (.bool false))) wNext)
    _law_refused_as_r1)
theorem ok__law_refused_as {f : Addr} {fd : FuncData} {sp : Spc} {ec : EcK} (F : Fun K "_law_refused_as" "_law_refused_as" st__law_refused_as f fd) (T : Txt K mg ec) (hl : ∀ ds S K KX, sp ds S K KX → ds.length = 2)
    (hs : ∀ ds S K KX, sp ds S K KX → ws__law_refused_as { nx := fun _ S1 => K (.z .none) S1, rt := K, ex := fun y _ S1 => KX y S1 } (startE nm__law_refused_as ds) S) : FnOk P w K mg base (L2.CX P w) 1 f fd ["_law_kinds", "_law_due_here"] (spOf sp) := by
  have nd := sc__law_refused_as.nd
  refine fnpx F sc__law_refused_as hl (ws := ws__law_refused_as) (fun cdv A outer s H E B F0 hr tk hp => ?_) hs
  have hu := hu_px hr
  exact (bcons (xif (xtw (yor (xtcmp oIs (xv 0) xnon) (yor1 (xtcmp oIsNot (xix (oIx hu) (xv 0) xint) xbl)))) (bone (xret xbl)) bnil)
    (bone (xret (xcmp (oEq hu) (xsl oSl (xv 0) (osome xint) ono) (xlc (own := [("_law_k", 2)]) rfl nd (xrg1 rfl T.n_range (acons xint anil)) (blkOk_by (N := nm__law_refused_as) (sc := defScope st__law_refused_as) (by decide +kernel)) (fun _ _ _ _ _ => pg_name (i := 2) nd rfl (Or.inl rfl)) tgok_name (fun _ _ _ _ _ => tsNil) (fun _ _ _ _ _ => (xcmp (oEq hu) (xv 2) (xv 1))))))))
abbrev st__law_is_net : Stmt := top 33
abbrev nm__law_is_net : List Str := ["_law_net", "_law_parts", "_law_some", "_law_scope", "_law_row"]
theorem sc__law_is_net : FnScope nm__law_is_net ["_law_net", "_law_parts"] (defScope st__law_is_net) := ⟨rfl, rfl, rfl, by decide +kernel, rfl, by decide +kernel, by decide +kernel⟩
def _law_is_net_b1 : WS :=
  (wIf (wNot (wB (wCall pIsi (wCons (wVar 2) (wCons (wTy .list) wNil))))) (wRet (wC (.bool false))) wNext)
def _law_is_net_b2 : WS :=
  (wSeq (wIf (wOr (wNot (wB (wCall pIsi (wCons (wVar 3) (wCons (wTy .tuple) wNil))))) (wB (w2 (cB bNe) (wCall pLen (wCons (wVar 3) wNil)) (wC (.int 2))))) (wRet (wC (.bool false))) wNext)
    (wIf (wOr (wNot (wB (wCall pIsi (wCons (w2 pIx (wVar 3) (wC (.int 0))) (wCons (wTy .list) wNil))))) (wNot (wB (wCall pIsi (wCons (w2 pIx (wVar 3) (wC (.int 1))) (wCons (wTy .list) wNil)))))) (wRet (wC (.bool false))) wNext))
def _law_is_net_b3 : WS :=
  (wIf (wNot (wB (wCall pIsi (wCons (wVar 4) (wCons (wTy .tuple) wNil))))) (wRet (wC (.bool false))) wNext)
def _law_is_net_r1 : WS :=
  (wRet (w2 (cB bEq) (wVar 0) (wVar 1)))
def _law_is_net_r2 : WS :=
  (wSeq (wFor (wIt (w2 pAdd (w2 pIx (wVar 0) (wC (.int 1))) (w2 pIx (wVar 0) (wC (.int 2))))) (gN 4) _law_is_net_b3)
    _law_is_net_r1)
def _law_is_net_r3 : WS :=
  (wSeq (wFor (wIt (w2 pIx (wVar 0) (wC (.int 0)))) (gN 3) _law_is_net_b2)
    _law_is_net_r2)
def _law_is_net_r4 : WS :=
  (wSeq (wFor (wIt (wVar 0)) (gN 2) _law_is_net_b1)
    _law_is_net_r3)
def ws__law_is_net : WS :=
  (wSeq (wIf (wOr (wNot (wB (wCall pIsi (wCons (wVar 0) (wCons (wTy .tuple) wNil))))) (wB (w2 (cB bNe) (wCall pLen (wCons (wVar 0) wNil)) (wC (.int 3))))) (wRet (wC (.bool false))) wNext)
    _law_is_net_r4)
theorem ok__law_is_net {f : Addr} {fd : FuncData} {sp : Spc} {ec : EcK} (F : Fun K "_law_is_net" "_law_is_net" st__law_is_net f fd) (T : Txt K mg ec) (hl : ∀ ds S K KX, sp ds S K KX → ds.length = 2)
    (hs : ∀ ds S K KX, sp ds S K KX → ws__law_is_net { nx := fun _ S1 => K (.z .none) S1, rt := K, ex := fun y _ S1 => KX y S1 } (startE nm__law_is_net ds) S) : FnOk P w K mg base (L2.CX P w) 1 f fd ["_law_net", "_law_parts"] (spOf sp) := by
  have nd := sc__law_is_net.nd
  refine fnpx F sc__law_is_net hl (ws := ws__law_is_net) (fun cdv A outer s H E B F0 hr tk hp => ?_) hs
  have hu := hu_px hr
  exact (bcons (xif (xtw (yor (xtnot (xtv (xcallB oIsi rfl T.n_isinstance bb_isinstance (acons (xv 0) (acons (xty (T := .tuple) rfl T.n_tuple bb_tuple) anil))))) (yor1 (xtcmp (oNe hu) (xcallB oLen rfl T.n_len bb_len (acons (xv 0) anil)) xint)))) (bone (xret xbl)) bnil)
    (bcons (xfor hp rfl (xit (xv 0)) (xgn 2 nd) (bone (xif (xtnot (xtv (xcallB oIsi rfl T.n_isinstance bb_isinstance (acons (xv 2) (acons (xty (T := .list) rfl T.n_list bb_list) anil))))) (bone (xret xbl)) bnil)))
    (bcons (xfor hp rfl (xit (xix (oIx hu) (xv 0) xint)) (xgn 3 nd) (bcons (xif (xtw (yor (xtnot (xtv (xcallB oIsi rfl T.n_isinstance bb_isinstance (acons (xv 3) (acons (xty (T := .tuple) rfl T.n_tuple bb_tuple) anil))))) (yor1 (xtcmp (oNe hu) (xcallB oLen rfl T.n_len bb_len (acons (xv 3) anil)) xint)))) (bone (xret xbl)) bnil)
    (bone (xif (xtw (yor (xtnot (xtv (xcallB oIsi rfl T.n_isinstance bb_isinstance (acons (xix (oIx hu) (xv 3) xint) (acons (xty (T := .list) rfl T.n_list bb_list) anil))))) (yor1 (xtnot (xtv (xcallB oIsi rfl T.n_isinstance bb_isinstance (acons (xix (oIx hu) (xv 3) xint) (acons (xty (T := .list) rfl T.n_list bb_list) anil)))))))) (bone (xret xbl)) bnil))))
    (bcons (xfor hp rfl (xit (xop oAdd (xix (oIx hu) (xv 0) xint) (xix (oIx hu) (xv 0) xint))) (xgn 4 nd) (bone (xif (xtnot (xtv (xcallB oIsi rfl T.n_isinstance bb_isinstance (acons (xv 4) (acons (xty (T := .tuple) rfl T.n_tuple bb_tuple) anil))))) (bone (xret xbl)) bnil)))
    (bone (xret (xcmp (oEq hu) (xv 0) (xv 1))))))))
abbrev st__law_copy : Stmt := top 34
abbrev nm__law_copy : List Str := ["_law_parts", "_law_scopes", "_law_steps", "_law_tellings"]
theorem sc__law_copy : FnScope nm__law_copy ["_law_parts"] (defScope st__law_copy) := ⟨rfl, rfl, rfl, by decide +kernel, rfl, by decide +kernel, by decide +kernel⟩
def _law_copy_e1 : WE :=
  (wTup (wCons (wCall pList (wCons (wVar 2) wNil)) (wCons (wCall pList (wCons (wVar 3) wNil)) wNil)))
def ws__law_copy : WS :=
  (wSeq (wAsg (wLc (wIt (w2 pIx (wVar 0) (wC (.int 0)))) (tgT [2, 3]) wYes _law_copy_e1 [2, 3]) (gN 1))
    (wRet (wTup (wCons (wVar 1) (wCons (wCall pList (wCons (w2 pIx (wVar 0) (wC (.int 1))) wNil)) (wCons (wCall pList (wCons (w2 pIx (wVar 0) (wC (.int 2))) wNil)) wNil))))))
theorem ok__law_copy {f : Addr} {fd : FuncData} {sp : Spc} {ec : EcK} (F : Fun K "_law_copy" "_law_copy" st__law_copy f fd) (T : Txt K mg ec) (hl : ∀ ds S K KX, sp ds S K KX → ds.length = 1)
    (hs : ∀ ds S K KX, sp ds S K KX → ws__law_copy { nx := fun _ S1 => K (.z .none) S1, rt := K, ex := fun y _ S1 => KX y S1 } (startE nm__law_copy ds) S) : FnOk P w K mg base (L2.CX P w) 1 f fd ["_law_parts"] (spOf sp) := by
  have nd := sc__law_copy.nd
  refine fnpx F sc__law_copy hl (ws := ws__law_copy) (fun cdv A outer s H E B F0 hr tk hp => ?_) hs
  have hu := hu_px hr
  exact (bcons (xsetLc (i := 1) (own := [("_law_steps", 2), ("_law_tellings", 3)]) rfl nd rfl rfl (sw_true rfl rfl rfl (by decide +kernel)) (xit (xix (oIx hu) (xv 0) xint)) (blkOk_by (N := nm__law_copy) (sc := defScope st__law_copy) (by decide +kernel)) (fun _ _ _ _ _ => pg_tup (n := 2) rfl (pgs_cons (pg_name (i := 2) nd rfl (Or.inl rfl)) (pgs_cons (pg_name (i := 3) nd rfl (Or.inl rfl)) pgs_nil))) (tgok_tup (is := [2, 3])) (fun _ _ _ _ _ => tsNil) (fun _ _ _ _ _ => (xtup (acons (xcallT oList rfl T.n_list bb_list (acons (xv 2) anil)) (acons (xcallT oList rfl T.n_list bb_list (acons (xv 3) anil)) anil)))))
    (bone (xret (xtup (acons (xv 1) (acons (xcallT oList rfl T.n_list bb_list (acons (xix (oIx hu) (xv 0) xint) anil)) (acons (xcallT oList rfl T.n_list bb_list (acons (xix (oIx hu) (xv 0) xint) anil)) anil)))))))
abbrev st__law_number : Stmt := top 35
abbrev nm__law_number : List Str := ["_law_number_here", "_law_many", "_law_bad"]
theorem sc__law_number : FnScope nm__law_number ["_law_number_here", "_law_many", "_law_bad"] (defScope st__law_number) := ⟨rfl, rfl, rfl, by decide +kernel, rfl, by decide +kernel, by decide +kernel⟩
def _law_number_r1 : WS :=
  (wRet (w2 pMod (wVar 0) (wVar 1)))
def _law_number_r2 : WS :=
  (wSeq (wIf (wB (w2 (cB bEq) (wVar 1) (wC (.int 0)))) (wRet (wC (.int 0))) wNext)
    _law_number_r1)
def _law_number_r3 : WS :=
  (wSeq (wIf (wB (w2 (cB bEq) (w2 pMod (wVar 2) (wC (.int 12))) (wC (.int 3)))) (wRet (w2 pSub (w1 pNeg (wC (.int 1))) (w2 pDiv (wVar 0) (wC (.int 7))))) wNext)
    _law_number_r2)
def ws__law_number : WS :=
  (wSeq (wIf (wB (w2 (cB bEq) (w2 pMod (wVar 2) (wC (.int 12))) (wC (.int 1)))) (wRet (w2 pAdd (wVar 1) (w2 pDiv (wVar 0) (wC (.int 7))))) wNext)
    _law_number_r3)
theorem ok__law_number {f : Addr} {fd : FuncData} {sp : Spc} {ec : EcK} (F : Fun K "_law_number" "_law_number" st__law_number f fd) (T : Txt K mg ec) (hl : ∀ ds S K KX, sp ds S K KX → ds.length = 3)
    (hs : ∀ ds S K KX, sp ds S K KX → ws__law_number { nx := fun _ S1 => K (.z .none) S1, rt := K, ex := fun y _ S1 => KX y S1 } (startE nm__law_number ds) S) : FnOk P w K mg base (L2.CX P w) 1 f fd ["_law_number_here", "_law_many", "_law_bad"] (spOf sp) := by
  have nd := sc__law_number.nd
  refine fnpx F sc__law_number hl (ws := ws__law_number) (fun cdv A outer s H E B F0 hr tk hp => ?_) hs
  have hu := hu_px hr
  exact (bcons (xif (xtcmp (oEq hu) (xop oMod (xv 2) xint) xint) (bone (xret (xop oAdd (xv 1) (xop oDiv (xv 0) xint)))) bnil)
    (bcons (xif (xtcmp (oEq hu) (xop oMod (xv 2) xint) xint) (bone (xret (xop oSub (xun oNeg xint) (xop oDiv (xv 0) xint)))) bnil)
    (bcons (xif (xtcmp (oEq hu) (xv 1) xint) (bone (xret xint)) bnil)
    (bone (xret (xop oMod (xv 0) (xv 1)))))))
abbrev st__law_word : Stmt := top 36
abbrev nm__law_word : List Str := ["_law_number_here", "_law_words_here", "_law_bad", "_law_word_here"]
theorem sc__law_word : FnScope nm__law_word ["_law_number_here", "_law_words_here", "_law_bad"] (defScope st__law_word) := ⟨rfl, rfl, rfl, by decide +kernel, rfl, by decide +kernel, by decide +kernel⟩
def _law_word_r1 : WS :=
  (wRet (wVar 3))
def ws__law_word : WS :=
  (wSeq (wAsg (w2 pIx (wVar 1) (w2 pMod (wVar 0) (wCall pLen (wCons (wVar 1) wNil)))) (gN 3))
    (wSeq (wIf (wB (w2 (cB bEq) (w2 pMod (wVar 2) (wC (.int 12))) (wC (.int 5)))) (wRet (w2 pIx (wLst (wCons (wC (.str (PySem.Str.ofString ""))) (wCons (w2 pAdd (w2 pAdd (wVar 3) (wVar 3)) (wC (.str (PySem.Str.ofString "abcdefgh")))) (wCons (w2 pAdd (wSl pSl (wVar 3) (wPart (wC (.int 1))) wNo) (wC (.str (PySem.Str.ofString "Q")))) (wCons (w2 pAdd (wSl pSl (wVar 3) wNo (wPart (wC (.int 3)))) (wC (.str (PySem.Str.ofString " a")))) wNil))))) (w2 pMod (w2 pDiv (wVar 0) (wC (.int 9))) (wC (.int 4))))) wNext)
    _law_word_r1))
theorem ok__law_word {f : Addr} {fd : FuncData} {sp : Spc} {ec : EcK} (F : Fun K "_law_word" "_law_word" st__law_word f fd) (T : Txt K mg ec) (hl : ∀ ds S K KX, sp ds S K KX → ds.length = 3)
    (hs : ∀ ds S K KX, sp ds S K KX → ws__law_word { nx := fun _ S1 => K (.z .none) S1, rt := K, ex := fun y _ S1 => KX y S1 } (startE nm__law_word ds) S) : FnOk P w K mg base (L2.CX P w) 1 f fd ["_law_number_here", "_law_words_here", "_law_bad"] (spOf sp) := by
  have nd := sc__law_word.nd
  refine fnpx F sc__law_word hl (ws := ws__law_word) (fun cdv A outer s H E B F0 hr tk hp => ?_) hs
  have hu := hu_px hr
  exact (bcons (xasg (xix (oIx hu) (xv 1) (xop oMod (xv 0) (xcallB oLen rfl T.n_len bb_len (acons (xv 1) anil)))) (xgn 3 nd))
    (bcons (xif (xtcmp (oEq hu) (xop oMod (xv 2) xint) xint) (bone (xret (xix (oIx hu) (xlst (acons xstr (acons (xop oAdd (xop oAdd (xv 3) (xv 3)) xstr) (acons (xop oAdd (xsl oSl (xv 3) (osome xint) ono) xstr) (acons (xop oAdd (xsl oSl (xv 3) ono (osome xint)) xstr) anil))))) (xop oMod (xop oDiv (xv 0) xint) xint)))) bnil)
    (bone (xret (xv 3)))))
abbrev st__law_kind : Stmt := top 37
abbrev nm__law_kind : List Str := ["_law_number_here", "_law_one", "_law_other", "_law_bad"]
theorem sc__law_kind : FnScope nm__law_kind ["_law_number_here", "_law_one", "_law_other", "_law_bad"] (defScope st__law_kind) := ⟨rfl, rfl, rfl, by decide +kernel, rfl, by decide +kernel, by decide +kernel⟩
def _law_kind_r1 : WS :=
  (wRet (w2 pIx (wLst (wCons (wVar 1) (wCons (wVar 2) wNil))) (w2 pMod (wVar 0) (wC (.int 2)))))
def ws__law_kind : WS :=
  (wSeq (wIf (wB (w2 (cB bEq) (w2 pMod (wVar 3) (wC (.int 12))) (wC (.int 7)))) (wRet (w2 pIx (wLst (wCons (wC (.str (PySem.Str.ofString ""))) (wCons (w2 pAdd (wVar 1) (wVar 2)) (wCons (wC (.str (PySem.Str.ofString "none"))) (wCons (wC (.str (PySem.Str.ofString "To"))) wNil))))) (w2 pMod (wVar 0) (wC (.int 4))))) wNext)
    _law_kind_r1)
theorem ok__law_kind {f : Addr} {fd : FuncData} {sp : Spc} {ec : EcK} (F : Fun K "_law_kind" "_law_kind" st__law_kind f fd) (T : Txt K mg ec) (hl : ∀ ds S K KX, sp ds S K KX → ds.length = 4)
    (hs : ∀ ds S K KX, sp ds S K KX → ws__law_kind { nx := fun _ S1 => K (.z .none) S1, rt := K, ex := fun y _ S1 => KX y S1 } (startE nm__law_kind ds) S) : FnOk P w K mg base (L2.CX P w) 1 f fd ["_law_number_here", "_law_one", "_law_other", "_law_bad"] (spOf sp) := by
  have nd := sc__law_kind.nd
  refine fnpx F sc__law_kind hl (ws := ws__law_kind) (fun cdv A outer s H E B F0 hr tk hp => ?_) hs
  have hu := hu_px hr
  exact (bcons (xif (xtcmp (oEq hu) (xop oMod (xv 3) xint) xint) (bone (xret (xix (oIx hu) (xlst (acons xstr (acons (xop oAdd (xv 1) (xv 2)) (acons xstr (acons xstr anil))))) (xop oMod (xv 0) xint)))) bnil)
    (bone (xret (xix (oIx hu) (xlst (acons (xv 1) (acons (xv 2) anil))) (xop oMod (xv 0) xint)))))
abbrev st__law_question : Stmt := top 38
abbrev nm__law_question : List Str := ["_law_number_here", "_law_words_here", "_law_parts", "_law_bad", "_law_path", "_law_many", "_law_k", "_law_state"]
theorem sc__law_question : FnScope nm__law_question ["_law_number_here", "_law_words_here", "_law_parts", "_law_bad"] (defScope st__law_question) := ⟨rfl, rfl, rfl, by decide +kernel, rfl, by decide +kernel, by decide +kernel⟩
def _law_question_b1 (sp__law_word : Spc) : WS :=
  (wDrop (wMth .list pApp (wVar 4) (wCons (wFn sp__law_word [] (wCons (w2 pDiv (w2 pDiv (wVar 0) (wC (.int 30))) (w2 pAdd (wVar 6) (wC (.int 1)))) (wCons (wVar 1) (wCons (w2 pMul (wVar 3) (wCall pInt (wCons (w2 (cB bEq) (wVar 6) (w2 pMod (wVar 0) (wVar 5))) wNil))) wNil)))) wNil)))
def _law_question_r1 (sp__law_number : Spc) : WS :=
  (wRet (wTup (wCons (wFn sp__law_number [] (wCons (w2 pDiv (wVar 0) (wC (.int 3))) (wCons (wCall pLen (wCons (w2 pIx (wVar 2) (wC (.int 0))) wNil)) (wCons (wVar 3) wNil)))) (wCons (wVar 7) (wCons (wCall pTuple (wCons (wVar 4) wNil)) wNil)))))
def _law_question_r2 (sp__law_number : Spc) : WS :=
  (wSeq (wAsg (w2 pMod (w2 pDiv (wVar 0) (wC (.int 7))) (wC (.int 9))) (gN 7))
    (wSeq (wIf (wB (w2 (cB bEq) (w2 pMod (wVar 3) (wC (.int 12))) (wC (.int 11)))) (wAsg (w2 pSub (w1 pNeg (wC (.int 1))) (wVar 7)) (gN 7)) wNext)
    (_law_question_r1 sp__law_number)))
def _law_question_r3 (sp__law_word : Spc) (sp__law_number : Spc) : WS :=
  (wSeq (wFor (wRg1 (wCons (wVar 5) wNil)) (gN 6) (_law_question_b1 sp__law_word))
    (_law_question_r2 sp__law_number))
def ws__law_question (sp__law_word : Spc) (sp__law_number : Spc) : WS :=
  (wSeq (wAsg (wLst wNil) (gN 4))
    (wSeq (wAsg (w2 pAdd (wC (.int 1)) (w2 pMod (w2 pDiv (wVar 0) (wC (.int 5))) (wC (.int 6)))) (gN 5))
    (wSeq (wIf (wB (w2 (cB bEq) (w2 pMod (wVar 3) (wC (.int 12))) (wC (.int 9)))) (wAsg (w2 pIx (wLst (wCons (wC (.int 0)) (wCons (wC (.int 7)) wNil))) (w2 pMod (wVar 0) (wC (.int 2)))) (gN 5)) wNext)
    (_law_question_r3 sp__law_word sp__law_number))))
theorem ok__law_question {f : Addr} {fd : FuncData} {sp : Spc} {ec : EcK} {sp__law_word : Spc} {sp__law_number : Spc} (F : Fun K "_law_question" "_law_question" st__law_question f fd) (T : Txt K mg ec) (c__law_word : Fc P w K mg base "_law_word" 1 ["_law_number_here", "_law_words_here", "_law_bad"] sp__law_word) (c__law_number : Fc P w K mg base "_law_number" 1 ["_law_number_here", "_law_many", "_law_bad"] sp__law_number) (hl : ∀ ds S K KX, sp ds S K KX → ds.length = 4)
    (hs : ∀ ds S K KX, sp ds S K KX → ws__law_question sp__law_word sp__law_number { nx := fun _ S1 => K (.z .none) S1, rt := K, ex := fun y _ S1 => KX y S1 } (startE nm__law_question ds) S) : FnOk P w K mg base (L2.CX P w) 2 f fd ["_law_number_here", "_law_words_here", "_law_parts", "_law_bad"] (spOf sp) := by
  have nd := sc__law_question.nd
  refine fnpx F sc__law_question hl (ws := ws__law_question sp__law_word sp__law_number) (fun cdv A outer s H E B F0 hr tk hp => ?_) hs
  have hu := hu_px hr
  exact (bcons (xasg (xlst anil) (xgn 4 nd))
    (bcons (xasg (xop oAdd xint (xop oMod (xop oDiv (xv 0) xint) xint)) (xgn 5 nd))
    (bcons (xif (xtcmp (oEq hu) (xop oMod (xv 3) xint) xint) (bone (xasg (xix (oIx hu) (xlst (acons xint (acons xint anil))) (xop oMod (xv 0) xint)) (xgn 5 nd))) bnil)
    (bcons (xfor hp rfl (xrg1 rfl T.n_range (acons (xv 5) anil)) (xgn 6 nd) (bone (xexpr (xm1 (T := .list) PySem.F.plainAttrs_list PySem.F.slot_list_append PySem.F.type_list_append oApp (xv 4) (acons (xfc c__law_word (hr.mono (by decide)) tk rfl (acons (xop oDiv (xop oDiv (xv 0) xint) (xop oAdd (xv 6) xint)) (acons (xv 1) (acons (xop oMul (xv 3) (xcallT oInt rfl T.n_int bb_int (acons (xcmp (oEq hu) (xv 6) (xop oMod (xv 0) (xv 5))) anil))) anil)))) anil)))))
    (bcons (xasg (xop oMod (xop oDiv (xv 0) xint) xint) (xgn 7 nd))
    (bcons (xif (xtcmp (oEq hu) (xop oMod (xv 3) xint) xint) (bone (xasg (xop oSub (xun oNeg xint) (xv 7)) (xgn 7 nd))) bnil)
    (bone (xret (xtup (acons (xfc c__law_number (hr.mono (by decide)) tk rfl (acons (xop oDiv (xv 0) xint) (acons (xcallB oLen rfl T.n_len bb_len (acons (xix (oIx hu) (xv 2) xint) anil)) (acons (xv 3) anil)))) (acons (xv 7) (acons (xcallT oTuple rfl T.n_tuple bb_tuple (acons (xv 4) anil)) anil))))))))))))
abbrev st__law_thing : Stmt := top 39
abbrev nm__law_thing : List Str := ["_law_number_here", "_law_parts", "_law_bad"]
theorem sc__law_thing : FnScope nm__law_thing ["_law_number_here", "_law_parts", "_law_bad"] (defScope st__law_thing) := ⟨rfl, rfl, rfl, by decide +kernel, rfl, by decide +kernel, by decide +kernel⟩
def _law_thing_r1 (sp__law_kind : Spc) (sp__law_number : Spc) : WS :=
  (wRet (wTup (wCons (wFn sp__law_kind [] (wCons (wC (.int 1)) (wCons (wC (.str (PySem.Str.ofString "part"))) (wCons (wC (.str (PySem.Str.ofString "sort"))) (wCons (wVar 2) wNil))))) (wCons (wFn sp__law_number [] (wCons (w2 pDiv (wVar 0) (wC (.int 3))) (wCons (wCall pLen (wCons (w2 pIx (wVar 1) (wC (.int 2))) wNil)) (wCons (wVar 2) wNil)))) wNil))))
def _law_thing_r2 (sp__law_kind : Spc) (sp__law_number : Spc) : WS :=
  (wSeq (wIf (wB (w2 (cB bEq) (w2 pMod (wVar 0) (wC (.int 3))) (wC (.int 1)))) (wRet (wTup (wCons (wC (.str (PySem.Str.ofString "part"))) (wCons (wFn sp__law_number [] (wCons (w2 pDiv (wVar 0) (wC (.int 3))) (wCons (wCall pLen (wCons (w2 pIx (wVar 1) (wC (.int 0))) wNil)) (wCons (wVar 2) wNil)))) wNil)))) wNext)
    (_law_thing_r1 sp__law_kind sp__law_number))
def ws__law_thing (sp__law_kind : Spc) (sp__law_number : Spc) : WS :=
  (wSeq (wIf (wB (w2 (cB bEq) (w2 pMod (wVar 0) (wC (.int 3))) (wC (.int 0)))) (wRet (wTup (wCons (wFn sp__law_kind [] (wCons (wC (.int 0)) (wCons (wC (.str (PySem.Str.ofString "plain"))) (wCons (wC (.str (PySem.Str.ofString "plain"))) (wCons (wVar 2) wNil))))) (wCons (w2 pMul (w2 pMod (wVar 0) (wC (.int 2))) (wCall pInt (wCons (w2 (cB bEq) (w2 pMod (wVar 2) (wC (.int 12))) (wC (.int 1))) wNil))) wNil)))) wNext)
    (_law_thing_r2 sp__law_kind sp__law_number))
theorem ok__law_thing {f : Addr} {fd : FuncData} {sp : Spc} {ec : EcK} {sp__law_kind : Spc} {sp__law_number : Spc} (F : Fun K "_law_thing" "_law_thing" st__law_thing f fd) (T : Txt K mg ec) (c__law_kind : Fc P w K mg base "_law_kind" 1 ["_law_number_here", "_law_one", "_law_other", "_law_bad"] sp__law_kind) (c__law_number : Fc P w K mg base "_law_number" 1 ["_law_number_here", "_law_many", "_law_bad"] sp__law_number) (hl : ∀ ds S K KX, sp ds S K KX → ds.length = 3)
    (hs : ∀ ds S K KX, sp ds S K KX → ws__law_thing sp__law_kind sp__law_number { nx := fun _ S1 => K (.z .none) S1, rt := K, ex := fun y _ S1 => KX y S1 } (startE nm__law_thing ds) S) : FnOk P w K mg base (L2.CX P w) 2 f fd ["_law_number_here", "_law_parts", "_law_bad"] (spOf sp) := by
  have nd := sc__law_thing.nd
  refine fnpx F sc__law_thing hl (ws := ws__law_thing sp__law_kind sp__law_number) (fun cdv A outer s H E B F0 hr tk hp => ?_) hs
  have hu := hu_px hr
  exact (bcons (xif (xtcmp (oEq hu) (xop oMod (xv 0) xint) xint) (bone (xret (xtup (acons (xfc c__law_kind (hr.mono (by decide)) tk rfl (acons xint (acons xstr (acons xstr (acons (xv 2) anil))))) (acons (xop oMul (xop oMod (xv 0) xint) (xcallT oInt rfl T.n_int bb_int (acons (xcmp (oEq hu) (xop oMod (xv 2) xint) xint) anil))) anil))))) bnil)
    (bcons (xif (xtcmp (oEq hu) (xop oMod (xv 0) xint) xint) (bone (xret (xtup (acons xstr (acons (xfc c__law_number (hr.mono (by decide)) tk rfl (acons (xop oDiv (xv 0) xint) (acons (xcallB oLen rfl T.n_len bb_len (acons (xix (oIx hu) (xv 1) xint) anil)) (acons (xv 2) anil)))) anil))))) bnil)
    (bone (xret (xtup (acons (xfc c__law_kind (hr.mono (by decide)) tk rfl (acons xint (acons xstr (acons xstr (acons (xv 2) anil))))) (acons (xfc c__law_number (hr.mono (by decide)) tk rfl (acons (xop oDiv (xv 0) xint) (acons (xcallB oLen rfl T.n_len bb_len (acons (xix (oIx hu) (xv 1) xint) anil)) (acons (xv 2) anil)))) anil)))))))
abbrev st__law_step : Stmt := top 40
abbrev nm__law_step : List Str := ["_law_number_here", "_law_words_here", "_law_parts", "_law_bad", "_law_label", "_law_kind_here", "_law_many"]
theorem sc__law_step : FnScope nm__law_step ["_law_number_here", "_law_words_here", "_law_parts", "_law_bad"] (defScope st__law_step) := ⟨rfl, rfl, rfl, by decide +kernel, rfl, by decide +kernel, by decide +kernel⟩
def _law_step_r1 (sp__law_number : Spc) : WS :=
  (wRet (wTup (wCons (wVar 4) (wCons (wVar 5) (wCons (wFn sp__law_number [] (wCons (w2 pDiv (wVar 0) (wC (.int 18))) (wCons (wVar 6) (wCons (wVar 3) wNil)))) wNil)))))
def ws__law_step (sp__law_word : Spc) (sp__law_kind : Spc) (sp__law_number : Spc) : WS :=
  (wSeq (wAsg (wFn sp__law_word [] (wCons (wVar 0) (wCons (wVar 1) (wCons (wVar 3) wNil)))) (gN 4))
    (wSeq (wAsg (wFn sp__law_kind [] (wCons (w2 pDiv (wVar 0) (wC (.int 9))) (wCons (wC (.str (PySem.Str.ofString "to"))) (wCons (wC (.str (PySem.Str.ofString "by"))) (wCons (wVar 3) wNil))))) (gN 5))
    (wSeq (wAsg (wCall pLen (wCons (w2 pIx (wVar 2) (wC (.int 0))) wNil)) (gN 6))
    (wSeq (wIf (wB (w2 (cB bEq) (wVar 5) (wC (.str (PySem.Str.ofString "by"))))) (wAsg (wCall pLen (wCons (w2 pIx (wVar 2) (wC (.int 2))) wNil)) (gN 6)) wNext)
    (_law_step_r1 sp__law_number)))))
theorem ok__law_step {f : Addr} {fd : FuncData} {sp : Spc} {ec : EcK} {sp__law_word : Spc} {sp__law_kind : Spc} {sp__law_number : Spc} (F : Fun K "_law_step" "_law_step" st__law_step f fd) (T : Txt K mg ec) (c__law_word : Fc P w K mg base "_law_word" 1 ["_law_number_here", "_law_words_here", "_law_bad"] sp__law_word) (c__law_kind : Fc P w K mg base "_law_kind" 1 ["_law_number_here", "_law_one", "_law_other", "_law_bad"] sp__law_kind) (c__law_number : Fc P w K mg base "_law_number" 1 ["_law_number_here", "_law_many", "_law_bad"] sp__law_number) (hl : ∀ ds S K KX, sp ds S K KX → ds.length = 4)
    (hs : ∀ ds S K KX, sp ds S K KX → ws__law_step sp__law_word sp__law_kind sp__law_number { nx := fun _ S1 => K (.z .none) S1, rt := K, ex := fun y _ S1 => KX y S1 } (startE nm__law_step ds) S) : FnOk P w K mg base (L2.CX P w) 2 f fd ["_law_number_here", "_law_words_here", "_law_parts", "_law_bad"] (spOf sp) := by
  have nd := sc__law_step.nd
  refine fnpx F sc__law_step hl (ws := ws__law_step sp__law_word sp__law_kind sp__law_number) (fun cdv A outer s H E B F0 hr tk hp => ?_) hs
  have hu := hu_px hr
  exact (bcons (xasg (xfc c__law_word (hr.mono (by decide)) tk rfl (acons (xv 0) (acons (xv 1) (acons (xv 3) anil)))) (xgn 4 nd))
    (bcons (xasg (xfc c__law_kind (hr.mono (by decide)) tk rfl (acons (xop oDiv (xv 0) xint) (acons xstr (acons xstr (acons (xv 3) anil))))) (xgn 5 nd))
    (bcons (xasg (xcallB oLen rfl T.n_len bb_len (acons (xix (oIx hu) (xv 2) xint) anil)) (xgn 6 nd))
    (bcons (xif (xtcmp (oEq hu) (xv 5) xstr) (bone (xasg (xcallB oLen rfl T.n_len bb_len (acons (xix (oIx hu) (xv 2) xint) anil)) (xgn 6 nd))) bnil)
    (bone (xret (xtup (acons (xv 4) (acons (xv 5) (acons (xfc c__law_number (hr.mono (by decide)) tk rfl (acons (xop oDiv (xv 0) xint) (acons (xv 6) (acons (xv 3) anil)))) anil))))))))))
abbrev st__law_telling : Stmt := top 41
abbrev nm__law_telling : List Str := ["_law_number_here", "_law_words_here", "_law_parts", "_law_bad", "_law_label", "_law_name", "_law_kind_here", "_law_many"]
theorem sc__law_telling : FnScope nm__law_telling ["_law_number_here", "_law_words_here", "_law_parts", "_law_bad"] (defScope st__law_telling) := ⟨rfl, rfl, rfl, by decide +kernel, rfl, by decide +kernel, by decide +kernel⟩
def _law_telling_r1 (sp__law_number : Spc) : WS :=
  (wRet (wTup (wCons (wVar 4) (wCons (wVar 5) (wCons (wVar 6) (wCons (wFn sp__law_number [] (wCons (w2 pDiv (wVar 0) (wC (.int 162))) (wCons (wVar 7) (wCons (wVar 3) wNil)))) wNil))))))
def ws__law_telling (sp__law_word : Spc) (sp__law_kind : Spc) (sp__law_number : Spc) : WS :=
  (wSeq (wAsg (wFn sp__law_word [] (wCons (wVar 0) (wCons (wVar 1) (wCons (w2 pMul (wVar 3) (w2 pMod (w2 pDiv (wVar 0) (wC (.int 4))) (wC (.int 2)))) wNil)))) (gN 4))
    (wSeq (wAsg (wFn sp__law_word [] (wCons (w2 pDiv (wVar 0) (wC (.int 9))) (wCons (wVar 1) (wCons (w2 pMul (wVar 3) (w2 pSub (wC (.int 1)) (w2 pMod (w2 pDiv (wVar 0) (wC (.int 4))) (wC (.int 2))))) wNil)))) (gN 5))
    (wSeq (wAsg (wFn sp__law_kind [] (wCons (w2 pDiv (wVar 0) (wC (.int 81))) (wCons (wC (.str (PySem.Str.ofString "thing"))) (wCons (wC (.str (PySem.Str.ofString "by"))) (wCons (wVar 3) wNil))))) (gN 6))
    (wSeq (wAsg (wCall pLen (wCons (w2 pIx (wVar 2) (wC (.int 1))) wNil)) (gN 7))
    (wSeq (wIf (wB (w2 (cB bEq) (wVar 6) (wC (.str (PySem.Str.ofString "by"))))) (wAsg (wCall pLen (wCons (w2 pIx (wVar 2) (wC (.int 2))) wNil)) (gN 7)) wNext)
    (_law_telling_r1 sp__law_number))))))
theorem ok__law_telling {f : Addr} {fd : FuncData} {sp : Spc} {ec : EcK} {sp__law_word : Spc} {sp__law_kind : Spc} {sp__law_number : Spc} (F : Fun K "_law_telling" "_law_telling" st__law_telling f fd) (T : Txt K mg ec) (c__law_word : Fc P w K mg base "_law_word" 1 ["_law_number_here", "_law_words_here", "_law_bad"] sp__law_word) (c__law_kind : Fc P w K mg base "_law_kind" 1 ["_law_number_here", "_law_one", "_law_other", "_law_bad"] sp__law_kind) (c__law_number : Fc P w K mg base "_law_number" 1 ["_law_number_here", "_law_many", "_law_bad"] sp__law_number) (hl : ∀ ds S K KX, sp ds S K KX → ds.length = 4)
    (hs : ∀ ds S K KX, sp ds S K KX → ws__law_telling sp__law_word sp__law_kind sp__law_number { nx := fun _ S1 => K (.z .none) S1, rt := K, ex := fun y _ S1 => KX y S1 } (startE nm__law_telling ds) S) : FnOk P w K mg base (L2.CX P w) 2 f fd ["_law_number_here", "_law_words_here", "_law_parts", "_law_bad"] (spOf sp) := by
  have nd := sc__law_telling.nd
  refine fnpx F sc__law_telling hl (ws := ws__law_telling sp__law_word sp__law_kind sp__law_number) (fun cdv A outer s H E B F0 hr tk hp => ?_) hs
  have hu := hu_px hr
  exact (bcons (xasg (xfc c__law_word (hr.mono (by decide)) tk rfl (acons (xv 0) (acons (xv 1) (acons (xop oMul (xv 3) (xop oMod (xop oDiv (xv 0) xint) xint)) anil)))) (xgn 4 nd))
    (bcons (xasg (xfc c__law_word (hr.mono (by decide)) tk rfl (acons (xop oDiv (xv 0) xint) (acons (xv 1) (acons (xop oMul (xv 3) (xop oSub xint (xop oMod (xop oDiv (xv 0) xint) xint))) anil)))) (xgn 5 nd))
    (bcons (xasg (xfc c__law_kind (hr.mono (by decide)) tk rfl (acons (xop oDiv (xv 0) xint) (acons xstr (acons xstr (acons (xv 3) anil))))) (xgn 6 nd))
    (bcons (xasg (xcallB oLen rfl T.n_len bb_len (acons (xix (oIx hu) (xv 2) xint) anil)) (xgn 7 nd))
    (bcons (xif (xtcmp (oEq hu) (xv 6) xstr) (bone (xasg (xcallB oLen rfl T.n_len bb_len (acons (xix (oIx hu) (xv 2) xint) anil)) (xgn 7 nd))) bnil)
    (bone (xret (xtup (acons (xv 4) (acons (xv 5) (acons (xv 6) (acons (xfc c__law_number (hr.mono (by decide)) tk rfl (acons (xop oDiv (xv 0) xint) (acons (xv 7) (acons (xv 3) anil)))) anil))))))))))))
abbrev st__law_lay : Stmt := top 42
abbrev nm__law_lay : List Str := ["_law_parts", "_law_words_here", "_law_cell", "_law_number_here", "_law_bad", "_law_way", "_law_steps", "_law_tellings"]
theorem sc__law_lay : FnScope nm__law_lay ["_law_parts", "_law_words_here", "_law_cell"] (defScope st__law_lay) := ⟨rfl, rfl, rfl, by decide +kernel, rfl, by decide +kernel, by decide +kernel⟩
def _law_lay_r1 (sp__law_thing : Spc) (sp__law_question : Spc) (sp__law_step : Spc) (sp__law_telling : Spc) : WS :=
  (wSeq (wAsg (w2 pMod (wVar 2) (wC (.int 8))) (gN 5))
    (wIf (wB (w2 (cB bEq) (wVar 5) (wC (.int 0)))) (wDrop (wMth .list pApp (w2 pIx (wVar 0) (wC (.int 1))) (wCons (wFn sp__law_thing [] (wCons (wVar 3) (wCons (wVar 0) (wCons (wVar 4) wNil)))) wNil))) (wIf (wAnd (wB (w2 (cB bEq) (wVar 5) (wC (.int 1)))) (wB (w2 (cB bNe) (w2 pIx (wVar 0) (wC (.int 0))) (wLst wNil)))) (wDrop (wMth .list pApp (w2 pIx (wVar 0) (wC (.int 2))) (wCons (wFn sp__law_question [] (wCons (wVar 3) (wCons (wVar 1) (wCons (wVar 0) (wCons (wVar 4) wNil))))) wNil))) (wIf (wB (w2 (cB bEq) (wVar 5) (wC (.int 2)))) (wDrop (wMth .list pApp (w2 pIx (wVar 0) (wC (.int 0))) (wCons (wTup (wCons (wLst wNil) (wCons (wLst wNil) wNil))) wNil))) (wIf (wB (w2 (cB bNe) (w2 pIx (wVar 0) (wC (.int 0))) (wLst wNil))) (wSeq (wAsg (w2 pIx (w2 pIx (wVar 0) (wC (.int 0))) (w2 pMod (wVar 3) (wCall pLen (wCons (w2 pIx (wVar 0) (wC (.int 0))) wNil)))) (gT 2 (gC (gN 6) (gC (gN 7) gE))))
    (wIf (wB (w2 (cB bLt) (wVar 5) (wC (.int 6)))) (wDrop (wMth .list pApp (wVar 6) (wCons (wFn sp__law_step [] (wCons (w2 pDiv (wVar 3) (wCall pLen (wCons (w2 pIx (wVar 0) (wC (.int 0))) wNil))) (wCons (wVar 1) (wCons (wVar 0) (wCons (wVar 4) wNil))))) wNil))) (wDrop (wMth .list pApp (wVar 7) (wCons (wFn sp__law_telling [] (wCons (w2 pDiv (wVar 3) (wCall pLen (wCons (w2 pIx (wVar 0) (wC (.int 0))) wNil))) (wCons (wVar 1) (wCons (wVar 0) (wCons (wVar 4) wNil))))) wNil))))) wNext)))))
def ws__law_lay (sp__law_thing : Spc) (sp__law_question : Spc) (sp__law_step : Spc) (sp__law_telling : Spc) : WS :=
  (wSeq (wAsg (w2 pMod (w2 pMul (w2 pDiv (wVar 2) (wC (.int 16))) (wC (.int 48271))) (wC (.int 2147483647))) (gN 3))
    (wSeq (wAsg (wC (.int 0)) (gN 4))
    (wSeq (wIf (wAnd (wB (w2 (cB bEq) (w2 pMod (w2 pDiv (wVar 2) (wC (.int 8))) (wC (.int 2))) (wC (.int 1)))) (wB (w2 (cB bEq) (w2 pMod (w2 pDiv (wVar 2) (wC (.int 16))) (wC (.int 4))) (wC (.int 1))))) (wAsg (w2 pMod (w2 pDiv (wVar 2) (wC (.int 64))) (wC (.int 12))) (gN 4)) wNext)
    (_law_lay_r1 sp__law_thing sp__law_question sp__law_step sp__law_telling))))
theorem ok__law_lay {f : Addr} {fd : FuncData} {sp : Spc} {ec : EcK} {sp__law_thing : Spc} {sp__law_question : Spc} {sp__law_step : Spc} {sp__law_telling : Spc} (F : Fun K "_law_lay" "_law_lay" st__law_lay f fd) (T : Txt K mg ec) (c__law_thing : Fc P w K mg base "_law_thing" 2 ["_law_number_here", "_law_parts", "_law_bad"] sp__law_thing) (c__law_question : Fc P w K mg base "_law_question" 2 ["_law_number_here", "_law_words_here", "_law_parts", "_law_bad"] sp__law_question) (c__law_step : Fc P w K mg base "_law_step" 2 ["_law_number_here", "_law_words_here", "_law_parts", "_law_bad"] sp__law_step) (c__law_telling : Fc P w K mg base "_law_telling" 2 ["_law_number_here", "_law_words_here", "_law_parts", "_law_bad"] sp__law_telling) (hl : ∀ ds S K KX, sp ds S K KX → ds.length = 3)
    (hs : ∀ ds S K KX, sp ds S K KX → ws__law_lay sp__law_thing sp__law_question sp__law_step sp__law_telling { nx := fun _ S1 => K (.z .none) S1, rt := K, ex := fun y _ S1 => KX y S1 } (startE nm__law_lay ds) S) : FnOk P w K mg base (L2.CX P w) 3 f fd ["_law_parts", "_law_words_here", "_law_cell"] (spOf sp) := by
  have nd := sc__law_lay.nd
  refine fnpx F sc__law_lay hl (ws := ws__law_lay sp__law_thing sp__law_question sp__law_step sp__law_telling) (fun cdv A outer s H E B F0 hr tk hp => ?_) hs
  have hu := hu_px hr
  exact (bcons (xasg (xop oMod (xop oMul (xop oDiv (xv 2) xint) xint) xint) (xgn 3 nd))
    (bcons (xasg xint (xgn 4 nd))
    (bcons (xif (xtw (yand (xtcmp (oEq hu) (xop oMod (xop oDiv (xv 2) xint) xint) xint) (yand1 (xtcmp (oEq hu) (xop oMod (xop oDiv (xv 2) xint) xint) xint)))) (bone (xasg (xop oMod (xop oDiv (xv 2) xint) xint) (xgn 4 nd))) bnil)
    (bcons (xasg (xop oMod (xv 2) xint) (xgn 5 nd))
    (bone (xif (xtcmp (oEq hu) (xv 5) xint) (bone (xexpr (xm1 (T := .list) PySem.F.plainAttrs_list PySem.F.slot_list_append PySem.F.type_list_append oApp (xix (oIx hu) (xv 0) xint) (acons (xfc c__law_thing (hr.mono (by decide)) tk rfl (acons (xv 3) (acons (xv 0) (acons (xv 4) anil)))) anil)))) (bone (xif (xtw (yand (xtcmp (oEq hu) (xv 5) xint) (yand1 (xtcmp (oNe hu) (xix (oIx hu) (xv 0) xint) (xlst anil))))) (bone (xexpr (xm1 (T := .list) PySem.F.plainAttrs_list PySem.F.slot_list_append PySem.F.type_list_append oApp (xix (oIx hu) (xv 0) xint) (acons (xfc c__law_question (hr.mono (by decide)) tk rfl (acons (xv 3) (acons (xv 1) (acons (xv 0) (acons (xv 4) anil))))) anil)))) (bone (xif (xtcmp (oEq hu) (xv 5) xint) (bone (xexpr (xm1 (T := .list) PySem.F.plainAttrs_list PySem.F.slot_list_append PySem.F.type_list_append oApp (xix (oIx hu) (xv 0) xint) (acons (xtup (acons (xlst anil) (acons (xlst anil) anil))) anil)))) (bone (xif (xtcmp (oNe hu) (xix (oIx hu) (xv 0) xint) (xlst anil)) (bcons (xasg (xix (oIx hu) (xix (oIx hu) (xv 0) xint) (xop oMod (xv 3) (xcallB oLen rfl T.n_len bb_len (acons (xix (oIx hu) (xv 0) xint) anil)))) (xgt rfl (xgc (xgn 6 nd) (xgc (xgn 7 nd) xge))))
    (bone (xif (xtcmp oLt (xv 5) xint) (bone (xexpr (xm1 (T := .list) PySem.F.plainAttrs_list PySem.F.slot_list_append PySem.F.type_list_append oApp (xv 6) (acons (xfc c__law_step (hr.mono (by decide)) tk rfl (acons (xop oDiv (xv 3) (xcallB oLen rfl T.n_len bb_len (acons (xix (oIx hu) (xv 0) xint) anil))) (acons (xv 1) (acons (xv 0) (acons (xv 4) anil))))) anil)))) (bone (xexpr (xm1 (T := .list) PySem.F.plainAttrs_list PySem.F.slot_list_append PySem.F.type_list_append oApp (xv 7) (acons (xfc c__law_telling (hr.mono (by decide)) tk rfl (acons (xop oDiv (xv 3) (xcallB oLen rfl T.n_len bb_len (acons (xix (oIx hu) (xv 0) xint) anil))) (acons (xv 1) (acons (xv 0) (acons (xv 4) anil))))) anil))))))) bnil))))))))))))
abbrev st__law_great : Stmt := top 43
abbrev nm__law_great : List Str := ["_law_parts", "_law_steps", "_law_tellings", "_law_scope", "_law_state", "_law_path"]
theorem sc__law_great : FnScope nm__law_great ["_law_parts"] (defScope st__law_great) := ⟨rfl, rfl, rfl, by decide +kernel, rfl, by decide +kernel, by decide +kernel⟩
def _law_great_b1 : WS :=
  (wIf (wOr (wB (w2 (cB bGt) (wCall pLen (wCons (wVar 1) wNil)) (wC (.int 8)))) (wB (w2 (cB bGt) (wCall pLen (wCons (wVar 2) wNil)) (wC (.int 12))))) (wRet (wC (.bool true))) wNext)
def _law_great_e1 : WE :=
  (w2 (cB bGt) (wCall pLen (wCons (wVar 5) wNil)) (wC (.int 6)))
def _law_great_r1 : WS :=
  (wRet (wCall pAny (wCons (wLc (wIt (w2 pIx (wVar 0) (wC (.int 2)))) (tgT [3, 4, 5]) wYes _law_great_e1 [3, 4, 5]) wNil)))
def _law_great_r2 : WS :=
  (wSeq (wFor (wIt (w2 pIx (wVar 0) (wC (.int 0)))) (gT 2 (gC (gN 1) (gC (gN 2) gE))) _law_great_b1)
    _law_great_r1)
def ws__law_great : WS :=
  (wSeq (wIf (wOr (wB (w2 (cB bGt) (wCall pLen (wCons (w2 pIx (wVar 0) (wC (.int 0))) wNil)) (wC (.int 40)))) (wOr (wB (w2 (cB bGt) (wCall pLen (wCons (w2 pIx (wVar 0) (wC (.int 1))) wNil)) (wC (.int 80)))) (wB (w2 (cB bGt) (wCall pLen (wCons (w2 pIx (wVar 0) (wC (.int 2))) wNil)) (wC (.int 60)))))) (wRet (wC (.bool true))) wNext)
    _law_great_r2)
theorem ok__law_great {f : Addr} {fd : FuncData} {sp : Spc} {ec : EcK} (F : Fun K "_law_great" "_law_great" st__law_great f fd) (T : Txt K mg ec) (hl : ∀ ds S K KX, sp ds S K KX → ds.length = 1)
    (hs : ∀ ds S K KX, sp ds S K KX → ws__law_great { nx := fun _ S1 => K (.z .none) S1, rt := K, ex := fun y _ S1 => KX y S1 } (startE nm__law_great ds) S) : FnOk P w K mg base (L2.CX P w) 1 f fd ["_law_parts"] (spOf sp) := by
  have nd := sc__law_great.nd
  refine fnpx F sc__law_great hl (ws := ws__law_great) (fun cdv A outer s H E B F0 hr tk hp => ?_) hs
  have hu := hu_px hr
  exact (bcons (xif (xtw (yor (xtcmp oGt (xcallB oLen rfl T.n_len bb_len (acons (xix (oIx hu) (xv 0) xint) anil)) xint) (yor (xtcmp oGt (xcallB oLen rfl T.n_len bb_len (acons (xix (oIx hu) (xv 0) xint) anil)) xint) (yor1 (xtcmp oGt (xcallB oLen rfl T.n_len bb_len (acons (xix (oIx hu) (xv 0) xint) anil)) xint))))) (bone (xret xbl)) bnil)
    (bcons (xfor hp rfl (xit (xix (oIx hu) (xv 0) xint)) (xgt rfl (xgc (xgn 1 nd) (xgc (xgn 2 nd) xge))) (bone (xif (xtw (yor (xtcmp oGt (xcallB oLen rfl T.n_len bb_len (acons (xv 1) anil)) xint) (yor1 (xtcmp oGt (xcallB oLen rfl T.n_len bb_len (acons (xv 2) anil)) xint)))) (bone (xret xbl)) bnil)))
    (bone (xret (xcallB (oAny rfl) rfl T.n_any bb_any (acons (xlc (own := [("_law_scope", 3), ("_law_state", 4), ("_law_path", 5)]) rfl nd (xit (xix (oIx hu) (xv 0) xint)) (blkOk_by (N := nm__law_great) (sc := defScope st__law_great) (by decide +kernel)) (fun _ _ _ _ _ => pg_tup (n := 3) rfl (pgs_cons (pg_name (i := 3) nd rfl (Or.inl rfl)) (pgs_cons (pg_name (i := 4) nd rfl (Or.inl rfl)) (pgs_cons (pg_name (i := 5) nd rfl (Or.inl rfl)) pgs_nil)))) (tgok_tup (is := [3, 4, 5])) (fun _ _ _ _ _ => tsNil) (fun _ _ _ _ _ => (xcmp oGt (xcallB oLen rfl T.n_len bb_len (acons (xv 5) anil)) xint))) anil))))))
abbrev st__law_is_word : Stmt := top 44
abbrev nm__law_is_word : List Str := ["_law_word_here", "_law_sign"]
theorem sc__law_is_word : FnScope nm__law_is_word ["_law_word_here"] (defScope st__law_is_word) := ⟨rfl, rfl, rfl, by decide +kernel, rfl, by decide +kernel, by decide +kernel⟩
def _law_is_word_e1 : WE :=
  (w2 (cB bIn) (wVar 1) (wC (.str (PySem.Str.ofString "abcdefghijklmnopqrstuvwxyz"))))
def _law_is_word_r1 : WS :=
  (wRet (wCall pAll (wCons (wLc (wIt (wVar 0)) (tgN 1) wYes _law_is_word_e1 [1]) wNil)))
def ws__law_is_word : WS :=
  (wSeq (wIf (wOr (wB (w2 (cB bLt) (wCall pLen (wCons (wVar 0) wNil)) (wC (.int 1)))) (wB (w2 (cB bGt) (wCall pLen (wCons (wVar 0) wNil)) (wC (.int 8))))) (wRet (wC (.bool false))) wNext)
    _law_is_word_r1)
theorem ok__law_is_word {f : Addr} {fd : FuncData} {sp : Spc} {ec : EcK} (F : Fun K "_law_is_word" "_law_is_word" st__law_is_word f fd) (T : Txt K mg ec) (hl : ∀ ds S K KX, sp ds S K KX → ds.length = 1)
    (hs : ∀ ds S K KX, sp ds S K KX → ws__law_is_word { nx := fun _ S1 => K (.z .none) S1, rt := K, ex := fun y _ S1 => KX y S1 } (startE nm__law_is_word ds) S) : FnOk P w K mg base (L2.CX P w) 1 f fd ["_law_word_here"] (spOf sp) := by
  have nd := sc__law_is_word.nd
  refine fnpx F sc__law_is_word hl (ws := ws__law_is_word) (fun cdv A outer s H E B F0 hr tk hp => ?_) hs
  have hu := hu_px hr
  exact (bcons (xif (xtw (yor (xtcmp oLt (xcallB oLen rfl T.n_len bb_len (acons (xv 0) anil)) xint) (yor1 (xtcmp oGt (xcallB oLen rfl T.n_len bb_len (acons (xv 0) anil)) xint)))) (bone (xret xbl)) bnil)
    (bone (xret (xcallB (oAll rfl) rfl T.n_all bb_all (acons (xlc (own := [("_law_sign", 1)]) rfl nd (xit (xv 0)) (blkOk_by (N := nm__law_is_word) (sc := defScope st__law_is_word) (by decide +kernel)) (fun _ _ _ _ _ => pg_name (i := 1) nd rfl (Or.inl rfl)) tgok_name (fun _ _ _ _ _ => tsNil) (fun _ _ _ _ _ => (xcmp (oIn hu) (xv 1) xstr))) anil)))))
abbrev st__law_words_of : Stmt := top 45
abbrev nm__law_words_of : List Str := ["_law_parts", "_law_words_here", "_law_steps", "_law_tellings", "_law_scope", "_law_state", "_law_path", "_law_step_here", "_law_telling_here"]
theorem sc__law_words_of : FnScope nm__law_words_of ["_law_parts"] (defScope st__law_words_of) := ⟨rfl, rfl, rfl, by decide +kernel, rfl, by decide +kernel, by decide +kernel⟩
def _law_words_of_e1 : WE :=
  (w2 pIx (wVar 7) (wC (.int 0)))
def _law_words_of_e2 : WE :=
  (w2 pIx (wVar 8) (wC (.int 0)))
def _law_words_of_e3 : WE :=
  (w2 pIx (wVar 8) (wC (.int 1)))
def _law_words_of_b1 : WS :=
  (wSeq (wAsg (w2 pAdd (wVar 1) (wLc (wIt (wVar 2)) (tgN 7) wYes _law_words_of_e1 [7])) (gN 1))
    (wSeq (wAsg (w2 pAdd (wVar 1) (wLc (wIt (wVar 3)) (tgN 8) wYes _law_words_of_e2 [8])) (gN 1))
    (wAsg (w2 pAdd (wVar 1) (wLc (wIt (wVar 3)) (tgN 8) wYes _law_words_of_e3 [8])) (gN 1))))
def _law_words_of_b2 : WS :=
  (wSeq (wAsg (w2 pAdd (wVar 1) (wCall pList (wCons (wVar 6) wNil))) (gN 1))
    (wIf (wB (w2 (cB bEq) (wVar 6) (wTup wNil))) (wDrop (wMth .list pApp (wVar 1) (wCons (wC (.str (PySem.Str.ofString ""))) wNil))) wNext))
def _law_words_of_r1 : WS :=
  (wRet (wVar 1))
def _law_words_of_r2 : WS :=
  (wSeq (wFor (wIt (w2 pIx (wVar 0) (wC (.int 2)))) (gT 3 (gC (gN 4) (gC (gN 5) (gC (gN 6) gE)))) _law_words_of_b2)
    _law_words_of_r1)
def ws__law_words_of : WS :=
  (wSeq (wAsg (wLst wNil) (gN 1))
    (wSeq (wFor (wIt (w2 pIx (wVar 0) (wC (.int 0)))) (gT 2 (gC (gN 2) (gC (gN 3) gE))) _law_words_of_b1)
    _law_words_of_r2))
theorem ok__law_words_of {f : Addr} {fd : FuncData} {sp : Spc} {ec : EcK} (F : Fun K "_law_words_of" "_law_words_of" st__law_words_of f fd) (T : Txt K mg ec) (hl : ∀ ds S K KX, sp ds S K KX → ds.length = 1)
    (hs : ∀ ds S K KX, sp ds S K KX → ws__law_words_of { nx := fun _ S1 => K (.z .none) S1, rt := K, ex := fun y _ S1 => KX y S1 } (startE nm__law_words_of ds) S) : FnOk P w K mg base (L2.CX P w) 1 f fd ["_law_parts"] (spOf sp) := by
  have nd := sc__law_words_of.nd
  refine fnpx F sc__law_words_of hl (ws := ws__law_words_of) (fun cdv A outer s H E B F0 hr tk hp => ?_) hs
  have hu := hu_px hr
  exact (bcons (xasg (xlst anil) (xgn 1 nd))
    (bcons (xfor hp rfl (xit (xix (oIx hu) (xv 0) xint)) (xgt rfl (xgc (xgn 2 nd) (xgc (xgn 3 nd) xge))) (bcons (xasg (xop oAdd (xv 1) (xlc (own := [("_law_step_here", 7)]) rfl nd (xit (xv 2)) (blkOk_by (N := nm__law_words_of) (sc := defScope st__law_words_of) (by decide +kernel)) (fun _ _ _ _ _ => pg_name (i := 7) nd rfl (Or.inl rfl)) tgok_name (fun _ _ _ _ _ => tsNil) (fun _ _ _ _ _ => (xix (oIx hu) (xv 7) xint)))) (xgn 1 nd))
    (bcons (xasg (xop oAdd (xv 1) (xlc (own := [("_law_telling_here", 8)]) rfl nd (xit (xv 3)) (blkOk_by (N := nm__law_words_of) (sc := defScope st__law_words_of) (by decide +kernel)) (fun _ _ _ _ _ => pg_name (i := 8) nd rfl (Or.inl rfl)) tgok_name (fun _ _ _ _ _ => tsNil) (fun _ _ _ _ _ => (xix (oIx hu) (xv 8) xint)))) (xgn 1 nd))
    (bone (xasg (xop oAdd (xv 1) (xlc (own := [("_law_telling_here", 8)]) rfl nd (xit (xv 3)) (blkOk_by (N := nm__law_words_of) (sc := defScope st__law_words_of) (by decide +kernel)) (fun _ _ _ _ _ => pg_name (i := 8) nd rfl (Or.inl rfl)) tgok_name (fun _ _ _ _ _ => tsNil) (fun _ _ _ _ _ => (xix (oIx hu) (xv 8) xint)))) (xgn 1 nd))))))
    (bcons (xfor hp rfl (xit (xix (oIx hu) (xv 0) xint)) (xgt rfl (xgc (xgn 4 nd) (xgc (xgn 5 nd) (xgc (xgn 6 nd) xge)))) (bcons (xasg (xop oAdd (xv 1) (xcallT oList rfl T.n_list bb_list (acons (xv 6) anil))) (xgn 1 nd))
    (bone (xif (xtcmp (oEq hu) (xv 6) (xtup anil)) (bone (xexpr (xm1 (T := .list) PySem.F.plainAttrs_list PySem.F.slot_list_append PySem.F.type_list_append oApp (xv 1) (acons xstr anil)))) bnil))))
    (bone (xret (xv 1))))))
abbrev st__law_there : Stmt := top 46
abbrev nm__law_there : List Str := ["_law_kind_here", "_law_number_here", "_law_rows", "_law_word_here", "_law_many"]
theorem sc__law_there : FnScope nm__law_there ["_law_kind_here", "_law_number_here", "_law_rows"] (defScope st__law_there) := ⟨rfl, rfl, rfl, by decide +kernel, rfl, by decide +kernel, by decide +kernel⟩
def _law_there_b1 : WS :=
  (wIf (wB (w2 (cB bEq) (wVar 0) (wVar 3))) (wRet (w3 (cB bLe) (cB bLt) (wC (.int 0)) (wVar 1) (wVar 4))) wNext)
def _law_there_r1 : WS :=
  (wRet (wC (.bool false)))
def ws__law_there : WS :=
  (wSeq (wFor (wIt (wVar 2)) (gT 2 (gC (gN 3) (gC (gN 4) gE))) _law_there_b1)
    _law_there_r1)
theorem ok__law_there {f : Addr} {fd : FuncData} {sp : Spc} {ec : EcK} (F : Fun K "_law_there" "_law_there" st__law_there f fd) (T : Txt K mg ec) (hl : ∀ ds S K KX, sp ds S K KX → ds.length = 3)
    (hs : ∀ ds S K KX, sp ds S K KX → ws__law_there { nx := fun _ S1 => K (.z .none) S1, rt := K, ex := fun y _ S1 => KX y S1 } (startE nm__law_there ds) S) : FnOk P w K mg base (L2.CX P w) 1 f fd ["_law_kind_here", "_law_number_here", "_law_rows"] (spOf sp) := by
  have nd := sc__law_there.nd
  refine fnpx F sc__law_there hl (ws := ws__law_there) (fun cdv A outer s H E B F0 hr tk hp => ?_) hs
  have hu := hu_px hr
  exact (bcons (xfor hp rfl (xit (xv 2)) (xgt rfl (xgc (xgn 3 nd) (xgc (xgn 4 nd) xge))) (bone (xif (xtcmp (oEq hu) (xv 0) (xv 3)) (bone (xret (xch oLe oLt xint (xv 1) (xv 4)))) bnil)))
    (bone (xret xbl)))
abbrev st__law_placed : Stmt := top 47
abbrev nm__law_placed : List Str := ["_law_parts", "_law_many", "_law_steps", "_law_tellings", "_law_kind_here", "_law_number_here", "_law_scope", "_law_state", "_law_path", "_law_label", "_law_name"]
theorem sc__law_placed : FnScope nm__law_placed ["_law_parts"] (defScope st__law_placed) := ⟨rfl, rfl, rfl, by decide +kernel, rfl, by decide +kernel, by decide +kernel⟩
def _law_placed_b1 (sp__law_there : Spc) : WS :=
  (wIf (wNot (wB (wFn sp__law_there [] (wCons (wVar 4) (wCons (wVar 5) (wCons (wLst (wCons (wTup (wCons (wC (.str (PySem.Str.ofString "to"))) (wCons (w2 pIx (wVar 1) (wC (.int 0))) wNil))) (wCons (wTup (wCons (wC (.str (PySem.Str.ofString "by"))) (wCons (w2 pIx (wVar 1) (wC (.int 2))) wNil))) wNil))) wNil)))))) (wRet (wC (.bool false))) wNext)
def _law_placed_b2 (sp__law_there : Spc) : WS :=
  (wIf (wNot (wB (wFn sp__law_there [] (wCons (wVar 4) (wCons (wVar 5) (wCons (wLst (wCons (wTup (wCons (wC (.str (PySem.Str.ofString "thing"))) (wCons (w2 pIx (wVar 1) (wC (.int 1))) wNil))) (wCons (wTup (wCons (wC (.str (PySem.Str.ofString "by"))) (wCons (w2 pIx (wVar 1) (wC (.int 2))) wNil))) wNil))) wNil)))))) (wRet (wC (.bool false))) wNext)
def _law_placed_b3 (sp__law_there : Spc) : WS :=
  (wSeq (wFor (wIt (wVar 2)) (gT 3 (gC (gN 9) (gC (gN 4) (gC (gN 5) gE)))) (_law_placed_b1 sp__law_there))
    (wFor (wIt (wVar 3)) (gT 4 (gC (gN 9) (gC (gN 10) (gC (gN 4) (gC (gN 5) gE))))) (_law_placed_b2 sp__law_there)))
def _law_placed_b4 (sp__law_there : Spc) : WS :=
  (wIf (wNot (wB (wFn sp__law_there [] (wCons (wVar 4) (wCons (wVar 5) (wCons (wLst (wCons (wTup (wCons (wC (.str (PySem.Str.ofString "plain"))) (wCons (wC (.int 1)) wNil))) (wCons (wTup (wCons (wC (.str (PySem.Str.ofString "part"))) (wCons (w2 pIx (wVar 1) (wC (.int 0))) wNil))) (wCons (wTup (wCons (wC (.str (PySem.Str.ofString "sort"))) (wCons (w2 pIx (wVar 1) (wC (.int 2))) wNil))) wNil)))) wNil)))))) (wRet (wC (.bool false))) wNext)
def _law_placed_b5 : WS :=
  (wIf (wOr (wB (w2 (cB bLt) (wVar 7) (wC (.int 0)))) (wOr (wB (w2 (cB bLt) (wVar 6) (wC (.int 0)))) (wB (w2 (cB bGe) (wVar 6) (w2 pIx (wVar 1) (wC (.int 0))))))) (wRet (wC (.bool false))) wNext)
def _law_placed_r1 : WS :=
  (wRet (wC (.bool true)))
def _law_placed_r2 : WS :=
  (wSeq (wFor (wIt (w2 pIx (wVar 0) (wC (.int 2)))) (gT 3 (gC (gN 6) (gC (gN 7) (gC (gN 8) gE)))) _law_placed_b5)
    _law_placed_r1)
def _law_placed_r3 (sp__law_there : Spc) : WS :=
  (wSeq (wFor (wIt (w2 pIx (wVar 0) (wC (.int 1)))) (gT 2 (gC (gN 4) (gC (gN 5) gE))) (_law_placed_b4 sp__law_there))
    _law_placed_r2)
def ws__law_placed (sp__law_there : Spc) : WS :=
  (wSeq (wAsg (wLst (wCons (wCall pLen (wCons (w2 pIx (wVar 0) (wC (.int 0))) wNil)) (wCons (wCall pLen (wCons (w2 pIx (wVar 0) (wC (.int 1))) wNil)) (wCons (wCall pLen (wCons (w2 pIx (wVar 0) (wC (.int 2))) wNil)) wNil)))) (gN 1))
    (wSeq (wFor (wIt (w2 pIx (wVar 0) (wC (.int 0)))) (gT 2 (gC (gN 2) (gC (gN 3) gE))) (_law_placed_b3 sp__law_there))
    (_law_placed_r3 sp__law_there)))
theorem ok__law_placed {f : Addr} {fd : FuncData} {sp : Spc} {ec : EcK} {sp__law_there : Spc} (F : Fun K "_law_placed" "_law_placed" st__law_placed f fd) (T : Txt K mg ec) (c__law_there : Fc P w K mg base "_law_there" 1 ["_law_kind_here", "_law_number_here", "_law_rows"] sp__law_there) (hl : ∀ ds S K KX, sp ds S K KX → ds.length = 1)
    (hs : ∀ ds S K KX, sp ds S K KX → ws__law_placed sp__law_there { nx := fun _ S1 => K (.z .none) S1, rt := K, ex := fun y _ S1 => KX y S1 } (startE nm__law_placed ds) S) : FnOk P w K mg base (L2.CX P w) 2 f fd ["_law_parts"] (spOf sp) := by
  have nd := sc__law_placed.nd
  refine fnpx F sc__law_placed hl (ws := ws__law_placed sp__law_there) (fun cdv A outer s H E B F0 hr tk hp => ?_) hs
  have hu := hu_px hr
  exact (bcons (xasg (xlst (acons (xcallB oLen rfl T.n_len bb_len (acons (xix (oIx hu) (xv 0) xint) anil)) (acons (xcallB oLen rfl T.n_len bb_len (acons (xix (oIx hu) (xv 0) xint) anil)) (acons (xcallB oLen rfl T.n_len bb_len (acons (xix (oIx hu) (xv 0) xint) anil)) anil)))) (xgn 1 nd))
    (bcons (xfor hp rfl (xit (xix (oIx hu) (xv 0) xint)) (xgt rfl (xgc (xgn 2 nd) (xgc (xgn 3 nd) xge))) (bcons (xfor hp rfl (xit (xv 2)) (xgt rfl (xgc (xgn 9 nd) (xgc (xgn 4 nd) (xgc (xgn 5 nd) xge)))) (bone (xif (xtnot (xtv (xfc c__law_there (hr.mono (by decide)) tk rfl (acons (xv 4) (acons (xv 5) (acons (xlst (acons (xtup (acons xstr (acons (xix (oIx hu) (xv 1) xint) anil))) (acons (xtup (acons xstr (acons (xix (oIx hu) (xv 1) xint) anil))) anil))) anil)))))) (bone (xret xbl)) bnil)))
    (bone (xfor hp rfl (xit (xv 3)) (xgt rfl (xgc (xgn 9 nd) (xgc (xgn 10 nd) (xgc (xgn 4 nd) (xgc (xgn 5 nd) xge))))) (bone (xif (xtnot (xtv (xfc c__law_there (hr.mono (by decide)) tk rfl (acons (xv 4) (acons (xv 5) (acons (xlst (acons (xtup (acons xstr (acons (xix (oIx hu) (xv 1) xint) anil))) (acons (xtup (acons xstr (acons (xix (oIx hu) (xv 1) xint) anil))) anil))) anil)))))) (bone (xret xbl)) bnil))))))
    (bcons (xfor hp rfl (xit (xix (oIx hu) (xv 0) xint)) (xgt rfl (xgc (xgn 4 nd) (xgc (xgn 5 nd) xge))) (bone (xif (xtnot (xtv (xfc c__law_there (hr.mono (by decide)) tk rfl (acons (xv 4) (acons (xv 5) (acons (xlst (acons (xtup (acons xstr (acons xint anil))) (acons (xtup (acons xstr (acons (xix (oIx hu) (xv 1) xint) anil))) (acons (xtup (acons xstr (acons (xix (oIx hu) (xv 1) xint) anil))) anil)))) anil)))))) (bone (xret xbl)) bnil)))
    (bcons (xfor hp rfl (xit (xix (oIx hu) (xv 0) xint)) (xgt rfl (xgc (xgn 6 nd) (xgc (xgn 7 nd) (xgc (xgn 8 nd) xge)))) (bone (xif (xtw (yor (xtcmp oLt (xv 7) xint) (yor (xtcmp oLt (xv 6) xint) (yor1 (xtcmp oGe (xv 6) (xix (oIx hu) (xv 1) xint)))))) (bone (xret xbl)) bnil)))
    (bone (xret xbl))))))
abbrev st__law_due : Stmt := top 48
abbrev nm__law_due : List Str := ["_law_parts", "_law_word_here"]
theorem sc__law_due : FnScope nm__law_due ["_law_parts"] (defScope st__law_due) := ⟨rfl, rfl, rfl, by decide +kernel, rfl, by decide +kernel, by decide +kernel⟩
def _law_due_b1 (sp__law_is_word : Spc) : WS :=
  (wIf (wNot (wB (wFn sp__law_is_word [] (wCons (wVar 1) wNil)))) (wRet (wC (.int 1))) wNext)
def _law_due_r1 : WS :=
  (wRet (wC .none))
def _law_due_r2 (sp__law_placed : Spc) : WS :=
  (wSeq (wIf (wNot (wB (wFn sp__law_placed [] (wCons (wVar 0) wNil)))) (wRet (wC (.int 2))) wNext)
    _law_due_r1)
def _law_due_r3 (sp__law_words_of : Spc) (sp__law_is_word : Spc) (sp__law_placed : Spc) : WS :=
  (wSeq (wFor (wIt (wFn sp__law_words_of [] (wCons (wVar 0) wNil))) (gN 1) (_law_due_b1 sp__law_is_word))
    (_law_due_r2 sp__law_placed))
def ws__law_due (sp__law_great : Spc) (sp__law_words_of : Spc) (sp__law_is_word : Spc) (sp__law_placed : Spc) : WS :=
  (wSeq (wIf (wB (wFn sp__law_great [] (wCons (wVar 0) wNil))) (wRet (wC (.int 0))) wNext)
    (_law_due_r3 sp__law_words_of sp__law_is_word sp__law_placed))
theorem ok__law_due {f : Addr} {fd : FuncData} {sp : Spc} {ec : EcK} {sp__law_great : Spc} {sp__law_words_of : Spc} {sp__law_is_word : Spc} {sp__law_placed : Spc} (F : Fun K "_law_due" "_law_due" st__law_due f fd) (T : Txt K mg ec) (c__law_great : Fc P w K mg base "_law_great" 1 ["_law_parts"] sp__law_great) (c__law_words_of : Fc P w K mg base "_law_words_of" 1 ["_law_parts"] sp__law_words_of) (c__law_is_word : Fc P w K mg base "_law_is_word" 1 ["_law_word_here"] sp__law_is_word) (c__law_placed : Fc P w K mg base "_law_placed" 2 ["_law_parts"] sp__law_placed) (hl : ∀ ds S K KX, sp ds S K KX → ds.length = 1)
    (hs : ∀ ds S K KX, sp ds S K KX → ws__law_due sp__law_great sp__law_words_of sp__law_is_word sp__law_placed { nx := fun _ S1 => K (.z .none) S1, rt := K, ex := fun y _ S1 => KX y S1 } (startE nm__law_due ds) S) : FnOk P w K mg base (L2.CX P w) 3 f fd ["_law_parts"] (spOf sp) := by
  have nd := sc__law_due.nd
  refine fnpx F sc__law_due hl (ws := ws__law_due sp__law_great sp__law_words_of sp__law_is_word sp__law_placed) (fun cdv A outer s H E B F0 hr tk hp => ?_) hs
  have hu := hu_px hr
  exact (bcons (xif (xtv (xfc c__law_great (hr.mono (by decide)) tk rfl (acons (xv 0) anil))) (bone (xret xint)) bnil)
    (bcons (xfor hp rfl (xit (xfc c__law_words_of (hr.mono (by decide)) tk rfl (acons (xv 0) anil))) (xgn 1 nd) (bone (xif (xtnot (xtv (xfc c__law_is_word (hr.mono (by decide)) tk rfl (acons (xv 1) anil)))) (bone (xret xint)) bnil)))
    (bcons (xif (xtnot (xtv (xfc c__law_placed (hr.mono (by decide)) tk rfl (acons (xv 0) anil)))) (bone (xret xint)) bnil)
    (bone (xret xnon)))))
abbrev st__law_judged : Stmt := top 49
abbrev nm__law_judged : List Str := ["_law_parts", "_law_kept", "_law_due_here"]
theorem sc__law_judged : FnScope nm__law_judged ["_law_parts"] (defScope st__law_judged) := ⟨rfl, rfl, rfl, by decide +kernel, rfl, by decide +kernel, by decide +kernel⟩
def _law_judged_r1 (sp_net_of : Spc) (sp__law_is_net : Spc) : WS :=
  (wRet (wAndV (wFn sp__law_is_net [] (wCons (wFn sp_net_of [] (wCons (w2 pIx (wVar 0) (wC (.int 0))) (wCons (w2 pIx (wVar 0) (wC (.int 1))) (wCons (w2 pIx (wVar 0) (wC (.int 2))) wNil)))) (wCons (wVar 1) wNil))) (w2 (cB bEq) (wVar 0) (wVar 1))))
def ws__law_judged (sp__law_copy : Spc) (sp__law_due : Spc) (sp__law_kinds_of : Spc) (sp__law_refused_as : Spc) (sp_net_of : Spc) (sp__law_is_net : Spc) : WS :=
  (wSeq (wAsg (wFn sp__law_copy [] (wCons (wVar 0) wNil)) (gN 1))
    (wSeq (wAsg (wFn sp__law_due [] (wCons (wVar 1) wNil)) (gN 2))
    (wSeq (wIf (wB (w2 (cB bIsNot) (wVar 2) (wC .none))) (wRet (wAndV (wFn sp__law_refused_as [] (wCons (wFn sp__law_kinds_of [] (wCons (w2 pIx (wVar 0) (wC (.int 0))) (wCons (w2 pIx (wVar 0) (wC (.int 1))) (wCons (w2 pIx (wVar 0) (wC (.int 2))) wNil)))) (wCons (wVar 2) wNil))) (w2 (cB bEq) (wVar 0) (wVar 1)))) wNext)
    (_law_judged_r1 sp_net_of sp__law_is_net))))
theorem ok__law_judged {f : Addr} {fd : FuncData} {sp : Spc} {ec : EcK} {sp__law_copy : Spc} {sp__law_due : Spc} {sp__law_kinds_of : Spc} {sp__law_refused_as : Spc} {sp_net_of : Spc} {sp__law_is_net : Spc} (F : Fun K "_law_judged" "_law_judged" st__law_judged f fd) (T : Txt K mg ec) (c__law_copy : Fc P w K mg base "_law_copy" 1 ["_law_parts"] sp__law_copy) (c__law_due : Fc P w K mg base "_law_due" 3 ["_law_parts"] sp__law_due) (c__law_kinds_of : Fc P w K mg base "_law_kinds_of" 4 ["_law_scopes", "_law_things", "_law_questions"] sp__law_kinds_of) (c__law_refused_as : Fc P w K mg base "_law_refused_as" 1 ["_law_kinds", "_law_due_here"] sp__law_refused_as) (c_net_of : Fc P w K mg base "net_of" 3 ["scopes", "things", "questions"] sp_net_of) (c__law_is_net : Fc P w K mg base "_law_is_net" 1 ["_law_net", "_law_parts"] sp__law_is_net) (hl : ∀ ds S K KX, sp ds S K KX → ds.length = 1)
    (hs : ∀ ds S K KX, sp ds S K KX → ws__law_judged sp__law_copy sp__law_due sp__law_kinds_of sp__law_refused_as sp_net_of sp__law_is_net { nx := fun _ S1 => K (.z .none) S1, rt := K, ex := fun y _ S1 => KX y S1 } (startE nm__law_judged ds) S) : FnOk P w K mg base (L2.CX P w) 5 f fd ["_law_parts"] (spOf sp) := by
  have nd := sc__law_judged.nd
  refine fnpx F sc__law_judged hl (ws := ws__law_judged sp__law_copy sp__law_due sp__law_kinds_of sp__law_refused_as sp_net_of sp__law_is_net) (fun cdv A outer s H E B F0 hr tk hp => ?_) hs
  have hu := hu_px hr
  exact (bcons (xasg (xfc c__law_copy (hr.mono (by decide)) tk rfl (acons (xv 0) anil)) (xgn 1 nd))
    (bcons (xasg (xfc c__law_due (hr.mono (by decide)) tk rfl (acons (xv 1) anil)) (xgn 2 nd))
    (bcons (xif (xtcmp oIsNot (xv 2) xnon) (bone (xret (xand (xfc c__law_refused_as (hr.mono (by decide)) tk rfl (acons (xfc c__law_kinds_of (hr.mono (by decide)) tk rfl (acons (xix (oIx hu) (xv 0) xint) (acons (xix (oIx hu) (xv 0) xint) (acons (xix (oIx hu) (xv 0) xint) anil)))) (acons (xv 2) anil))) (xone (xcmp (oEq hu) (xv 0) (xv 1)))))) bnil)
    (bone (xret (xand (xfc c__law_is_net (hr.mono (by decide)) tk rfl (acons (xfc c_net_of (hr.mono (by decide)) tk rfl (acons (xix (oIx hu) (xv 0) xint) (acons (xix (oIx hu) (xv 0) xint) (acons (xix (oIx hu) (xv 0) xint) anil)))) (acons (xv 1) anil))) (xone (xcmp (oEq hu) (xv 0) (xv 1)))))))))
abbrev st__law_laid : Stmt := top 50
abbrev nm__law_laid : List Str := ["_law_script", "_law_last", "_law_words_here", "_law_parts", "_law_k", "_law_cell"]
theorem sc__law_laid : FnScope nm__law_laid ["_law_script", "_law_last"] (defScope st__law_laid) := ⟨rfl, rfl, rfl, by decide +kernel, rfl, by decide +kernel, by decide +kernel⟩
def _law_laid_e1 : WE :=
  (wTup (wCons (wLst wNil) (wCons (wLst wNil) wNil)))
def _law_laid_b1 : WS :=
  (wDrop (wMth .list pApp (w2 pIx (wVar 3) (wC (.int 1))) (wCons (wTup (wCons (wC (.str (PySem.Str.ofString "plain"))) (wCons (wC (.int 0)) wNil))) wNil)))
def _law_laid_b2 : WS :=
  (wDrop (wMth .list pApp (w2 pIx (wVar 3) (wC (.int 2))) (wCons (wTup (wCons (wC (.int 0)) (wCons (wVar 4) (wCons (wTup (wCons (w2 pIx (wVar 2) (wVar 4)) (wCons (w2 pIx (wVar 2) (w2 pMul (wC (.int 2)) (wVar 4))) wNil))) wNil)))) wNil)))
def _law_laid_b3 (sp__law_lay : Spc) : WS :=
  (wDrop (wFn sp__law_lay [] (wCons (wVar 3) (wCons (wVar 2) (wCons (wVar 5) wNil)))))
def _law_laid_r1 : WS :=
  (wRet (wVar 3))
def _law_laid_r2 (sp__law_lay : Spc) : WS :=
  (wSeq (wFor (wIt (wSl pSl (wVar 0) (wPart (wC (.int 4))) (wPart (wVar 1)))) (gN 5) (_law_laid_b3 sp__law_lay))
    _law_laid_r1)
def _law_laid_r3 (sp__law_cell_at : Spc) (sp__law_lay : Spc) : WS :=
  (wSeq (wIf (wB (w2 (cB bNe) (w2 pIx (wVar 3) (wC (.int 0))) (wLst wNil))) (wFor (wRg1 (wCons (w2 pMod (wFn sp__law_cell_at [] (wCons (wVar 0) (wCons (wC (.int 3)) wNil))) (wC (.int 5))) wNil)) (gN 4) _law_laid_b2) wNext)
    (_law_laid_r2 sp__law_lay))
def ws__law_laid (sp__law_cell_at : Spc) (sp__law_words : Spc) (sp__law_lay : Spc) : WS :=
  (wSeq (wAsg (wFn sp__law_words [] (wCons (w2 pMod (wFn sp__law_cell_at [] (wCons (wVar 0) (wCons (wC (.int 0)) wNil))) (w2 pPow (wC (.int 10)) (wC (.int 9)))) (wCons (wC (.int 9)) wNil))) (gN 2))
    (wSeq (wAsg (wTup (wCons (wLc (wRg1 (wCons (w2 pMod (wFn sp__law_cell_at [] (wCons (wVar 0) (wCons (wC (.int 1)) wNil))) (wC (.int 5))) wNil)) (tgN 4) wYes _law_laid_e1 [4]) (wCons (wLst wNil) (wCons (wLst wNil) wNil)))) (gN 3))
    (wSeq (wFor (wRg1 (wCons (w2 pMod (wFn sp__law_cell_at [] (wCons (wVar 0) (wCons (wC (.int 2)) wNil))) (wC (.int 5))) wNil)) (gN 4) _law_laid_b1)
    (_law_laid_r3 sp__law_cell_at sp__law_lay))))
theorem ok__law_laid {f : Addr} {fd : FuncData} {sp : Spc} {ec : EcK} {sp__law_cell_at : Spc} {sp__law_words : Spc} {sp__law_lay : Spc} (F : Fun K "_law_laid" "_law_laid" st__law_laid f fd) (T : Txt K mg ec) (c__law_cell_at : Fc P w K mg base "_law_cell_at" 1 ["_law_script", "_law_k"] sp__law_cell_at) (c__law_words : Fc P w K mg base "_law_words" 1 ["_law_cell", "_law_many"] sp__law_words) (c__law_lay : Fc P w K mg base "_law_lay" 3 ["_law_parts", "_law_words_here", "_law_cell"] sp__law_lay) (hl : ∀ ds S K KX, sp ds S K KX → ds.length = 2)
    (hs : ∀ ds S K KX, sp ds S K KX → ws__law_laid sp__law_cell_at sp__law_words sp__law_lay { nx := fun _ S1 => K (.z .none) S1, rt := K, ex := fun y _ S1 => KX y S1 } (startE nm__law_laid ds) S) : FnOk P w K mg base (L2.CX P w) 4 f fd ["_law_script", "_law_last"] (spOf sp) := by
  have nd := sc__law_laid.nd
  refine fnpx F sc__law_laid hl (ws := ws__law_laid sp__law_cell_at sp__law_words sp__law_lay) (fun cdv A outer s H E B F0 hr tk hp => ?_) hs
  have hu := hu_px hr
  exact (bcons (xasg (xfc c__law_words (hr.mono (by decide)) tk rfl (acons (xop oMod (xfc c__law_cell_at (hr.mono (by decide)) tk rfl (acons (xv 0) (acons xint anil))) (xop oPow xint xint)) (acons xint anil))) (xgn 2 nd))
    (bcons (xasg (xtup (acons (xlc (own := [("_law_k", 4)]) rfl nd (xrg1 rfl T.n_range (acons (xop oMod (xfc c__law_cell_at (hr.mono (by decide)) tk rfl (acons (xv 0) (acons xint anil))) xint) anil)) (blkOk_by (N := nm__law_laid) (sc := defScope st__law_laid) (by decide +kernel)) (fun _ _ _ _ _ => pg_name (i := 4) nd rfl (Or.inl rfl)) tgok_name (fun _ _ _ _ _ => tsNil) (fun _ _ _ _ _ => (xtup (acons (xlst anil) (acons (xlst anil) anil))))) (acons (xlst anil) (acons (xlst anil) anil)))) (xgn 3 nd))
    (bcons (xfor hp rfl (xrg1 rfl T.n_range (acons (xop oMod (xfc c__law_cell_at (hr.mono (by decide)) tk rfl (acons (xv 0) (acons xint anil))) xint) anil)) (xgn 4 nd) (bone (xexpr (xm1 (T := .list) PySem.F.plainAttrs_list PySem.F.slot_list_append PySem.F.type_list_append oApp (xix (oIx hu) (xv 3) xint) (acons (xtup (acons xstr (acons xint anil))) anil)))))
    (bcons (xif (xtcmp (oNe hu) (xix (oIx hu) (xv 3) xint) (xlst anil)) (bone (xfor hp rfl (xrg1 rfl T.n_range (acons (xop oMod (xfc c__law_cell_at (hr.mono (by decide)) tk rfl (acons (xv 0) (acons xint anil))) xint) anil)) (xgn 4 nd) (bone (xexpr (xm1 (T := .list) PySem.F.plainAttrs_list PySem.F.slot_list_append PySem.F.type_list_append oApp (xix (oIx hu) (xv 3) xint) (acons (xtup (acons xint (acons (xv 4) (acons (xtup (acons (xix (oIx hu) (xv 2) (xv 4)) (acons (xix (oIx hu) (xv 2) (xop oMul xint (xv 4))) anil))) anil)))) anil)))))) bnil)
    (bcons (xfor hp rfl (xit (xsl oSl (xv 0) (osome xint) (osome (xv 1)))) (xgn 5 nd) (bone (xexpr (xfc c__law_lay (hr.mono (by decide)) tk rfl (acons (xv 3) (acons (xv 2) (acons (xv 5) anil)))))))
    (bone (xret (xv 3))))))))
abbrev st_law : Stmt := top 51
abbrev nm_law : List Str := ["_law_script"]
theorem sc_law : FnScope nm_law ["_law_script"] (defScope st_law) := ⟨rfl, rfl, rfl, by decide +kernel, rfl, by decide +kernel, by decide +kernel⟩
def law_r1 (sp__law_laid : Spc) (sp__law_judged : Spc) : WS :=
  (wRet (wFn sp__law_judged [] (wCons (wFn sp__law_laid [] (wCons (wVar 0) (wCons (wCall pMax2 (wCons (w2 pSub (wCall pLen (wCons (wVar 0) wNil)) (wC (.int 1))) (wCons (wC (.int 0)) wNil))) wNil))) wNil)))
def ws_law (sp__law_laid : Spc) (sp__law_judged : Spc) : WS :=
  (wSeq (wIf (wNot (wB (wFn sp__law_judged [] (wCons (wFn sp__law_laid [] (wCons (wVar 0) (wCons (wCall pLen (wCons (wVar 0) wNil)) wNil))) wNil)))) (wRet (wC (.bool false))) wNext)
    (law_r1 sp__law_laid sp__law_judged))
theorem ok_law {f : Addr} {fd : FuncData} {sp : Spc} {ec : EcK} {sp__law_laid : Spc} {sp__law_judged : Spc} (F : Fun K "law" "law" st_law f fd) (T : Txt K mg ec) (c__law_laid : Fc P w K mg base "_law_laid" 4 ["_law_script", "_law_last"] sp__law_laid) (c__law_judged : Fc P w K mg base "_law_judged" 5 ["_law_parts"] sp__law_judged) (hl : ∀ ds S K KX, sp ds S K KX → ds.length = 1)
    (hs : ∀ ds S K KX, sp ds S K KX → ws_law sp__law_laid sp__law_judged { nx := fun _ S1 => K (.z .none) S1, rt := K, ex := fun y _ S1 => KX y S1 } (startE nm_law ds) S) : FnOk P w K mg base (L2.CX P w) 6 f fd ["_law_script"] (spOf sp) := by
  have nd := sc_law.nd
  refine fnpx F sc_law hl (ws := ws_law sp__law_laid sp__law_judged) (fun cdv A outer s H E B F0 hr tk hp => ?_) hs
  have hu := hu_px hr
  exact (bcons (xif (xtnot (xtv (xfc c__law_judged (hr.mono (by decide)) tk rfl (acons (xfc c__law_laid (hr.mono (by decide)) tk rfl (acons (xv 0) (acons (xcallB oLen rfl T.n_len bb_len (acons (xv 0) anil)) anil))) anil)))) (bone (xret xbl)) bnil)
    (bone (xret (xfc c__law_judged (hr.mono (by decide)) tk rfl (acons (xfc c__law_laid (hr.mono (by decide)) tk rfl (acons (xv 0) (acons (xcallB (oMax2 rfl) rfl T.n_max bb_max (acons (xop oSub (xcallB oLen rfl T.n_len bb_len (acons (xv 0) anil)) xint) (acons xint anil))) anil))) anil)))))
end
end K17

set_option Elab.async false
set_option linter.all false
set_option maxRecDepth 100000
set_option maxHeartbeats 1000000
namespace K17
open PySem L2 PL NE
open ND (cutL_map cutL_len cutL_mem bz_ints LwN isNm alpha alpha_eq alpha_at getA ixD_zA ixD_bA app_list one_len getI getI_at getI_mem)
local macro_rules | `(tactic| walk_at "st1") => `(tactic| first | assumption | exact sto_last | exact sto_r0 | exact sto_r1 | exact sto_r2 | exact sto_r3 | exact sto_r4)
local macro_rules | `(tactic| walk_at "sto") => `(tactic| first | walk_at "st1" | exact sto_app (by walk_at "st1") | exact sto_app (sto_app (by walk_at "st1")))
local macro_rules | `(tactic| walk_at "sz") => `(tactic| ((try simp only [List.length_map, List.length_range, List.length_append, List.length_cons, List.length_nil]); omega))
local macro_rules | `(tactic| walk_at "go") => `(tactic| ((try (conv => whnf)); repeat ((first | (show pIf _ _ _; first | refine pIf.tt rfl ?_ | refine pIf.ff rfl ?_) | (show pReq _ _; first | refine pReq.mk rfl ?_ | refine pReq.mk (sz_le rfl) ?_ | refine pReq.mk (sz_lt rfl) ?_ | refine pReq.mk (by decide) ?_ | refine pReq.mk (Or.inr (by decide)) ?_ | refine pReq.mk (Or.inl (by decide)) ?_ | refine pReq.mk (by assumption) ?_ | refine pReq.mk (isTy_l (by walk_at "sto")) ?_ | refine pReq.mk (by omega) ?_ | refine pReq.mk (sz_lt6 (by walk_at "sz")) ?_ | refine pReq.mk (sz_le6 (by walk_at "sz")) ?_ | refine pReq.mk (by walk_at "sz") ?_) | (show pGet _ _; first | refine pGet.mk rfl ?_ | refine pGet.mk (by walk_at "sto") ?_ | refine pGet.mk (lenD_at (by walk_at "sto")) ?_ | refine pGet.mk (sqD_at (by walk_at "sto")) ?_ | refine pGet.mk (lsD_at (by walk_at "sto")) ?_ | refine pGet.mk (lsR_at (by walk_at "sto")) ?_ | refine pGet.mk (srcD_at (by walk_at "sto")) ?_ | refine pGet.mk (tyD_l (by walk_at "sto")) ?_)); (try (conv => whnf)))))
/-! what a net is asked -/
def isNameB (x : Str) : Bool := decide (1 ≤ x.length) && (decide (x.length ≤ 8) && x.cps.toList.all fun c => decide (c ∈ alpha))
def F_is_name : Fsp := fsp (fun x : Str => [.str x]) (fun x => x.length ≤ 1000000) fun x => .bool (isNameB x)
theorem pu_is_name : ∀ ds S K KX, lent F_is_name ds S K KX → ws_is_name { nx := fun _ S1 => K (.z .none) S1, rt := K, ex := fun y _ S1 => KX y S1 } (startE nm_is_name ds) S := by
  refine fsp_ok fun x hx K KX hk => ?_
  unfold isNameB at hk
  walk_at "go"
  refine pIf.mk (fun c => ?_) (fun c => ?_)
  · have c := of_decide_eq_true c
    rw [show decide (1 ≤ x.length) = false from decide_eq_false (by omega)] at hk
    walk_at "go"
    exact hk _ _ .z
  · have c := of_decide_eq_false c
    rw [show decide (1 ≤ x.length) = true from decide_eq_true (by omega), Bool.true_and] at hk
    walk_at "go"
    refine pIf.mk (fun c => ?_) (fun c => ?_)
    · have c := of_decide_eq_true c
      rw [show decide (x.length ≤ 8) = false from decide_eq_false (by omega)] at hk
      walk_at "go"
      exact hk _ _ .z
    · have c := of_decide_eq_false c
      rw [show decide (x.length ≤ 8) = true from decide_eq_true (by omega), Bool.true_and] at hk
      walk_at "go"
      refine pFor_allB x.cps.toList (fun c => .z (.str ⟨⟨[c]⟩⟩)) (fun c => decide (c ∈ alpha)) (fun env => ∃ v, env = [some (.z (.str x)), v]) rfl trivial ⟨_, rfl⟩ ?_ ?_ ?_
      · rintro c _ Q hc ⟨v, rfl⟩ h1 h2
        walk_at "go"
        rw [alpha_eq]
        refine pIf.mk (fun q => ?_) (fun q => ?_)
        · walk_at "go"
          refine h2 ?_
          revert q
          cases decide (c ∈ alpha) <;> simp
        · walk_at "go"
          refine h1 ?_ _ ⟨_, rfl⟩
          revert q
          cases decide (c ∈ alpha) <;> simp
      · rintro ha _ ⟨v, rfl⟩
        walk_at "go"
        rw [ha] at hk
        exact hk _ _ .z
      · intro hf
        rw [hf] at hk
        exact hk _ _ .z
def okLen (n : XNet) : Prop := n.scopes.length ≤ 1000000 ∧ n.things.length ≤ 1000000 ∧ n.quests.length ≤ 1000000
def smallB (n : XNet) : Bool := decide (n.scopes.length ≤ 40) && (decide (n.things.length ≤ 80) && (decide (n.quests.length ≤ 60) &&
  (n.scopes.all (fun s => decide (s.1.length ≤ 8) && decide (s.2.length ≤ 12)) && n.quests.all fun q => decide (q.path.length ≤ 6))))
def F_small_enough : Fsp := fsp (fun n : XNet => [lSc n, lTh n, lQu n]) (fun _ => True) fun n => .bool (smallB n)
theorem pu_small_enough : ∀ ds S K KX, lent F_small_enough ds S K KX → ws_small_enough { nx := fun _ S1 => K (.z .none) S1, rt := K, ex := fun y _ S1 => KX y S1 } (startE nm_small_enough ds) S := by
  refine fsp_ok fun n _ K KX hk => ?_
  unfold smallB at hk
  walk_at "go"
  rw [List.length_map]
  refine pIf.mk (fun c => ?_) (fun c => ?_)
  · have c := of_decide_eq_true c
    rw [show decide (n.scopes.length ≤ 40) = false from decide_eq_false (by omega)] at hk
    walk_at "go"
    exact hk _ _ .z
  have c := of_decide_eq_false c
  rw [show decide (n.scopes.length ≤ 40) = true from decide_eq_true (by omega), Bool.true_and] at hk
  walk_at "go"
  rw [List.length_map]
  refine pIf.mk (fun c => ?_) (fun c => ?_)
  · have c := of_decide_eq_true c
    rw [show decide (n.things.length ≤ 80) = false from decide_eq_false (by omega)] at hk
    walk_at "go"
    exact hk _ _ .z
  have c := of_decide_eq_false c
  rw [show decide (n.things.length ≤ 80) = true from decide_eq_true (by omega), Bool.true_and] at hk
  walk_at "go"
  rw [List.length_map]
  refine pIf.mk (fun c => ?_) (fun c => ?_)
  · have c := of_decide_eq_true c
    rw [show decide (n.quests.length ≤ 60) = false from decide_eq_false (by omega)] at hk
    walk_at "go"
    exact hk _ _ .z
  have c := of_decide_eq_false c
  rw [show decide (n.quests.length ≤ 60) = true from decide_eq_true (by omega), Bool.true_and] at hk
  walk_at "go"
  refine pFor_allB n.scopes (fun s => bz (eSc s)) (fun s => decide (s.1.length ≤ 8) && decide (s.2.length ≤ 12)) (fun env => ∃ v3 v4, env = [some (.b (lSc n)), some (bz (lTh n)), some (bz (lQu n)), v3, v4, none, none, none]) (bz_scs n) trivial ⟨_, _, rfl⟩ ?_ ?_ ?_
  · rintro s _ Q _ ⟨v3, v4, rfl⟩ h1 h2
    walk_at "go"
    rw [List.length_map]
    refine pIf.mk (fun c => ?_) (fun c => ?_)
    · have c := of_decide_eq_true c
      walk_at "go"
      refine h2 ?_
      rw [show decide (s.1.length ≤ 8) = false from decide_eq_false (by omega)]; rfl
    have c := of_decide_eq_false c
    rw [show decide (s.1.length ≤ 8) = true from decide_eq_true (by omega), Bool.true_and] at h1 h2
    walk_at "go"
    rw [List.length_map]
    refine pIf.mk (fun c => ?_) (fun c => ?_)
    · have c := of_decide_eq_true c
      walk_at "go"
      exact h2 (decide_eq_false (by omega))
    · have c := of_decide_eq_false c
      walk_at "go"
      exact h1 (decide_eq_true (by omega)) _ ⟨_, _, rfl⟩
  · rintro ha _ ⟨v3, v4, rfl⟩
    rw [ha, Bool.true_and] at hk
    walk_at "go"
    refine pFor_allB n.quests zQ (fun q => decide (q.path.length ≤ 6)) (fun env => ∃ v5 v6 v7, env = [some (.b (lSc n)), some (bz (lTh n)), some (bz (lQu n)), v3, v4, v5, v6, v7]) (bzsQ _) trivial ⟨_, _, _, rfl⟩ ?_ ?_ ?_
    · rintro q _ Q _ ⟨v5, v6, v7, rfl⟩ h1 h2
      walk_at "go"
      rw [List.length_map]
      refine pIf.mk (fun c => ?_) (fun c => ?_)
      · have c := of_decide_eq_true c
        walk_at "go"
        exact h2 (decide_eq_false (by omega))
      · have c := of_decide_eq_false c
        walk_at "go"
        exact h1 (decide_eq_true (by omega)) _ ⟨_, _, _, rfl⟩
    · rintro ha _ ⟨v5, v6, v7, rfl⟩
      rw [ha] at hk
      walk_at "go"
      exact hk _ _ .z
    · intro hf
      rw [hf] at hk
      exact hk _ _ .z
  · intro hf
    rw [hf] at hk
    exact hk _ _ .z
def namedB (n : XNet) : Bool := n.scopes.all (fun s => s.1.all (fun x => isNameB x.lab) && s.2.all fun x => isNameB x.lab && isNameB x.name) && n.quests.all fun q => !q.path.isEmpty && q.path.all isNameB
/-- all words of bounded length -/
structure WordsOk (n : XNet) : Prop where
  s : ∀ s ∈ n.scopes, (∀ x ∈ s.1, x.lab.length ≤ 1000000) ∧ ∀ x ∈ s.2, x.lab.length ≤ 1000000 ∧ x.name.length ≤ 1000000
  q : ∀ q ∈ n.quests, ∀ x ∈ q.path, x.length ≤ 1000000
def F_all_named : Fsp := fsp (fun n : XNet => [lSc n, lQu n]) WordsOk fun n => .bool (namedB n)
theorem pu_all_named : ∀ ds S K KX, lent F_all_named ds S K KX → ws_all_named (frz F_is_name) { nx := fun _ S1 => K (.z .none) S1, rt := K, ex := fun y _ S1 => KX y S1 } (startE nm_all_named ds) S := by
  refine fsp_ok fun n hw K KX hk => ?_
  unfold namedB at hk
  walk_at "go"
  refine pFor_allB n.scopes (fun s => bz (eSc s)) (fun s => s.1.all (fun x => isNameB x.lab) && s.2.all fun x => isNameB x.lab && isNameB x.name) (fun env => ∃ v2 v3 v4 v5, env = [some (.b (lSc n)), some (bz (lQu n)), v2, v3, v4, v5, none, none, none, none]) (bz_scs n) trivial ⟨_, _, _, _, rfl⟩ ?_ ?_ ?_
  · rintro s _ Q hs ⟨v2, v3, v4, v5, rfl⟩ h1 h2
    have hw := hw.s s hs
    walk_at "go"
    refine pFor_allB s.1 zS (fun x => isNameB x.lab) (fun env => ∃ v4, env = [some (.b (lSc n)), some (bz (lQu n)), some (bz (.list (s.1.map eS))), some (bz (.list (s.2.map eL))), v4, v5, none, none, none, none]) (bzsS _) trivial ⟨_, rfl⟩ ?_ ?_ ?_
    · rintro x _ Q2 hx ⟨v4, rfl⟩ g1 g2
      walk_at "go"
      refine fsp_call x.lab (.cons .z .nil) (hw.1 x hx) ?_
      walk_at "go"
      cases hb : isNameB x.lab with
      | true => rw [hb] at g1; walk_at "go"; exact g1 rfl _ ⟨_, rfl⟩
      | false => rw [hb] at g2; walk_at "go"; exact g2 rfl
    · rintro ha _ ⟨v4, rfl⟩
      rw [ha, Bool.true_and] at h1 h2
      walk_at "go"
      refine pFor_allB s.2 zL (fun x => isNameB x.lab && isNameB x.name) (fun env => ∃ v5, env = [some (.b (lSc n)), some (bz (lQu n)), some (bz (.list (s.1.map eS))), some (bz (.list (s.2.map eL))), v4, v5, none, none, none, none]) (bzsL _) trivial ⟨_, rfl⟩ ?_ ?_ ?_
      · rintro x _ Q2 hx ⟨v5, rfl⟩ g1 g2
        walk_at "go"
        refine fsp_call x.lab (.cons .z .nil) (hw.2 x hx).1 ?_
        walk_at "go"
        cases hb : isNameB x.lab with
        | false => rw [hb] at g2; walk_at "go"; exact g2 rfl
        | true =>
          rw [hb] at g1 g2
          walk_at "go"
          refine fsp_call x.name (.cons .z .nil) (hw.2 x hx).2 ?_
          walk_at "go"
          cases hb2 : isNameB x.name with
          | true => rw [hb2] at g1; walk_at "go"; exact g1 rfl _ ⟨_, rfl⟩
          | false => rw [hb2] at g2; walk_at "go"; exact g2 rfl
      · rintro ha _ ⟨v5, rfl⟩
        exact h1 ha _ ⟨_, _, _, _, rfl⟩
      · exact h2
    · intro hf
      refine h2 ?_
      rw [hf]; rfl
  · rintro ha _ ⟨v2, v3, v4, v5, rfl⟩
    rw [ha, Bool.true_and] at hk
    walk_at "go"
    refine pFor_allB n.quests zQ (fun q => !q.path.isEmpty && q.path.all isNameB) (fun env => ∃ v6 v7 v8 v9, env = [some (.b (lSc n)), some (bz (lQu n)), v2, v3, v4, v5, v6, v7, v8, v9]) (bzsQ _) trivial ⟨_, _, _, _, rfl⟩ ?_ ?_ ?_
    · rintro q _ Q hq ⟨v6, v7, v8, v9, rfl⟩ h1 h2
      have hw := hw.q q hq
      walk_at "go"
      rw [List.length_map]
      refine pIf.mk (fun c => ?_) (fun c => ?_)
      · have c := of_decide_eq_true c
        walk_at "go"
        refine h2 ?_
        have : q.path = [] := List.length_eq_zero_iff.mp (by omega)
        rw [this]; rfl
      · have c := of_decide_eq_false c
        have : q.path.isEmpty = false := by
          cases hp : q.path with
          | nil => rw [hp] at c; simp at c
          | cons _ _ => rfl
        rw [this] at h1 h2
        walk_at "go"
        refine pFor_allB q.path (fun x => .z (.str x)) isNameB (fun env => ∃ v9, env = [some (.b (lSc n)), some (bz (lQu n)), v2, v3, v4, v5, some (.z (.int q.scope)), some (.z (.int q.state)), some (.z (.tuple (q.path.map .str))), v9]) (by show (q.path.map PyData.str).map D.z = _; rw [List.map_map]; rfl) trivial ⟨_, rfl⟩ ?_ ?_ ?_
        · rintro x _ Q2 hx ⟨v9, rfl⟩ g1 g2
          walk_at "go"
          refine fsp_call x (.cons .z .nil) (hw x hx) ?_
          walk_at "go"
          cases hb : isNameB x with
          | true => rw [hb] at g1; walk_at "go"; exact g1 rfl _ ⟨_, rfl⟩
          | false => rw [hb] at g2; walk_at "go"; exact g2 rfl
        · rintro ha _ ⟨v9, rfl⟩
          exact h1 ha _ ⟨_, _, _, _, rfl⟩
        · exact h2
    · rintro ha _ ⟨v6, v7, v8, v9, rfl⟩
      rw [ha] at hk
      walk_at "go"
      exact hk _ _ .z
    · intro hf
      rw [hf] at hk
      exact hk _ _ .z
  · intro hf
    rw [hf] at hk
    exact hk _ _ .z
/-! numbers there -/
def inR (i : Int) (n : Nat) : Bool := decide (0 ≤ i) && decide (i < n)
def stepB (ns nq : Nat) (x : XStep) : Bool := if x.kind = "to" then inR x.num ns else decide (x.kind = "by") && inR x.num nq
def tellB (nt nq : Nat) (x : XTell) : Bool := if x.kind = "thing" then inR x.num nt else decide (x.kind = "by") && inR x.num nq
def thingB (ns nq : Nat) (x : XThing) : Bool := if x.kind = "plain" then decide (x.num = 0) else if x.kind = "part" then inR x.num ns else decide (x.kind = "sort") && inR x.num nq
def questB (ns : Nat) (q : XQuest) : Bool := inR q.scope ns && decide (0 ≤ q.state)
def F_step_there : Fsp := fsp (fun a : XStep × List PyData × List PyData => [eS a.1, .list a.2.1, .list a.2.2]) (fun _ => True) fun a => .bool (stepB a.2.1.length a.2.2.length a.1)
def F_telling_there : Fsp := fsp (fun a : XTell × List PyData × List PyData => [eL a.1, .list a.2.1, .list a.2.2]) (fun _ => True) fun a => .bool (tellB a.2.1.length a.2.2.length a.1)
def F_thing_there : Fsp := fsp (fun a : XThing × List PyData × List PyData => [eT a.1, .list a.2.1, .list a.2.2]) (fun _ => True) fun a => .bool (thingB a.2.1.length a.2.2.length a.1)
theorem pu_step_there : ∀ ds S K KX, lent F_step_there ds S K KX → ws_step_there { nx := fun _ S1 => K (.z .none) S1, rt := K, ex := fun y _ S1 => KX y S1 } (startE nm_step_there ds) S := by
  refine fsp_ok fun ⟨⟨lab, kind, num⟩, a, b⟩ _ K KX hk => ?_
  dsimp only at hk
  unfold stepB inR at hk
  dsimp only at hk
  walk_at "go"
  refine pIf.mk (fun c => ?_) (fun c => ?_)
  · rw [if_pos (of_decide_eq_true c)] at hk
    walk_at "go"
    refine pIf.mk (fun c => ?_) (fun c => ?_)
    · rw [show decide ((0 : Int) ≤ num) = true from c, Bool.true_and] at hk
      walk_at "go"
      exact hk _ _ .z
    · rw [show decide ((0 : Int) ≤ num) = false from c] at hk
      walk_at "go"
      exact hk _ _ .z
  · rw [if_neg (of_decide_eq_false c)] at hk
    walk_at "go"
    refine pIf.mk (fun c => ?_) (fun c => ?_)
    · rw [show decide (kind = "by") = true from c, Bool.true_and] at hk
      walk_at "go"
      refine pIf.mk (fun c => ?_) (fun c => ?_)
      · rw [show decide ((0 : Int) ≤ num) = true from c, Bool.true_and] at hk
        walk_at "go"
        exact hk _ _ .z
      · rw [show decide ((0 : Int) ≤ num) = false from c] at hk
        walk_at "go"
        exact hk _ _ .z
    · rw [show decide (kind = "by") = false from c] at hk
      walk_at "go"
      exact hk _ _ .z
theorem pu_telling_there : ∀ ds S K KX, lent F_telling_there ds S K KX → ws_telling_there { nx := fun _ S1 => K (.z .none) S1, rt := K, ex := fun y _ S1 => KX y S1 } (startE nm_telling_there ds) S := by
  refine fsp_ok fun ⟨⟨lab, name, kind, num⟩, a, b⟩ _ K KX hk => ?_
  dsimp only at hk
  unfold tellB inR at hk
  dsimp only at hk
  walk_at "go"
  refine pIf.mk (fun c => ?_) (fun c => ?_)
  · rw [if_pos (of_decide_eq_true c)] at hk
    walk_at "go"
    refine pIf.mk (fun c => ?_) (fun c => ?_)
    · rw [show decide ((0 : Int) ≤ num) = true from c, Bool.true_and] at hk
      walk_at "go"
      exact hk _ _ .z
    · rw [show decide ((0 : Int) ≤ num) = false from c] at hk
      walk_at "go"
      exact hk _ _ .z
  · rw [if_neg (of_decide_eq_false c)] at hk
    walk_at "go"
    refine pIf.mk (fun c => ?_) (fun c => ?_)
    · rw [show decide (kind = "by") = true from c, Bool.true_and] at hk
      walk_at "go"
      refine pIf.mk (fun c => ?_) (fun c => ?_)
      · rw [show decide ((0 : Int) ≤ num) = true from c, Bool.true_and] at hk
        walk_at "go"
        exact hk _ _ .z
      · rw [show decide ((0 : Int) ≤ num) = false from c] at hk
        walk_at "go"
        exact hk _ _ .z
    · rw [show decide (kind = "by") = false from c] at hk
      walk_at "go"
      exact hk _ _ .z
theorem pu_thing_there : ∀ ds S K KX, lent F_thing_there ds S K KX → ws_thing_there { nx := fun _ S1 => K (.z .none) S1, rt := K, ex := fun y _ S1 => KX y S1 } (startE nm_thing_there ds) S := by
  refine fsp_ok fun ⟨⟨kind, num⟩, a, b⟩ _ K KX hk => ?_
  dsimp only at hk
  unfold thingB inR at hk
  dsimp only at hk
  walk_at "go"
  refine pIf.mk (fun c => ?_) (fun c => ?_)
  · rw [if_pos (of_decide_eq_true c)] at hk
    walk_at "go"
    exact hk _ _ .z
  rw [if_neg (of_decide_eq_false c)] at hk
  walk_at "go"
  refine pIf.mk (fun c => ?_) (fun c => ?_)
  · rw [if_pos (of_decide_eq_true c)] at hk
    walk_at "go"
    refine pIf.mk (fun c => ?_) (fun c => ?_)
    · rw [show decide ((0 : Int) ≤ num) = true from c, Bool.true_and] at hk
      walk_at "go"
      exact hk _ _ .z
    · rw [show decide ((0 : Int) ≤ num) = false from c] at hk
      walk_at "go"
      exact hk _ _ .z
  · rw [if_neg (of_decide_eq_false c)] at hk
    walk_at "go"
    refine pIf.mk (fun c => ?_) (fun c => ?_)
    · rw [show decide (kind = "sort") = true from c, Bool.true_and] at hk
      walk_at "go"
      refine pIf.mk (fun c => ?_) (fun c => ?_)
      · rw [show decide ((0 : Int) ≤ num) = true from c, Bool.true_and] at hk
        walk_at "go"
        exact hk _ _ .z
      · rw [show decide ((0 : Int) ≤ num) = false from c] at hk
        walk_at "go"
        exact hk _ _ .z
    · rw [show decide (kind = "sort") = false from c] at hk
      walk_at "go"
      exact hk _ _ .z
def thereB (n : XNet) : Bool := n.scopes.all (fun s => s.1.all (stepB n.scopes.length n.quests.length) && s.2.all (tellB n.things.length n.quests.length)) && (n.things.all (thingB n.scopes.length n.quests.length) && n.quests.all (questB n.scopes.length))
def F_all_there : Fsp := fsp (fun n : XNet => [lSc n, lTh n, lQu n]) (fun _ => True) fun n => .bool (thereB n)
theorem pu_all_there : ∀ ds S K KX, lent F_all_there ds S K KX → ws_all_there (frz F_step_there) (frz F_telling_there) (frz F_thing_there) { nx := fun _ S1 => K (.z .none) S1, rt := K, ex := fun y _ S1 => KX y S1 } (startE nm_all_there ds) S := by
  refine fsp_ok fun n _ K KX hk => ?_
  unfold thereB at hk
  walk_at "go"
  refine pFor_allB n.scopes (fun s => bz (eSc s)) (fun s => s.1.all (stepB n.scopes.length n.quests.length) && s.2.all (tellB n.things.length n.quests.length)) (fun env => ∃ v4 v5 v6 v7, env = [some (.b (lSc n)), some (.b (lTh n)), some (.b (lQu n)), none, v4, v5, v6, v7, none, none, none]) (bz_scs n) trivial ⟨_, _, _, _, rfl⟩ ?_ ?_ ?_
  · rintro s _ Q hs ⟨v4, v5, v6, v7, rfl⟩ h1 h2
    walk_at "go"
    refine pFor_allB s.1 zS (stepB n.scopes.length n.quests.length) (fun env => ∃ v6, env = [some (.b (lSc n)), some (.b (lTh n)), some (.b (lQu n)), none, some (bz (.list (s.1.map eS))), some (bz (.list (s.2.map eL))), v6, v7, none, none, none]) (bzsS _) trivial ⟨_, rfl⟩ ?_ ?_ ?_
    · rintro x _ Q2 hx ⟨v6, rfl⟩ g1 g2
      walk_at "go"
      refine fsp_call (x, n.scopes.map eSc, n.quests.map eQ) (.cons .z (.cons .b (.cons .b .nil))) trivial ?_
      dsimp only
      rw [List.length_map, List.length_map]
      walk_at "go"
      cases hb : stepB n.scopes.length n.quests.length x with
      | true => walk_at "go"; exact g1 hb _ ⟨_, rfl⟩
      | false => walk_at "go"; exact g2 hb
    · rintro ha _ ⟨v6, rfl⟩
      rw [ha, Bool.true_and] at h1 h2
      walk_at "go"
      refine pFor_allB s.2 zL (tellB n.things.length n.quests.length) (fun env => ∃ v7, env = [some (.b (lSc n)), some (.b (lTh n)), some (.b (lQu n)), none, some (bz (.list (s.1.map eS))), some (bz (.list (s.2.map eL))), v6, v7, none, none, none]) (bzsL _) trivial ⟨_, rfl⟩ ?_ ?_ ?_
      · rintro x _ Q2 hx ⟨v7, rfl⟩ g1 g2
        walk_at "go"
        refine fsp_call (x, n.things.map eT, n.quests.map eQ) (.cons .z (.cons .b (.cons .b .nil))) trivial ?_
        dsimp only
        rw [List.length_map, List.length_map]
        walk_at "go"
        cases hb : tellB n.things.length n.quests.length x with
        | true => walk_at "go"; exact g1 hb _ ⟨_, rfl⟩
        | false => walk_at "go"; exact g2 hb
      · rintro ha _ ⟨v7, rfl⟩
        exact h1 ha _ ⟨_, _, _, _, rfl⟩
      · exact h2
    · intro hf
      refine h2 ?_
      rw [hf]; rfl
  · rintro ha _ ⟨v4, v5, v6, v7, rfl⟩
    rw [ha, Bool.true_and] at hk
    walk_at "go"
    refine pFor_allB n.things zT (thingB n.scopes.length n.quests.length) (fun env => ∃ v3, env = [some (.b (lSc n)), some (.b (lTh n)), some (.b (lQu n)), v3, v4, v5, v6, v7, none, none, none]) (bzsT _) trivial ⟨_, rfl⟩ ?_ ?_ ?_
    · rintro x _ Q2 hx ⟨v3, rfl⟩ g1 g2
      walk_at "go"
      refine fsp_call (x, n.scopes.map eSc, n.quests.map eQ) (.cons .z (.cons .b (.cons .b .nil))) trivial ?_
      dsimp only
      rw [List.length_map, List.length_map]
      walk_at "go"
      cases hb : thingB n.scopes.length n.quests.length x with
      | true => walk_at "go"; exact g1 hb _ ⟨_, rfl⟩
      | false => walk_at "go"; exact g2 hb
    · rintro ha _ ⟨v3, rfl⟩
      rw [ha, Bool.true_and] at hk
      walk_at "go"
      refine pFor_allB n.quests zQ (questB n.scopes.length) (fun env => ∃ v8 v9 v10, env = [some (.b (lSc n)), some (.b (lTh n)), some (.b (lQu n)), v3, v4, v5, v6, v7, v8, v9, v10]) (bzsQ _) trivial ⟨_, _, _, rfl⟩ ?_ ?_ ?_
      · rintro q _ Q2 hq ⟨v8, v9, v10, rfl⟩ g1 g2
        unfold questB inR at g1 g2
        walk_at "go"
        refine pIf.mk (fun c => ?_) (fun c => ?_)
        · have c := of_decide_eq_true c
          rw [show decide (0 ≤ q.scope) = false from decide_eq_false (by omega)] at g2
          walk_at "go"
          exact g2 rfl
        have c := of_decide_eq_false c
        rw [show decide (0 ≤ q.scope) = true from decide_eq_true (by omega), Bool.true_and] at g1 g2
        walk_at "go"
        rw [List.length_map]
        refine pIf.mk (fun c => ?_) (fun c => ?_)
        · have c := of_decide_eq_true c
          rw [show decide (q.scope < n.scopes.length) = false from decide_eq_false (by omega)] at g2
          walk_at "go"
          exact g2 rfl
        have c := of_decide_eq_false c
        rw [show decide (q.scope < n.scopes.length) = true from decide_eq_true (by omega), Bool.true_and] at g1 g2
        walk_at "go"
        refine pIf.mk (fun c => ?_) (fun c => ?_)
        · have c := of_decide_eq_true c
          walk_at "go"
          exact g2 (decide_eq_false (by omega))
        · have c := of_decide_eq_false c
          walk_at "go"
          exact g1 (decide_eq_true (by omega)) _ ⟨_, _, _, rfl⟩
      · rintro ha _ ⟨v8, v9, v10, rfl⟩
        rw [ha] at hk
        walk_at "go"
        exact hk _ _ .z
      · intro hf
        rw [hf] at hk
        exact hk _ _ .z
    · intro hf
      rw [hf] at hk
      exact hk _ _ .z
  · intro hf
    rw [hf] at hk
    exact hk _ _ .z
end K17

set_option Elab.async false
set_option linter.all false
set_option maxRecDepth 100000
set_option maxHeartbeats 1000000
namespace K17
open PySem L2 PL NE
open ND (cutL_map cutL_len cutL_mem bz_ints LwN isNm alpha alpha_eq alpha_at getA ixD_zA ixD_bA app_list one_len getI getI_at getI_mem)
local macro_rules | `(tactic| walk_at "st1") => `(tactic| first | assumption | exact sto_last | exact sto_r0 | exact sto_r1 | exact sto_r2 | exact sto_r3 | exact sto_r4)
local macro_rules | `(tactic| walk_at "sto") => `(tactic| first | walk_at "st1" | exact sto_app (by walk_at "st1") | exact sto_app (sto_app (by walk_at "st1")))
local macro_rules | `(tactic| walk_at "sz") => `(tactic| ((try simp only [List.length_map, List.length_range, List.length_append, List.length_cons, List.length_nil]); omega))
local macro_rules | `(tactic| walk_at "go") => `(tactic| ((try (conv => whnf)); repeat ((first | (show pIf _ _ _; first | refine pIf.tt rfl ?_ | refine pIf.ff rfl ?_) | (show pReq _ _; first | refine pReq.mk rfl ?_ | refine pReq.mk (sz_le rfl) ?_ | refine pReq.mk (sz_lt rfl) ?_ | refine pReq.mk (by decide) ?_ | refine pReq.mk (Or.inr (by decide)) ?_ | refine pReq.mk (Or.inl (by decide)) ?_ | refine pReq.mk (by assumption) ?_ | refine pReq.mk (isTy_l (by walk_at "sto")) ?_ | refine pReq.mk (by omega) ?_ | refine pReq.mk (sz_lt6 (by walk_at "sz")) ?_ | refine pReq.mk (sz_le6 (by walk_at "sz")) ?_ | refine pReq.mk (by walk_at "sz") ?_) | (show pGet _ _; first | refine pGet.mk rfl ?_ | refine pGet.mk (by walk_at "sto") ?_ | refine pGet.mk (lenD_at (by walk_at "sto")) ?_ | refine pGet.mk (sqD_at (by walk_at "sto")) ?_ | refine pGet.mk (lsD_at (by walk_at "sto")) ?_ | refine pGet.mk (lsR_at (by walk_at "sto")) ?_ | refine pGet.mk (srcD_at (by walk_at "sto")) ?_ | refine pGet.mk (tyD_l (by walk_at "sto")) ?_)); (try (conv => whnf)))))
/-! drawn nets -/
theorem isNm_B {x : Str} (h : isNm x) : isNameB x = true := by
  obtain ⟨n, h1, h8, hl, hc⟩ := h
  have e : x.length = n := by rw [← hl]; show x.cps.size = _; simp
  unfold isNameB
  rw [e, decide_eq_true h1, decide_eq_true h8, Bool.true_and, Bool.true_and, List.all_eq_true]
  intro c hm
  have := hc c hm
  have key : ∀ c : Fin 123, 97 ≤ c.val → c.val ∈ alpha := by decide
  exact decide_eq_true (key ⟨c, this.2⟩ this.1)
theorem nm_len {x : Str} (h : isNm x) : x.length ≤ 8 := by
  obtain ⟨n, h1, h8, hl, hc⟩ := h
  have e : x.length = n := by rw [← hl]; show x.cps.size = _; simp
  omega
theorem isNm.ok {x : Str} (h : isNm x) : PyData.strOk x = true := ND.isNm.ok h
def NumOk (m : Int) : Prop := 0 ≤ m ∧ m < 2147483648
theorem num0 (c : Int) : NumOk (c.fmod 2147483629 + 1) := by
  have := fmod_b (a := c) (b := 2147483629) (by decide)
  exact ⟨by omega, by omega⟩
theorem num1 (x : Int) : NumOk (x.fmod 2147483647) := by
  have := fmod_b (a := x) (b := 2147483647) (by decide)
  exact ⟨by omega, by omega⟩
theorem NumOk.mul {m : Int} (h : NumOk m) : CMul m m := .inl (by unfold NumOk at h; omega)
def F_words : Fsp := fsq (fun a : Int × Nat => [.int a.1, .int a.2]) (fun a => 0 ≤ a.1 ∧ a.2 ≤ 100 ∧ 2 ≤ a.2) (fun a (ws : List Str) => ws.length = a.2 ∧ ∀ x ∈ ws, isNm x) fun ws => .list (ws.map .str)
theorem pu_words : ∀ ds S K KX, lent F_words ds S K KX → ws__law_words { nx := fun _ S1 => K (.z .none) S1, rt := K, ex := fun y _ S1 => KX y S1 } (startE nm__law_words ds) S := by
  refine fsq_ok fun ⟨c, n⟩ ⟨h0, hn, hn2⟩ K KX hk => ?_
  dsimp only at h0 hn hn2 hk
  have hb := fmod_b (a := c) (b := 7) (by decide)
  obtain ⟨sz, hsz⟩ : ∃ sz : Nat, 1 + c.fmod 7 = (sz : Int) := ⟨(1 + c.fmod 7).toNat, by omega⟩
  have h1 : 1 ≤ sz ∧ sz ≤ 7 := by omega
  walk_at "go"
  rw [hsz]
  walk_at "go"
  refine pFor_range (fun i env S => ∃ v6 v7 v8 v9 ws gs, env = [some (.z (.int c)), some (.z (.int n)), some (.z (.str (Str.ofString "abcdefghijklmnopqrstuvwxyz"))), some (.z (.int sz)), some (.z (.int ((c.fdiv 7).fmod sz))), some (.r 0), v6, v7, v8, v9] ∧ S = .lst (ws.map fun x => .z (.str x)) :: gs ∧ ws.length = i ∧ ∀ x ∈ ws, LwN sz x) ⟨none, none, none, none, [], [], rfl, rfl, rfl, fun _ h => by cases h⟩ ?_ ?_
  · rintro i _ _ Q hi ⟨v6, v7, v8, v9, ws, gs, rfl, rfl, hl, hw⟩ hQ
    walk_at "go"
    have esz : ((sz : Nat) : Int).toNat = sz := by omega
    rw [esz]
    refine pFor_range (fun j env S => ∃ v8 v9 x, env = [some (.z (.int c)), some (.z (.int n)), some (.z (.str (Str.ofString "abcdefghijklmnopqrstuvwxyz"))), some (.z (.int sz)), some (.z (.int ((c.fdiv 7).fmod sz))), some (.r 0), some (.z (.int (0 + (i : Int)))), some (.z (.str x)), v8, v9] ∧ S = .lst (ws.map fun x => .z (.str x)) :: gs ∧ LwN j x) ⟨v8, v9, _, rfl, rfl, ND.LwN.nil⟩ ?_ ?_
    · rintro j _ _ Q2 hj ⟨v8, v9, x, rfl, rfl, hx⟩ hQ2
      have hc : CMul (0 + (j : Int)) (0 + (j : Int)) := .inl (by omega)
      walk_at "go"
      refine pIf.mk (fun _ => ?_) (fun _ => ?_)
      all_goals
        walk_at "go"
        refine pGet.ex (alpha_at (fmod_b (by decide))) fun ch hc2 => ?_
        walk_at "go"
        rw [hx.len, one_len]
        walk_at "go"
        exact hQ2 _ _ ⟨_, _, _, rfl, rfl, hx.snoc hc2.1 hc2.2⟩
    · rintro _ _ ⟨v8, v9, x, rfl, rfl, hx⟩
      walk_at "go"
      refine hQ _ _ ⟨_, _, _, _, ws ++ [x], gs, rfl, set0.trans (lst_eq ?_), by simp [hl], ?_⟩
      · rw [List.map_append]; rfl
      · intro y hy
        rcases List.mem_append.mp hy with h | h
        · exact hw y h
        · simp at h; subst h; exact hx
  · rintro _ _ ⟨v6, v7, v8, v9, ws, gs, rfl, rfl, hl, hw⟩
    have hl2 : ws.length = n := by rw [hl]; simp
    have hnm : ∀ x ∈ ws, isNm x := fun x hx => ⟨sz, h1.1, by omega, hw x hx⟩
    walk_at "go"
    refine pIf.mk (fun _ => ?_) (fun _ => ?_)
    · match ws, hl2, hw, hnm with
      | w0 :: w1 :: wr, hl2, hw, hnm =>
        have hw0 := hw w0 (by simp)
        walk_at "go"
        refine pGet.ex (alpha_at (fmod_b (by decide))) fun ch hc2 => ?_
        walk_at "go"
        rw [hw0.len, one_len]
        walk_at "go"
        refine pGet.mk (ixN_nat (i := 1) (by simp)) ?_
        walk_at "go"
        refine hk _ _ (w0 :: (w0 ++ ⟨⟨[ch]⟩⟩) :: wr) (.r (by rfl) (.cons .z (.cons .z (Vzs.map _ wr)))) ⟨hl2, fun x hx => ?_⟩
        rcases List.mem_cons.mp hx with rfl | hx
        · exact hnm _ (by simp)
        · rcases List.mem_cons.mp hx with rfl | hx
          · exact ⟨sz + 1, by omega, by omega, hw0.snoc hc2.1 hc2.2⟩
          · exact hnm x (by simp [hx])
      | [_], hl2, _, _ => simp at hl2; omega
      | [], hl2, _, _ => simp at hl2; omega
    · walk_at "go"
      exact hk _ _ ws (.r rfl (Vzs.map _ _)) ⟨hl2, hnm⟩
theorem eqv_nil {α : Type} (f : α → PyData) (xs : List α) : PyData.eqv (.list (xs.map f)) (.list []) = decide (xs = []) := by cases xs <;> rfl
/-! copies; is it a net; the net that is made -/
def F_copy : Fsr := fsr (fun n : XNet => [eN n]) (fun n => n.scopes.length ≤ 1000) fun n => rN n
theorem pu_copy : ∀ ds S K KX, lentR F_copy ds S K KX → ws__law_copy { nx := fun _ S1 => K (.z .none) S1, rt := K, ex := fun y _ S1 => KX y S1 } (startE nm__law_copy ds) S := by
  refine fsr_ok fun n hn K KX hk => ?_
  walk_at "go"
  refine pLc_copy (ss := n.scopes) (by omega) (by rw [bz_scs, List.length_map]) (fun _ _ => trivial) (fun i d s h1 h2 => ?_) (fun _ _ => rfl) (fun _ _ => rfl) ?_
  · have h1 : ((n.scopes.map eSc).map bz)[i]? = some d := h1
    rw [List.getElem?_map, List.getElem?_map, h2] at h1
    cases h1
    exact seen_b s
  walk_at "go"
  rw [bzsT, bzsQ]
  exact copied n hk
def F_is_net : Fsp := fsp (fun n : XNet => [eN n, eN n]) (fun n => strOks n ∧ n.things.length ≤ 1000 ∧ n.quests.length ≤ 1000) fun _ => .bool true
theorem pu_is_net : ∀ ds S K KX, lent F_is_net ds S K KX → ws__law_is_net { nx := fun _ S1 => K (.z .none) S1, rt := K, ex := fun y _ S1 => KX y S1 } (startE nm__law_is_net ds) S := by
  refine fsp_ok fun n ⟨hn, ht, hq⟩ K KX hk => ?_
  walk_at "go"
  refine pFor_allB [lSc n, lTh n, lQu n] bz (fun _ => true) (fun env => ∃ v2, env = [some (.b (eN n)), some (.b (eN n)), v2, none, none]) rfl trivial ⟨_, rfl⟩ ?_ ?_ ?_
  · rintro x _ Q hx ⟨v2, rfl⟩ h1 h2
    have hb : ∃ ds, bz x = .b (.list ds) := by
      simp only [List.mem_cons, List.not_mem_nil, or_false] at hx
      rcases hx with rfl | rfl | rfl <;> exact ⟨_, bz_list⟩
    obtain ⟨ds, hb⟩ := hb
    rw [hb]
    walk_at "go"
    exact h1 rfl _ ⟨_, rfl⟩
  · rintro _ _ ⟨v2, rfl⟩
    walk_at "go"
    refine pFor_allB n.scopes (fun s => bz (eSc s)) (fun _ => true) (fun env => ∃ v3, env = [some (.b (eN n)), some (.b (eN n)), v2, v3, none]) (bz_scs n) trivial ⟨_, rfl⟩ ?_ ?_ ?_
    · rintro s _ Q hx ⟨v3, rfl⟩ h1 h2
      walk_at "go"
      exact h1 rfl _ ⟨_, rfl⟩
    · rintro _ _ ⟨v3, rfl⟩
      walk_at "go"
      refine pFor_allB (n.things.map eT ++ n.quests.map eQ) bz (fun _ => true) (fun env => ∃ v4, env = [some (.b (eN n)), some (.b (eN n)), v2, v3, v4]) List.map_append.symm (by rfl) ⟨_, rfl⟩ ?_ ?_ ?_
      · rintro x _ Q hx ⟨v4, rfl⟩ h1 h2
        have hb : ∃ ds, bz x = .z (.tuple ds) := by
          rcases List.mem_append.mp hx with h | h
          · obtain ⟨t, _, rfl⟩ := List.mem_map.mp h
            exact ⟨_, rfl⟩
          · obtain ⟨t, _, rfl⟩ := List.mem_map.mp h
            exact ⟨_, bzQ t⟩
        obtain ⟨ds, hb⟩ := hb
        rw [hb]
        walk_at "go"
        exact h1 rfl _ ⟨_, rfl⟩
      · rintro _ _ ⟨v4, rfl⟩
        walk_at "go"
        refine eq_same .b .b (shN hn) (by decide) ?_
        walk_at "go"
        exact hk _ _ .z
      · intro h; simp at h
    · intro h; simp at h
  · intro h; cases h
end K17

set_option Elab.async false
set_option linter.all false
set_option maxRecDepth 100000
set_option maxHeartbeats 1000000
namespace K17
open PySem L2 PL NE
open ND (cutL_map cutL_len cutL_mem bz_ints LwN isNm alpha alpha_eq alpha_at getA ixD_zA ixD_bA app_list one_len getI getI_at getI_mem)
local macro_rules | `(tactic| walk_at "st1") => `(tactic| first | assumption | exact sto_last | exact sto_r0 | exact sto_r1 | exact sto_r2 | exact sto_r3 | exact sto_r4)
local macro_rules | `(tactic| walk_at "sto") => `(tactic| first | walk_at "st1" | exact sto_app (by walk_at "st1") | exact sto_app (sto_app (by walk_at "st1")))
local macro_rules | `(tactic| walk_at "sz") => `(tactic| ((try simp only [List.length_map, List.length_range, List.length_append, List.length_cons, List.length_nil]); omega))
local macro_rules | `(tactic| walk_at "go") => `(tactic| ((try (conv => whnf)); repeat ((first | (show pIf _ _ _; first | refine pIf.tt rfl ?_ | refine pIf.ff rfl ?_) | (show pReq _ _; first | refine pReq.mk rfl ?_ | refine pReq.mk (sz_le rfl) ?_ | refine pReq.mk (sz_lt rfl) ?_ | refine pReq.mk (by decide) ?_ | refine pReq.mk (Or.inr (by decide)) ?_ | refine pReq.mk (Or.inl (by decide)) ?_ | refine pReq.mk (by assumption) ?_ | refine pReq.mk (isTy_l (by walk_at "sto")) ?_ | refine pReq.mk (by omega) ?_ | refine pReq.mk (sz_lt6 (by walk_at "sz")) ?_ | refine pReq.mk (sz_le6 (by walk_at "sz")) ?_ | refine pReq.mk (by walk_at "sz") ?_) | (show pGet _ _; first | refine pGet.mk rfl ?_ | refine pGet.mk (by walk_at "sto") ?_ | refine pGet.mk (lenD_at (by walk_at "sto")) ?_ | refine pGet.mk (sqD_at (by walk_at "sto")) ?_ | refine pGet.mk (lsD_at (by walk_at "sto")) ?_ | refine pGet.mk (lsR_at (by walk_at "sto")) ?_ | refine pGet.mk (srcD_at (by walk_at "sto")) ?_ | refine pGet.mk (tyD_l (by walk_at "sto")) ?_)); (try (conv => whnf)))))
def cellAt (ns : List Int) (k : Int) : Int := ns.getD k.toNat 0
def F_cell : Fsp := fsp (fun a : List Int × Int => [.list (a.1.map .int), .int a.2]) (fun a => 0 ≤ a.2) fun a => .int (cellAt a.1 a.2)
theorem pu_cell : ∀ ds S K KX, lent F_cell ds S K KX → ws__law_cell_at { nx := fun _ S1 => K (.z .none) S1, rt := K, ex := fun y _ S1 => KX y S1 } (startE nm__law_cell_at ds) S := by
  refine fsp_ok fun a h0 K KX hk => ?_
  walk_at "go"
  rw [List.length_map]
  refine pIf.mk (fun c => ?_) (fun c => ?_)
  · have h1 : a.2 < a.1.length := of_decide_eq_true c
    walk_at "go"
    refine pGet.mk (ixD_bL (atD_in h0 h1)) ?_
    walk_at "go"
    refine hk _ _ ?_
    have e : cellAt a.1 a.2 = a.1[a.2.toNat]'(by omega) := by
      unfold cellAt
      rw [List.getD_eq_getElem?_getD, List.getElem?_eq_getElem (by omega)]; rfl
    rw [e]; exact .z
  · have h1 : ¬ a.2 < a.1.length := of_decide_eq_false c
    walk_at "go"
    refine hk _ _ ?_
    have e : cellAt a.1 a.2 = 0 := by
      unfold cellAt
      rw [List.getD_eq_getElem?_getD, List.getElem?_eq_none (by omega)]; rfl
    rw [e]; exact .z
/-! the net that is made, or refused -/
def judge (n : XNet) : Option Str := if smallB n = true then (if namedB n = true then (if thereB n = true then none else some "NoPlace") else some "NoName") else some "TooGreat"
def netOut (ec : EcK) (n : XNet) : Except Value RT := match judge n with
  | none => .ok (rN n)
  | some y => .error (.ref (ec.cl y))
def F_net_of (ec : EcK) : Fsr := fsrX (fun n : XNet => [lSc n, lTh n, lQu n]) WordsOk (netOut ec)
theorem pu_net_of {ec : EcK} : ∀ ds S K KX, lentR (F_net_of ec) ds S K KX → ws_net_of ec (frz F_small_enough) (frz F_all_named) (frz F_all_there) { nx := fun _ S1 => K (.z .none) S1, rt := K, ex := fun y _ S1 => KX y S1 } (startE nm_net_of ds) S := by
  refine fsrX_ok fun n hw K KX hk hx => ?_
  unfold netOut judge at hk hx
  walk_at "go"
  refine fsp_call n (.cons .b (.cons Vw.bz (.cons Vw.bz .nil))) trivial ?_
  cases h1 : smallB n with
  | false => rw [h1] at hx; walk_at "go"; exact hx _ rfl _
  | true =>
    rw [h1] at hk hx
    walk_at "go"
    refine fsp_call n (.cons .b (.cons Vw.bz .nil)) hw ?_
    cases h2 : namedB n with
    | false => rw [h2] at hx; walk_at "go"; exact hx _ rfl _
    | true =>
      rw [h2] at hk hx
      walk_at "go"
      refine fsp_call n (.cons .b (.cons Vw.bz (.cons Vw.bz .nil))) trivial ?_
      cases h3 : thereB n with
      | false => rw [h3] at hx; walk_at "go"; exact hx _ rfl _
      | true =>
        rw [h3] at hk
        walk_at "go"
        refine pLc_copy (ss := n.scopes) ?_ (by rw [bz_scs, List.length_map]) (fun _ _ => trivial) (fun i d s h1 h2 => ?_) (fun _ _ => rfl) (fun _ _ => rfl) ?_
        · unfold smallB at h1
          have := (Bool.and_eq_true_iff.mp h1).1
          have := of_decide_eq_true this
          omega
        · have h1 : ((n.scopes.map eSc).map bz)[i]? = some d := h1
          rw [List.getElem?_map, List.getElem?_map, h2] at h1
          cases h1
          exact seen_b s
        walk_at "go"
        rw [bzsT, bzsQ]
        exact copied n (hk _ rfl)
theorem netX_call {ec : EcK} {ds : List D} {S : Sto} {K : K1} {KX : KF} (n : XNet) (v : Vws S ds [lSc n, lTh n, lQu n]) (hp : WordsOk n) (hj : judge n = none)
    (h : ∀ (S1 : Sto) (x b c : Nat) (ps : List (Nat × Nat)), NetAt S1 x b c ps n → Keep [] S S1 → (∀ m ∈ nPl x b c ps, S.length ≤ m) → K (.t [.r x, .r b, .r c]) S1) : pCall (frr (F_net_of ec)) ds S K KX := by
  refine fsrX_call n v hp (fun r e => ?_) (fun v e => ?_)
  · unfold netOut at e
    rw [hj] at e
    cases e
    exact net_call h
  · unfold netOut at e
    rw [hj] at e
    cases e
def rsd : List Str := ["TooGreat", "NoName", "NoPlace"]
def hnd : List Str := ["PathError"]
def chk : List Str := ["ValueError", "TooGreat", "NoName", "NoPlace", "Twice", "Tangled", "NoText", "NoRow", "Ring", "Caught"]
theorem judge_mem {n : XNet} {y : Str} (h : judge n = some y) : y ∈ rsd := by
  unfold judge at h
  split at h
  · split at h
    · split at h
      · cases h
      · cases h; decide +kernel
    · cases h; decide +kernel
  · cases h; decide +kernel
def kindsD (j : Option Str) : PyData := match j with
  | none => .none
  | some y => .list (chk.map fun c => .bool (tabE y c))
def F_kinds_of : Fsp := fsp (fun n : XNet => [lSc n, lTh n, lQu n]) WordsOk fun n => kindsD (judge n)
theorem pu_kinds_of {ec : EcK} (hp : EcP ec rsd hnd chk) : ∀ ds S K KX, lent F_kinds_of ds S K KX → ws__law_kinds_of ec (frr (F_net_of ec)) { nx := fun _ S1 => K (.z .none) S1, rt := K, ex := fun y _ S1 => KX y S1 } (startE nm__law_kinds_of ds) S := by
  refine fsp_ok fun n hw K KX hk => ?_
  walk_at "go"
  refine fsrX_call n (.cons .b (.cons Vw.bz (.cons Vw.bz .nil))) hw (fun r e => ?_) (fun v e => ?_)
  · unfold netOut at e
    cases hj : judge n with
    | none =>
      rw [hj] at hk
      walk_at "go"
      exact hk _ _ .z
    | some y => rw [hj] at e; cases e
  · unfold netOut at e
    cases hj : judge n with
    | none => rw [hj] at e; cases e
    | some y =>
      rw [hj] at e hk
      cases e
      have hy := judge_mem hj
      have hmt := hp.mt y hy "PathError" (by decide +kernel)
      have hkn := hp.kn y hy
      have hkd := hp.kd y hy
      refine pReq.mk ⟨hkn, rfl⟩ ?_
      have hpe : tabE y "PathError" = true := by unfold tabE; simp
      refine pIf.tt (hmt.trans hpe) fun a => ?_
      walk_at "go"
      refine hk _ _ (.r sto_last ?_)
      have e : ∀ c ∈ chk, D.z (.bool (ec.kd (.ref (ec.cl y)) c)) = D.z (.bool (tabE y c)) := fun c hc => by rw [hkd c hc]
      have e2 : [D.z (.bool (ec.kd (.ref (ec.cl y)) "ValueError")), D.z (.bool (ec.kd (.ref (ec.cl y)) "TooGreat")), D.z (.bool (ec.kd (.ref (ec.cl y)) "NoName")), D.z (.bool (ec.kd (.ref (ec.cl y)) "NoPlace"))] ++ [D.z (.bool (ec.kd (.ref (ec.cl y)) "Twice")), D.z (.bool (ec.kd (.ref (ec.cl y)) "Tangled")), D.z (.bool (ec.kd (.ref (ec.cl y)) "NoText")), D.z (.bool (ec.kd (.ref (ec.cl y)) "NoRow"))] ++ [D.z (.bool (ec.kd (.ref (ec.cl y)) "Ring")), D.z (.bool (ec.kd (.ref (ec.cl y)) "Caught"))] = chk.map fun c => .z (.bool (tabE y c)) :=
        (List.map_congr_left e : chk.map (fun c => D.z (.bool (ec.kd (.ref (ec.cl y)) c))) = _)
      show Vzs _ _ (chk.map fun c => PyData.bool (tabE y c))
      have e3 := Vzs.map (S := ([] : Sto)) (fun c => PyData.bool (tabE y c)) chk
      rw [← e2] at e3
      exact Vzs.of_z e3
def F_refused_as : Fsp := fsp (fun a : Str × Nat => [kindsD (some a.1), .int a.2]) (fun a => a = (("TooGreat" : Str), 0) ∨ a = (("NoName" : Str), 1) ∨ a = (("NoPlace" : Str), 2)) fun _ => .bool true
theorem kd_TooGreat : kindsD (some "TooGreat") = .list [.bool true, .bool true, .bool false, .bool false, .bool false, .bool false, .bool false, .bool false, .bool false, .bool false] := by
  have : chk.map (fun c => tabE "TooGreat" c) = [true, true, false, false, false, false, false, false, false, false] := by decide +kernel
  exact congrArg PyData.list ((List.map_map (f := fun c => tabE "TooGreat" c) (g := PyData.bool) (l := chk)).symm.trans (congrArg (List.map PyData.bool) this))
theorem kd_NoName : kindsD (some "NoName") = .list [.bool true, .bool false, .bool true, .bool false, .bool false, .bool false, .bool false, .bool false, .bool false, .bool false] := by
  have : chk.map (fun c => tabE "NoName" c) = [true, false, true, false, false, false, false, false, false, false] := by decide +kernel
  exact congrArg PyData.list ((List.map_map (f := fun c => tabE "NoName" c) (g := PyData.bool) (l := chk)).symm.trans (congrArg (List.map PyData.bool) this))
theorem kd_NoPlace : kindsD (some "NoPlace") = .list [.bool true, .bool false, .bool false, .bool true, .bool false, .bool false, .bool false, .bool false, .bool false, .bool false] := by
  have : chk.map (fun c => tabE "NoPlace" c) = [true, false, false, true, false, false, false, false, false, false] := by decide +kernel
  exact congrArg PyData.list ((List.map_map (f := fun c => tabE "NoPlace" c) (g := PyData.bool) (l := chk)).symm.trans (congrArg (List.map PyData.bool) this))
theorem pu_refused_as : ∀ ds S K KX, lent F_refused_as ds S K KX → ws__law_refused_as { nx := fun _ S1 => K (.z .none) S1, rt := K, ex := fun y _ S1 => KX y S1 } (startE nm__law_refused_as ds) S := by
  refine fsp_ok fun ⟨y, k⟩ ha K KX hk => ?_
  have ha : (y = "TooGreat" ∧ k = 0) ∨ (y = "NoName" ∧ k = 1) ∨ (y = "NoPlace" ∧ k = 2) := by
    rcases ha with h | h | h <;> (have h1 := congrArg Prod.fst h; have h2 := congrArg Prod.snd h)
    · exact .inl ⟨h1, h2⟩
    · exact .inr (.inl ⟨h1, h2⟩)
    · exact .inr (.inr ⟨h1, h2⟩)
  have shB : ∀ bs : List Bool, Shp 1 (.list (bs.map .bool)) := fun bs => .lists fun b _ => .bool
  dsimp only [List.map_cons, List.map_nil]
  rcases ha with ⟨rfl, rfl⟩ | ⟨rfl, rfl⟩ | ⟨rfl, rfl⟩
  · rw [kd_TooGreat]
    walk_at "go"
    refine pLc_rg (fun j => .z (.bool (decide ((0 : Int) + (j : Int) = 0)))) (by decide) (fun j _ => ⟨_, rfl, fun S1 K _ h => ?_⟩) ?_
    · walk_at "go"
      exact h
    walk_at "go"
    refine eq_same (d := .list ([true, false, false, false, false, false, false, false, false].map .bool)) (.r rfl (Vws.map _ [true, false, false, false, false, false, false, false, false])) (.r rfl (Vws.map _ [true, false, false, false, false, false, false, false, false])) (shB _) (by decide) ?_
    walk_at "go"
    exact hk _ _ .z
  · rw [kd_NoName]
    walk_at "go"
    refine pLc_rg (fun j => .z (.bool (decide ((0 : Int) + (j : Int) = 1)))) (by decide) (fun j _ => ⟨_, rfl, fun S1 K _ h => ?_⟩) ?_
    · walk_at "go"
      exact h
    walk_at "go"
    refine eq_same (d := .list ([false, true, false, false, false, false, false, false, false].map .bool)) (.r rfl (Vws.map _ [false, true, false, false, false, false, false, false, false])) (.r rfl (Vws.map _ [false, true, false, false, false, false, false, false, false])) (shB _) (by decide) ?_
    walk_at "go"
    exact hk _ _ .z
  · rw [kd_NoPlace]
    walk_at "go"
    refine pLc_rg (fun j => .z (.bool (decide ((0 : Int) + (j : Int) = 2)))) (by decide) (fun j _ => ⟨_, rfl, fun S1 K _ h => ?_⟩) ?_
    · walk_at "go"
      exact h
    walk_at "go"
    refine eq_same (d := .list ([false, false, true, false, false, false, false, false, false].map .bool)) (.r rfl (Vws.map _ [false, false, true, false, false, false, false, false, false])) (.r rfl (Vws.map _ [false, false, true, false, false, false, false, false, false])) (shB _) (by decide) ?_
    walk_at "go"
    exact hk _ _ .z
theorem all_false {α : Type} {p : α → Bool} {xs : List α} {x : α} (h : x ∈ xs) (hp : p x = false) : xs.all p = false := by
  cases e : xs.all p with
  | false => rfl
  | true =>
    have := List.all_eq_true.mp e x h
    rw [hp] at this; cases this
theorem atD_i {α : Type} {xs : List α} {i : Nat} {x : α} (h : xs[i]? = some x) : atD xs (i : Int) = some x := h
theorem zero_nat (i : Nat) : (0 : Int) + (i : Int) = (i : Int) := Int.zero_add _
end K17

set_option Elab.async false
set_option linter.all false
set_option maxRecDepth 100000
set_option maxHeartbeats 1000000
namespace K17
open PySem L2 PL NE
open ND (cutL_map cutL_len cutL_mem bz_ints LwN isNm alpha alpha_eq alpha_at getA ixD_zA ixD_bA app_list one_len getI getI_at getI_mem)
local macro_rules | `(tactic| walk_at "st1") => `(tactic| first | assumption | exact sto_last | exact sto_r0 | exact sto_r1 | exact sto_r2 | exact sto_r3 | exact sto_r4)
local macro_rules | `(tactic| walk_at "sto") => `(tactic| first | walk_at "st1" | exact sto_app (by walk_at "st1") | exact sto_app (sto_app (by walk_at "st1")))
local macro_rules | `(tactic| walk_at "sz") => `(tactic| ((try simp only [List.length_map, List.length_range, List.length_append, List.length_cons, List.length_nil]); omega))
local macro_rules | `(tactic| walk_at "go") => `(tactic| ((try (conv => whnf)); repeat ((first | (show pIf _ _ _; first | refine pIf.tt rfl ?_ | refine pIf.ff rfl ?_) | (show pReq _ _; first | refine pReq.mk rfl ?_ | refine pReq.mk (sz_le rfl) ?_ | refine pReq.mk (sz_lt rfl) ?_ | refine pReq.mk (by decide) ?_ | refine pReq.mk (Or.inr (by decide)) ?_ | refine pReq.mk (Or.inl (by decide)) ?_ | refine pReq.mk (by assumption) ?_ | refine pReq.mk (isTy_l (by walk_at "sto")) ?_ | refine pReq.mk (by omega) ?_ | refine pReq.mk (sz_lt6 (by walk_at "sz")) ?_ | refine pReq.mk (sz_le6 (by walk_at "sz")) ?_ | refine pReq.mk (by walk_at "sz") ?_) | (show pGet _ _; first | refine pGet.mk rfl ?_ | refine pGet.mk (by walk_at "sto") ?_ | refine pGet.mk (lenD_at (by walk_at "sto")) ?_ | refine pGet.mk (sqD_at (by walk_at "sto")) ?_ | refine pGet.mk (lsD_at (by walk_at "sto")) ?_ | refine pGet.mk (lsR_at (by walk_at "sto")) ?_ | refine pGet.mk (srcD_at (by walk_at "sto")) ?_ | refine pGet.mk (tyD_l (by walk_at "sto")) ?_)); (try (conv => whnf)))))
def F_number : Fsp := fsq (fun a : Int × Nat × Int => [.int a.1, .int a.2.1, .int a.2.2]) (fun _ => True) (fun _ _ => True) fun x : Int => .int x
theorem pu_number : ∀ ds S K KX, lent F_number ds S K KX → ws__law_number { nx := fun _ S1 => K (.z .none) S1, rt := K, ex := fun y _ S1 => KX y S1 } (startE nm__law_number ds) S := by
  refine fsq_ok fun ⟨c, m, b⟩ _ K KX hk => ?_
  walk_at "go"
  refine pIf.mk (fun _ => ?_) (fun _ => ?_)
  · walk_at "go"
    exact hk _ _ _ .z trivial
  walk_at "go"
  refine pIf.mk (fun _ => ?_) (fun _ => ?_)
  · walk_at "go"
    exact hk _ _ _ .z trivial
  walk_at "go"
  refine pIf.mk (fun _ => ?_) (fun hc => ?_)
  · walk_at "go"
    exact hk _ _ _ .z trivial
  · have hc : ¬ (m : Int) = 0 := of_decide_eq_false hc
    walk_at "go"
    exact hk _ _ _ .z trivial
/-- a text of a net: short -/
def Sh (x : Str) : Prop := PyData.strOk x = true ∧ x.length ≤ 100
theorem isNm.sh {x : Str} (h : isNm x) : Sh x := ⟨h.ok, by have := nm_len h; omega⟩
theorem strOk_iff {x : Str} : PyData.strOk x = true ↔ ∀ c ∈ x.cps.toList, c < 0x110000 := by
  unfold PyData.strOk
  rw [Array.all_eq_true']
  simp
theorem strOk_app {x y : Str} (h : PyData.strOk x = true) (k : PyData.strOk y = true) : PyData.strOk (x ++ y) = true := by
  rw [strOk_iff] at *
  intro c hc
  rw [app_list, List.mem_append] at hc
  exact hc.elim (h c) (k c)
theorem app_length (x y : Str) : (x ++ y).length = x.length + y.length := by
  show (x.cps ++ y.cps).size = _
  simp; rfl
theorem cutS_list (s : Str) (lo hi : Option Int) : (cutS s lo hi).cps.toList = cutL s.cps.toList lo hi := by
  have e : s.length = s.cps.toList.length := by show s.cps.size = _; simp
  unfold cutS cutL
  rw [← e]
theorem strOk_cut {s : Str} {lo hi : Option Int} (h : PyData.strOk s = true) : PyData.strOk (cutS s lo hi) = true := by
  rw [strOk_iff] at *
  exact fun c hc => h c (by rw [cutS_list] at hc; exact cutL_mem hc)
theorem getM {α : Type} {xs : List α} {f : α → D} {i : Int} (h : 0 ≤ i ∧ i < xs.length) : ∃ d, atD (xs.map f) i = some d ∧ ∃ x ∈ xs, d = f x := by
  obtain ⟨j, rfl⟩ : ∃ j : Nat, i = (j : Int) := ⟨i.toNat, by omega⟩
  have hj : j < xs.length := by omega
  exact ⟨f xs[j], atD_i (by rw [List.getElem?_map, List.getElem?_eq_getElem hj]; rfl), _, List.getElem_mem hj, rfl⟩
def F_word : Fsp := fsq (fun a : Int × List Str × Int => [.int a.1, .list (a.2.1.map .str), .int a.2.2]) (fun a => a.2.1.length = 9 ∧ ∀ x ∈ a.2.1, isNm x) (fun _ x => Sh x) fun x => .str x
theorem pu_word : ∀ ds S K KX, lent F_word ds S K KX → ws__law_word { nx := fun _ S1 => K (.z .none) S1, rt := K, ex := fun y _ S1 => KX y S1 } (startE nm__law_word ds) S := by
  refine fsq_ok fun ⟨c, ws, b⟩ ⟨w9, hw⟩ K KX hk => ?_
  dsimp only at w9 hw
  walk_at "go"
  rw [List.length_map, w9]
  walk_at "go"
  refine pGet.ex (ixD_bA (by rw [w9]; exact fmod_b (by decide))) fun d ⟨x, hx, hd⟩ => ?_
  subst hd
  have hn := hw x hx
  have hl := nm_len hn
  have hok := hn.ok
  walk_at "go"
  refine pIf.mk (fun _ => ?_) (fun _ => ?_)
  · have e8 : (Str.ofString "abcdefgh").length = 8 := by decide +kernel
    have e1 : (Str.ofString "Q").length = 1 := by decide +kernel
    have e2 : (Str.ofString " a").length = 2 := by decide +kernel
    have a1 := app_length x x
    have a2 := app_length (x ++ x) (Str.ofString "abcdefgh")
    have l1 := cutS_length x (some 1) none
    have l2 := cutS_length x none (some 3)
    have a3 := app_length (cutS x (some 1) none) (Str.ofString "Q")
    have a4 := app_length (cutS x none (some 3)) (Str.ofString " a")
    walk_at "go"
    refine pGet.ex (getM (xs := [Str.ofString "", (x ++ x) ++ Str.ofString "abcdefgh", cutS x (some 1) none ++ Str.ofString "Q", cutS x none (some 3) ++ Str.ofString " a"]) (f := fun s => D.z (.str s)) (fmod_b (by decide))) fun d ⟨y, hy, hd⟩ => ?_
    subst hd
    walk_at "go"
    refine hk _ _ _ .z ?_
    simp only [List.mem_cons, List.not_mem_nil, or_false] at hy
    rcases hy with rfl | rfl | rfl | rfl
    · exact ⟨by decide +kernel, by decide +kernel⟩
    · exact ⟨strOk_app (strOk_app hok hok) (by decide +kernel), by omega⟩
    · exact ⟨strOk_app (strOk_cut hok) (by decide +kernel), by omega⟩
    · exact ⟨strOk_app (strOk_cut hok) (by decide +kernel), by omega⟩
  · walk_at "go"
    exact hk _ _ _ .z (isNm.sh hn)
def F_kind : Fsp := fsq (fun a : Int × Str × Str × Int => [.int a.1, .str a.2.1, .str a.2.2.1, .int a.2.2.2]) (fun a => Sh a.2.1 ∧ Sh a.2.2.1) (fun _ x => PyData.strOk x = true) fun x => .str x
theorem pu_kind : ∀ ds S K KX, lent F_kind ds S K KX → ws__law_kind { nx := fun _ S1 => K (.z .none) S1, rt := K, ex := fun y _ S1 => KX y S1 } (startE nm__law_kind ds) S := by
  refine fsq_ok fun ⟨c, x, y, b⟩ ⟨hx, hy⟩ K KX hk => ?_
  dsimp only at hx hy
  have l1 := hx.2
  have l2 := hy.2
  walk_at "go"
  refine pIf.mk (fun _ => ?_) (fun _ => ?_)
  · walk_at "go"
    refine pGet.ex (getM (xs := [Str.ofString "", x ++ y, Str.ofString "none", Str.ofString "To"]) (f := fun s => D.z (.str s)) (fmod_b (by decide))) fun d ⟨z, hz, hd⟩ => ?_
    subst hd
    walk_at "go"
    refine hk _ _ _ .z ?_
    simp only [List.mem_cons, List.not_mem_nil, or_false] at hz
    rcases hz with rfl | rfl | rfl | rfl
    · decide +kernel
    · exact strOk_app hx.1 hy.1
    · decide +kernel
    · decide +kernel
  · walk_at "go"
    refine pGet.ex (getM (xs := [x, y]) (f := fun s => D.z (.str s)) (fmod_b (by decide))) fun d ⟨z, hz, hd⟩ => ?_
    subst hd
    walk_at "go"
    refine hk _ _ _ .z ?_
    simp only [List.mem_cons, List.not_mem_nil, or_false] at hz
    rcases hz with rfl | rfl
    · exact hx.1
    · exact hy.1
end K17

set_option Elab.async false
set_option linter.all false
set_option maxRecDepth 100000
set_option maxHeartbeats 1000000
namespace K17
open PySem L2 PL NE
open ND (cutL_map cutL_len cutL_mem bz_ints LwN isNm alpha alpha_eq alpha_at getA ixD_zA ixD_bA app_list one_len getI getI_at getI_mem)
local macro_rules | `(tactic| walk_at "st1") => `(tactic| first | assumption | exact sto_last | exact sto_r0 | exact sto_r1 | exact sto_r2 | exact sto_r3 | exact sto_r4)
local macro_rules | `(tactic| walk_at "sto") => `(tactic| first | walk_at "st1" | exact sto_app (by walk_at "st1") | exact sto_app (sto_app (by walk_at "st1")))
local macro_rules | `(tactic| walk_at "sz") => `(tactic| ((try simp only [List.length_map, List.length_range, List.length_append, List.length_cons, List.length_nil]); omega))
local macro_rules | `(tactic| walk_at "go") => `(tactic| ((try (conv => whnf)); repeat ((first | (show pIf _ _ _; first | refine pIf.tt rfl ?_ | refine pIf.ff rfl ?_) | (show pReq _ _; first | refine pReq.mk rfl ?_ | refine pReq.mk (sz_le rfl) ?_ | refine pReq.mk (sz_lt rfl) ?_ | refine pReq.mk (by decide) ?_ | refine pReq.mk (Or.inr (by decide)) ?_ | refine pReq.mk (Or.inl (by decide)) ?_ | refine pReq.mk (by assumption) ?_ | refine pReq.mk (isTy_l (by walk_at "sto")) ?_ | refine pReq.mk (by omega) ?_ | refine pReq.mk (sz_lt6 (by walk_at "sz")) ?_ | refine pReq.mk (sz_le6 (by walk_at "sz")) ?_ | refine pReq.mk (by walk_at "sz") ?_) | (show pGet _ _; first | refine pGet.mk rfl ?_ | refine pGet.mk (by walk_at "sto") ?_ | refine pGet.mk (lenD_at (by walk_at "sto")) ?_ | refine pGet.mk (sqD_at (by walk_at "sto")) ?_ | refine pGet.mk (lsD_at (by walk_at "sto")) ?_ | refine pGet.mk (lsR_at (by walk_at "sto")) ?_ | refine pGet.mk (srcD_at (by walk_at "sto")) ?_ | refine pGet.mk (tyD_l (by walk_at "sto")) ?_)); (try (conv => whnf)))))
def F_question : Fsp := fsq (fun a : Int × List Str × XNet × Int => [.int a.1, .list (a.2.1.map .str), eN a.2.2.1, .int a.2.2.2]) (fun a => a.2.1.length = 9 ∧ (∀ x ∈ a.2.1, isNm x) ∧ 0 ≤ a.2.2.2 ∧ a.2.2.2 < 12) (fun _ (q : XQuest) => q.path.length ≤ 7 ∧ ∀ x ∈ q.path, Sh x) fun q => eQ q
theorem pu_question : ∀ ds S K KX, lent F_question ds S K KX → ws__law_question (frz F_word) (frz F_number) { nx := fun _ S1 => K (.z .none) S1, rt := K, ex := fun y _ S1 => KX y S1 } (startE nm__law_question ds) S := by
  refine fsq_ok fun ⟨c, ws, n, b⟩ ⟨w9, hw, b0, b12⟩ K KX hk => ?_
  dsimp only at w9 hw b0 b12 hk
  have last : ∀ (m : Nat) (S : Sto), m ≤ 7 → S[0]? = some (.lst []) → _law_question_r3 (frz F_word) (frz F_number) (ends K KX) [some (.z (.int c)), some (.b (.list (ws.map .str))), some (.b (eN n)), some (.z (.int b)), some (.r 0), some (.z (.int m)), none, none] S := by
    intro m S hm hS
    walk_at "go"
    have em : ((m : Nat) : Int).toNat = m := by omega
    rw [em]
    refine pFor_range (fun i env S => ∃ v6 ts, env = [some (.z (.int c)), some (.b (.list (ws.map .str))), some (.b (eN n)), some (.z (.int b)), some (.r 0), some (.z (.int m)), v6, none] ∧ S[0]? = some (.lst (ts.map fun x => .z (.str x))) ∧ ts.length = i ∧ ∀ x ∈ ts, Sh x) ⟨none, [], rfl, hS, rfl, fun _ h => by cases h⟩ ?_ ?_
    · rintro i _ S Q hi ⟨v6, ts, rfl, hS, hl, ht⟩ hQ
      have hlt := (List.getElem?_eq_some_iff.mp hS).1
      have fin : ∀ (t : Bool), pCall (frz F_word) [.z (.int ((c.fdiv 30).fdiv ((0 : Int) + (i : Int) + 1))), .b (.list (ws.map .str)), .z (.int (b * (if t then 1 else 0)))] S (fun d S1 => pGet (lsR S1 0) fun ds => pReq (ds.length < sizeLine) (Q [some (.z (.int c)), some (.b (.list (ws.map .str))), some (.b (eN n)), some (.z (.int b)), some (.r 0), some (.z (.int m)), some (.z (.int (0 + (i : Int)))), none] (S1.set 0 (.lst (ds ++ [d]))))) (fun x S2 => KX x S2) := fun t => by
        refine fsq_call (_, ws, _) (.cons .z (.cons .b (.cons .z .nil))) ⟨w9, hw⟩ fun x hx => ?_
        walk_at "go"
        refine hQ _ _ ⟨_, ts ++ [x], rfl, ?_, by simp [hl], fun z hz => ?_⟩
        · rw [List.getElem?_set_self hlt, List.map_append]; rfl
        · rcases List.mem_append.mp hz with h1 | h1
          · exact ht z h1
          · simp at h1; subst h1; exact hx
      walk_at "go"
      refine pReq.mk ?_ (fin _)
      by_cases ht : (0 + (i : Int)) = c.fmod m
      · rw [if_pos (decide_eq_true ht)]; exact .inl (by omega)
      · rw [decide_eq_false ht]; exact .inl (by simp; omega)
    · rintro _ S ⟨v6, ts, rfl, hS, hl, ht⟩
      walk_at "go"
      have e : mkT (ts.map fun x => D.z (.str x)) = .z (.tuple (ts.map .str)) := mkT_map _ _
      refine pIf.mk (fun _ => ?_) (fun _ => ?_)
      all_goals
        walk_at "go"
        refine fsq_call (_, (n.scopes.map eSc).length, b) (.cons .z (.cons .z (.cons .z .nil))) trivial fun x _ => ?_
        walk_at "go"
        rw [e]
        exact hk _ _ ⟨x, _, ts⟩ .z ⟨by show ts.length ≤ 7; omega, ht⟩
  unfold ws__law_question
  generalize _law_question_r3 (frz F_word) (frz F_number) = r3 at last ⊢
  have hb := fmod_b (a := c.fdiv 5) (b := 6) (by decide)
  obtain ⟨m, hm⟩ : ∃ n : Nat, 1 + (c.fdiv 5).fmod 6 = (n : Int) := ⟨(1 + (c.fdiv 5).fmod 6).toNat, by omega⟩
  walk_at "go"
  rw [hm]
  refine pIf.mk (fun _ => ?_) (fun _ => ?_)
  · walk_at "go"
    refine pGet.ex (getM (xs := [0, 7]) (f := fun s : Nat => D.z (.int s)) (fmod_b (by decide))) fun d ⟨k, hk7, hd⟩ => ?_
    subst hd
    walk_at "go"
    refine last k _ ?_ rfl
    simp only [List.mem_cons, List.not_mem_nil, or_false] at hk7
    omega
  · walk_at "go"
    exact last m _ (by omega) rfl
def F_thing : Fsp := fsq (fun a : Int × XNet × Int => [.int a.1, eN a.2.1, .int a.2.2]) (fun _ => True) (fun _ (x : XThing) => PyData.strOk x.kind = true) fun x => eT x
theorem pu_thing : ∀ ds S K KX, lent F_thing ds S K KX → ws__law_thing (frz F_kind) (frz F_number) { nx := fun _ S1 => K (.z .none) S1, rt := K, ex := fun y _ S1 => KX y S1 } (startE nm__law_thing ds) S := by
  refine fsq_ok fun ⟨c, n, b⟩ _ K KX hk => ?_
  walk_at "go"
  refine pIf.mk (fun _ => ?_) (fun _ => ?_)
  · walk_at "go"
    refine fsq_call (0, "plain", "plain", b) (.cons .z (.cons .z (.cons .z (.cons .z .nil)))) ⟨⟨by show PyData.strOk "plain" = true; decide +kernel, by show (5 : Nat) ≤ 100; decide⟩, ⟨by show PyData.strOk "plain" = true; decide +kernel, by show (5 : Nat) ≤ 100; decide⟩⟩ fun k hk1 => ?_
    have hb := fmod_b (a := c) (b := 2) (by decide)
    walk_at "go"
    refine pReq.mk (.inl (by show -(2 ^ 64) < c.fmod 2 ∧ c.fmod 2 < 2 ^ 64; omega)) ?_
    walk_at "go"
    exact hk _ _ ⟨k, _⟩ .z hk1
  walk_at "go"
  refine pIf.mk (fun _ => ?_) (fun _ => ?_)
  · walk_at "go"
    refine fsq_call (_, (n.scopes.map eSc).length, b) (.cons .z (.cons .z (.cons .z .nil))) trivial fun x _ => ?_
    walk_at "go"
    exact hk _ _ ⟨"part", x⟩ .z (by show PyData.strOk "part" = true; decide +kernel)
  · walk_at "go"
    refine fsq_call (1, "part", "sort", b) (.cons .z (.cons .z (.cons .z (.cons .z .nil)))) ⟨⟨by show PyData.strOk "part" = true; decide +kernel, by show (4 : Nat) ≤ 100; decide⟩, ⟨by show PyData.strOk "sort" = true; decide +kernel, by show (4 : Nat) ≤ 100; decide⟩⟩ fun k hk1 => ?_
    walk_at "go"
    refine fsq_call (_, (n.quests.map eQ).length, b) (.cons .z (.cons .z (.cons .z .nil))) trivial fun x _ => ?_
    walk_at "go"
    exact hk _ _ ⟨k, x⟩ .z hk1
def F_step : Fsp := fsq (fun a : Int × List Str × XNet × Int => [.int a.1, .list (a.2.1.map .str), eN a.2.2.1, .int a.2.2.2]) (fun a => a.2.1.length = 9 ∧ (∀ x ∈ a.2.1, isNm x)) (fun _ (x : XStep) => Sh x.lab ∧ PyData.strOk x.kind = true) fun x => eS x
theorem pu_step : ∀ ds S K KX, lent F_step ds S K KX → ws__law_step (frz F_word) (frz F_kind) (frz F_number) { nx := fun _ S1 => K (.z .none) S1, rt := K, ex := fun y _ S1 => KX y S1 } (startE nm__law_step ds) S := by
  refine fsq_ok fun ⟨c, ws, n, b⟩ ⟨w9, hw⟩ K KX hk => ?_
  dsimp only at w9 hw hk
  walk_at "go"
  refine fsq_call (c, ws, b) (.cons .z (.cons .b (.cons .z .nil))) ⟨w9, hw⟩ fun x hx => ?_
  walk_at "go"
  refine fsq_call (_, "to", "by", b) (.cons .z (.cons .z (.cons .z (.cons .z .nil)))) ⟨⟨by show PyData.strOk "to" = true; decide +kernel, by show (2 : Nat) ≤ 100; decide⟩, ⟨by show PyData.strOk "by" = true; decide +kernel, by show (2 : Nat) ≤ 100; decide⟩⟩ fun k hk1 => ?_
  walk_at "go"
  refine pIf.mk (fun _ => ?_) (fun _ => ?_)
  all_goals
    walk_at "go"
    refine fsq_call (_, (_ : Nat), b) (.cons .z (.cons .z (.cons .z .nil))) trivial fun y _ => ?_
    walk_at "go"
    exact hk _ _ ⟨x, k, y⟩ .z ⟨hx, hk1⟩
def F_telling : Fsp := fsq (fun a : Int × List Str × XNet × Int => [.int a.1, .list (a.2.1.map .str), eN a.2.2.1, .int a.2.2.2]) (fun a => a.2.1.length = 9 ∧ (∀ x ∈ a.2.1, isNm x) ∧ 0 ≤ a.2.2.2 ∧ a.2.2.2 < 12) (fun _ (x : XTell) => Sh x.lab ∧ Sh x.name ∧ PyData.strOk x.kind = true) fun x => eL x
theorem pu_telling : ∀ ds S K KX, lent F_telling ds S K KX → ws__law_telling (frz F_word) (frz F_kind) (frz F_number) { nx := fun _ S1 => K (.z .none) S1, rt := K, ex := fun y _ S1 => KX y S1 } (startE nm__law_telling ds) S := by
  refine fsq_ok fun ⟨c, ws, n, b⟩ ⟨w9, hw, b0, b12⟩ K KX hk => ?_
  dsimp only at w9 hw b0 b12 hk
  have hb := fmod_b (a := c.fdiv 4) (b := 2) (by decide)
  have cm1 : CMul b ((c.fdiv 4).fmod 2) := .inl (by omega)
  have cm2 : CMul b (1 - (c.fdiv 4).fmod 2) := .inl (by omega)
  walk_at "go"
  refine fsq_call (c, ws, _) (.cons .z (.cons .b (.cons .z .nil))) ⟨w9, hw⟩ fun x hx => ?_
  walk_at "go"
  refine fsq_call (_, ws, _) (.cons .z (.cons .b (.cons .z .nil))) ⟨w9, hw⟩ fun x2 hx2 => ?_
  walk_at "go"
  refine fsq_call (_, "thing", "by", b) (.cons .z (.cons .z (.cons .z (.cons .z .nil)))) ⟨⟨by show PyData.strOk "thing" = true; decide +kernel, by show (5 : Nat) ≤ 100; decide⟩, ⟨by show PyData.strOk "by" = true; decide +kernel, by show (2 : Nat) ≤ 100; decide⟩⟩ fun k hk1 => ?_
  walk_at "go"
  refine pIf.mk (fun _ => ?_) (fun _ => ?_)
  all_goals
    walk_at "go"
    refine fsq_call (_, (_ : Nat), b) (.cons .z (.cons .z (.cons .z .nil))) trivial fun y _ => ?_
    walk_at "go"
    exact hk _ _ ⟨x, x2, k, y⟩ .z ⟨hx, hx2, hk1⟩
end K17

set_option Elab.async false
set_option linter.all false
set_option maxRecDepth 100000
set_option maxHeartbeats 1000000
namespace K17
open PySem L2 PL NE
open ND (cutL_map cutL_len cutL_mem bz_ints LwN isNm alpha alpha_eq alpha_at getA ixD_zA ixD_bA app_list one_len getI getI_at getI_mem)
local macro_rules | `(tactic| walk_at "st1") => `(tactic| first | assumption | exact sto_last | exact sto_r0 | exact sto_r1 | exact sto_r2 | exact sto_r3 | exact sto_r4)
local macro_rules | `(tactic| walk_at "sto") => `(tactic| first | walk_at "st1" | exact sto_app (by walk_at "st1") | exact sto_app (sto_app (by walk_at "st1")))
local macro_rules | `(tactic| walk_at "sz") => `(tactic| ((try simp only [List.length_map, List.length_range, List.length_append, List.length_cons, List.length_nil]); omega))
local macro_rules | `(tactic| walk_at "go") => `(tactic| ((try (conv => whnf)); repeat ((first | (show pIf _ _ _; first | refine pIf.tt rfl ?_ | refine pIf.ff rfl ?_) | (show pReq _ _; first | refine pReq.mk rfl ?_ | refine pReq.mk (sz_le rfl) ?_ | refine pReq.mk (sz_lt rfl) ?_ | refine pReq.mk (by decide) ?_ | refine pReq.mk (Or.inr (by decide)) ?_ | refine pReq.mk (Or.inl (by decide)) ?_ | refine pReq.mk (by assumption) ?_ | refine pReq.mk (isTy_l (by walk_at "sto")) ?_ | refine pReq.mk (by omega) ?_ | refine pReq.mk (sz_lt6 (by walk_at "sz")) ?_ | refine pReq.mk (sz_le6 (by walk_at "sz")) ?_ | refine pReq.mk (by walk_at "sz") ?_) | (show pGet _ _; first | refine pGet.mk rfl ?_ | refine pGet.mk (by walk_at "sto") ?_ | refine pGet.mk (lenD_at (by walk_at "sto")) ?_ | refine pGet.mk (sqD_at (by walk_at "sto")) ?_ | refine pGet.mk (lsD_at (by walk_at "sto")) ?_ | refine pGet.mk (lsR_at (by walk_at "sto")) ?_ | refine pGet.mk (srcD_at (by walk_at "sto")) ?_ | refine pGet.mk (tyD_l (by walk_at "sto")) ?_)); (try (conv => whnf)))))
/-- good data, of bounded size -/
structure WInv (b : Nat) (n : XNet) : Prop where
  ok : strOks n
  w : WordsOk n
  l : n.scopes.length ≤ b
  t : n.things.length ≤ b
  q : n.quests.length ≤ b
  s : ∀ s ∈ n.scopes, s.1.length ≤ b ∧ s.2.length ≤ b
  p : ∀ q ∈ n.quests, q.path.length ≤ 1000
theorem WInv.up {b c : Nat} {n : XNet} (h : WInv b n) (k : b ≤ c) : WInv c n :=
  ⟨h.ok, h.w, by have := h.l; omega, by have := h.t; omega, by have := h.q; omega, fun s hs => by have := h.s s hs; omega, h.p⟩
section
variable {b : Nat} {n : XNet}
theorem WInv.addT (h : WInv b n) {t : XThing} (ht : PyData.strOk t.kind = true) : WInv (b + 1) ⟨n.scopes, n.things ++ [t], n.quests⟩ := by
  refine ⟨⟨h.ok.1, fun x hx => ?_, h.ok.2.2⟩, ⟨h.w.s, h.w.q⟩, Nat.le_succ_of_le h.l, ?_, Nat.le_succ_of_le h.q, fun s hs => ⟨Nat.le_succ_of_le (h.s s hs).1, Nat.le_succ_of_le (h.s s hs).2⟩, h.p⟩
  · rcases List.mem_append.mp hx with k | k
    · exact h.ok.2.1 x k
    · simp at k; subst k; exact ht
  · show (n.things ++ [t]).length ≤ b + 1
    have := h.t
    simp; exact this
theorem WInv.addQ (h : WInv b n) {q : XQuest} (hq : q.path.length ≤ 7 ∧ ∀ x ∈ q.path, Sh x) : WInv (b + 1) ⟨n.scopes, n.things, n.quests ++ [q]⟩ := by
  refine ⟨⟨h.ok.1, h.ok.2.1, fun x hx => ?_⟩, ⟨h.w.s, fun x hx => ?_⟩, Nat.le_succ_of_le h.l, Nat.le_succ_of_le h.t, ?_, fun s hs => ⟨Nat.le_succ_of_le (h.s s hs).1, Nat.le_succ_of_le (h.s s hs).2⟩, fun x hx => ?_⟩
  · rcases List.mem_append.mp hx with k | k
    · exact h.ok.2.2 x k
    · simp at k; subst k; exact fun y hy => (hq.2 y hy).1
  · rcases List.mem_append.mp hx with k | k
    · exact h.w.q x k
    · simp at k; subst k; exact fun y hy => by have := (hq.2 y hy).2; omega
  · show (n.quests ++ [q]).length ≤ b + 1
    have := h.q
    simp; exact this
  · rcases List.mem_append.mp hx with k | k
    · exact h.p x k
    · simp at k; subst k; omega
theorem WInv.addS (h : WInv b n) : WInv (b + 1) ⟨n.scopes ++ [noSc], n.things, n.quests⟩ := by
  refine ⟨⟨fun x hx => ?_, h.ok.2⟩, ⟨fun x hx => ?_, h.w.q⟩, ?_, Nat.le_succ_of_le h.t, Nat.le_succ_of_le h.q, fun s hs => ?_, h.p⟩
  · rcases List.mem_append.mp hx with k | k
    · exact h.ok.1 x k
    · simp at k; subst k; exact ⟨fun y hy => (by cases hy), fun y hy => (by cases hy)⟩
  · rcases List.mem_append.mp hx with k | k
    · exact h.w.s x k
    · simp at k; subst k; exact ⟨fun y hy => (by cases hy), fun y hy => (by cases hy)⟩
  · show (n.scopes ++ [noSc]).length ≤ b + 1
    have := h.l
    simp; exact this
  · rcases List.mem_append.mp hs with k | k
    · exact ⟨Nat.le_succ_of_le (h.s s k).1, Nat.le_succ_of_le (h.s s k).2⟩
    · simp at k; subst k; exact ⟨Nat.zero_le _, Nat.zero_le _⟩
theorem WInv.put (h : WInv b n) {i : Nat} {s u : XScope} (hs : n.scopes[i]? = some s)
    (h1 : (∀ x ∈ u.1, x ∈ s.1 ∨ (Sh x.lab ∧ PyData.strOk x.kind = true)) ∧ ∀ x ∈ u.2, x ∈ s.2 ∨ (Sh x.lab ∧ Sh x.name ∧ PyData.strOk x.kind = true)) (h2 : u.1.length ≤ s.1.length + 1 ∧ u.2.length ≤ s.2.length + 1) : WInv (b + 1) ⟨n.scopes.set i u, n.things, n.quests⟩ := by
  have hm := List.mem_of_getElem? hs
  refine ⟨⟨fun x hx => ?_, h.ok.2⟩, ⟨fun x hx => ?_, h.w.q⟩, ?_, Nat.le_succ_of_le h.t, Nat.le_succ_of_le h.q, fun x hx => ?_, h.p⟩
  · rcases List.mem_or_eq_of_mem_set hx with k | rfl
    · exact h.ok.1 x k
    · refine ⟨fun y hy => ?_, fun y hy => ?_⟩
      · rcases h1.1 y hy with k | k
        · exact (h.ok.1 s hm).1 y k
        · exact ⟨k.1.1, k.2⟩
      · rcases h1.2 y hy with k | k
        · exact (h.ok.1 s hm).2 y k
        · exact ⟨k.1.1, k.2.1.1, k.2.2⟩
  · rcases List.mem_or_eq_of_mem_set hx with k | rfl
    · exact h.w.s x k
    · refine ⟨fun y hy => ?_, fun y hy => ?_⟩
      · rcases h1.1 y hy with k | k
        · exact (h.w.s s hm).1 y k
        · have := k.1.2; omega
      · rcases h1.2 y hy with k | k
        · exact (h.w.s s hm).2 y k
        · have := k.1.2; have := k.2.1.2; omega
  · show (n.scopes.set i u).length ≤ b + 1
    rw [List.length_set]; exact Nat.le_succ_of_le h.l
  · rcases List.mem_or_eq_of_mem_set hx with k | rfl
    · exact ⟨Nat.le_succ_of_le (h.s x k).1, Nat.le_succ_of_le (h.s x k).2⟩
    · have := h.s s hm
      omega
end
structure ALay where
  n0 : Nat
  n1 : Nat
  n2 : Nat
  ps : List (Nat × Nat)
  n : XNet
  ws : List Str
  cell : Int
  b : Nat
structure LayPre (a : ALay) (ds : List D) (S : Sto) : Prop where
  ds : ds = [.t [.r a.n0, .r a.n1, .r a.n2], .z (.list (a.ws.map .str)), .z (.int a.cell)]
  at_ : NetAt S a.n0 a.n1 a.n2 a.ps a.n
  w9 : a.ws.length = 9
  w : ∀ x ∈ a.ws, isNm x
  inv : WInv a.b a.n
  b : a.b ≤ 1000
def LayPost (a : ALay) (S S' : Sto) : Prop := S.length ≤ S'.length ∧ Keep (nPl a.n0 a.n1 a.n2 a.ps) S S' ∧ ∃ ps' n', NetAt S' a.n0 a.n1 a.n2 ps' n' ∧ WInv (a.b + 1) n' ∧ ∀ m ∈ nPl a.n0 a.n1 a.n2 ps', m ∈ nPl a.n0 a.n1 a.n2 a.ps ∨ S.length ≤ m
def F_lay : Spc := fsm LayPre fun a d S S' => d = .z .none ∧ LayPost a S S'
def lay_rest (sp__law_step : Spc) (sp__law_telling : Spc) : WS :=
  (wIf (wB (w2 (cB bEq) (wVar 5) (wC (.int 2)))) (wDrop (wMth .list pApp (w2 pIx (wVar 0) (wC (.int 0))) (wCons (wTup (wCons (wLst wNil) (wCons (wLst wNil) wNil))) wNil))) (wIf (wB (w2 (cB bNe) (w2 pIx (wVar 0) (wC (.int 0))) (wLst wNil))) (wSeq (wAsg (w2 pIx (w2 pIx (wVar 0) (wC (.int 0))) (w2 pMod (wVar 3) (wCall pLen (wCons (w2 pIx (wVar 0) (wC (.int 0))) wNil)))) (gT 2 (gC (gN 6) (gC (gN 7) gE))))
    (wIf (wB (w2 (cB bLt) (wVar 5) (wC (.int 6)))) (wDrop (wMth .list pApp (wVar 6) (wCons (wFn sp__law_step [] (wCons (w2 pDiv (wVar 3) (wCall pLen (wCons (w2 pIx (wVar 0) (wC (.int 0))) wNil))) (wCons (wVar 1) (wCons (wVar 0) (wCons (wVar 4) wNil))))) wNil))) (wDrop (wMth .list pApp (wVar 7) (wCons (wFn sp__law_telling [] (wCons (w2 pDiv (wVar 3) (wCall pLen (wCons (w2 pIx (wVar 0) (wC (.int 0))) wNil))) (wCons (wVar 1) (wCons (wVar 0) (wCons (wVar 4) wNil))))) wNil))))) wNext))
theorem ne_nil {n : XNet} (h : (!decide (n.scopes = [])) = true) : 0 < n.scopes.length := by
  cases h2 : n.scopes with
  | nil => rw [h2] at h; cases h
  | cons _ _ => simp
theorem pu_rest {K : K1} {KX : KF} {n0 n1 n2 b : Nat} {ps : List (Nat × Nat)} {n : XNet} {ws : List Str} {c num bad way : Int} {S : Sto} (w9 : ws.length = 9) (hw : ∀ x ∈ ws, isNm x) (hA : NetAt S n0 n1 n2 ps n) (inv : WInv b n) (hb : b ≤ 1000) (b0 : 0 ≤ bad) (b12 : bad < 12)
    (hk : ∀ S', LayPost ⟨n0, n1, n2, ps, n, ws, c, b⟩ S S' → K (.z .none) S') : lay_rest (frz F_step) (frz F_telling) (ends K KX) [some (.t [.r n0, .r n1, .r n2]), some (.z (.list (ws.map .str))), some (.z (.int c)), some (.z (.int num)), some (.z (.int bad)), some (.z (.int way)), none, none] S := by
  have g1 := inv.l
  have hl := hA.i.len
  have hl2 : (ps.map scD).length = n.scopes.length := by rw [List.length_map, hl]
  have hlst := hA.l
  walk_at "go"
  refine pIf.mk (fun _ => ?_) (fun _ => ?_)
  · walk_at "go"
    have hP := hA.more (s := noSc) (T := [])
    rw [List.map_append] at hP
    have e1 : S ++ [Ob.lst []] ++ [Ob.lst []] = S ++ [Ob.lst [], Ob.lst []] := by rw [List.append_assoc]; rfl
    have e2 : (S ++ [Ob.lst []]).length = S.length + 1 := by simp
    rw [e1, e2]
    refine hk _ ⟨by simp, Keep.app.trans (Keep.set (by simp)), _, _, hP, inv.addS, fun m hm => ?_⟩
    dsimp only at hm ⊢
    simp only [List.mem_cons] at hm ⊢
    rcases hm with h | h | h | h
    · exact .inl (.inl h)
    · exact .inl (.inr (.inl h))
    · exact .inl (.inr (.inr (.inl h)))
    · rw [plcs_app] at h
      rcases List.mem_append.mp h with h | h
      · exact .inl (.inr (.inr (.inr h)))
      · have h : m ∈ [S.length, S.length + 1] := h
        simp at h
        exact .inr (by omega)
  · walk_at "go"
    have hA' := hA.app (T := [Ob.lst []])
    refine eq_dec (.r (sto_app hlst) hA'.i.vws) (.r sto_last .nil) (n := 4) (.lists fun s hs => shSc (inv.ok.1 s hs)) (.list fun d hd => by cases hd) (by decide) (eqv_nil _ _) ?_
    have kp0 : Keep (nPl n0 n1 n2 ps) S (S ++ [Ob.lst []]) := .app
    have le0 : S.length ≤ (S ++ [Ob.lst []]).length := by simp
    generalize (S ++ [Ob.lst []]) = S1 at hA' kp0 le0 ⊢
    clear hA hlst
    have hlst := hA'.l
    walk_at "go"
    refine pIf.mk (fun cz => ?_) (fun cz => ?_)
    · have s0 := ne_nil cz
      walk_at "go"
      rw [hl2]
      walk_at "go"
      have hi := fmod_b (a := num) (b := (n.scopes.length : Int)) (by omega)
      obtain ⟨i, hi2⟩ : ∃ i : Nat, num.fmod n.scopes.length = (i : Int) := ⟨_, (Int.toNat_of_nonneg hi.1).symm⟩
      rw [hi2] at hi ⊢
      obtain ⟨p, s, hp, hs, hsi⟩ := hA'.i.at (i := i) (by omega)
      refine pGet.mk (x := scD p) (atD_nat (by rw [List.getElem?_map, hp]; rfl)) ?_
      have hsm := List.mem_of_getElem? hs
      have hsa := hsi.a
      have hsb := hsi.b
      have hss := inv.s s hsm
      have hpm := mem_plcs (List.mem_of_getElem? hp)
      walk_at "go"
      refine pIf.mk (fun _ => ?_) (fun _ => ?_)
      · walk_at "go"
        rw [hl2]
        walk_at "go"
        refine fsq_call (_, ws, n, bad) (.cons .z (.cons .z (.cons hA'.vw (.cons .z .nil)))) ⟨w9, hw⟩ fun x hx => ?_
        walk_at "go"
        have hB := hA'.put1 (xs := s.1 ++ [x]) hp hs
        rw [List.map_append] at hB
        refine hk _ ⟨by simpa using le0, kp0.trans (Keep.set (by simp [hpm.1])), ps, _, hB, inv.put hs ⟨fun y hy => ?_, fun y hy => .inl hy⟩ ⟨by simp, by simp⟩, fun m hm => .inl hm⟩
        rcases List.mem_append.mp hy with h | h
        · exact .inl h
        · simp at h; subst h; exact .inr hx
      · walk_at "go"
        rw [hl2]
        walk_at "go"
        refine fsq_call (_, ws, n, bad) (.cons .z (.cons .z (.cons hA'.vw (.cons .z .nil)))) ⟨w9, hw, b0, b12⟩ fun x hx => ?_
        walk_at "go"
        have hB := hA'.put2 (xs := s.2 ++ [x]) hp hs
        rw [List.map_append] at hB
        refine hk _ ⟨by simpa using le0, kp0.trans (Keep.set (by simp [hpm.2])), ps, _, hB, inv.put hs ⟨fun y hy => .inl hy, fun y hy => ?_⟩ ⟨by simp, by simp⟩, fun m hm => .inl hm⟩
        rcases List.mem_append.mp hy with h | h
        · exact .inl h
        · simp at h; subst h; exact .inr hx
    · walk_at "go"
      exact hk _ ⟨le0, kp0, ps, n, hA', inv.up (Nat.le_succ b), fun m hm => .inl hm⟩
theorem pu_lay : ∀ ds S K KX, F_lay ds S K KX → ws__law_lay (frz F_thing) (frz F_question) (frz F_step) (frz F_telling) { nx := fun _ S1 => K (.z .none) S1, rt := K, ex := fun y _ S1 => KX y S1 } (startE nm__law_lay ds) S := by
  refine fsm_ok fun ⟨n0, n1, n2, ps, n, ws, c, b⟩ ds S ⟨e, hA, w9, hw, inv, hb⟩ K KX hk => ?_
  dsimp only at e hA w9 hw inv hb hk
  subst e
  have g1 := inv.l
  have g2 := inv.t
  have g3 := inv.q
  have last : ∀ bad : Int, 0 ≤ bad → bad < 12 → _law_lay_r1 (frz F_thing) (frz F_question) (frz F_step) (frz F_telling) (ends K KX) [some (.t [.r n0, .r n1, .r n2]), some (.z (.list (ws.map .str))), some (.z (.int c)), some (.z (.int ((c.fdiv 16 * 48271).fmod 2147483647))), some (.z (.int bad)), none, none, none] S := by
    intro bad b0 b12
    generalize (c.fdiv 16 * 48271).fmod 2147483647 = num
    have hlst := hA.l
    have hth := hA.t
    have hqu := hA.q
    have rest : ∀ (S1 : Sto), NetAt S1 n0 n1 n2 ps n → Keep (nPl n0 n1 n2 ps) S S1 → S.length ≤ S1.length → lay_rest (frz F_step) (frz F_telling) (ends K KX) [some (.t [.r n0, .r n1, .r n2]), some (.z (.list (ws.map .str))), some (.z (.int c)), some (.z (.int num)), some (.z (.int bad)), some (.z (.int (c.fmod 8))), none, none] S1 := fun S1 h1 h2 h3 =>
      pu_rest w9 hw h1 inv hb b0 b12 fun S' ⟨l1, l2, ps', n', l3, l4, l5⟩ => hk _ _ ⟨rfl, Nat.le_trans h3 l1, h2.trans l2, ps', n', l3, l4, fun m hm => (l5 m hm).elim .inl fun z => .inr (Nat.le_trans h3 z)⟩
    walk_at "go"
    refine pIf.mk (fun _ => ?_) (fun _ => ?_)
    · walk_at "go"
      refine fsq_call (num, n, bad) (.cons .z (.cons hA.vw (.cons .z .nil))) trivial fun t ht => ?_
      walk_at "go"
      have hB := hA.putT (xs := n.things ++ [t])
      rw [List.map_append] at hB
      exact hk _ _ ⟨rfl, by simp, Keep.set (by simp), ps, _, hB, inv.addT ht, fun m hm => .inl hm⟩
    show (wIf _ _ (lay_rest (frz F_step) (frz F_telling))) _ _ _
    generalize lay_rest (frz F_step) (frz F_telling) = lr at rest ⊢
    walk_at "go"
    refine pIf.mk (fun _ => ?_) (fun _ => ?_)
    · walk_at "go"
      have hA' := hA.app (T := [Ob.lst []])
      refine eq_dec (.r (sto_app hlst) hA'.i.vws) (.r sto_last .nil) (n := 4) (.lists fun s hs => shSc (inv.ok.1 s hs)) (.list fun d hd => by cases hd) (by decide) (eqv_nil _ _) ?_
      have hqu' := hA'.q
      walk_at "go"
      refine pIf.mk (fun _ => ?_) (fun _ => ?_)
      · walk_at "go"
        refine fsq_call (num, ws, n, bad) (.cons .z (.cons .z (.cons hA'.vw (.cons .z .nil)))) ⟨w9, hw, b0, b12⟩ fun t ht => ?_
        walk_at "go"
        have hB := hA'.putQ (xs := n.quests ++ [t])
        rw [List.map_append] at hB
        exact hk _ _ ⟨rfl, by simp, Keep.app.trans (Keep.set (by simp)), ps, _, hB, inv.addQ ht, fun m hm => .inl hm⟩
      · exact rest _ hA' .app (by simp)
    · walk_at "go"
      exact rest _ hA .refl (Nat.le_refl _)
  unfold ws__law_lay
  generalize _law_lay_r1 (frz F_thing) (frz F_question) (frz F_step) (frz F_telling) = r1 at last ⊢
  walk_at "go"
  refine pIf.mk (fun _ => ?_) (fun _ => ?_)
  · walk_at "go"
    refine pIf.mk (fun _ => ?_) (fun _ => ?_)
    · walk_at "go"
      have := fmod_b (a := c.fdiv 64) (b := 12) (by decide)
      exact last _ this.1 this.2
    · walk_at "go"
      exact last 0 (by decide) (by decide)
  · walk_at "go"
    exact last 0 (by decide) (by decide)
end K17

set_option Elab.async false
set_option linter.all false
set_option maxRecDepth 100000
set_option maxHeartbeats 1000000
namespace K17
open PySem L2 PL NE
open ND (cutL_map cutL_len cutL_mem bz_ints LwN isNm alpha alpha_eq alpha_at getA ixD_zA ixD_bA app_list one_len getI getI_at getI_mem)
local macro_rules | `(tactic| walk_at "st1") => `(tactic| first | assumption | exact sto_last | exact sto_r0 | exact sto_r1 | exact sto_r2 | exact sto_r3 | exact sto_r4)
local macro_rules | `(tactic| walk_at "sto") => `(tactic| first | walk_at "st1" | exact sto_app (by walk_at "st1") | exact sto_app (sto_app (by walk_at "st1")))
local macro_rules | `(tactic| walk_at "sz") => `(tactic| ((try simp only [List.length_map, List.length_range, List.length_append, List.length_cons, List.length_nil]); omega))
local macro_rules | `(tactic| walk_at "go") => `(tactic| ((try (conv => whnf)); repeat ((first | (show pIf _ _ _; first | refine pIf.tt rfl ?_ | refine pIf.ff rfl ?_) | (show pReq _ _; first | refine pReq.mk rfl ?_ | refine pReq.mk (sz_le rfl) ?_ | refine pReq.mk (sz_lt rfl) ?_ | refine pReq.mk (by decide) ?_ | refine pReq.mk (Or.inr (by decide)) ?_ | refine pReq.mk (Or.inl (by decide)) ?_ | refine pReq.mk (by assumption) ?_ | refine pReq.mk (isTy_l (by walk_at "sto")) ?_ | refine pReq.mk (by omega) ?_ | refine pReq.mk (sz_lt6 (by walk_at "sz")) ?_ | refine pReq.mk (sz_le6 (by walk_at "sz")) ?_ | refine pReq.mk (by walk_at "sz") ?_) | (show pGet _ _; first | refine pGet.mk rfl ?_ | refine pGet.mk (by walk_at "sto") ?_ | refine pGet.mk (lenD_at (by walk_at "sto")) ?_ | refine pGet.mk (sqD_at (by walk_at "sto")) ?_ | refine pGet.mk (lsD_at (by walk_at "sto")) ?_ | refine pGet.mk (lsR_at (by walk_at "sto")) ?_ | refine pGet.mk (srcD_at (by walk_at "sto")) ?_ | refine pGet.mk (tyD_l (by walk_at "sto")) ?_)); (try (conv => whnf)))))
/-! the judge of the law -/
def F_great : Fsp := fsp (fun n : XNet => [eN n]) (fun n => n.quests.length ≤ 1000) fun n => .bool (!smallB n)
theorem pu_great : ∀ ds S K KX, lent F_great ds S K KX → ws__law_great { nx := fun _ S1 => K (.z .none) S1, rt := K, ex := fun y _ S1 => KX y S1 } (startE nm__law_great ds) S := by
  refine fsp_ok fun n hq K KX hk => ?_
  have hq : n.quests.length ≤ 1000 := hq
  unfold smallB at hk
  walk_at "go"
  rw [List.length_map]
  refine pIf.mk (fun c => ?_) (fun c => ?_)
  · have c := of_decide_eq_true c
    rw [show decide (n.scopes.length ≤ 40) = false from decide_eq_false (by omega)] at hk
    walk_at "go"
    exact hk _ _ .z
  have c := of_decide_eq_false c
  rw [show decide (n.scopes.length ≤ 40) = true from decide_eq_true (by omega), Bool.true_and] at hk
  walk_at "go"
  rw [List.length_map]
  refine pIf.mk (fun c => ?_) (fun c => ?_)
  · have c := of_decide_eq_true c
    rw [show decide (n.things.length ≤ 80) = false from decide_eq_false (by omega)] at hk
    walk_at "go"
    exact hk _ _ .z
  have c := of_decide_eq_false c
  rw [show decide (n.things.length ≤ 80) = true from decide_eq_true (by omega), Bool.true_and] at hk
  walk_at "go"
  rw [List.length_map]
  refine pIf.mk (fun c => ?_) (fun c => ?_)
  · have c := of_decide_eq_true c
    rw [show decide (n.quests.length ≤ 60) = false from decide_eq_false (by omega)] at hk
    walk_at "go"
    exact hk _ _ .z
  have c := of_decide_eq_false c
  rw [show decide (n.quests.length ≤ 60) = true from decide_eq_true (by omega), Bool.true_and] at hk
  walk_at "go"
  refine pFor_allS n.scopes (fun s => bz (eSc s)) (fun s => decide (s.1.length ≤ 8) && decide (s.2.length ≤ 12)) (.z (.bool true)) (fun env _ => ∃ v1 v2, env = [some (.b (eN n)), v1, v2, none, none, none]) (bz_scs n) (fun _ _ _ => trivial) ⟨_, _, rfl⟩ ?_ ?_ ?_
  · rintro s _ S Q _ ⟨v3, v4, rfl⟩ h1 h2
    walk_at "go"
    rw [List.length_map]
    refine pIf.mk (fun c => ?_) (fun c => ?_)
    · have c := of_decide_eq_true c
      walk_at "go"
      refine h2 ?_ _
      rw [show decide (s.1.length ≤ 8) = false from decide_eq_false (by omega)]; rfl
    have c := of_decide_eq_false c
    rw [show decide (s.1.length ≤ 8) = true from decide_eq_true (by omega), Bool.true_and] at h1 h2
    walk_at "go"
    rw [List.length_map]
    refine pIf.mk (fun c => ?_) (fun c => ?_)
    · have c := of_decide_eq_true c
      walk_at "go"
      exact h2 (decide_eq_false (by omega)) _
    · have c := of_decide_eq_false c
      walk_at "go"
      exact h1 (decide_eq_true (by omega)) _ _ ⟨_, _, rfl⟩
  · rintro ha _ S ⟨v3, v4, rfl⟩
    rw [ha, Bool.true_and] at hk
    walk_at "go"
    refine pLc_allE n.quests zQ (fun q => .z (.bool (decide (6 < q.path.length)))) (bzsQ _) (by omega) (fun _ => trivial) (fun q _ => ⟨_, rfl, fun S1 K _ h => ?_⟩) ?_
    · walk_at "go"
      rw [List.length_map]
      have e : decide ((6 : Int) < q.path.length) = decide (6 < q.path.length) := decide_eq_decide.mpr (by omega)
      show K (.z (.bool (decide ((6 : Int) < q.path.length)))) S1
      rw [e]
      exact h
    walk_at "go"
    refine ⟨n.quests.map fun q => decide (6 < q.path.length), by rw [List.map_map]; rfl, ?_⟩
    refine hk _ _ ?_
    have e : (n.quests.map fun q => decide (6 < q.path.length)).any id = !(n.quests.all fun q => decide (q.path.length ≤ 6)) := by
      rw [List.any_map, List.not_all_eq_any_not]
      congr 1
      funext q
      show decide (6 < q.path.length) = !decide (q.path.length ≤ 6)
      rw [← decide_not]
      exact decide_eq_decide.mpr (by omega)
    rw [e]
    exact .z
  · intro hf S
    rw [hf] at hk
    exact hk _ _ .z
def F_is_word : Fsp := fsp (fun x : Str => [.str x]) (fun x => x.length ≤ 1000000) fun x => .bool (isNameB x)
theorem pu_is_word : ∀ ds S K KX, lent F_is_word ds S K KX → ws__law_is_word { nx := fun _ S1 => K (.z .none) S1, rt := K, ex := fun y _ S1 => KX y S1 } (startE nm__law_is_word ds) S := by
  refine fsp_ok fun x hx K KX hk => ?_
  unfold isNameB at hk
  walk_at "go"
  refine pIf.mk (fun c => ?_) (fun c => ?_)
  · have c := of_decide_eq_true c
    rw [show decide (1 ≤ x.length) = false from decide_eq_false (by omega)] at hk
    walk_at "go"
    exact hk _ _ .z
  have c := of_decide_eq_false c
  rw [show decide (1 ≤ x.length) = true from decide_eq_true (by omega), Bool.true_and] at hk
  walk_at "go"
  refine pIf.mk (fun c => ?_) (fun c => ?_)
  · have c := of_decide_eq_true c
    rw [show decide (x.length ≤ 8) = false from decide_eq_false (by omega)] at hk
    walk_at "go"
    exact hk _ _ .z
  have c := of_decide_eq_false c
  rw [show decide (x.length ≤ 8) = true from decide_eq_true (by omega), Bool.true_and] at hk
  have hl : x.cps.toList.length = x.length := by show _ = x.cps.size; simp
  walk_at "go"
  refine pLc_allE x.cps.toList (fun c => .z (.str ⟨⟨[c]⟩⟩)) (fun c => .z (.bool (decide (c ∈ alpha)))) rfl (by omega) (fun _ => trivial) (fun c _ => ⟨_, rfl, fun S1 K _ h => ?_⟩) ?_
  · walk_at "go"
    rw [alpha_eq]
    exact h
  walk_at "go"
  refine ⟨x.cps.toList.map fun c => decide (c ∈ alpha), by rw [List.map_map]; rfl, ?_⟩
  refine hk _ _ ?_
  rw [List.all_map]
  exact .z
def thereR (k : Str) (i : Int) : List (Str × Nat) → Bool
  | [] => false
  | p :: r => if k = p.1 then inR i p.2 else thereR k i r
def eRow (p : Str × Nat) : PyData := .tuple [.str p.1, .int p.2]
def F_there : Fsp := fsp (fun a : Str × Int × List (Str × Nat) => [.str a.1, .int a.2.1, .list (a.2.2.map eRow)]) (fun _ => True) fun a => .bool (thereR a.1 a.2.1 a.2.2)
theorem pu_there : ∀ ds S K KX, lent F_there ds S K KX → ws__law_there { nx := fun _ S1 => K (.z .none) S1, rt := K, ex := fun y _ S1 => KX y S1 } (startE nm__law_there ds) S := by
  refine fsp_ok fun ⟨k, i, rs⟩ _ K KX hk => ?_
  dsimp only at hk
  walk_at "go"
  refine pFor_xs rs (fun p => .z (eRow p)) (by show (rs.map eRow).map bz = _; rw [List.map_map]; rfl) (fun j env S => (∃ v3 v4, env = [some (.z (.str k)), some (.z (.int i)), some (.b (.list (rs.map eRow))), v3, v4]) ∧ thereR k i rs = thereR k i (rs.drop j)) ⟨⟨_, _, rfl⟩, rfl⟩ (fun _ _ _ _ _ => trivial) ?_ ?_
  · rintro j p _ S Q hp ⟨⟨v3, v4, rfl⟩, e⟩ hQ
    obtain ⟨hj, he⟩ := List.getElem?_eq_some_iff.mp hp
    rw [List.drop_eq_getElem_cons hj, he] at e
    walk_at "go"
    refine pIf.mk (fun c => ?_) (fun c => ?_)
    · have c : k = p.1 := of_decide_eq_true c
      have e : thereR k i rs = inR i p.2 := by rw [e]; unfold thereR; rw [if_pos c]
      walk_at "go"
      rw [e] at hk
      unfold inR at hk
      refine pIf.mk (fun c2 => ?_) (fun c2 => ?_)
      · have c2 : (0 : Int) ≤ i := of_decide_eq_true c2
        rw [decide_eq_true c2, Bool.true_and] at hk
        walk_at "go"
        exact hk _ _ .z
      · have c2 : ¬ (0 : Int) ≤ i := of_decide_eq_false c2
        rw [decide_eq_false c2, Bool.false_and] at hk
        exact hk _ _ .z
    · have c : k ≠ p.1 := of_decide_eq_false c
      walk_at "go"
      refine hQ _ _ ⟨⟨_, _, rfl⟩, ?_⟩
      rw [e]
      conv => lhs; unfold thereR
      rw [if_neg c]
  · rintro _ S ⟨⟨v3, v4, rfl⟩, e⟩
    walk_at "go"
    rw [List.drop_length] at e
    rw [e] at hk
    exact hk _ _ .z
end K17

set_option Elab.async false
set_option linter.all false
set_option maxRecDepth 100000
set_option maxHeartbeats 1000000
namespace K17
open PySem L2 PL NE
open ND (cutL_map cutL_len cutL_mem bz_ints LwN isNm alpha alpha_eq alpha_at getA ixD_zA ixD_bA app_list one_len getI getI_at getI_mem)
local macro_rules | `(tactic| walk_at "st1") => `(tactic| first | assumption | exact sto_last | exact sto_r0 | exact sto_r1 | exact sto_r2 | exact sto_r3 | exact sto_r4)
local macro_rules | `(tactic| walk_at "sto") => `(tactic| first | walk_at "st1" | exact sto_app (by walk_at "st1") | exact sto_app (sto_app (by walk_at "st1")))
local macro_rules | `(tactic| walk_at "sz") => `(tactic| ((try simp only [List.length_map, List.length_range, List.length_append, List.length_cons, List.length_nil]); omega))
local macro_rules | `(tactic| walk_at "go") => `(tactic| ((try (conv => whnf)); repeat ((first | (show pIf _ _ _; first | refine pIf.tt rfl ?_ | refine pIf.ff rfl ?_) | (show pReq _ _; first | refine pReq.mk rfl ?_ | refine pReq.mk (sz_le rfl) ?_ | refine pReq.mk (sz_lt rfl) ?_ | refine pReq.mk (by decide) ?_ | refine pReq.mk (Or.inr (by decide)) ?_ | refine pReq.mk (Or.inl (by decide)) ?_ | refine pReq.mk (by assumption) ?_ | refine pReq.mk (isTy_l (by walk_at "sto")) ?_ | refine pReq.mk (by omega) ?_ | refine pReq.mk (sz_lt6 (by walk_at "sz")) ?_ | refine pReq.mk (sz_le6 (by walk_at "sz")) ?_ | refine pReq.mk (by walk_at "sz") ?_) | (show pGet _ _; first | refine pGet.mk rfl ?_ | refine pGet.mk (by walk_at "sto") ?_ | refine pGet.mk (lenD_at (by walk_at "sto")) ?_ | refine pGet.mk (sqD_at (by walk_at "sto")) ?_ | refine pGet.mk (lsD_at (by walk_at "sto")) ?_ | refine pGet.mk (lsR_at (by walk_at "sto")) ?_ | refine pGet.mk (srcD_at (by walk_at "sto")) ?_ | refine pGet.mk (tyD_l (by walk_at "sto")) ?_)); (try (conv => whnf)))))
def wordsS (s : XScope) : List Str := s.1.map XStep.lab ++ s.2.map XTell.lab ++ s.2.map XTell.name
def wordsQ (q : XQuest) : List Str := q.path ++ (if q.path = [] then [Str.ofString ""] else [])
def wordsL (n : XNet) : List Str := n.scopes.flatMap wordsS ++ n.quests.flatMap wordsQ
theorem all_and2 {α : Type} (p q : α → Bool) : ∀ l : List α, (l.all p && l.all q) = l.all fun x => p x && q x
  | [] => rfl
  | a :: l => by
    rw [List.all_cons, List.all_cons, List.all_cons, ← all_and2 p q l]
    cases p a <;> cases q a <;> cases l.all p <;> cases l.all q <;> rfl
theorem wordsL_all (n : XNet) : (wordsL n).all isNameB = namedB n := by
  unfold wordsL namedB
  rw [List.all_append, List.all_flatMap, List.all_flatMap]
  congr 1
  · congr 1
    funext s
    unfold wordsS
    rw [List.all_append, List.all_append, List.all_map, List.all_map, List.all_map, Bool.and_assoc]
    congr 1
    exact all_and2 _ _ _
  · congr 1
    funext q
    unfold wordsQ
    cases h : q.path with
    | nil => decide +kernel
    | cons a b => rw [if_neg (by simp), List.append_nil]; rfl
def F_words_of : Fsp := fsp (fun n : XNet => [eN n]) (fun n => smallB n = true ∧ strOks n) fun n => .list ((wordsL n).map .str)
theorem len_S {n : XNet} (h : smallB n = true) (k : Nat) : ((n.scopes.take k).flatMap wordsS).length ≤ 32 * k := by
  have hs : ∀ s ∈ n.scopes, s.1.length ≤ 8 ∧ s.2.length ≤ 12 := by
    unfold smallB at h
    simp only [Bool.and_eq_true, List.all_eq_true, decide_eq_true_eq] at h
    exact h.2.2.2.1
  have : ∀ l : List XScope, (∀ s ∈ l, s.1.length ≤ 8 ∧ s.2.length ≤ 12) → (l.flatMap wordsS).length ≤ 32 * l.length := by
    intro l
    induction l with
    | nil => intro _; simp
    | cons a l ih =>
      intro hl
      have := ih fun s hs => hl s (List.mem_cons_of_mem _ hs)
      have h2 := hl a List.mem_cons_self
      have h3 : (wordsS a).length = a.1.length + a.2.length + a.2.length := by unfold wordsS; simp; omega
      rw [List.flatMap_cons, List.length_append, List.length_cons]
      omega
  have := this (n.scopes.take k) fun s hs' => hs s (List.mem_of_mem_take hs')
  have := List.length_take_le k n.scopes
  omega
theorem len_Q {n : XNet} (h : smallB n = true) (k : Nat) : ((n.quests.take k).flatMap wordsQ).length ≤ 7 * k := by
  have hs : ∀ s ∈ n.quests, s.path.length ≤ 6 := by
    unfold smallB at h
    simp only [Bool.and_eq_true, List.all_eq_true, decide_eq_true_eq] at h
    exact h.2.2.2.2
  have : ∀ l : List XQuest, (∀ s ∈ l, s.path.length ≤ 6) → (l.flatMap wordsQ).length ≤ 7 * l.length := by
    intro l
    induction l with
    | nil => intro _; simp
    | cons a l ih =>
      intro hl
      have := ih fun s hs => hl s (List.mem_cons_of_mem _ hs)
      have h2 := hl a List.mem_cons_self
      have h3 : (wordsQ a).length ≤ a.path.length + 1 := by unfold wordsQ; split <;> simp
      rw [List.flatMap_cons, List.length_append, List.length_cons]
      omega
  have := this (n.quests.take k) fun s hs' => hs s (List.mem_of_mem_take hs')
  have := List.length_take_le k n.quests
  omega
theorem take_flat {α β : Type} {f : α → List β} {xs : List α} {i : Nat} {x : α} (h : xs[i]? = some x) : (xs.take (i + 1)).flatMap f = (xs.take i).flatMap f ++ f x := by
  rw [List.take_add_one, h, List.flatMap_append]; simp
theorem at_set_last {S : Sto} {o o' : Ob} : ((S ++ [o]).set S.length o')[S.length]? = some o' := by simp
abbrev zStr (x : Str) : D := .z (.str x)
theorem pu_words_of : ∀ ds S K KX, lent F_words_of ds S K KX → ws__law_words_of { nx := fun _ S1 => K (.z .none) S1, rt := K, ex := fun y _ S1 => KX y S1 } (startE nm__law_words_of ds) S := by
  refine fsp_ok fun n ⟨hsm, hok⟩ K KX hk => ?_
  have hs8 : ∀ s ∈ n.scopes, s.1.length ≤ 8 ∧ s.2.length ≤ 12 := by
    have h := hsm
    unfold smallB at h
    simp only [Bool.and_eq_true, List.all_eq_true, decide_eq_true_eq] at h
    exact h.2.2.2.1
  have hq6 : ∀ s ∈ n.quests, s.path.length ≤ 6 := by
    have h := hsm
    unfold smallB at h
    simp only [Bool.and_eq_true, List.all_eq_true, decide_eq_true_eq] at h
    exact h.2.2.2.2
  have h40 : n.scopes.length ≤ 40 ∧ n.quests.length ≤ 60 := by
    have h := hsm
    unfold smallB at h
    simp only [Bool.and_eq_true, List.all_eq_true, decide_eq_true_eq] at h
    exact ⟨h.1, h.2.2.1⟩
  walk_at "go"
  refine pFor_xs n.scopes (fun s => bz (eSc s)) (bz_scs n) (fun i env S => ∃ sl v2 v3 ws, env = [some (.b (eN n)), some (.r sl), v2, v3, none, none, none, none, none] ∧ S[sl]? = some (.lst (ws.map zStr)) ∧ ws = (n.scopes.take i).flatMap wordsS) ⟨_, _, _, [], rfl, sto_last, by simp⟩ (fun _ _ _ _ _ => trivial) ?_ ?_
  · rintro i s _ S Q hi ⟨sl, v2, v3, ws, rfl, hS, hws⟩ hQ
    have hm := hs8 s (List.mem_of_getElem? hi)
    have hlt := (List.getElem?_eq_some_iff.mp hi).1
    have hl : ws.length ≤ 32 * i := by rw [hws]; exact len_S hsm i
    walk_at "go"
    refine pLc_allE s.1 zS (fun x => zStr x.lab) (bzsS _) (by omega) (fun _ => trivial) (fun x _ => ⟨_, rfl, fun S1 K _ h => by walk_at "go"; exact h⟩) ?_
    walk_at "go"
    have e1 : (ws.map zStr ++ s.1.map fun x => zStr x.lab) = (ws ++ s.1.map XStep.lab).map zStr := by rw [List.map_append, List.map_map]; rfl
    rw [e1]
    have l1 : (ws ++ s.1.map XStep.lab).length = ws.length + s.1.length := by simp
    have ew : ws ++ wordsS s = ws ++ s.1.map XStep.lab ++ s.2.map XTell.lab ++ s.2.map XTell.name := by unfold wordsS; simp only [List.append_assoc]
    generalize ws ++ s.1.map XStep.lab = ws1 at l1 ew ⊢
    walk_at "go"
    refine pLc_allE s.2 zL (fun x => zStr x.lab) (bzsL _) (by omega) (fun _ => trivial) (fun x _ => ⟨_, rfl, fun S1 K _ h => by walk_at "go"; exact h⟩) ?_
    walk_at "go"
    have e2 : (ws1.map zStr ++ s.2.map fun x => zStr x.lab) = (ws1 ++ s.2.map XTell.lab).map zStr := by rw [List.map_append, List.map_map]; rfl
    rw [e2]
    have l2 : (ws1 ++ s.2.map XTell.lab).length = ws1.length + s.2.length := by simp
    generalize ws1 ++ s.2.map XTell.lab = ws2 at l2 ew ⊢
    walk_at "go"
    refine pLc_allE s.2 zL (fun x => zStr x.name) (bzsL _) (by omega) (fun _ => trivial) (fun x _ => ⟨_, rfl, fun S1 K _ h => by walk_at "go"; exact h⟩) ?_
    walk_at "go"
    have e3 : (ws2.map zStr ++ s.2.map fun x => zStr x.name) = (ws2 ++ s.2.map XTell.name).map zStr := by rw [List.map_append, List.map_map]; rfl
    rw [e3]
    refine hQ _ _ ⟨_, _, _, _, rfl, sto_last, ?_⟩
    rw [take_flat hi, ← hws, ew]
  · rintro _ S ⟨sl, v2, v3, ws, rfl, hS, hws⟩
    rw [List.take_length] at hws
    have hl0 : ws.length ≤ 1280 := by
      have := len_S hsm n.scopes.length
      rw [List.take_length, ← hws] at this
      omega
    walk_at "go"
    refine pFor_xs n.quests zQ (bzsQ _) (fun i env S => ∃ sl v4 v5 v6 vs, env = [some (.b (eN n)), some (.r sl), v2, v3, v4, v5, v6, none, none] ∧ S[sl]? = some (.lst (vs.map zStr)) ∧ vs = ws ++ (n.quests.take i).flatMap wordsQ) ⟨_, _, _, _, ws, rfl, hS, by simp⟩ (fun _ _ _ _ _ => trivial) ?_ ?_
    · rintro i q _ S Q hi ⟨sl, v4, v5, v6, vs, rfl, hS, hvs⟩ hQ
      have hm := hq6 q (List.mem_of_getElem? hi)
      have hlt := (List.getElem?_eq_some_iff.mp hi).1
      have hl : vs.length ≤ 1280 + 7 * i := by
        rw [hvs, List.length_append]
        have := len_Q hsm i
        omega
      have hok2 := hok.2.2 q (List.mem_of_getElem? hi)
      walk_at "go"
      have ev : (vs.map zStr ++ (q.path.map PyData.str).map D.z) = (vs ++ q.path).map zStr := by rw [List.map_append, List.map_map]; rfl
      rw [ev]
      refine eq_dec (d := .tuple (q.path.map .str)) (e := .tuple []) .z .z (n := 1) (.tuple fun d hd => by
        obtain ⟨x, hx, rfl⟩ := List.mem_map.mp hd
        exact .str (hok2 x hx)) (.tuple fun d hd => by cases hd) (by decide) (b := decide (q.path = [])) (by cases q.path <;> rfl) ?_
      walk_at "go"
      refine pIf.mk (fun c => ?_) (fun c => ?_)
      · have c : q.path = [] := of_decide_eq_true c
        walk_at "go"
        refine hQ _ _ ⟨_, _, _, _, vs ++ q.path ++ [Str.ofString ""], rfl, ?_, ?_⟩
        · refine at_set_last.trans ?_
          simp only [List.map_append]; rfl
        · rw [take_flat hi, ← List.append_assoc, ← hvs]
          unfold wordsQ
          rw [if_pos c, List.append_assoc]
      · have c : q.path ≠ [] := of_decide_eq_false c
        walk_at "go"
        refine hQ _ _ ⟨_, _, _, _, vs ++ q.path, rfl, sto_last, ?_⟩
        rw [take_flat hi, ← List.append_assoc, ← hvs]
        unfold wordsQ
        rw [if_neg c, List.append_nil]
    · rintro _ S ⟨sl, v4, v5, v6, vs, rfl, hS, hvs⟩
      rw [List.take_length] at hvs
      walk_at "go"
      refine hk _ _ (.r hS ?_)
      subst hvs hws
      exact Vzs.map _ _
end K17

set_option Elab.async false
set_option linter.all false
set_option maxRecDepth 100000
set_option maxHeartbeats 1000000
namespace K17
open PySem L2 PL NE
open ND (cutL_map cutL_len cutL_mem bz_ints LwN isNm alpha alpha_eq alpha_at getA ixD_zA ixD_bA app_list one_len getI getI_at getI_mem)
local macro_rules | `(tactic| walk_at "st1") => `(tactic| first | assumption | exact sto_last | exact sto_r0 | exact sto_r1 | exact sto_r2 | exact sto_r3 | exact sto_r4)
local macro_rules | `(tactic| walk_at "sto") => `(tactic| first | walk_at "st1" | exact sto_app (by walk_at "st1") | exact sto_app (sto_app (by walk_at "st1")))
local macro_rules | `(tactic| walk_at "sz") => `(tactic| ((try simp only [List.length_map, List.length_range, List.length_append, List.length_cons, List.length_nil]); omega))
local macro_rules | `(tactic| walk_at "go") => `(tactic| ((try (conv => whnf)); repeat ((first | (show pIf _ _ _; first | refine pIf.tt rfl ?_ | refine pIf.ff rfl ?_) | (show pReq _ _; first | refine pReq.mk rfl ?_ | refine pReq.mk (sz_le rfl) ?_ | refine pReq.mk (sz_lt rfl) ?_ | refine pReq.mk (by decide) ?_ | refine pReq.mk (Or.inr (by decide)) ?_ | refine pReq.mk (Or.inl (by decide)) ?_ | refine pReq.mk (by assumption) ?_ | refine pReq.mk (isTy_l (by walk_at "sto")) ?_ | refine pReq.mk (by omega) ?_ | refine pReq.mk (sz_lt6 (by walk_at "sz")) ?_ | refine pReq.mk (sz_le6 (by walk_at "sz")) ?_ | refine pReq.mk (by walk_at "sz") ?_) | (show pGet _ _; first | refine pGet.mk rfl ?_ | refine pGet.mk (by walk_at "sto") ?_ | refine pGet.mk (lenD_at (by walk_at "sto")) ?_ | refine pGet.mk (sqD_at (by walk_at "sto")) ?_ | refine pGet.mk (lsD_at (by walk_at "sto")) ?_ | refine pGet.mk (lsR_at (by walk_at "sto")) ?_ | refine pGet.mk (srcD_at (by walk_at "sto")) ?_ | refine pGet.mk (tyD_l (by walk_at "sto")) ?_)); (try (conv => whnf)))))
theorem there_step (x : XStep) (a b : Nat) : thereR x.kind x.num [("to", a), ("by", b)] = stepB a b x := by
  unfold thereR thereR thereR stepB
  by_cases h : x.kind = "to"
  · rw [if_pos h, if_pos h]
  · rw [if_neg h, if_neg h]
    by_cases h2 : x.kind = "by"
    · rw [if_pos h2, decide_eq_true h2, Bool.true_and]
    · rw [if_neg h2, decide_eq_false h2, Bool.false_and]
theorem there_tell (x : XTell) (a b : Nat) : thereR x.kind x.num [("thing", a), ("by", b)] = tellB a b x := by
  unfold thereR thereR thereR tellB
  by_cases h : x.kind = "thing"
  · rw [if_pos h, if_pos h]
  · rw [if_neg h, if_neg h]
    by_cases h2 : x.kind = "by"
    · rw [if_pos h2, decide_eq_true h2, Bool.true_and]
    · rw [if_neg h2, decide_eq_false h2, Bool.false_and]
theorem there_thing (x : XThing) (a b : Nat) : thereR x.kind x.num [("plain", 1), ("part", a), ("sort", b)] = thingB a b x := by
  unfold thereR thereR thereR thereR thingB
  by_cases h : x.kind = "plain"
  · rw [if_pos h, if_pos h]
    unfold inR
    rw [← Bool.decide_and]
    exact decide_eq_decide.mpr (by omega)
  · rw [if_neg h, if_neg h]
    by_cases h1 : x.kind = "part"
    · rw [if_pos h1, if_pos h1]
    · rw [if_neg h1, if_neg h1]
      by_cases h2 : x.kind = "sort"
      · rw [if_pos h2, decide_eq_true h2, Bool.true_and]
      · rw [if_neg h2, decide_eq_false h2, Bool.false_and]
def F_placed : Fsp := fsp (fun n : XNet => [eN n]) (fun _ => True) fun n => .bool (thereB n)
theorem pu_placed : ∀ ds S K KX, lent F_placed ds S K KX → ws__law_placed (frz F_there) { nx := fun _ S1 => K (.z .none) S1, rt := K, ex := fun y _ S1 => KX y S1 } (startE nm__law_placed ds) S := by
  refine fsp_ok fun n _ K KX hk => ?_
  unfold thereB at hk
  walk_at "go"
  rw [List.length_map, List.length_map, List.length_map]
  refine pFor_allS n.scopes (fun s => bz (eSc s)) (fun s => s.1.all (stepB n.scopes.length n.quests.length) && s.2.all (tellB n.things.length n.quests.length)) (.z (.bool false)) (fun env S => (∃ v2 v3 v4 v5 v9 v10, env = [some (.b (eN n)), some (.r 0), v2, v3, v4, v5, none, none, none, v9, v10]) ∧ S[0]? = some (.lst [.z (.int n.scopes.length), .z (.int n.things.length), .z (.int n.quests.length)])) (bz_scs n) (fun _ _ _ => trivial) ⟨⟨_, _, _, _, _, _, rfl⟩, rfl⟩ ?_ ?_ ?_
  · rintro s _ S Q _ ⟨⟨v2, v3, v4, v5, v9, v10, rfl⟩, hS⟩ h1 h2
    walk_at "go"
    refine pFor_allS s.1 zS (stepB n.scopes.length n.quests.length) (.z (.bool false)) (fun env S => (∃ v4 v5 v9, env = [some (.b (eN n)), some (.r 0), some (.b (.list (s.1.map eS))), some (.b (.list (s.2.map eL))), v4, v5, none, none, none, v9, v10]) ∧ S[0]? = some (.lst [.z (.int n.scopes.length), .z (.int n.things.length), .z (.int n.quests.length)])) (bzsS _) (fun _ _ _ => trivial) ⟨⟨_, _, _, rfl⟩, hS⟩ ?_ ?_ ?_
    · rintro x _ S Q2 _ ⟨⟨v4, v5, v9, rfl⟩, hS⟩ g1 g2
      walk_at "go"
      refine fsp_call (x.kind, x.num, [("to", n.scopes.length), ("by", n.quests.length)]) (.cons .z (.cons .z (.cons (.r sto_last (Vws.map (fun p => eRow p) [(("to" : Str), n.scopes.length), ("by", n.quests.length)])) .nil))) trivial ?_
      rw [there_step]
      walk_at "go"
      refine pIf.mk (fun c => ?_) (fun c => ?_)
      · walk_at "go"
        exact g2 (by simpa using c) _
      · walk_at "go"
        exact g1 (by simpa using c) _ _ ⟨⟨_, _, _, rfl⟩, sto_app hS⟩
    · rintro ha _ S ⟨⟨v4, v5, v9, rfl⟩, hS⟩
      rw [ha, Bool.true_and] at h1 h2
      walk_at "go"
      refine pFor_allS s.2 zL (tellB n.things.length n.quests.length) (.z (.bool false)) (fun env S => (∃ v4 v5 v9 v10, env = [some (.b (eN n)), some (.r 0), some (.b (.list (s.1.map eS))), some (.b (.list (s.2.map eL))), v4, v5, none, none, none, v9, v10]) ∧ S[0]? = some (.lst [.z (.int n.scopes.length), .z (.int n.things.length), .z (.int n.quests.length)])) (bzsL _) (fun _ _ _ => trivial) ⟨⟨_, _, _, _, rfl⟩, hS⟩ ?_ ?_ ?_
      · rintro x _ S Q2 _ ⟨⟨v4, v5, v9, v10, rfl⟩, hS⟩ g1 g2
        walk_at "go"
        refine fsp_call (x.kind, x.num, [("thing", n.things.length), ("by", n.quests.length)]) (.cons .z (.cons .z (.cons (.r sto_last (Vws.map (fun p => eRow p) [(("thing" : Str), n.things.length), ("by", n.quests.length)])) .nil))) trivial ?_
        rw [there_tell]
        walk_at "go"
        refine pIf.mk (fun c => ?_) (fun c => ?_)
        · walk_at "go"
          exact g2 (by simpa using c) _
        · walk_at "go"
          exact g1 (by simpa using c) _ _ ⟨⟨_, _, _, _, rfl⟩, sto_app hS⟩
      · rintro ha2 _ S ⟨⟨v4, v5, v9, v10, rfl⟩, hS⟩
        exact h1 ha2 _ _ ⟨⟨_, _, _, _, _, _, rfl⟩, hS⟩
      · intro hf S
        exact h2 hf _
    · intro hf S
      rw [hf, Bool.false_and] at h2
      exact h2 rfl _
  · rintro ha _ S ⟨⟨v2, v3, v4, v5, v9, v10, rfl⟩, hS⟩
    rw [ha, Bool.true_and] at hk
    walk_at "go"
    refine pFor_allS n.things zT (thingB n.scopes.length n.quests.length) (.z (.bool false)) (fun env S => (∃ v4 v5, env = [some (.b (eN n)), some (.r 0), v2, v3, v4, v5, none, none, none, v9, v10]) ∧ S[0]? = some (.lst [.z (.int n.scopes.length), .z (.int n.things.length), .z (.int n.quests.length)])) (bzsT _) (fun _ _ _ => trivial) ⟨⟨_, _, rfl⟩, hS⟩ ?_ ?_ ?_
    · rintro x _ S Q2 _ ⟨⟨v4, v5, rfl⟩, hS⟩ g1 g2
      walk_at "go"
      refine fsp_call (x.kind, x.num, [("plain", 1), ("part", n.scopes.length), ("sort", n.quests.length)]) (.cons .z (.cons .z (.cons (.r sto_last (Vws.map (fun p => eRow p) [(("plain" : Str), 1), ("part", n.scopes.length), ("sort", n.quests.length)])) .nil))) trivial ?_
      rw [there_thing]
      walk_at "go"
      refine pIf.mk (fun c => ?_) (fun c => ?_)
      · walk_at "go"
        exact g2 (by simpa using c) _
      · walk_at "go"
        exact g1 (by simpa using c) _ _ ⟨⟨_, _, rfl⟩, sto_app hS⟩
    · rintro ha _ S ⟨⟨v4, v5, rfl⟩, hS⟩
      rw [ha, Bool.true_and] at hk
      walk_at "go"
      refine pFor_allS n.quests zQ (questB n.scopes.length) (.z (.bool false)) (fun env S => (∃ v6 v7 v8, env = [some (.b (eN n)), some (.r 0), v2, v3, v4, v5, v6, v7, v8, v9, v10]) ∧ S[0]? = some (.lst [.z (.int n.scopes.length), .z (.int n.things.length), .z (.int n.quests.length)])) (bzsQ _) (fun _ _ _ => trivial) ⟨⟨_, _, _, rfl⟩, hS⟩ ?_ ?_ ?_
      · rintro x _ S Q2 _ ⟨⟨v6, v7, v8, rfl⟩, hS⟩ g1 g2
        unfold questB inR at g1 g2
        walk_at "go"
        refine pIf.mk (fun c => ?_) (fun c => ?_)
        · have c : x.state < 0 := of_decide_eq_true c
          walk_at "go"
          refine g2 ?_ _
          rw [decide_eq_false (show ¬ 0 ≤ x.state by omega), Bool.and_false]
        have c : ¬ x.state < 0 := of_decide_eq_false c
        rw [decide_eq_true (show 0 ≤ x.state by omega), Bool.and_true] at g1 g2
        walk_at "go"
        refine pIf.mk (fun c => ?_) (fun c => ?_)
        · have c : x.scope < 0 := of_decide_eq_true c
          walk_at "go"
          refine g2 ?_ _
          rw [decide_eq_false (show ¬ 0 ≤ x.scope by omega), Bool.false_and]
        have c : ¬ x.scope < 0 := of_decide_eq_false c
        rw [decide_eq_true (show 0 ≤ x.scope by omega), Bool.true_and] at g1 g2
        walk_at "go"
        refine pIf.mk (fun c => ?_) (fun c => ?_)
        · have c : (n.scopes.length : Int) ≤ x.scope := of_decide_eq_true c
          walk_at "go"
          exact g2 (decide_eq_false (by omega)) _
        · have c : ¬ (n.scopes.length : Int) ≤ x.scope := of_decide_eq_false c
          walk_at "go"
          exact g1 (decide_eq_true (by omega)) _ _ ⟨⟨_, _, _, rfl⟩, hS⟩
      · rintro ha _ S ⟨⟨v6, v7, v8, rfl⟩, hS⟩
        rw [ha] at hk
        walk_at "go"
        exact hk _ _ .z
      · intro hf S
        rw [hf] at hk
        exact hk _ _ .z
    · intro hf S
      rw [hf] at hk
      exact hk _ _ .z
  · intro hf S
    rw [hf] at hk
    exact hk _ _ .z
end K17

set_option Elab.async false
set_option linter.all false
set_option maxRecDepth 100000
set_option maxHeartbeats 1000000
namespace K17
open PySem L2 PL NE
open ND (cutL_map cutL_len cutL_mem bz_ints LwN isNm alpha alpha_eq alpha_at getA ixD_zA ixD_bA app_list one_len getI getI_at getI_mem)
local macro_rules | `(tactic| walk_at "st1") => `(tactic| first | assumption | exact sto_last | exact sto_r0 | exact sto_r1 | exact sto_r2 | exact sto_r3 | exact sto_r4)
local macro_rules | `(tactic| walk_at "sto") => `(tactic| first | walk_at "st1" | exact sto_app (by walk_at "st1") | exact sto_app (sto_app (by walk_at "st1")))
local macro_rules | `(tactic| walk_at "sz") => `(tactic| ((try simp only [List.length_map, List.length_range, List.length_append, List.length_cons, List.length_nil]); omega))
local macro_rules | `(tactic| walk_at "go") => `(tactic| ((try (conv => whnf)); repeat ((first | (show pIf _ _ _; first | refine pIf.tt rfl ?_ | refine pIf.ff rfl ?_) | (show pReq _ _; first | refine pReq.mk rfl ?_ | refine pReq.mk (sz_le rfl) ?_ | refine pReq.mk (sz_lt rfl) ?_ | refine pReq.mk (by decide) ?_ | refine pReq.mk (Or.inr (by decide)) ?_ | refine pReq.mk (Or.inl (by decide)) ?_ | refine pReq.mk (by assumption) ?_ | refine pReq.mk (isTy_l (by walk_at "sto")) ?_ | refine pReq.mk (by omega) ?_ | refine pReq.mk (sz_lt6 (by walk_at "sz")) ?_ | refine pReq.mk (sz_le6 (by walk_at "sz")) ?_ | refine pReq.mk (by walk_at "sz") ?_) | (show pGet _ _; first | refine pGet.mk rfl ?_ | refine pGet.mk (by walk_at "sto") ?_ | refine pGet.mk (lenD_at (by walk_at "sto")) ?_ | refine pGet.mk (sqD_at (by walk_at "sto")) ?_ | refine pGet.mk (lsD_at (by walk_at "sto")) ?_ | refine pGet.mk (lsR_at (by walk_at "sto")) ?_ | refine pGet.mk (srcD_at (by walk_at "sto")) ?_ | refine pGet.mk (tyD_l (by walk_at "sto")) ?_)); (try (conv => whnf)))))
def dueD : Option Str → PyData
  | none => .none
  | some y => if y = "TooGreat" then .int 0 else if y = "NoName" then .int 1 else .int 2
def F_due : Fsp := fsp (fun n : XNet => [eN n]) (fun n => strOks n ∧ WordsOk n ∧ n.quests.length ≤ 1000) fun n => dueD (judge n)
theorem words_len {n : XNet} (h : WordsOk n) : ∀ w ∈ wordsL n, w.length ≤ 1000000 := by
  intro w hw
  rcases List.mem_append.mp hw with k | k
  · obtain ⟨s, hs, hm⟩ := List.mem_flatMap.mp k
    unfold wordsS at hm
    rcases List.mem_append.mp hm with z | z
    · rcases List.mem_append.mp z with z | z
      · obtain ⟨x, hx, rfl⟩ := List.mem_map.mp z
        exact (h.s s hs).1 x hx
      · obtain ⟨x, hx, rfl⟩ := List.mem_map.mp z
        exact ((h.s s hs).2 x hx).1
    · obtain ⟨x, hx, rfl⟩ := List.mem_map.mp z
      exact ((h.s s hs).2 x hx).2
  · obtain ⟨s, hs, hm⟩ := List.mem_flatMap.mp k
    unfold wordsQ at hm
    rcases List.mem_append.mp hm with z | z
    · exact h.q s hs w z
    · split at z
      · simp at z; subst z; exact Nat.zero_le _
      · cases z
theorem pu_due : ∀ ds S K KX, lent F_due ds S K KX → ws__law_due (frz F_great) (frz F_words_of) (frz F_is_word) (frz F_placed) { nx := fun _ S1 => K (.z .none) S1, rt := K, ex := fun y _ S1 => KX y S1 } (startE nm__law_due ds) S := by
  refine fsp_ok fun n ⟨hok, hw, hq⟩ K KX hk => ?_
  unfold judge at hk
  walk_at "go"
  refine fsp_call n (.cons .b .nil) hq ?_
  cases hs : smallB n with
  | false =>
    rw [hs] at hk
    walk_at "go"
    exact hk _ _ .z
  | true =>
    rw [hs] at hk
    walk_at "go"
    refine fsp_call n (.cons .b .nil) ⟨hs, hok⟩ ?_
    walk_at "go"
    refine pFor_allS (wordsL n) (fun x => D.z (.str x)) isNameB (.z (.int 1)) (fun env _ => ∃ v1, env = [some (.b (eN n)), v1]) (by show ((wordsL n).map PyData.str).map D.z = _; rw [List.map_map]; rfl) (fun _ _ _ => trivial) ⟨_, rfl⟩ ?_ ?_ ?_
    · rintro x _ S Q hx ⟨v1, rfl⟩ h1 h2
      walk_at "go"
      refine fsp_call x (.cons .z .nil) (words_len hw x hx) ?_
      walk_at "go"
      refine pIf.mk (fun c => ?_) (fun c => ?_)
      · walk_at "go"
        exact h2 (by simpa using c) _
      · walk_at "go"
        exact h1 (by simpa using c) _ _ ⟨_, rfl⟩
    · rintro ha _ S ⟨v1, rfl⟩
      rw [wordsL_all] at ha
      rw [ha] at hk
      walk_at "go"
      refine fsp_call n (.cons .b .nil) trivial ?_
      cases ht : thereB n with
      | false =>
        rw [ht] at hk
        walk_at "go"
        exact hk _ _ .z
      | true =>
        rw [ht] at hk
        walk_at "go"
        exact hk _ _ .z
    · intro hf S
      rw [wordsL_all] at hf
      rw [hf] at hk
      exact hk _ _ .z
def F_judged : Fsp := fsp (fun n : XNet => [eN n]) (fun n => WInv 900 n) fun _ => .bool true
theorem judge_kinds {n : XNet} {y : Str} (h : judge n = some y) : ∃ k : Nat, dueD (some y) = .int k ∧ ((y, k) = (("TooGreat" : Str), 0) ∨ (y, k) = (("NoName" : Str), 1) ∨ (y, k) = (("NoPlace" : Str), 2)) := by
  unfold judge at h
  split at h
  · split at h
    · split at h
      · cases h
      · cases h; exact ⟨2, by show (if (Str.ofString "NoPlace") = Str.ofString "TooGreat" then PyData.int 0 else if (Str.ofString "NoPlace") = Str.ofString "NoName" then .int 1 else .int 2) = _; rw [if_neg (by decide +kernel), if_neg (by decide +kernel)]; rfl, .inr (.inr rfl)⟩
    · cases h; exact ⟨1, by show (if (Str.ofString "NoName") = Str.ofString "TooGreat" then PyData.int 0 else if (Str.ofString "NoName") = Str.ofString "NoName" then .int 1 else .int 2) = _; rw [if_neg (by decide +kernel), if_pos rfl]; rfl, .inr (.inl rfl)⟩
  · cases h; exact ⟨0, by show (if (Str.ofString "TooGreat") = Str.ofString "TooGreat" then PyData.int 0 else if (Str.ofString "TooGreat") = Str.ofString "NoName" then .int 1 else .int 2) = _; rw [if_pos rfl]; rfl, .inl rfl⟩
theorem pu_judged {ec : EcK} : ∀ ds S K KX, lent F_judged ds S K KX → ws__law_judged (frr F_copy) (frz F_due) (frz F_kinds_of) (frz F_refused_as) (frr (F_net_of ec)) (frz F_is_net) { nx := fun _ S1 => K (.z .none) S1, rt := K, ex := fun y _ S1 => KX y S1 } (startE nm__law_judged ds) S := by
  refine fsp_ok fun n inv K KX hk => ?_
  have hl := inv.l
  have ht := inv.t
  have hq := inv.q
  have shn := shN inv.ok
  have fin : ∀ S, K (.z (.bool true)) S := fun S => hk _ _ .z
  walk_at "go"
  refine netr_call n (.cons .b .nil) (by omega) fun S2 b0 b1 b2 pb hB k2 g2 => ?_
  walk_at "go"
  refine fsp_call n (.cons hB.vw .nil) ⟨inv.ok, inv.w, by omega⟩ ?_
  cases hj : judge n with
  | none =>
    walk_at "go"
    refine netX_call n (.cons .b (.cons Vw.bz (.cons Vw.bz .nil))) inv.w hj fun S3 e0 e1 e2 pe hE k3 g3 => ?_
    have hB := hB.all k3
    walk_at "go"
    refine fsp_call n (.cons hE.vw (.cons hB.vw .nil)) ⟨inv.ok, by omega, by omega⟩ ?_
    walk_at "go"
    refine eq_same .b hB.vw shn (by decide) ?_
    exact fin _
  | some y =>
    obtain ⟨k, hd, hy⟩ := judge_kinds hj
    rw [hd]
    walk_at "go"
    refine fsp_call n (.cons .b (.cons Vw.bz (.cons Vw.bz .nil))) inv.w ?_
    rw [hj]
    walk_at "go"
    refine fsp_call (y, k) (.cons .z (.cons .z .nil)) hy ?_
    walk_at "go"
    refine eq_same .b hB.vw shn (by decide) ?_
    exact fin _
end K17

set_option Elab.async false
set_option linter.all false
set_option maxRecDepth 100000
set_option maxHeartbeats 1000000
namespace K17
open PySem L2 PL NE
open ND (cutL_map cutL_len cutL_mem bz_ints LwN isNm alpha alpha_eq alpha_at getA ixD_zA ixD_bA app_list one_len getI getI_at getI_mem)
local macro_rules | `(tactic| walk_at "st1") => `(tactic| first | assumption | exact sto_last | exact sto_r0 | exact sto_r1 | exact sto_r2 | exact sto_r3 | exact sto_r4)
local macro_rules | `(tactic| walk_at "sto") => `(tactic| first | walk_at "st1" | exact sto_app (by walk_at "st1") | exact sto_app (sto_app (by walk_at "st1")))
local macro_rules | `(tactic| walk_at "sz") => `(tactic| ((try simp only [List.length_map, List.length_range, List.length_append, List.length_cons, List.length_nil]); omega))
local macro_rules | `(tactic| walk_at "go") => `(tactic| ((try (conv => whnf)); repeat ((first | (show pIf _ _ _; first | refine pIf.tt rfl ?_ | refine pIf.ff rfl ?_) | (show pReq _ _; first | refine pReq.mk rfl ?_ | refine pReq.mk (sz_le rfl) ?_ | refine pReq.mk (sz_lt rfl) ?_ | refine pReq.mk (by decide) ?_ | refine pReq.mk (Or.inr (by decide)) ?_ | refine pReq.mk (Or.inl (by decide)) ?_ | refine pReq.mk (by assumption) ?_ | refine pReq.mk (isTy_l (by walk_at "sto")) ?_ | refine pReq.mk (by omega) ?_ | refine pReq.mk (sz_lt6 (by walk_at "sz")) ?_ | refine pReq.mk (sz_le6 (by walk_at "sz")) ?_ | refine pReq.mk (by walk_at "sz") ?_) | (show pGet _ _; first | refine pGet.mk rfl ?_ | refine pGet.mk (by walk_at "sto") ?_ | refine pGet.mk (lenD_at (by walk_at "sto")) ?_ | refine pGet.mk (sqD_at (by walk_at "sto")) ?_ | refine pGet.mk (lsD_at (by walk_at "sto")) ?_ | refine pGet.mk (lsR_at (by walk_at "sto")) ?_ | refine pGet.mk (srcD_at (by walk_at "sto")) ?_ | refine pGet.mk (tyD_l (by walk_at "sto")) ?_)); (try (conv => whnf)))))
def F_laid : Fsr := fsrq (fun a : List Int × Nat => [.list (a.1.map .int), .int a.2]) (fun a => a.1.length ≤ 63) (fun _ n => WInv 900 n) rN
theorem cut_len2 {ns : List Int} {lo hi : Option Int} (h : ns.length ≤ 63) : (cutL ns lo hi).length ≤ 63 := Nat.le_trans (cutL_len ns lo hi) h
section
variable {K : K1} {KX : KF} {ns : List Int} {last : Nat} {ws : List Str}
theorem laid2 (hn : ns.length ≤ 63) (hk : ∀ (d : D) (S' : Sto) (b : XNet) (U : List Nat), VR S' U d (rN b) U → U.Nodup → WInv 900 b → K d S') (w9 : ws.length = 9) (hw : ∀ x ∈ ws, isNm x) {n0 n1 n2 : Nat} {ps : List (Nat × Nat)} {n : XNet} {S : Sto} (hA : NetAt S n0 n1 n2 ps n) (inv : WInv 20 n) (v4 : Option D) :
    _law_laid_r2 F_lay (ends K KX) [some (.b (.list (ns.map .int))), some (.z (.int last)), some (.z (.list (ws.map .str))), some (.t [.r n0, .r n1, .r n2]), v4, none] S := by
  walk_at "go"
  rw [bz_ints, cutL_map]
  have hsl0 : ∀ m ∈ nPl n0 n1 n2 ps, m ≠ S.length := fun m hm => Nat.ne_of_lt (hA.lt m hm)
  have hlen := cut_len2 (lo := some 4) (hi := some (last : Int)) hn
  generalize hsl : (cutL ns (some 4) (some (last : Int))).map (fun i => D.z (.int i)) = sl
  refine pFor_xs (cutL ns (some 4) (some (last : Int))) (fun i => .z (.int i)) hsl.symm (fun i env S1 => ∃ v5 ps n, env = [some (.b (.list (ns.map .int))), some (.z (.int last)), some (.z (.list (ws.map .str))), some (.t [.r n0, .r n1, .r n2]), v4, v5] ∧ S1[S.length]? = some (.lst sl) ∧ NetAt S1 n0 n1 n2 ps n ∧ WInv (20 + i) n ∧ ∀ m ∈ nPl n0 n1 n2 ps, m ≠ S.length) ⟨_, ps, n, rfl, sto_last, hA.app, inv, hsl0⟩ ?_ ?_ ?_
  · rintro i _ _ _ ⟨_, _, _, _, h, _⟩
    exact h
  · rintro i x _ S2 Q hx ⟨v5, ps, n, rfl, hs, hB, hJ, hne⟩ hQ
    have hi := (List.getElem?_eq_some_iff.mp hx).1
    have hlt := (List.getElem?_eq_some_iff.mp hs).1
    walk_at "go"
    refine fsm_call ⟨n0, n1, n2, ps, n, ws, x, 20 + i⟩ ⟨rfl, hB, w9, hw, hJ, by show 20 + i ≤ 1000; omega⟩ fun d S3 ⟨_, l1, l2, ps', n', l3, l4, l5⟩ => ?_
    dsimp only at l2 l3 l4 l5
    walk_at "go"
    refine hQ _ _ ⟨_, ps', n', rfl, l2 _ _ (fun h => hne _ h rfl) hs, l3, l4, fun m hm => ?_⟩
    rcases l5 m hm with h | h
    · exact hne m h
    · omega
  · rintro _ S2 ⟨v5, ps, n, rfl, _, hB, hJ, _⟩
    walk_at "go"
    obtain ⟨U, hv, hu⟩ := hB.vr
    exact hk _ _ n U hv hu (hJ.up (by omega))
theorem laid3 (hn : ns.length ≤ 63) (hk : ∀ (d : D) (S' : Sto) (b : XNet) (U : List Nat), VR S' U d (rN b) U → U.Nodup → WInv 900 b → K d S') (w9 : ws.length = 9) (hw : ∀ x ∈ ws, isNm x) {n0 n1 n2 : Nat} {ps : List (Nat × Nat)} {n : XNet} {S : Sto} (hA : NetAt S n0 n1 n2 ps n) (inv : WInv 10 n) (v4 : Option D) :
    _law_laid_r3 (frz F_cell) F_lay (ends K KX) [some (.b (.list (ns.map .int))), some (.z (.int last)), some (.z (.list (ws.map .str))), some (.t [.r n0, .r n1, .r n2]), v4, none] S := by
  have fin : ∀ (ps : List (Nat × Nat)) (n : XNet) (S : Sto) (_ : NetAt S n0 n1 n2 ps n) (_ : WInv 20 n) (v4 : Option D), _law_laid_r2 F_lay (ends K KX) [some (.b (.list (ns.map .int))), some (.z (.int last)), some (.z (.list (ws.map .str))), some (.t [.r n0, .r n1, .r n2]), v4, none] S := fun ps n S h1 h2 v4 => laid2 hn hk w9 hw h1 h2 v4
  unfold _law_laid_r3
  generalize _law_laid_r2 F_lay = r2 at fin ⊢
  have hlst := hA.l
  walk_at "go"
  have hA' := hA.app (T := [Ob.lst []])
  refine eq_dec (.r (sto_app hlst) hA'.i.vws) (.r sto_last .nil) (n := 4) (.lists fun s hs => shSc (inv.ok.1 s hs)) (.list fun d hd => by cases hd) (by decide) (eqv_nil _ _) ?_
  walk_at "go"
  refine pIf.mk (fun _ => ?_) (fun _ => ?_)
  · walk_at "go"
    refine fsp_call (ns, 3) (.cons .b (.cons .z .nil)) (show (0 : Int) ≤ 3 by decide) ?_
    walk_at "go"
    have hb := fmod_b (a := cellAt ns 3) (b := 5) (by decide)
    have htn : ((cellAt ns 3).fmod 5).toNat ≤ 4 := by omega
    refine pReq.mk (show -1000000 < (cellAt ns 3).fmod 5 ∧ (cellAt ns 3).fmod 5 < 1000000 by omega) ?_
    refine pFor_range (fun i env S => ∃ v4 n, env = [some (.b (.list (ns.map .int))), some (.z (.int last)), some (.z (.list (ws.map .str))), some (.t [.r n0, .r n1, .r n2]), v4, none] ∧ NetAt S n0 n1 n2 ps n ∧ WInv (10 + i) n) ⟨_, n, rfl, hA', inv⟩ ?_ ?_
    · rintro i _ S Q hi ⟨v4, n, rfl, hB, hJ⟩ hQ
      have hi : i < ((cellAt ns 3).fmod 5).toNat := hi
      have hq := hB.q
      have hql := hJ.q
      have cm : CMul 2 (0 + (i : Int)) := .inl (by omega)
      walk_at "go"
      refine pGet.ex (ixD_zA (by rw [w9]; omega)) fun d ⟨x, hx, hd⟩ => ?_
      subst hd
      walk_at "go"
      refine pGet.ex (ixD_zA (by rw [w9]; omega)) fun d ⟨y, hy, hd⟩ => ?_
      subst hd
      walk_at "go"
      have hP := hB.putQ (xs := n.quests ++ [⟨0, 0 + (i : Int), [x, y]⟩])
      rw [List.map_append] at hP
      refine hQ _ _ ⟨_, _, rfl, hP, hJ.addQ ⟨by show (2 : Nat) ≤ 7; decide, fun z hz => ?_⟩⟩
      simp only [List.mem_cons, List.not_mem_nil, or_false] at hz
      rcases hz with rfl | rfl
      · exact isNm.sh (hw _ hx)
      · exact isNm.sh (hw _ hy)
    · rintro _ S ⟨v4, n, rfl, hB, hJ⟩
      exact fin ps n S hB (hJ.up (by show 10 + ((cellAt ns 3).fmod 5).toNat ≤ 20; omega)) _
  · walk_at "go"
    exact fin ps n _ hA' (inv.up (by decide)) _
end
theorem pu_laid : ∀ ds S K KX, lentR F_laid ds S K KX → ws__law_laid (frz F_cell) (frz F_words) F_lay { nx := fun _ S1 => K (.z .none) S1, rt := K, ex := fun y _ S1 => KX y S1 } (startE nm__law_laid ds) S := by
  refine fsrq_ok fun ⟨ns, last⟩ hn K KX hk => ?_
  dsimp only at hn
  have fin : ∀ (ws : List Str) (_ : ws.length = 9) (_ : ∀ x ∈ ws, isNm x) (n0 n1 n2 : Nat) (ps : List (Nat × Nat)) (n : XNet) (S : Sto) (_ : NetAt S n0 n1 n2 ps n) (_ : WInv 10 n) (v4 : Option D), _law_laid_r3 (frz F_cell) F_lay (ends K KX) [some (.b (.list (ns.map .int))), some (.z (.int last)), some (.z (.list (ws.map .str))), some (.t [.r n0, .r n1, .r n2]), v4, none] S := fun ws w9 hw n0 n1 n2 ps n S h1 h2 v4 => laid3 hn hk w9 hw h1 h2 v4
  unfold ws__law_laid
  generalize _law_laid_r3 (frz F_cell) F_lay = r3 at fin ⊢
  walk_at "go"
  refine fsp_call (ns, 0) (.cons .b (.cons .z .nil)) (Int.le_refl _) ?_
  walk_at "go"
  refine fsq_call ((cellAt ns 0).fmod 1000000000, 9) (.cons .z (.cons .z .nil)) ⟨(fmod_b (by decide)).1, show (9 : Nat) ≤ 100 by decide, show (2 : Nat) ≤ 9 by decide⟩ fun ws ⟨w9, hw⟩ => ?_
  dsimp only at w9
  walk_at "go"
  refine fsp_call (ns, 1) (.cons .b (.cons .z .nil)) (show (0 : Int) ≤ 1 by decide) ?_
  walk_at "go"
  have hb := fmod_b (a := cellAt ns 1) (b := 5) (by decide)
  obtain ⟨m, hm⟩ : ∃ n : Nat, (cellAt ns 1).fmod 5 = (n : Int) := ⟨((cellAt ns 1).fmod 5).toNat, by omega⟩
  rw [hm] at hb ⊢
  refine pReq.mk (by omega) ?_
  have em : ((m : Nat) : Int).toNat = m := by omega
  rw [em]
  refine pLc_emp (by omega) ?_
  have hp := emp_plcs 1 m
  have hi1 : ScsIn ([] ++ Ob.lst ((emp (([] : Sto).length + 1) m).map scD) :: cps (List.replicate m noSc)) (emp (([] : Sto).length + 1) m) (List.replicate m noSc) := by
    have := cps_in (S := [Ob.lst ((emp 1 m).map scD)]) (T := []) (L := 1) rfl (List.replicate m noSc)
    rw [List.append_nil, List.length_replicate] at this
    exact this
  have hl1 : ([] ++ Ob.lst ((emp (([] : Sto).length + 1) m).map scD) :: cps (List.replicate m noSc))[0]? = some (.lst ((emp (([] : Sto).length + 1) m).map scD)) := rfl
  have hlen : ([] ++ Ob.lst ((emp (([] : Sto).length + 1) m).map scD) :: cps (List.replicate m noSc)).length = 1 + 2 * m := by
    rw [List.nil_append, List.length_cons, cps_len, List.length_replicate]; omega
  generalize ([] ++ Ob.lst ((emp (([] : Sto).length + 1) m).map scD) :: cps (List.replicate m noSc)) = S0 at hi1 hl1 hlen ⊢
  change ScsIn S0 (emp 1 m) _ at hi1
  change S0[0]? = some (.lst ((emp 1 m).map scD)) at hl1
  generalize emp 1 m = ps at hp hi1 hl1
  walk_at "go"
  have hA : NetAt (S0 ++ [Ob.lst []] ++ [Ob.lst []]) 0 S0.length (S0 ++ [Ob.lst []]).length ps ⟨List.replicate m noSc, [], []⟩ := by
    refine netAt_mk (sto_app (sto_app hl1)) hi1.app.app (sto_app sto_last) sto_last ?_
    have hlt := hp.1
    have e2 : (S0 ++ [Ob.lst []]).length = 2 + 2 * m := by rw [List.length_append, hlen]; show 1 + 2 * m + 1 = _; omega
    rw [e2, hlen]
    refine List.nodup_cons.mpr ⟨?_, List.nodup_cons.mpr ⟨?_, List.nodup_cons.mpr ⟨?_, hp.2⟩⟩⟩
    · simp only [List.mem_cons, not_or]
      exact ⟨by omega, by omega, fun z => by have := hlt _ z; omega⟩
    · simp only [List.mem_cons, not_or]
      exact ⟨by omega, fun z => by have := hlt _ z; omega⟩
    · exact fun z => by have := hlt _ z; omega
  have inv : WInv 5 ⟨List.replicate m noSc, [], []⟩ := by
    refine ⟨⟨fun s hs => ?_, fun t ht => (by cases ht), fun q hq => (by cases hq)⟩, ⟨fun s hs => ?_, fun q hq => (by cases hq)⟩, by simp; omega, Nat.zero_le _, Nat.zero_le _, fun s hs => ?_, fun q hq => (by cases hq)⟩
    all_goals
      rw [List.eq_of_mem_replicate hs]
    · exact ⟨fun x hx => (by cases hx), fun x hx => (by cases hx)⟩
    · exact ⟨fun x hx => (by cases hx), fun x hx => (by cases hx)⟩
    · exact ⟨Nat.zero_le _, Nat.zero_le _⟩
  generalize (S0 ++ [Ob.lst []] ++ [Ob.lst []]) = S1 at hA ⊢
  generalize (S0 ++ [Ob.lst []]).length = n2 at hA ⊢
  generalize S0.length = n1 at hA ⊢
  refine fsp_call (ns, 2) (.cons .b (.cons .z .nil)) (show (0 : Int) ≤ 2 by decide) ?_
  walk_at "go"
  have hb2 := fmod_b (a := cellAt ns 2) (b := 5) (by decide)
  obtain ⟨m2, hm2⟩ : ∃ n : Nat, (cellAt ns 2).fmod 5 = (n : Int) := ⟨((cellAt ns 2).fmod 5).toNat, by omega⟩
  rw [hm2] at hb2 ⊢
  refine pReq.mk (by omega) ?_
  have em2 : ((m2 : Nat) : Int).toNat = m2 := by omega
  rw [em2]
  refine pFor_range (fun i env S => ∃ v4 n, env = [some (.b (.list (ns.map .int))), some (.z (.int last)), some (.z (.list (ws.map .str))), some (.t [.r 0, .r n1, .r n2]), v4, none] ∧ NetAt S 0 n1 n2 ps n ∧ WInv (5 + i) n) ⟨_, _, rfl, hA, inv⟩ ?_ ?_
  · rintro i _ S Q hi ⟨v4, n, rfl, hB, hJ⟩ hQ
    have ht := hB.t
    have htl := hJ.t
    walk_at "go"
    have hP := hB.putT (xs := n.things ++ [⟨"plain", 0⟩])
    rw [List.map_append] at hP
    exact hQ _ _ ⟨_, _, rfl, hP, hJ.addT (by show PyData.strOk "plain" = true; decide +kernel)⟩
  · rintro _ S ⟨v4, n, rfl, hB, hJ⟩
    exact fin ws w9 hw 0 n1 n2 ps n S hB (hJ.up (by omega)) v4
theorem pu_law : ∀ ds S K KX, lawSp ds S K KX → ws_law (frr F_laid) (frz F_judged) { nx := fun _ S1 => K (.z .none) S1, rt := K, ex := fun y _ S1 => KX y S1 } (startE nm_law ds) S := by
  rintro ds S K KX ⟨ns, rfl, rfl, hn, hk⟩
  walk_at "go"
  rw [List.length_map]
  refine netq_call (ns, ns.length) (.cons .b (.cons .z .nil)) hn fun n inv S1 a0 a1 a2 pa hA _ _ => ?_
  walk_at "go"
  refine fsp_call n (.cons hA.vw .nil) inv ?_
  walk_at "go"
  rw [List.length_map]
  have e : (if (0 : Int) > (ns.length : Int) - 1 then (0 : Int) else (ns.length : Int) - 1) = ((ns.length - 1 : Nat) : Int) := by split <;> omega
  rw [e]
  refine netq_call (ns, ns.length - 1) (.cons .b (.cons .z .nil)) hn fun n2 inv2 S2 b0 b1 b2 pb hB _ _ => ?_
  walk_at "go"
  refine fsp_call n2 (.cons hB.vw .nil) inv2 ?_
  exact hk _
end K17

set_option Elab.async false
set_option linter.all false
set_option maxHeartbeats 4000000
set_option maxRecDepth 100000
namespace K17
open PySem PySem.Spec PyProof.Rows L2 PL
def fn : List He.DefD := [dd "is_name" st_is_name, dd "small_enough" st_small_enough, dd "all_named" st_all_named, dd "step_there" st_step_there, dd "telling_there" st_telling_there, dd "thing_there" st_thing_there, dd "all_there" st_all_there, dd "net_of" st_net_of, dd "_law_cell_at" st__law_cell_at, dd "_law_words" st__law_words, dd "_law_kinds_of" st__law_kinds_of, dd "_law_refused_as" st__law_refused_as, dd "_law_is_net" st__law_is_net, dd "_law_copy" st__law_copy, dd "_law_number" st__law_number, dd "_law_word" st__law_word, dd "_law_kind" st__law_kind, dd "_law_question" st__law_question, dd "_law_thing" st__law_thing, dd "_law_step" st__law_step, dd "_law_telling" st__law_telling, dd "_law_lay" st__law_lay, dd "_law_great" st__law_great, dd "_law_is_word" st__law_is_word, dd "_law_words_of" st__law_words_of, dd "_law_there" st__law_there, dd "_law_placed" st__law_placed, dd "_law_due" st__law_due, dd "_law_judged" st__law_judged, dd "_law_laid" st__law_laid, dd "law" st_law]
def fa0 : List He.Fa := [.glo "is_name", .glo "small_enough", .glo "all_named", .glo "step_there", .glo "telling_there", .glo "thing_there", .glo "all_there", .glo "net_of", .glo "_law_cell_at", .glo "_law_words", .glo "_law_kinds_of", .glo "_law_refused_as", .glo "_law_is_net", .glo "_law_copy", .glo "_law_number", .glo "_law_word", .glo "_law_kind", .glo "_law_question", .glo "_law_thing", .glo "_law_step", .glo "_law_telling", .glo "_law_lay", .glo "_law_great", .glo "_law_is_word", .glo "_law_words_of", .glo "_law_there", .glo "_law_placed", .glo "_law_due", .glo "_law_judged", .glo "_law_laid"]
def fa1 : List He.Fa := [.glo "law", .free "str", .free "isinstance", .free "len", .free "list", .free "range", .free "ValueError", .free "tuple", .free "int", .free "any", .free "all", .free "max", .str "LETTERS" "abcdefghijklmnopqrstuvwxyz", .int "MOST_SCOPES" 40, .int "MOST_THINGS" 80, .int "MOST_QUESTIONS" 60, .int "MOST_STEPS" 8, .int "MOST_TELLINGS" 12, .int "MOST_NAMES" 6, .glo "TooGreat", .glo "NoName", .glo "NoPlace", .glo "PathError", .glo "Twice", .glo "Tangled", .glo "NoText", .glo "NoRow", .glo "Ring", .glo "Caught"]
def fa : List He.Fa := fa0 ++ fa1
def loose : List PySem.Str := ("PathError" : PySem.Str) :: ("TooGreat" : PySem.Str) :: ("NoName" : PySem.Str) :: ("NoPlace" : PySem.Str) :: ("Twice" : PySem.Str) :: ("Tangled" : PySem.Str) :: ("NoText" : PySem.Str) :: ("NoRow" : PySem.Str) :: ("Ring" : PySem.Str) :: ("Caught" : PySem.Str) :: ("LETTERS" : PySem.Str) :: ("is_name" : PySem.Str) :: ("MOST_SCOPES" : PySem.Str) :: ("MOST_THINGS" : PySem.Str) :: ("MOST_QUESTIONS" : PySem.Str) :: ("MOST_STEPS" : PySem.Str) :: ("MOST_TELLINGS" : PySem.Str) :: ("MOST_NAMES" : PySem.Str) :: ("small_enough" : PySem.Str) :: ("all_named" : PySem.Str) :: ("step_there" : PySem.Str) :: ("telling_there" : PySem.Str) :: ("thing_there" : PySem.Str) :: ("all_there" : PySem.Str) :: ("net_of" : PySem.Str) :: ("_law_cell_at" : PySem.Str) :: ("_law_words" : PySem.Str) :: ("_law_kinds_of" : PySem.Str) :: ("_law_refused_as" : PySem.Str) :: ("_law_is_net" : PySem.Str) :: ("_law_copy" : PySem.Str) :: ("_law_number" : PySem.Str) :: ("_law_word" : PySem.Str) :: ("_law_kind" : PySem.Str) :: ("_law_question" : PySem.Str) :: ("_law_thing" : PySem.Str) :: ("_law_step" : PySem.Str) :: ("_law_telling" : PySem.Str) :: ("_law_lay" : PySem.Str) :: ("_law_great" : PySem.Str) :: ("_law_is_word" : PySem.Str) :: ("_law_words_of" : PySem.Str) :: ("_law_there" : PySem.Str) :: ("_law_placed" : PySem.Str) :: ("_law_due" : PySem.Str) :: ("_law_judged" : PySem.Str) :: ("_law_laid" : PySem.Str) :: []
abbrev R : PySem.W.OpenRow := PySem.W.OpenLaw.row PySem.Challenge.rw_namepaths_k17_whole_nets_judged
def raised : List Str := ("TooGreat" : Str) :: ("NoName" : Str) :: ("NoPlace" : Str) :: []
def handled : List Str := ("PathError" : Str) :: []
def checked : List Str := ("ValueError" : Str) :: ("TooGreat" : Str) :: ("NoName" : Str) :: ("NoPlace" : Str) :: ("Twice" : Str) :: ("Tangled" : Str) :: ("NoText" : Str) :: ("NoRow" : Str) :: ("Ring" : Str) :: ("Caught" : Str) :: []
abbrev hk : PySem.W.Hook := hookQ 4 (bfE raised handled checked) fa fn
def ob (s : PySem.W.SharedT) : Bool × He.AlD := obsQG 4 (bfE raised handled checked) fa fn (HandSHeadRun.getT s)
theorem ob_eq (s : PySem.W.SharedT) : ob s = hk.obs s.abs := obsQG_eq (HandSHeadRun.getT_eq s)
theorem run (w : World) : HandSHeadRun.RunEq R (PySem.W.view R.prog [51]) hk ob 8000 loose w := by
  intro os
  kernel_rfl
theorem facts {P : Program} {w : World} {K : PySem.W.Frag} {h : Heap} {mg : Str → Option Value} (X : K.In h) (G : h.Ns mainGlobals mg) (c0 : SaysQ (bfE raised handled checked) fa fn K) :
    ∃ fd, FunD K "law" "law" (defArgs st_law) (defBody st_law) (defScope st_law) [] [] (He.fAd K ("law", none)) fd ∧ mg ("law" : Str) = some (.ref (He.fAd K ("law", none))) ∧ ∀ base : Heap, FnOk P w K mg base (L2.CX P w) 6 (He.fAd K ("law", none)) fd ["_law_script"] (spOf lawSp) := by
  have c := c0.sd
  have hb := c0.bf
  have G_TooGreat : mg "TooGreat" = some (.ref (He.ga K "TooGreat")) := He.glo_ok X G (c.fact 49 (f := .glo "TooGreat") rfl)
  have G_NoName : mg "NoName" = some (.ref (He.ga K "NoName")) := He.glo_ok X G (c.fact 50 (f := .glo "NoName") rfl)
  have G_NoPlace : mg "NoPlace" = some (.ref (He.ga K "NoPlace")) := He.glo_ok X G (c.fact 51 (f := .glo "NoPlace") rfl)
  have G_PathError : mg "PathError" = some (.ref (He.ga K "PathError")) := He.glo_ok X G (c.fact 52 (f := .glo "PathError") rfl)
  have G_Twice : mg "Twice" = some (.ref (He.ga K "Twice")) := He.glo_ok X G (c.fact 53 (f := .glo "Twice") rfl)
  have G_Tangled : mg "Tangled" = some (.ref (He.ga K "Tangled")) := He.glo_ok X G (c.fact 54 (f := .glo "Tangled") rfl)
  have G_NoText : mg "NoText" = some (.ref (He.ga K "NoText")) := He.glo_ok X G (c.fact 55 (f := .glo "NoText") rfl)
  have G_NoRow : mg "NoRow" = some (.ref (He.ga K "NoRow")) := He.glo_ok X G (c.fact 56 (f := .glo "NoRow") rfl)
  have G_Ring : mg "Ring" = some (.ref (He.ga K "Ring")) := He.glo_ok X G (c.fact 57 (f := .glo "Ring") rfl)
  have G_Caught : mg "Caught" = some (.ref (He.ga K "Caught")) := He.glo_ok X G (c.fact 58 (f := .glo "Caught") rfl)
  have EP : EcP (ecOf K raised) raised handled checked := ec_p hb
  have T : Txt K mg (ecOf K raised) := ⟨He.free_ok X G (c.fact 31 (f := .free "str") rfl), He.free_ok X G (c.fact 32 (f := .free "isinstance") rfl), He.free_ok X G (c.fact 33 (f := .free "len") rfl), He.free_ok X G (c.fact 34 (f := .free "list") rfl), He.free_ok X G (c.fact 35 (f := .free "range") rfl), He.free_ok X G (c.fact 36 (f := .free "ValueError") rfl), He.free_ok X G (c.fact 37 (f := .free "tuple") rfl), He.free_ok X G (c.fact 38 (f := .free "int") rfl), He.free_ok X G (c.fact 39 (f := .free "any") rfl), He.free_ok X G (c.fact 40 (f := .free "all") rfl), He.free_ok X G (c.fact 41 (f := .free "max") rfl), He.str_ok X G (c.fact 42 (f := .str "LETTERS" "abcdefghijklmnopqrstuvwxyz") rfl), He.int_ok X G (c.fact 43 (f := .int "MOST_SCOPES" 40) rfl), He.int_ok X G (c.fact 44 (f := .int "MOST_THINGS" 80) rfl), He.int_ok X G (c.fact 45 (f := .int "MOST_QUESTIONS" 60) rfl), He.int_ok X G (c.fact 46 (f := .int "MOST_STEPS" 8) rfl), He.int_ok X G (c.fact 47 (f := .int "MOST_TELLINGS" 12) rfl), He.int_ok X G (c.fact 48 (f := .int "MOST_NAMES" 6) rfl), ec_F hb (by decide +kernel) G_TooGreat, ec_F hb (by decide +kernel) G_NoName, ec_F hb (by decide +kernel) G_NoPlace, ec_m hb (by decide +kernel), ec_k hb (by decide +kernel) (by decide +kernel), ec_k hb (by decide +kernel) (by decide +kernel), ec_k hb (by decide +kernel) (by decide +kernel), ec_k hb (by decide +kernel) (by decide +kernel), ec_k hb (by decide +kernel) (by decide +kernel), ec_k hb (by decide +kernel) (by decide +kernel), ec_k hb (by decide +kernel) (by decide +kernel), ec_k hb (by decide +kernel) (by decide +kernel), ec_k hb (by decide +kernel) (by decide +kernel), ec_ve hb (by decide +kernel), G_PathError, G_TooGreat, G_NoName, G_NoPlace, G_Twice, G_Tangled, G_NoText, G_NoRow, G_Ring, G_Caught, ec_c hb⟩
  obtain ⟨fd_is_name, D_is_name⟩ := c.def_ 0 (d := dd "is_name" st_is_name) rfl
  obtain ⟨fd_small_enough, D_small_enough⟩ := c.def_ 1 (d := dd "small_enough" st_small_enough) rfl
  obtain ⟨fd_all_named, D_all_named⟩ := c.def_ 2 (d := dd "all_named" st_all_named) rfl
  obtain ⟨fd_step_there, D_step_there⟩ := c.def_ 3 (d := dd "step_there" st_step_there) rfl
  obtain ⟨fd_telling_there, D_telling_there⟩ := c.def_ 4 (d := dd "telling_there" st_telling_there) rfl
  obtain ⟨fd_thing_there, D_thing_there⟩ := c.def_ 5 (d := dd "thing_there" st_thing_there) rfl
  obtain ⟨fd_all_there, D_all_there⟩ := c.def_ 6 (d := dd "all_there" st_all_there) rfl
  obtain ⟨fd_net_of, D_net_of⟩ := c.def_ 7 (d := dd "net_of" st_net_of) rfl
  obtain ⟨fd__law_cell_at, D__law_cell_at⟩ := c.def_ 8 (d := dd "_law_cell_at" st__law_cell_at) rfl
  obtain ⟨fd__law_words, D__law_words⟩ := c.def_ 9 (d := dd "_law_words" st__law_words) rfl
  obtain ⟨fd__law_kinds_of, D__law_kinds_of⟩ := c.def_ 10 (d := dd "_law_kinds_of" st__law_kinds_of) rfl
  obtain ⟨fd__law_refused_as, D__law_refused_as⟩ := c.def_ 11 (d := dd "_law_refused_as" st__law_refused_as) rfl
  obtain ⟨fd__law_is_net, D__law_is_net⟩ := c.def_ 12 (d := dd "_law_is_net" st__law_is_net) rfl
  obtain ⟨fd__law_copy, D__law_copy⟩ := c.def_ 13 (d := dd "_law_copy" st__law_copy) rfl
  obtain ⟨fd__law_number, D__law_number⟩ := c.def_ 14 (d := dd "_law_number" st__law_number) rfl
  obtain ⟨fd__law_word, D__law_word⟩ := c.def_ 15 (d := dd "_law_word" st__law_word) rfl
  obtain ⟨fd__law_kind, D__law_kind⟩ := c.def_ 16 (d := dd "_law_kind" st__law_kind) rfl
  obtain ⟨fd__law_question, D__law_question⟩ := c.def_ 17 (d := dd "_law_question" st__law_question) rfl
  obtain ⟨fd__law_thing, D__law_thing⟩ := c.def_ 18 (d := dd "_law_thing" st__law_thing) rfl
  obtain ⟨fd__law_step, D__law_step⟩ := c.def_ 19 (d := dd "_law_step" st__law_step) rfl
  obtain ⟨fd__law_telling, D__law_telling⟩ := c.def_ 20 (d := dd "_law_telling" st__law_telling) rfl
  obtain ⟨fd__law_lay, D__law_lay⟩ := c.def_ 21 (d := dd "_law_lay" st__law_lay) rfl
  obtain ⟨fd__law_great, D__law_great⟩ := c.def_ 22 (d := dd "_law_great" st__law_great) rfl
  obtain ⟨fd__law_is_word, D__law_is_word⟩ := c.def_ 23 (d := dd "_law_is_word" st__law_is_word) rfl
  obtain ⟨fd__law_words_of, D__law_words_of⟩ := c.def_ 24 (d := dd "_law_words_of" st__law_words_of) rfl
  obtain ⟨fd__law_there, D__law_there⟩ := c.def_ 25 (d := dd "_law_there" st__law_there) rfl
  obtain ⟨fd__law_placed, D__law_placed⟩ := c.def_ 26 (d := dd "_law_placed" st__law_placed) rfl
  obtain ⟨fd__law_due, D__law_due⟩ := c.def_ 27 (d := dd "_law_due" st__law_due) rfl
  obtain ⟨fd__law_judged, D__law_judged⟩ := c.def_ 28 (d := dd "_law_judged" st__law_judged) rfl
  obtain ⟨fd__law_laid, D__law_laid⟩ := c.def_ 29 (d := dd "_law_laid" st__law_laid) rfl
  obtain ⟨fd_law, D_law⟩ := c.def_ 30 (d := dd "law" st_law) rfl
  refine ⟨fd_law, D_law, He.glo_ok X G (c.fact 30 (f := .glo "law") rfl), fun base => ?_⟩
  have c_is_name : Fc P w K mg base "is_name" 1 ["thing"] (frz F_is_name) := Fc.frz (fc_mk (st := st_is_name) X G D_is_name (ok_is_name (fun_of D_is_name) T (by first | exact fsp_len fun _ => rfl | exact fsq_len fun _ => rfl) pu_is_name) (c.fact 0 (f := .glo "is_name") rfl) fun _ _ _ _ _ _ us hl => match us, hl with | [_], _ => rfl)
  have c_small_enough : Fc P w K mg base "small_enough" 1 ["scopes", "things", "questions"] (frz F_small_enough) := Fc.frz (fc_mk (st := st_small_enough) X G D_small_enough (ok_small_enough (fun_of D_small_enough) T (by first | exact fsp_len fun _ => rfl | exact fsq_len fun _ => rfl) pu_small_enough) (c.fact 1 (f := .glo "small_enough") rfl) fun _ _ _ _ _ _ us hl => match us, hl with | [_, _, _], _ => rfl)
  have c_step_there : Fc P w K mg base "step_there" 1 ["step", "scopes", "questions"] (frz F_step_there) := Fc.frz (fc_mk (st := st_step_there) X G D_step_there (ok_step_there (fun_of D_step_there) T (by first | exact fsp_len fun _ => rfl | exact fsq_len fun _ => rfl) pu_step_there) (c.fact 3 (f := .glo "step_there") rfl) fun _ _ _ _ _ _ us hl => match us, hl with | [_, _, _], _ => rfl)
  have c_telling_there : Fc P w K mg base "telling_there" 1 ["telling", "things", "questions"] (frz F_telling_there) := Fc.frz (fc_mk (st := st_telling_there) X G D_telling_there (ok_telling_there (fun_of D_telling_there) T (by first | exact fsp_len fun _ => rfl | exact fsq_len fun _ => rfl) pu_telling_there) (c.fact 4 (f := .glo "telling_there") rfl) fun _ _ _ _ _ _ us hl => match us, hl with | [_, _, _], _ => rfl)
  have c_thing_there : Fc P w K mg base "thing_there" 1 ["thing", "scopes", "questions"] (frz F_thing_there) := Fc.frz (fc_mk (st := st_thing_there) X G D_thing_there (ok_thing_there (fun_of D_thing_there) T (by first | exact fsp_len fun _ => rfl | exact fsq_len fun _ => rfl) pu_thing_there) (c.fact 5 (f := .glo "thing_there") rfl) fun _ _ _ _ _ _ us hl => match us, hl with | [_, _, _], _ => rfl)
  have c__law_cell_at : Fc P w K mg base "_law_cell_at" 1 ["_law_script", "_law_k"] (frz F_cell) := Fc.frz (fc_mk (st := st__law_cell_at) X G D__law_cell_at (ok__law_cell_at (fun_of D__law_cell_at) T (by first | exact fsp_len fun _ => rfl | exact fsq_len fun _ => rfl) pu_cell) (c.fact 8 (f := .glo "_law_cell_at") rfl) fun _ _ _ _ _ _ us hl => match us, hl with | [_, _], _ => rfl)
  have c__law_words : Fc P w K mg base "_law_words" 1 ["_law_cell", "_law_many"] (frz F_words) := Fc.frz (fc_mk (st := st__law_words) X G D__law_words (ok__law_words (fun_of D__law_words) T (by first | exact fsp_len fun _ => rfl | exact fsq_len fun _ => rfl) pu_words) (c.fact 9 (f := .glo "_law_words") rfl) fun _ _ _ _ _ _ us hl => match us, hl with | [_, _], _ => rfl)
  have c__law_refused_as : Fc P w K mg base "_law_refused_as" 1 ["_law_kinds", "_law_due_here"] (frz F_refused_as) := Fc.frz (fc_mk (st := st__law_refused_as) X G D__law_refused_as (ok__law_refused_as (fun_of D__law_refused_as) T (by first | exact fsp_len fun _ => rfl | exact fsq_len fun _ => rfl) pu_refused_as) (c.fact 11 (f := .glo "_law_refused_as") rfl) fun _ _ _ _ _ _ us hl => match us, hl with | [_, _], _ => rfl)
  have c__law_is_net : Fc P w K mg base "_law_is_net" 1 ["_law_net", "_law_parts"] (frz F_is_net) := Fc.frz (fc_mk (st := st__law_is_net) X G D__law_is_net (ok__law_is_net (fun_of D__law_is_net) T (by first | exact fsp_len fun _ => rfl | exact fsq_len fun _ => rfl) pu_is_net) (c.fact 12 (f := .glo "_law_is_net") rfl) fun _ _ _ _ _ _ us hl => match us, hl with | [_, _], _ => rfl)
  have c__law_copy : Fc P w K mg base "_law_copy" 1 ["_law_parts"] (frr F_copy) := Fc.frr (fc_mk (st := st__law_copy) X G D__law_copy (ok__law_copy (fun_of D__law_copy) T (by first | exact fsr_len fun _ => rfl | exact fsrq_len fun _ => rfl | exact fsrX_len fun _ => rfl) pu_copy) (c.fact 13 (f := .glo "_law_copy") rfl) fun _ _ _ _ _ _ us hl => match us, hl with | [_], _ => rfl)
  have c__law_number : Fc P w K mg base "_law_number" 1 ["_law_number_here", "_law_many", "_law_bad"] (frz F_number) := Fc.frz (fc_mk (st := st__law_number) X G D__law_number (ok__law_number (fun_of D__law_number) T (by first | exact fsp_len fun _ => rfl | exact fsq_len fun _ => rfl) pu_number) (c.fact 14 (f := .glo "_law_number") rfl) fun _ _ _ _ _ _ us hl => match us, hl with | [_, _, _], _ => rfl)
  have c__law_word : Fc P w K mg base "_law_word" 1 ["_law_number_here", "_law_words_here", "_law_bad"] (frz F_word) := Fc.frz (fc_mk (st := st__law_word) X G D__law_word (ok__law_word (fun_of D__law_word) T (by first | exact fsp_len fun _ => rfl | exact fsq_len fun _ => rfl) pu_word) (c.fact 15 (f := .glo "_law_word") rfl) fun _ _ _ _ _ _ us hl => match us, hl with | [_, _, _], _ => rfl)
  have c__law_kind : Fc P w K mg base "_law_kind" 1 ["_law_number_here", "_law_one", "_law_other", "_law_bad"] (frz F_kind) := Fc.frz (fc_mk (st := st__law_kind) X G D__law_kind (ok__law_kind (fun_of D__law_kind) T (by first | exact fsp_len fun _ => rfl | exact fsq_len fun _ => rfl) pu_kind) (c.fact 16 (f := .glo "_law_kind") rfl) fun _ _ _ _ _ _ us hl => match us, hl with | [_, _, _, _], _ => rfl)
  have c__law_great : Fc P w K mg base "_law_great" 1 ["_law_parts"] (frz F_great) := Fc.frz (fc_mk (st := st__law_great) X G D__law_great (ok__law_great (fun_of D__law_great) T (by first | exact fsp_len fun _ => rfl | exact fsq_len fun _ => rfl) pu_great) (c.fact 22 (f := .glo "_law_great") rfl) fun _ _ _ _ _ _ us hl => match us, hl with | [_], _ => rfl)
  have c__law_is_word : Fc P w K mg base "_law_is_word" 1 ["_law_word_here"] (frz F_is_word) := Fc.frz (fc_mk (st := st__law_is_word) X G D__law_is_word (ok__law_is_word (fun_of D__law_is_word) T (by first | exact fsp_len fun _ => rfl | exact fsq_len fun _ => rfl) pu_is_word) (c.fact 23 (f := .glo "_law_is_word") rfl) fun _ _ _ _ _ _ us hl => match us, hl with | [_], _ => rfl)
  have c__law_words_of : Fc P w K mg base "_law_words_of" 1 ["_law_parts"] (frz F_words_of) := Fc.frz (fc_mk (st := st__law_words_of) X G D__law_words_of (ok__law_words_of (fun_of D__law_words_of) T (by first | exact fsp_len fun _ => rfl | exact fsq_len fun _ => rfl) pu_words_of) (c.fact 24 (f := .glo "_law_words_of") rfl) fun _ _ _ _ _ _ us hl => match us, hl with | [_], _ => rfl)
  have c__law_there : Fc P w K mg base "_law_there" 1 ["_law_kind_here", "_law_number_here", "_law_rows"] (frz F_there) := Fc.frz (fc_mk (st := st__law_there) X G D__law_there (ok__law_there (fun_of D__law_there) T (by first | exact fsp_len fun _ => rfl | exact fsq_len fun _ => rfl) pu_there) (c.fact 25 (f := .glo "_law_there") rfl) fun _ _ _ _ _ _ us hl => match us, hl with | [_, _, _], _ => rfl)
  have c_all_named : Fc P w K mg base "all_named" 2 ["scopes", "questions"] (frz F_all_named) := Fc.frz (fc_mk (st := st_all_named) X G D_all_named (ok_all_named (fun_of D_all_named) T c_is_name (by first | exact fsp_len fun _ => rfl | exact fsq_len fun _ => rfl) pu_all_named) (c.fact 2 (f := .glo "all_named") rfl) fun _ _ _ _ _ _ us hl => match us, hl with | [_, _], _ => rfl)
  have c_all_there : Fc P w K mg base "all_there" 2 ["scopes", "things", "questions"] (frz F_all_there) := Fc.frz (fc_mk (st := st_all_there) X G D_all_there (ok_all_there (fun_of D_all_there) T c_step_there c_telling_there c_thing_there (by first | exact fsp_len fun _ => rfl | exact fsq_len fun _ => rfl) pu_all_there) (c.fact 6 (f := .glo "all_there") rfl) fun _ _ _ _ _ _ us hl => match us, hl with | [_, _, _], _ => rfl)
  have c__law_question : Fc P w K mg base "_law_question" 2 ["_law_number_here", "_law_words_here", "_law_parts", "_law_bad"] (frz F_question) := Fc.frz (fc_mk (st := st__law_question) X G D__law_question (ok__law_question (fun_of D__law_question) T c__law_word c__law_number (by first | exact fsp_len fun _ => rfl | exact fsq_len fun _ => rfl) pu_question) (c.fact 17 (f := .glo "_law_question") rfl) fun _ _ _ _ _ _ us hl => match us, hl with | [_, _, _, _], _ => rfl)
  have c__law_thing : Fc P w K mg base "_law_thing" 2 ["_law_number_here", "_law_parts", "_law_bad"] (frz F_thing) := Fc.frz (fc_mk (st := st__law_thing) X G D__law_thing (ok__law_thing (fun_of D__law_thing) T c__law_kind c__law_number (by first | exact fsp_len fun _ => rfl | exact fsq_len fun _ => rfl) pu_thing) (c.fact 18 (f := .glo "_law_thing") rfl) fun _ _ _ _ _ _ us hl => match us, hl with | [_, _, _], _ => rfl)
  have c__law_step : Fc P w K mg base "_law_step" 2 ["_law_number_here", "_law_words_here", "_law_parts", "_law_bad"] (frz F_step) := Fc.frz (fc_mk (st := st__law_step) X G D__law_step (ok__law_step (fun_of D__law_step) T c__law_word c__law_kind c__law_number (by first | exact fsp_len fun _ => rfl | exact fsq_len fun _ => rfl) pu_step) (c.fact 19 (f := .glo "_law_step") rfl) fun _ _ _ _ _ _ us hl => match us, hl with | [_, _, _, _], _ => rfl)
  have c__law_telling : Fc P w K mg base "_law_telling" 2 ["_law_number_here", "_law_words_here", "_law_parts", "_law_bad"] (frz F_telling) := Fc.frz (fc_mk (st := st__law_telling) X G D__law_telling (ok__law_telling (fun_of D__law_telling) T c__law_word c__law_kind c__law_number (by first | exact fsp_len fun _ => rfl | exact fsq_len fun _ => rfl) pu_telling) (c.fact 20 (f := .glo "_law_telling") rfl) fun _ _ _ _ _ _ us hl => match us, hl with | [_, _, _, _], _ => rfl)
  have c__law_placed : Fc P w K mg base "_law_placed" 2 ["_law_parts"] (frz F_placed) := Fc.frz (fc_mk (st := st__law_placed) X G D__law_placed (ok__law_placed (fun_of D__law_placed) T c__law_there (by first | exact fsp_len fun _ => rfl | exact fsq_len fun _ => rfl) pu_placed) (c.fact 26 (f := .glo "_law_placed") rfl) fun _ _ _ _ _ _ us hl => match us, hl with | [_], _ => rfl)
  have c_net_of : Fc P w K mg base "net_of" 3 ["scopes", "things", "questions"] (frr (F_net_of (ecOf K raised))) := Fc.frr (fc_mk (st := st_net_of) X G D_net_of (ok_net_of (fun_of D_net_of) T c_small_enough c_all_named c_all_there (by first | exact fsr_len fun _ => rfl | exact fsrq_len fun _ => rfl | exact fsrX_len fun _ => rfl) pu_net_of) (c.fact 7 (f := .glo "net_of") rfl) fun _ _ _ _ _ _ us hl => match us, hl with | [_, _, _], _ => rfl)
  have c__law_lay : Fc P w K mg base "_law_lay" 3 ["_law_parts", "_law_words_here", "_law_cell"] (F_lay) := (fc_mk (st := st__law_lay) X G D__law_lay (ok__law_lay (fun_of D__law_lay) T c__law_thing c__law_question c__law_step c__law_telling (fsm_len fun a ds S h => by rw [h.ds]; rfl) pu_lay) (c.fact 21 (f := .glo "_law_lay") rfl) fun _ _ _ _ _ _ us hl => match us, hl with | [_, _, _], _ => rfl)
  have c__law_due : Fc P w K mg base "_law_due" 3 ["_law_parts"] (frz F_due) := Fc.frz (fc_mk (st := st__law_due) X G D__law_due (ok__law_due (fun_of D__law_due) T c__law_great c__law_words_of c__law_is_word c__law_placed (by first | exact fsp_len fun _ => rfl | exact fsq_len fun _ => rfl) pu_due) (c.fact 27 (f := .glo "_law_due") rfl) fun _ _ _ _ _ _ us hl => match us, hl with | [_], _ => rfl)
  have c__law_kinds_of : Fc P w K mg base "_law_kinds_of" 4 ["_law_scopes", "_law_things", "_law_questions"] (frz F_kinds_of) := Fc.frz (fc_mk (st := st__law_kinds_of) X G D__law_kinds_of (ok__law_kinds_of (fun_of D__law_kinds_of) T c_net_of (by first | exact fsp_len fun _ => rfl | exact fsq_len fun _ => rfl) (pu_kinds_of EP)) (c.fact 10 (f := .glo "_law_kinds_of") rfl) fun _ _ _ _ _ _ us hl => match us, hl with | [_, _, _], _ => rfl)
  have c__law_laid : Fc P w K mg base "_law_laid" 4 ["_law_script", "_law_last"] (frr F_laid) := Fc.frr (fc_mk (st := st__law_laid) X G D__law_laid (ok__law_laid (fun_of D__law_laid) T c__law_cell_at c__law_words c__law_lay (by first | exact fsr_len fun _ => rfl | exact fsrq_len fun _ => rfl | exact fsrX_len fun _ => rfl) pu_laid) (c.fact 29 (f := .glo "_law_laid") rfl) fun _ _ _ _ _ _ us hl => match us, hl with | [_, _], _ => rfl)
  have c__law_judged : Fc P w K mg base "_law_judged" 5 ["_law_parts"] (frz F_judged) := Fc.frz (fc_mk (st := st__law_judged) X G D__law_judged (ok__law_judged (fun_of D__law_judged) T c__law_copy c__law_due c__law_kinds_of c__law_refused_as c_net_of c__law_is_net (by first | exact fsp_len fun _ => rfl | exact fsq_len fun _ => rfl) pu_judged) (c.fact 28 (f := .glo "_law_judged") rfl) fun _ _ _ _ _ _ us hl => match us, hl with | [_], _ => rfl)
  exact ok_law (fun_of D_law) T c__law_laid c__law_judged (by rintro ds S K KX ⟨ns, rfl, _⟩; rfl) pu_law
end K17
open PySem PySem.W PySem.Calls PyProof.Rows
set_option maxRecDepth 100000 in
set_option maxHeartbeats 0 in
theorem PySem.Challenge.cw_namepaths_k17_whole_nets_judged_holds : PySem.Challenge.rw_namepaths_k17_whole_nets_judged.Holds := by
  w_on; o_law
  refine HandSHeadRun.head_any (r := OpenLaw.row PySem.Challenge.rw_namepaths_k17_whole_nets_judged) (q := view (OpenLaw.row PySem.Challenge.rw_namepaths_k17_whole_nets_judged).prog [51]) (H := K17.hk) (ob := K17.ob) (M := 8000) (loose := K17.loose) (d := HandSHeadRun.topDef (OpenLaw.row PySem.Challenge.rw_namepaths_k17_whole_nets_judged).prog 51) (kwd := []) K17.ob_eq
    (by kernel_rfl) (fun s => by kernel_rfl) K17.run (by kernel_rfl) (by kernel_rfl) (by kernel_rfl) (by rfl) (by first | assumption | decide +kernel) (by decide +kernel) ⟨rfl, rfl, rfl, rfl, rfl, by decide +kernel⟩ ?hw ?hc
  case hw => w_witness2
  case hc =>
    refine PL.pl_endQ (l := PySem.Challenge.rw_namepaths_k17_whole_nets_judged) (k := 6) (x := "_law_script") (st := K17.st_law) rfl (by kernel_rfl) (by kernel_rfl) ⟨rfl, by decide, by decide⟩ (fun _ _ _ _ _ _ us hl => match us, hl with | [_], _ => rfl) ?_
    intro w K h mg KX G c
    exact K17.facts KX G c
#print axioms PySem.Challenge.cw_namepaths_k17_whole_nets_judged_holds

