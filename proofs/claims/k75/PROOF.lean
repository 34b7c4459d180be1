import PyProof.Rows.All
import Wide.All
import OpenK.AllK
import Wide.FinOn
import HandS.ForMost
import HandS.ForExc
import HandS.Walk
import HandS.CallSlots
import HandS.Deep
import HandS.Flow
import KE.KDictKeyed
import HandS.TupAny
import HandS.IsInst
import HandS.More
import HandS.Small
import HandS.List
import HandS.TupLe
import HandS.Text
import HandS.Zip
import HandS.ExcCtx
import HandS.Head0
import HandS.Head1
import HandS.Head2
import HandS.Defaults
import HandS.HeadEnd
import HandS.HeadHook1
import HandS.HeadHook2
import HandS.Exc
import HandS.ExcOwn
import HandS.ExcIs
import HandS.TryOnly
import HandS.WordsExc
import HandS.Rev
import HandS.Set
import HandS.SetFor
import HandS.Strs
import KE.SortData
import KE.DataCmp
import HandS.Style
import PySem.Challenge.RW_namepaths_k75_tables_written
import HandS.Conv
import HandS.ExcInit
import HandS.ExcField
import HandS.TryMany
import HandS.TupMul
import HandS.HotCalls
import HandS.Call
import KE.KStateDown
import PyProof.FitsReplace
set_option Elab.async false
set_option linter.all false
set_option maxHeartbeats 4000000
set_option maxRecDepth 100000
namespace K75H
open PySem PySem.Spec PyProof.Rows L2
def noLs (K : PySem.W.Frag) : Bool := K.all fun p => match p.2.cls with
  | .type n => n != "list"
  | _ => true
abbrev dd (x : Str) (st : Stmt) : He.DefD := ⟨(x, none), x, x, defArgs st, defBody st, defScope st, [], []⟩
def clsSt (s : Stmt) (j : Nat) : Stmt := match s with
  | .ClassDef _ _ _ b _ _ _ _ _ _ _ => b.getD j (.Pass ⟨0, 0, 0, 0⟩)
  | _ => .Pass ⟨0, 0, 0, 0⟩
abbrev dm (c m q : Str) (st : Stmt) (dfl : List He.Dv) : He.DefD := ⟨(c, some m), m, q, defArgs st, defBody st, defScope st, dfl, []⟩
def obsP (fa : List He.Fa) (fn : List He.DefD) (K : PySem.W.Frag) : Bool × He.AlD := (noLs K, He.obsD fa fn K)
def SaysP (fa : List He.Fa) (fn : List He.DefD) (K : PySem.W.Frag) : Prop := obsP fa fn K = (true, He.valD fn)
def obsPG (n : Nat) (fa : List He.Fa) (fn : List He.DefD) (g : Addr → Option Obj) : Bool × He.AlD := obsP fa fn (He.frG g (He.asD g n))
def hookP (n : Nat) (fa : List He.Fa) (fn : List He.DefD) : PySem.W.Hook where
  α := Bool × He.AlD
  obs := fun s => obsPG n fa fn s.heap.get?
  val := fun _ => (true, He.valD fn)
  says := fun _ h => ∃ K : PySem.W.Frag, K.In h ∧ SaysP fa fn K
  of := fun _ _ e => ⟨_, He.frG_in, e⟩
  keeps := fun _ _ _ ⟨K, hK, c⟩ k => ⟨K, PySem.W.Frag.In.keeps hK k, c⟩
def top (i : Nat) : Stmt := PySem.Challenge.pw_namepaths_k75_tables_written.main.body.getD i (.Pass ⟨0, 0, 0, 0⟩)
abbrev st_is_name : Stmt := top 10
abbrev st_nexts : Stmt := top 12
abbrev st_below : Stmt := top 13
abbrev st_chain : Stmt := top 14
abbrev st_labels_ahead : Stmt := top 15
abbrev st_order_of : Stmt := top 16
abbrev st_too_great : Stmt := top 21
abbrev st_labels_in : Stmt := top 22
abbrev st_numbers_in : Stmt := top 23
abbrev st_has_double : Stmt := top 24
abbrev st_table_of : Stmt := top 25
abbrev st_number_in : Stmt := top 29
abbrev st_parted : Stmt := top 30
abbrev st_twos : Stmt := top 31
abbrev st_plain_words : Stmt := top 32
abbrev st_state_in : Stmt := top 33
abbrev st_read_table : Stmt := top 34
abbrev st_bare_pairs : Stmt := top 35
abbrev st_joined_words : Stmt := top 36
abbrev st_show_table : Stmt := top 37
abbrev st__law_cell_at : Stmt := top 39
abbrev st__law_names : Stmt := top 40
abbrev st__law_turned : Stmt := top 41
abbrev st__law_joined : Stmt := top 42
abbrev st__law_state : Stmt := top 43
abbrev st__law_pairs : Stmt := top 44
abbrev st__law_bare : Stmt := top 45
abbrev st__law_comma : Stmt := top 46
abbrev st__law_words : Stmt := top 47
abbrev st__law_kinds : Stmt := top 48
abbrev st_law : Stmt := top 49
def fn : List He.DefD := [dd "is_name" st_is_name, dd "nexts" st_nexts, dd "below" st_below, dd "chain" st_chain, dd "labels_ahead" st_labels_ahead, dd "order_of" st_order_of, dd "too_great" st_too_great, dd "labels_in" st_labels_in, dd "numbers_in" st_numbers_in, dd "has_double" st_has_double, dd "table_of" st_table_of, dd "number_in" st_number_in, dd "parted" st_parted, dd "twos" st_twos, dd "plain_words" st_plain_words, dd "state_in" st_state_in, dd "read_table" st_read_table, dd "bare_pairs" st_bare_pairs, dd "joined_words" st_joined_words, dd "show_table" st_show_table, dd "_law_cell_at" st__law_cell_at, dd "_law_names" st__law_names, dd "_law_turned" st__law_turned, dd "_law_joined" st__law_joined, dd "_law_state" st__law_state, dd "_law_pairs" st__law_pairs, dd "_law_bare" st__law_bare, dd "_law_comma" st__law_comma, dd "_law_words" st__law_words, dd "_law_kinds" st__law_kinds, dd "law" st_law]
def fa0 : List He.Fa := [.glo "is_name", .glo "nexts", .glo "below", .glo "chain", .glo "labels_ahead", .glo "order_of", .glo "too_great", .glo "labels_in", .glo "numbers_in", .glo "has_double", .glo "table_of", .glo "number_in", .glo "parted", .glo "twos", .glo "plain_words", .glo "state_in", .glo "read_table", .glo "bare_pairs", .glo "joined_words", .glo "show_table", .glo "_law_cell_at", .glo "_law_names", .glo "_law_turned", .glo "_law_joined", .glo "_law_state", .glo "_law_pairs", .glo "_law_bare", .glo "_law_comma", .glo "_law_words", .glo "_law_kinds"]
def fa1 : List He.Fa := [.glo "law", .free "str", .free "isinstance", .free "len", .free "sorted", .free "set", .free "int", .free "range", .free "list", .free "tuple", .free "bool", .str "LETTERS" "abcdefghijklmnopqrstuvwxyz", .int "MOST_STATES" 8, .int "MOST_PAIRS" 40, .int "MOST_LABELS" 8, .str "FIGURES" "0123456789", .str "SIGNS" "/:|,"]
def fa : List He.Fa := fa0 ++ fa1
def loose : List PySem.Str := ("PathError" : PySem.Str) :: ("TooGreat" : PySem.Str) :: ("NoName" : PySem.Str) :: ("NoPlace" : PySem.Str) :: ("Twice" : PySem.Str) :: ("NoText" : PySem.Str) :: ("Ring" : PySem.Str) :: ("LETTERS" : PySem.Str) :: ("is_name" : PySem.Str) :: ("nexts" : PySem.Str) :: ("below" : PySem.Str) :: ("chain" : PySem.Str) :: ("labels_ahead" : PySem.Str) :: ("order_of" : PySem.Str) :: ("MOST_STATES" : PySem.Str) :: ("MOST_LABELS" : PySem.Str) :: ("MOST_PAIRS" : PySem.Str) :: ("too_great" : PySem.Str) :: ("labels_in" : PySem.Str) :: ("numbers_in" : PySem.Str) :: ("has_double" : PySem.Str) :: ("table_of" : PySem.Str) :: ("FIGURES" : PySem.Str) :: ("SIGNS" : PySem.Str) :: ("number_in" : PySem.Str) :: ("parted" : PySem.Str) :: ("twos" : PySem.Str) :: ("plain_words" : PySem.Str) :: ("state_in" : PySem.Str) :: ("read_table" : PySem.Str) :: ("bare_pairs" : PySem.Str) :: ("joined_words" : PySem.Str) :: ("show_table" : PySem.Str) :: ("_law_cell_at" : PySem.Str) :: ("_law_names" : PySem.Str) :: ("_law_turned" : PySem.Str) :: ("_law_joined" : PySem.Str) :: ("_law_state" : PySem.Str) :: ("_law_pairs" : PySem.Str) :: ("_law_bare" : PySem.Str) :: ("_law_comma" : PySem.Str) :: ("_law_words" : PySem.Str) :: ("_law_kinds" : PySem.Str) :: []
abbrev R : PySem.W.OpenRow := PySem.W.OpenLaw.row PySem.Challenge.rw_namepaths_k75_tables_written
abbrev hk : PySem.W.Hook := hookP 4 fa fn
def ob (s : PySem.W.SharedT) : Bool × He.AlD := obsPG 4 fa fn (HandSHeadRun.getT s)
section
open PySem.W PySem.Calls PyProof.Rows HandSHeadRun
theorem run1 (w : World) (os : OsState) : (endF (stepQ (denQ tabQ) R.prog w) 8000 R.prog w os).map (fun s => looksF R.prog (boot_heap w.params) s.abs) = some true := by kernel_rfl
theorem run2 (w : World) (os : OsState) : (endF (stepQ (denQ tabQ) R.prog w) 8000 R.prog w os).map (fun s => seenQ (PySem.W.view R.prog [49]) loose (importedModules R.prog.main.body) (fun s => xlAt (PySem.W.view R.prog [49]) [] s && recOk R.toRowW.records s) s.abs) = some (openGood (PySem.W.view R.prog [49]) loose) := by kernel_rfl
theorem run3 (w : World) (os : OsState) : (endF (stepQ (denQ tabQ) R.prog w) 8000 R.prog w os).map (fun s => ob s) = some (hk.val w) := by kernel_rfl
theorem run_all {α β γ δ : Type} {o : Option α} {f : α → β} {g : α → γ} {h : α → δ} {x : β} {y : γ} {z : δ} (h1 : o.map (fun s => f s) = some x) (h2 : o.map (fun s => g s) = some y) (h3 : o.map (fun s => h s) = some z) : o.map (fun s => (f s, g s, h s)) = some (x, y, z) := by
  cases o with
  | none => cases h1
  | some a =>
    have h1 : some (f a) = some x := h1
    have h2 : some (g a) = some y := h2
    have h3 : some (h a) = some z := h3
    cases h1; cases h2; cases h3; rfl
theorem run (w : World) : HandSHeadRun.RunEq R (PySem.W.view R.prog [49]) hk ob 8000 loose w := fun os => run_all (run1 w os) (run2 w os) (run3 w os)
end
end K75H

set_option Elab.async false
set_option linter.all false
set_option maxRecDepth 100000
namespace PL
open PySem L2

inductive Ty where
  | int | bool | str | list | tuple | dict | none
def Ty.s : Ty → String
  | .int => "int" | .bool => "bool" | .str => "str" | .list => "list" | .tuple => "tuple" | .dict => "dict" | .none => "NoneType"
inductive D where
  | z (d : PyData) | b (d : PyData) | r (n : Nat) | t (ds : List D) | o (a : Addr) | y (T : Ty) | x (c : Value) (fs : List (Str × PyData))
inductive Ob where
  | lst (ds : List D)
  | dic (kvs : List (Key × D))
  | kd (hs : NestedKey → Int) (kvs : List (NestedKey × D))
  | ins (C : Addr) (fs : List (Str × D))
abbrev Env := List (Option D)
abbrev Sto := List Ob
structure Ex where
  c : Value
  fs : Option (List (Str × D))

def Sub (H H' : Hp) : Prop := ∀ a o, H a = some o → H' a = some o
theorem Sub.refl (H : Hp) : Sub H H := fun _ _ h => h
theorem Sub.trans {H H1 H2 : Hp} (a : Sub H H1) (b : Sub H1 H2) : Sub H H2 := fun c o h => b c o (a c o h)
theorem Sub.non {H H' : Hp} (e : Sub H H') {a : Addr} (h : H' a = none) : H a = none := by
  cases q : H a with
  | none => rfl
  | some o => rw [e a o q] at h; cases h
theorem Sub.new {H : Hp} {p : Addr} {o : HO} (h : H p = none) : Sub H (upd H p o) := fun a u e => by
  rw [upd_ne (ne_of_none e h)]; exact e
theorem Sub.up {H H' : Hp} {p : Addr} {o : HO} (e : Sub H H') (h : H p = none) : Sub H (upd H' p o) := fun a u ha => by
  rw [upd_ne (ne_of_none ha h)]; exact e a u ha
theorem Sub.up2 {F H : Hp} {p : Addr} {o : HO} (e : Sub F H) : Sub (upd F p o) (upd H p o) := fun a u ha => by
  by_cases h : a = p
  · subst h; rw [upd_same] at ha ⊢; exact ha
  · rw [upd_ne h] at ha ⊢; exact e a u ha
theorem Sub.rd {H H' : Hp} {a : Addr} {u : HO} (e : Sub H H') (h : Rd H a u) : Rd H' a u := by
  rcases h with h | ⟨o, h⟩
  · exact .inl (e a _ h)
  · exact .inr ⟨o, e a _ h⟩

abbrev Lk := Addr → List V → Prop
mutual
inductive RpT (L T : Lk) : PyData → V → Prop
  | non : RpT L T .none .non
  | bl (b : Bool) : RpT L T (.bool b) (.bl b)
  | int (i : Int) : RpT L T (.int i) (.int i)
  | str (x : Str) : RpT L T (.str x) (.str x)
  | lst {a : Addr} {vs : List V} {ds : List PyData} : L a vs → RpTs L T ds vs → RpT L T (.list ds) (.ref a)
  | tup {a : Addr} {vs : List V} {ds : List PyData} : T a vs → RpTs L T ds vs → RpT L T (.tuple ds) (.ref a)
inductive RpTs (L T : Lk) : List PyData → List V → Prop
  | nil : RpTs L T [] []
  | cons {d : PyData} {ds : List PyData} {v : V} {vs : List V} : RpT L T d v → RpTs L T ds vs → RpTs L T (d :: ds) (v :: vs)
end
section
variable {L T L' T' : Lk}
mutual
theorem RpT.mono (hl : ∀ a vs, L a vs → L' a vs) (ht : ∀ a vs, T a vs → T' a vs) : ∀ (d : PyData) (v : V), RpT L T d v → RpT L' T' d v
  | .none, _, h => by cases h; exact .non
  | .bool _, _, h => by cases h; exact .bl _
  | .int _, _, h => by cases h; exact .int _
  | .str _, _, h => by cases h; exact .str _
  | .list ds, _, h => by cases h with | lst a b => exact .lst (hl _ _ a) (RpTs.mono hl ht ds _ b)
  | .tuple ds, _, h => by cases h with | tup a b => exact .tup (ht _ _ a) (RpTs.mono hl ht ds _ b)
  | .dict _, _, h => by cases h
theorem RpTs.mono (hl : ∀ a vs, L a vs → L' a vs) (ht : ∀ a vs, T a vs → T' a vs) : ∀ (ds : List PyData) (vs : List V), RpTs L T ds vs → RpTs L' T' ds vs
  | [], _, h => by cases h; exact .nil
  | d :: ds, _, h => by cases h with | cons a b => exact .cons (RpT.mono hl ht d _ a) (RpTs.mono hl ht ds _ b)
end
mutual
def flatT : PyData → Bool
  | .list _ => false
  | .tuple ds => flatTs ds
  | .dict _ => false
  | _ => true
def flatTs : List PyData → Bool
  | [] => true
  | d :: ds => flatT d && flatTs ds
end
mutual
theorem RpT.flat (ht : ∀ a vs, T a vs → T' a vs) : ∀ (d : PyData) (v : V), flatT d = true → RpT L T d v → RpT L' T' d v
  | .none, _, _, h => by cases h; exact .non
  | .bool _, _, _, h => by cases h; exact .bl _
  | .int _, _, _, h => by cases h; exact .int _
  | .str _, _, _, h => by cases h; exact .str _
  | .list ds, _, f, _ => by simp [flatT] at f
  | .tuple ds, _, f, h => by cases h with | tup a b => exact .tup (ht _ _ a) (RpTs.flat ht ds _ (by simpa [flatT] using f) b)
  | .dict _, _, _, h => by cases h
theorem RpTs.flat (ht : ∀ a vs, T a vs → T' a vs) : ∀ (ds : List PyData) (vs : List V), flatTs ds = true → RpTs L T ds vs → RpTs L' T' ds vs
  | [], _, _, h => by cases h; exact .nil
  | d :: ds, _, f, h => by
    simp only [flatTs, Bool.and_eq_true] at f
    cases h with | cons a b => exact .cons (RpT.flat ht d _ f.1 a) (RpTs.flat ht ds _ f.2 b)
end
theorem RpTs.length : ∀ {ds : List PyData} {vs : List V}, RpTs L T ds vs → ds.length = vs.length
  | [], _, h => by cases h; rfl
  | d :: ds, _, h => by cases h with | cons a b => simp [RpTs.length b]
theorem RpTs.get : ∀ {ds : List PyData} {vs : List V} {i : Nat} {d : PyData}, RpTs L T ds vs → ds[i]? = some d → ∃ v, vs[i]? = some v ∧ RpT L T d v
  | [], _, _, _, _, e => by simp at e
  | d :: ds, _, 0, _, h, e => by cases h with | cons a b => simp at e; subst e; exact ⟨_, rfl, a⟩
  | d :: ds, _, i + 1, x, h, e => by
    cases h with
    | cons a b =>
      obtain ⟨v, h1, h2⟩ := RpTs.get (i := i) (d := x) b (by simpa using e)
      exact ⟨v, by simpa using h1, h2⟩
end

def ExK (cls : Value) (d : Option Addr) (a : Addr) : HO := .ext fun h => ∃ (oe : Obj) (vs : Array Value), h.get? a = some oe ∧ Zc cls d oe ∧ oe.data = .fields vs
def LF (F : Hp) : Lk := fun a vs => F a = some (.lst vs)
def TF (F : Hp) : Lk := fun a vs => F a = some (.tup vs)
def LB (B F : Hp) : Lk := fun a vs => Rd F a (.lst vs) ∨ Rd B a (.lst vs)
def ExAt (F : Hp) (a : Addr) (c : Value) (fs : List (Str × PyData)) : Prop := ∃ d : Option Addr, F a = some (ExK c d a) ∧ (d = none ∧ fs = [] ∨ ∃ dd ws, d = some dd ∧ F dd = some (.xd ws) ∧ Paired (fun (p : Str × PyData) (q : Str × V) => p.1 = q.1 ∧ RpT (LF F) (TF F) p.2 q.2) fs ws)
theorem fsP_mono {F F' : Hp} (hF : Sub F F') : ∀ {fs : List (Str × PyData)} {ws : List (Str × V)}, Paired (fun (p : Str × PyData) (q : Str × V) => p.1 = q.1 ∧ RpT (LF F) (TF F) p.2 q.2) fs ws → Paired (fun (p : Str × PyData) (q : Str × V) => p.1 = q.1 ∧ RpT (LF F') (TF F') p.2 q.2) fs ws
  | _, _, .nil => .nil
  | _, _, .cons a b => .cons ⟨a.1, RpT.mono (fun _ _ q => hF _ _ q) (fun _ _ q => hF _ _ q) _ _ a.2⟩ (fsP_mono hF b)
theorem ExAt.mono {F F' : Hp} (hF : Sub F F') {a : Addr} {c : Value} {fs : List (Str × PyData)} (h : ExAt F a c fs) : ExAt F' a c fs := by
  obtain ⟨d, h1, h2⟩ := h
  refine ⟨d, hF _ _ h1, h2.imp id ?_⟩
  rintro ⟨dd, ws, e1, e2, e3⟩
  exact ⟨dd, ws, e1, hF _ _ e2, fsP_mono hF e3⟩
mutual
inductive RpD (B F : Hp) (μ : Nat → Addr) (n : Nat) : D → V → Prop
  | z {d : PyData} {v : V} : RpT (LF F) (TF F) d v → RpD B F μ n (.z d) v
  | b {d : PyData} {v : V} : RpT (LB B F) (TF F) d v → RpD B F μ n (.b d) v
  | r {i : Nat} : i < n → RpD B F μ n (.r i) (.ref (μ i))
  | t {a : Addr} {ds : List D} {vs : List V} : F a = some (.tup vs) → RpDs B F μ n ds vs → RpD B F μ n (.t ds) (.ref a)
  | o {a : Addr} : RpD B F μ n (.o a) (.ref a)
  | y {T : Ty} : RpD B F μ n (.y T) (.ty T.s)
  | x {c : Value} {fs : List (Str × PyData)} {a : Addr} : ExAt F a c fs → RpD B F μ n (.x c fs) (.ref a)
inductive RpDs (B F : Hp) (μ : Nat → Addr) (n : Nat) : List D → List V → Prop
  | nil : RpDs B F μ n [] []
  | cons {d : D} {ds : List D} {v : V} {vs : List V} : RpD B F μ n d v → RpDs B F μ n ds vs → RpDs B F μ n (d :: ds) (v :: vs)
end
section
variable {B F F' : Hp} {μ μ' : Nat → Addr} {n n' : Nat}
mutual
theorem RpD.mono (hF : Sub F F') (hn : n ≤ n') (hm : ∀ i, i < n → μ' i = μ i) : ∀ (d : D) (v : V), RpD B F μ n d v → RpD B F' μ' n' d v
  | .z d, _, h => by cases h with | z a => exact .z (RpT.mono (fun _ _ q => hF _ _ q) (fun _ _ q => hF _ _ q) _ _ a)
  | .b d, _, h => by
    cases h with
    | b a =>
      refine .b (RpT.mono (fun _ _ q => ?_) (fun _ _ q => hF _ _ q) _ _ a)
      rcases q with q | q
      · exact .inl (hF.rd q)
      · exact .inr q
  | .r i, _, h => by cases h with | r a => rw [← hm i a]; exact .r (Nat.lt_of_lt_of_le a hn)
  | .t ds, _, h => by cases h with | t a b => exact .t (hF _ _ a) (RpDs.mono hF hn hm ds _ b)
  | .o a, _, h => by cases h; exact .o
  | .y a, _, h => by cases h; exact .y
  | .x c fs, _, h => by cases h with | x a => exact .x (ExAt.mono hF a)
theorem RpDs.mono (hF : Sub F F') (hn : n ≤ n') (hm : ∀ i, i < n → μ' i = μ i) : ∀ (ds : List D) (vs : List V), RpDs B F μ n ds vs → RpDs B F' μ' n' ds vs
  | [], _, h => by cases h; exact .nil
  | d :: ds, _, h => by cases h with | cons a b => exact .cons (RpD.mono hF hn hm d _ a) (RpDs.mono hF hn hm ds _ b)
end
theorem RpDs.length : ∀ {ds : List D} {vs : List V}, RpDs B F μ n ds vs → ds.length = vs.length
  | [], _, h => by cases h; rfl
  | d :: ds, _, h => by cases h with | cons a b => simp [RpDs.length b]
theorem RpDs.get : ∀ {ds : List D} {vs : List V} {i : Nat} {d : D}, RpDs B F μ n ds vs → ds[i]? = some d → ∃ v, vs[i]? = some v ∧ RpD B F μ n d v
  | [], _, _, _, _, e => by simp at e
  | d :: ds, _, 0, _, h, e => by cases h with | cons a b => simp at e; subst e; exact ⟨_, rfl, a⟩
  | d :: ds, _, i + 1, x, h, e => by
    cases h with
    | cons a b =>
      obtain ⟨v, h1, h2⟩ := RpDs.get (i := i) (d := x) b (by simpa using e)
      exact ⟨v, by simpa using h1, h2⟩
theorem RpDs.getV : ∀ {ds : List D} {vs : List V} {i : Nat} {v : V}, RpDs B F μ n ds vs → vs[i]? = some v → ∃ d, ds[i]? = some d ∧ RpD B F μ n d v
  | [], _, _, _, h, e => by cases h; simp at e
  | d :: ds, _, 0, _, h, e => by cases h with | cons a b => simp at e; subst e; exact ⟨_, rfl, a⟩
  | d :: ds, _, i + 1, x, h, e => by
    cases h with
    | cons a b =>
      obtain ⟨v, h1, h2⟩ := RpDs.getV (i := i) (v := x) b (by simpa using e)
      exact ⟨v, by simpa using h1, h2⟩
theorem RpDs.append : ∀ {ds es : List D} {vs us : List V}, RpDs B F μ n ds vs → RpDs B F μ n es us → RpDs B F μ n (ds ++ es) (vs ++ us)
  | [], _, _, _, h, k => by cases h; exact k
  | d :: ds, _, _, _, h, k => by cases h with | cons a b => exact .cons a (RpDs.append b k)
theorem RpDs.take : ∀ {ds : List D} {vs : List V} (k : Nat), RpDs B F μ n ds vs → RpDs B F μ n (ds.take k) (vs.take k)
  | _, _, 0, _ => .nil
  | [], _, _ + 1, h => by cases h; exact .nil
  | d :: ds, _, k + 1, h => by cases h with | cons a b => exact .cons a (RpDs.take k b)
theorem RpDs.drop : ∀ {ds : List D} {vs : List V} (k : Nat), RpDs B F μ n ds vs → RpDs B F μ n (ds.drop k) (vs.drop k)
  | _, _, 0, h => h
  | [], _, _ + 1, h => by cases h; exact .nil
  | d :: ds, _, k + 1, h => by cases h with | cons a b => exact RpDs.drop k b
theorem RpDs.set {d : D} {v : V} (hd : RpD B F μ n d v) : ∀ {ds : List D} {vs : List V} (k : Nat), RpDs B F μ n ds vs → RpDs B F μ n (ds.set k d) (vs.set k v)
  | [], _, _, h => by cases h; exact .nil
  | e :: ds, _, 0, h => by cases h with | cons a b => exact .cons hd b
  | e :: ds, _, k + 1, h => by cases h with | cons a b => exact .cons a (RpDs.set hd k b)
theorem RpDs.erase : ∀ {ds : List D} {vs : List V} (k : Nat), RpDs B F μ n ds vs → RpDs B F μ n (ds.eraseIdx k) (vs.eraseIdx k)
  | [], _, _, h => by cases h; exact .nil
  | e :: ds, _, 0, h => by cases h with | cons a b => exact b
  | e :: ds, _, k + 1, h => by cases h with | cons a b => exact .cons a (RpDs.erase k b)
theorem RpDs.dropLast {ds : List D} {vs : List V} (h : RpDs B F μ n ds vs) : RpDs B F μ n ds.dropLast vs.dropLast := by
  rw [List.dropLast_eq_take, List.dropLast_eq_take, h.length]
  exact h.take _
theorem RpDs.zs : ∀ {ds : List PyData} {vs : List V}, RpTs (LF F) (TF F) ds vs → RpDs B F μ n (ds.map .z) vs
  | [], _, h => by cases h; exact .nil
  | d :: ds, _, h => by cases h with | cons a b => exact .cons (.z a) (RpDs.zs b)
def bz (d : PyData) : D := if flatT d = true then .z d else .b d
theorem RpD.bz {d : PyData} {v : V} (h : RpT (LB B F) (TF F) d v) : RpD B F μ n (bz d) v := by
  unfold PL.bz
  split
  · rename_i f
    exact .z (RpT.flat (fun _ _ q => q) d v f h)
  · exact .b h
theorem RpDs.bzs : ∀ {ds : List PyData} {vs : List V}, RpTs (LB B F) (TF F) ds vs → RpDs B F μ n (ds.map PL.bz) vs
  | [], _, h => by cases h; exact .nil
  | d :: ds, _, h => by cases h with | cons a b => exact .cons (RpD.bz a) (RpDs.bzs b)
end

def kdP (hs : NestedKey → Int) (a : Addr) (xs : List (NestedKey × Addr × Value)) (h : Heap) : Prop :=
  xs.length ≤ sizeLine ∧ (a == sysModules) = false ∧ ∃ o es ep, h.get? a = some o ∧ o.ExactDict ∧ o.data = .dict es ep ∧ es.toList = xs.map (fun x => (⟨hs x.1, .ref x.2.1, x.2.2⟩ : DictEntry)) ∧ (xs.map (·.1)).Nodup
def kdO (hs : NestedKey → Int) (a : Addr) (xs : List (NestedKey × Addr × Value)) : HO := .ext (kdP hs a xs)
def KvN (B F : Hp) (μ : Nat → Addr) (n : Nat) : List (NestedKey × D) → List (NestedKey × Addr × Value) → Prop :=
  Paired fun (p : NestedKey × D) (x : NestedKey × Addr × Value) => p.1 = x.1 ∧ (RpT (LF F) (TF F) p.1.data (.ref x.2.1) ∧ p.1.depth ≤ 8) ∧ ∃ v, RpD B F μ n p.2 v ∧ RelV v x.2.2
def ObRp (B F : Hp) (μ : Nat → Addr) (n : Nat) (H : Hp) (a : Addr) : Ob → Prop
  | .lst ds => ∃ vs, H a = some (.lst vs) ∧ RpDs B F μ n ds vs
  | .dic kvs => ∃ ws, H a = some (.dK ws) ∧ Paired (fun (p : Key × D) (q : Key × V) => p.1 = q.1 ∧ RpD B F μ n p.2 q.2) kvs ws
  | .kd hs kvs => ∃ xs, H a = some (kdO hs a xs) ∧ KvN B F μ n kvs xs
  | .ins C fs => ∃ dx vs, H a = some (.ins C dx vs) ∧ Paired (fun (p : Str × D) (q : Str × V) => p.1 = q.1 ∧ RpD B F μ n p.2 q.2) fs vs
theorem ObRp.there {B F H : Hp} {μ : Nat → Addr} {n : Nat} {a : Addr} {o : Ob} (h : ObRp B F μ n H a o) : ∃ u, H a = some u ∧ Mut (some u) := by
  cases o with
  | lst ds => obtain ⟨vs, e, _⟩ := h; exact ⟨_, e, trivial⟩
  | dic kvs => obtain ⟨vs, e, _⟩ := h; exact ⟨_, e, trivial⟩
  | kd hs kvs => obtain ⟨vs, e, _⟩ := h; exact ⟨_, e, trivial⟩
  | ins C fs => obtain ⟨dx, vs, e, _⟩ := h; exact ⟨_, e, trivial⟩
theorem ObRp.mono {B F F' H H' : Hp} {μ μ' : Nat → Addr} {n n' : Nat} {a : Addr} {o : Ob} (hF : Sub F F') (hn : n ≤ n') (hm : ∀ i, i < n → μ' i = μ i) (ha : H' a = H a) (h : ObRp B F μ n H a o) : ObRp B F' μ' n' H' a o := by
  cases o with
  | lst ds => obtain ⟨vs, e, r⟩ := h; exact ⟨vs, ha.trans e, RpDs.mono hF hn hm _ _ r⟩
  | dic kvs => obtain ⟨ws, e, r⟩ := h; exact ⟨ws, ha.trans e, Paired.mapP r fun p q z => ⟨z.1, RpD.mono hF hn hm _ _ z.2⟩⟩
  | kd hs kvs => obtain ⟨ws, e, r⟩ := h; exact ⟨ws, ha.trans e, Paired.mapP r fun p q ⟨z1, z2, v, z3, z4⟩ => ⟨z1, ⟨RpT.mono (fun _ _ q => hF _ _ q) (fun _ _ q => hF _ _ q) _ _ z2.1, z2.2⟩, v, RpD.mono hF hn hm _ _ z3, z4⟩⟩
  | ins C fs => obtain ⟨dx, vs, e, r⟩ := h; exact ⟨dx, vs, ha.trans e, Paired.mapP r fun p q z => ⟨z.1, RpD.mono hF hn hm _ _ z.2⟩⟩

structure Rl (B F0 : Hp) (μ : Nat → Addr) (S : Sto) (F H : Hp) : Prop where
  bh : Sub B H
  fh : Sub F H
  f0 : Sub F0 F
  fn : ∀ a o, F a = some o → F0 a = some o ∨ B a = none
  inj : ∀ i j, i < S.length → j < S.length → μ i = μ j → i = j
  nb : ∀ i, i < S.length → B (μ i) = none
  nf : ∀ i, i < S.length → F (μ i) = none
  ob : ∀ i o, S[i]? = some o → ObRp B F μ S.length H (μ i) o
structure Xt (μ : Nat → Addr) (S : Sto) (F : Hp) (μ' : Nat → Addr) (S' : Sto) (F' : Hp) : Prop where
  f : Sub F F'
  n : S.length ≤ S'.length
  m : ∀ i, i < S.length → μ' i = μ i
section
variable {B F0 F F' F'' H H' : Hp} {μ μ' μ'' : Nat → Addr} {S S' S'' : Sto}
theorem Xt.refl : Xt μ S F μ S F := ⟨Sub.refl _, Nat.le_refl _, fun _ _ => rfl⟩
theorem Xt.trans (a : Xt μ S F μ' S' F') (b : Xt μ' S' F' μ'' S'' F'') : Xt μ S F μ'' S'' F'' :=
  ⟨a.f.trans b.f, Nat.le_trans a.n b.n, fun i h => (b.m i (Nat.lt_of_lt_of_le h a.n)).trans (a.m i h)⟩
theorem RpD.xt {d : D} {v : V} (h : RpD B F μ S.length d v) (x : Xt μ S F μ' S' F') : RpD B F' μ' S'.length d v := RpD.mono x.f x.n x.m d v h
theorem RpDs.xt {d : List D} {v : List V} (h : RpDs B F μ S.length d v) (x : Xt μ S F μ' S' F') : RpDs B F' μ' S'.length d v := RpDs.mono x.f x.n x.m d v h
theorem Rl.there (R : Rl B F0 μ S F H) {i : Nat} {o : Ob} (h : S[i]? = some o) : ∃ u, H (μ i) = some u ∧ Mut (some u) := (R.ob i o h).there
theorem Rl.lt {i : Nat} {o : Ob} (h : S[i]? = some o) : i < S.length := (List.getElem?_eq_some_iff.mp h).1
theorem Rl.has (R : Rl B F0 μ S F H) {i : Nat} (h : i < S.length) : ∃ u, H (μ i) = some u := by
  obtain ⟨u, e, _⟩ := R.there (List.getElem?_eq_getElem h)
  exact ⟨u, e⟩
theorem Rl.froze (R : Rl B F0 μ S F H) {p : Addr} (u : HO) (hp : H p = none) : Rl B F0 μ S (upd F p u) (upd H p u) ∧ Xt μ S F μ S (upd F p u) := by
  have hF : F p = none := R.fh.non hp
  have hB : B p = none := R.bh.non hp
  have ne : ∀ i, i < S.length → μ i ≠ p := fun i hi e => by
    obtain ⟨o, ho⟩ := R.has hi
    rw [e, hp] at ho; cases ho
  refine ⟨⟨R.bh.trans (Sub.new hp), R.fh.up2, R.f0.trans (Sub.new hF), fun a o e => ?_, R.inj, R.nb, fun i hi => by rw [upd_ne (ne i hi)]; exact R.nf i hi, fun i o h => ?_⟩, ⟨Sub.new hF, Nat.le_refl _, fun _ _ => rfl⟩⟩
  · by_cases h : a = p
    · subst h; exact .inr hB
    · rw [upd_ne h] at e; exact R.fn a o e
  · exact (R.ob i o h).mono (Sub.new hF) (Nat.le_refl _) (fun _ _ => rfl) (by rw [upd_ne (ne i (Rl.lt h))])
def muX (μ : Nat → Addr) (n : Nat) (p : Addr) : Nat → Addr := fun i => if i = n then p else μ i
theorem Rl.grow (R : Rl B F0 μ S F H) {p : Addr} {u : HO} {o : Ob} (hp : H p = none) (ho : ∀ G : Hp, G p = some u → ObRp B F μ S.length G p o) : Rl B F0 (muX μ S.length p) (S ++ [o]) F (upd H p u) ∧ Xt μ S F (muX μ S.length p) (S ++ [o]) F := by
  have hF : F p = none := R.fh.non hp
  have hB : B p = none := R.bh.non hp
  have mo : ∀ i, i < S.length → muX μ S.length p i = μ i := fun i hi => by unfold muX; rw [if_neg (Nat.ne_of_lt hi)]
  have mn : muX μ S.length p S.length = p := by unfold muX; rw [if_pos rfl]
  have ne : ∀ i, i < S.length → μ i ≠ p := fun i hi e => by
    obtain ⟨o, ho⟩ := R.has hi
    rw [e, hp] at ho; cases ho
  have hl : (S ++ [o]).length = S.length + 1 := by simp
  have sp : ∀ i, i < S.length + 1 → i < S.length ∨ i = S.length := fun i h => by omega
  refine ⟨⟨R.bh.trans (Sub.new hp), R.fh.trans (Sub.new hp), R.f0, R.fn, fun i j hi hj e => ?_, fun i hi => ?_, fun i hi => ?_, fun i o' h => ?_⟩, ⟨Sub.refl _, by rw [hl]; omega, mo⟩⟩
  · rw [hl] at hi hj
    rcases sp i hi with hi | rfl
    · rcases sp j hj with hj | rfl
      · rw [mo i hi, mo j hj] at e; exact R.inj i j hi hj e
      · rw [mo i hi, mn] at e; exact absurd e (ne i hi)
    · rcases sp j hj with hj | rfl
      · rw [mo j hj, mn] at e; exact absurd e.symm (ne j hj)
      · rfl
  · rw [hl] at hi
    rcases sp i hi with hi | rfl
    · rw [mo i hi]; exact R.nb i hi
    · rw [mn]; exact hB
  · rw [hl] at hi
    rcases sp i hi with hi | rfl
    · rw [mo i hi]; exact R.nf i hi
    · rw [mn]; exact hF
  · rw [hl]
    by_cases hi : i < S.length
    · rw [List.getElem?_append_left hi] at h
      rw [mo i hi]
      exact (R.ob i o' h).mono (Sub.refl _) (Nat.le_succ _) mo (by rw [upd_ne (ne i hi)])
    · have e : i = S.length := by
        have := Rl.lt h
        rw [hl] at this; omega
      subst e
      rw [List.getElem?_append_right (Nat.le_refl _), Nat.sub_self] at h
      cases h
      rw [mn]
      exact (ho (upd H p u) upd_same).mono (Sub.refl _) (Nat.le_succ _) mo rfl
theorem Rl.write (R : Rl B F0 μ S F H) {n : Nat} {u : HO} {o : Ob} (hn : n < S.length) (ho : ∀ G : Hp, G (μ n) = some u → ObRp B F μ S.length G (μ n) o) : Rl B F0 μ (S.set n o) F (upd H (μ n) u) ∧ Xt μ S F μ (S.set n o) F := by
  have hl : (S.set n o).length = S.length := by simp
  refine ⟨⟨R.bh.up (R.nb n hn), R.fh.up (R.nf n hn), R.f0, R.fn, fun i j hi hj e => R.inj i j (hl ▸ hi) (hl ▸ hj) e, fun i hi => R.nb i (hl ▸ hi), fun i hi => R.nf i (hl ▸ hi), fun i o' h => ?_⟩, ⟨Sub.refl _, by rw [hl]; exact Nat.le_refl _, fun _ _ => rfl⟩⟩
  rw [hl]
  by_cases hi : i = n
  · subst hi
    rw [List.getElem?_set_self hn] at h
    cases h
    exact ho _ upd_same
  · rw [List.getElem?_set_ne (Ne.symm hi)] at h
    exact (R.ob i o' h).mono (Sub.refl _) (Nat.le_refl _) (fun _ _ => rfl) (by rw [upd_ne fun e => hi (R.inj i n (Rl.lt h) hn e)])
end

def EnvR (B F : Hp) (μ : Nat → Addr) (n : Nat) : Env → St → Prop := Paired fun e s => ∀ d, e = some d → ∃ v, s = some v ∧ RpD B F μ n d v
section
variable {B F0 F F' H : Hp} {μ μ' : Nat → Addr} {S S' : Sto} {env : Env} {σ : St}
theorem EnvR.xt (h : EnvR B F μ S.length env σ) (x : Xt μ S F μ' S' F') : EnvR B F' μ' S'.length env σ := Paired.mapP h fun e s q d hd => by
  obtain ⟨v, h1, h2⟩ := q d hd
  exact ⟨v, h1, h2.xt x⟩
theorem EnvR.get {n : Nat} : ∀ {env : Env} {σ : St} {i : Nat} {d : D}, EnvR B F μ n env σ → env[i]? = some (some d) → ∃ v, σ[i]? = some (some v) ∧ RpD B F μ n d v
  | _, _, _, _, .nil, e => by simp at e
  | _, _, 0, _, .cons r _, e => by
    simp at e
    obtain ⟨v, h1, h2⟩ := r _ e
    exact ⟨v, by simp [h1], h2⟩
  | _, _, i + 1, d, .cons _ t, e => by
    obtain ⟨v, h1, h2⟩ := EnvR.get (i := i) (d := d) t (by simpa using e)
    exact ⟨v, by simpa using h1, h2⟩
theorem EnvR.set {n : Nat} {d : D} {v : V} (hd : RpD B F μ n d v) : ∀ {env : Env} {σ : St} (i : Nat), EnvR B F μ n env σ → EnvR B F μ n (env.set i (some d)) (σ.set i (some v))
  | _, _, _, .nil => .nil
  | _, _, 0, .cons r t => .cons (fun e he => by cases he; exact ⟨v, rfl, hd⟩) t
  | _, _, i + 1, .cons q t => .cons q (EnvR.set hd i t)
theorem EnvR.unset {n : Nat} {w : Option V} : ∀ {env : Env} {σ : St} (i : Nat), EnvR B F μ n env σ → EnvR B F μ n (env.set i none) (σ.set i w)
  | _, _, _, .nil => .nil
  | _, _, 0, .cons r t => .cons (fun e he => by cases he) t
  | _, _, i + 1, .cons q t => .cons q (EnvR.unset i t)
end

mutual
inductive Vw (S : Sto) : D → PyData → Prop
  | z {d : PyData} : Vw S (.z d) d
  | b {d : PyData} : Vw S (.b d) d
  | r {n : Nat} {ds : List D} {es : List PyData} : S[n]? = some (.lst ds) → Vws S ds es → Vw S (.r n) (.list es)
  | t {ds : List D} {es : List PyData} : Vws S ds es → Vw S (.t ds) (.tuple es)
inductive Vws (S : Sto) : List D → List PyData → Prop
  | nil : Vws S [] []
  | cons {d : D} {ds : List D} {e : PyData} {es : List PyData} : Vw S d e → Vws S ds es → Vws S (d :: ds) (e :: es)
end
section
variable {B F0 F H : Hp} {μ : Nat → Addr} {S : Sto}
theorem RpT.lent {d : PyData} {v : V} (hb : Sub B H) (h : RpT (LB B F) (TF F) d v) : RpT (LB H F) (TF F) d v :=
  RpT.mono (fun _ _ q => q.imp id fun q => hb.rd q) (fun _ _ q => q) d v h
mutual
theorem Vw.rp (R : Rl B F0 μ S F H) : ∀ (e : PyData) (d : D) (v : V), Vw S d e → RpD B F μ S.length d v → RpT (LB H F) (TF F) e v
  | .none, _, _, w, h => by
    cases w with
    | z => cases h with | z a => cases a; exact .non
    | b => cases h with | b a => cases a; exact .non
  | .bool _, _, _, w, h => by
    cases w with
    | z => cases h with | z a => cases a; exact .bl _
    | b => cases h with | b a => cases a; exact .bl _
  | .int _, _, _, w, h => by
    cases w with
    | z => cases h with | z a => cases a; exact .int _
    | b => cases h with | b a => cases a; exact .int _
  | .str _, _, _, w, h => by
    cases w with
    | z => cases h with | z a => cases a; exact .str _
    | b => cases h with | b a => cases a; exact .str _
  | .dict _, _, _, w, h => by
    cases w with
    | z => cases h with | z a => cases a
    | b => cases h with | b a => cases a
  | .list es, _, _, w, h => by
    cases w with
    | z => cases h with | z a => exact RpT.mono (fun _ _ q => .inl (.inl q)) (fun _ _ q => q) _ _ a
    | b => cases h with | b a => exact a.lent R.bh
    | r e ws =>
      cases h with
      | r hi =>
        obtain ⟨vs, hv, rv⟩ := R.ob _ _ e
        exact .lst (.inr (.inl hv)) (Vws.rp R es _ vs ws rv)
  | .tuple es, _, _, w, h => by
    cases w with
    | z => cases h with | z a => exact RpT.mono (fun _ _ q => .inl (.inl q)) (fun _ _ q => q) _ _ a
    | b => cases h with | b a => exact a.lent R.bh
    | t ws => cases h with | t e rv => exact .tup e (Vws.rp R es _ _ ws rv)
theorem Vws.rp (R : Rl B F0 μ S F H) : ∀ (es : List PyData) (ds : List D) (vs : List V), Vws S ds es → RpDs B F μ S.length ds vs → RpTs (LB H F) (TF F) es vs
  | [], _, _, w, h => by cases w; cases h; exact .nil
  | e :: es, _, _, w, h => by
    cases w with | cons a b => cases h with | cons r s => exact .cons (Vw.rp R e _ _ a r) (Vws.rp R es _ _ b s)
end
mutual
theorem RpT.dp {K : PySem.W.Frag} (hf : Sub F H) : ∀ (d : PyData) (v : V), RpT (LB H F) (TF F) d v → Dp K H v d
  | .none, _, h => by cases h; exact .non
  | .bool _, _, h => by cases h; exact .bl _
  | .int _, _, h => by cases h; exact .int _
  | .str _, _, h => by cases h; exact .str _
  | .list ds, _, h => by cases h with | lst a b => exact .lst (.inl (a.elim (fun q => hf.rd q) id)) (RpTs.dp hf ds _ b)
  | .tuple ds, _, h => by cases h with | tup a b => exact .tup (.inl (.inl (hf _ _ a))) (RpTs.dp hf ds _ b)
  | .dict _, _, h => by cases h
theorem RpTs.dp {K : PySem.W.Frag} (hf : Sub F H) : ∀ (ds : List PyData) (vs : List V), RpTs (LB H F) (TF F) ds vs → DpAll K H vs ds
  | [], _, h => by cases h; exact .nil
  | d :: ds, _, h => by cases h with | cons a b => exact .cons (RpT.dp hf d _ a) (RpTs.dp hf ds _ b)
end
theorem Vws.append : ∀ {ds es : List D} {fs gs : List PyData}, Vws S ds fs → Vws S es gs → Vws S (ds ++ es) (fs ++ gs)
  | [], _, _, _, h, k => by cases h; exact k
  | d :: ds, _, _, _, h, k => by cases h with | cons a b => exact .cons a (Vws.append b k)
theorem Vws.zs : ∀ (ds : List PyData), Vws S (ds.map .z) ds
  | [] => .nil
  | d :: ds => .cons .z (Vws.zs ds)
theorem Vw.bz {d : PyData} : Vw S (PL.bz d) d := by
  unfold PL.bz
  split
  · exact .z
  · exact .b
theorem Vws.bzs : ∀ (ds : List PyData), Vws S (ds.map PL.bz) ds
  | [] => .nil
  | d :: ds => .cons Vw.bz (Vws.bzs ds)
end
end PL

set_option Elab.async false
set_option linter.all false
set_option maxRecDepth 100000
namespace PL
open PySem L2

abbrev K1 := D → Sto → Prop
abbrev KX := Ex → Env → Sto → Prop
abbrev WE := Env → Sto → K1 → KX → Prop
abbrev WT := Env → Sto → (Bool → Sto → Prop) → KX → Prop
abbrev WA := Env → Sto → (List D → Sto → Prop) → KX → Prop
structure KS where
  nx : Env → Sto → Prop
  rt : K1
  ex : KX
  bk : Env → Sto → Prop := fun _ _ => False
  ct : Env → Sto → Prop := fun _ _ => False
abbrev WS := KS → Env → Sto → Prop

structure pReq (c : Prop) (k : Prop) : Prop where
  mk' ::
  out : c ∧ k
structure pGet {α : Type} (o : Option α) (k : α → Prop) : Prop where
  mk' ::
  out : ∃ x, o = some x ∧ k x
structure pIf (b : Bool) (x y : Prop) : Prop where
  mk' ::
  out : if b = true then x else y
theorem pReq.mk {c k : Prop} (h : c) (q : k) : pReq c k := ⟨⟨h, q⟩⟩
theorem pGet.mk {α : Type} {o : Option α} {k : α → Prop} {x : α} (h : o = some x) (q : k x) : pGet o k := ⟨⟨x, h, q⟩⟩
theorem pIf.mk {b : Bool} {x y : Prop} (h1 : b = true → x) (h2 : b = false → y) : pIf b x y := by
  refine ⟨?_⟩
  cases b with
  | true => rw [if_pos rfl]; exact h1 rfl
  | false => rw [if_neg Bool.false_ne_true]; exact h2 rfl
theorem pIf.tt {b : Bool} {x y : Prop} (h : b = true) (q : x) : pIf b x y := pIf.mk (fun _ => q) fun e => by rw [h] at e; cases e
theorem pIf.ff {b : Bool} {x y : Prop} (h : b = false) (q : y) : pIf b x y := pIf.mk (fun e => by rw [h] at e; cases e) fun _ => q

def ExR (B F : Hp) (μ : Nat → Addr) (n : Nat) (H : Hp) (x : Ex) (cls : Value) (dd : Option Addr) : Prop :=
  cls = x.c ∧ match x.fs with
    | none => dd = none
    | some fs => ∃ a ws, dd = some a ∧ F a = some (.xd ws) ∧ Paired (fun (p : Str × D) (q : Str × V) => p.1 = q.1 ∧ RpD B F μ n p.2 q.2) fs ws
structure Wd where
  μ : Nat → Addr
  S : Sto
  F : Hp
def Fi (B F0 : Hp) (w : Wd) (K : K1) (Q : VK) : Prop := ∀ d S' v H' μ' F', Rl B F0 μ' S' F' H' → Xt w.μ w.S w.F μ' S' F' → RpD B F' μ' S'.length d v → K d S' → Q v H'
def FiT (B F0 : Hp) (w : Wd) (K : Bool → Sto → Prop) (Q : Bool → Hp → Prop) : Prop := ∀ b S' H' μ' F', Rl B F0 μ' S' F' H' → Xt w.μ w.S w.F μ' S' F' → K b S' → Q b H'
def FiA (B F0 : Hp) (w : Wd) (K : List D → Sto → Prop) (Q : List V → Hp → Prop) : Prop := ∀ ds S' vs H' μ' F', Rl B F0 μ' S' F' H' → Xt w.μ w.S w.F μ' S' F' → RpDs B F' μ' S'.length ds vs → K ds S' → Q vs H'
def FiX (B F0 : Hp) (W : WX) (w : Wd) (env : Env) (σ : St) (K : KX) : Prop := ∀ x S' H' μ' F' cls dd, Rl B F0 μ' S' F' H' → Xt w.μ w.S w.F μ' S' F' → ExR B F' μ' S'.length H' x cls dd → K x env S' → W cls dd σ H'
section
variable {B F0 H : Hp} {w w' : Wd} {W : WX} {env : Env} {σ : St}
theorem Fi.xt {K : K1} {Q : VK} (h : Fi B F0 w K Q) (x : Xt w.μ w.S w.F w'.μ w'.S w'.F) : Fi B F0 w' K Q := fun d S v H μ F R X r k => h d S v H μ F R (x.trans X) r k
theorem FiT.xt {K : Bool → Sto → Prop} {Q : Bool → Hp → Prop} (h : FiT B F0 w K Q) (x : Xt w.μ w.S w.F w'.μ w'.S w'.F) : FiT B F0 w' K Q := fun b S H μ F R X k => h b S H μ F R (x.trans X) k
theorem FiA.xt {K : List D → Sto → Prop} {Q : List V → Hp → Prop} (h : FiA B F0 w K Q) (x : Xt w.μ w.S w.F w'.μ w'.S w'.F) : FiA B F0 w' K Q := fun d S v H μ F R X r k => h d S v H μ F R (x.trans X) r k
theorem FiX.xt {K : KX} (h : FiX B F0 W w env σ K) (x : Xt w.μ w.S w.F w'.μ w'.S w'.F) : FiX B F0 W w' env σ K := fun e S H μ F c dd R X r k => h e S H μ F c dd R (x.trans X) r k
end
abbrev RlW (B F0 : Hp) (w : Wd) (H : Hp) : Prop := Rl B F0 w.μ w.S w.F H
abbrev RpW (B : Hp) (w : Wd) (d : D) (v : V) : Prop := RpD B w.F w.μ w.S.length d v
abbrev RpsW (B : Hp) (w : Wd) (d : List D) (v : List V) : Prop := RpDs B w.F w.μ w.S.length d v
def tE (B F0 : Hp) (W : WX) (we : WE) : TE := fun σ H Q => ∃ (w : Wd) (env : Env) (K : K1) (KX : KX), RlW B F0 w H ∧ EnvR B w.F w.μ w.S.length env σ ∧ we env w.S K KX ∧ Fi B F0 w K Q ∧ FiX B F0 W w env σ KX
def tT (B F0 : Hp) (W : WX) (wt : WT) : TT := fun σ H Q => ∃ (w : Wd) (env : Env) (K : Bool → Sto → Prop) (KX : KX), RlW B F0 w H ∧ EnvR B w.F w.μ w.S.length env σ ∧ wt env w.S K KX ∧ FiT B F0 w K Q ∧ FiX B F0 W w env σ KX
def tA (B F0 : Hp) (W : WX) (wa : WA) : TA := fun σ H Q => ∃ (w : Wd) (env : Env) (K : List D → Sto → Prop) (KX : KX), RlW B F0 w H ∧ EnvR B w.F w.μ w.S.length env σ ∧ wa env w.S K KX ∧ FiA B F0 w K Q ∧ FiX B F0 W w env σ KX
structure FiS (B F0 : Hp) (W : WX) (w : Wd) (k : KS) (D : Ends) : Prop where
  nx : ∀ env S σ H μ F, Rl B F0 μ S F H → Xt w.μ w.S w.F μ S F → EnvR B F μ S.length env σ → k.nx env S → D.nx σ H
  rt : Fi B F0 w k.rt D.rt
  bk : ∀ env S σ H μ F, Rl B F0 μ S F H → Xt w.μ w.S w.F μ S F → EnvR B F μ S.length env σ → k.bk env S → D.bk σ H
  ct : ∀ env S σ H μ F, Rl B F0 μ S F H → Xt w.μ w.S w.F μ S F → EnvR B F μ S.length env σ → k.ct env S → D.ct σ H
  ex : ∀ x env S σ H μ F cls dd, Rl B F0 μ S F H → Xt w.μ w.S w.F μ S F → EnvR B F μ S.length env σ → ExR B F μ S.length H x cls dd → k.ex x env S → W cls dd σ H
theorem FiS.xt {B F0 : Hp} {W : WX} {w w' : Wd} {k : KS} {D : Ends} (h : FiS B F0 W w k D) (x : Xt w.μ w.S w.F w'.μ w'.S w'.F) : FiS B F0 W w' k D :=
  ⟨fun e S s H μ F R X r q => h.nx e S s H μ F R (x.trans X) r q, h.rt.xt x, fun e S s H μ F R X r q => h.bk e S s H μ F R (x.trans X) r q, fun e S s H μ F R X r q => h.ct e S s H μ F R (x.trans X) r q,
   fun y e S s H μ F c d R X r q z => h.ex y e S s H μ F c d R (x.trans X) r q z⟩
theorem FiS.toX {B F0 : Hp} {W : WX} {w : Wd} {k : KS} {D : Ends} {env : Env} {σ : St} (h : FiS B F0 W w k D) (e : EnvR B w.F w.μ w.S.length env σ) : FiX B F0 W w env σ k.ex :=
  fun x S H μ F c d R X r q => h.ex x env S σ H μ F c d R X (e.xt X) r q
def tS (B F0 : Hp) (W : WX) (ws : WS) : TS := fun D σ H => ∃ (w : Wd) (env : Env) (k : KS), RlW B F0 w H ∧ EnvR B w.F w.μ w.S.length env σ ∧ ws k env w.S ∧ FiS B F0 W w k D

def PX (X : Cx) (B F0 : Hp) (W : WX) (e : Expr) (we : WE) : Prop := PE X e (tE B F0 W we)
def PXT (X : Cx) (B F0 : Hp) (W : WX) (e : Expr) (wt : WT) : Prop := PT X e (tT B F0 W wt)
def PXW (X : Cx) (B F0 : Hp) (W : WX) (e : Expr) (wt : WT) : Prop := PW X e (tT B F0 W wt)
def PXA (X : Cx) (B F0 : Hp) (W : WX) (es : List Expr) (wa : WA) : Prop := PA X es (tA B F0 W wa)
def PXS (X : Cx) (B F0 : Hp) (W : WX) (st : Stmt) (ws : WS) : Prop := PS X st (tS B F0 W ws)
def PXB (X : Cx) (B F0 : Hp) (W : WX) (st : List Stmt) (ws : WS) : Prop := PSs X st (tS B F0 W ws)
section
variable {X : Cx}
theorem wkE {e : Expr} {t t' : TE} (h : PE X e t) (k : ∀ σ H Q, t' σ H Q → t σ H Q) : PE X e t' := ⟨fun p s σ H Q I q => h.run p s σ H Q I (k σ H Q q)⟩
theorem wkT {e : Expr} {t t' : TT} (h : PT X e t) (k : ∀ σ H Q, t' σ H Q → t σ H Q) : PT X e t' := ⟨fun p s σ H Q I q => h.run p s σ H Q I (k σ H Q q)⟩
theorem wkW {e : Expr} {t t' : TT} (h : PW X e t) (k : ∀ σ H Q, t' σ H Q → t σ H Q) : PW X e t' := ⟨fun wh p s σ H Q I q => h.run wh p s σ H Q I (k σ H Q q)⟩
theorem wkA {e : List Expr} {t t' : TA} (h : PA X e t) (k : ∀ σ H Q, t' σ H Q → t σ H Q) : PA X e t' := ⟨fun pos p s σ H Q I q => h.run pos p s σ H Q I (k σ H Q q)⟩
theorem wkS {e : Stmt} {t t' : TS} (h : PS X e t) (k : ∀ D σ H, t' D σ H → t D σ H) : PS X e t' := ⟨fun p s σ H D I q => h.run p s σ H D I (k D σ H q)⟩
theorem wkB {e : List Stmt} {t t' : TS} (h : PSs X e t) (k : ∀ D σ H, t' D σ H → t D σ H) : PSs X e t' := ⟨fun p s σ H D I q => h.run p s σ H D I (k D σ H q)⟩
end

def wVar (i : Nat) : WE := fun env S K _ => match env[i]? with
  | some (some d) => K d S
  | _ => False
def wC (d : PyData) : WE := fun _ S K _ => K (.z d) S
section
variable {X : Cx} {B F0 : Hp} {W : WX} {pos : Pos}
theorem xv (i : Nat) {x : Str} (hN : X.N[i]? = some x := by rfl) (hv : Vis X.env.scope x := by first | exact Or.inl rfl | exact Or.inr (Or.inl rfl) | exact Or.inr (Or.inr rfl)) (hd : (x == ("__debug__" : Str)) = false := by decide)
    (hcd : (x == ("__classdict__" : Str)) = false := by decide) : PX X B F0 W (.Name x pos) (wVar i) := wkE (pe_var hN hv hd hcd) fun σ H Q h => by
  obtain ⟨w, env, K, KX, R, E, h, k, _⟩ := h
  unfold wVar at h
  split at h
  · rename_i d e
    obtain ⟨v, h1, h2⟩ := EnvR.get E e
    exact ⟨v, h1, k d w.S v H w.μ w.F R .refl h2 h⟩
  · exact h.elim
theorem xc {e : Expr} {c : V} {d : PyData} (h : PE X e (tC c)) (r : ∀ L T, RpT L T d c) : PX X B F0 W e (wC d) := wkE h fun σ H Q h => by
  obtain ⟨w, env, K, KX, R, E, h, k, _⟩ := h
  exact k _ w.S c H w.μ w.F R .refl (.z (r _ _)) h
theorem xint {i : Int} {j : Nat} : PX X B F0 W (.Constant (.int i) j pos) (wC (.int i)) := xc pe_int fun _ _ => .int i
theorem xbl {b : Bool} {j : Nat} : PX X B F0 W (.Constant (.bool b) j pos) (wC (.bool b)) := xc pe_bl fun _ _ => .bl b
theorem xnon {j : Nat} : PX X B F0 W (.Constant .none j pos) (wC .none) := xc pe_non fun _ _ => .non
theorem xstr {x : Str} {j : Nat} : PX X B F0 W (.Constant (.str x) j pos) (wC (.str x)) := xc pe_str fun _ _ => .str x
theorem xglob {x : Str} {v : V} {u : Value} {d : PyData} (hg : Gl X x) (hm : X.mg x = some u) (r : RelV v u) (hd : ∀ L T, RpT L T d v) (hdb : (x == ("__debug__" : Str)) = false := by decide) : PX X B F0 W (.Name x pos) (wC d) :=
  xc (pe_glob hg hm r hdb) hd
end

abbrev P2 := D → D → Sto → K1 → Prop
abbrev P1 := D → Sto → K1 → Prop
abbrev PL := List D → Sto → K1 → Prop
def r2 (B F0 : Hp) (p : P2) : R2 := fun a b H Q => ∃ (w : Wd) (x y : D) (K : K1), RlW B F0 w H ∧ RpW B w x a ∧ RpW B w y b ∧ p x y w.S K ∧ Fi B F0 w K Q
def r1 (B F0 : Hp) (p : P1) : V → Hp → VK → Prop := fun a H Q => ∃ (w : Wd) (x : D) (K : K1), RlW B F0 w H ∧ RpW B w x a ∧ p x w.S K ∧ Fi B F0 w K Q
def rL (B F0 : Hp) (p : PL) : List V → Hp → VK → Prop := fun vs H Q => ∃ (w : Wd) (xs : List D) (K : K1), RlW B F0 w H ∧ RpsW B w xs vs ∧ p xs w.S K ∧ Fi B F0 w K Q
def rM (B F0 : Hp) (p : D → PL) : V → List V → Hp → VK → Prop := fun v vs H Q => ∃ (w : Wd) (x : D) (xs : List D) (K : K1), RlW B F0 w H ∧ RpW B w x v ∧ RpsW B w xs vs ∧ p x xs w.S K ∧ Fi B F0 w K Q
def w2 (p : P2) (wa wb : WE) : WE := fun env S K KX => wa env S (fun x S1 => wb env S1 (fun y S2 => p x y S2 K) KX) KX
def w1 (p : P1) (wa : WE) : WE := fun env S K KX => wa env S (fun x S1 => p x S1 K) KX
def asB (k : Bool → Sto → Prop) : K1 := fun d S => match d with
  | .z (.bool b) => k b S
  | _ => False
def wB (wa : WE) : WT := fun env S K KX => wa env S (asB K) KX
section
variable {X : Cx} {B F0 : Hp} {W : WX} {a b c : Expr} {wa wb wc : WE} {pos : Pos} {p p' : P2}
theorem two {r : R2} (hr : ∀ x y H Q, r2 B F0 p x y H Q → r x y H Q) (σ : St) (H : Hp) (Q : VK) (h : tE B F0 W (w2 p wa wb) σ H Q) : tOp r (tE B F0 W wa) (tE B F0 W wb) σ H Q := by
  obtain ⟨w, env, K, KX, R, E, h, k, kx⟩ := h
  refine ⟨w, env, _, KX, R, E, h, fun x S1 v H1 μ1 F1 R1 X1 r1 h1 => ?_, kx⟩
  refine ⟨⟨μ1, S1, F1⟩, env, _, KX, R1, E.xt X1, h1, fun y S2 u H2 μ2 F2 R2 X2 r2 h2 => ?_, kx.xt X1⟩
  exact hr v u H2 Q ⟨⟨μ2, S2, F2⟩, x, y, K, R2, r1.xt X2, r2, h2, k.xt (X1.trans X2)⟩
theorem xop {op : Operator} (ho : OpR X (binaryOp op) (r2 B F0 p)) (ha : PX X B F0 W a wa) (hb : PX X B F0 W b wb) : PX X B F0 W (.BinOp a op b pos) (w2 p wa wb) := wkE (pe_op ho ha hb) (two fun _ _ _ _ h => h)
theorem xcmp {op : CmpOp} (ho : OpR X (compareOp op) (r2 B F0 p)) (ha : PX X B F0 W a wa) (hb : PX X B F0 W b wb) (hm : behindInMarks op b = false := by rfl) : PX X B F0 W (.Compare a [op] [b] pos) (w2 p wa wb) :=
  wkE (pe_cmpR ho ha hb hm) (two fun _ _ _ _ h => h)
theorem xix (ho : IxR X (r2 B F0 p)) (ha : PX X B F0 W a wa) (hb : PX X B F0 W b wb) (hs : PlainIx b := by exact fun _ _ => rfl) : PX X B F0 W (.Subscript a b pos) (w2 p wa wb) := wkE (pe_ix ho ha hb hs) (two fun _ _ _ _ h => h)
theorem testOf (σ : St) (H : Hp) (Q : Bool → Hp → Prop) (h : tT B F0 W (wB wa) σ H Q) : tTest (tE B F0 W wa) σ H Q := by
  obtain ⟨w, env, K, KX, R, E, h, k, kx⟩ := h
  refine ⟨w, env, _, KX, R, E, h, fun x S1 v H1 μ1 F1 R1 X1 r1 h1 => ?_, kx⟩
  unfold asB at h1
  split at h1
  · cases r1 with | z q => cases q; exact ⟨_, rfl, k _ S1 H1 μ1 F1 R1 X1 h1⟩
  · exact h1.elim
theorem xtv (h : PX X B F0 W a wa) (he : ∀ whole, isTrue a X.env whole = (do let v ← whole; standAt a.pos; holding [v] (truthy v)) := by intro _; rfl) : PXT X B F0 W a (wB wa) := wkT (pt_val h he) fun σ H Q q => testOf σ H Q q
theorem xtcmp {op : CmpOp} (ho : OpR X (compareOp op) (r2 B F0 p)) (ha : PX X B F0 W a wa) (hb : PX X B F0 W b wb) (hm : behindInMarks op b = false := by rfl) : PXT X B F0 W (.Compare a [op] [b] pos) (wB (w2 p wa wb)) :=
  wkT (pt_cmpR ho ha hb hm) fun σ H Q h => by
    obtain ⟨w, env, K, KX, R, E, h, k, kx⟩ := h
    refine two (fun _ _ _ _ h => h) σ H _ ⟨w, env, asB K, KX, R, E, h, fun x S1 v H1 μ1 F1 R1 X1 r1 h1 => ?_, kx⟩
    unfold asB at h1
    split at h1
    · cases r1 with | z q => cases q; exact ⟨_, rfl, k _ S1 H1 μ1 F1 R1 X1 h1⟩
    · exact h1.elim
def w3 (p p' : P2) (wa wb wc : WE) : WE := fun env S K KX => wa env S (fun x S1 => wb env S1 (fun y S2 => p x y S2 (asB fun k S3 => pIf k (wc env S3 (fun z S4 => p' y z S4 K) KX) (K (.z (.bool false)) S3))) KX) KX
theorem asB.out {w : Wd} {d : D} {v : V} {K : Bool → Sto → Prop} {S : Sto} (h : asB K d S) (r : RpW B w d v) : ∃ k, v = .bl k ∧ K k S := by
  unfold asB at h
  split at h
  · cases r with | z q => cases q; exact ⟨_, rfl, h⟩
  · exact h.elim
theorem three {r r' : R2} (hr : ∀ x y H Q, r2 B F0 p x y H Q → r x y H Q) (hr' : ∀ x y H Q, r2 B F0 p' x y H Q → r' x y H Q) (σ : St) (H : Hp) (Q : VK) (h : tE B F0 W (w3 p p' wa wb wc) σ H Q) : tChain r r' (tE B F0 W wa) (tE B F0 W wb) (tE B F0 W wc) σ H Q := by
  obtain ⟨w, env, K, KX, R, E, h, k, kx⟩ := h
  refine ⟨w, env, _, KX, R, E, h, fun x S1 v H1 μ1 F1 R1 X1 r1 h1 => ?_, kx⟩
  refine ⟨⟨μ1, S1, F1⟩, env, _, KX, R1, E.xt X1, h1, fun y S2 u H2 μ2 F2 R2 X2 r2 h2 => ?_, kx.xt X1⟩
  refine hr v u H2 _ ⟨⟨μ2, S2, F2⟩, x, y, _, R2, r1.xt X2, r2, h2, fun z S3 t H3 μ3 F3 R3 X3 r3 h3 => ?_⟩
  obtain ⟨kb, rfl, h3⟩ := asB.out (w := ⟨μ3, S3, F3⟩) h3 r3
  refine ⟨kb, rfl, ?_⟩
  have h3 := h3.out
  cases kb with
  | true =>
    rw [if_pos rfl] at h3 ⊢
    refine ⟨⟨μ3, S3, F3⟩, env, _, KX, R3, E.xt ((X1.trans X2).trans X3), h3, fun z S4 t H4 μ4 F4 R4 X4 r4 h4 => ?_, kx.xt ((X1.trans X2).trans X3)⟩
    exact hr' u t H4 Q ⟨⟨μ4, S4, F4⟩, y, z, K, R4, r2.xt (X3.trans X4), r4, h4, k.xt (((X1.trans X2).trans X3).trans X4)⟩
  | false =>
    rw [if_neg Bool.false_ne_true] at h3 ⊢
    exact k _ S3 _ H3 μ3 F3 R3 ((X1.trans X2).trans X3) (.z (.bl _)) h3
end

def wAnd (t u : WT) : WT := fun env S K KX => t env S (fun c S1 => pIf c (u env S1 K KX) (K false S1)) KX
def wOr (t u : WT) : WT := fun env S K KX => t env S (fun c S1 => pIf c (K true S1) (u env S1 K KX)) KX
def wNot (t : WT) : WT := fun env S K KX => t env S (fun c S1 => K (!c) S1) KX
def wAndV (wa wb : WE) : WE := fun env S K KX => wa env S (asB fun c S1 => pIf c (wb env S1 K KX) (K (.z (.bool false)) S1)) KX
def wNotV (wa : WE) : WE := fun env S K KX => wa env S (asB fun c S1 => K (.z (.bool (!c))) S1) KX
section
variable {X : Cx} {B F0 : Hp} {W : WX} {a b c : Expr} {wa wb : WE} {t u : WT} {pos : Pos} {rest : List Expr}
theorem yand1 (ha : PXT X B F0 W a t) : PXW X B F0 W (.BoolOp .And [a] pos) t := pw_and1 ha
theorem yor1 (ha : PXT X B F0 W a t) : PXW X B F0 W (.BoolOp .Or [a] pos) t := pw_or1 ha
theorem yand (ha : PXT X B F0 W a t) (hb : PXW X B F0 W (.BoolOp .And (b :: rest) pos) u) : PXW X B F0 W (.BoolOp .And (a :: b :: rest) pos) (wAnd t u) := wkW (pw_and ha hb) fun σ H Q h => by
  obtain ⟨w, env, K, KX, R, E, h, k, kx⟩ := h
  refine ⟨w, env, _, KX, R, E, h, fun x S1 H1 μ1 F1 R1 X1 h1 => ?_, kx⟩
  have h1 := h1.out
  dsimp only
  cases x with
  | true => rw [if_pos rfl] at h1 ⊢; exact ⟨⟨μ1, S1, F1⟩, env, K, KX, R1, E.xt X1, h1, k.xt X1, kx.xt X1⟩
  | false => rw [if_neg Bool.false_ne_true] at h1 ⊢; exact k _ S1 H1 μ1 F1 R1 X1 h1
theorem yor (ha : PXT X B F0 W a t) (hb : PXW X B F0 W (.BoolOp .Or (b :: rest) pos) u) : PXW X B F0 W (.BoolOp .Or (a :: b :: rest) pos) (wOr t u) := wkW (pw_or ha hb) fun σ H Q h => by
  obtain ⟨w, env, K, KX, R, E, h, k, kx⟩ := h
  refine ⟨w, env, _, KX, R, E, h, fun x S1 H1 μ1 F1 R1 X1 h1 => ?_, kx⟩
  have h1 := h1.out
  dsimp only
  cases x with
  | false => rw [if_neg Bool.false_ne_true] at h1 ⊢; exact ⟨⟨μ1, S1, F1⟩, env, K, KX, R1, E.xt X1, h1, k.xt X1, kx.xt X1⟩
  | true => rw [if_pos rfl] at h1 ⊢; exact k _ S1 H1 μ1 F1 R1 X1 h1
theorem xtw (h : PXW X B F0 W a t) : PXT X B F0 W a t := h.pt
theorem xtnot (h : PXT X B F0 W a t) : PXT X B F0 W (.UnaryOp .Not a pos) (wNot t) := wkT (pt_not h) fun σ H Q h => by
  obtain ⟨w, env, K, KX, R, E, h, k, kx⟩ := h
  exact ⟨w, env, _, KX, R, E, h, fun x S1 H1 μ1 F1 R1 X1 h1 => k _ S1 H1 μ1 F1 R1 X1 h1, kx⟩
theorem xone {op : BoolOp} (h : PX X B F0 W a wa) : PX X B F0 W (.BoolOp op [a] pos) wa := pe_one h
theorem xand (ha : PX X B F0 W a wa) (hb : PX X B F0 W (.BoolOp .And (b :: rest) pos) wb) : PX X B F0 W (.BoolOp .And (a :: b :: rest) pos) (wAndV wa wb) := wkE (pe_and ha hb) fun σ H Q h => by
  obtain ⟨w, env, K, KX, R, E, h, k, kx⟩ := h
  refine ⟨w, env, _, KX, R, E, h, fun x S1 v H1 μ1 F1 R1 X1 r1 h1 => ?_, kx⟩
  obtain ⟨kb, rfl, h2⟩ := asB.out (w := ⟨μ1, S1, F1⟩) h1 r1
  refine ⟨kb, rfl, ?_⟩
  have h2 := h2.out
  cases kb with
  | true => rw [if_pos rfl] at h2 ⊢; exact ⟨⟨μ1, S1, F1⟩, env, K, KX, R1, E.xt X1, h2, k.xt X1, kx.xt X1⟩
  | false => rw [if_neg Bool.false_ne_true] at h2 ⊢; exact k _ S1 _ H1 μ1 F1 R1 X1 (.z (.bl _)) h2
theorem xnot (ha : PX X B F0 W a wa) : PX X B F0 W (.UnaryOp .Not a pos) (wNotV wa) := wkE (pe_not ha) fun σ H Q h => by
  obtain ⟨w, env, K, KX, R, E, h, k, kx⟩ := h
  refine ⟨w, env, _, KX, R, E, h, fun x S1 v H1 μ1 F1 R1 X1 r1 h1 => ?_, kx⟩
  obtain ⟨kb, rfl, h2⟩ := asB.out (w := ⟨μ1, S1, F1⟩) h1 r1
  exact ⟨kb, rfl, k _ S1 _ H1 μ1 F1 R1 X1 (.z (.bl _)) h2⟩
end

def wNil : WA := fun _ S K _ => K [] S
def wCons (wa : WE) (wr : WA) : WA := fun env S K KX => wa env S (fun x S1 => wr env S1 (fun xs S2 => K (x :: xs) S2) KX) KX
def allZ : List D → Option (List PyData)
  | [] => some []
  | .z d :: ds => (allZ ds).map (d :: ·)
  | _ :: _ => none
def mkT (ds : List D) : D := match allZ ds with
  | some es => .z (.tuple es)
  | none => .t ds
def wTup (wa : WA) : WE := fun env S K KX => wa env S (fun ds S1 => pReq (ds.length ≤ sizeLine) (K (mkT ds) S1)) KX
def wLst (wa : WA) : WE := fun env S K KX => wa env S (fun ds S1 => pReq (ds.length ≤ sizeLine) (K (.r S1.length) (S1 ++ [.lst ds]))) KX
def wCall (p : PL) (wa : WA) : WE := fun env S K KX => wa env S (fun ds S1 => p ds S1 K) KX
theorem allZ_rp {B F : Hp} {μ : Nat → Addr} {n : Nat} : ∀ {ds : List D} {es : List PyData} {vs : List V}, allZ ds = some es → RpDs B F μ n ds vs → RpTs (LF F) (TF F) es vs
  | [], _, _, e, h => by cases h; simp [allZ] at e; subst e; exact .nil
  | .z d :: ds, _, _, e, h => by
    cases h with
    | cons a b =>
      simp only [allZ, Option.map_eq_some_iff] at e
      obtain ⟨es, h1, rfl⟩ := e
      cases a with | z q => exact .cons q (allZ_rp h1 b)
  | .b d :: ds, _, _, e, h => by simp [allZ] at e
  | .r d :: ds, _, _, e, h => by simp [allZ] at e
  | .t d :: ds, _, _, e, h => by simp [allZ] at e
  | .o d :: ds, _, _, e, h => by simp [allZ] at e
  | .y d :: ds, _, _, e, h => by simp [allZ] at e
  | .x c fs :: ds, _, _, e, h => by simp [allZ] at e
theorem mkT_rp {B F : Hp} {μ : Nat → Addr} {n : Nat} {ds : List D} {vs : List V} {p : Addr} (hp : F p = some (.tup vs)) (h : RpDs B F μ n ds vs) : RpD B F μ n (mkT ds) (.ref p) := by
  unfold mkT
  split
  · rename_i es e
    exact .z (.tup hp (allZ_rp e h))
  · exact .t hp h
section
variable {X : Cx} {B F0 : Hp} {W : WX} {e o : Expr} {es : List Expr} {we wo : WE} {wa : WA} {pos cpos apos : Pos} {x : Str} {id T : String}
theorem anil : PXA X B F0 W [] wNil := wkA pa_nil fun σ H Q h => by
  obtain ⟨w, env, K, KX, R, E, h, k, kx⟩ := h
  exact k [] w.S [] H w.μ w.F R .refl .nil h
theorem acons (h1 : PX X B F0 W e we) (h2 : PXA X B F0 W es wa) (hs : starEach (e :: es) X.env = (false, eval e X.env) :: starEach es X.env := by rfl) : PXA X B F0 W (e :: es) (wCons we wa) := wkA (pa_cons h1 h2 hs) fun σ H Q h => by
  obtain ⟨w, env, K, KX, R, E, h, k, kx⟩ := h
  refine ⟨w, env, _, KX, R, E, h, fun x S1 v H1 μ1 F1 R1 X1 r1 h1 => ?_, kx⟩
  exact ⟨⟨μ1, S1, F1⟩, env, _, KX, R1, E.xt X1, h1, fun xs S2 vs H2 μ2 F2 R2 X2 r2 h2 => k _ S2 _ H2 μ2 F2 R2 (X1.trans X2) (.cons (r1.xt X2) r2) h2, kx.xt X1⟩
theorem xtup {j : Nat} (h : PXA X B F0 W es wa) : PX X B F0 W (.Tuple es j pos) (wTup wa) := wkE (pe_tup h) fun σ H Q h => by
  obtain ⟨w, env, K, KX, R, E, h, k, kx⟩ := h
  refine ⟨w, env, _, KX, R, E, h, fun xs S1 vs H1 μ1 F1 R1 X1 r1 h1 => ?_, kx⟩
  obtain ⟨z, h1⟩ := h1.out
  refine ⟨by rw [← r1.length]; exact z, fun p hp => ?_⟩
  obtain ⟨R2, X2⟩ := R1.froze (.tup vs) hp
  exact k _ S1 _ _ μ1 _ R2 (X1.trans X2) (mkT_rp upd_same (r1.xt X2)) h1
theorem xlst (h : PXA X B F0 W es wa) : PX X B F0 W (.List es pos) (wLst wa) := wkE (pe_lst h) fun σ H Q h => by
  obtain ⟨w, env, K, KX, R, E, h, k, kx⟩ := h
  refine ⟨w, env, _, KX, R, E, h, fun xs S1 vs H1 μ1 F1 R1 X1 r1 h1 => ?_, kx⟩
  obtain ⟨z, h1⟩ := h1.out
  refine ⟨by rw [← r1.length]; exact z, fun p hp => ?_⟩
  obtain ⟨R2, X2⟩ := R1.grow (u := .lst vs) (o := .lst xs) hp fun G hG => ⟨vs, hG, r1⟩
  have e : muX μ1 S1.length p S1.length = p := by unfold muX; rw [if_pos rfl]
  have r : RpD B F1 (muX μ1 S1.length p) (S1 ++ [Ob.lst xs]).length (.r S1.length) (.ref p) := by
    have q : RpD B F1 (muX μ1 S1.length p) (S1 ++ [Ob.lst xs]).length (.r S1.length) (.ref (muX μ1 S1.length p S1.length)) := .r (by simp)
    rw [e] at q
    exact q
  exact k _ _ _ _ _ _ R2 (X1.trans X2) r h1
theorem args {p : PL} {r : List V → Hp → VK → Prop} (hr : ∀ vs H Q, rL B F0 p vs H Q → r vs H Q) (σ : St) (H : Hp) (Q : VK) (h : tE B F0 W (wCall p wa) σ H Q) : tCB r (tA B F0 W wa) σ H Q := by
  obtain ⟨w, env, K, KX, R, E, h, k, kx⟩ := h
  exact ⟨w, env, _, KX, R, E, h, fun xs S1 vs H1 μ1 F1 R1 X1 r1 h1 => hr vs H1 Q ⟨⟨μ1, S1, F1⟩, xs, K, R1, r1, h1, k.xt X1⟩, kx⟩
theorem xcallB {p : PL} {q : Pos} (hc : CallR X (.builtin id) (rL B F0 p)) (hg : Gl X x) (hm : X.mg x = none) (hv : bootBuiltins x = some (.builtin id)) (ha : PXA X B F0 W (e :: es) wa) (hn : x ≠ "__name__" := by decide) (hdb : (x == ("__debug__" : Str)) = false := by decide)
    (he : starEach (e :: es) X.env = (false, eval e X.env) :: starEach es X.env := by rfl) (hpl : (backTo pos (starEach es X.env)).any (·.1) = false := by rfl) : PX X B F0 W (.Call (.Name x q) (e :: es) [] pos) (wCall p wa) :=
  wkE (pe_callB hc hg hm hv ha hn hdb he hpl) (args fun _ _ _ h => h)
theorem xcallT {p : PL} {q : Pos} (hc : CallR X (.type T) (rL B F0 p)) (hg : Gl X x) (hm : X.mg x = none) (hv : bootBuiltins x = some (.type T)) (ha : PXA X B F0 W (e :: es) wa) (hn : x ≠ "__name__" := by decide) (hdb : (x == ("__debug__" : Str)) = false := by decide)
    (he : starEach (e :: es) X.env = (false, eval e X.env) :: starEach es X.env := by rfl) (hpl : (backTo pos (starEach es X.env)).any (·.1) = false := by rfl) : PX X B F0 W (.Call (.Name x q) (e :: es) [] pos) (wCall p wa) :=
  wkE (pe_callTy hc hg hm hv ha hn hdb he hpl) (args fun _ _ _ h => h)
end

abbrev WO := Env → Sto → (Option Int → Sto → Prop) → KX → Prop
def wNo : WO := fun _ S K _ => K none S
def wPart (wa : WE) : WO := fun env S K KX => wa env S (fun x S1 => match x with
  | .z (.int i) => K (some i) S1
  | _ => False) KX
def FiO (B F0 : Hp) (w : Wd) (K : Option Int → Sto → Prop) (Q : Option Int → Hp → Prop) : Prop := ∀ b S' H' μ' F', Rl B F0 μ' S' F' H' → Xt w.μ w.S w.F μ' S' F' → K b S' → Q b H'
theorem FiO.xt {B F0 : Hp} {w w' : Wd} {K : Option Int → Sto → Prop} {Q : Option Int → Hp → Prop} (h : FiO B F0 w K Q) (x : Xt w.μ w.S w.F w'.μ w'.S w'.F) : FiO B F0 w' K Q := fun b S H μ F R X k => h b S H μ F R (x.trans X) k
def tO (B F0 : Hp) (W : WX) (wt : WO) : TO := fun σ H Q => ∃ (w : Wd) (env : Env) (K : Option Int → Sto → Prop) (KX : KX), RlW B F0 w H ∧ EnvR B w.F w.μ w.S.length env σ ∧ wt env w.S K KX ∧ FiO B F0 w K Q ∧ FiX B F0 W w env σ KX
def PXO (X : Cx) (B F0 : Hp) (W : WX) (e : Option Expr) (wt : WO) : Prop := PO X e (tO B F0 W wt)
def rSl (B F0 : Hp) (p : D → Option Int → Option Int → Sto → K1 → Prop) : V → Option Int → Option Int → Hp → VK → Prop := fun v lo hi H Q => ∃ (w : Wd) (x : D) (K : K1), RlW B F0 w H ∧ RpW B w x v ∧ p x lo hi w.S K ∧ Fi B F0 w K Q
def wSl (p : D → Option Int → Option Int → Sto → K1 → Prop) (wa : WE) (wl wh : WO) : WE := fun env S K KX => wa env S (fun x S1 => wl env S1 (fun lo S2 => wh env S2 (fun hi S3 => p x lo hi S3 K) KX) KX) KX
section
variable {X : Cx} {B F0 : Hp} {W : WX} {e o : Expr} {we : WE} {wl wh : WO} {lo hi : Option Expr} {pos p2 : Pos}
theorem ono : PXO X B F0 W none wNo := ⟨fun pins s σ H Q I h => by
  obtain ⟨w, env, K, KX, R, E, h, k, kx⟩ := h
  exact po_none.run pins s σ H Q I (k none w.S H w.μ w.F R .refl h)⟩
theorem osome (h1 : PX X B F0 W e we) : PXO X B F0 W (some e) (wPart we) := ⟨fun pins s σ H Q I h => by
  obtain ⟨w, env, K, KX, R, E, h, k, kx⟩ := h
  refine (po_some h1).run pins s σ H Q I ⟨w, env, _, KX, R, E, h, fun x S1 v H1 μ1 F1 R1 X1 r1 h1 => ?_, kx⟩
  dsimp only at h1 ⊢
  split at h1
  · cases r1 with | z q => cases q; exact ⟨_, rfl, k _ S1 H1 μ1 F1 R1 X1 h1⟩
  · exact h1.elim⟩
theorem xsl {p : D → Option Int → Option Int → Sto → K1 → Prop} (hr : SlR X (rSl B F0 p)) (he : PX X B F0 W e we) (hl : PXO X B F0 W lo wl) (hu : PXO X B F0 W hi wh) : PX X B F0 W (.Subscript e (.Slice lo hi none p2) pos) (wSl p we wl wh) :=
  wkE (pe_slice hr he hl hu) fun σ H Q h => by
    obtain ⟨w, env, K, KX, R, E, h, k, kx⟩ := h
    refine ⟨w, env, _, KX, R, E, h, fun x S1 v H1 μ1 F1 R1 X1 r1 h1 => ?_, kx⟩
    refine ⟨⟨μ1, S1, F1⟩, env, _, KX, R1, E.xt X1, h1, fun lo S2 H2 μ2 F2 R2 X2 h2 => ?_, kx.xt X1⟩
    refine ⟨⟨μ2, S2, F2⟩, env, _, KX, R2, E.xt (X1.trans X2), h2, fun hi S3 H3 μ3 F3 R3 X3 h3 => ?_, kx.xt (X1.trans X2)⟩
    exact ⟨⟨μ3, S3, F3⟩, x, K, R3, r1.xt (X2.trans X3), h3, k.xt ((X1.trans X2).trans X3)⟩
end

def isTy (T : Ty) (S : Sto) (x : D) : Bool := match T, x with
  | .str, .z (.str _) => true
  | .list, .r n => match S[n]? with
    | some (.lst _) => true
    | _ => false
  | .dict, .r n => match S[n]? with
    | some (.dic _) => true
    | _ => false
  | .list, .z (.list _) => true
  | .list, .b (.list _) => true
  | _, _ => false
def wMth (T : Ty) (p : D → PL) (wo : WE) (wa : WA) : WE := fun env S K KX => wo env S (fun x S1 => pReq (isTy T S1 x = true) (wa env S1 (fun ds S2 => p x ds S2 K) KX)) KX
theorem isTy_ok {K : PySem.W.Frag} {T : Ty} {B F0 H : Hp} {w : Wd} {x : D} {v : V} (R : RlW B F0 w H) (r : RpW B w x v) (h : isTy T w.S x = true) : tyV K T.s v H := by
  unfold isTy at h
  split at h
  · cases r with | z q => cases q; exact rfl
  · cases r with
    | r hi =>
      split at h
      · rename_i ds e
        obtain ⟨vs, hv, _⟩ := R.ob _ _ e
        exact .inl ⟨rfl, vs, SqL.of hv⟩
      · cases h
  · cases r with
    | r hi =>
      split at h
      · rename_i ds e
        obtain ⟨vs, hv, _⟩ := R.ob _ _ e
        exact .inr (.inr (.inl ⟨rfl, .inl ⟨_, hv⟩⟩))
      · cases h
  · cases r with | z q => cases q with | lst a b => exact .inl ⟨rfl, _, SqL.of (R.fh _ _ a)⟩
  · cases r with
    | b q =>
      cases q with
      | lst a b => exact .inl ⟨rfl, _, .inl (a.elim (fun z => R.fh.rd z) fun z => R.bh.rd z)⟩
  · cases h
section
variable {X : Cx} {B F0 : Hp} {W : WX} {o e : Expr} {es : List Expr} {wo : WE} {wa : WA} {name : Str} {apos cpos : Pos} {T : Ty} {id : String} {p : D → PL}
theorem xm0 (pa : PlainAttrs T.s) (slot : Slot T.s name id) (hty : typeOf (.builtin id) = pure (.type "method_descriptor")) (hm : MtR X id (rM B F0 p)) (ho : PX X B F0 W o wo)
    (hbase : attributeBase o name X.env (eval o X.env) = eval o X.env := by rfl) (hline : (apos.endLine == cpos.line) = true := by rfl) : PX X B F0 W (.Call (.Attribute o name apos) [] [] cpos) (wMth T p wo wNil) :=
  wkE (pe_bm0 pa slot hty hm ho hbase hline) fun σ H Q h => by
    obtain ⟨w, env, K, KX, R, E, h, k, kx⟩ := h
    refine ⟨w, env, _, KX, R, E, h, fun x S1 v H1 μ1 F1 R1 X1 r1 h1 => ?_, kx⟩
    obtain ⟨ty, h1⟩ := h1.out
    exact ⟨isTy_ok (w := ⟨μ1, S1, F1⟩) R1 r1 ty, ⟨μ1, S1, F1⟩, x, [], K, R1, r1, .nil, h1, k.xt X1⟩
theorem xm1 (pa : PlainAttrs T.s) (slot : Slot T.s name id) (hty : typeOf (.builtin id) = pure (.type "method_descriptor")) (hm : MtR X id (rM B F0 p)) (ho : PX X B F0 W o wo) (ha : PXA X B F0 W (e :: es) wa)
    (hbase : attributeBase o name X.env (eval o X.env) = eval o X.env := by rfl)
    (hfew : ((backTo cpos (starEach (e :: es) X.env)).all (fun x => !x.1) && (backToKw cpos (keywordEach [] X.env)).all (fun x => x.1.isSome)
      && decide ((e :: es).length + ([] : List Keyword).length + (if ([] : List Keyword).isEmpty then 0 else 1) < 30)) = true := by rfl)
    (hline : (apos.endLine == cpos.line) = true := by rfl) (hs : starEach (e :: es) X.env = (false, eval e X.env) :: starEach es X.env := by rfl) (hplain : (backTo cpos (starEach es X.env)).any (·.1) = false := by rfl) :
    PX X B F0 W (.Call (.Attribute o name apos) (e :: es) [] cpos) (wMth T p wo wa) :=
  wkE (pe_bm pa slot hty hm ho ha hbase hfew hline hs hplain) fun σ H Q h => by
    obtain ⟨w, env, K, KX, R, E, h, k, kx⟩ := h
    refine ⟨w, env, _, KX, R, E, h, fun x S1 v H1 μ1 F1 R1 X1 r1 h1 => ?_, kx⟩
    obtain ⟨ty, h1⟩ := h1.out
    refine ⟨isTy_ok (w := ⟨μ1, S1, F1⟩) R1 r1 ty, ⟨μ1, S1, F1⟩, env, _, KX, R1, E.xt X1, h1, fun xs S2 vs H2 μ2 F2 R2 X2 r2 h2 => ?_, kx.xt X1⟩
    exact ⟨⟨μ2, S2, F2⟩, x, xs, K, R2, r1.xt X2, r2, h2, k.xt (X1.trans X2)⟩
end
end PL

set_option Elab.async false
set_option linter.all false
set_option maxRecDepth 100000
namespace PL
open PySem L2

def lsD (S : Sto) : D → Option (List D)
  | .z (.list ds) => some (ds.map .z)
  | .b (.list ds) => some (ds.map bz)
  | .r n => match S[n]? with
    | some (.lst ds) => some ds
    | _ => none
  | _ => none
def tpD : D → Option (List D)
  | .z (.tuple ds) => some (ds.map .z)
  | .b (.tuple ds) => some (ds.map bz)
  | .t ds => some ds
  | _ => none
def sqD (S : Sto) : D → Option (List D)
  | .z (.tuple ds) => some (ds.map .z)
  | .b (.tuple ds) => some (ds.map bz)
  | .t ds => some ds
  | x => lsD S x
def lenD (S : Sto) : D → Option Nat
  | .z (.list ds) => some ds.length
  | .b (.list ds) => some ds.length
  | .z (.tuple ds) => some ds.length
  | .b (.tuple ds) => some ds.length
  | .t ds => some ds.length
  | .r n => match S[n]? with
    | some (.lst ds) => some ds.length
    | some (.dic kvs) => some kvs.length
    | _ => none
  | _ => none
def atD {α : Type} (xs : List α) : Int → Option α
  | .ofNat k => xs[k]?
  | .negSucc k => if k < xs.length then xs[xs.length - (k + 1)]? else none
def ixD (S : Sto) : D → Int → Option D
  | .z (.list ds), i => (atD ds i).map .z
  | .b (.list ds), i => (atD ds i).map bz
  | .z (.tuple ds), i => (atD ds i).map .z
  | .b (.tuple ds), i => (atD ds i).map bz
  | .t ds, i => atD ds i
  | .r n, i => match S[n]? with
    | some (.lst ds) => atD ds i
    | _ => none
  | _, _ => none
theorem atD_neg {α : Type} (xs : List α) (k : Nat) : atD xs (Int.negSucc k) = if k < xs.length then xs[xs.length - (k + 1)]? else none := rfl
theorem atD_atI {α : Type} {xs : List α} {i : Int} {x : α} (h : atD xs i = some x) : atI xs i = some x := by
  cases i with
  | ofNat k => exact atI_nat h
  | negSucc k =>
    rw [atD_neg] at h
    split at h
    · rename_i hk
      have e : ixN xs.length (Int.negSucc k) = some (xs.length - (k + 1)) := by
        unfold ixN
        rw [if_neg (by omega), if_pos (by omega)]
        congr 1
        omega
      unfold atI
      rw [e]
      exact h
    · cases h
section
variable {K : PySem.W.Frag} {B F0 H : Hp} {w : Wd}
theorem lsD_ok {x : D} {v : V} {ds : List D} (R : RlW B F0 w H) (r : RpW B w x v) (h : lsD w.S x = some ds) : ∃ a vs, v = .ref a ∧ Rd H a (.lst vs) ∧ RpsW B w ds vs := by
  unfold lsD at h
  split at h
  · cases h; cases r with | z q => cases q with | lst a b => exact ⟨_, _, rfl, .inl (R.fh _ _ a), RpDs.zs b⟩
  · cases h; cases r with | b q => cases q with | lst a b => exact ⟨_, _, rfl, a.elim (fun z => R.fh.rd z) fun z => R.bh.rd z, RpDs.bzs b⟩
  · split at h
    · rename_i e
      cases h; cases r with | r hi => obtain ⟨vs, hv, rv⟩ := R.ob _ _ e; exact ⟨_, vs, rfl, .inl hv, rv⟩
    · cases h
  · cases h
theorem tpD_ok {x : D} {v : V} {ds : List D} (R : RlW B F0 w H) (r : RpW B w x v) (h : tpD x = some ds) : ∃ a vs, v = .ref a ∧ H a = some (.tup vs) ∧ RpsW B w ds vs := by
  unfold tpD at h
  split at h
  · cases h; cases r with | z q => cases q with | tup a b => exact ⟨_, _, rfl, R.fh _ _ a, RpDs.zs b⟩
  · cases h; cases r with | b q => cases q with | tup a b => exact ⟨_, _, rfl, R.fh _ _ a, RpDs.bzs b⟩
  · cases h; cases r with | t a b => exact ⟨_, _, rfl, R.fh _ _ a, b⟩
  · cases h
theorem tpD_okF {x : D} {v : V} {ds : List D} (R : RlW B F0 w H) (r : RpW B w x v) (h : tpD x = some ds) : ∃ a vs, v = .ref a ∧ H a = some (.tup vs) ∧ w.F a = some (.tup vs) ∧ RpsW B w ds vs := by
  unfold tpD at h
  split at h
  · cases h; cases r with | z q => cases q with | tup a b => exact ⟨_, _, rfl, R.fh _ _ a, a, RpDs.zs b⟩
  · cases h; cases r with | b q => cases q with | tup a b => exact ⟨_, _, rfl, R.fh _ _ a, a, RpDs.bzs b⟩
  · cases h; cases r with | t a b => exact ⟨_, _, rfl, R.fh _ _ a, a, b⟩
  · cases h
theorem sqD_ok {x : D} {v : V} {ds : List D} (R : RlW B F0 w H) (r : RpW B w x v) (h : sqD w.S x = some ds) : ∃ a vs, v = .ref a ∧ (SqL K H a vs ∨ SqT K H a vs) ∧ RpsW B w ds vs := by
  unfold sqD at h
  split at h
  · cases h; cases r with | z q => cases q with | tup a b => exact ⟨_, _, rfl, .inr (.inl (.inl (R.fh _ _ a))), RpDs.zs b⟩
  · cases h; cases r with | b q => cases q with | tup a b => exact ⟨_, _, rfl, .inr (.inl (.inl (R.fh _ _ a))), RpDs.bzs b⟩
  · cases h; cases r with | t a b => exact ⟨_, _, rfl, .inr (.inl (.inl (R.fh _ _ a))), b⟩
  · obtain ⟨a, vs, e, h1, h2⟩ := lsD_ok R r h
    exact ⟨a, vs, e, .inl (.inl h1), h2⟩
theorem ixD_ok {x d : D} {v : V} {i : Int} (R : RlW B F0 w H) (r : RpW B w x v) (h : ixD w.S x i = some d) : ∃ a vs u, v = .ref a ∧ (SqL K H a vs ∨ SqT K H a vs) ∧ atI vs i = some u ∧ RpW B w d u := by
  have key : ∀ {ds : List D} {vs : List V}, RpsW B w ds vs → atD ds i = some d → ∃ u, atI vs i = some u ∧ RpW B w d u := fun {ds vs} rv e => by
    cases i with
    | ofNat k =>
      obtain ⟨u, h1, h2⟩ := RpDs.get rv e
      exact ⟨u, atI_nat h1, h2⟩
    | negSucc k =>
      have e2 : atD ds (Int.negSucc k) = some d := e
      rw [atD_neg] at e
      split at e
      · rename_i hk
        obtain ⟨u, h1, h2⟩ := RpDs.get rv e
        refine ⟨u, atD_atI ?_, h2⟩
        have hl : vs.length = ds.length := rv.length.symm
        rw [atD_neg, hl, if_pos hk]
        exact h1
      · cases e
  have mp : ∀ {f : PyData → D} {ds : List PyData}, (atD ds i).map f = some d → atD (ds.map f) i = some d := fun {f ds} e => by
    cases i with
    | ofNat k => show (ds.map f)[k]? = _; rw [List.getElem?_map]; exact e
    | negSucc k =>
      rw [atD_neg] at e ⊢
      rw [List.length_map]
      split at e
      · rename_i hk
        rw [if_pos hk, List.getElem?_map]; exact e
      · simp at e
  unfold ixD at h
  split at h
  · cases r with | z q => cases q with | lst a b => obtain ⟨u, h1, h2⟩ := key (RpDs.zs b) (mp h); exact ⟨_, _, u, rfl, .inl (.inl (.inl (R.fh _ _ a))), h1, h2⟩
  · cases r with | b q => cases q with | lst a b => obtain ⟨u, h1, h2⟩ := key (RpDs.bzs b) (mp h); exact ⟨_, _, u, rfl, .inl (.inl (a.elim (fun z => R.fh.rd z) fun z => R.bh.rd z)), h1, h2⟩
  · cases r with | z q => cases q with | tup a b => obtain ⟨u, h1, h2⟩ := key (RpDs.zs b) (mp h); exact ⟨_, _, u, rfl, .inr (.inl (.inl (R.fh _ _ a))), h1, h2⟩
  · cases r with | b q => cases q with | tup a b => obtain ⟨u, h1, h2⟩ := key (RpDs.bzs b) (mp h); exact ⟨_, _, u, rfl, .inr (.inl (.inl (R.fh _ _ a))), h1, h2⟩
  · cases r with | t a b => obtain ⟨u, h1, h2⟩ := key b h; exact ⟨_, _, u, rfl, .inr (.inl (.inl (R.fh _ _ a))), h1, h2⟩
  · split at h
    · rename_i e
      cases r with | r hi => obtain ⟨vs, hv, rv⟩ := R.ob _ _ e; obtain ⟨u, h1, h2⟩ := key rv h; exact ⟨_, _, u, rfl, .inl (.inl (.inl hv)), h1, h2⟩
    · cases h
  · cases h
end

section
variable {B F0 H : Hp} {w : Wd} {K : K1} {Q : VK}
theorem Fi.data {d : PyData} {v : V} (k : Fi B F0 w K Q) (R : RlW B F0 w H) (r : ∀ L T, RpT L T d v) (h : K (.z d) w.S) : Q v H := k _ w.S v H w.μ w.F R .refl (.z (r _ _)) h
theorem Fi.int {i : Int} (k : Fi B F0 w K Q) (R : RlW B F0 w H) (h : K (.z (.int i)) w.S) : Q (.int i) H := k.data R (fun _ _ => .int i) h
theorem Fi.bl {i : Bool} (k : Fi B F0 w K Q) (R : RlW B F0 w H) (h : K (.z (.bool i)) w.S) : Q (.bl i) H := k.data R (fun _ _ => .bl i) h
theorem Fi.str {i : Str} (k : Fi B F0 w K Q) (R : RlW B F0 w H) (h : K (.z (.str i)) w.S) : Q (.str i) H := k.data R (fun _ _ => .str i) h
theorem Fi.non (k : Fi B F0 w K Q) (R : RlW B F0 w H) (h : K (.z .none) w.S) : Q .non H := k.data R (fun _ _ => .non) h
theorem Fi.newL {ds : List D} {vs : List V} (k : Fi B F0 w K Q) (R : RlW B F0 w H) (r : RpsW B w ds vs) (h : K (.r w.S.length) (w.S ++ [.lst ds])) {p : Addr} (hp : H p = none) : Q (.ref p) (upd H p (.lst vs)) := by
  obtain ⟨R2, X2⟩ := R.grow (u := .lst vs) (o := .lst ds) hp fun G hG => ⟨vs, hG, r⟩
  have e : muX w.μ w.S.length p w.S.length = p := by unfold muX; rw [if_pos rfl]
  have q : RpD B w.F (muX w.μ w.S.length p) (w.S ++ [Ob.lst ds]).length (.r w.S.length) (.ref (muX w.μ w.S.length p w.S.length)) := .r (by simp)
  rw [e] at q
  exact k _ _ _ _ _ _ R2 X2 q h
theorem Fi.newT {ds : List D} {vs : List V} (k : Fi B F0 w K Q) (R : RlW B F0 w H) (r : RpsW B w ds vs) (h : K (mkT ds) w.S) {p : Addr} (hp : H p = none) : Q (.ref p) (upd H p (.tup vs)) := by
  obtain ⟨R2, X2⟩ := R.froze (.tup vs) hp
  exact k _ _ _ _ _ _ R2 X2 (mkT_rp upd_same (r.xt X2)) h
theorem Fi.setL {n : Nat} {ds : List D} {vs : List V} {d : D} {v : V} (k : Fi B F0 w K Q) (R : RlW B F0 w H) (hn : n < w.S.length) (r : RpsW B w ds vs) (rd : RpW B w d v) (h : K d (w.S.set n (.lst ds))) : Q v (upd H (w.μ n) (.lst vs)) := by
  obtain ⟨R2, X2⟩ := R.write (u := .lst vs) (o := .lst ds) hn fun G hG => ⟨vs, hG, r⟩
  exact k _ _ _ _ _ _ R2 X2 (rd.xt X2) h
end
def lsR (S : Sto) (n : Nat) : Option (List D) := match S[n]? with
  | some (.lst ds) => some ds
  | _ => none
theorem lsR_ok {B F0 H : Hp} {w : Wd} {n : Nat} {ds : List D} (R : RlW B F0 w H) (h : lsR w.S n = some ds) : n < w.S.length ∧ ∃ vs, H (w.μ n) = some (.lst vs) ∧ RpsW B w ds vs := by
  unfold lsR at h
  split at h
  · rename_i e
    cases h
    obtain ⟨vs, hv, rv⟩ := R.ob _ _ e
    exact ⟨Rl.lt e, vs, hv, rv⟩
  · cases h

def pCat : P2 := fun x y S K => pGet (lsD S x) fun xs => pGet (lsD S y) fun ys => pReq (xs.length + ys.length ≤ sizeLine) (K (.r S.length) (S ++ [.lst (xs ++ ys)]))
def pAdd : P2 := fun x y S K => match x, y with
  | .z (.int i), .z (.int j) => K (.z (.int (i + j))) S
  | .z (.str a), .z (.str b) => pReq (a.length + b.length ≤ sizeLine) (K (.z (.str (a ++ b))) S)
  | x, y => match tpD x, tpD y with
    | some xs, some ys => pReq (xs.length + ys.length ≤ sizeLine) (K (mkT (xs ++ ys)) S)
    | _, _ => pCat x y S K
def pSub : P2 := fun x y S K => match x, y with
  | .z (.int i), .z (.int j) => K (.z (.int (i - j))) S
  | _, _ => False
def strRep (x : Str) (k : Nat) : Str := ⟨(List.replicate k x.cps.toList).flatten.toArray⟩
def pMul : P2 := fun x y S K => match x, y with
  | .z (.int i), .z (.int j) => pReq (CMul i j) (K (.z (.int (i * j))) S)
  | .z (.str a), .z (.int j) => pReq (0 ≤ j ∧ j ≤ 1000 ∧ a.length ≤ 1000) (K (.z (.str (strRep a j.toNat))) S)
  | .r n, .z (.int j) => pGet (lsR S n) fun xs => pReq (-(2 ^ 63) ≤ j ∧ j < 2 ^ 63 ∧ xs.length * j.toNat ≤ sizeLine) (K (.r S.length) (S ++ [.lst (List.replicate j.toNat xs).flatten]))
  | _, _ => False
def pDiv : P2 := fun x y S K => match x, y with
  | .z (.int i), .z (.int j) => pReq (j ≠ 0 ∧ j.natAbs < 1073741824) (K (.z (.int (i.fdiv j))) S)
  | _, _ => False
def pMod : P2 := fun x y S K => match x, y with
  | .z (.int i), .z (.int j) => pReq (j ≠ 0) (K (.z (.int (i.fmod j))) S)
  | _, _ => False
def pPow : P2 := fun x y S K => match x, y with
  | .z (.int i), .z (.int j) => pReq (0 ≤ j ∧ j ≤ 1000000 ∧ i.natAbs < 2 ^ 64) (K (.z (.int (i ^ j.toNat))) S)
  | _, _ => False
theorem rpInt {B : Hp} {w : Wd} {i : Int} {v : V} (r : RpW B w (.z (.int i)) v) : v = .int i := by cases r with | z q => cases q; rfl
theorem rpStr {B : Hp} {w : Wd} {i : Str} {v : V} (r : RpW B w (.z (.str i)) v) : v = .str i := by cases r with | z q => cases q; rfl
theorem rpBl {B : Hp} {w : Wd} {i : Bool} {v : V} (r : RpW B w (.z (.bool i)) v) : v = .bl i := by cases r with | z q => cases q; rfl
theorem strRep_ok (x : Str) : ∀ k : Nat, (List.replicate k x.cps).foldl (· ++ ·) #[] = (strRep x k).cps := by
  have h : ∀ (k : Nat) (acc : Array Nat), (List.replicate k x.cps).foldl (· ++ ·) acc = acc ++ (List.replicate k x.cps.toList).flatten.toArray := by
    intro k
    induction k with
    | zero => intro acc; simp
    | succ k ih => intro acc; rw [List.replicate_succ, List.foldl_cons, ih, List.replicate_succ, List.flatten_cons]; apply Array.ext'; simp
  intro k
  rw [h]; simp [strRep]
section
variable {X : Cx} {B F0 : Hp}
theorem catR {f : Value → Value → Sem Value} (hf : ∀ {pins : List (Addr × Obj)} {s : Shared} {σ : St} {H : Hp} {l b : Addr} {xs zs : List V} {Q : VK}, Inv X pins σ H s → Rd H l (.lst xs) → Rd H b (.lst zs) → xs.length + zs.length ≤ sizeLine → (∀ p, H p = none → Q (.ref p) (upd H p (.lst (xs ++ zs)))) →
    wpAny (model X.prog X.w) X.A (f (.ref l) (.ref b)) (EP X pins σ Q) X.xe s) : OpR X f (r2 B F0 pCat) := by
  intro pins s σ H x y v u Q I rx ry h
  obtain ⟨w, dx, dy, K, R, r1, r2, h, k⟩ := h
  obtain ⟨xs, e1, h⟩ := h.out
  obtain ⟨ys, e2, h⟩ := h.out
  obtain ⟨hz, h⟩ := h.out
  obtain ⟨a, vs, rfl, d1, q1⟩ := lsD_ok R r1 e1
  obtain ⟨b, us, rfl, d2, q2⟩ := lsD_ok R r2 e2
  cases rx; cases ry
  exact hf I d1 d2 (by rw [← q1.length, ← q2.length]; exact hz) fun p hp => k.newL R (q1.append q2) h hp
theorem cat_lists {pins : List (Addr × Obj)} {s : Shared} {σ : St} {H : Hp} {l b : Addr} {xs zs : List V} {Q : VK} (I : Inv X pins σ H s) (h1 : Rd H l (.lst xs)) (h2 : Rd H b (.lst zs)) (hz : xs.length + zs.length ≤ sizeLine)
    (q : ∀ p, H p = none → Q (.ref p) (upd H p (.lst (xs ++ zs)))) : wpAny (model X.prog X.w) X.A (binaryOp .Add (.ref l) (.ref b)) (EP X pins σ Q) X.xe s := by
  obtain ⟨z1, its, n, v1, e1⟩ := h1.ok I.hok
  obtain ⟨z2, jts, m, v2, e2⟩ := h2.ok I.hok
  have l1 := v1.length
  have l2 := v2.length
  refine PySem.P.add_list e1 e2 ?_ ?_
  · have ea : its.toArray ++ jts.toArray = (its ++ jts).toArray := by simp
    rw [ea]
    exact ⟨.ref _, _, I.lnew (t' := s.toks) (v1.append v2) (by simp; omega), rfl, q _ I.fresh⟩
  · simp; omega
theorem oAdd : OpR X (binaryOp .Add) (r2 B F0 pAdd) := by
  intro pins s σ H x y v u Q I rx ry h
  obtain ⟨w, dx, dy, K, R, q1, q2, h, k⟩ := h
  unfold pAdd at h
  split at h
  · rw [rpInt q1] at rx; rw [rpInt q2] at ry
    exact op_add pins s σ H _ _ v u Q I rx ry ⟨_, _, rfl, rfl, k.int R h⟩
  · obtain ⟨hz, h⟩ := h.out
    rw [rpStr q1] at rx; rw [rpStr q2] at ry
    exact op_add_str pins s σ H _ _ v u Q I rx ry ⟨_, _, rfl, rfl, hz, k.str R h⟩
  split at h
  · rename_i xs ys e1 e2
    obtain ⟨hz, h⟩ := h.out
    obtain ⟨a, vs, rfl, ha, fa, ra⟩ := tpD_okF R q1 e1
    obtain ⟨b, us, rfl, hb, fb, rb⟩ := tpD_okF R q2 e2
    refine op_catA pins s σ H _ _ v u Q I rx ry ⟨a, b, vs, us, rfl, rfl, .inl (.inl ha), .inl (.inl hb), by rw [← ra.length, ← rb.length]; exact hz, fun z => ?_, fun _ z => ?_, fun _ _ p hp => k.newT R (ra.append rb) h hp⟩
    · subst z
      cases ra
      exact k _ w.S _ H w.μ w.F R .refl (mkT_rp fb rb) h
    · subst z
      cases rb
      rw [List.append_nil] at h
      exact k _ w.S _ H w.μ w.F R .refl (mkT_rp fa ra) h
  · exact catR (B := B) (F0 := F0) (fun {_ _ _ _ _ _ _ _ _} I a b c d => cat_lists I a b c d) pins s σ H _ _ v u Q I rx ry ⟨w, _, _, K, R, q1, q2, h, k⟩
theorem intOp {op : Operator} {g : Int → Int → Int} {C : Int → Int → Prop} {p : P2} (ho : OpR X (binaryOp op) (rI C fun i j => .int (g i j))) (hp : ∀ x y S K, p x y S K → ∃ i j, x = .z (.int i) ∧ y = .z (.int j) ∧ C i j ∧ K (.z (.int (g i j))) S) : OpR X (binaryOp op) (r2 B F0 p) := by
  intro pins s σ H x y v u Q I rx ry h
  obtain ⟨w, dx, dy, K, R, q1, q2, h, k⟩ := h
  obtain ⟨i, j, rfl, rfl, hc, h5⟩ := hp _ _ _ _ h
  rw [rpInt q1] at rx; rw [rpInt q2] at ry
  exact ho pins s σ H _ _ v u Q I rx ry ⟨_, _, rfl, rfl, hc, k.int R h5⟩
theorem intOp0 {op : Operator} {g : Int → Int → Int} {p : P2} (ho : OpR X (binaryOp op) (rI0 fun i j => .int (g i j))) (hp : ∀ x y S K, p x y S K → ∃ i j, x = .z (.int i) ∧ y = .z (.int j) ∧ K (.z (.int (g i j))) S) : OpR X (binaryOp op) (r2 B F0 p) := by
  intro pins s σ H x y v u Q I rx ry h
  obtain ⟨w, dx, dy, K, R, q1, q2, h, k⟩ := h
  obtain ⟨i, j, rfl, rfl, h5⟩ := hp _ _ _ _ h
  rw [rpInt q1] at rx; rw [rpInt q2] at ry
  exact ho pins s σ H _ _ v u Q I rx ry ⟨_, _, rfl, rfl, k.int R h5⟩
theorem oSub : OpR X (binaryOp .Sub) (r2 B F0 pSub) := intOp0 op_sub fun x y S K h => by
  unfold pSub at h; split at h
  · exact ⟨_, _, rfl, rfl, h⟩
  · exact h.elim
theorem RpDs.rep {B : Hp} {w : Wd} {ds : List D} {vs : List V} (h : RpsW B w ds vs) : ∀ k : Nat, RpsW B w (List.replicate k ds).flatten (List.replicate k vs).flatten
  | 0 => .nil
  | k + 1 => by
    rw [List.replicate_succ, List.replicate_succ, List.flatten_cons, List.flatten_cons]
    exact h.append (RpDs.rep h k)
theorem oMul : OpR X (binaryOp .Mult) (r2 B F0 pMul) := by
  intro pins s σ H x y v u Q I rx ry h
  obtain ⟨w, dx, dy, K, R, q1, q2, h, k⟩ := h
  unfold pMul at h
  split at h
  · obtain ⟨hc, h⟩ := h.out
    rw [rpInt q1] at rx; rw [rpInt q2] at ry
    exact op_mul pins s σ H _ _ v u Q I rx ry ⟨_, _, rfl, rfl, hc, k.int R h⟩
  · rename_i a j
    obtain ⟨⟨h0, h1, h2⟩, h⟩ := h.out
    rw [rpStr q1] at rx; rw [rpInt q2] at ry
    obtain ⟨t, rfl⟩ := rx
    obtain ⟨t', rfl⟩ := ry
    have hm : a.length * j.toNat ≤ 1000000 := Nat.le_trans (Nat.mul_le_mul h2 (show j.toNat ≤ 1000 by omega)) (by decide)
    refine PySem.P.mul_str (by rw [decide_eq_false (by omega), decide_eq_false (by omega)]; rfl) (fun hn _ => ?_) (fun _ _ => ?_) ?_
    · have e : (1000 : Int) ≤ (2 ^ 63 - 1) / j := (Int.le_ediv_iff_mul_le (by omega)).mpr (by omega)
      omega
    · unfold Builtin.Str.tooLong
      exact decide_eq_false (by rw [sizeLine_eq]; omega)
    · have fin : ∀ t, EP X pins σ Q (.str (strRep a j.toNat) t) s := fun t => ⟨.str _, H, I, ⟨t, rfl⟩, k.str R h⟩
      have fin' : ∀ t n, EP X pins σ Q (.str (strRep a j.toNat) t) { s with toks := n } := fun t n => ⟨.str _, H, I.tok n, ⟨t, rfl⟩, k.str R h⟩
      by_cases c1 : j < 1
      · rw [if_pos c1]
        have e : strRep a j.toNat = Str.empty := by
          have : j.toNat = 0 := by omega
          rw [this]; rfl
        rw [e] at fin'
        exact ⟨by decide, fin' _ _⟩
      · rw [if_neg c1]
        by_cases c2 : (j == 1 || a.length == 0) = true
        · rw [if_pos c2]
          have e : strRep a j.toNat = a := by
            rcases Bool.or_eq_true_iff.mp c2 with c | c
            · have : j.toNat = 1 := by have := eq_of_beq c; omega
              rw [this]
              simp [strRep]
            · have hl : a.cps.toList = [] := by
                have := eq_of_beq c
                exact List.eq_nil_of_length_eq_zero this
              have ha : a = ⟨#[]⟩ := by
                cases a with | mk cps => simp at hl; rw [hl]
              rw [ha]; simp [strRep]
          rw [e] at fin
          exact fin t
        · rw [if_neg c2, strRep_ok]
          have e : (⟨(strRep a j.toNat).cps⟩ : Str) = strRep a j.toNat := rfl
          rw [e]
          refine ⟨?_, fin' _ _⟩
          show (strRep a j.toNat).length ≤ _
          have : (strRep a j.toNat).length = j.toNat * a.length := by
            show (strRep a j.toNat).cps.size = _
            simp [strRep, Str.length]
          rw [this, Nat.mul_comm, sizeLine_eq]; omega
  · rename_i n j
    obtain ⟨xs, e1, h⟩ := h.out
    obtain ⟨⟨h1, h2, hz⟩, h⟩ := h.out
    rw [rpInt q2] at ry
    obtain ⟨hn, vs, hv, rv⟩ := lsR_ok R e1
    cases q1
    exact op_rep pins s σ H _ _ v u Q I rx ry ⟨w.μ n, _, vs, rfl, rfl, hv, h1, h2, by rw [← rv.length]; exact hz, fun p hp => k.newL R (RpDs.rep rv j.toNat) h hp⟩
  · exact h.elim
theorem oDiv : OpR X (binaryOp .FloorDiv) (r2 B F0 pDiv) := intOp op_fdivN fun x y S K h => by
  unfold pDiv at h; split at h
  · obtain ⟨hc, h⟩ := h.out; exact ⟨_, _, rfl, rfl, hc, h⟩
  · exact h.elim
theorem oMod : OpR X (binaryOp .Mod) (r2 B F0 pMod) := intOp op_modN fun x y S K h => by
  unfold pMod at h; split at h
  · obtain ⟨hc, h⟩ := h.out; exact ⟨_, _, rfl, rfl, hc, h⟩
  · exact h.elim
theorem oPow : OpR X (binaryOp .Pow) (r2 B F0 pPow) := intOp op_pow fun x y S K h => by
  unfold pPow at h; split at h
  · obtain ⟨hc, h⟩ := h.out; exact ⟨_, _, rfl, rfl, hc, h⟩
  · exact h.elim
end
end PL

set_option Elab.async false
set_option linter.all false
set_option maxRecDepth 100000
namespace PL
open PySem L2

abbrev B2 := D → D → Sto → (Bool → Prop) → Prop
def cB (p : B2) : P2 := fun x y S K => p x y S fun b => K (.z (.bool b)) S
structure bEqG (x y : D) (S : Sto) (k : Bool → Prop) : Prop where
  out : ∃ d e, Vw S x d ∧ Vw S y e ∧ SeqAt.shaped d = true ∧ SeqAt.shaped e = true ∧ k (PyData.eqv d e)
def bEq : B2 := fun x y S k => match x, y with
  | .z (.int i), .z (.int j) => k (decide (i = j))
  | .z (.str i), .z (.str j) => k (decide (i = j))
  | .z (.bool i), .z (.bool j) => k (decide (i = j))
  | x, y => bEqG x y S k
def bNe : B2 := fun x y S k => bEq x y S fun b => k (!b)
def bI (g : Int → Int → Bool) : B2 := fun x y _ k => match x, y with
  | .z (.int i), .z (.int j) => k (g i j)
  | _, _ => False
abbrev bGt : B2 := bI fun i j => decide (j < i)
abbrev bGe : B2 := bI fun i j => decide (j ≤ i)
def keyD : D → Option Key
  | .z (.int i) => some (.inl i)
  | .z (.str s) => some (.inr s)
  | _ => none
def hasD (kvs : List (Key × D)) (k : Key) : Bool := kvs.any fun p => decide (p.1 = k)
structure bInG (x y : D) (S : Sto) (k : Bool → Prop) : Prop where
  out : (∃ d ds, Vw S x d ∧ Vw S y (.list ds) ∧ SeqAt.shaped d = true ∧ SeqAt.shaped (.list ds) = true ∧ k (ds.any fun z => PyData.eqv z d)) ∨
  (∃ (s : Str) (ss : List Str), x = .z (.str s) ∧ Vw S y (.tuple (ss.map .str)) ∧ k (decide (s ∈ ss)))
def bIn : B2 := fun x y S k => match y with
  | .z (.str s) => match x with
    | .z (.str ⟨⟨[c]⟩⟩) => k (decide (c ∈ s.cps.toList))
    | x => bInG x (.z (.str s)) S k
  | .r n => pGet S[n]? fun o => match o with
    | .dic kvs => pGet (keyD x) fun κ => k (hasD kvs κ)
    | .lst _ => bInG x (.r n) S k
    | .kd _ _ => False
    | .ins _ _ => False
  | y => bInG x y S k
def bNotIn : B2 := fun x y S k => bIn x y S fun b => k (!b)

section
variable {X : Cx} {B F0 : Hp}
theorem cmpR {f : Value → Value → Sem Value} {p : B2}
    (hf : ∀ {pins : List (Addr × Obj)} {s : Shared} {σ : St} {H : Hp} {x y : V} {v u : Value} {w : Wd} {dx dy : D} {k : Bool → Prop} {Q : VK}, Inv X pins σ H s → RelV x v → RelV y u → RlW B F0 w H → RpW B w dx x → RpW B w dy y → p dx dy w.S k → (∀ b, k b → Q (.bl b) H) →
      wpAny (model X.prog X.w) X.A (f v u) (EP X pins σ Q) X.xe s) : OpR X f (r2 B F0 (cB p)) := by
  intro pins s σ H x y v u Q I rx ry h
  obtain ⟨w, dx, dy, K, R, q1, q2, h, k⟩ := h
  exact hf I rx ry R q1 q2 h fun b hb => k.bl R hb
theorem eq_int_dec (i j : Int) : decide (V.int i = V.int j) = decide (i = j) := by rw [dec_int]; exact Bool.beq_eq_decide_eq i j
theorem eq_str_dec (i j : Str) : decide (V.str i = V.str j) = decide (i = j) := by rw [dec_str]; by_cases h : i = j <;> simp [h]
theorem eq_bl_dec (i j : Bool) : decide (V.bl i = V.bl j) = decide (i = j) := by rw [dec_bl]; by_cases h : i = j <;> simp [h]
theorem oEq (hu : X.A.units + 100 < cLine) : OpR X (compareOp .Eq) (r2 B F0 (cB bEq)) := cmpR fun {pins s σ H x y v u w dx dy k Q} I rx ry R q1 q2 h kb => by
  unfold bEq at h
  split at h
  · rw [rpInt q1] at rx; rw [rpInt q2] at ry
    exact op_eq pins s σ H _ _ v u Q I rx ry ⟨rfl, by rw [eq_int_dec]; exact kb _ h⟩
  · rw [rpStr q1] at rx; rw [rpStr q2] at ry
    exact op_eq pins s σ H _ _ v u Q I rx ry ⟨rfl, by rw [eq_str_dec]; exact kb _ h⟩
  · rw [rpBl q1] at rx; rw [rpBl q2] at ry
    exact op_eq pins s σ H _ _ v u Q I rx ry ⟨rfl, by rw [eq_bl_dec]; exact kb _ h⟩
  · have h := h.out
    obtain ⟨d, e, w1, w2, s1, s2, h⟩ := h
    exact op_eqD (by omega) pins s σ H x y v u Q I rx ry ⟨d, e, RpT.dp R.fh _ _ (Vw.rp R _ _ _ w1 q1), RpT.dp R.fh _ _ (Vw.rp R _ _ _ w2 q2), s1, s2, kb _ h⟩
theorem oNe (hu : X.A.units + 100 < cLine) : OpR X (compareOp .NotEq) (r2 B F0 (cB bNe)) := cmpR fun {pins s σ H x y v u w dx dy k Q} I rx ry R q1 q2 h kb => by
  unfold bNe bEq at h
  split at h
  · rw [rpInt q1] at rx; rw [rpInt q2] at ry
    exact op_ne pins s σ H _ _ v u Q I rx ry ⟨rfl, by rw [eq_int_dec]; exact kb _ h⟩
  · rw [rpStr q1] at rx; rw [rpStr q2] at ry
    exact op_ne pins s σ H _ _ v u Q I rx ry ⟨rfl, by rw [eq_str_dec]; exact kb _ h⟩
  · rw [rpBl q1] at rx; rw [rpBl q2] at ry
    exact op_ne pins s σ H _ _ v u Q I rx ry ⟨rfl, by rw [eq_bl_dec]; exact kb _ h⟩
  · have h := h.out
    obtain ⟨d, e, w1, w2, s1, s2, h⟩ := h
    exact op_neD (by omega) pins s σ H x y v u Q I rx ry ⟨d, e, RpT.dp R.fh _ _ (Vw.rp R _ _ _ w1 q1), RpT.dp R.fh _ _ (Vw.rp R _ _ _ w2 q2), s1, s2, kb _ h⟩
theorem cmpI {op : CmpOp} {g : Int → Int → Bool} (ho : OpR X (compareOp op) (rI0 fun i j => .bl (g i j))) : OpR X (compareOp op) (r2 B F0 (cB (bI g))) := cmpR fun {pins s σ H x y v u w dx dy k Q} I rx ry R q1 q2 h kb => by
  unfold bI at h
  split at h
  · rw [rpInt q1] at rx; rw [rpInt q2] at ry
    exact ho pins s σ H _ _ v u Q I rx ry ⟨_, _, rfl, rfl, kb _ h⟩
  · exact h.elim
theorem oGt : OpR X (compareOp .Gt) (r2 B F0 (cB bGt)) := cmpI op_gt
theorem oGe : OpR X (compareOp .GtE) (r2 B F0 (cB bGe)) := cmpI op_ge
theorem keyD_ok {w : Wd} {d : D} {v : V} {κ : Key} (r : RpW B w d v) (h : keyD d = some κ) : v = kV κ := by
  unfold keyD at h
  split at h
  · cases h; exact rpInt r
  · cases h; exact rpStr r
  · cases h
end

def getD' (kvs : List (Key × D)) (k : Key) : Option D := (kvs.find? fun p => decide (p.1 = k)).map (·.2)
def putD (kvs : List (Key × D)) (k : Key) (v : D) : List (Key × D) := if hasD kvs k = true then kvs.map (fun p => if p.1 = k then (p.1, v) else p) else kvs ++ [(k, v)]
def KvR (B F : Hp) (μ : Nat → Addr) (n : Nat) : List (Key × D) → List (Key × V) → Prop := Paired fun (p : Key × D) (q : Key × V) => p.1 = q.1 ∧ RpD B F μ n p.2 q.2
section
variable {B F0 H : Hp} {w : Wd}
abbrev KvW (B : Hp) (w : Wd) (kvs : List (Key × D)) (ws : List (Key × V)) : Prop := KvR B w.F w.μ w.S.length kvs ws
theorem KvR.get {kvs : List (Key × D)} {ws : List (Key × V)} (h : KvW B w kvs ws) (k : Key) : (getD' kvs k = none ∧ valV ws k = none) ∨ ∃ d v, getD' kvs k = some d ∧ valV ws k = some v ∧ RpW B w d v := by
  induction h with
  | nil => exact .inl ⟨rfl, rfl⟩
  | @cons p q ps qs r t ih =>
    by_cases e : p.1 = k
    · refine .inr ⟨p.2, q.2, ?_, ?_, r.2⟩
      · unfold getD'; rw [List.find?_cons_of_pos (by simp [e])]; rfl
      · exact valV_pos (r.1 ▸ e)
    · have e' : ¬ q.1 = k := r.1 ▸ e
      have h1 : getD' (p :: ps) k = getD' ps k := by unfold getD'; rw [List.find?_cons_of_neg (by simp [e])]
      rw [h1, valV_neg e']
      exact ih
theorem hasD_get {kvs : List (Key × D)} {k : Key} : hasD kvs k = (getD' kvs k).isSome := by
  induction kvs with
  | nil => rfl
  | cons p ps ih =>
    by_cases e : p.1 = k
    · simp [hasD, getD', List.find?_cons, e]
    · unfold hasD getD' at *
      rw [List.any_cons, List.find?_cons_of_neg (by simp [e]), ih]
      simp [e]
theorem KvR.has {kvs : List (Key × D)} {ws : List (Key × V)} (h : KvW B w kvs ws) (k : Key) : (ws.any fun kv => decide (kv.1 = k)) = hasD kvs k := by
  induction h with
  | nil => rfl
  | @cons p q ps qs r t ih => unfold hasD at *; rw [List.any_cons, List.any_cons, ih, r.1]
theorem KvR.put {kvs : List (Key × D)} {ws : List (Key × V)} {d : D} {v : V} (h : KvW B w kvs ws) (k : Key) (rd : RpW B w d v) : KvW B w (putD kvs k d) (putK ws k v) := by
  have hh := h.has k
  unfold putD putK
  by_cases c : hasD kvs k = true
  · rw [if_pos c, if_pos (by rw [hh]; exact c)]
    clear hh c
    induction h with
    | nil => exact .nil
    | @cons p q ps qs r t ih =>
      refine .cons ?_ ih
      show (if p.1 = k then (p.1, d) else p).1 = (if q.1 = k then (q.1, v) else q).1 ∧ RpD B w.F w.μ w.S.length (if p.1 = k then (p.1, d) else p).2 (if q.1 = k then (q.1, v) else q).2
      rw [← r.1]
      by_cases e : p.1 = k
      · rw [if_pos e, if_pos e]; exact ⟨rfl, rd⟩
      · rw [if_neg e, if_neg e]; exact r
  · rw [if_neg c, if_neg (by rw [hh]; exact c)]
    exact Paired.snoc h ⟨rfl, rd⟩
def dcR (S : Sto) (n : Nat) : Option (List (Key × D)) := match S[n]? with
  | some (.dic kvs) => some kvs
  | _ => none
theorem dcR_ok {n : Nat} {kvs : List (Key × D)} (R : RlW B F0 w H) (h : dcR w.S n = some kvs) : n < w.S.length ∧ ∃ ws, H (w.μ n) = some (.dK ws) ∧ KvW B w kvs ws := by
  unfold dcR at h
  split at h
  · rename_i e
    cases h
    obtain ⟨ws, hv, rv⟩ := R.ob _ _ e
    exact ⟨Rl.lt e, ws, hv, rv⟩
  · cases h
end

section
variable {X : Cx} {B F0 : Hp}
theorem inV_strs (z : Str) : ∀ zs : List Str, inV (.str z) (zs.map V.str) = decide (z ∈ zs)
  | [] => rfl
  | c :: cs => by
    have h : inV (.str z) ((c :: cs).map V.str) = (eqV (V.str c) (V.str z) || inV (.str z) (cs.map V.str)) := rfl
    have e : eqV (V.str c) (V.str z) = decide (c = z) := by
      show (c == z) = decide (c = z)
      by_cases hc : c = z <;> simp [hc]
    rw [h, e, inV_strs z cs]
    by_cases hc : c = z
    · simp [hc]
    · have hz : ¬ z = c := fun e => hc e.symm
      simp [hc, hz]
theorem inG {neg : Bool} (hu : X.A.units + 100 < cLine) {pins : List (Addr × Obj)} {s : Shared} {σ : St} {H : Hp} {x y : V} {v u : Value} {w : Wd} {dx dy : D} {k : Bool → Prop} {Q : VK} (I : Inv X pins σ H s) (rx : RelV x v) (ry : RelV y u) (R : RlW B F0 w H) (q1 : RpW B w dx x) (q2 : RpW B w dy y) (h : bInG dx dy w.S k) (kb : ∀ b, k b → Q (.bl (if neg then !b else b)) H) :
    wpAny (model X.prog X.w) X.A (compareOp (if neg then .NotIn else .In) v u) (EP X pins σ Q) X.xe s := by
  have h := h.out
  rcases h with ⟨d, ds, w1, w2, s1, s2, h⟩ | ⟨z, zs, rfl, w2, h⟩
  · have a := RpT.dp (K := X.K) R.fh _ _ (Vw.rp R _ _ _ w1 q1)
    have b := RpT.dp (K := X.K) R.fh _ _ (Vw.rp R _ _ _ w2 q2)
    cases neg with
    | true => exact op_notInD (by omega) pins s σ H x y v u Q I rx ry ⟨d, ds, a, b, s1, s2, kb _ h⟩
    | false => exact op_inD (by omega) pins s σ H x y v u Q I rx ry ⟨d, ds, a, b, s1, s2, kb _ h⟩
  · cases rpStr q1
    have a := Vw.rp R _ _ _ w2 q2
    cases a with
    | tup h1 h2 =>
      have hv : ∀ (ss : List Str) (vs : List V), RpTs (LB H w.F) (TF w.F) (ss.map .str) vs → vs = ss.map V.str := fun ss => by
        induction ss with
        | nil => intro vs q; cases q; rfl
        | cons c cs ih => intro vs q; cases q with | cons q1 q2 => cases q1; rw [ih _ q2]; rfl
      have e := hv zs _ h2
      subst e
      have hin := inV_strs z zs
      have hq : (TF w.F) _ (zs.map V.str) := h1
      have hfl : (zs.map V.str).all flatV = true := by simp [flatV]
      cases neg with
      | true => exact op_notIn_seq pins s σ H _ _ v u Q I rx ry ⟨_, _, rfl, .inr (.inl (.inl (R.fh _ _ hq))), rfl, hfl, by rw [hin]; exact kb _ h⟩
      | false => exact op_in_seq pins s σ H _ _ v u Q I rx ry ⟨_, _, rfl, .inr (.inl (.inl (R.fh _ _ hq))), rfl, hfl, by rw [hin]; exact kb _ h⟩
theorem inR {neg : Bool} (hu : X.A.units + 100 < cLine) {pins : List (Addr × Obj)} {s : Shared} {σ : St} {H : Hp} {x y : V} {v u : Value} {w : Wd} {dx dy : D} {k : Bool → Prop} {Q : VK} (I : Inv X pins σ H s) (rx : RelV x v) (ry : RelV y u) (R : RlW B F0 w H) (q1 : RpW B w dx x) (q2 : RpW B w dy y) (h : bIn dx dy w.S k) (kb : ∀ b, k b → Q (.bl (if neg then !b else b)) H) :
    wpAny (model X.prog X.w) X.A (compareOp (if neg then .NotIn else .In) v u) (EP X pins σ Q) X.xe s := by
  unfold bIn at h
  split at h
  · split at h
    · rw [rpStr q1] at rx; rw [rpStr q2] at ry
      cases neg with
      | true => exact op_notIn_sign pins s σ H _ _ v u Q I rx ry ⟨_, _, rfl, rfl, kb _ h⟩
      | false => exact op_in_sign pins s σ H _ _ v u Q I rx ry ⟨_, _, rfl, rfl, kb _ h⟩
    · exact inG hu I rx ry R q1 q2 h kb
  · rename_i n
    obtain ⟨o, e, h⟩ := h.out
    cases o with
    | kd _ _ => exact h.elim
    | ins _ _ => exact h.elim
    | dic kvs =>
      dsimp only at h
      obtain ⟨κ, hκ, h⟩ := h.out
      obtain ⟨hn, ws, hv, rv⟩ := dcR_ok (n := n) R (show dcR w.S n = some kvs by unfold dcR; rw [e])
      have ey := keyD_ok q1 hκ
      subst ey
      cases q2 with
      | r hi =>
        cases ry
        have g : DGet H (w.μ n) (kV κ) (valV ws κ) := DGet.k hv
        have eb : (valV ws κ).isSome = hasD kvs κ := by
          rw [hasD_get]
          rcases rv.get κ with ⟨a, b⟩ | ⟨d, v, a, b, _⟩ <;> rw [a, b] <;> rfl
        cases neg with
        | true => exact d_notIn (by omega) I g rx fun s3 I3 => ⟨.bl _, H, I3, rfl, by rw [eb]; exact kb _ h⟩
        | false => exact d_in (by omega) I g rx fun s3 I3 => ⟨.bl _, H, I3, rfl, by rw [eb]; exact kb _ h⟩
    | lst _ => exact inG hu I rx ry R q1 q2 h kb
  · exact inG hu I rx ry R q1 q2 h kb
theorem oIn (hu : X.A.units + 100 < cLine) : OpR X (compareOp .In) (r2 B F0 (cB bIn)) := cmpR fun I rx ry R q1 q2 h kb => inR (neg := false) hu I rx ry R q1 q2 h kb
theorem oNotIn (hu : X.A.units + 100 < cLine) : OpR X (compareOp .NotIn) (r2 B F0 (cB bNotIn)) := cmpR fun {_ _ _ _ _ _ _ _ _ _ _ k _} I rx ry R q1 q2 h kb => inR (neg := true) (k := fun b => k (!b)) hu I rx ry R q1 q2 h fun b hb => kb _ hb

def pIx : P2 := fun x y S K => match x, y with
  | .z (.str s), .z (.int i) => pReq (s.length ≤ sizeLine) (pGet (atD s.cps.toList i) fun c => K (.z (.str ⟨⟨[c]⟩⟩)) S)
  | .r n, y => pGet S[n]? fun o => match o with
    | .dic kvs => pGet (keyD y) fun κ => pGet (getD' kvs κ) fun d => K d S
    | .lst ds => match y with
      | .z (.int i) => pGet (atD ds i) fun d => K d S
      | _ => False
    | .kd _ _ => False
    | .ins _ _ => False
  | x, .z (.int i) => pGet (ixD S x i) fun d => K d S
  | _, _ => False
theorem ixD_r {S : Sto} {n : Nat} {ds : List D} {i : Int} {d : D} (e : S[n]? = some (.lst ds)) (h : atD ds i = some d) : ixD S (.r n) i = some d := by
  show (match S[n]? with | some (.lst ds) => atD ds i | _ => none) = some d
  rw [e]; exact h
theorem ixSeq {value slice : Expr} {pins : List (Addr × Obj)} {s : Shared} {σ : St} {H : Hp} {v u : Value} {a : Addr} {vs : List V} {i : Int} {z : V} {Q : VK} (I : Inv X pins σ H s) (rx : RelV (.ref a) v) (ry : RelV (.int i) u) (hs : SqL X.K H a vs ∨ SqT X.K H a vs) (ha : atI vs i = some z) (q : Q z H)
    (e : subscripted slice false v u = operate [v, u] (getItem v u)) : wpAny (model X.prog X.w) X.A (PyProof.Rows.subscriptTail value slice v u) (EP X pins σ Q) X.xe s := by
  rcases hs with hs | hs
  · exact ix_list value slice pins s σ H _ _ v u Q I rx ry ⟨_, _, _, _, rfl, rfl, hs, ha, q⟩ e
  · exact ix_tup value slice pins s σ H _ _ v u Q I rx ry ⟨_, _, _, _, rfl, rfl, hs, ha, q⟩ e
theorem oIx (hu : X.A.units + 100 < cLine) : IxR X (r2 B F0 pIx) := by
  intro value slice pins s σ H x y v u Q I rx ry h es
  obtain ⟨w, dx, dy, K, R, q1, q2, h, k⟩ := h
  unfold pIx at h
  split at h
  · obtain ⟨hz, h⟩ := h.out
    obtain ⟨c, hc, h⟩ := h.out
    rw [rpStr q1] at rx; rw [rpInt q2] at ry
    exact ix_str value slice pins s σ H _ _ v u Q I rx ry ⟨_, _, _, rfl, rfl, hz, atD_atI hc, k.str R h⟩ es
  · rename_i n
    obtain ⟨o, e, h⟩ := h.out
    cases o with
    | kd _ _ => exact h.elim
    | ins _ _ => exact h.elim
    | dic kvs =>
      dsimp only at h
      obtain ⟨κ, hκ, h⟩ := h.out
      obtain ⟨d, hd, h⟩ := h.out
      obtain ⟨hn, ws, hv, rv⟩ := dcR_ok (n := n) R (show dcR w.S n = some kvs by unfold dcR; rw [e])
      have ey := keyD_ok q2 hκ
      subst ey
      cases q1 with
      | r hi =>
        cases rx
        rcases rv.get κ with ⟨a, b⟩ | ⟨d', z, a, b, rd⟩
        · rw [hd] at a; cases a
        · rw [hd] at a; cases a
          have g : DGet H (w.μ n) (kV κ) (some z) := by rw [← b]; exact DGet.k hv
          unfold PyProof.Rows.subscriptTail
          have hT := dict_typeIs I g
          refine wpAny_bind ?_
          rw [getitemInPython_of_ne hT.not_modules]
          refine wpAny_bind (wpAny_specialOf hT PySem.F.slot_dict_getitem.lookup ?_)
          have fin : wpAny (model X.prog X.w) X.A (subscripted slice false (.ref (w.μ n)) u) (fun r s₃ => wpAny (model X.prog X.w) X.A (letTemporaryGo value (.ref (w.μ n)) r >>= fun _ => pure r) (EP X pins σ Q) X.xe s₃) X.xe s := by
            rw [es]
            exact wpAny_operating (d_getItem (by omega) I g ry fun w' s3 I3 rw' => wpAny_bind (wpAny_letTemporaryGo (wpAny_pure ⟨z, H, I3, rw', k d w.S z H w.μ w.F R .refl rd h⟩)))
          first
            | exact wpAny_pure (wpAny_bind fin)
            | exact wpAny_bind fin
            | exact fin
    | lst ds =>
      dsimp only at h
      split at h
      · obtain ⟨d, hd, h⟩ := h.out
        rw [rpInt q2] at ry
        obtain ⟨a, vs, z, rfl, hs, ha, rd⟩ := ixD_ok (K := X.K) R q1 (ixD_r e hd)
        exact ixSeq I rx ry hs ha (k d w.S z H w.μ w.F R .refl rd h) es
      · exact h.elim
  · obtain ⟨d, hd, h⟩ := h.out
    rw [rpInt q2] at ry
    obtain ⟨a, vs, z, rfl, hs, ha, rd⟩ := ixD_ok (K := X.K) R q1 hd
    exact ixSeq I rx ry hs ha (k d w.S z H w.μ w.F R .refl rd h) es
  · exact h.elim
end

def cutL {α : Type} (xs : List α) (lo hi : Option Int) : List α := (xs.drop (HT.sIx xs.length 0 lo)).take (HT.sIx xs.length xs.length hi - HT.sIx xs.length 0 lo)
def pSl : D → Option Int → Option Int → Sto → K1 → Prop := fun x lo hi S K => match x with
  | .z (.str s) => pReq (s.length ≤ sizeLine) (K (.z (.str (cutS s lo hi))) S)
  | x => match tpD x with
    | some ds => K (mkT (cutL ds lo hi)) S
    | none => pGet (lsD S x) fun ds => K (.r S.length) (S ++ [.lst (cutL ds lo hi)])
section
variable {X : Cx} {B F0 : Hp}
theorem RpDs.cut {B : Hp} {w : Wd} {ds : List D} {vs : List V} (h : RpsW B w ds vs) (lo hi : Option Int) : RpsW B w (cutL ds lo hi) (cutV vs lo hi) := by
  unfold cutL cutV
  rw [h.length]
  exact (RpDs.drop _ h).take _
theorem oSl : SlR X (rSl B F0 pSl) := by
  intro pins s σ H x v vl vu lo hi sl Q I rx hs pl pu h
  obtain ⟨w, d, K, R, r, h, k⟩ := h
  unfold pSl at h
  split at h
  · obtain ⟨hz, h⟩ := h.out
    exact sl_str pins s σ H _ v vl vu lo hi sl Q I rx hs pl pu ⟨_, rpStr r, hz, k.str R h⟩
  split at h
  · rename_i ds e
    obtain ⟨a, vs, rfl, ha, fa, ra⟩ := tpD_okF R r e
    refine sl_tupA pins s σ H _ v vl vu lo hi sl Q I rx hs pl pu ⟨a, vs, rfl, .inl (.inl ha), fun z => ?_, fun _ p hp => k.newT R (ra.cut lo hi) h hp⟩
    have e2 : cutL ds lo hi = ds := by
      unfold cutL
      rw [ra.length, z.1, z.2, List.drop_zero, Nat.sub_zero, ← ra.length, List.take_length]
    rw [e2] at h
    exact k _ w.S _ H w.μ w.F R .refl (mkT_rp fa ra) h
  obtain ⟨ds, e, h⟩ := h.out
  obtain ⟨a, vs, rfl, d1, q1⟩ := lsD_ok R r e
  exact sl_list pins s σ H _ v vl vu lo hi sl Q I rx hs pl pu ⟨a, vs, rfl, .inl d1, fun p hp => k.newL R (q1.cut lo hi) h hp⟩
end
end PL

set_option Elab.async false
set_option linter.all false
set_option maxRecDepth 100000
namespace PL
open PySem L2

def tyD (S : Sto) : D → Option Ty
  | .z .none => some .none
  | .z (.bool _) => some .bool
  | .z (.int _) => some .int
  | .z (.str _) => some .str
  | .z (.list _) => some .list
  | .z (.tuple _) => some .tuple
  | .b (.list _) => some .list
  | .b (.tuple _) => some .tuple
  | .t _ => some .tuple
  | .r n => match S[n]? with
    | some (.lst _) => some .list
    | some (.dic _) => some .dict
    | _ => none
  | _ => none
def isT : Ty → Ty → Bool
  | .int, .int => true | .bool, .bool => true | .bool, .int => true | .str, .str => true | .list, .list => true | .tuple, .tuple => true | .dict, .dict => true | _, _ => false
theorem isT_kit (a b : Ty) (hb : b ≠ .none) : kitB a.s b.s = some (isT a b) := by
  cases a <;> cases b <;> first | exact absurd rfl hb | decide +kernel
def pIsi : PL := fun xs S K => match xs with
  | [x, .y T] => match T with
    | .none => False
    | T => pGet (tyD S x) fun t => K (.z (.bool (isT t T))) S
  | _ => False
theorem tyD_ok {K : PySem.W.Frag} {B F0 H : Hp} {w : Wd} {x : D} {v : V} {t : Ty} (R : RlW B F0 w H) (r : RpW B w x v) (h : tyD w.S x = some t) : TyX K H v (.type t.s) := by
  have rd : ∀ {a : Addr} {vs : List V}, Rd H a (.lst vs) → TyX K H (.ref a) (.type "list") := fun q => q.elim (fun q => .base (.lst q)) fun ⟨_, q⟩ => .base (.frz q)
  unfold tyD at h
  split at h
  · cases h; cases r with | z q => cases q; exact .base .non
  · cases h; cases r with | z q => cases q; exact .base (.bl _)
  · cases h; cases r with | z q => cases q; exact .base (.int _)
  · cases h; cases r with | z q => cases q; exact .base (.str _)
  · cases h; cases r with | z q => cases q with | lst a b => exact .base (.lst (R.fh _ _ a))
  · cases h; cases r with | z q => cases q with | tup a b => exact .base (.tup (R.fh _ _ a))
  · cases h; cases r with | b q => cases q with | lst a b => exact rd (a.elim (fun z => R.fh.rd z) fun z => R.bh.rd z)
  · cases h; cases r with | b q => cases q with | tup a b => exact .base (.tup (R.fh _ _ a))
  · cases h; cases r with | t a b => exact .base (.tup (R.fh _ _ a))
  · cases r with
    | r hi =>
      split at h
      · rename_i e; cases h; obtain ⟨vs, hv, _⟩ := R.ob _ _ e; exact .base (.lst hv)
      · rename_i e; cases h; obtain ⟨vs, hv, _⟩ := R.ob _ _ e; exact .base (.dK hv)
      · cases h
  · cases h
section
variable {X : Cx} {B F0 : Hp}
theorem callR {f : Value} {p : PL} (hf : ∀ {pins : List (Addr × Obj)} {s : Shared} {σ : St} {H : Hp} {vs : List V} {us : List Value} {w : Wd} {ds : List D} {K : K1} {Q : VK}, Inv X pins σ H s → Vals vs us → RlW B F0 w H → RpsW B w ds vs → p ds w.S K → Fi B F0 w K Q →
    wpAny (model X.prog X.w) X.A (call f us) (EP X pins σ Q) X.xe s) : CallR X f (rL B F0 p) := by
  intro pins s σ H vs us Q I r h
  obtain ⟨w, ds, K, R, q, h, k⟩ := h
  exact hf I r R q h k
theorem methR {id : String} {p : D → PL} (hf : ∀ {pins : List (Addr × Obj)} {s : Shared} {σ : St} {H : Hp} {x : V} {v : Value} {vs : List V} {us : List Value} {w : Wd} {d : D} {ds : List D} {K : K1} {Q : VK}, Inv X pins σ H s → RelV x v → Vals vs us → RlW B F0 w H → RpW B w d x → RpsW B w ds vs → p d ds w.S K → Fi B F0 w K Q →
    wpAny (model X.prog X.w) X.A (call (.builtin id) (v :: us)) (EP X pins σ Q) X.xe s) : MtR X id (rM B F0 p) := by
  intro pins s σ H x vs v us Q I rx r h
  obtain ⟨w, d, ds, K, R, q, qs, h, k⟩ := h
  exact hf I rx r R q qs h k
theorem oIsi : CallR X (.builtin "isinstance") (rL B F0 pIsi) := callR fun {pins s σ H vs us w ds K Q} I r R q h k => by
  unfold pIsi at h
  split at h
  · rename_i x T
    cases q with
    | cons q1 q2 =>
      cases q2 with
      | cons q2 q3 =>
        cases q3
        cases q2
        have key : T ≠ .none → (pGet (tyD w.S x) fun t => K (.z (.bool (isT t T))) w.S) → wpAny (model X.prog X.w) X.A (call (.builtin "isinstance") us) (EP X pins σ Q) X.xe s := fun hT h => by
          obtain ⟨t, e, h⟩ := h.out
          exact call_isi pins s σ H _ us Q I r ⟨_, _, _, _, _, rfl, .ty _, tyD_ok (K := X.K) R q1 e, kit_ty (isT_kit t T hT), k.bl R h⟩
        cases T with
        | none => exact False.elim h
        | _ => exact key (by intro z; cases z) h
  · exact h.elim

def pLen : PL := fun xs S K => match xs with
  | [.z (.str s)] => pReq (s.length ≤ sizeLine) (K (.z (.int s.length)) S)
  | [x] => pGet (lenD S x) fun n => K (.z (.int n)) S
  | _ => False
def pList : PL := fun xs S K => match xs with
  | [x] => pGet (sqD S x) fun ds => K (.r S.length) (S ++ [.lst ds])
  | _ => False
theorem RpDs.one {B : Hp} {w : Wd} {d : D} {vs : List V} (h : RpsW B w [d] vs) : ∃ v, vs = [v] ∧ RpW B w d v := by
  cases h with | cons a b => cases b; exact ⟨_, rfl, a⟩
theorem RpDs.two {B : Hp} {w : Wd} {d e : D} {vs : List V} (h : RpsW B w [d, e] vs) : ∃ v u, vs = [v, u] ∧ RpW B w d v ∧ RpW B w e u := by
  cases h with | cons a b => cases b with | cons b c => cases c; exact ⟨_, _, rfl, a, b⟩
theorem RpDs.ints {B : Hp} {w : Wd} : ∀ {bs : List Int} {vs : List V}, RpsW B w (bs.map fun b => .z (.int b)) vs → vs = bs.map V.int
  | [], _, h => by cases h; rfl
  | b :: bs, _, h => by cases h with | cons a t => rw [rpInt a, RpDs.ints t]; rfl
theorem RpDs.strs {B : Hp} {w : Wd} : ∀ {bs : List Str} {vs : List V}, RpsW B w (bs.map fun b => .z (.str b)) vs → vs = bs.map V.str
  | [], _, h => by cases h; rfl
  | b :: bs, _, h => by cases h with | cons a t => rw [rpStr a, RpDs.strs t]; rfl
theorem lenD_ok {K : PySem.W.Frag} {H : Hp} {w : Wd} {x : D} {v : V} {n : Nat} (R : RlW B F0 w H) (r : RpW B w x v) (h : lenD w.S x = some n) : (∃ a vs, v = .ref a ∧ vs.length = n ∧ (SqL K H a vs ∨ SqT K H a vs)) ∨ ∃ a kvs, v = .ref a ∧ H a = some (.dK kvs) ∧ kvs.length = n := by
  unfold lenD at h
  split at h
  · cases h; cases r with | z q => cases q with | lst a b => exact .inl ⟨_, _, rfl, b.length.symm, .inl (.inl (.inl (R.fh _ _ a)))⟩
  · cases h; cases r with | b q => cases q with | lst a b => exact .inl ⟨_, _, rfl, b.length.symm, .inl (.inl (a.elim (fun z => R.fh.rd z) fun z => R.bh.rd z))⟩
  · cases h; cases r with | z q => cases q with | tup a b => exact .inl ⟨_, _, rfl, b.length.symm, .inr (.inl (.inl (R.fh _ _ a)))⟩
  · cases h; cases r with | b q => cases q with | tup a b => exact .inl ⟨_, _, rfl, b.length.symm, .inr (.inl (.inl (R.fh _ _ a)))⟩
  · cases h; cases r with | t a b => exact .inl ⟨_, _, rfl, b.length.symm, .inr (.inl (.inl (R.fh _ _ a)))⟩
  · cases r with
    | r hi =>
      split at h
      · rename_i e; cases h; obtain ⟨vs, hv, rv⟩ := R.ob _ _ e; exact .inl ⟨_, _, rfl, rv.length.symm, .inl (.inl (.inl hv))⟩
      · rename_i e; cases h; obtain ⟨vs, hv, rv⟩ := R.ob _ _ e; exact .inr ⟨_, _, rfl, hv, (Paired.length rv).symm⟩
      · cases h
  · cases h
theorem oLen : CallR X (.builtin "len") (rL B F0 pLen) := callR fun {pins s σ H vs us w ds K Q} I r R q h k => by
  unfold pLen at h
  split at h
  · obtain ⟨hz, h⟩ := h.out
    obtain ⟨v, rfl, q9⟩ := q.one
    rw [rpStr q9] at r
    exact call_len_str pins s σ H _ us Q I r ⟨_, rfl, hz, k.int R h⟩
  · obtain ⟨n, e, h⟩ := h.out
    obtain ⟨v, rfl, q9⟩ := q.one
    rcases lenD_ok (K := X.K) R q9 e with ⟨a, vs, rfl, rfl, hs⟩ | ⟨a, kvs, rfl, hd, rfl⟩
    · exact call_len_seq pins s σ H _ us Q I r ⟨a, vs, rfl, hs, k.int R h⟩
    · exact call_lenD pins s σ H _ us Q I r ⟨a, kvs, rfl, hd, k.int R h⟩
  · exact h.elim
theorem oList : CallR X (.type "list") (rL B F0 pList) := callR fun {pins s σ H vs us w ds K Q} I r R q h k => by
  unfold pList at h
  split at h
  · obtain ⟨ds, e, h⟩ := h.out
    obtain ⟨v, rfl, q9⟩ := q.one
    obtain ⟨a, vs, rfl, hs, rv⟩ := sqD_ok (K := X.K) R q9 e
    exact call_list_of pins s σ H _ us Q I r ⟨a, vs, rfl, hs, fun p hp => k.newL R rv h hp⟩
  · exact h.elim
def pApp : D → PL := fun x xs S K => match x, xs with
  | .r n, [y] => pGet (lsR S n) fun ds => pReq (ds.length < sizeLine) (K (.z .none) (S.set n (.lst (ds ++ [y]))))
  | _, _ => False
def pExt : D → PL := fun x xs S K => match x, xs with
  | .r n, [y] => pGet (lsR S n) fun ds => pGet (lsD S y) fun es => pReq (ds.length + es.length ≤ sizeLine) (K (.z .none) (S.set n (.lst (ds ++ es))))
  | _, _ => False
def pPop : D → PL := fun x xs S K => match x, xs with
  | .r n, [] => pGet (lsR S n) fun ds => pGet ds[ds.length - 1]? fun d => K d (S.set n (.lst ds.dropLast))
  | .r n, [.z (.int (.ofNat i))] => pGet (lsR S n) fun ds => pGet ds[i]? fun d => pReq (i < 9223372036854775808) (K d (S.set n (.lst (ds.eraseIdx i))))
  | _, _ => False
def pClear : D → PL := fun x xs S K => match x, xs with
  | .r n, [] => pGet (lsR S n) fun _ => K (.z .none) (S.set n (.lst []))
  | _, _ => False
theorem oApp : MtR X "list.append" (rM B F0 pApp) := methR fun {pins s σ H x v vs us w d ds K Q} I rx r R q qs h k => by
  unfold pApp at h
  split at h
  · rename_i n y
    obtain ⟨ds, e, h⟩ := h.out
    obtain ⟨hz, h⟩ := h.out
    obtain ⟨hn, ws, hv, rv⟩ := lsR_ok R e
    obtain ⟨u, rfl, q1⟩ := qs.one
    cases q
    exact mt_append pins s σ H _ _ v us Q I rx r ⟨w.μ n, ws, u, rfl, rfl, hv, by rw [← rv.length]; exact hz, k.setL R hn (rv.append (.cons q1 .nil)) (.z .non) h⟩
  · exact h.elim
theorem ext_lists {pins : List (Addr × Obj)} {s : Shared} {σ : St} {H : Hp} {l b : Addr} {xs zs : List V} {Q : VK} (I : Inv X pins σ H s) (h1 : H l = some (.lst xs)) (h2 : Rd H b (.lst zs)) (hz : xs.length + zs.length ≤ sizeLine)
    (q : Q .non (upd H l (.lst (xs ++ zs)))) : wpAny (model X.prog X.w) X.A (call (.builtin "list.extend") [.ref l, .ref b]) (EP X pins σ Q) X.xe s := by
  obtain ⟨z1, its, n, v1, l1, e1⟩ := I.lstM h1
  obtain ⟨z2, jts, m, v2, e2⟩ := h2.ok I.hok
  have l2 := v2.length
  have small : its.toArray.size + jts.toArray.size ≤ sizeLine := by simp; omega
  refine call_meets PySem.F.slot_list_extend ⟨_, e1, rfl⟩ PySem.F.entry_list_extend (PySem.F.args_list_extend_2 _ _)
    (AutoSeq1.list_extend_list_list_0 l its.toArray n b jts.toArray m (by rw [notLongL small, Bool.and_false]; exact Bool.false_ne_true) (by simp; omega) (by omega)) ⟨e1, e2, ?_⟩
  exact ⟨.non, _, I.lset (its' := its ++ jts) h1 e1 (by simp) (v1.append v2) (by simp; omega), rfl, q⟩
theorem oExt : MtR X "list.extend" (rM B F0 pExt) := methR fun {pins s σ H x v vs us w d ds K Q} I rx r R q qs h k => by
  unfold pExt at h
  split at h
  · rename_i n y
    obtain ⟨ds, e, h⟩ := h.out
    obtain ⟨es, e2, h⟩ := h.out
    obtain ⟨hz, h⟩ := h.out
    obtain ⟨hn, ws, hv, rv⟩ := lsR_ok R e
    obtain ⟨u, rfl, q1⟩ := qs.one
    obtain ⟨b, zs, rfl, hb, rb⟩ := lsD_ok R q1 e2
    cases q
    cases rx
    rw [Vals.ref1 r]
    exact ext_lists I hv hb (by rw [← rv.length, ← rb.length]; exact hz) (k.setL R hn (rv.append rb) (.z .non) h)
  · exact h.elim
theorem oPop : MtR X "list.pop" (rM B F0 pPop) := methR fun {pins s σ H x v vs us w d ds K Q} I rx r R q qs h k => by
  unfold pPop at h
  split at h
  · rename_i n
    obtain ⟨ds, e, h⟩ := h.out
    obtain ⟨d, e2, h⟩ := h.out
    obtain ⟨hn, ws, hv, rv⟩ := lsR_ok R e
    cases qs
    cases q
    obtain ⟨u, hu, ru⟩ := rv.get e2
    rw [rv.length] at hu
    exact mt_pop pins s σ H _ _ v us Q I rx r ⟨w.μ n, ws, u, rfl, rfl, hv, hu, k.setL R hn rv.dropLast ru h⟩
  · rename_i n i
    obtain ⟨ds, e, h⟩ := h.out
    obtain ⟨d, e2, h⟩ := h.out
    obtain ⟨hi, h⟩ := h.out
    obtain ⟨hn, ws, hv, rv⟩ := lsR_ok R e
    obtain ⟨u0, rfl, q1⟩ := qs.one
    cases rpInt q1
    cases q
    obtain ⟨u, hu, ru⟩ := rv.get e2
    have hlt : i < ws.length := (List.getElem?_eq_some_iff.mp hu).1
    have h0 : (0 : Int) ≤ Int.ofNat i := Int.natCast_nonneg i
    have h1 : Int.ofNat i < (ws.length : Int) := Int.ofNat_lt.mpr hlt
    have hx : seqIndex? (Int.ofNat i) ws.length = some i := (ixN_seq (show ixN ws.length (Int.ofNat i) = some i by unfold ixN; rw [if_pos h0, if_pos h1]; rfl)).1
    exact mt_popAt pins s σ H _ _ v us Q I rx r ⟨w.μ n, ws, _, i, u, rfl, rfl, hv, by have : (0 : Int) ≤ Int.ofNat i := Int.natCast_nonneg i; omega, Int.ofNat_lt.mpr hi, hx, hu, k.setL R hn (rv.erase i) ru h⟩
  · exact h.elim
theorem oClear : MtR X "list.clear" (rM B F0 pClear) := methR fun {pins s σ H x v vs us w d ds K Q} I rx r R q qs h k => by
  unfold pClear at h
  split at h
  · rename_i n
    obtain ⟨ds, e, h⟩ := h.out
    obtain ⟨hn, ws, hv, rv⟩ := lsR_ok R e
    cases qs
    cases q
    exact mt_clear pins s σ H _ _ v us Q I rx r ⟨w.μ n, ws, rfl, rfl, hv, k.setL R hn .nil (.z .non) h⟩
  · exact h.elim
end
end PL

set_option Elab.async false
set_option linter.all false
set_option maxRecDepth 100000
namespace PL
open PySem L2

abbrev WG := D → Env → Sto → (Env → Sto → Prop) → Prop
abbrev WGs := List D → Env → Sto → (Env → Sto → Prop) → Prop
def FiG (B F0 : Hp) (w : Wd) (K : Env → Sto → Prop) (Q : St → Hp → Prop) : Prop := ∀ env S σ H μ F, Rl B F0 μ S F H → Xt w.μ w.S w.F μ S F → EnvR B F μ S.length env σ → K env S → Q σ H
theorem FiG.xt {B F0 : Hp} {w w' : Wd} {K : Env → Sto → Prop} {Q : St → Hp → Prop} (h : FiG B F0 w K Q) (x : Xt w.μ w.S w.F w'.μ w'.S w'.F) : FiG B F0 w' K Q := fun e S s H μ F R X r q => h e S s H μ F R (x.trans X) r q
def tG (B F0 : Hp) (g : WG) : TG := fun v σ H Q => ∃ (w : Wd) (env : Env) (d : D) (K : Env → Sto → Prop), RlW B F0 w H ∧ EnvR B w.F w.μ w.S.length env σ ∧ RpW B w d v ∧ g d env w.S K ∧ FiG B F0 w K Q
def tGs (B F0 : Hp) (g : WGs) : TGs := fun vs σ H Q => ∃ (w : Wd) (env : Env) (ds : List D) (K : Env → Sto → Prop), RlW B F0 w H ∧ EnvR B w.F w.μ w.S.length env σ ∧ RpsW B w ds vs ∧ g ds env w.S K ∧ FiG B F0 w K Q
def PXG (X : Cx) (B F0 : Hp) (e : Expr) (g : WG) : Prop := PG X e (tG B F0 g)
def PXGs (X : Cx) (B F0 : Hp) (es : List Expr) (g : WGs) : Prop := PGs X es (tGs B F0 g)
def gN (i : Nat) : WG := fun d env S K => K (env.set i (some d)) S
def gE : WGs := fun ds env S K => match ds with
  | [] => K env S
  | _ => False
def gC (g : WG) (gs : WGs) : WGs := fun ds env S K => match ds with
  | d :: r => g d env S fun env1 S1 => gs r env1 S1 K
  | [] => False
def tpN (n : Nat) (d : D) : Option (List D) := match tpD d with
  | some ds => if ds.length = n then some ds else none
  | none => none
def gT (n : Nat) (gs : WGs) : WG := fun d env S K => pGet (tpN n d) fun ds => gs ds env S K
def pSet (o i v : D) (S : Sto) (K : Sto → Prop) : Prop := match o with
  | .r n => pGet S[n]? fun o => match o with
    | .lst ds => match i with
      | .z (.int k) => pGet (ixN ds.length k) fun j => K (S.set n (.lst (ds.set j v)))
      | _ => False
    | .dic kvs => pGet (keyD i) fun κ => pReq (kvs.length < sizeLine) (K (S.set n (.dic (putD kvs κ v))))
    | .kd _ _ => False
    | .ins _ _ => False
  | _ => False
def gS (wo wi : WE) : WG := fun v env S K => wo env S (fun o S1 => wi env S1 (fun i S2 => pSet o i v S2 fun S3 => K env S3) fun _ _ _ => False) fun _ _ _ => False
section
variable {X : Cx} {B F0 : Hp} {W : WX} {pos : Pos}
theorem wkG {e : Expr} {t t' : TG} (h : PG X e t) (k : ∀ v σ H Q, t' v σ H Q → t v σ H Q) : PG X e t' := ⟨fun p s σ H v u Q I r q => h.run p s σ H v u Q I r (k v σ H Q q)⟩
theorem wkGs {e : List Expr} {t t' : TGs} (h : PGs X e t) (k : ∀ v σ H Q, t' v σ H Q → t v σ H Q) : PGs X e t' := ⟨fun p s σ H v u Q I r q => h.run p s σ H v u Q I r (k v σ H Q q)⟩
theorem xgn (i : Nat) {x : Str} (hN : X.N.Nodup) (hi : X.N[i]? = some x := by rfl) (hx : Loc X.env.scope x := by first | exact Or.inl rfl | exact Or.inr rfl) (hf : X.fn x = true ∨ X.env.scope.names.lookup x = some .local := by first | exact .inl rfl | exact .inr rfl | assumption) : PXG X B F0 (.Name x pos) (gN i) :=
  wkG (pg_name hN hi hx hf) fun v σ H Q h => by
    obtain ⟨w, env, d, K, R, E, r, h, k⟩ := h
    exact k _ _ _ _ _ _ R .refl (EnvR.set r i E) h
theorem xge : PXGs X B F0 [] gE := wkGs pgs_nil fun vs σ H Q h => by
  obtain ⟨w, env, ds, K, R, E, r, h, k⟩ := h
  unfold gE at h
  split at h
  · cases r; exact ⟨rfl, k _ _ _ _ _ _ R .refl E h⟩
  · exact h.elim
theorem xgc {e : Expr} {es : List Expr} {g : WG} {gs : WGs} (h1 : PXG X B F0 e g) (h2 : PXGs X B F0 es gs) (hs : (assignEach (e :: es) X.env).map (·.2) = assign e X.env :: (assignEach es X.env).map (·.2) := by rfl) : PXGs X B F0 (e :: es) (gC g gs) :=
  wkGs (pgs_cons h1 h2 hs) fun vs σ H Q h => by
    obtain ⟨w, env, ds, K, R, E, r, h, k⟩ := h
    unfold gC at h
    split at h
    · cases r with
      | cons r1 r2 =>
        refine ⟨_, _, rfl, w, env, _, _, R, E, r1, h, fun env1 S1 σ1 H1 μ1 F1 R1 X1 E1 h1 => ?_⟩
        exact ⟨⟨μ1, S1, F1⟩, env1, _, K, R1, E1, r2.xt X1, h1, k.xt X1⟩
    · exact h.elim
theorem xgt {es : List Expr} {j n : Nat} {gs : WGs} (hc : X.calm = true) (h : PXGs X B F0 es gs) (hn : (assignEach es X.env).length = n := by rfl) (hst : (assignEach es X.env).findIdx? (·.1) = none := by rfl) : PXG X B F0 (.Tuple es j pos) (gT n gs) :=
  wkG (pg_tup hc h hn hst) fun v σ H Q h => by
    obtain ⟨w, env, d, K, R, E, r, h, k⟩ := h
    obtain ⟨ds, e, h⟩ := h.out
    unfold tpN at e
    split at e
    · rename_i ds' e1
      split at e
      · rename_i hl
        cases e
        obtain ⟨a, vs, rfl, ha, rv⟩ := tpD_ok R r e1
        exact ⟨a, vs, rfl, .inl (.inl ha), by rw [← rv.length]; exact hl, w, env, _, K, R, E, rv, h, k⟩
      · cases e
    · cases e
theorem oSet (hu : X.A.units + 100 < cLine) : PSet X (fun o i v H Q => ∃ (w : Wd) (do' di dv : D) (K : Sto → Prop), RlW B F0 w H ∧ RpW B w do' o ∧ RpW B w di i ∧ RpW B w dv v ∧ pSet do' di dv w.S K ∧ ∀ S' H' μ' F', Rl B F0 μ' S' F' H' → Xt w.μ w.S w.F μ' S' F' → K S' → Q H') := by
  intro pins s σ H o i v ov iv u Q I ro ri rv h
  obtain ⟨w, d1, d2, d3, K, R, q1, q2, q3, h, k⟩ := h
  unfold pSet at h
  split at h
  · rename_i n
    obtain ⟨o, e, h⟩ := h.out
    cases o with
    | lst ds =>
      dsimp only at h
      split at h
      · obtain ⟨j, hj, h⟩ := h.out
        obtain ⟨hn, ws, hv, rw'⟩ := lsR_ok (n := n) R (show lsR w.S n = some ds by unfold lsR; rw [e])
        cases q1
        have e2 := rpInt q2
        subst e2
        refine set_list pins s σ H _ _ v ov iv u Q I ro ri rv ⟨_, ws, _, j, rfl, rfl, hv, by rw [← rw'.length]; exact hj, ?_⟩
        obtain ⟨R2, X2⟩ := R.write (u := .lst (ws.set j v)) (o := .lst (ds.set j d3)) hn fun G hG => ⟨_, hG, rw'.set q3 j⟩
        exact k _ _ _ _ R2 X2 h
      · exact h.elim
    | kd _ _ => exact h.elim
    | ins _ _ => exact h.elim
    | dic kvs =>
      dsimp only at h
      obtain ⟨κ, hκ, h⟩ := h.out
      obtain ⟨hz, h⟩ := h.out
      obtain ⟨hn, ws, hv, rw'⟩ := dcR_ok (n := n) R (show dcR w.S n = some kvs by unfold dcR; rw [e])
      have ey := keyD_ok q2 hκ
      subst ey
      cases q1
      cases ro
      have g : DPut H (w.μ n) (kV κ) v (upd H (w.μ n) (.dK (putK ws κ v))) := DPut.k hv (by rw [← Paired.length rw']; exact hz)
      obtain ⟨R2, X2⟩ := R.write (u := .dK (putK ws κ v)) (o := .dic (putD kvs κ d3)) hn fun G hG => ⟨_, hG, KvR.put rw' κ q3⟩
      exact d_setItem (by omega) I g ri rv fun s3 I3 => ⟨_, I3, k _ _ _ _ R2 X2 h⟩
  · exact h.elim
theorem xgs {o i : Expr} {wo wi : WE} (hu : X.A.units + 100 < cLine) (ho : PX X B F0 W o wo) (hi : PX X B F0 W i wi) (ha : ∀ v, assign (.Subscript o i pos) X.env v = (do
      let ov ← holding [v] (eval o X.env)
      let iv ← holding [v, ov] (eval i X.env)
      standAt pos
      holding [v, ov, iv] (setItem ov iv v)
      release [v, ov, iv] []) := by intro _; rfl) : PXG X B F0 (.Subscript o i pos) (gS wo wi) := wkG (pg_sub ho hi (oSet (B := B) (F0 := F0) hu) ha) fun v σ H Q h => by
  obtain ⟨w, env, d, K, R, E, r, h, k⟩ := h
  refine ⟨w, env, _, _, R, E, h, fun x S1 v1 H1 μ1 F1 R1 X1 r1 h1 => ?_, fun _ _ _ _ _ _ _ _ _ _ h => h.elim⟩
  refine ⟨⟨μ1, S1, F1⟩, env, _, _, R1, E.xt X1, h1, fun y S2 v2 H2 μ2 F2 R2 X2 r2 h2 => ?_, fun _ _ _ _ _ _ _ _ _ _ h => h.elim⟩
  exact ⟨⟨μ2, S2, F2⟩, x, y, d, _, R2, r1.xt X2, r2, r.xt (X1.trans X2), h2, fun S3 H3 μ3 F3 R3 X3 h3 => k env S3 σ H3 μ3 F3 R3 ((X1.trans X2).trans X3) (E.xt ((X1.trans X2).trans X3)) h3⟩
end

def wNext : WS := fun k env S => k.nx env S
def wSeq (a b : WS) : WS := fun k env S => a { k with nx := fun env1 S1 => b k env1 S1 } env S
def wDrop (we : WE) : WS := fun k env S => we env S (fun _ S1 => k.nx env S1) k.ex
def wRet (we : WE) : WS := fun k env S => we env S k.rt k.ex
def wAsg (we : WE) (g : WG) : WS := fun k env S => we env S (fun d S1 => g d env S1 k.nx) k.ex
def wIf (t : WT) (a b : WS) : WS := fun k env S => t env S (fun c S1 => pIf c (a k env S1) (b k env S1)) k.ex
section
variable {X : Cx} {B F0 : Hp} {W : WX} {e c : Expr} {we : WE} {st : Stmt} {rest body orelse : List Stmt} {a b : WS} {t : WT} {pos : Pos}
theorem bnil : PXB X B F0 W [] wNext := wkB pss_nil fun D σ H h => by
  obtain ⟨w, env, k, R, E, h, f⟩ := h
  exact f.nx _ _ _ _ _ _ R .refl E h
theorem bone (h : PXS X B F0 W st a) : PXB X B F0 W [st] a := pss_one h
theorem bcons (h1 : PXS X B F0 W st a) (h2 : PXB X B F0 W rest b) : PXB X B F0 W (st :: rest) (wSeq a b) := wkB (pss_cons h1 h2) fun D σ H h => by
  obtain ⟨w, env, k, R, E, h, f⟩ := h
  refine ⟨w, env, _, R, E, h, ⟨fun env1 S1 σ1 H1 μ1 F1 R1 X1 E1 h1 => ?_, f.rt, f.bk, f.ct, f.ex⟩⟩
  exact ⟨⟨μ1, S1, F1⟩, env1, k, R1, E1, h1, f.xt X1⟩
theorem xexpr (he : PX X B F0 W e we) (hs : swapsWith e none pos.line X.env = pure false := by rfl) : PXS X B F0 W (.Expr e pos) (wDrop we) := wkS (ps_expr he hs) fun D σ H h => by
  obtain ⟨w, env, k, R, E, h, f⟩ := h
  exact ⟨w, env, _, _, R, E, h, fun d S1 v H1 μ1 F1 R1 X1 r1 h1 => f.nx _ _ _ _ _ _ R1 X1 (E.xt X1) h1, f.toX E⟩
theorem xret (he : PX X B F0 W e we) : PXS X B F0 W (.Return (some e) pos) (wRet we) := wkS (ps_ret he) fun D σ H h => by
  obtain ⟨w, env, k, R, E, h, f⟩ := h
  exact ⟨w, env, _, _, R, E, h, f.rt, f.toX E⟩
theorem xif (hc : PXT X B F0 W c t) (h1 : PXB X B F0 W body a) (h2 : PXB X B F0 W orelse b) : PXS X B F0 W (.If c body orelse pos) (wIf t a b) := wkS (ps_if hc h1 h2) fun D σ H h => by
  obtain ⟨w, env, k, R, E, h, f⟩ := h
  refine ⟨w, env, _, _, R, E, h, fun x S1 H1 μ1 F1 R1 X1 h1 => ?_, f.toX E⟩
  have h1 := h1.out
  dsimp only
  cases x with
  | true => rw [if_pos rfl] at h1 ⊢; exact ⟨⟨μ1, S1, F1⟩, env, k, R1, E.xt X1, h1, f.xt X1⟩
  | false => rw [if_neg Bool.false_ne_true] at h1 ⊢; exact ⟨⟨μ1, S1, F1⟩, env, k, R1, E.xt X1, h1, f.xt X1⟩
theorem xasg {tg : Expr} {g : WG} (he : PX X B F0 W e we) (hg : PXG X B F0 tg g) (hs : swapsWithSole [tg] e pos.line X.env = pure false := by rfl) (hw : swappedStores [tg] e X.env = pure none := by rfl)
    (h1 : (assignEach [tg] X.env).map (·.2) = [assign tg X.env] := by rfl) : PXS X B F0 W (.Assign [tg] e pos) (wAsg we g) := wkS (ps_asg he hg hs hw h1) fun D σ H h => by
  obtain ⟨w, env, k, R, E, h, f⟩ := h
  refine ⟨w, env, _, _, R, E, h, fun d S1 v H1 μ1 F1 R1 X1 r1 h1 => ?_, f.toX E⟩
  exact ⟨⟨μ1, S1, F1⟩, env, d, k.nx, R1, E.xt X1, r1, h1, fun env2 S2 σ2 H2 μ2 F2 R2 X2 E2 h2 => f.nx _ _ _ _ _ _ R2 (X1.trans X2) E2 h2⟩
end
section
variable {X : Cx} {B F0 : Hp}
end
end PL

set_option Elab.async false
set_option linter.all false
set_option maxRecDepth 100000
namespace PL
open PySem L2

structure Src where
  items : List D
  ok : Sto → Prop
abbrev WI := Env → Sto → (Src → Sto → Prop) → KX → Prop
structure SrcOk (B F0 : Hp) (w0 : Wd) (src : Src) (J : It) (G : Hp → Prop) (Y : Nat → Hp → V → Hp → Prop) : Prop where
  walk : Walk J src.items.length G Y
  good : ∀ (w : Wd) H, RlW B F0 w H → Xt w0.μ w0.S w0.F w.μ w.S w.F → src.ok w.S → G H
  item : ∀ (w : Wd) H i x H', i < src.items.length → RlW B F0 w H → Xt w0.μ w0.S w0.F w.μ w.S w.F → src.ok w.S → Y i H x H' → ∃ (w' : Wd) (d : D), src.items[i]? = some d ∧ w'.S = w.S ∧ RlW B F0 w' H' ∧ Xt w.μ w.S w.F w'.μ w'.S w'.F ∧ RpW B w' d x
def tI (B F0 : Hp) (W : WX) (wi : WI) : TI := fun σ H R => ∃ (w : Wd) (env : Env) (K : Src → Sto → Prop) (KX : KX), RlW B F0 w H ∧ EnvR B w.F w.μ w.S.length env σ ∧ wi env w.S K KX ∧ FiX B F0 W w env σ KX ∧
  ∀ src S' H' μ' F' J G Y, Rl B F0 μ' S' F' H' → Xt w.μ w.S w.F μ' S' F' → K src S' → SrcOk B F0 ⟨μ', S', F'⟩ src J G Y → R J H'
def PXI (X : Cx) (B F0 : Hp) (W : WX) (tg iter : Expr) (wi : WI) : Prop := PI X tg iter (tI B F0 W wi)
section
variable {X : Cx} {B F0 : Hp} {W : WX} {tg e : Expr} {we : WE} {wa : WA} {pos p : Pos}
theorem wkI {iter : Expr} {t t' : TI} (h : PI X tg iter t) (k : ∀ σ H Q, t' σ H Q → t σ H Q) : PI X tg iter t' := ⟨fun p s σ H R I q => h.run p s σ H R I (k σ H R q)⟩
theorem SrcOk.at {w0 : Wd} {src : Src} {J : It} {G : Hp → Prop} {vs : List V} (hw : Walk J vs.length G (YAt vs)) (hl : src.items.length = vs.length) (hg : ∀ (w : Wd) H, RlW B F0 w H → Xt w0.μ w0.S w0.F w.μ w.S w.F → src.ok w.S → G H)
    (hr : RpsW B w0 src.items vs) : SrcOk B F0 w0 src J G (YAt vs) := ⟨by rw [hl]; exact hw, hg, fun w H i x H' _ R X1 ho y => by
  obtain ⟨rfl, hx⟩ := y
  obtain ⟨d, hd, rd⟩ := RpDs.getV hr hx
  exact ⟨w, d, hd, rfl, R, .refl, rd.xt X1⟩⟩
def srcD (S : Sto) : D → Option Src
  | .z (.list ds) => some ⟨ds.map .z, fun _ => True⟩
  | .b (.list ds) => some ⟨ds.map bz, fun _ => True⟩
  | .r n => match S[n]? with
    | some (.lst ds) => some ⟨ds, fun S => S[n]? = some (.lst ds)⟩
    | _ => none
  | .z (.tuple ds) => some ⟨ds.map .z, fun _ => True⟩
  | .b (.tuple ds) => some ⟨ds.map bz, fun _ => True⟩
  | .t ds => some ⟨ds, fun _ => True⟩
  | .z (.str s) => some ⟨s.cps.toList.map fun c => .z (.str ⟨⟨[c]⟩⟩), fun _ => True⟩
  | _ => none
def wIt (we : WE) : WI := fun env S K KX => we env S (fun x S1 => pGet (srcD S1 x) fun src => K src S1) KX
def iAny (K : PySem.W.Frag) (tl : TE) : TI := fun σ H R => tl σ H fun x H1 => (∃ a vs, x = .ref a ∧ SqL K H1 a vs ∧ R (Itl K a) H1) ∨ (∃ a vs, x = .ref a ∧ SqT K H1 a vs ∧ R (Itt K a) H1) ∨ ∃ z, x = .str z ∧ R (Its z) H1
theorem pi_any {tl : TE} (he : PE X e tl) : PI X tg e (iAny X.K tl) := by
  refine ⟨fun pins s σ H R I hw => thn (he.run pins s σ H _ I hw) fun v s1 ⟨x, H1, J, rx, qx⟩ => ?_⟩
  have one : ∀ {o : Obj} {tn : Nat → Heap → Prop} {Jt : It}, Turn X.prog X.w X.K tg Jt [s1.heap.objs.size] s1.heap.objs.size tn → tn 0 (s1.heap.push o) → R Jt H1 → PIE X pins σ tg R (.ref s1.heap.objs.size) { s1 with heap := s1.heap.push o } := fun {o tn Jt} T t0 q =>
    ⟨s1.heap.objs.size, [s1.heap.objs.size], tn, Jt, H1, rfl, J.kept (t' := s1.toks) fun b o e => Heap.get?_push_of_some _ e, T, t0, fun b hb => by
      have e : b = s1.heap.objs.size := by simpa using hb
      rw [e]
      exact J.fpOk (Nat.le_refl _) (J.hok.fresh (Nat.le_refl _)), q⟩
  rcases qx with ⟨a, vs, rfl, hq, q⟩ | ⟨a, vs, rfl, hq, q⟩ | ⟨z, rfl, q⟩
  · cases rx
    obtain ⟨its, rv, pl, _⟩ := J.list hq
    exact wpAny_pyIter_list pl.isList (one (turn_list a _) ⟨_, Heap.get?_push_size _ rfl, rfl, rfl⟩ q)
  · cases rx
    obtain ⟨its, rv, pl, _⟩ := J.tuple hq
    exact wpAny_pyIter_tuple (show s1.heap.IsTuple a its.toArray from pl) (one (turn_tuple a _) ⟨_, Heap.get?_push_size _ rfl, rfl, rfl⟩ q)
  · obtain ⟨t, rfl⟩ := rx
    cases hc : z.cps.all (· < 128)
    · exact wpAny_pyIter_wide hc (one (turn_str _ z t "str_iterator" (.inr rfl)) ⟨_, Heap.get?_push_size _ rfl, rfl, rfl⟩ q)
    · exact wpAny_pyIter_ascii hc (one (turn_str _ z t "str_ascii_iterator" (.inl rfl)) ⟨_, Heap.get?_push_size _ rfl, rfl, rfl⟩ q)
theorem rd_sq {K : PySem.W.Frag} {H : Hp} {a : Addr} {vs : List V} (h : Rd H a (.lst vs)) : SqL K H a vs := .inl h
theorem srcD_ok {K : PySem.W.Frag} {w : Wd} {H : Hp} {x : D} {v : V} {src : Src} {R : It → Hp → Prop} (r : RpW B w x v) (R1 : RlW B F0 w H) (e : srcD w.S x = some src) (k : ∀ J G Y, SrcOk B F0 w src J G Y → R J H) :
    (∃ a vs, v = .ref a ∧ SqL K H a vs ∧ R (Itl K a) H) ∨ (∃ a vs, v = .ref a ∧ SqT K H a vs ∧ R (Itt K a) H) ∨ ∃ z, v = .str z ∧ R (Its z) H := by
  unfold srcD at e
  split at e
  · cases e
    cases r with
    | z q => cases q with | lst a b => exact .inl ⟨_, _, rfl, rd_sq (.inl (R1.fh _ _ a)), k _ _ _ (.at walk_list (by simp [b.length]) (fun w' H' R' X' _ => rd_sq (.inl (R'.fh _ _ (X'.f _ _ a)))) (RpDs.zs b))⟩
  · cases e
    cases r with
    | b q =>
      cases q with
      | lst a b =>
        have all : ∀ (w' : Wd) (H' : Hp), RlW B F0 w' H' → Xt w.μ w.S w.F w'.μ w'.S w'.F → Rd H' _ (.lst _) := fun w' H' R' X' => a.elim (fun z => R'.fh.rd (X'.f.rd z)) fun z => R'.bh.rd z
        exact .inl ⟨_, _, rfl, rd_sq (all w H R1 .refl), k _ _ _ (.at walk_list (by simp [b.length]) (fun w' H' R' X' _ => rd_sq (all w' H' R' X')) (RpDs.bzs b))⟩
  · rename_i n
    split at e
    · rename_i ds e1
      cases e
      cases r with
      | r hi =>
        obtain ⟨vs, hv, rv⟩ := R1.ob _ _ e1
        have em : ∀ (w' : Wd), Xt w.μ w.S w.F w'.μ w'.S w'.F → w'.μ n = w.μ n := fun w' X' => X'.m n (Rl.lt e1)
        have there : ∀ (w' : Wd) (H' : Hp), RlW B F0 w' H' → Xt w.μ w.S w.F w'.μ w'.S w'.F → w'.S[n]? = some (.lst ds) → ∃ us, SqL K H' (w.μ n) us ∧ RpsW B w' ds us := fun w' H' R' X' ho => by
          obtain ⟨us, hu, ru⟩ := R'.ob _ _ ho
          rw [em w' X'] at hu
          exact ⟨us, rd_sq (.inl hu), ru⟩
        refine .inl ⟨_, _, rfl, rd_sq (.inl hv), k _ (fun H => ∃ us, SqL K H (w.μ n) us ∧ us.length = ds.length) (fun i H x H' => H' = H ∧ ∀ us, SqL K H (w.μ n) us → us[i]? = some x) ⟨⟨?_, ?_, ?_⟩, ?_, ?_⟩⟩
        · rintro i H2 hi2 ⟨us, hu, hl⟩
          have hi3 : i < us.length := by rw [hl]; exact hi2
          exact ⟨us, us[i], hu, List.getElem?_eq_getElem hi3⟩
        · rintro H2 ⟨us, hu, hl⟩
          exact ⟨us, hu, by rw [hl]; exact Nat.le_refl _⟩
        · exact fun i H x H' _ _ y => y
        · intro w' H' R' X' ho
          obtain ⟨us, h1, h2⟩ := there w' H' R' X' ho
          exact ⟨us, h1, h2.length.symm⟩
        · intro w' H' i x H2 _ R' X' ho y
          obtain ⟨rfl, y⟩ := y
          obtain ⟨us, h1, h2⟩ := there w' _ R' X' ho
          obtain ⟨d, hd, rd⟩ := RpDs.getV h2 (y us h1)
          exact ⟨w', d, hd, rfl, R', .refl, rd⟩
    · cases e
  · cases e
    cases r with
    | z q => cases q with | tup a b => exact .inr (.inl ⟨_, _, rfl, .inl (.inl (R1.fh _ _ a)), k _ _ _ (.at walk_tup (by simp [b.length]) (fun w' H' R' X' _ => .inl (.inl (R'.fh _ _ (X'.f _ _ a)))) (RpDs.zs b))⟩)
  · cases e
    cases r with
    | b q => cases q with | tup a b => exact .inr (.inl ⟨_, _, rfl, .inl (.inl (R1.fh _ _ a)), k _ _ _ (.at walk_tup (by simp [b.length]) (fun w' H' R' X' _ => .inl (.inl (R'.fh _ _ (X'.f _ _ a)))) (RpDs.bzs b))⟩)
  · cases e
    cases r with
    | t a b => exact .inr (.inl ⟨_, _, rfl, .inl (.inl (R1.fh _ _ a)), k _ _ _ (.at walk_tup b.length (fun w' H' R' X' _ => .inl (.inl (R'.fh _ _ (X'.f _ _ a)))) b)⟩)
  · rename_i z
    cases e
    have := rpStr r
    subst this
    refine .inr (.inr ⟨z, rfl, k (Its z) (fun _ => True) (fun i H v H' => H' = H ∧ ∃ c, z.cps[i]? = some c ∧ v = .str ⟨#[c]⟩) ⟨?_, fun _ _ _ _ _ => trivial, fun w' H' i x H2 _ R' X' _ y => ?_⟩⟩)
    · simpa using walk_str (z := z)
    · obtain ⟨rfl, c, hc, rfl⟩ := y
      refine ⟨w', .z (.str ⟨⟨[c]⟩⟩), ?_, rfl, R', .refl, .z (.str _)⟩
      have hc' : z.cps.toList[i]? = some c := by rw [Array.getElem?_toList]; exact hc
      simp [hc']
  · cases e
theorem xit (he : PX X B F0 W e we) : PXI X B F0 W tg e (wIt we) := wkI (pi_any he) fun σ H Q h => by
  obtain ⟨w, env, K, KX, R, E, h, kx, q⟩ := h
  refine ⟨w, env, _, KX, R, E, h, fun x S1 v H1 μ1 F1 R1 X1 r1 h1 => ?_, kx⟩
  obtain ⟨src, e, h1⟩ := h1.out
  exact srcD_ok (w := ⟨μ1, S1, F1⟩) (R := Q) r1 R1 e fun J G Y ok => q src S1 H1 μ1 F1 J G Y R1 X1 h1 ok
def rgD (lo : Int) (n : Nat) : Src := ⟨(List.range n).map fun (i : Nat) => .z (.int (lo + (i : Int))), fun _ => True⟩
def wRg1 (wa : WA) : WI := fun env S K KX => wa env S (fun xs S1 => match xs with
  | [.z (.int j)] => pReq (-1000000 < j ∧ j < 1000000) (K (rgD 0 j.toNat) S1)
  | _ => False) KX
theorem rgD_ok {w : Wd} {lo : Int} {n : Nat} : SrcOk B F0 w (rgD lo n) (Itr lo n) (fun _ => True) (YFn fun i => .int (lo + (i : Int))) := ⟨by simpa [rgD] using walk_range (lo := lo) (n := n), fun _ _ _ _ _ => trivial, fun w' H i x H' hi R X1 _ y => by
  obtain ⟨rfl, rfl⟩ := y
  have hi2 : i < n := by simpa [rgD] using hi
  refine ⟨w', .z (.int (lo + (i : Int))), ?_, rfl, R, .refl, .z (.int _)⟩
  show ((List.range n).map _)[i]? = _
  rw [List.getElem?_map, List.getElem?_range hi2]
  rfl⟩
theorem xrg1 {a : Expr} (hg : Gl X "range") (hm : X.mg "range" = none) (ha : PXA X B F0 W [a] wa) (hs : starEach [a] X.env = [(false, eval a X.env)] := by rfl) : PXI X B F0 W tg (.Call (.Name "range" p) [a] [] pos) (wRg1 wa) := wkI (pi_range1 hg hm ha hs) fun σ H Q h => by
  obtain ⟨w, env, K, KX, R, E, h, kx, q⟩ := h
  refine ⟨w, env, _, KX, R, E, h, fun xs S1 vs H1 μ1 F1 R1 X1 r1 h1 => ?_, kx⟩
  dsimp only at h1
  split at h1
  · obtain ⟨hz, h1⟩ := h1.out
    obtain ⟨v, rfl, r2⟩ := RpDs.one (w := ⟨μ1, S1, F1⟩) r1
    have := rpInt (w := ⟨μ1, S1, F1⟩) r2
    subst this
    exact ⟨_, rfl, by omega, by omega, q _ S1 H1 μ1 F1 _ _ _ R1 X1 h1 rgD_ok⟩
  · exact h1.elim
structure Lsd (K : PySem.W.Frag) (B F0 : Hp) (w0 : Wd) (src : Src) (a : Addr) : Prop where
  at_ : ∀ (w : Wd) H, RlW B F0 w H → Xt w0.μ w0.S w0.F w.μ w.S w.F → src.ok w.S → ∃ vs, SqL K H a vs ∧ RpsW B w src.items vs
end

def pForGo (src : Src) (g : WG) (body : WS) (k : KS) : List D → Env → Sto → Prop
  | [] => fun env S => src.ok S ∧ k.nx env S
  | d :: ds => fun env S => src.ok S ∧ g d env S fun env1 S1 => body { k with nx := pForGo src g body k ds, ct := pForGo src g body k ds, bk := k.nx } env1 S1
structure pFor (src : Src) (g : WG) (body : WS) (k : KS) (ds : List D) (env : Env) (S : Sto) : Prop where
  go : pForGo src g body k ds env S
theorem pFor.nil {src : Src} {g : WG} {body : WS} {k : KS} {env : Env} {S : Sto} : pFor src g body k [] env S = (src.ok S ∧ k.nx env S) := propext ⟨fun h => h.go, fun h => ⟨h⟩⟩
theorem pFor.cons {src : Src} {g : WG} {body : WS} {k : KS} {d : D} {ds : List D} {env : Env} {S : Sto} : pFor src g body k (d :: ds) env S = (src.ok S ∧ g d env S fun env1 S1 => body { k with nx := pFor src g body k ds, ct := pFor src g body k ds, bk := k.nx } env1 S1) := by
  have e : pFor src g body k ds = pForGo src g body k ds := by funext e s; exact propext ⟨fun h => h.go, fun h => ⟨h⟩⟩
  rw [e]; exact propext ⟨fun h => h.go, fun h => ⟨h⟩⟩
def wFor (wi : WI) (g : WG) (body : WS) : WS := fun k env S => wi env S (fun src S1 => pFor src g body k src.items env S1) k.ex
structure pWhile (t : WT) (body : WS) (k : KS) (env : Env) (S : Sto) : Prop where
  ex : ∃ P : Nat → Env → Sto → Prop, (∃ m, P m env S) ∧ ∀ m env S, P m env S →
  t env S (fun b S1 => pIf b (body { k with nx := fun env2 S2 => ∃ m', m' < m ∧ P m' env2 S2, ct := fun env2 S2 => ∃ m', m' < m ∧ P m' env2 S2, bk := k.nx } env S1) (k.nx env S1)) k.ex
def wWhile (t : WT) (body : WS) : WS := fun k env S => pWhile t body k env S
section
variable {X : Cx} {B F0 : Hp} {W : WX} {tg iter c : Expr} {body : List Stmt} {wi : WI} {g : WG} {b : WS} {t : WT} {pos : Pos}
theorem xfor (hp : PassesOwn (model X.prog X.w) X.A X.env X.xe) (hc : X.calm = true) (hi : PXI X B F0 W tg iter wi) (hg : PXG X B F0 tg g) (hb : PXB X B F0 W body b) (hs : ∀ x, foldedSetIterable iter X.env x = pure x := by intro _; rfl) : PXS X B F0 W (.For tg iter body [] pos) (wFor wi g b) :=
  wkS (ps_for hp hc hi hg hb hs) fun D σ H h => by
    obtain ⟨w, env, k, R, E, h, f⟩ := h
    refine ⟨w, env, _, _, R, E, h, f.toX E, fun src S1 H1 μ1 F1 J G Y R1 X1 h1 ok => ?_⟩
    refine for_it ok.walk (fun i σ2 H2 => ∃ (w2 : Wd) (env2 : Env), RlW B F0 w2 H2 ∧ Xt μ1 S1 F1 w2.μ w2.S w2.F ∧ EnvR B w2.F w2.μ w2.S.length env2 σ2 ∧ pFor src g b k (src.items.drop i) env2 w2.S) ?_ ?_ ?_ ?_
    · exact ⟨⟨μ1, S1, F1⟩, env, R1, .refl, E.xt X1, h1⟩
    · rintro i σ2 H2 _ ⟨w2, env2, R2, X2, E2, h2⟩
      refine ok.good w2 H2 R2 X2 ?_
      cases hd : src.items.drop i with
      | nil => rw [hd, pFor.nil] at h2; exact h2.1
      | cons d ds => rw [hd, pFor.cons] at h2; exact h2.1
    · rintro i x σ2 H2 H3 hi ⟨w2, env2, R2, X2, E2, h2⟩ y
      rw [List.drop_eq_getElem_cons hi, pFor.cons] at h2
      obtain ⟨ho, h2⟩ := h2
      obtain ⟨w3, d, hd, eS, R3, X3, rd⟩ := ok.item w2 H2 i x H3 hi R2 X2 ho y
      have ed : src.items[i] = d := Option.some.inj ((List.getElem?_eq_getElem hi).symm.trans hd)
      rw [ed, ← eS] at h2
      refine ⟨w3, env2, d, _, R3, E2.xt X3, rd, h2, fun env4 S4 σ4 H4 μ4 F4 R4 X4 E4 h4 => ?_⟩
      have X24 := X2.trans (X3.trans X4)
      refine ⟨⟨μ4, S4, F4⟩, env4, _, R4, E4, h4, ⟨fun env5 S5 σ5 H5 μ5 F5 R5 X5 E5 h5 => ?_, f.rt.xt (X1.trans X24), fun env5 S5 σ5 H5 μ5 F5 R5 X5 E5 h5 => ?_, fun env5 S5 σ5 H5 μ5 F5 R5 X5 E5 h5 => ?_, fun y5 env5 S5 σ5 H5 μ5 F5 c5 d5 R5 X5 E5 r5 h5 => ?_⟩⟩
      · exact ⟨⟨μ5, S5, F5⟩, env5, R5, X24.trans X5, E5, h5⟩
      · exact f.nx _ _ _ _ _ _ R5 ((X1.trans X24).trans X5) E5 h5
      · exact ⟨⟨μ5, S5, F5⟩, env5, R5, X24.trans X5, E5, h5⟩
      · exact f.ex _ _ _ _ _ _ _ _ _ R5 ((X1.trans X24).trans X5) E5 r5 h5
    · rintro σ2 H2 ⟨w2, env2, R2, X2, E2, h2⟩
      rw [List.drop_length, pFor.nil] at h2
      exact f.nx _ _ _ _ _ _ R2 (X1.trans X2) E2 h2.2
theorem xwhile (hp : PassesOwn (model X.prog X.w) X.A X.env X.xe) (hc : PXT X B F0 W c t) (hb : PXB X B F0 W body b) : PXS X B F0 W (.While c body [] pos) (wWhile t b) := wkS (ps_while hp hc hb) fun D σ H h => by
  obtain ⟨w, env, k, R, E, h, f⟩ := h
  unfold wWhile at h
  have h := h.ex
  obtain ⟨P, ⟨m0, p0⟩, turn⟩ := h
  refine ⟨fun m σ2 H2 => ∃ (w2 : Wd) (env2 : Env), RlW B F0 w2 H2 ∧ Xt w.μ w.S w.F w2.μ w2.S w2.F ∧ EnvR B w2.F w2.μ w2.S.length env2 σ2 ∧ P m env2 w2.S, ⟨m0, w, env, R, .refl, E, p0⟩, ?_⟩
  rintro m σ2 H2 ⟨w2, env2, R2, X2, E2, p2⟩
  refine ⟨w2, env2, _, _, R2, E2, turn m env2 w2.S p2, fun kb S3 H3 μ3 F3 R3 X3 h3 => ?_, (f.xt X2).toX E2⟩
  have h3 := h3.out
  dsimp only
  cases kb with
  | true =>
    rw [if_pos rfl] at h3 ⊢
    refine ⟨fun σ4 H4 => ∃ m', m' < m ∧ ∃ (w4 : Wd) (env4 : Env), RlW B F0 w4 H4 ∧ Xt w.μ w.S w.F w4.μ w4.S w4.F ∧ EnvR B w4.F w4.μ w4.S.length env4 σ4 ∧ P m' env4 w4.S, fun σ4 H4 h => h, ?_⟩
    have X23 := X2.trans X3
    refine ⟨⟨μ3, S3, F3⟩, env2, _, R3, E2.xt X3, h3, ⟨fun env5 S5 σ5 H5 μ5 F5 R5 X5 E5 h5 => ?_, f.rt.xt X23, fun env5 S5 σ5 H5 μ5 F5 R5 X5 E5 h5 => ?_, fun env5 S5 σ5 H5 μ5 F5 R5 X5 E5 h5 => ?_, fun y5 env5 S5 σ5 H5 μ5 F5 c5 d5 R5 X5 E5 r5 h5 => ?_⟩⟩
    · obtain ⟨m', hm, p5⟩ := h5; exact ⟨m', hm, ⟨μ5, S5, F5⟩, env5, R5, X23.trans X5, E5, p5⟩
    · exact f.nx _ _ _ _ _ _ R5 (X23.trans X5) E5 h5
    · obtain ⟨m', hm, p5⟩ := h5; exact ⟨m', hm, ⟨μ5, S5, F5⟩, env5, R5, X23.trans X5, E5, p5⟩
    · exact f.ex _ _ _ _ _ _ _ _ _ R5 (X23.trans X5) E5 r5 h5
  | false =>
    rw [if_neg Bool.false_ne_true] at h3 ⊢
    exact f.nx _ _ _ _ _ _ R3 (X2.trans X3) (E2.xt X3) h3
end
end PL

set_option Elab.async false
set_option linter.all false
set_option maxRecDepth 100000
namespace PL
open PySem L2

def W0 : WX := fun _ _ _ _ => False
def X0 : KX := fun _ _ _ => False
theorem fix0 {B F0 : Hp} {w : Wd} {env : Env} {σ : St} {W : WX} : FiX B F0 W w env σ X0 := fun _ _ _ _ _ _ _ _ _ _ h => h.elim
def wipeE (env : Env) : List Nat → Env
  | [] => env
  | v :: vs => (wipeE env vs).set v none
theorem EnvR.wipe {B F : Hp} {μ : Nat → Addr} {n : Nat} {env : Env} {σ : St} (E : EnvR B F μ n env σ) : ∀ vs : List Nat, EnvR B F μ n (wipeE env vs) (L2.wipe σ vs)
  | [] => E
  | v :: vs => EnvR.unset v (EnvR.wipe E vs)
theorem wipe_set {σ : St} {i : Nat} {x : Option V} : ∀ {vs : List Nat}, i ∈ vs → L2.wipe (σ.set i x) vs = L2.wipe σ vs
  | [], h => by cases h
  | v :: vs, h => by
    show (L2.wipe (σ.set i x) vs).set v none = (L2.wipe σ vs).set v none
    by_cases hm : i ∈ vs
    · rw [wipe_set hm]
    · have e : i = v := (List.mem_cons.mp h).resolve_right hm
      subst e
      have comm : ∀ (us : List Nat) (τ : St), i ∉ us → L2.wipe (τ.set i x) us = (L2.wipe τ us).set i x := by
        intro us
        induction us with
        | nil => intro τ _; rfl
        | cons u us ih =>
          intro τ hu
          have h1 : i ∉ us := fun z => hu (List.mem_cons_of_mem _ z)
          have h2 : i ≠ u := fun z => hu (by rw [z]; exact List.mem_cons_self)
          show (L2.wipe (τ.set i x) us).set u none = ((L2.wipe τ us).set u none).set i x
          rw [ih τ h1, List.set_comm _ _ h2]
      rw [comm vs σ hm, List.set_set]
theorem wipe_idem {σ : St} : ∀ (vs : List Nat), L2.wipe (L2.wipe σ vs) vs = L2.wipe σ vs
  | [] => rfl
  | v :: vs => by
    have h : L2.wipe ((L2.wipe σ vs).set v none) (v :: vs) = L2.wipe (L2.wipe σ vs) (v :: vs) := wipe_set List.mem_cons_self
    show L2.wipe ((L2.wipe σ vs).set v none) (v :: vs) = (L2.wipe σ vs).set v none
    rw [h]
    show (L2.wipe (L2.wipe σ vs) vs).set v none = _
    rw [wipe_idem vs]
structure TgOk (K : PySem.W.Frag) (B F0 : Hp) (g : TG) (tg : D → Env → Option Env) (vs : List Nat) : Prop where
  run : ∀ (w : Wd) (H : Hp) (d : D) (v : V) (env env2 : Env) (σ : St) (Q : St → Hp → Prop), RlW B F0 w H → RpW B w d v → EnvR B w.F w.μ w.S.length env σ → tg d env = some env2 →
    (∀ σ2, EnvR B w.F w.μ w.S.length env2 σ2 → L2.wipe σ2 vs = L2.wipe σ vs → Q σ2 H) → g v σ H Q
def tgN (i : Nat) : D → Env → Option Env := fun d env => some (env.set i (some d))
def setE : Env → List Nat → List D → Option Env
  | env, [], [] => some env
  | env, i :: is, d :: ds => setE (env.set i (some d)) is ds
  | _, _, _ => none
def tgT (is : List Nat) : D → Env → Option Env := fun d env => match tpD d with
  | some ds => setE env is ds
  | none => none
section
variable {K : PySem.W.Frag} {B F0 : Hp}
theorem tgok_name {i : Nat} {vs : List Nat} (hi : i ∈ vs := by simp) : TgOk K B F0 (gName i) (tgN i) vs := ⟨fun w H d v env env2 σ Q R r E e k => by
  cases e
  exact k _ (EnvR.set r i E) (wipe_set hi)⟩
def gNames : List Nat → TGs
  | [] => gNil
  | i :: is => gCons (gName i) (gNames is)
theorem gNames_ok {w : Wd} {H : Hp} {vs : List Nat} {Q : St → Hp → Prop} : ∀ {is : List Nat} {ds : List D} {us : List V} {env env2 : Env} {σ σ0 : St}, (∀ i ∈ is, i ∈ vs) → RpsW B w ds us → EnvR B w.F w.μ w.S.length env σ → setE env is ds = some env2 → L2.wipe σ vs = L2.wipe σ0 vs →
    (∀ σ2, EnvR B w.F w.μ w.S.length env2 σ2 → L2.wipe σ2 vs = L2.wipe σ0 vs → Q σ2 H) → gNames is us σ H Q ∧ us.length = is.length
  | [], [], _, _, _, _, _, _, r, E, e, hw, k => by
    cases r
    cases e
    exact ⟨⟨rfl, k _ E hw⟩, rfl⟩
  | [], _ :: _, _, _, _, _, _, _, _, _, e, _, _ => by cases e
  | _ :: _, [], _, _, _, _, _, _, _, _, e, _, _ => by cases e
  | i :: is, d :: ds, _, env, env2, σ, σ0, hv, r, E, e, hw, k => by
    cases r with
    | cons r1 r2 =>
      obtain ⟨h1, h2⟩ := gNames_ok (is := is) (fun j hj => hv j (List.mem_cons_of_mem _ hj)) r2 (EnvR.set r1 i E) e ((wipe_set (hv i List.mem_cons_self)).trans hw) k
      exact ⟨⟨_, _, rfl, h1⟩, by simp [h2]⟩
theorem tgok_tup {is : List Nat} {vs : List Nat} {n : Nat} (hn : is.length = n := by rfl) (hi : ∀ i ∈ is, i ∈ vs := by decide) : TgOk K B F0 (gTup K n (gNames is)) (tgT is) vs := ⟨fun w H d v env env2 σ Q R r E e k => by
  unfold tgT at e
  split at e
  · rename_i ds e1
    obtain ⟨a, us, rfl, ha, ru⟩ := tpD_ok R r e1
    obtain ⟨h1, h2⟩ := gNames_ok hi ru E e rfl k
    exact ⟨a, us, rfl, .inl (.inl ha), h2.trans hn, h1⟩
  · cases e⟩
end

def pLcGo (src : Src) (tg : D → Env → Option Env) (wt : WT) (we : WE) (L : Nat) (env : Env) (fin : Sto → Prop) : List D → Sto → Prop
  | [] => fun S => src.ok S ∧ fin S
  | d :: ds => fun S => src.ok S ∧ pGet (tg d env) fun env2 => wt env2 S (fun b S1 => pIf b (we env2 S1 (fun y S2 => pGet (lsR S2 L) fun acc => pReq (acc.length < sizeLine) (pLcGo src tg wt we L env fin ds (S2.set L (.lst (acc ++ [y]))))) X0) (pLcGo src tg wt we L env fin ds S1)) X0
structure pLc (src : Src) (tg : D → Env → Option Env) (wt : WT) (we : WE) (L : Nat) (env : Env) (fin : Sto → Prop) (ds : List D) (S : Sto) : Prop where
  go : pLcGo src tg wt we L env fin ds S
theorem pLc.nil {src : Src} {tg : D → Env → Option Env} {wt : WT} {we : WE} {L : Nat} {env : Env} {fin : Sto → Prop} {S : Sto} : pLc src tg wt we L env fin [] S = (src.ok S ∧ fin S) := propext ⟨fun h => h.go, fun h => ⟨h⟩⟩
theorem pLc.cons {src : Src} {tg : D → Env → Option Env} {wt : WT} {we : WE} {L : Nat} {env : Env} {fin : Sto → Prop} {d : D} {ds : List D} {S : Sto} : pLc src tg wt we L env fin (d :: ds) S = (src.ok S ∧ pGet (tg d env) fun env2 => wt env2 S (fun b S1 => pIf b (we env2 S1 (fun y S2 => pGet (lsR S2 L) fun acc => pReq (acc.length < sizeLine) (pLc src tg wt we L env fin ds (S2.set L (.lst (acc ++ [y]))))) X0) (pLc src tg wt we L env fin ds S1)) X0) := by
  have e : pLc src tg wt we L env fin ds = pLcGo src tg wt we L env fin ds := by funext s; exact propext ⟨fun h => h.go, fun h => ⟨h⟩⟩
  rw [e]; exact propext ⟨fun h => h.go, fun h => ⟨h⟩⟩
def wLc (wi : WI) (tg : D → Env → Option Env) (wt : WT) (we : WE) (vs : List Nat) : WE := fun env S K KX => wi env S (fun src S1 => pLc src tg wt we S1.length (wipeE env vs) (fun S2 => K (.r S1.length) S2) src.items (S1 ++ [.lst []])) KX
def wYes : WT := fun _ S K _ => K true S
section
variable {X : Cx} {B F0 : Hp} {W : WX}
theorem lc_wk {wi : WI} {g : TG} {tg : D → Env → Option Env} {wt : WT} {we : WE} {vs : List Nat} (hg : TgOk X.K B F0 g tg vs) {σ : St} {H : Hp} {Q : VK} (h : tE B F0 W (wLc wi tg wt we vs) σ H Q) : tLc (tI B F0 W wi) g (tT B F0 W0 wt) (tE B F0 W0 we) vs σ H Q := by
  obtain ⟨w, env, K, KX, R, E, h, k, kx⟩ := h
  refine ⟨w, env, _, KX, R, E, h, kx, fun src S1 H1 μ1 F1 J G Y R1 X1 h1 ok => fun Dl hD => ?_⟩
  obtain ⟨Rg, Xg⟩ := R1.grow (u := .lst []) (o := .lst []) hD fun G hG => ⟨[], hG, .nil⟩
  refine lc_it ok.walk (fun i H2 => ∃ (w2 : Wd), RlW B F0 w2 H2 ∧ Xt (muX μ1 S1.length Dl) (S1 ++ [.lst []]) F1 w2.μ w2.S w2.F ∧ pLc src tg wt we S1.length (wipeE env vs) (fun S2 => K (.r S1.length) S2) (src.items.drop i) w2.S) ?_ ?_ ?_ ?_
  · exact ⟨⟨_, _, _⟩, Rg, .refl, h1⟩
  · rintro i H2 _ ⟨w2, R2, X2, h2⟩
    refine ok.good w2 H2 R2 (Xg.trans X2) ?_
    cases hd : src.items.drop i with
    | nil => rw [hd, pLc.nil] at h2; exact h2.1
    | cons d ds => rw [hd, pLc.cons] at h2; exact h2.1
  · rintro i x H2 H3 hi ⟨w2, R2, X2, h2⟩ y
    rw [List.drop_eq_getElem_cons hi, pLc.cons] at h2
    obtain ⟨ho, h2⟩ := h2
    obtain ⟨env2, he2, h2⟩ := h2.out
    obtain ⟨w3, d, hd, eS, R3, X3, rd⟩ := ok.item w2 H2 i x H3 hi R2 (Xg.trans X2) ho y
    have ed : src.items[i] = d := Option.some.inj ((List.getElem?_eq_getElem hi).symm.trans hd)
    rw [ed] at he2
    rw [← eS] at h2
    have X13 : Xt w.μ w.S w.F w3.μ w3.S w3.F := (X1.trans Xg).trans (X2.trans X3)
    refine hg.run w3 H3 d x (wipeE env vs) env2 (L2.wipe σ vs) _ R3 rd ((E.xt X13).wipe vs) he2 fun σ2 E2 hw2 => ⟨hw2.trans (wipe_idem vs), ?_⟩
    refine ⟨w3, env2, _, X0, R3, E2, h2, fun b S4 H4 μ4 F4 R4 X4 h4 => ?_, fix0⟩
    have h4 := h4.out
    dsimp only
    cases b with
    | false =>
      rw [if_neg Bool.false_ne_true] at h4 ⊢
      exact ⟨⟨μ4, S4, F4⟩, R4, X2.trans (X3.trans X4), h4⟩
    | true =>
      rw [if_pos rfl] at h4 ⊢
      refine ⟨⟨μ4, S4, F4⟩, env2, _, X0, R4, E2.xt X4, h4, fun yd S5 yv H5 μ5 F5 R5 X5 r5 h5 => ?_, fix0⟩
      obtain ⟨acc, ea, h5⟩ := h5.out
      obtain ⟨hz, h5⟩ := h5.out
      obtain ⟨hn, as, hv, ra⟩ := lsR_ok (w := ⟨μ5, S5, F5⟩) R5 ea
      have X25 := X2.trans (X3.trans (X4.trans X5))
      have eD : μ5 S1.length = Dl := by
        have := X25.m S1.length (by simp)
        rw [this]
        unfold muX
        rw [if_pos rfl]
      have hv : H5 (μ5 S1.length) = some (.lst as) := hv
      rw [eD] at hv
      refine ⟨as, hv, by rw [← ra.length]; exact hz, ?_⟩
      obtain ⟨R6, X6⟩ := R5.write (u := .lst (as ++ [yv])) (o := .lst (acc ++ [yd])) hn fun G hG => ⟨_, hG, ra.append (.cons r5 .nil)⟩
      rw [eD] at R6
      exact ⟨⟨μ5, _, F5⟩, R6, X25.trans X6, h5⟩
  · rintro H2 ⟨w2, R2, X2, h2⟩
    rw [List.drop_length, pLc.nil] at h2
    have eD : w2.μ S1.length = Dl := by
      have := X2.m S1.length (by simp)
      rw [this]
      unfold muX
      rw [if_pos rfl]
    have hlt : S1.length < w2.S.length := Nat.lt_of_lt_of_le (by simp) X2.n
    have r : RpD B w2.F w2.μ w2.S.length (.r S1.length) (.ref (w2.μ S1.length)) := .r hlt
    rw [eD] at r
    exact k _ _ _ _ _ _ R2 ((X1.trans Xg).trans X2) r h2.2
variable {elt tg iter : Expr} {ifs : List Expr} {scope : Scope} {own : List (Str × Nat)} {pos spos : Pos} {wi : WI} {g : TG} {tgd : D → Env → Option Env} {wt : WT} {we : WE}
def PXTs (X : Cx) (B F0 : Hp) (ifs : List Expr) (wt : WT) : Prop := PTs X ifs (tT B F0 W0 wt)
theorem tsNil : PXTs X B F0 [] wYes := ⟨fun pins s σ H Q I h => by
  obtain ⟨w, env, K, KX, R, E, h, k, _⟩ := h
  exact pts_nil.run pins s σ H Q I (k true w.S H w.μ w.F R .refl h)⟩
theorem tsOne {c : Expr} (h : PXT X B F0 W0 c wt) : PXTs X B F0 [c] wt := pts_one h
theorem xlc (hc : X.calm = true) (hN : X.N.Nodup) (hi : PXI X B F0 W tg iter wi) (ok : BlkOk X.N X.env.scope scope own)
    (hg : ∀ (s : Shared) (H : Hp) (C : Addr) (cl : List (Str × Addr)) (fp : List Addr), PG (X.blk s H scope (compEnvC scope cl C X.env) fp) tg g) (hk : TgOk X.K B F0 g tgd (own.map (·.2)))
    (ht : ∀ (s : Shared) (H : Hp) (C : Addr) (cl : List (Str × Addr)) (fp : List Addr), PXTs (X.blk s H scope (compEnvC scope cl C X.env) fp) B F0 ifs wt)
    (he : ∀ (s : Shared) (H : Hp) (C : Addr) (cl : List (Str × Addr)) (fp : List Addr), PX (X.blk s H scope (compEnvC scope cl C X.env) fp) B F0 W0 elt we) (hs : ∀ x, foldedSetIterable iter X.env x = pure x := by intro _; rfl) :
    PX X B F0 W (.ListComp elt [⟨tg, iter, ifs, 0⟩] scope pos) (wLc wi tgd wt we (own.map (·.2))) := wkE (pe_lc hc hN hi ok hg ht he hs) fun σ H Q h => lc_wk hk h
theorem xsetLc {i : Nat} {y : Str} {py : Pos} (hc : X.calm = true) (hN : X.N.Nodup) (hy : X.N[i]? = some y) (hyl : X.env.scope.names.lookup y = some .local)
    (hsw : swapsWith (.ListComp elt [⟨tg, iter, ifs, 0⟩] scope pos) (some (.Name y py)) spos.line X.env = pure true) (hi : PXI X B F0 W tg iter wi) (ok : BlkOk X.N X.env.scope scope own)
    (hg : ∀ (s : Shared) (H : Hp) (C : Addr) (cl : List (Str × Addr)) (fp : List Addr), PG (X.blk s H scope (compEnvC scope cl C X.env) fp) tg g) (hk : TgOk X.K B F0 g tgd (own.map (·.2)))
    (ht : ∀ (s : Shared) (H : Hp) (C : Addr) (cl : List (Str × Addr)) (fp : List Addr), PXTs (X.blk s H scope (compEnvC scope cl C X.env) fp) B F0 ifs wt)
    (he : ∀ (s : Shared) (H : Hp) (C : Addr) (cl : List (Str × Addr)) (fp : List Addr), PX (X.blk s H scope (compEnvC scope cl C X.env) fp) B F0 W0 elt we) (hs : ∀ x, foldedSetIterable iter X.env x = pure x := by intro _; rfl) :
    PXS X B F0 W (.Assign [.Name y py] (.ListComp elt [⟨tg, iter, ifs, 0⟩] scope pos) spos) (wAsg (wLc wi tgd wt we (own.map (·.2))) (gN i)) := wkS (ps_setLc hc hN hy hyl hsw hi ok hg ht he hs) fun Dn σ H h => by
  obtain ⟨w, env, k, R, E, h, f⟩ := h
  refine lc_wk hk ⟨w, env, _, _, R, E, h, fun d S1 v H1 μ1 F1 R1 X1 r1 h1 => ?_, f.toX E⟩
  exact f.nx _ _ _ _ _ _ R1 X1 (EnvR.set r1 i (E.xt X1)) h1
end
end PL

set_option Elab.async false
set_option linter.all false
set_option maxRecDepth 100000
namespace PL
open PySem L2

abbrev KF := Ex → Sto → Prop
abbrev Spc := List D → Sto → K1 → KF → Prop
def spOf (sp : Spc) : Sp := fun vs H Q E => ∃ (B F0 : Hp) (w : Wd) (ds : List D) (K : K1) (KX : KF), RlW B F0 w H ∧ RpsW B w ds vs ∧ sp ds w.S K KX ∧ Fi B F0 w K Q ∧
  ∀ x S' H' μ' F' cls dd, Rl B F0 μ' S' F' H' → Xt w.μ w.S w.F μ' S' F' → ExR B F' μ' S'.length H' x cls dd → KX x S' → E cls dd H'
structure pCall (sp : Spc) (ds : List D) (S : Sto) (K : K1) (KX : KF) : Prop where
  mk' ::
  out : sp ds S K KX
theorem pCall.mk {sp : Spc} {ds : List D} {S : Sto} {K : K1} {KX : KF} (h : sp ds S K KX) : pCall sp ds S K KX := ⟨h⟩
def wFn (sp : Spc) (dvs : List D) (wa : WA) : WE := fun env S K KX => wa env S (fun ds S1 => pCall sp (ds ++ dvs) S1 K fun x S2 => KX x env S2) KX
structure Dft (dvs : List D) (ds : List Value) : Prop where
  ok : ∃ vs : List V, Vals vs ds ∧ ∀ B w, RpsW B w dvs vs
theorem dft0 : Dft [] [] := ⟨[], .nil, fun _ _ => .nil⟩
section
variable {X : Cx} {B F0 : Hp} {W : WX} {e : Expr} {es : List Expr} {wa : WA} {x : Str} {p pos : Pos} {k : Nat} {f : Addr} {fd : FuncData} {ps : List Str} {sp : Spc} {dvs : List D} {dd : List Value}
theorem xcall (G : FnOk X.prog X.w X.K X.mg X.base (L2N.CX X.prog X.w) k f fd ps (spOf sp)) (hr : Room k X.A) (hg : Gl X x) (hm : X.mg x = some (.ref f)) (hk : PySem.W.keepIn X.K (.ref f) = true) (hb : Binds X.K fd ps dd) (hd : Dft dvs dd) (tk : L2N.Takes X W) (ha : PXA X B F0 W (e :: es) wa)
    (hdb : (x == ("__debug__" : Str)) = false := by decide) (he : starEach (e :: es) X.env = (false, eval e X.env) :: starEach es X.env := by rfl) (hpl : (backTo pos (starEach es X.env)).any (·.1) = false := by rfl) : PX X B F0 W (.Call (.Name x p) (e :: es) [] pos) (wFn sp dvs wa) := by
  obtain ⟨vsd, hv, hrp⟩ := hd.ok
  refine wkE (pe_callSD (E := fun σ cls d H => W cls d σ H) G hr hg hm hk hb hv (fun σ => L2N.passAt tk σ) ha hdb he hpl) fun σ H Q h => ?_
  obtain ⟨w, env, K, KX, R, E, h, k, kx⟩ := h
  refine ⟨w, env, _, _, R, E, h, fun ds S1 vs H1 μ1 F1 R1 X1 r1 h1 => ?_, kx⟩
  have happ : ∀ {a b : List D} {u v : List V}, RpDs B F1 μ1 S1.length a u → RpDs B F1 μ1 S1.length b v → RpDs B F1 μ1 S1.length (a ++ b) (u ++ v) := fun a b => a.append b
  exact ⟨B, F0, ⟨μ1, S1, F1⟩, ds ++ dvs, K, _, R1, happ r1 (hrp B ⟨μ1, S1, F1⟩), h1.out, k.xt X1, fun y S2 H2 μ2 F2 cls dd R2 X2 r2 h2 => kx y S2 H2 μ2 F2 cls dd R2 (X1.trans X2) r2 h2⟩
end

def startE (N : List Str) (ds : List D) : Env := ds.map some ++ List.replicate (N.length - ds.length) none
theorem startE_ok {B F : Hp} {μ : Nat → Addr} {n : Nat} {N : List Str} : ∀ {ds : List D} {vs : List V}, RpDs B F μ n ds vs → EnvR B F μ n (startE N ds) (L2.start N vs) := by
  intro ds vs r
  unfold startE L2.start
  rw [r.length]
  generalize N.length - vs.length = j
  have h2 : ∀ j : Nat, EnvR B F μ n (List.replicate j none) (List.replicate j none) := by
    intro j
    induction j with
    | zero => exact .nil
    | succ j ih => exact .cons (fun d hd => by cases hd) ih
  clear N
  induction ds generalizing vs with
  | nil => cases r; exact h2 j
  | cons d ds ih => cases r with | cons a b => exact .cons (fun e he => by cases he; exact ⟨_, rfl, a⟩) (ih b)
theorem okXN {P : Program} {w : World} {K : PySem.W.Frag} {mg : Str → Option Value} {base : Heap} {x qual : Str} {st : Stmt} {f : Addr} {fd : FuncData} {N ps : List Str} {k : Nat} {sp : L2.Sp} (F : Fun K x qual st f fd) (S : FnScope N ps (defScope st)) (hl : ∀ vs H Q E, sp vs H Q E → vs.length = ps.length)
    (hb : ∀ (cdv : Value) (A : Around) (outer : List PySem.Env) (s : Shared) (H : Hp) (vs : List V) (Q : VK) (E : XK), Room k (A.deeper (PyProof.Rows.envOfC qual (defScope st) s.heap.objs.size f cdv)) → sp vs H Q E →
      ∃ t, PSs (cxOf (L2N.CX P w) P w K mg base N qual (defScope st) f cdv A outer s H E) (defBody st) t ∧ t { nx := fun _ H' => Q .non H', rt := Q } (L2.start N vs) H) : FnOk P w K mg base (L2N.CX P w) (k + 1) f fd ps sp := by
  obtain ⟨oc, od, kV, doc, pm, an, cdv, ct, osl, rfl, lk, hcd⟩ := F.ex
  exact fn_of lk hcd S hl fun A outer s H vs Q E hr h => hb cdv A outer s H vs Q E hr h
def wE (E : XK) : WX := fun cls d _ H => E cls d H
theorem hu_px {A : Around} {k : Nat} (hr : Room k A) : A.units + 100 < cLine := by have := hr.un; omega
theorem fnpx {P : Program} {w : World} {K : PySem.W.Frag} {mg : Str → Option Value} {base : Heap} {x qual : Str} {st : Stmt} {f : Addr} {fd : FuncData} {N ps : List Str} {k : Nat} {sp : Spc} {ws : WS} (F : Fun K x qual st f fd) (S : FnScope N ps (defScope st))
    (hl : ∀ ds S K KX, sp ds S K KX → ds.length = ps.length)
    (hb : ∀ (cdv : Value) (A : Around) (outer : List PySem.Env) (s : Shared) (H : Hp) (E : XK) (B F0 : Hp), Room k (A.deeper (PyProof.Rows.envOfC qual (defScope st) s.heap.objs.size f cdv)) → L2N.Takes (cxOf (L2N.CX P w) P w K mg base N qual (defScope st) f cdv A outer s H E) (wE E) →
      PassesOwn (model P w) (cxOf (L2N.CX P w) P w K mg base N qual (defScope st) f cdv A outer s H E).A (cxOf (L2N.CX P w) P w K mg base N qual (defScope st) f cdv A outer s H E).env (cxOf (L2N.CX P w) P w K mg base N qual (defScope st) f cdv A outer s H E).xe →
      PXB (cxOf (L2N.CX P w) P w K mg base N qual (defScope st) f cdv A outer s H E) B F0 (wE E) (defBody st) ws)
    (hs : ∀ ds S K KX, sp ds S K KX → ws { nx := fun _ S1 => K (.z .none) S1, rt := K, ex := fun y _ S1 => KX y S1 } (startE N ds) S) : FnOk P w K mg base (L2N.CX P w) (k + 1) f fd ps (spOf sp) := by
  refine okXN F S (fun vs H Q E h => ?_) (fun cdv A outer s H vs Q E hr h => ?_)
  · obtain ⟨B, F0, w', ds, K', KX, _, r, h, _⟩ := h
    rw [← r.length]
    exact hl _ _ _ _ h
  · obtain ⟨B, F0, w', ds, K', KX, R, r, h, k', kx⟩ := h
    refine ⟨_, hb cdv A outer s H E B F0 hr (L2N.takes_of rfl rfl rfl rfl) (passes_of rfl), w', _, _, R, startE_ok r, hs _ _ _ _ h, ⟨fun env S σ H μ F R X _ q => ?_, k', fun _ _ _ _ _ _ _ _ _ q => q.elim, fun _ _ _ _ _ _ _ _ _ q => q.elim, fun y env S σ H μ F cls dd R X _ r q => ?_⟩⟩
    · exact k' _ _ _ _ _ _ R X (.z .non) q
    · exact kx y S H μ F cls dd R X r q

mutual
inductive Vz (S : Sto) : D → PyData → Prop
  | z {d : PyData} : Vz S (.z d) d
  | r {n : Nat} {ds : List D} {es : List PyData} : S[n]? = some (.lst ds) → Vzs S ds es → Vz S (.r n) (.list es)
  | t {ds : List D} {es : List PyData} : Vzs S ds es → Vz S (.t ds) (.tuple es)
inductive Vzs (S : Sto) : List D → List PyData → Prop
  | nil : Vzs S [] []
  | cons {d : D} {ds : List D} {e : PyData} {es : List PyData} : Vz S d e → Vzs S ds es → Vzs S (d :: ds) (e :: es)
end
theorem Vzs.zs {S : Sto} : ∀ (ds : List PyData), Vzs S (ds.map .z) ds
  | [] => .nil
  | d :: ds => .cons .z (Vzs.zs ds)
open Classical in
noncomputable def fz (μ : Nat → Addr) (n : Nat) (F H : Hp) : Hp := fun a => match F a with
  | some o => some o
  | none => if ∃ i, i < n ∧ μ i = a then H a else none
section
variable {B F0 F F' H H' : Hp} {μ μ' : Nat → Addr} {S S' : Sto}
theorem fz_sub : Sub F (fz μ S.length F H) := fun a o h => by unfold fz; rw [h]
theorem fz_at {i : Nat} (hi : i < S.length) (hF : F (μ i) = none) : fz μ S.length F H (μ i) = H (μ i) := by
  unfold fz; rw [hF]; exact if_pos ⟨i, hi, rfl⟩
theorem fz_cases {a : Addr} {o : HO} (h : fz μ S.length F H a = some o) : F a = some o ∨ (F a = none ∧ (∃ i, i < S.length ∧ μ i = a) ∧ H a = some o) := by
  unfold fz at h
  split at h
  · rename_i e; cases h; exact .inl e
  · rename_i e
    by_cases c : ∃ i, i < S.length ∧ μ i = a
    · exact .inr ⟨e, c, (if_pos c).symm.trans h⟩
    · rw [if_neg c] at h; cases h
mutual
theorem Vz.rp (R : Rl B F0 μ S F H) : ∀ (e : PyData) (d : D) (v : V), Vz S d e → RpD B F μ S.length d v → RpT (LF (fz μ S.length F H)) (TF (fz μ S.length F H)) e v
  | .none, _, _, w, h => by cases w with | z => cases h with | z a => cases a; exact .non
  | .bool _, _, _, w, h => by cases w with | z => cases h with | z a => cases a; exact .bl _
  | .int _, _, _, w, h => by cases w with | z => cases h with | z a => cases a; exact .int _
  | .str _, _, _, w, h => by cases w with | z => cases h with | z a => cases a; exact .str _
  | .dict _, _, _, w, h => by cases w with | z => cases h with | z a => cases a
  | .list es, _, _, w, h => by
    cases w with
    | z => cases h with | z a => exact RpT.mono (fun _ _ q => fz_sub _ _ q) (fun _ _ q => fz_sub _ _ q) _ _ a
    | r e ws =>
      cases h with
      | r hi =>
        obtain ⟨vs, hv, rv⟩ := R.ob _ _ e
        exact .lst (show fz μ S.length F H _ = _ by rw [fz_at hi (R.nf _ hi)]; exact hv) (Vzs.rp R es _ vs ws rv)
  | .tuple es, _, _, w, h => by
    cases w with
    | z => cases h with | z a => exact RpT.mono (fun _ _ q => fz_sub _ _ q) (fun _ _ q => fz_sub _ _ q) _ _ a
    | t ws => cases h with | t e rv => exact .tup (fz_sub _ _ e) (Vzs.rp R es _ _ ws rv)
theorem Vzs.rp (R : Rl B F0 μ S F H) : ∀ (es : List PyData) (ds : List D) (vs : List V), Vzs S ds es → RpDs B F μ S.length ds vs → RpTs (LF (fz μ S.length F H)) (TF (fz μ S.length F H)) es vs
  | [], _, _, w, h => by cases w; cases h; exact .nil
  | e :: es, _, _, w, h => by
    cases w with | cons a b => cases h with | cons r s => exact .cons (Vz.rp R e _ _ a r) (Vzs.rp R es _ _ b s)
end
theorem Rl.back (R : Rl B F0 μ S F H) (R' : Rl H F μ' S' F' H') (x : Sub F F') : Rl B F0 μ S (fz μ' S'.length F' H') H' ∧ Xt μ S F μ S (fz μ' S'.length F' H') := by
  have s1 : Sub F (fz μ' S'.length F' H') := x.trans fz_sub
  refine ⟨⟨R.bh.trans R'.bh, fun a o h => ?_, R.f0.trans s1, fun a o h => ?_, R.inj, R.nb, fun i hi => ?_, fun i o h => ?_⟩, ⟨s1, Nat.le_refl _, fun _ _ => rfl⟩⟩
  · rcases fz_cases h with h | ⟨_, _, h⟩
    · exact R'.fh a o h
    · exact h
  · rcases fz_cases h with h | ⟨_, ⟨i, hi, rfl⟩, _⟩
    · rcases R'.fn a o h with q | q
      · exact R.fn a o q
      · exact .inr (R.bh.non q)
    · exact .inr (R.bh.non (R'.nb i hi))
  · obtain ⟨u, hu⟩ := R.has hi
    cases q : fz μ' S'.length F' H' (μ i) with
    | none => rfl
    | some o =>
      rcases fz_cases q with h | ⟨_, ⟨j, hj, e⟩, _⟩
      · rcases R'.fn _ o h with q | q
        · rw [R.nf i hi] at q; cases q
        · rw [hu] at q; cases q
      · have := R'.nb j hj
        rw [e, hu] at this; cases this
  · obtain ⟨u, hu⟩ := R.has (Rl.lt h)
    exact (R.ob i o h).mono s1 (Nat.le_refl _) (fun _ _ => rfl) ((R'.bh _ _ hu).trans hu.symm)
end
def ExV (S : Sto) (x x' : Ex) : Prop := x'.c = x.c ∧ match x.fs, x'.fs with
  | none, none => True
  | some fs, some gs => Paired (fun (p q : Str × D) => p.1 = q.1 ∧ ∃ e, Vz S p.2 e ∧ q.2 = .z e) fs gs
  | _, _ => False
abbrev Fsp := List PyData → (PyData → Prop) → (Ex → Prop) → Prop
def frz (p : Fsp) : Spc := fun ds S K KX => ∃ es, Vws S ds es ∧ p es (fun d => K (.z d) S) fun x => KX x S
def lent (p : Fsp) : Spc := fun ds S K KX => ∃ es kd kx, ds = es.map bz ∧ S = [] ∧ p es kd kx ∧ (∀ d S' e, Vz S' d e → kd e → K d S') ∧ ∀ x S' x', ExV S' x x' → kx x' → KX x S'
theorem FnOk.frz {P : Program} {w : World} {K : PySem.W.Frag} {mg : Str → Option Value} {base : Heap} {CX : CXT} {k : Nat} {f : Addr} {fd : FuncData} {ps : List Str} {p : Fsp} (h : FnOk P w K mg base CX k f fd ps (spOf (lent p))) : FnOk P w K mg base CX k f fd ps (spOf (PL.frz p)) := by
  refine h.imp fun vs H Q E q => ?_
  obtain ⟨B, F0, w, ds, K, KX, R, r, ⟨es, vw, q⟩, k, kx⟩ := q
  have R0 : Rl H w.F w.μ [] w.F H := ⟨Sub.refl _, R.fh, Sub.refl _, fun a o e => .inl e, fun i j hi => absurd hi (Nat.not_lt_zero _), fun i hi => absurd hi (Nat.not_lt_zero _), fun i hi => absurd hi (Nat.not_lt_zero _), fun i o e => by simp at e⟩
  refine ⟨H, w.F, ⟨w.μ, [], w.F⟩, es.map bz, fun d S' => ∃ e, Vz S' d e ∧ K (.z e) w.S, fun x S' => ∃ x', ExV S' x x' ∧ KX x' w.S, R0, RpDs.bzs (Vws.rp R _ _ _ vw r), ⟨es, _, _, rfl, rfl, q, fun d S' e a b => ⟨e, a, b⟩, fun x S' x' a b => ⟨x', a, b⟩⟩, ?_, ?_⟩
  · rintro d S' v H' μ' F' R' X' r' ⟨e, he, hk⟩
    obtain ⟨R2, X2⟩ := R.back R' X'.f
    exact k _ _ _ _ _ _ R2 X2 (.z (Vz.rp R' e d v he r')) hk
  · rintro x S' H' μ' F' cls dd R' X' r' ⟨x', ⟨hc, hf⟩, hk⟩
    obtain ⟨R2, X2⟩ := R.back R' X'.f
    refine kx x' _ _ _ _ cls dd R2 X2 ⟨by rw [hc]; exact r'.1, ?_⟩ hk
    obtain ⟨_, r2⟩ := r'
    cases h1 : x.fs with
    | none =>
      cases h2 : x'.fs with
      | none => rw [h1] at r2; exact r2
      | some gs => rw [h1, h2] at hf; exact hf.elim
    | some fs =>
      cases h2 : x'.fs with
      | none => rw [h1, h2] at hf; exact hf.elim
      | some gs =>
        rw [h1] at r2
        rw [h1, h2] at hf
        obtain ⟨a, ws, e1, e2, e3⟩ := r2
        refine ⟨a, ws, e1, fz_sub _ _ e2, ?_⟩
        clear e2 h1 h2
        induction hf generalizing ws with
        | nil => cases e3; exact .nil
        | cons q t ih =>
          cases e3 with
          | cons r1 r2 =>
            obtain ⟨n1, e, ve, q2⟩ := q
            refine .cons ⟨n1.symm.trans r1.1, ?_⟩ (ih _ r2)
            rw [q2]
            exact .z (Vz.rp R' e _ _ ve r1.2)
end PL

set_option Elab.async false
set_option linter.all false
set_option maxRecDepth 100000
namespace PL
open PySem L2

structure Fc (P : Program) (w : World) (K : PySem.W.Frag) (mg : Str → Option Value) (base : Heap) (x : Str) (k : Nat) (ps : List Str) (sp : Spc) : Prop where
  ex : ∃ (f : Addr) (fd : FuncData), FnOk P w K mg base (L2N.CX P w) k f fd ps (spOf sp) ∧ mg x = some (.ref f) ∧ PySem.W.keepIn K (.ref f) = true ∧ Binds K fd ps []
theorem Fc.frz {P : Program} {w : World} {K : PySem.W.Frag} {mg : Str → Option Value} {base : Heap} {x : Str} {k : Nat} {ps : List Str} {p : Fsp} (c : Fc P w K mg base x k ps (lent p)) : Fc P w K mg base x k ps (PL.frz p) := by
  obtain ⟨f, fd, h, r⟩ := c.ex
  exact ⟨f, fd, FnOk.frz h, r⟩
section
variable {X : Cx} {B F0 : Hp} {W : WX} {e : Expr} {es : List Expr} {wa : WA} {x : Str} {p pos : Pos} {k : Nat} {ps : List Str} {sp : Spc}
theorem xfc (c : Fc X.prog X.w X.K X.mg X.base x k ps sp) (hr : Room k X.A) (tk : L2N.Takes X W) (hg : Gl X x) (ha : PXA X B F0 W (e :: es) wa)
    (hdb : (x == ("__debug__" : Str)) = false := by decide) (he : starEach (e :: es) X.env = (false, eval e X.env) :: starEach es X.env := by rfl) (hpl : (backTo pos (starEach es X.env)).any (·.1) = false := by rfl) : PX X B F0 W (.Call (.Name x p) (e :: es) [] pos) (wFn sp [] wa) := by
  obtain ⟨f, fd, h, hm, hk, hb⟩ := c.ex
  exact xcall h hr hg hm hk hb dft0 tk ha hdb he hpl
def wTy (T : Ty) : WE := fun _ S K _ => K (.y T) S
theorem xty {T : Ty} (hg : Gl X x) (hm : X.mg x = none) (hv : bootBuiltins x = some (.type T.s)) (hn : x ≠ "__name__" := by decide) (hd : (x == ("__debug__" : Str)) = false := by decide) : PX X B F0 W (.Name x pos) (wTy T) :=
  wkE (pe_bltn (v := .ty T.s) hg hm hv rfl hn hd) fun σ H Q h => by
    obtain ⟨w, env, K, KX, R, E, h, k, _⟩ := h
    exact k _ w.S _ H w.μ w.F R .refl .y h
end
theorem bb_len : bootBuiltins "len" = some (.builtin "len") := by decide +kernel
theorem bb_isinstance : bootBuiltins "isinstance" = some (.builtin "isinstance") := by decide +kernel
theorem bb_sorted : bootBuiltins "sorted" = some (.builtin "sorted") := by decide +kernel
theorem bb_list : bootBuiltins "list" = some (.type "list") := by decide +kernel
theorem bb_tuple : bootBuiltins "tuple" = some (.type "tuple") := by decide +kernel
theorem bb_int : bootBuiltins "int" = some (.type "int") := by decide +kernel
theorem bb_str : bootBuiltins "str" = some (.type "str") := by decide +kernel
theorem bb_bool : bootBuiltins "bool" = some (.type "bool") := by decide +kernel
def wDic : WE := fun _ S K _ => K (.r S.length) (S ++ [.dic []])
section
variable {X : Cx} {B F0 : Hp} {W : WX} {pos : Pos}
theorem xdic : PX X B F0 W (.Dict [] [] pos) wDic := wkE pe_dnewK fun σ H Q h p hp => by
  obtain ⟨w, env, K, KX, R, E, h, k, _⟩ := h
  obtain ⟨R2, X2⟩ := R.grow (u := .dK []) (o := .dic []) hp fun G hG => ⟨[], hG, .nil⟩
  have e : muX w.μ w.S.length p w.S.length = p := by unfold muX; rw [if_pos rfl]
  have q : RpD B w.F (muX w.μ w.S.length p) (w.S ++ [Ob.dic []]).length (.r w.S.length) (.ref (muX w.μ w.S.length p w.S.length)) := .r (by simp)
  rw [e] at q
  exact k _ _ _ _ _ _ R2 X2 q h
end
def noLs (K : PySem.W.Frag) : Bool := K.all fun p => match p.2.cls with
  | .type n => n != "list"
  | _ => true
theorem lk_mem {β : Type} {a : Nat} {b : β} : ∀ {l : List (Nat × β)}, l.lookup a = some b → (a, b) ∈ l
  | [], h => by simp at h
  | (k, v) :: l, h => by
    by_cases e : a = k
    · subst e; simp at h; subst h; exact List.mem_cons_self
    · have : (a == k) = false := beq_eq_false_iff_ne.mpr e
      simp only [List.lookup_cons, this] at h
      exact List.mem_cons_of_mem _ (lk_mem h)
theorem noLs_ok {K : PySem.W.Frag} (h : noLs K = true) {a : Addr} {o : Obj} (e : K.lookup a = some o) : o.cls ≠ .type "list" := by
  unfold noLs at h
  have hm : (a, o) ∈ K := lk_mem e
  have q := List.all_eq_true.mp h _ hm
  intro z
  simp only [z] at q
  exact absurd q (by decide)
def lawSp : Spc := fun ds S K _ => ∃ ns : List Int, ds = [.b (.list (ns.map .int))] ∧ S = [] ∧ ns.length ≤ 63 ∧ ∀ S', K (.z (.bool true)) S'
def spLawP (K : PySem.W.Frag) : Sp := fun vs H Q _ => ∃ (a : Addr) (ns : List Int), vs = [.ref a] ∧ SqL K H a (ns.map V.int) ∧ ns.length ≤ 63 ∧ ∀ H', Q (.bl true) H'
theorem law_imp {P : Program} {w : World} {K : PySem.W.Frag} {mg : Str → Option Value} {base : Heap} {CX : CXT} {k : Nat} {f : Addr} {fd : FuncData} {ps : List Str} (hK : noLs K = true) (h : FnOk P w K mg base CX k f fd ps (spOf lawSp)) : FnOk P w K mg base CX k f fd ps (spLawP K) := by
  refine h.imp fun vs H Q E q => ?_
  obtain ⟨a, ns, rfl, hs, hl, q⟩ := q
  have hr : Rd H a (.lst (ns.map V.int)) := by
    rcases hs with hs | ⟨o, its, n, e, hc, _⟩
    · exact hs
    · exact absurd hc (noLs_ok hK e)
  have R0 : Rl H (fun _ => none) (fun i => i) [] (fun _ => none) H := ⟨Sub.refl _, fun a o e => (by cases e), Sub.refl _, fun a o e => (by cases e), fun i j hi => absurd hi (Nat.not_lt_zero _), fun i hi => absurd hi (Nat.not_lt_zero _), fun i hi => absurd hi (Nat.not_lt_zero _), fun i o e => (by simp at e)⟩
  have allI : ∀ ns : List Int, RpTs (LB H fun _ => none) (TF fun _ => none) (ns.map .int) (ns.map V.int) := fun ns => by
    induction ns with
    | nil => exact .nil
    | cons n ns ih => exact .cons (.int n) ih
  refine ⟨H, _, ⟨fun i => i, [], fun _ => none⟩, _, fun d _ => d = .z (.bool true), fun _ _ => False, R0, .cons (.b (.lst (.inr hr) (allI ns))) .nil, ⟨ns, rfl, rfl, hl, fun _ => rfl⟩, fun d S v H' μ F R X r e => ?_, fun _ _ _ _ _ _ _ _ _ _ h => h.elim⟩
  subst e
  cases r with | z q1 => cases q1; exact q _
def pNeg : P1 := fun x S K => match x with
  | .z (.int i) => K (.z (.int (-i))) S
  | _ => False
section
variable {X : Cx} {B F0 : Hp} {W : WX} {a : Expr} {wa : WE} {pos : Pos} {p : P1} {x : Str}
theorem xun {op : UnaryOp} (ho : UnR X (unaryOp op) (r1 B F0 p)) (ha : PX X B F0 W a wa) : PX X B F0 W (.UnaryOp op a pos) (w1 p wa) := wkE (pe_un ho ha) fun σ H Q h => by
  obtain ⟨w, env, K, KX, R, E, h, k, kx⟩ := h
  exact ⟨w, env, _, KX, R, E, h, fun d S1 v H1 μ1 F1 R1 X1 q1 h1 => ⟨⟨μ1, S1, F1⟩, d, K, R1, q1, h1, k.xt X1⟩, kx⟩
theorem oNeg : UnR X (unaryOp .USub) (r1 B F0 pNeg) := by
  intro pins s σ H v u Q I rx h
  obtain ⟨w, d, K, R, q, h, k⟩ := h
  unfold pNeg at h
  split at h
  · rw [rpInt q] at rx
    exact un_neg pins s σ H _ u Q I rx ⟨_, rfl, k.int R h⟩
  · exact h.elim
theorem xgS {z : Str} (hg : Gl X x) (h : ∃ t, X.mg x = some (.str z t)) (hdb : (x == ("__debug__" : Str)) = false := by decide) : PX X B F0 W (.Name x pos) (wC (.str z)) := by
  obtain ⟨t, e⟩ := h
  exact xglob (v := .str z) hg e ⟨t, rfl⟩ (fun _ _ => .str z) hdb
theorem xgI {z : Int} (hg : Gl X x) (h : ∃ t, X.mg x = some (.int z t)) (hdb : (x == ("__debug__" : Str)) = false := by decide) : PX X B F0 W (.Name x pos) (wC (.int z)) := by
  obtain ⟨t, e⟩ := h
  exact xglob (v := .int z) hg e ⟨t, rfl⟩ (fun _ _ => .int z) hdb
end
end PL

set_option Elab.async false
set_option linter.all false
set_option maxRecDepth 100000
namespace PL
open PySem L2

def fsp {α : Type} (enc : α → List PyData) (pre : α → Prop) (out : α → PyData) : Fsp := fun es k _ => ∃ a, es = enc a ∧ pre a ∧ k (out a)
theorem fsp_len {α : Type} {enc : α → List PyData} {pre : α → Prop} {out : α → PyData} {n : Nat} (h : ∀ a, (enc a).length = n) : ∀ ds S K KX, lent (fsp enc pre out) ds S K KX → ds.length = n := by
  rintro ds S K KX ⟨es, kd, kx, rfl, rfl, ⟨a, rfl, _, _⟩, _⟩
  rw [List.length_map]; exact h a
abbrev ends (K : K1) (KX : KF) : KS := { nx := fun _ S1 => K (.z .none) S1, rt := K, ex := fun y _ S1 => KX y S1 }
theorem fsp_ok {α : Type} {enc : α → List PyData} {pre : α → Prop} {out : α → PyData} {ws : WS} {N : List Str} (h : ∀ a, pre a → ∀ K KX, (∀ d S', Vz S' d (out a) → K d S') → ws (ends K KX) (startE N ((enc a).map bz)) []) :
    ∀ ds S K KX, lent (fsp enc pre out) ds S K KX → ws { nx := fun _ S1 => K (.z .none) S1, rt := K, ex := fun y _ S1 => KX y S1 } (startE N ds) S := by
  rintro ds S K KX ⟨es, kd, kx, rfl, rfl, ⟨a, rfl, hp, hk⟩, hK, _⟩
  exact h a hp K KX fun d S' v => hK d S' _ v hk
theorem fsp_call {α : Type} {enc : α → List PyData} {pre : α → Prop} {out : α → PyData} {ds : List D} {S : Sto} {K : K1} {KX : KF} (a : α) (v : Vws S ds (enc a)) (hp : pre a) (h : K (.z (out a)) S) : pCall (frz (fsp enc pre out)) ds S K KX := pCall.mk ⟨_, v, a, rfl, hp, h⟩
theorem sz_le {n : Nat} (h : Nat.ble n 1000 = true) : n ≤ sizeLine := Nat.le_trans (Nat.le_of_ble_eq_true h) (by decide)
theorem sz_lt {n : Nat} (h : Nat.ble n 1000 = true) : n < sizeLine := Nat.lt_of_le_of_lt (Nat.le_of_ble_eq_true h) (by decide)
theorem sz_le6 {n : Nat} (h : n ≤ 1000000) : n ≤ sizeLine := Nat.le_trans h (by decide)
theorem sz_lt6 {n : Nat} (h : n ≤ 1000000) : n < sizeLine := Nat.lt_of_le_of_lt h (by decide)
theorem atD_in {α : Type} {xs : List α} {i : Int} (h0 : 0 ≤ i) (h1 : i < xs.length) : atD xs i = some (xs[i.toNat]'(by omega)) := by
  obtain ⟨j, rfl⟩ : ∃ j : Nat, i = (j : Int) := ⟨i.toNat, by omega⟩
  show xs[j]? = _
  have hj : j < xs.length := by omega
  rw [List.getElem?_eq_getElem hj]
  rfl
theorem atD_nat {α : Type} {xs : List α} {j : Nat} {x : α} (h : xs[j]? = some x) : atD xs (j : Int) = some x := h
theorem atD_map {α β : Type} (f : α → β) (xs : List α) (i : Int) : atD (xs.map f) i = (atD xs i).map f := by
  cases i with
  | ofNat k => show (xs.map f)[k]? = (xs[k]?).map f; rw [List.getElem?_map]
  | negSucc k =>
    rw [atD_neg, atD_neg, List.length_map]
    split
    · rw [List.getElem?_map]
    · rfl
theorem ixD_bL {α : Type} {S : Sto} {f : α → PyData} {xs : List α} {i : Int} {x : α} (h : atD xs i = some x) : ixD S (.b (.list (xs.map f))) i = some (bz (f x)) := by
  show (atD (xs.map f) i).map bz = _
  rw [atD_map, h]; rfl
theorem ixD_zL {α : Type} {S : Sto} {f : α → PyData} {xs : List α} {i : Int} {x : α} (h : atD xs i = some x) : ixD S (.z (.list (xs.map f))) i = some (.z (f x)) := by
  show (atD (xs.map f) i).map D.z = _
  rw [atD_map, h]; rfl
theorem bz_flat {d : PyData} (h : flatT d = true) : bz d = .z d := by unfold bz; rw [if_pos h]
theorem bz_list {ds : List PyData} : bz (.list ds) = .b (.list ds) := by unfold bz; rw [if_neg (by simp [flatT])]

theorem pLc_map {α : Type} {src : Src} {tg : D → Env → Option Env} {wt : WT} {we : WE} {env : Env} {fin : Sto → Prop} {S : Sto} {xs : List α} (it f : α → D) (t : α → Bool) (hz : xs.length < 1000000) (hok : ∀ acc, src.ok (S ++ [.lst acc]))
    (ht : ∀ x ∈ xs, ∃ env2, tg (it x) env = some env2 ∧ (∀ (S1 : Sto) (K : Bool → Sto → Prop), (∃ acc, S1 = S ++ [.lst acc]) → K (t x) S1 → wt env2 S1 K X0) ∧ (t x = true → ∀ (S1 : Sto) (K : K1), (∃ acc, S1 = S ++ [.lst acc]) → K (f x) S1 → we env2 S1 K X0))
    (hf : fin (S ++ [.lst ((xs.filter t).map f)])) : pLc src tg wt we S.length env fin (xs.map it) (S ++ [.lst []]) := by
  have go : ∀ (done rest : List α), xs = done ++ rest → pLc src tg wt we S.length env fin (rest.map it) (S ++ [.lst ((done.filter t).map f)]) := by
    intro done rest
    induction rest generalizing done with
    | nil =>
      intro e
      rw [List.append_nil] at e
      subst e
      rw [List.map_nil, pLc.nil]
      exact ⟨hok _, hf⟩
    | cons d ds ih =>
      intro e
      rw [List.map_cons, pLc.cons]
      have hm : d ∈ xs := by rw [e]; simp
      obtain ⟨env2, h1, h2, h3⟩ := ht d hm
      refine ⟨hok _, pGet.mk h1 (h2 _ _ ⟨_, rfl⟩ (pIf.mk (fun c => ?_) fun c => ?_))⟩
      · refine h3 c _ _ ⟨_, rfl⟩ (pGet.mk (x := (done.filter t).map f) ?_ (pReq.mk ?_ ?_))
        · unfold lsR; simp
        · have h4 := List.length_filter_le t done
          have h5 : xs.length = done.length + (ds.length + 1) := by rw [e]; simp
          have h6 : ((done.filter t).map f).length < 1000000 := by rw [List.length_map]; omega
          exact Nat.lt_of_lt_of_le h6 (by rw [sizeLine_eq]; decide)
        · have ih2 := ih (done ++ [d]) (by rw [e]; simp)
          have es : (S ++ [Ob.lst ((done.filter t).map f)]).set S.length (.lst ((done.filter t).map f ++ [f d])) = S ++ [.lst (((done ++ [d]).filter t).map f)] := by
            simp [List.filter_append, c]
          rw [es]; exact ih2
      · have ih2 := ih (done ++ [d]) (by rw [e]; simp)
        have es : (done ++ [d]).filter t = done.filter t := by simp [List.filter_append, c]
        rw [es] at ih2
        exact ih2
  exact go [] xs rfl
theorem pLc_all {α : Type} {src : Src} {tg : D → Env → Option Env} {we : WE} {env : Env} {fin : Sto → Prop} {S : Sto} {xs : List α} (it f : α → D) (hz : xs.length < 1000000) (hok : ∀ acc, src.ok (S ++ [.lst acc]))
    (he : ∀ x ∈ xs, ∃ env2, tg (it x) env = some env2 ∧ ∀ (S1 : Sto) (K : K1), (∃ acc, S1 = S ++ [.lst acc]) → K (f x) S1 → we env2 S1 K X0)
    (hf : fin (S ++ [.lst (xs.map f)])) : pLc src tg wYes we S.length env fin (xs.map it) (S ++ [.lst []]) := by
  refine pLc_map it f (fun _ => true) hz hok (fun d hd => ?_) (by rw [List.filter_eq_self.mpr fun _ _ => rfl]; exact hf)
  obtain ⟨env2, h1, h2⟩ := he d hd
  exact ⟨env2, h1, fun S1 K _ h => h, fun _ => h2⟩
theorem pLc_rg {lo : Int} {n : Nat} {tg : D → Env → Option Env} {we : WE} {env : Env} {fin : Sto → Prop} {S : Sto} (f : Nat → D) (hz : n < 1000000)
    (he : ∀ i, i < n → ∃ env2, tg (.z (.int (lo + (i : Int)))) env = some env2 ∧ ∀ (S1 : Sto) (K : K1), (∃ acc, S1 = S ++ [.lst acc]) → K (f i) S1 → we env2 S1 K X0)
    (hf : fin (S ++ [.lst ((List.range n).map f)])) : pLc (rgD lo n) tg wYes we S.length env fin (rgD lo n).items (S ++ [.lst []]) :=
  pLc_all (xs := List.range n) (fun i => .z (.int (lo + (i : Int)))) f (by rw [List.length_range]; exact hz) (fun _ => trivial) (fun i hi => he i (List.mem_range.mp hi)) hf
theorem pFor_each {src : Src} {g : WG} {body : WS} {k : KS} {items : List D} {env : Env} {S : Sto} (I : Nat → Env → Sto → Prop) (h0 : I 0 env S) (hok : ∀ i env S, i ≤ items.length → I i env S → src.ok S)
    (hs : ∀ i d env S (Q : Env → Sto → Prop), items[i]? = some d → I i env S → (∀ env' S', I (i + 1) env' S' → Q env' S') → g d env S fun env1 S1 => body { k with nx := Q, ct := Q, bk := k.nx } env1 S1)
    (hd : ∀ env S, I items.length env S → k.nx env S) : pFor src g body k items env S := by
  have go : ∀ (rest : List D) (i : Nat) env S, items.drop i = rest → i ≤ items.length → I i env S → pFor src g body k rest env S := by
    intro rest
    induction rest with
    | nil =>
      intro i env S e hi h
      rw [pFor.nil]
      have : i = items.length := by
        have := congrArg List.length e
        rw [List.length_drop] at this
        simp at this
        omega
      subst this
      exact ⟨hok _ _ _ (Nat.le_refl _) h, hd _ _ h⟩
    | cons d ds ih =>
      intro i env S e hi h
      rw [pFor.cons]
      have hlt : i < items.length := by
        have := congrArg List.length e
        rw [List.length_drop] at this
        simp at this
        omega
      have hget : items[i]? = some d := by
        have := congrArg (fun l => l[0]?) e
        simpa using this
      exact ⟨hok _ _ _ hi h, hs i d env S _ hget h fun env' S' h' => ih (i + 1) env' S' (by rw [← List.drop_drop, e]; rfl) hlt h'⟩
  exact go _ 0 env S rfl (Nat.zero_le _) h0
theorem pFor_range {lo : Int} {n : Nat} {g : WG} {body : WS} {k : KS} {env : Env} {S : Sto} (I : Nat → Env → Sto → Prop) (h0 : I 0 env S)
    (hs : ∀ (i : Nat) env S (Q : Env → Sto → Prop), i < n → I i env S → (∀ env' S', I (i + 1) env' S' → Q env' S') → g (.z (.int (lo + (i : Int)))) env S fun env1 S1 => body { k with nx := Q, ct := Q, bk := k.nx } env1 S1)
    (hd : ∀ env S, I n env S → k.nx env S) : pFor (rgD lo n) g body k (rgD lo n).items env S := by
  have hl : (rgD lo n).items.length = n := by simp [rgD]
  refine pFor_each I h0 (fun _ _ _ _ _ => trivial) (fun i d env S Q hi h hQ => ?_) (fun env S h => hd env S (by rw [hl] at h; exact h))
  have hlt : i < n := by
    have := (List.getElem?_eq_some_iff.mp hi).1
    rw [hl] at this; exact this
  have : d = .z (.int (lo + (i : Int))) := by
    have e : (rgD lo n).items[i]? = some (.z (.int (lo + (i : Int)))) := by
      show ((List.range n).map _)[i]? = _
      rw [List.getElem?_map, List.getElem?_range hlt]; rfl
    exact Option.some.inj (hi.symm.trans e)
  subst this
  exact hs i env S Q hlt h hQ
theorem pWhile_by {t : WT} {body : WS} {k : KS} {env : Env} {S : Sto} (P : Nat → Env → Sto → Prop) (m : Nat) (h0 : P m env S)
    (hs : ∀ m env S (Q : Env → Sto → Prop), P m env S → (∀ m' env' S', m' < m → P m' env' S' → Q env' S') → t env S (fun b S1 => pIf b (body { k with nx := Q, ct := Q, bk := k.nx } env S1) (k.nx env S1)) k.ex) : pWhile t body k env S := by
  exact ⟨⟨P, ⟨m, h0⟩, fun m env S h => hs m env S _ h fun m' env' S' hm h' => ⟨m', hm, h'⟩⟩⟩
theorem sto_last {S : Sto} {o : Ob} : (S ++ [o])[S.length]? = some o := by simp
theorem sto_app {S T : Sto} {n : Nat} {o : Ob} (h : S[n]? = some o) : (S ++ T)[n]? = some o := by
  rw [List.getElem?_append_left (List.getElem?_eq_some_iff.mp h).1]; exact h
theorem lsD_at {S : Sto} {n : Nat} {ds : List D} (h : S[n]? = some (.lst ds)) : lsD S (.r n) = some ds := by
  show (match S[n]? with | some (.lst ds) => some ds | _ => none) = some ds
  rw [h]
theorem lsR_at {S : Sto} {n : Nat} {ds : List D} (h : S[n]? = some (.lst ds)) : lsR S n = some ds := by unfold lsR; rw [h]
theorem lenD_at {S : Sto} {n : Nat} {ds : List D} (h : S[n]? = some (.lst ds)) : lenD S (.r n) = some ds.length := by
  show (match S[n]? with | some (.lst ds) => some ds.length | some (.dic kvs) => some kvs.length | _ => none) = some ds.length
  rw [h]
theorem Vzs.map {S : Sto} {α : Type} (f : α → PyData) : ∀ xs : List α, Vzs S (xs.map fun x => .z (f x)) (xs.map f)
  | [] => .nil
  | x :: xs => .cons .z (Vzs.map f xs)
theorem Vws.map {S : Sto} {α : Type} (f : α → PyData) : ∀ xs : List α, Vws S (xs.map fun x => .z (f x)) (xs.map f)
  | [] => .nil
  | x :: xs => .cons .z (Vws.map f xs)
theorem range_snoc {α : Type} (f : Nat → α) (n : Nat) : (List.range (n + 1)).map f = (List.range n).map f ++ [f n] := by rw [List.range_succ, List.map_append]; rfl
end PL

set_option Elab.async false
set_option linter.all false
set_option maxRecDepth 100000
namespace PL
open PySem L2

def Shp (n : Nat) (d : PyData) : Prop := d.canLay0 = true ∧ d.depth ≤ n
theorem Shp.ok {n : Nat} {d : PyData} (h : Shp n d) (hn : n ≤ 64 := by decide) : SeqAt.shaped d = true := by
  unfold SeqAt.shaped
  rw [h.1, decide_eq_true (Nat.le_trans h.2 hn)]; rfl
theorem Shp.refl {n : Nat} {d : PyData} (h : Shp n d) : PyData.eqv d d = true := SeqAt.eqv_refl d h.1
theorem Shp.mono {n m : Nat} {d : PyData} (h : Shp n d) (hm : n ≤ m) : Shp m d := ⟨h.1, Nat.le_trans h.2 hm⟩
theorem Shp.int {n : Nat} {i : Int} : Shp n (.int i) := ⟨by simp [PyData.canLay0], by simp [PyData.depth]⟩
theorem Shp.bool {n : Nat} {i : Bool} : Shp n (.bool i) := ⟨by simp [PyData.canLay0], by simp [PyData.depth]⟩
theorem Shp.none {n : Nat} : Shp n .none := ⟨by simp [PyData.canLay0], by simp [PyData.depth]⟩
theorem Shp.str {n : Nat} {x : Str} (h : PyData.strOk x = true) : Shp n (.str x) := ⟨by simpa [PyData.canLay0] using h, by simp [PyData.depth]⟩
theorem shpAll {n : Nat} : ∀ {ds : List PyData}, (∀ d ∈ ds, Shp n d) → PyData.canLayAll0 ds = true ∧ PyData.depthAll ds ≤ n
  | [], _ => ⟨by simp [PyData.canLayAll0], by simp [PyData.depthAll]⟩
  | d :: ds, h => by
    obtain ⟨h1, h2⟩ := shpAll fun e he => h e (List.mem_cons_of_mem _ he)
    have h3 := h d List.mem_cons_self
    refine ⟨by simp [PyData.canLayAll0, h1, h3.1], ?_⟩
    simp only [PyData.depthAll]
    exact Nat.max_le.mpr ⟨h3.2, h2⟩
theorem Shp.list {n : Nat} {ds : List PyData} (h : ∀ d ∈ ds, Shp n d) : Shp (n + 1) (.list ds) := by
  obtain ⟨h1, h2⟩ := shpAll h
  refine ⟨by simpa [PyData.canLay0] using h1, ?_⟩
  simp only [PyData.depth]; omega
theorem Shp.tuple {n : Nat} {ds : List PyData} (h : ∀ d ∈ ds, Shp n d) : Shp (n + 1) (.tuple ds) := by
  obtain ⟨h1, h2⟩ := shpAll h
  refine ⟨by simpa [PyData.canLay0] using h1, ?_⟩
  simp only [PyData.depth]; omega
theorem Shp.lists {α : Type} {n : Nat} {f : α → PyData} {xs : List α} (h : ∀ x ∈ xs, Shp n (f x)) : Shp (n + 1) (.list (xs.map f)) := .list fun d hd => by
  obtain ⟨x, hx, rfl⟩ := List.mem_map.mp hd
  exact h x hx
theorem Shp.tup2 {n : Nat} {a b : PyData} (h1 : Shp n a) (h2 : Shp n b) : Shp (n + 1) (.tuple [a, b]) := .tuple fun d hd => by
  simp only [List.mem_cons, List.not_mem_nil, or_false] at hd
  rcases hd with rfl | rfl <;> assumption
theorem Shp.tup3 {n : Nat} {a b c : PyData} (h1 : Shp n a) (h2 : Shp n b) (h3 : Shp n c) : Shp (n + 1) (.tuple [a, b, c]) := .tuple fun d hd => by
  simp only [List.mem_cons, List.not_mem_nil, or_false] at hd
  rcases hd with rfl | rfl | rfl <;> assumption
theorem Shp.tup4 {n : Nat} {a b c e : PyData} (h1 : Shp n a) (h2 : Shp n b) (h3 : Shp n c) (h4 : Shp n e) : Shp (n + 1) (.tuple [a, b, c, e]) := .tuple fun d hd => by
  simp only [List.mem_cons, List.not_mem_nil, or_false] at hd
  rcases hd with rfl | rfl | rfl | rfl <;> assumption
theorem eq_same {n : Nat} {S : Sto} {x y : D} {d : PyData} {k : Bool → Prop} (h1 : Vw S x d) (h2 : Vw S y d) (hs : Shp n d) (hn : n ≤ 64) (hk : k true) : bEqG x y S k := by
  exact ⟨⟨d, d, h1, h2, hs.ok hn, hs.ok hn, by rw [hs.refl]; exact hk⟩⟩
theorem eq_dec {n : Nat} {S : Sto} {x y : D} {d e : PyData} {k : Bool → Prop} {b : Bool} (h1 : Vw S x d) (h2 : Vw S y e) (hs : Shp n d) (ht : Shp n e) (hn : n ≤ 64) (hb : PyData.eqv d e = b) (hk : k b) : bEqG x y S k := by
  exact ⟨⟨d, e, h1, h2, hs.ok hn, ht.ok hn, by rw [hb]; exact hk⟩⟩
end PL

set_option Elab.async false
set_option linter.all false
set_option maxRecDepth 100000
namespace PL
open PySem L2

inductive RT where
  | z (d : PyData)
  | l (rs : List RT)
  | t (rs : List RT)
mutual
def al : RT → Nat → D × Sto
  | .z d, _ => (.z d, [])
  | .l rs, n => (.r (n + (als rs n).2.length), (als rs n).2 ++ [.lst (als rs n).1])
  | .t rs, n => (.t (als rs n).1, (als rs n).2)
def als : List RT → Nat → List D × Sto
  | [], _ => ([], [])
  | r :: rs, n => ((al r n).1 :: (als rs (n + (al r n).2.length)).1, (al r n).2 ++ (als rs (n + (al r n).2.length)).2)
end
mutual
inductive Vu (S : Sto) (U : List Nat) : D → PyData → Prop
  | z {d : PyData} : Vu S U (.z d) d
  | r {n : Nat} {ds : List D} {es : List PyData} : n ∉ U → S[n]? = some (.lst ds) → Vus S U ds es → Vu S U (.r n) (.list es)
  | t {ds : List D} {es : List PyData} : Vus S U ds es → Vu S U (.t ds) (.tuple es)
inductive Vus (S : Sto) (U : List Nat) : List D → List PyData → Prop
  | nil : Vus S U [] []
  | cons {d : D} {ds : List D} {e : PyData} {es : List PyData} : Vu S U d e → Vus S U ds es → Vus S U (d :: ds) (e :: es)
end
mutual
inductive VR (S : Sto) (U : List Nat) : D → RT → List Nat → Prop
  | z {d : D} {e : PyData} : Vu S U d e → VR S U d (.z e) []
  | l {n : Nat} {ds : List D} {rs : List RT} {ns : List Nat} : S[n]? = some (.lst ds) → VRs S U ds rs ns → VR S U (.r n) (.l rs) (ns ++ [n])
  | t {ds : List D} {rs : List RT} {ns : List Nat} : VRs S U ds rs ns → VR S U (.t ds) (.t rs) ns
inductive VRs (S : Sto) (U : List Nat) : List D → List RT → List Nat → Prop
  | nil : VRs S U [] [] []
  | cons {d : D} {ds : List D} {r : RT} {rs : List RT} {ns ms : List Nat} : VR S U d r ns → VRs S U ds rs ms → VRs S U (d :: ds) (r :: rs) (ns ++ ms)
end
theorem VRs.zs {S : Sto} {U : List Nat} {α : Type} (f : α → PyData) : ∀ xs : List α, VRs S U (xs.map fun x => .z (f x)) (xs.map fun x => .z (f x)) []
  | [] => .nil
  | x :: xs => .cons (ns := []) (.z .z) (VRs.zs f xs)
open Classical in
noncomputable def fu (μ : Nat → Addr) (n : Nat) (U : List Nat) (F H : Hp) : Hp := fun a => match F a with
  | some o => some o
  | none => if ∃ i, i < n ∧ i ∉ U ∧ μ i = a then H a else none
section
variable {B F0 F F' H H' : Hp} {μ μ' μ2 : Nat → Addr} {S S' : Sto} {U : List Nat}
theorem fu_sub : Sub F (fu μ S.length U F H) := fun a o h => by unfold fu; rw [h]
theorem fu_at {i : Nat} (hi : i < S.length) (hu : i ∉ U) (hF : F (μ i) = none) : fu μ S.length U F H (μ i) = H (μ i) := by
  unfold fu; rw [hF]; exact if_pos ⟨i, hi, hu, rfl⟩
theorem fu_cases {a : Addr} {o : HO} (h : fu μ S.length U F H a = some o) : F a = some o ∨ (F a = none ∧ (∃ i, i < S.length ∧ i ∉ U ∧ μ i = a) ∧ H a = some o) := by
  unfold fu at h
  split at h
  · rename_i e; cases h; exact .inl e
  · rename_i e
    by_cases c : ∃ i, i < S.length ∧ i ∉ U ∧ μ i = a
    · exact .inr ⟨e, c, (if_pos c).symm.trans h⟩
    · rw [if_neg c] at h; cases h
mutual
theorem Vu.rp (R : Rl B F0 μ S F H) : ∀ (e : PyData) (d : D) (v : V), Vu S U d e → RpD B F μ S.length d v → RpT (LF (fu μ S.length U F H)) (TF (fu μ S.length U F H)) e v
  | .none, _, _, w, h => by cases w with | z => cases h with | z a => cases a; exact .non
  | .bool _, _, _, w, h => by cases w with | z => cases h with | z a => cases a; exact .bl _
  | .int _, _, _, w, h => by cases w with | z => cases h with | z a => cases a; exact .int _
  | .str _, _, _, w, h => by cases w with | z => cases h with | z a => cases a; exact .str _
  | .dict _, _, _, w, h => by cases w with | z => cases h with | z a => cases a
  | .list es, _, _, w, h => by
    cases w with
    | z => cases h with | z a => exact RpT.mono (fun _ _ q => fu_sub _ _ q) (fun _ _ q => fu_sub _ _ q) _ _ a
    | r nu e ws =>
      cases h with
      | r hi =>
        obtain ⟨vs, hv, rv⟩ := R.ob _ _ e
        exact .lst (show fu μ S.length U F H _ = _ by rw [fu_at hi nu (R.nf _ hi)]; exact hv) (Vus.rp R es _ vs ws rv)
  | .tuple es, _, _, w, h => by
    cases w with
    | z => cases h with | z a => exact RpT.mono (fun _ _ q => fu_sub _ _ q) (fun _ _ q => fu_sub _ _ q) _ _ a
    | t ws => cases h with | t e rv => exact .tup (fu_sub _ _ e) (Vus.rp R es _ _ ws rv)
theorem Vus.rp (R : Rl B F0 μ S F H) : ∀ (es : List PyData) (ds : List D) (vs : List V), Vus S U ds es → RpDs B F μ S.length ds vs → RpTs (LF (fu μ S.length U F H)) (TF (fu μ S.length U F H)) es vs
  | [], _, _, w, h => by cases w; cases h; exact .nil
  | e :: es, _, _, w, h => by
    cases w with | cons a b => cases h with | cons r s => exact .cons (Vu.rp R e _ _ a r) (Vus.rp R es _ _ b s)
end
end
section
variable {B F0 F H H' A : Hp} {μ μ2 : Nat → Addr} {S : Sto} {U : List Nat} {N : Nat}
def Got (B : Hp) (F2 : Hp) (μ μ2 : Nat → Addr) (N : Nat) (H : Hp) (ns : List Nat) (T : Sto) : Prop := T.length = ns.length ∧ ∀ (j n : Nat) (o : Ob), ns[j]? = some n → T[j]? = some o → ObRp B F2 μ2 N H (μ n) o
theorem Got.app {F2 : Hp} {ns ms : List Nat} {T T2 : Sto} (h1 : Got A F2 μ μ2 N H ns T) (h2 : Got A F2 μ μ2 N H ms T2) : Got A F2 μ μ2 N H (ns ++ ms) (T ++ T2) := by
  refine ⟨by simp [h1.1, h2.1], fun j n o hn ho => ?_⟩
  by_cases hj : j < ns.length
  · rw [List.getElem?_append_left hj] at hn
    rw [List.getElem?_append_left (by rw [h1.1]; exact hj)] at ho
    exact h1.2 j n o hn ho
  · rw [List.getElem?_append_right (by omega)] at hn
    rw [List.getElem?_append_right (by rw [h1.1]; omega), h1.1] at ho
    exact h2.2 _ n o hn ho
mutual
theorem VR.rp (R : Rl B F0 μ S F H) : ∀ (rt : RT) (d : D) (v : V) (ns : List Nat) (m : Nat), VR S U d rt ns → RpD B F μ S.length d v → (∀ j n, ns[j]? = some n → μ2 (m + j) = μ n) → m + ns.length ≤ N →
    RpD A (fu μ S.length U F H) μ2 N (al rt m).1 v ∧ Got A (fu μ S.length U F H) μ μ2 N H ns (al rt m).2
  | .z e, d, v, ns, m, w, h, hm, hN => by
    cases w with
    | z w => exact ⟨by unfold al; exact .z (Vu.rp R e d v w h), by unfold al; exact ⟨rfl, fun j n o a b => by simp at a⟩⟩
  | .t rs, d, v, ns, m, w, h, hm, hN => by
    cases w with
    | t w =>
      cases h with
      | t e rv =>
        obtain ⟨r1, g1⟩ := VRs.rp R rs _ _ ns m w rv hm hN
        unfold al
        exact ⟨.t (fu_sub _ _ e) r1, g1⟩
  | .l rs, d, v, ns, m, w, h, hm, hN => by
    cases w with
    | @l n ds _ ns e w =>
      cases h with
      | r hi =>
        obtain ⟨vs, hv, rv⟩ := R.ob _ _ e
        rw [List.length_append, List.length_singleton] at hN
        obtain ⟨r1, g1⟩ := VRs.rp R rs ds vs ns m w rv (fun j k hk => hm j k (by rw [List.getElem?_append_left (List.getElem?_eq_some_iff.mp hk).1]; exact hk)) (by omega)
        have e1 : μ2 (m + ns.length) = μ n := hm _ _ (by simp)
        unfold al
        refine ⟨?_, g1.app ⟨rfl, fun j k o a b => ?_⟩⟩
        · rw [g1.1, ← e1]; exact .r (by omega)
        · have hj : j = 0 := by
            have := (List.getElem?_eq_some_iff.mp a).1
            simp at this; exact this
          subst hj
          cases a; cases b
          exact ⟨vs, hv, r1⟩
theorem VRs.rp (R : Rl B F0 μ S F H) : ∀ (rs : List RT) (ds : List D) (vs : List V) (ns : List Nat) (m : Nat), VRs S U ds rs ns → RpDs B F μ S.length ds vs → (∀ j n, ns[j]? = some n → μ2 (m + j) = μ n) → m + ns.length ≤ N →
    RpDs A (fu μ S.length U F H) μ2 N (als rs m).1 vs ∧ Got A (fu μ S.length U F H) μ μ2 N H ns (als rs m).2
  | [], _, _, ns, m, w, h, hm, hN => by
    cases w; cases h
    unfold als
    exact ⟨.nil, rfl, fun j n o a b => by simp at a⟩
  | r :: rs, _, _, ns, m, w, h, hm, hN => by
    cases w with
    | @cons d ds _ _ ns ms w1 w2 =>
      cases h with
      | cons h1 h2 =>
        rw [List.length_append] at hN
        obtain ⟨r1, g1⟩ := VR.rp R r d _ ns m w1 h1 (fun j k hk => hm j k (by rw [List.getElem?_append_left (List.getElem?_eq_some_iff.mp hk).1]; exact hk)) (by omega)
        obtain ⟨r2, g2⟩ := VRs.rp R rs ds _ ms (m + (al r m).2.length) w2 h2 (fun j k hk => by
          rw [g1.1, Nat.add_assoc]
          refine hm _ k ?_
          rw [List.getElem?_append_right (by omega), Nat.add_sub_cancel_left]
          exact hk) (by rw [g1.1]; omega)
        unfold als
        exact ⟨.cons r1 r2, g1.app g2⟩
end
end
section
variable {B F0 F F' H H' : Hp} {μ μ' : Nat → Addr} {S S' : Sto} {U : List Nat}
def muU (μ μ' : Nat → Addr) (n : Nat) (U : List Nat) : Nat → Addr := fun i => if i < n then μ i else μ' (U.getD (i - n) 0)
theorem Rl.backU (R : Rl B F0 μ S F H) (R' : Rl H F μ' S' F' H') (x : Sub F F') {T : Sto} (hU : ∀ n ∈ U, n < S'.length) (nd : U.Nodup) (g : Got B (fu μ' S'.length U F' H') μ' (muU μ μ' S.length U) (S.length + U.length) H' U T) :
    Rl B F0 (muU μ μ' S.length U) (S ++ T) (fu μ' S'.length U F' H') H' ∧ Xt μ S F (muU μ μ' S.length U) (S ++ T) (fu μ' S'.length U F' H') := by
  have s1 : Sub F (fu μ' S'.length U F' H') := x.trans fu_sub
  have m1 : ∀ i, i < S.length → muU μ μ' S.length U i = μ i := fun i hi => if_pos hi
  have hl : (S ++ T).length = S.length + U.length := by rw [List.length_append, g.1]
  have m2 : ∀ i, i < S.length + U.length → i < S.length ∨ ∃ j n, i = S.length + j ∧ U[j]? = some n ∧ n ∈ U ∧ muU μ μ' S.length U i = μ' n := by
    intro i hi
    by_cases h : i < S.length
    · exact .inl h
    · have hj : i - S.length < U.length := by omega
      refine .inr ⟨i - S.length, U[i - S.length], by omega, List.getElem?_eq_getElem hj, List.getElem_mem hj, ?_⟩
      unfold muU
      rw [if_neg h, List.getD_eq_getElem?_getD, List.getElem?_eq_getElem hj]
      rfl
  have ne : ∀ i n, i < S.length → n ∈ U → μ i ≠ μ' n := fun i n hi hn e => by
    obtain ⟨u, hu⟩ := R.has hi
    have := R'.nb n (hU n hn)
    rw [← e, hu] at this; cases this
  refine ⟨⟨R.bh.trans R'.bh, fun a o h => ?_, R.f0.trans s1, fun a o h => ?_, fun i j hi hj e => ?_, fun i hi => ?_, fun i hi => ?_, fun i o h => ?_⟩, ⟨s1, by rw [hl]; omega, m1⟩⟩
  · rcases fu_cases h with h | ⟨_, _, h⟩
    · exact R'.fh a o h
    · exact h
  · rcases fu_cases h with h | ⟨_, ⟨i, hi, _, rfl⟩, _⟩
    · rcases R'.fn a o h with q | q
      · exact R.fn a o q
      · exact .inr (R.bh.non q)
    · exact .inr (R.bh.non (R'.nb i hi))
  · rw [hl] at hi hj
    rcases m2 i hi with hi | ⟨a, n, rfl, ha, hn, e1⟩
    · rcases m2 j hj with hj | ⟨b, m, rfl, hb, hm, e2⟩
      · rw [m1 i hi, m1 j hj] at e; exact R.inj i j hi hj e
      · rw [m1 i hi, e2] at e; exact absurd e (ne i m hi hm)
    · rcases m2 j hj with hj | ⟨b, m, rfl, hb, hm, e2⟩
      · rw [e1, m1 j hj] at e; exact absurd e.symm (ne j n hj hn)
      · rw [e1, e2] at e
        have := R'.inj n m (hU n hn) (hU m hm) e
        subst this
        have h1 := (List.getElem?_eq_some_iff.mp ha).1
        have := (List.getElem?_inj h1 nd).mp (ha.trans hb.symm)
        rw [this]
  · rw [hl] at hi
    rcases m2 i hi with hi | ⟨a, n, rfl, ha, hn, e1⟩
    · rw [m1 i hi]; exact R.nb i hi
    · rw [e1]; exact R.bh.non (R'.nb n (hU n hn))
  · rw [hl] at hi
    rcases m2 i hi with hi | ⟨a, n, rfl, ha, hn, e1⟩
    · rw [m1 i hi]
      obtain ⟨u, hu⟩ := R.has hi
      cases q : fu μ' S'.length U F' H' (μ i) with
      | none => rfl
      | some o =>
        rcases fu_cases q with h | ⟨_, ⟨j, hj, _, e⟩, _⟩
        · rcases R'.fn _ o h with q | q
          · rw [R.nf i hi] at q; cases q
          · rw [hu] at q; cases q
        · have := R'.nb j hj
          rw [e, hu] at this; cases this
    · rw [e1]
      cases q : fu μ' S'.length U F' H' (μ' n) with
      | none => rfl
      | some o =>
        rcases fu_cases q with h | ⟨_, ⟨j, hj, hjU, e⟩, _⟩
        · rw [R'.nf n (hU n hn)] at h; cases h
        · have := R'.inj j n hj (hU n hn) e
          subst this
          exact absurd hn hjU
  · have hi := Rl.lt h
    rw [hl] at hi ⊢
    rcases m2 i hi with hi | ⟨a, n, rfl, ha, hn, e1⟩
    · rw [List.getElem?_append_left hi] at h
      rw [m1 i hi]
      obtain ⟨u, hu⟩ := R.has hi
      exact (R.ob i o h).mono s1 (Nat.le_add_right _ _) m1 ((R'.bh _ _ hu).trans hu.symm)
    · rw [List.getElem?_append_right (by omega), Nat.add_sub_cancel_left] at h
      rw [e1]
      exact g.2 a n o ha h
end
mutual
theorem VR.lt {S : Sto} {U : List Nat} : ∀ (rt : RT) (d : D) (ns : List Nat), VR S U d rt ns → ∀ n ∈ ns, n < S.length
  | .z _, _, _, w, n, hn => by cases w; simp at hn
  | .t rs, _, _, w, n, hn => by cases w with | t w => exact VRs.lt rs _ _ w n hn
  | .l rs, _, _, w, n, hn => by
    cases w with
    | l e w =>
      simp only [List.mem_append, List.mem_singleton] at hn
      rcases hn with hn | rfl
      · exact VRs.lt rs _ _ w n hn
      · exact (List.getElem?_eq_some_iff.mp e).1
theorem VRs.lt {S : Sto} {U : List Nat} : ∀ (rs : List RT) (ds : List D) (ns : List Nat), VRs S U ds rs ns → ∀ n ∈ ns, n < S.length
  | [], _, _, w, n, hn => by cases w; simp at hn
  | r :: rs, _, _, w, n, hn => by
    cases w with
    | cons w1 w2 =>
      rcases List.mem_append.mp hn with hn | hn
      · exact VR.lt r _ _ w1 n hn
      · exact VRs.lt rs _ _ w2 n hn
end
abbrev Fsr := List PyData → (RT → Prop) → (Ex → Prop) → Prop
def frr (p : Fsr) : Spc := fun ds S K KX => ∃ es, Vws S ds es ∧ p es (fun rt => K (al rt S.length).1 (S ++ (al rt S.length).2)) fun x => KX x S
def lentR (p : Fsr) : Spc := fun ds S K KX => ∃ es kd kx, ds = es.map bz ∧ S = [] ∧ p es kd kx ∧ (∀ d S' rt U, VR S' U d rt U → U.Nodup → kd rt → K d S') ∧ ∀ x S' x', ExV S' x x' → kx x' → KX x S'
theorem FnOk.frr {P : Program} {w : World} {K : PySem.W.Frag} {mg : Str → Option Value} {base : Heap} {CX : CXT} {k : Nat} {f : Addr} {fd : FuncData} {ps : List Str} {p : Fsr} (h : FnOk P w K mg base CX k f fd ps (spOf (lentR p))) : FnOk P w K mg base CX k f fd ps (spOf (PL.frr p)) := by
  refine h.imp fun vs H Q E q => ?_
  obtain ⟨B, F0, w, ds, K, KX, R, r, ⟨es, vw, q⟩, k, kx⟩ := q
  have R0 : Rl H w.F w.μ [] w.F H := ⟨Sub.refl _, R.fh, Sub.refl _, fun a o e => .inl e, fun i j hi => absurd hi (Nat.not_lt_zero _), fun i hi => absurd hi (Nat.not_lt_zero _), fun i hi => absurd hi (Nat.not_lt_zero _), fun i o e => by simp at e⟩
  refine ⟨H, w.F, ⟨w.μ, [], w.F⟩, es.map bz, fun d S' => ∃ rt U, VR S' U d rt U ∧ U.Nodup ∧ K (al rt w.S.length).1 (w.S ++ (al rt w.S.length).2), fun x S' => ∃ x', ExV S' x x' ∧ KX x' w.S, R0, RpDs.bzs (Vws.rp R _ _ _ vw r), ⟨es, _, _, rfl, rfl, q, fun d S' rt U a nd b => ⟨rt, U, a, nd, b⟩, fun x S' x' a b => ⟨x', a, b⟩⟩, ?_, ?_⟩
  · rintro d S' v H' μ' F' R' X' r' ⟨rt, U, hv, nd, hk⟩
    have hm : ∀ j n, U[j]? = some n → muU w.μ μ' w.S.length U (w.S.length + j) = μ' n := fun j n h => by
      unfold muU
      rw [if_neg (by omega), Nat.add_sub_cancel_left, List.getD_eq_getElem?_getD, h]; rfl
    obtain ⟨r2, g2⟩ := VR.rp (A := B) (N := w.S.length + U.length) R' rt d v U w.S.length hv r' hm (Nat.le_refl _)
    obtain ⟨R2, X2⟩ := R.backU R' X'.f (VR.lt rt d U hv) nd g2
    refine k _ _ _ _ _ _ R2 X2 ?_ hk
    rw [List.length_append, g2.1]
    exact r2
  · rintro x S' H' μ' F' cls dd R' X' r' ⟨x', ⟨hc, hf⟩, hk⟩
    obtain ⟨R2, X2⟩ := R.back R' X'.f
    refine kx x' _ _ _ _ cls dd R2 X2 ⟨by rw [hc]; exact r'.1, ?_⟩ hk
    obtain ⟨_, r2⟩ := r'
    cases h1 : x.fs with
    | none =>
      cases h2 : x'.fs with
      | none => rw [h1] at r2; exact r2
      | some gs => rw [h1, h2] at hf; exact hf.elim
    | some fs =>
      cases h2 : x'.fs with
      | none => rw [h1, h2] at hf; exact hf.elim
      | some gs =>
        rw [h1] at r2
        rw [h1, h2] at hf
        obtain ⟨a, ws, e1, e2, e3⟩ := r2
        refine ⟨a, ws, e1, fz_sub _ _ e2, ?_⟩
        clear e2 h1 h2
        induction hf generalizing ws with
        | nil => cases e3; exact .nil
        | cons q t ih =>
          cases e3 with
          | cons r1 r2 =>
            obtain ⟨n1, e, ve, q2⟩ := q
            refine .cons ⟨n1.symm.trans r1.1, ?_⟩ (ih _ r2)
            rw [q2]
            exact .z (Vz.rp R' e _ _ ve r1.2)
theorem Fc.frr {P : Program} {w : World} {K : PySem.W.Frag} {mg : Str → Option Value} {base : Heap} {x : Str} {k : Nat} {ps : List Str} {p : Fsr} (c : Fc P w K mg base x k ps (lentR p)) : Fc P w K mg base x k ps (PL.frr p) := by
  obtain ⟨f, fd, h, r⟩ := c.ex
  exact ⟨f, fd, FnOk.frr h, r⟩
def fsr {α : Type} (enc : α → List PyData) (pre : α → Prop) (out : α → RT) : Fsr := fun es k _ => ∃ a, es = enc a ∧ pre a ∧ k (out a)
theorem fsr_len {α : Type} {enc : α → List PyData} {pre : α → Prop} {out : α → RT} {n : Nat} (h : ∀ a, (enc a).length = n) : ∀ ds S K KX, lentR (fsr enc pre out) ds S K KX → ds.length = n := by
  rintro ds S K KX ⟨es, kd, kx, rfl, rfl, ⟨a, rfl, _, _⟩, _⟩
  rw [List.length_map]; exact h a
def lz {α : Type} (f : α → PyData) (xs : List α) : RT := .l (xs.map fun x => .z (f x))
theorem als_lz {α : Type} (f : α → PyData) (n : Nat) : ∀ xs : List α, als (xs.map fun x => RT.z (f x)) n = (xs.map fun x => .z (f x), [])
  | [] => by simp [als]
  | e :: es => by simp [als, al, als_lz f n es]
theorem al_lz {α : Type} (f : α → PyData) (xs : List α) (n : Nat) : al (lz f xs) n = (.r n, [.lst (xs.map fun x => .z (f x))]) := by
  unfold lz al
  rw [als_lz]
  rfl
theorem VR.lz {S : Sto} {n : Nat} {α : Type} {f : α → PyData} {xs : List α} (h : S[n]? = some (.lst (xs.map fun x => .z (f x)))) : VR S [n] (.r n) (PL.lz f xs) [n] := .l (ns := []) h (VRs.zs f xs)
mutual
theorem Vw.sub {S S' : Sto} (h : ∀ (n : Nat) (o : Ob), S[n]? = some o → S'[n]? = some o) : ∀ (e : PyData) (d : D), Vw S d e → Vw S' d e
  | .none, _, w => by cases w <;> constructor
  | .bool _, _, w => by cases w <;> constructor
  | .int _, _, w => by cases w <;> constructor
  | .str _, _, w => by cases w <;> constructor
  | .dict _, _, w => by cases w <;> constructor
  | .list es, _, w => by
    cases w with
    | z => exact .z
    | b => exact .b
    | r e ws => exact .r (h _ _ e) (Vws.sub h es _ ws)
  | .tuple es, _, w => by
    cases w with
    | z => exact .z
    | b => exact .b
    | t ws => exact .t (Vws.sub h es _ ws)
theorem Vws.sub {S S' : Sto} (h : ∀ (n : Nat) (o : Ob), S[n]? = some o → S'[n]? = some o) : ∀ (es : List PyData) (ds : List D), Vws S ds es → Vws S' ds es
  | [], _, w => by cases w; exact .nil
  | e :: es, _, w => by cases w with | cons a b => exact .cons (Vw.sub h e _ a) (Vws.sub h es _ b)
end
theorem Vw.app {S T : Sto} {d : D} {e : PyData} (h : Vw S d e) : Vw (S ++ T) d e := Vw.sub (fun _ _ => sto_app) e d h
theorem Vws.app {S T : Sto} {d : List D} {e : List PyData} (h : Vws S d e) : Vws (S ++ T) d e := Vws.sub (fun _ _ => sto_app) e d h
theorem pLc_each {src : Src} {tg : D → Env → Option Env} {wt : WT} {we : WE} {L : Nat} {env : Env} {fin : Sto → Prop} {items : List D} {S : Sto} (I : Nat → Sto → Prop) (h0 : I 0 S) (hok : ∀ i S, i ≤ items.length → I i S → src.ok S)
    (hs : ∀ i d S (Q : Sto → Prop), items[i]? = some d → I i S → (∀ S', I (i + 1) S' → Q S') → pGet (tg d env) fun env2 => wt env2 S (fun c S1 => pIf c (we env2 S1 (fun x S2 => pGet (lsR S2 L) fun xs => pReq (xs.length < sizeLine) (Q (S2.set L (.lst (xs ++ [x]))))) X0) (Q S1)) X0)
    (hd : ∀ S, I items.length S → fin S) : pLc src tg wt we L env fin items S := by
  have go : ∀ (rest : List D) (i : Nat) S, items.drop i = rest → i ≤ items.length → I i S → pLc src tg wt we L env fin rest S := by
    intro rest
    induction rest with
    | nil =>
      intro i S e hi h
      rw [pLc.nil]
      have : i = items.length := by
        have := congrArg List.length e
        rw [List.length_drop] at this
        simp at this
        omega
      subst this
      exact ⟨hok _ _ (Nat.le_refl _) h, hd _ h⟩
    | cons d ds ih =>
      intro i S e hi h
      rw [pLc.cons]
      have hlt : i < items.length := by
        have := congrArg List.length e
        rw [List.length_drop] at this
        simp at this
        omega
      have hget : items[i]? = some d := by
        have := congrArg (fun l => l[0]?) e
        simpa using this
      exact ⟨hok _ _ hi h, hs i d S _ hget h fun S' h' => ih (i + 1) S' (by rw [← List.drop_drop, e]; rfl) hlt h'⟩
  exact go _ 0 S rfl (Nat.zero_le _) h0
end PL

set_option Elab.async false
set_option linter.all false
set_option maxRecDepth 100000
namespace PL
open PySem PySem.Spec PyProof.Rows L2

theorem fun_of {K : PySem.W.Frag} {x q : Str} {st : Stmt} {f : Addr} {fd : FuncData} (F : FunD K x q (defArgs st) (defBody st) (defScope st) [] [] f fd) : Fun K x q st f fd := by
  obtain ⟨oc, od, dV, kV, doc, pm, an, cdv, ct, osl, h1, h2, h3, h4, h5⟩ := F.ex
  have e : dV = .none := h4.elim (fun z => z.2) fun z => absurd rfl z.1
  subst e
  exact ⟨⟨oc, od, kV, doc, pm, an, cdv, ct, osl, h1, h2, h3⟩, F.kp⟩
abbrev dd (x : Str) (st : Stmt) : He.DefD := ⟨(x, none), x, x, defArgs st, defBody st, defScope st, [], []⟩
def obsP (fa : List He.Fa) (fn : List He.DefD) (K : PySem.W.Frag) : Bool × He.AlD := (noLs K, He.obsD fa fn K)
def SaysP (fa : List He.Fa) (fn : List He.DefD) (K : PySem.W.Frag) : Prop := obsP fa fn K = (true, He.valD fn)
theorem SaysP.ls {fa : List He.Fa} {fn : List He.DefD} {K : PySem.W.Frag} (h : SaysP fa fn K) : noLs K = true := congrArg (fun z : Bool × He.AlD => z.1) h
theorem SaysP.sd {fa : List He.Fa} {fn : List He.DefD} {K : PySem.W.Frag} (h : SaysP fa fn K) : He.SaysD fa fn K := congrArg (fun z : Bool × He.AlD => z.2) h
def obsPG (n : Nat) (fa : List He.Fa) (fn : List He.DefD) (g : Addr → Option Obj) : Bool × He.AlD := obsP fa fn (He.frG g (He.asD g n))
def hookP (n : Nat) (fa : List He.Fa) (fn : List He.DefD) : PySem.W.Hook where
  α := Bool × He.AlD
  obs := fun s => obsPG n fa fn s.heap.get?
  val := fun _ => (true, He.valD fn)
  says := fun _ h => ∃ K : PySem.W.Frag, K.In h ∧ SaysP fa fn K
  of := fun _ _ e => ⟨_, He.frG_in, e⟩
  keeps := fun _ _ _ ⟨K, hK, c⟩ k => ⟨K, PySem.W.Frag.In.keeps hK k, c⟩
theorem obsPG_eq {n : Nat} {fa : List He.Fa} {fn : List He.DefD} {g : Addr → Option Obj} {s : Shared} (h : ∀ a, g a = s.heap.get? a) : obsPG n fa fn g = (hookP n fa fn).obs s := by
  have e : g = s.heap.get? := funext h
  rw [e] <;> rfl
theorem fc_mk {P : Program} {w : World} {K : PySem.W.Frag} {mg : Str → Option Value} {base h : Heap} {x : Str} {k : Nat} {ps : List Str} {sp : Spc} {st : Stmt} {fd : FuncData} (X : K.In h) (G : h.Ns mainGlobals mg) (FD : FunD K x x (defArgs st) (defBody st) (defScope st) [] [] (He.fAd K (x, none)) fd)
    (ok : FnOk P w K mg base (L2N.CX P w) k (He.fAd K (x, none)) fd ps (spOf sp)) (g : (He.Fa.glo x).ok K = true)
    (hb : ∀ (kV doc pm : Value) (an : Option Addr) (cdv ct : Value) (us : List Value), us.length = ps.length → bindArgs (PySem.W.fnOf x x (defArgs st) (defBody st) (defScope st) .none kV doc pm an cdv ct) ⟨us, []⟩ = pure (ps.zip us)) : Fc P w K mg base x k ps sp :=
  ⟨_, fd, ok, He.glo_ok X G g, FD.kp, (fun_of FD).binds hb⟩
theorem pl_end {l : PySem.W.OpenLaw} {q : Program} {loose : List Str} {XP : (Str → Option Value) → Heap → Prop} {d : DefRec} {x : Str} {k n : Nat} {fa : List He.Fa} {fn : List He.DefD} {st : Stmt}
    (hn : l.most = some 63) (hd : d.name = ("law" : Str)) (hdf : d.params.defaults = []) (hr : Room k callerA)
    (hb : ∀ (kV doc pm : Value) (an : Option Addr) (cdv ct : Value) (us : List Value), us.length = [x].length → bindArgs (PySem.W.fnOf "law" "law" (defArgs st) (defBody st) (defScope st) .none kV doc pm an cdv ct) ⟨us, []⟩ = pure ([x].zip us))
    (F : ∀ (w : World) (K : PySem.W.Frag) (h : Heap) (mg : Str → Option Value), K.In h → h.Ns mainGlobals mg → SaysP fa fn K → ∃ fd, FunD K "law" "law" (defArgs st) (defBody st) (defScope st) [] [] (He.fAd K ("law", none)) fd ∧ mg ("law" : Str) = some (.ref (He.fAd K ("law", none))) ∧ ∀ base : Heap, FnOk l.prog w K mg base (L2N.CX l.prog w) k (He.fAd K ("law", none)) fd [x] (spOf lawSp)) :
    PySem.W.WalkO q loose XP (hookP n fa fn).says l.row.toRowW d [] (fun f vs => PySem.call f vs) := by
  refine Att.attach_call hn hdf fun w s₀ s₁ mg mb fa' o pm cd doc a vs ns G Y ho hd' hcd hmg hobj hints hlen hg => ?_
  obtain ⟨K, KX, c⟩ := Y
  obtain ⟨fd, FD, e, hF⟩ := F w K _ mg KX G.T.g c
  have hmg2 : mg ("law" : Str) = some (.ref fa') := by rw [← hd]; exact hmg
  rw [e] at hmg2
  cases hmg2
  exact law_call KX G.T.g G.T.b G.T.builtins G.T.nolimit hg hobj hints (Nat.le_trans hlen (by decide)) hr (fun base _ _ => law_imp c.ls (hF base)) (fun s u => FD.bindsA (ps := [x]) hb s [u] rfl) (fun H hO hS => ⟨a, ns, rfl, hS, hlen, fun _ => rfl⟩) fun H e s' ⟨_, _, _, _, _, _, _, _, _, _, _, _, z⟩ => z
end PL

set_option Elab.async false
set_option linter.all false
set_option maxRecDepth 100000
namespace PL
open PySem L2

def fsq {α β : Type} (enc : α → List PyData) (pre : α → Prop) (post : α → β → Prop) (out : β → PyData) : Fsp := fun es k _ => ∃ a, es = enc a ∧ pre a ∧ ∀ b, post a b → k (out b)
theorem fsq_len {α β : Type} {enc : α → List PyData} {pre : α → Prop} {post : α → β → Prop} {out : β → PyData} {n : Nat} (h : ∀ a, (enc a).length = n) : ∀ ds S K KX, lent (fsq enc pre post out) ds S K KX → ds.length = n := by
  rintro ds S K KX ⟨es, kd, kx, rfl, rfl, ⟨a, rfl, _, _⟩, _⟩
  rw [List.length_map]; exact h a
theorem fsq_ok {α β : Type} {enc : α → List PyData} {pre : α → Prop} {post : α → β → Prop} {out : β → PyData} {ws : WS} {N : List Str} (h : ∀ a, pre a → ∀ K KX, (∀ d S' b, Vz S' d (out b) → post a b → K d S') → ws (ends K KX) (startE N ((enc a).map bz)) []) :
    ∀ ds S K KX, lent (fsq enc pre post out) ds S K KX → ws { nx := fun _ S1 => K (.z .none) S1, rt := K, ex := fun y _ S1 => KX y S1 } (startE N ds) S := by
  rintro ds S K KX ⟨es, kd, kx, rfl, rfl, ⟨a, rfl, hp, hk⟩, hK, _⟩
  exact h a hp K KX fun d S' b v q => hK d S' _ v (hk b q)
theorem fsq_call {α β : Type} {enc : α → List PyData} {pre : α → Prop} {post : α → β → Prop} {out : β → PyData} {ds : List D} {S : Sto} {K : K1} {KX : KF} (a : α) (v : Vws S ds (enc a)) (hp : pre a) (h : ∀ b, post a b → K (.z (out b)) S) : pCall (frz (fsq enc pre post out)) ds S K KX :=
  pCall.mk ⟨_, v, a, rfl, hp, h⟩
def fsrq {α β : Type} (enc : α → List PyData) (pre : α → Prop) (post : α → β → Prop) (out : β → RT) : Fsr := fun es k _ => ∃ a, es = enc a ∧ pre a ∧ ∀ b, post a b → k (out b)
theorem fsrq_len {α β : Type} {enc : α → List PyData} {pre : α → Prop} {post : α → β → Prop} {out : β → RT} {n : Nat} (h : ∀ a, (enc a).length = n) : ∀ ds S K KX, lentR (fsrq enc pre post out) ds S K KX → ds.length = n := by
  rintro ds S K KX ⟨es, kd, kx, rfl, rfl, ⟨a, rfl, _, _⟩, _⟩
  rw [List.length_map]; exact h a
theorem fsrq_ok {α β : Type} {enc : α → List PyData} {pre : α → Prop} {post : α → β → Prop} {out : β → RT} {ws : WS} {N : List Str} (h : ∀ a, pre a → ∀ K KX, (∀ d S' b U, VR S' U d (out b) U → U.Nodup → post a b → K d S') → ws (ends K KX) (startE N ((enc a).map bz)) []) :
    ∀ ds S K KX, lentR (fsrq enc pre post out) ds S K KX → ws { nx := fun _ S1 => K (.z .none) S1, rt := K, ex := fun y _ S1 => KX y S1 } (startE N ds) S := by
  rintro ds S K KX ⟨es, kd, kx, rfl, rfl, ⟨a, rfl, hp, hk⟩, hK, _⟩
  exact h a hp K KX fun d S' b U v nd q => hK d S' _ U v nd (hk b q)
theorem fsrq_call {α β : Type} {enc : α → List PyData} {pre : α → Prop} {post : α → β → Prop} {out : β → RT} {ds : List D} {S : Sto} {K : K1} {KX : KF} (a : α) (v : Vws S ds (enc a)) (hp : pre a) (h : ∀ b, post a b → K (al (out b) S.length).1 (S ++ (al (out b) S.length).2)) : pCall (frr (fsrq enc pre post out)) ds S K KX :=
  pCall.mk ⟨_, v, a, rfl, hp, h⟩
theorem fslq_call {α β : Type} {enc : α → List PyData} {pre : α → Prop} {f : β → PyData} {post : α → List β → Prop} {ds : List D} {S : Sto} {K : K1} {KX : KF} (a : α) (v : Vws S ds (enc a)) (hp : pre a) (h : ∀ b, post a b → K (.r S.length) (S ++ [.lst (b.map fun x => .z (f x))])) : pCall (frr (fsrq enc pre post fun b => lz f b)) ds S K KX :=
  fsrq_call a v hp fun b hb => by rw [al_lz]; exact h b hb
def fsm {α : Type} (pre : α → List D → Sto → Prop) (post : α → D → Sto → Sto → Prop) : Spc := fun ds S K _ => ∃ a, pre a ds S ∧ ∀ d S', post a d S S' → K d S'
theorem fsm_len {α : Type} {pre : α → List D → Sto → Prop} {post : α → D → Sto → Sto → Prop} {n : Nat} (h : ∀ a ds S, pre a ds S → ds.length = n) : ∀ ds S K KX, fsm pre post ds S K KX → ds.length = n := by
  rintro ds S K KX ⟨a, hp, _⟩
  exact h a ds S hp
theorem fsm_ok {α : Type} {pre : α → List D → Sto → Prop} {post : α → D → Sto → Sto → Prop} {ws : WS} {N : List Str} (h : ∀ a ds S, pre a ds S → ∀ K KX, (∀ d S', post a d S S' → K d S') → ws (ends K KX) (startE N ds) S) :
    ∀ ds S K KX, fsm pre post ds S K KX → ws { nx := fun _ S1 => K (.z .none) S1, rt := K, ex := fun y _ S1 => KX y S1 } (startE N ds) S := by
  rintro ds S K KX ⟨a, hp, hk⟩
  exact h a ds S hp K KX hk
theorem fsm_call {α : Type} {pre : α → List D → Sto → Prop} {post : α → D → Sto → Sto → Prop} {ds : List D} {S : Sto} {K : K1} {KX : KF} (a : α) (hp : pre a ds S) (h : ∀ d S', post a d S S' → K d S') : pCall (fsm pre post) ds S K KX := pCall.mk ⟨a, hp, h⟩
def Keep (U : List Nat) (S S' : Sto) : Prop := ∀ (n : Nat) (o : Ob), n ∉ U → S[n]? = some o → S'[n]? = some o
theorem Keep.refl {U : List Nat} {S : Sto} : Keep U S S := fun _ _ _ h => h
theorem Keep.trans {U : List Nat} {S T R : Sto} (a : Keep U S T) (b : Keep U T R) : Keep U S R := fun n o h e => b n o h (a n o h e)
theorem Keep.app {U : List Nat} {S T : Sto} : Keep U S (S ++ T) := fun _ _ _ h => sto_app h
theorem Keep.set {U : List Nat} {S : Sto} {n : Nat} {o : Ob} (h : n ∈ U) : Keep U S (S.set n o) := fun m _ hm e => by
  rw [List.getElem?_set_ne (fun z : n = m => hm (by rw [← z]; exact h))]; exact e
theorem Keep.mono {U V : List Nat} {S T : Sto} (h : ∀ n ∈ U, n ∈ V) (k : Keep U S T) : Keep V S T := fun n o hn e => k n o (fun z => hn (h n z)) e
theorem pGet.ex {α : Type} {o : Option α} {k : α → Prop} {P : α → Prop} (h : ∃ x, o = some x ∧ P x) (q : ∀ x, P x → k x) : pGet o k := by
  obtain ⟨x, e, hp⟩ := h
  exact pGet.mk e (q x hp)
theorem isTy_l {S : Sto} {n : Nat} {ds : List D} (h : S[n]? = some (.lst ds)) : isTy .list S (.r n) = true := by
  show (match S[n]? with | some (.lst _) => true | _ => false) = true
  rw [h]
theorem sqD_at {S : Sto} {n : Nat} {ds : List D} (h : S[n]? = some (.lst ds)) : sqD S (.r n) = some ds := lsD_at h
theorem srcD_at {S : Sto} {n : Nat} {ds : List D} (h : S[n]? = some (.lst ds)) : srcD S (.r n) = some ⟨ds, fun S => S[n]? = some (.lst ds)⟩ := by
  show (match S[n]? with | some (.lst ds) => _ | _ => _) = _
  rw [h]
theorem tyD_l {S : Sto} {n : Nat} {ds : List D} (h : S[n]? = some (.lst ds)) : tyD S (.r n) = some .list := by
  show (match S[n]? with | some (.lst _) => _ | some (.dic _) => _ | _ => _) = _
  rw [h]
theorem ixN_at {n i : Nat} (h : i < n) : ixN n (0 + (i : Int)) = some i := by
  rw [Int.zero_add]
  unfold ixN
  split
  · simp [h]
  · omega
theorem sto_r {A T : Sto} {k : Nat} {o : Ob} (h : T[k]? = some o) : (A ++ T)[A.length + k]? = some o := by
  rw [List.getElem?_append_right (Nat.le_add_right _ _), Nat.add_sub_cancel_left]; exact h
theorem sto_r0 {A T : Sto} {a : Ob} : (A ++ a :: T)[A.length]? = some a := by simp
theorem sto_r1 {A T : Sto} {a b : Ob} : (A ++ a :: b :: T)[A.length + 1]? = some b := sto_r rfl
theorem sto_r2 {A T : Sto} {a b c : Ob} : (A ++ a :: b :: c :: T)[A.length + 2]? = some c := sto_r rfl
theorem sto_r3 {A T : Sto} {a b c d : Ob} : (A ++ a :: b :: c :: d :: T)[A.length + 3]? = some d := sto_r rfl
theorem sto_r4 {A T : Sto} {a b c d e : Ob} : (A ++ a :: b :: c :: d :: e :: T)[A.length + 4]? = some e := sto_r rfl
theorem pFor_xs {α : Type} {src : Src} {g : WG} {body : WS} {k : KS} {env : Env} {S : Sto} (xs : List α) (f : α → D) (e : src.items = xs.map f) (I : Nat → Env → Sto → Prop) (h0 : I 0 env S) (hok : ∀ i env S, i ≤ xs.length → I i env S → src.ok S)
    (hs : ∀ i x env S (Q : Env → Sto → Prop), xs[i]? = some x → I i env S → (∀ env' S', I (i + 1) env' S' → Q env' S') → g (f x) env S fun env1 S1 => body { k with nx := Q, ct := Q, bk := k.nx } env1 S1)
    (hd : ∀ env S, I xs.length env S → k.nx env S) : pFor src g body k src.items env S := by
  have hl : src.items.length = xs.length := by rw [e, List.length_map]
  refine pFor_each I h0 (fun i env S hi h => hok i env S (by omega) h) (fun i d env S Q hi h hQ => ?_) (fun env S h => hd env S (by rw [← hl]; exact h))
  rw [e, List.getElem?_map] at hi
  cases hx : xs[i]? with
  | none => rw [hx] at hi; simp at hi
  | some x =>
    rw [hx] at hi
    simp at hi
    subst hi
    exact hs i x env S Q hx h hQ
theorem fmod_b {a b : Int} (h : 0 < b) : 0 ≤ a.fmod b ∧ a.fmod b < b := ⟨Int.fmod_nonneg_of_pos a h, Int.fmod_lt_of_pos a h⟩
end PL

set_option Elab.async false
set_option linter.all false
set_option maxRecDepth 100000
namespace PL
open PySem L2

def wNever : WS := fun _ _ _ => False
theorem xnever {X : Cx} {B F0 : Hp} {W : WX} {st : Stmt} : PXS X B F0 W st wNever := ⟨fun pins s σ H D I h => by
  obtain ⟨w, env, k, _, _, h, _⟩ := h
  exact h.elim⟩
theorem ixN_nat {n i : Nat} (h : i < n) : ixN n (i : Int) = some i := by
  have := ixN_at h
  rw [Int.zero_add] at this
  exact this
theorem pFor_allB {α : Type} {src : Src} {g : WG} {body : WS} {k : KS} {env : Env} {S : Sto} (xs : List α) (f : α → D) (p : α → Bool) (J : Env → Prop) (e : src.items = xs.map f) (hok : src.ok S) (h0 : J env)
    (hs : ∀ x env (Q : Env → Sto → Prop), x ∈ xs → J env → (p x = true → ∀ env', J env' → Q env' S) → (p x = false → k.rt (.z (.bool false)) S) → g (f x) env S fun env1 S1 => body { k with nx := Q, ct := Q, bk := k.nx } env1 S1)
    (hd : xs.all p = true → ∀ env, J env → k.nx env S) (hf : xs.all p = false → k.rt (.z (.bool false)) S) : pFor src g body k src.items env S := by
  refine pFor_xs xs f e (fun i env S1 => S1 = S ∧ J env ∧ (xs.take i).all p = true) ⟨rfl, h0, by simp⟩ (fun i env S1 _ h => by rw [h.1]; exact hok) ?_ ?_
  · rintro i x env S1 Q hx ⟨rfl, hj, ha⟩ hQ
    refine hs x env Q (List.mem_of_getElem? hx) hj (fun hp env' hj' => hQ env' _ ⟨rfl, hj', ?_⟩) (fun hp => hf ?_)
    · rw [List.take_add_one, hx, List.all_append, ha, Option.toList_some]
      simp [hp]
    · cases h : xs.all p with
      | false => rfl
      | true =>
        have := List.all_eq_true.mp h x (List.mem_of_getElem? hx)
        rw [hp] at this; cases this
  · rintro env S1 ⟨rfl, hj, ha⟩
    rw [List.take_length] at ha
    exact hd ha env hj
end PL

set_option Elab.async false
set_option linter.all false
set_option maxRecDepth 100000
namespace PL
open PySem L2

structure ExcF (K : PySem.W.Frag) (mg : Str → Option Value) (x : Str) (C : Addr) : Prop where
  q : PySem.W.excIn K C He.veBase "ValueError.__new__" = true
  k : PySem.W.keepIn K (.ref C) = true
  s : PySem.W.subIn K (.ref C) (.type "BaseException") = some true
  t : PySem.W.typeIn K (.ref C) = some (.type "type")
  g : mg x = some (.ref C)
section
variable {X : Cx} {B F0 : Hp} {W : WX} {x m : Str} {C : Addr} {p p2 p3 pos : Pos} {j : Nat}
end
section
variable {X : Cx} {B F0 : Hp} {W : WX} {x n : Str} {c : Value} {i : Nat} {body suite : List Stmt} {b₀ : Stmt} {np pos pos' : Pos} {b : WS} {h : Addr → Value → WS} {kn : Value → Prop} {mt : Value → Bool}
end
section
variable {X : Cx} {B F0 : Hp} {W : WX} {x y n : Str} {C D : Addr} {i : Nat} {a : Addr} {b : Bool} {oe : Obj} {pn : List (Addr × Obj)} {p p2 p3 pos : Pos}
end
structure EcK where
  cl : Str → Addr
  kn : Value → Prop
  mt : Str → Value → Bool
  kd : Value → Str → Bool
def tabE (x y : Str) : Bool := decide (x = y) || (decide (y = "PathError") || decide (y = "ValueError"))
structure EcOk (ec : EcK) (raised checked : List Str) : Prop where
  kn : ∀ x ∈ raised, ec.kn (.ref (ec.cl x))
  mt : ∀ x ∈ raised, ∀ y ∈ checked, ec.mt y (.ref (ec.cl x)) = tabE x y
  kd : ∀ x ∈ raised, ∀ y ∈ checked, ec.kd (.ref (ec.cl x)) y = tabE x y
def fsrX {α : Type} (enc : α → List PyData) (pre : α → Prop) (out : α → Except Value RT) : Fsr := fun es k kx => ∃ a, es = enc a ∧ pre a ∧ (∀ r, out a = .ok r → k r) ∧ ∀ v, out a = .error v → kx ⟨v, none⟩
theorem fsrX_len {α : Type} {enc : α → List PyData} {pre : α → Prop} {out : α → Except Value RT} {n : Nat} (h : ∀ a, (enc a).length = n) : ∀ ds S K KX, lentR (fsrX enc pre out) ds S K KX → ds.length = n := by
  rintro ds S K KX ⟨es, kd, kx, rfl, rfl, ⟨a, rfl, _, _⟩, _⟩
  rw [List.length_map]; exact h a
end PL

set_option Elab.async false
set_option linter.all false
set_option maxRecDepth 100000
namespace PL
open PySem PySem.Spec PyProof.Rows L2

def obsQ (bf : PySem.W.Frag → Bool) (fa : List He.Fa) (fn : List He.DefD) (K : PySem.W.Frag) : Bool × He.AlD := (noLs K && bf K, He.obsD fa fn K)
def SaysQ (bf : PySem.W.Frag → Bool) (fa : List He.Fa) (fn : List He.DefD) (K : PySem.W.Frag) : Prop := obsQ bf fa fn K = (true, He.valD fn)
theorem SaysQ.ls {bf : PySem.W.Frag → Bool} {fa : List He.Fa} {fn : List He.DefD} {K : PySem.W.Frag} (h : SaysQ bf fa fn K) : noLs K = true := (Bool.and_eq_true_iff.mp (congrArg (fun z : Bool × He.AlD => z.1) h)).1
theorem SaysQ.bf {bf : PySem.W.Frag → Bool} {fa : List He.Fa} {fn : List He.DefD} {K : PySem.W.Frag} (h : SaysQ bf fa fn K) : bf K = true := (Bool.and_eq_true_iff.mp (congrArg (fun z : Bool × He.AlD => z.1) h)).2
theorem SaysQ.sd {bf : PySem.W.Frag → Bool} {fa : List He.Fa} {fn : List He.DefD} {K : PySem.W.Frag} (h : SaysQ bf fa fn K) : He.SaysD fa fn K := congrArg (fun z : Bool × He.AlD => z.2) h
section
variable {raised handled checked : List Str} {K : PySem.W.Frag} {mg : Str → Option Value}
end
structure EcP (ec : EcK) (raised handled checked : List Str) : Prop where
  kn : ∀ x ∈ raised, ec.kn (.ref (ec.cl x))
  mt : ∀ x ∈ raised, ∀ y ∈ handled, ec.mt y (.ref (ec.cl x)) = tabE x y
  kd : ∀ x ∈ raised, ∀ y ∈ checked, ec.kd (.ref (ec.cl x)) y = tabE x y
end PL

set_option Elab.async false
set_option linter.all false
set_option maxRecDepth 100000
namespace PL
open PySem L2

def pJoin : D → PL := fun x xs S K => match x, xs with
  | .z (.str a), [y] => pGet (sqD S y) fun ds => ∃ ys : List Str, ds = ys.map (fun s => .z (.str s)) ∧ pReq ((ys.map (·.length)).sum + ys.length * a.length ≤ 16777216) (K (.z (.str (Txt.join a ys))) S)
  | _, _ => False
section
variable {X : Cx} {B F0 : Hp}
theorem oJoin : MtR X "str.join" (rM B F0 pJoin) := methR fun {pins s σ H x v vs us w d ds K Q} I rx r R q qs h k => by
  unfold pJoin at h
  split at h
  · rename_i a y
    obtain ⟨ds, e, h⟩ := h.out
    obtain ⟨ys, rfl, h⟩ := h
    obtain ⟨hz, h⟩ := h.out
    obtain ⟨u, rfl, q1⟩ := qs.one
    obtain ⟨p, ws, rfl, hs, rw'⟩ := sqD_ok (K := X.K) R q1 e
    have ev := RpDs.strs rw'
    subst ev
    exact mt_join pins s σ H _ _ v us Q I rx r ⟨a, p, ys, rpStr q, rfl, hs, hz, k.str R h⟩
  · exact h.elim
end
end PL

set_option Elab.async false
set_option linter.all false
set_option maxRecDepth 100000
namespace PL
open PySem L2

theorem pLc_allE {α : Type} {src : Src} {tg : D → Env → Option Env} {we : WE} {env : Env} {fin : Sto → Prop} {S : Sto} (xs : List α) (it f : α → D) (e : src.items = xs.map it) (hz : xs.length < 1000000) (hok : ∀ acc, src.ok (S ++ [.lst acc]))
    (he : ∀ x ∈ xs, ∃ env2, tg (it x) env = some env2 ∧ ∀ (S1 : Sto) (K : K1), (∃ acc, S1 = S ++ [.lst acc]) → K (f x) S1 → we env2 S1 K X0)
    (hf : fin (S ++ [.lst (xs.map f)])) : pLc src tg wYes we S.length env fin src.items (S ++ [.lst []]) := by
  rw [e]; exact pLc_all it f hz hok he hf
theorem pLc_mapE {α : Type} {src : Src} {tg : D → Env → Option Env} {wt : WT} {we : WE} {env : Env} {fin : Sto → Prop} {S : Sto} (xs : List α) (it f : α → D) (t : α → Bool) (e : src.items = xs.map it) (hz : xs.length < 1000000) (hok : ∀ acc, src.ok (S ++ [.lst acc]))
    (ht : ∀ x ∈ xs, ∃ env2, tg (it x) env = some env2 ∧ (∀ (S1 : Sto) (K : Bool → Sto → Prop), (∃ acc, S1 = S ++ [.lst acc]) → K (t x) S1 → wt env2 S1 K X0) ∧ (t x = true → ∀ (S1 : Sto) (K : K1), (∃ acc, S1 = S ++ [.lst acc]) → K (f x) S1 → we env2 S1 K X0))
    (hf : fin (S ++ [.lst ((xs.filter t).map f)])) : pLc src tg wt we S.length env fin src.items (S ++ [.lst []]) := by
  rw [e]; exact pLc_map it f t hz hok ht hf
end PL

set_option Elab.async false
set_option linter.all false
set_option maxRecDepth 100000
set_option maxHeartbeats 1000000
namespace PL
open PySem PySem.Spec PyProof.Rows L2
section
variable {prog : Program} {w : World} {A : Around} {E : Value → Shared → Prop} {s : Shared} {it l : Addr} {items : Array Value}
end
section
variable {X : Cx}
end
end PL

set_option Elab.async false
set_option linter.all false
set_option maxRecDepth 100000
set_option maxHeartbeats 2000000
namespace PL
open PySem PySem.Spec PyProof.Rows L2

def txtOf (e : Int × Value) : Str := match e.2 with
  | .str k _ => k
  | _ => Str.ofString ""
def IsTxt (w : World) (e : Int × Value) : Prop := ∃ k tk, e.2 = Value.str k tk ∧ e.1 = hashStr w k
structure TxtSet (w : World) (h : Heap) (a : Addr) (ks : List Str) : Prop where
  out : ∃ o es ep t, h.get? a = some o ∧ o.ExactSet ∧ o.data = .set es ep t ∧ (∀ e ∈ es.toList, IsTxt w e) ∧ es.toList.map txtOf = ks ∧ ks.Nodup ∧
    es.size < scanBound ∧ t.fits es.size = true ∧ Ris t.place.toList ∧ (w.params.followText "set-order" = true ∨ t.led = true)
section
variable {P : Program} {w : World} {h h' : Heap} {a : Addr} {ks : List Str}
theorem TxtSet.at (R : TxtSet w h a ks) (k : ∀ o, h.get? a = some o → h'.get? a = some o) : TxtSet w h' a ks := by
  obtain ⟨o, es, ep, t, ho, r⟩ := R.out
  exact ⟨o, es, ep, t, k o ho, r⟩
theorem txt_elems {l : List (Int × Value)} (g : ∀ e ∈ l, IsTxt w e) : ElemsOf (PySem.strKind P w) l := fun e he => by
  obtain ⟨k, tk, h1, h2⟩ := g e he
  exact ⟨⟨k, by rw [h1]; exact beq_self_eq_true k, h2⟩, by rw [h1] <;> rfl⟩
theorem txt_is {e : Int × Value} (g : IsTxt w e) (k : Str) : (PySem.strKind P w).is k e.2 = true ↔ txtOf e = k := by
  obtain ⟨k0, tk, h1, _⟩ := g
  unfold txtOf
  rw [h1]
  show ((k0 == k) = true) ↔ k0 = k
  exact beq_iff_eq
theorem txt_mem {l : List (Int × Value)} (g : ∀ e ∈ l, IsTxt w e) (k : Str) : k ∈ l.map txtOf ↔ ∃ e ∈ l, (PySem.strKind P w).is k e.2 = true := by
  rw [List.mem_map]
  exact ⟨fun ⟨e, he, q⟩ => ⟨e, he, (txt_is (g e he) k).2 q⟩, fun ⟨e, he, q⟩ => ⟨e, he, (txt_is (g e he) k).1 q⟩⟩
end
section
variable {P : Program} {w : World} {A : Around} {E : Value → Shared → Prop} {s : Shared} {a : Addr} {ks : List Str}
theorem txt_tail {g : Bool → Sem Unit} (hg : ∀ (b : Bool) (s₁ : Shared) (Q' : Unit → Shared → Prop), Q' () s₁ → wpAny (model P w) A (g b) Q' E s₁)
    {o : Obj} {es : Array (Int × Value)} {ep : Nat} {t : SetTable} (ho : s.heap.get? a = some o) (hex : o.ExactSet) (hd : o.data = .set es ep t)
    {es1 : Array (Int × Value)} {t2 : SetTable} (g1 : ∀ e ∈ es1.toList, IsTxt w e) (nd1 : (es1.toList.map txtOf).Nodup)
    (hb1 : es1.size < scanBound) (hf2 : t2.fits es1.size = true) (hr : Ris t2.place.toList) (hl : w.params.followText "set-order" = true ∨ t2.led = true) {wasDummy : Bool} {R : Option Bool → Shared → Prop}
    (hR : ∀ h' ks', Heap.SameBut a s.heap h' → ks'.Perm (es1.toList.map txtOf) → TxtSet w h' a ks' → R (some true) { s with heap := h' }) :
    wpAny (model P w) A (do
        storeSet a es1 t2
        if (!wasDummy && t2.tooFull) = true then do
            g (relayAll t2 es1 (SetTable.grown es1.size)).2.2
            storeSet a (relayAll t2 es1 (SetTable.grown es1.size)).1 (relayAll t2 es1 (SetTable.grown es1.size)).2.1
            pure (some true)
          else pure (some true)) R E s := by
  have sb1 := Heap.SameBut.update s.heap a (Obj.putSet es1 t2)
  refine wpAny_bind (wpAny_storeSet_of ho hd ?_ (fits_of_scanBound hb1))
  have ho1 := L2.store_at (es' := es1) (t' := t2) ho hd
  split
  case isFalse => exact wpAny_pure (hR _ _ sb1 (.refl _) ⟨_, es1, _, t2, ho1, hex, rfl, g1, rfl, nd1, hb1, hf2, hr, hl⟩)
  case isTrue =>
    have c1 := relayAll_perm t2 es1 (SetTable.grown es1.size)
    have c2 := relayAll_fits t2 es1 (SetTable.grown es1.size)
    have c3 := L2.relayAll_ris t2 es1 (SetTable.grown es1.size)
    have c4 := L2.relayAll_led t2 es1 (SetTable.grown es1.size)
    revert c1 c2 c3 c4
    generalize relayAll t2 es1 (SetTable.grown es1.size) = Z
    obtain ⟨es2, t3, gv⟩ := Z
    intro c1 c2 c3 c4
    dsimp only at c1 c2 c3 c4 ⊢
    have hz : es2.size = es1.size := by
      have := c1.length_eq
      rwa [Array.length_toList, Array.length_toList] at this
    refine wpAny_bind (hg _ _ _ (wpAny_bind (wpAny_storeSet_of ho1 rfl ?_ (fits_of_scanBound (by omega)))))
    refine wpAny_pure (hR _ (es2.toList.map txtOf) (sb1.trans (Heap.SameBut.update _ a _)) (c1.map txtOf)
      ⟨_, es2, _, t3, L2.store_at (es' := es2) (t' := t3) ho1 rfl, hex, rfl, fun e he => g1 e (c1.mem_iff.mp he), rfl, (c1.map txtOf).nodup_iff.mpr nd1, by omega, c2, c3, hl.imp id fun z => by rw [c4]; exact z⟩)
def addTo (ks : List Str) (k : Str) : List Str := if k ∈ ks then ks else ks ++ [k]
theorem txt_add {k : Str} {tk : Tok} {Q : Bool → Shared → Prop} (R : TxtSet w s.heap a ks) (room : ks.length + 1 < scanBound)
    (hQ : ∀ b h' ks', Heap.SameBut a s.heap h' → ks'.Perm (addTo ks k) → TxtSet w h' a ks' → Q b { s with heap := h' }) :
    wpAny (model P w) A (setAddHashed a (.str k tk) ((PySem.strKind P w).hash k)) Q E s := by
  have R0 := R
  obtain ⟨o, es, ep, t, ho, hex, hd, g, hk, nd, hb, hf, hr, hl⟩ := R.out
  have hkey : (PySem.strKind P w).is k (.str k tk) = true := beq_self_eq_true k
  have hsc : (Value.str k tk).scannable = true := rfl
  have hel : ElemsOf (PySem.strKind P w) es.toList := txt_elems g
  have hsz : es.size = ks.length := by rw [← hk, List.length_map, Array.length_toList]
  unfold setAddHashed setAddHashedIn
  refine wpAny_holding (wpAny_bind (wpAny_setState_of ho hd hf ?_))
  dsimp only
  rw [byScan_of hsc hb hel]
  simp only [↓reduceIte]
  unfold setAddByScan
  refine wpAny_bind ?_
  refine wpAny_bind (wpAny_rule ?_)
  refine wpAny_bind (wpAny_setScan_of hkey ho hd hf hel ?_)
  have hmem := txt_mem (P := P) g k
  rw [hk] at hmem
  cases hfi : List.findIdx? (fun e => (PySem.strKind P w).is k e.2) es.toList with
  | some j =>
    dsimp only
    obtain ⟨hj, pj, _⟩ := List.findIdx?_eq_some_iff_getElem.mp hfi
    have hin : k ∈ ks := hmem.2 ⟨es.toList[j], List.getElem_mem hj, pj⟩
    refine wpAny_pure (wpAny_pure (hQ _ s.heap ks (Heap.SameBut.refl a s.heap) ?_ R0))
    unfold addTo
    rw [if_pos hin]
  | none =>
    dsimp only
    have hnk : k ∉ ks := fun z => by
      obtain ⟨e, he, q⟩ := hmem.1 z
      rw [List.findIdx?_eq_none_iff.mp hfi e he] at q
      cases q
    have gw : ∀ (b : Bool) {s₁ : Shared} {Q' : Unit → Shared → Prop}, Q' () s₁ → wpAny (model P w) A (match b with | true => rule "set.scan.the-table-gave-way" | false => pure ()) Q' E s₁ :=
      fun b s₁ Q' q => by cases b <;> first | exact wpAny_pure q | exact wpAny_rule q
    have c1 := layNew_perm t es ((PySem.strKind P w).hash k) (.str k tk)
    have c2 := layNew_fits t es ((PySem.strKind P w).hash k) (.str k tk)
    have c3 := L2.layNew_ris t es ((PySem.strKind P w).hash k) (.str k tk) hr
    have c4 := L2.layNew_led t es ((PySem.strKind P w).hash k) (.str k tk)
    revert c1 c2 c3 c4
    generalize layNew t es ((PySem.strKind P w).hash k) (.str k tk) = Z
    obtain ⟨es1, t1, wasDummy, gave⟩ := Z
    intro c1 c2 c3 c4
    dsimp only at c1 c2 c3 c4 ⊢
    rw [Array.toList_push] at c1
    have pk : (es1.toList.map txtOf).Perm (ks ++ [k]) := by
      have := c1.map txtOf
      rwa [List.map_append, hk] at this
    have g1 : ∀ e ∈ es1.toList, IsTxt w e := fun e he => by
      rcases List.mem_append.mp (c1.mem_iff.mp he) with z | z
      · exact g e z
      · rw [List.mem_singleton.mp z]; exact ⟨k, tk, rfl, rfl⟩
    have nd1 : (es1.toList.map txtOf).Nodup := pk.nodup_iff.mpr (List.nodup_append.mpr ⟨nd, by simp, fun x hx y hy e => hnk (by rw [← List.mem_singleton.mp hy, ← e]; exact hx)⟩)
    have hb1 : es1.size < scanBound := by
      have := pk.length_eq
      rw [List.length_map, Array.length_toList, List.length_append] at this
      simp at this
      omega
    have led : w.params.followText "set-order" = true ∨ t1.led = true := hl.imp id fun z => by rw [c4]; exact z
    have fin : ∀ h' ks', Heap.SameBut a s.heap h' → ks'.Perm (es1.toList.map txtOf) → TxtSet w h' a ks' → Q true { s with heap := h' } := fun h' ks' sb pm r => by
      refine hQ true h' ks' sb ?_ r
      unfold addTo
      rw [if_neg hnk]
      exact pm.trans pk
    refine wpAny_bind (gw _ ?_)
    split
    · refine wpAny_bind ?_
      rw [hashByValue_scannable 8 hsc]
      refine wpAny_pure ?_
      refine txt_tail ?_ ho hex hd g1 nd1 hb1 ?_ ?_ ?_ ?_
      · intro b s₁ Q' q; cases b <;> first | exact wpAny_pure q | exact wpAny_rule q
      · first | (split <;> first | exact c2 | exact SetTable.fits_plain_off c2) | exact c2
      · first | (split <;> exact c3) | exact c3
      · first | (split <;> exact led) | exact led
      · intro h' ks' sb pm r; dsimp only; exact wpAny_pure (fin h' ks' sb pm r)
    · refine wpAny_bind (wpAny_pure ?_)
      simp only [↓reduceIte]
      refine txt_tail ?_ ho hex hd g1 nd1 hb1 c2 c3 led ?_
      · intro b s₁ Q' q; cases b <;> first | exact wpAny_pure q | exact wpAny_rule q
      · intro h' ks' sb pm r; dsimp only; exact wpAny_pure (fin h' ks' sb pm r)
end
def Held (w : World) (h : Heap) (a : Addr) (xs : List Str) : Prop := ∃ ks, TxtSet w h a ks ∧ ks.length ≤ xs.length ∧ ∀ k, k ∈ ks ↔ k ∈ xs
theorem mem_addTo {ks xs : List Str} {k : Str} (h : ∀ j, j ∈ ks ↔ j ∈ xs) (j : Str) : j ∈ addTo ks k ↔ j ∈ xs ++ [k] := by
  unfold addTo
  rw [List.mem_append, List.mem_singleton, ← h j]
  split
  · rename_i hk
    exact ⟨.inl, fun z => z.elim id fun e => e ▸ hk⟩
  · rw [List.mem_append, List.mem_singleton]
theorem len_addTo (ks : List Str) (k : Str) : (addTo ks k).length ≤ ks.length + 1 := by
  unfold addTo
  split
  · exact Nat.le_succ _
  · simp
section
variable {P : Program} {w : World} {A : Around} {E : Value → Shared → Prop} {s : Shared}
theorem txt_fresh {h : Heap} {a : Addr} (ho : h.get? a = some { cls := .type "set", dict := none, data := .set #[] 0 (.fresh 0 0 (!w.params.followText "set-order")) }) : Held w h a [] :=
  ⟨[], ⟨_, #[], 0, _, ho, ⟨rfl, rfl, rfl⟩, rfl, (fun e he => by simp at he), rfl, List.nodup_nil, by decide, by rfl, List.Pairwise.nil, by
    show _ ∨ (!w.params.followText "set-order") = true
    cases w.params.followText "set-order"
    · exact .inr rfl
    · exact .inl rfl⟩, Nat.le_refl _, fun _ => Iff.rfl⟩
theorem txt_loop {I : Addr} {fp wr : List Addr} {G : Array GenState → Array GenState → Prop} {n : Nat} {Pv : Nat → Value → Prop} {St : Nat → Shared → Prop} {R : Result → Shared → Prop}
    (W : WalksS P w A.in1 I fp wr G n Pv St) (S : Addr) (hSf : S ∉ fp) (xs : List Str) (hn : n = xs.length) (hb : xs.length + 1 < scanBound) (hval : ∀ i v, Pv i v → ∃ k t, xs[i]? = some k ∧ v = .str k t) :
    ∀ (k i : Nat) (s : Shared), n - i = k → i ≤ n → St i s → Held w s.heap S (xs.take i) →
      (∀ s', Moved (S :: wr) G s s' → Held w s'.heap S xs → R (.ok (.ret .none)) s') →
      codeAny (model P w) A (.builtin "set.update.loop" ⟨[.ref S, .ref I], []⟩) R s := by
  have hSw : S ∉ wr := fun h => hSf (W.sub _ h)
  have hsub : ∀ b ∈ wr, b ∈ S :: wr := fun b hb => List.mem_cons_of_mem _ hb
  intro k
  induction k with
  | zero =>
    intro i s hk' hi hst ⟨ks, hS, hc, hm⟩ hR
    obtain rfl : i = n := by omega
    refine codeAny_builtin F.entry_set_update_loop ?_
    rw [Around.under_plainId F.plain_set_update_loop _]
    show wpAny _ A.in1 (pyNext (.ref I) >>= _) _ _ s
    refine wpAny_bind (W.done s _ _ hst fun s' mv => ?_)
    show wpAny _ A.in1 (ret Value.none) _ _ s'
    rw [List.take_of_length_le (by omega)] at hc hm
    exact wpAny_pure (hR s' (mv.mono hsub) ⟨ks, hS.at fun o e => mv.heap S o hSw e, hc, hm⟩)
  | succ k ih =>
    intro i s hk' hi hst ⟨ks, hS, hc, hm⟩ hR
    have hlt : i < n := by omega
    refine codeAny_builtin F.entry_set_update_loop ?_
    rw [Around.under_plainId F.plain_set_update_loop _]
    show wpAny _ A.in1 (pyNext (.ref I) >>= _) _ _ s
    refine wpAny_bind (W.item i s _ _ hlt hst fun v s' hP hst' mv => ?_)
    obtain ⟨z, t, hz, rfl⟩ := hval i v hP
    have hS' : TxtSet w s'.heap S ks := hS.at fun o e => mv.heap S o hSw e
    show wpAny _ A.in1 (holding [Value.str z t] (setAdd S (.str z t)) >>= _) _ _ s'
    refine wpAny_bind (wpAny_holding ?_)
    unfold setAdd
    refine wpAny_holding ?_
    refine wpAny_bind ((PySem.strKind P w).pyHash (k := z) (beq_self_eq_true z) ?_)
    have hl : ks.length ≤ i := by rw [List.length_take] at hc; omega
    refine txt_add (s := { s' with toks := s'.toks + 1 }) hS' (by omega) fun b h' ks' sb pm hS2 => ?_
    have hS3 : Held w h' S (xs.take (i + 1)) := by
      rw [List.take_add_one, hz]
      refine ⟨ks', hS2, ?_, fun j => by rw [pm.mem_iff]; exact mem_addTo hm j⟩
      have := len_addTo ks z
      rw [pm.length_eq]
      simp only [Option.toList_some, List.length_append, List.length_singleton]
      omega
    refine wpAny_pure ⟨plainId_quiet F.plain_set_update_loop _, ih (i + 1) _ (by omega) hlt (W.frame _ s' _ _ hst' (Nat.le_succ _) fun b hb o e => ?_) hS3 fun s'' mv2 hS'' => ?_⟩
    · rw [sb.2 b (fun h : b = S => hSf (by rw [← h]; exact hb))]; exact e
    · refine hR s'' (Moved.trans W.gtrans ((mv.mono hsub).then_heap (Nat.le_succ _) fun b o hb e => ?_) mv2) hS''
      rw [sb.2 b (fun h : b = S => hb (by rw [h]; exact List.mem_cons_self))]; exact e
end
end PL

set_option Elab.async false
set_option linter.all false
set_option maxRecDepth 100000
set_option maxHeartbeats 3200000
namespace PL
open PySem PySem.Spec PyProof.Rows L2
theorem txt_at : ∀ {vs : List Value} {xs : List Str}, StrsAre vs xs → ∀ (i : Nat) (v : Value), vs[i]? = some v → ∃ k t, xs[i]? = some k ∧ v = .str k t
  | _, _, .nil, i, v, h => by simp at h
  | _, _, .cons x t r, 0, v, h => by
    simp at h
    exact ⟨x, t, rfl, h.symm⟩
  | _, _, .cons x t r, i + 1, v, h => by
    obtain ⟨k, u, h1, h2⟩ := txt_at r i v (by simpa using h)
    exact ⟨k, u, by simpa using h1, h2⟩
section
variable {P : Program} {w : World} {A : Around} {E : Value → Shared → Prop} {s : Shared}
abbrev emptySet (w : World) : Obj := { cls := .type "set", dict := none, data := .set #[] 0 (.fresh 0 0 (!w.params.followText "set-order")) }
theorem txt_init {l : Addr} {items : Array Value} {xs : List Str} {a : Addr} {R : Result → Shared → Prop} (hh : A.handled = none) (hl : s.heap.IsList l items) (hit : StrsAre items.toList xs) (hb : xs.length + 1 < scanBound)
    (ha : s.heap.get? a = some (emptySet w)) (hne : a ≠ l)
    (h : ∀ s', Held w s'.heap a xs → (∀ b o, b ≠ a → s.heap.get? b = some o → s'.heap.get? b = some o) → s' = { s with heap := s'.heap, toks := s'.toks } → R (.ok (.ret .none)) s') :
    wpAny (model P w) A.in1 (Builtin.«set.__init__» ⟨[.ref a, .ref l], []⟩)
      (fun fin s' => match fin with | .done f => R (.ok f) s' | .again c' => c'.quiet = true ∧ codeAny (model P w) A c' R s') (fun e s' => R (.error e) s') s := by
  have hisz : items.size = xs.length := by
    have q := StrsAre.length hit
    rw [Array.length_toList] at q
    exact q
  obtain ⟨ol, hol, hcl, nl, hdl⟩ := hl
  obtain ⟨ocls, odict, odata, oslots⟩ := ol
  simp only at hcl hdl
  subst hcl; subst hdl
  have hsls := F.sub_list_set
  have hslf := F.sub_list_frozenset
  have hne2 : (Value.type "list" == Value.type "dict") = false := by decide
  have hl1 : s.heap.IsList l items := ⟨_, hol, rfl, nl, rfl⟩
  unfold Builtin.«set.__init__» noKeywords Builtin.Frozenset.updateFrom
  generalize hPI : pyIter = PI
  wp_walk
  subst hPI
  refine wpAny_pyIter_list hl1 ?_
  refine wpAny_bind (wpAny_runValue ?_)
  have hla : l < s.heap.objs.size := Heap.lt_size hol
  have haa : a < s.heap.objs.size := Heap.lt_size ha
  have hh3 : A.in1.in1.handled = none := by simp [hh]
  have hSf : a ∉ [s.heap.objs.size, l] := by
    simp only [List.mem_cons, List.mem_singleton, List.not_mem_nil, or_false, not_or]
    exact ⟨Nat.ne_of_lt haa, hne⟩
  have hval : ∀ (i : Nat) (v : Value), items[i]? = some v → ∃ k t, xs[i]? = some k ∧ v = .str k t := fun i v hv => by
    have q : items.toList[i]? = some v := by rw [Array.getElem?_toList]; exact hv
    exact txt_at hit i v q
  refine txt_loop ((Walks.list hh3 _ l (Nat.ne_of_lt hla) items).toS) a hSf xs hisz hb hval (items.size - 0) 0 _ (by omega) (Nat.zero_le _) ⟨⟨_, Heap.get?_push_size _ rfl, rfl, rfl⟩, hl1.push _⟩ (txt_fresh (Heap.get?_push_of_some _ ha)) fun s' hm hS' => ?_
  show wpAny _ _ _ _ _ _
  refine wpAny_pure ?_
  show wpAny _ _ (ret Value.none) _ _ _
  refine wpAny_pure (h s' hS' (fun b o hb e => ?_) ?_)
  · have hb0 : b < s.heap.objs.size := Heap.lt_size e
    exact hm.heap b o (by simp only [List.mem_cons, List.mem_singleton, List.not_mem_nil, or_false, not_or]; exact ⟨hb, Nat.ne_of_lt hb0⟩) (Heap.get?_push_of_some _ e)
  · exact (Moved.eq_with hm :)
theorem txt_call {l : Addr} {items : Array Value} {xs : List Str} {Q : Value → Shared → Prop} (hh : A.handled = none) (hl : s.heap.IsList l items) (hit : StrsAre items.toList xs) (hb : xs.length + 1 < scanBound)
    (h : ∀ (h' : Heap) (tk : Nat), Held w h' s.heap.objs.size xs → (∀ b o, s.heap.get? b = some o → h'.get? b = some o) → Q (.ref s.heap.objs.size) { s with heap := h', toks := tk }) :
    wpAny (model P w) A (call (.type "set") [.ref l]) Q E s := by
  obtain ⟨c, tl, hmro⟩ := F.called_set.mro
  have hmade := F.called_set.made
  have hsub := F.called_set.sub
  refine wpAny_call (codeAny_of_tree ?_)
  show wpAny _ _ (callAny (.type "set") _) _ _ _
  refine wpAny_pure ⟨Code.quiet_builtin _ (by decide +kernel), codeAny_builtin F.entry_type_call ?_⟩
  rw [Around.under_plain (weight_type_call_type "set" [.ref l] []) rfl]
  have h1 := F.called_set.notType
  have h2 := F.called_set.canCreate
  have hct := F.typeCall_set_1 (.ref l)
  repeat (any_goals (first | assumption | wp_step))
  refine codeAny_mono (L2.code_set_led1 (.ref l) (E := E) (Q₁ := fun obj s₁ => obj = .ref s.heap.objs.size ∧ s₁ = { s with heap := s.heap.push (emptySet w) }) ⟨rfl, rfl⟩) fun r s₁ hr => ?_
  cases r with
  | error e => exact hr
  | ok fl =>
    cases fl with
    | ret obj =>
      obtain ⟨rfl, rfl⟩ := hr
      have hS : (s.heap.push (emptySet w)).get? s.heap.objs.size = some (emptySet w) := Heap.get?_push_size _ rfl
      have hT : Shared.TypeIs { s with heap := s.heap.push (emptySet w) } (.ref s.heap.objs.size) "set" := ⟨_, hS, rfl⟩
      have hli := F.called_set.init.lookup
      have hbi := F.called_set.init.bind (.ref s.heap.objs.size)
      obtain ⟨ol, hol, _⟩ := id hl
      have hla : l < s.heap.objs.size := Heap.lt_size hol
      repeat (any_goals (first | assumption | wp_step))
      refine codeAny_mono (codeAny_call_builtin (R := wants (fun r s₂ => r = .none ∧ ∃ h' tk, s₂ = { s with heap := h', toks := tk } ∧ Held w h' s.heap.objs.size xs ∧ (∀ b o, s.heap.get? b = some o → h'.get? b = some o)) E) F.called_set.init.plain F.entry_set_init (check_set_init_1 hT
        (txt_init (R := wants (fun r s₂ => r = .none ∧ ∃ h' tk, s₂ = { s with heap := h', toks := tk } ∧ Held w h' s.heap.objs.size xs ∧ (∀ b o, s.heap.get? b = some o → h'.get? b = some o)) E) hh (hl.push _) hit hb hS (Nat.ne_of_gt hla) fun s' hH hk e => ⟨rfl, s'.heap, s'.toks, e, hH, fun b o e => hk b o (Nat.ne_of_lt (Heap.lt_size e)) (Heap.get?_push_of_some _ e)⟩))) fun r₂ s₂ hr₂ => ?_
      cases r₂ with
      | error e => exact hr₂
      | ok fl₂ =>
        cases fl₂ with
        | ret r =>
          obtain ⟨rfl, h', tk, rfl, hH, hk⟩ := hr₂
          repeat (any_goals (first | assumption | wp_step))
          exact h _ _ hH hk
        | _ => exact hr₂.elim
    | _ => exact hr.elim
end
end PL

set_option Elab.async false
set_option linter.all false
set_option maxRecDepth 100000
set_option maxHeartbeats 3200000
namespace PL
open PySem PySem.Spec PyProof.Rows L2
section
variable {P : Program} {w : World} {A : Around} {E : Value → Shared → Prop} {s : Shared} {a : Addr} {ks : List Str}
theorem txt_strs : ∀ {vs : List Value}, (∀ v ∈ vs, ∃ k t, v = Value.str k t) → StrsAre vs (vs.map fun v => match v with | .str k _ => k | _ => Str.ofString "")
  | [], _ => .nil
  | v :: vs, h => by
    obtain ⟨k, t, rfl⟩ := h v List.mem_cons_self
    exact .cons k t (txt_strs fun u hu => h u (List.mem_cons_of_mem _ hu))
theorem txt_sorted {Q : Value → Shared → Prop} (R : TxtSet w s.heap a ks) (hh : A.handled = none) (h64 : ks.length < 64)
    (hQ : ∀ s' p (out : Array Value) (c : Nat) (ys : List Str), (∀ b o, s.heap.get? b = some o → s'.heap.get? b = some o) → s'.gens = s.gens → s'.os = s.os → s.heap.objs.size ≤ p →
      s'.heap.get? p = some (seqObj "list" out c) → StrsAre out.toList ys → ys.Perm ks → sortedS ys = true → Q (.ref p) s') :
    wpAny (model P w) A (call (.builtin "sorted") [.ref a]) Q E s := by
  obtain ⟨o, es, ep, t, ho, hex, hd, g, hk, nd, hb, hf, hr, hl⟩ := R.out
  refine Calls.call_function_entry kind_sorted plain_sorted entry_sorted (args_sorted1 _) ?_
  unfold Builtin.«sorted»
  refine wpAny_bind (m := checkCount "sorted" 1 1 _) (wpAny_pure ?_)
  refine wpAny_bind (L2.collect_set (A := A.in1) hh ⟨o, ho, hex.1, hd⟩ hf hb hr hl fun s1 vs k1 hz g1 o1 pm => ?_)
  have hvs : ∀ v ∈ vs, ∃ k t, v = Value.str k t := fun v hv => by
    obtain ⟨e, he, q⟩ := List.mem_map.mp (pm.mem_iff.mp hv)
    obtain ⟨k, tk, h1, _⟩ := g e he
    exact ⟨k, tk, by rw [← q]; exact h1⟩
  have hI := txt_strs hvs
  have pk : (vs.map fun v => match v with | .str k _ => k | _ => Str.ofString "").Perm ks := by
    have q := pm.map fun v => match v with | .str k _ => k | _ => Str.ofString ""
    rw [List.map_map] at q
    rw [← hk]
    exact q
  generalize (vs.map fun v => match v with | .str k _ => k | _ => Str.ofString "") = zs at hI pk
  have hvl : vs.length = ks.length := by rw [hI.length, pk.length_eq]
  refine wpAny_bind (wpAny_newList ?_ (by rw [hvl, sizeLine_eq]; omega))
  have hoL : (s1.heap.push (seqObj "list" vs.toArray 0)).get? s1.heap.objs.size = some (seqObj "list" vs.toArray 0) := Heap.get?_push_size _ rfl
  refine wpAny_bind (wpAny_holding (wpAny_call_entry slot_list_sort ⟨_, hoL, rfl⟩ entry_list_sort
    (list_sort_treeK strKind_oneLt hoL hI.keysOf (fun v₁ v₂ rest e => keyKind_strs (by rw [← e]; exact hI)) (by rw [hvl]; exact h64) fun st' hp hs => ⟨_, rfl, ?_⟩) (args_list_sort _)))
  obtain ⟨ys, q1, q2, q3⟩ := sorted_out_str hI hp hs
  obtain ⟨c, hc⟩ := sortedHeap_at (vs := vs) (out := (arrOf st').map (·.2)) hoL
  refine wpAny_pure ⟨_, rfl, hQ _ s1.heap.objs.size ((arrOf st').map (·.2)).toList.toArray c ys (fun b u e => ?_) g1 o1 hz (by rw [Array.toArray_toList]; exact hc) (by simpa using q1) (q2.trans pk) q3⟩
  have q := k1 b u e
  have hlt := Heap.lt_size q
  show (sortedHeap (s1.heap.push (seqObj "list" vs.toArray 0)) s1.heap.objs.size vs _).get? b = some u
  rw [sortedHeap_old (Nat.ne_of_lt hlt) (by rw [size_push']; exact Nat.lt_succ_of_lt hlt)]
  exact Heap.get?_push_of_some _ q
end
def SameMem (ys xs : List Str) : Prop := ys.Nodup ∧ ∀ k, k ∈ ys ↔ k ∈ xs
section
variable {X : Cx}
def tSortSet (K : PySem.W.Frag) (te : TE) : TE := fun σ H Q => te σ H fun v H1 => ∃ (a : Addr) (xs : List Str), v = .ref a ∧ SqL K H1 a (xs.map V.str) ∧ xs.length < 64 ∧
  ∀ (ys : List Str) q, SameMem ys xs → sortedS ys = true → H1 q = none → Q (.ref q) (upd H1 q (.lst (ys.map V.str)))
def tLenSetS (K : PySem.W.Frag) (te : TE) : TE := fun σ H Q => te σ H fun v H1 => ∃ (a : Addr) (xs : List Str), v = .ref a ∧ SqL K H1 a (xs.map V.str) ∧ xs.length < 64 ∧
  ∀ (ys : List Str), SameMem ys xs → Q (.int ys.length) H1
theorem TxtSet.nodup {w : World} {h : Heap} {a : Addr} {ks : List Str} (R : TxtSet w h a ks) : ks.Nodup := by
  obtain ⟨o, es, ep, t, ho, hex, hd, g, hk, nd, _⟩ := R.out
  exact nd
theorem pe_sortSet {e : Expr} {te : TE} {p p2 pos pos2 : Pos} (hc : X.calm = true) (hg : Gl X "sorted") (hm : X.mg "sorted" = none) (hg2 : Gl X "set") (hm2 : X.mg "set" = none) (he : PE X e te)
    (hs : starEach [e] X.env = (false, eval e X.env) :: starEach [] X.env := by rfl) :
    PE X (.Call (.Name "sorted" p) [.Call (.Name "set" p2) [e] [] pos2] [] pos) (tSortSet X.K te) := by
  refine ⟨fun pins s σ H Q I h => ?_⟩
  refine Call_ (ld_blt I hg hm boot_sorted ?_)
  refine PyProof.Rows.callWith_builtin1 (PyProof.Rows.args_cons ?_ rfl) rfl rfl
  refine Call_ (ld_blt I hg2 hm2 boot_set ?_)
  refine PyProof.Rows.callWith_type1 (PyProof.Rows.args_cons (thn (he.run pins s σ H _ I h) fun v s1 ⟨x, H1, I1, r1, q1⟩ => PyProof.Rows.args_nil ?_) hs) hs rfl
  obtain ⟨l, xs, rfl, hq, h64, q1⟩ := q1
  cases r1
  obtain ⟨its, r, pl, hz⟩ := I1.list hq
  refine txt_call (I1.ok.hd hc) pl.isList (xs := xs) (by simpa using r.strs) (by unfold scanBound; omega) fun h' tk ⟨ks, hS, hl, hmem⟩ hk => ?_
  refine PyProof.Rows.args_nil ?_
  have I2 : Inv X pins σ H1 { s1 with heap := h', toks := tk } := I1.kept hk
  obtain ⟨sx, hsx⟩ : ∃ sx : Shared, sx = { s1 with heap := h', toks := tk } := ⟨_, rfl⟩
  rw [← hsx] at I2 ⊢
  have hS : TxtSet X.w sx.heap s1.heap.objs.size ks := by rw [hsx]; exact hS
  refine txt_sorted hS (I1.ok.hd hc) (by omega) fun s' p out c ys k g o hp hg hi hpm hso => ?_
  have hlen : (ys.map V.str).length ≤ sizeLine := by rw [List.length_map, hpm.length_eq, sizeLine_eq]; omega
  have hn : H1 p = none := I2.hok.fresh hp
  have J : Inv X pins σ (upd H1 p (.lst (ys.map V.str))) { sx with heap := s'.heap, gens := s'.gens, drawn := s'.drawn, toks := s'.toks } :=
    I2.call (ch := []) (Un.laid k hp hn) (I2.hok.laid k hp ⟨hlen, out.toList, c, vals_of_strs hi, hg⟩) (by rw [g]; exact I2.bare) (fun _ z => nomatch z)
  have e : s' = { sx with heap := s'.heap, gens := s'.gens, drawn := s'.drawn, toks := s'.toks } := by
    clear hsx I2 hS
    cases s'
    cases sx
    cases o
    rfl
  rw [e]
  exact ⟨.ref p, _, J, rfl, q1 ys p ⟨hpm.nodup_iff.mpr hS.nodup, fun j => by rw [hpm.mem_iff]; exact hmem j⟩ hso hn⟩
theorem pe_lenSetS {e : Expr} {te : TE} {p p2 pos pos2 : Pos} (hc : X.calm = true) (hg : Gl X "len") (hm : X.mg "len" = none) (hg2 : Gl X "set") (hm2 : X.mg "set" = none) (he : PE X e te)
    (hs : starEach [e] X.env = (false, eval e X.env) :: starEach [] X.env := by rfl) :
    PE X (.Call (.Name "len" p) [.Call (.Name "set" p2) [e] [] pos2] [] pos) (tLenSetS X.K te) := by
  refine ⟨fun pins s σ H Q I h => ?_⟩
  refine Call_ (ld_blt I hg hm boot_len ?_)
  refine PyProof.Rows.callWith_builtin1 (PyProof.Rows.args_cons ?_ rfl) rfl rfl
  refine Call_ (ld_blt I hg2 hm2 boot_set ?_)
  refine PyProof.Rows.callWith_type1 (PyProof.Rows.args_cons (thn (he.run pins s σ H _ I h) fun v s1 ⟨x, H1, I1, r1, q1⟩ => PyProof.Rows.args_nil ?_) hs) hs rfl
  obtain ⟨l, xs, rfl, hq, h64, q1⟩ := q1
  cases r1
  obtain ⟨its, r, pl, hz⟩ := I1.list hq
  refine txt_call (I1.ok.hd hc) pl.isList (xs := xs) (by simpa using r.strs) (by unfold scanBound; omega) fun h' tk ⟨ks, hS, hl, hmem⟩ hk => ?_
  refine PyProof.Rows.args_nil ?_
  have I2 : Inv X pins σ H1 { s1 with heap := h', toks := tk } := I1.kept hk
  have nd := hS.nodup
  obtain ⟨o, es, ep, t, ho, hex, hd, g, hk2, _, hb, hf, _⟩ := hS.out
  have hn : es.size = ks.length := by rw [← hk2, List.length_map, Array.length_toList]
  refine call_len_set ho hex hd hf (by rw [hn] <;> omega) ⟨.int ks.length, H1, I2.tok _, ⟨_, by rw [hn]⟩, q1 ks ⟨nd, hmem⟩⟩
end
def wSortSet (we : WE) : WE := fun env S K KX => we env S (fun x S1 => pGet (lsD S1 x) fun ds => ∃ xs : List Str, ds = xs.map (fun s => .z (.str s)) ∧ pReq (xs.length < 64) (∀ ys, SameMem ys xs → sortedS ys = true → K (.r S1.length) (S1 ++ [.lst (ys.map fun s => .z (.str s))]))) KX
def wLenSet (we : WE) : WE := fun env S K KX => we env S (fun x S1 => pGet (lsD S1 x) fun ds => ∃ xs : List Str, ds = xs.map (fun s => .z (.str s)) ∧ pReq (xs.length < 64) (∀ ys, SameMem ys xs → K (.z (.int ys.length)) S1)) KX
theorem rp_strs {B : Hp} {w : Wd} : ∀ ys : List Str, RpsW B w (ys.map fun s => .z (.str s)) (ys.map V.str)
  | [] => .nil
  | y :: ys => .cons (.z (.str y)) (rp_strs ys)
section
variable {X : Cx} {B F0 : Hp} {W : WX} {e : Expr} {we : WE} {p p2 pos pos2 : Pos}
theorem xsortset (hc : X.calm = true) (hg : Gl X "sorted") (hm : X.mg "sorted" = none) (hg2 : Gl X "set") (hm2 : X.mg "set" = none) (he : PX X B F0 W e we)
    (hs : starEach [e] X.env = (false, eval e X.env) :: starEach [] X.env := by rfl) :
    PX X B F0 W (.Call (.Name "sorted" p) [.Call (.Name "set" p2) [e] [] pos2] [] pos) (wSortSet we) := wkE (pe_sortSet hc hg hm hg2 hm2 he hs) fun σ H Q h => by
  obtain ⟨w, env, K, KX, R, E, h, k, kx⟩ := h
  refine ⟨w, env, _, KX, R, E, h, fun x S1 v H1 μ1 F1 R1 X1 r1 h1 => ?_, kx⟩
  obtain ⟨ds, e, xs, rfl, h1⟩ := h1.out
  obtain ⟨h64, h1⟩ := h1.out
  obtain ⟨a, vs, rfl, hs, rv⟩ := lsD_ok (w := ⟨μ1, S1, F1⟩) R1 r1 e
  have ev := RpDs.strs rv
  subst ev
  exact ⟨a, xs, rfl, .inl hs, h64, fun ys q hm hs hq => (k.xt X1).newL (w := ⟨μ1, S1, F1⟩) R1 (rp_strs ys) (h1 ys hm hs) hq⟩
theorem xlenset (hc : X.calm = true) (hg : Gl X "len") (hm : X.mg "len" = none) (hg2 : Gl X "set") (hm2 : X.mg "set" = none) (he : PX X B F0 W e we)
    (hs : starEach [e] X.env = (false, eval e X.env) :: starEach [] X.env := by rfl) :
    PX X B F0 W (.Call (.Name "len" p) [.Call (.Name "set" p2) [e] [] pos2] [] pos) (wLenSet we) := wkE (pe_lenSetS hc hg hm hg2 hm2 he hs) fun σ H Q h => by
  obtain ⟨w, env, K, KX, R, E, h, k, kx⟩ := h
  refine ⟨w, env, _, KX, R, E, h, fun x S1 v H1 μ1 F1 R1 X1 r1 h1 => ?_, kx⟩
  obtain ⟨ds, e, xs, rfl, h1⟩ := h1.out
  obtain ⟨h64, h1⟩ := h1.out
  obtain ⟨a, vs, rfl, hs, rv⟩ := lsD_ok (w := ⟨μ1, S1, F1⟩) R1 r1 e
  have ev := RpDs.strs rv
  subst ev
  exact ⟨a, xs, rfl, .inl hs, h64, fun ys hm => (k.xt X1).int (w := ⟨μ1, S1, F1⟩) R1 (h1 ys hm)⟩
end
structure pAny' {α : Type} (p : α → Prop) (k : α → Prop) : Prop where
  mk' ::
  out : ∃ x, p x ∧ k x
theorem pAny'.mk {α : Type} {p : α → Prop} {k : α → Prop} (x : α) (h : p x) (q : k x) : pAny' p k := ⟨⟨x, h, q⟩⟩
theorem kv_keys {B : Hp} {w : Wd} : ∀ {kvs : List (Key × D)} {ws : List (Key × V)}, KvW B w kvs ws → ws.map (·.1) = kvs.map (·.1)
  | [], _, h => by cases h; rfl
  | _ :: _, _, h => by cases h with | cons a t => rw [List.map_cons, List.map_cons, kv_keys t, a.1]
end PL

set_option Elab.async false
set_option linter.all false
set_option maxRecDepth 100000
set_option maxHeartbeats 1000000
namespace PL
open PySem L2

structure bLtG (x y : D) (S : Sto) (k : Bool → Prop) : Prop where
  out : ∃ d e, Vw S x d ∧ Vw S y e ∧ PySem.W.alike d e = true ∧ d ≠ .none ∧ d.depth ≤ 64 ∧ k (PySem.W.dataLt d e)
def bLtD : B2 := fun x y S k => match x, y with
  | .z (.int i), .z (.int j) => k (decide (i < j))
  | x, y => bLtG x y S k
section
variable {X : Cx} {B F0 : Hp}
theorem oLtD (hu : X.A.units + 100 < cLine) : OpR X (compareOp .Lt) (r2 B F0 (cB bLtD)) := cmpR fun {pins s σ H x y v u w dx dy k Q} I rx ry R q1 q2 h kb => by
  unfold bLtD at h
  split at h
  · rw [rpInt q1] at rx; rw [rpInt q2] at ry
    exact op_lt pins s σ H _ _ v u Q I rx ry ⟨_, _, rfl, rfl, kb _ h⟩
  · obtain ⟨d, e, w1, w2, ha, hn, hd, h⟩ := h.out
    obtain ⟨as, r1⟩ := Dp.reads I d x v (RpT.dp R.fh _ _ (Vw.rp R _ _ _ w1 q1)) rx
    obtain ⟨bs, r2⟩ := Dp.reads I e y u (RpT.dp R.fh _ _ (Vw.rp R _ _ _ w2 q2)) ry
    have hm : min d.depth e.depth ≤ d.depth := Nat.min_le_left _ _
    exact PySem.W.lt_data r1 r2 ha hn (by omega) ⟨.bl _, H, I, rfl, kb _ h⟩
structure SortIn (S : Sto) (x : D) (bs : List (D × PyData)) : Prop where
  ls : lsD S x = some (bs.map (·.1))
  vw : ∀ b ∈ bs, Vw S b.1 b.2
  al : PySem.W.AllAlike (bs.map (·.2))
  so : PySem.W.Sortable (bs.map (·.2))
  dp : ∀ b ∈ bs, b.2.depth ≤ 64
  sz : bs.length ≤ sizeLine
abbrev sortB (bs : List (D × PyData)) : List (D × PyData) := bs.mergeSort (PySem.W.dataLe false (·.2))
structure SortOk (S : Sto) (x : D) (K : K1) : Prop where
  out : (∃ bs, SortIn S x bs ∧ K (.r S.length) (S ++ [.lst ((sortB bs).map (·.1))])) ∨
    ∃ n kvs ks, x = .r n ∧ dcR S n = some kvs ∧ kvs.map (·.1) = ks.map Sum.inr ∧ ks.length < 64 ∧ ∀ ys, ys.Perm ks → PyProof.Rows.sortedS ys = true → K (.r S.length) (S ++ [.lst (ys.map fun s => .z (.str s))])
def pSorted : PL := fun xs S K => match xs with
  | [x] => SortOk S x K
  | _ => False
theorem each_of {B : Hp} {w : Wd} : ∀ {bs : List (D × PyData)} {vs : List V} {us : List Value}, RpsW B w (bs.map (·.1)) vs → Vals vs us → PySem.W.EachIs (fun (v : Value) (b : D × PyData) => ∃ x : V, RelV x v ∧ RpW B w b.1 x) us bs
  | [], _, _, r, t => by cases r; cases t; exact .nil
  | b :: bs, _, _, r, t => by
    cases r with
    | cons r1 r2 => cases t with | cons t1 t2 => exact .cons ⟨_, t1, r1⟩ (each_of r2 t2)
theorem of_each {B : Hp} {w : Wd} : ∀ {us : List Value} {bs : List (D × PyData)}, PySem.W.EachIs (fun (v : Value) (b : D × PyData) => ∃ x : V, RelV x v ∧ RpW B w b.1 x) us bs → ∃ vs, RpsW B w (bs.map (·.1)) vs ∧ Vals vs us
  | _, _, .nil => ⟨[], .nil, .nil⟩
  | _, _, .cons ⟨x, h1, h2⟩ t => by
    obtain ⟨vs, q1, q2⟩ := of_each t
    exact ⟨x :: vs, .cons h2 q1, .cons h1 q2⟩
theorem each_reads {B : Hp} {pins : List (Addr × Obj)} {s : Shared} {σ : St} {H : Hp} {w : Wd} (I : Inv X pins σ H s) (R : RlW B F0 w H) : ∀ {us : List Value} {bs : List (D × PyData)}, (∀ b ∈ bs, Vw w.S b.1 b.2) → PySem.W.EachIs (fun (v : Value) (b : D × PyData) => ∃ x : V, RelV x v ∧ RpW B w b.1 x) us bs →
    PySem.W.EachIs (fun v b => ∃ as, Reads s.heap v b.2 as) us bs
  | _, _, _, .nil => .nil
  | _, _, hv, .cons ⟨x, h1, h2⟩ t => .cons (Dp.reads I _ x _ (RpT.dp R.fh _ _ (Vw.rp R _ _ _ (hv _ List.mem_cons_self) h2)) h1) (each_reads I R (fun b hb => hv b (List.mem_cons_of_mem _ hb)) t)
theorem oSorted (hu : X.A.units + 100 < cLine) (hc : X.calm = true) : CallR X (.builtin "sorted") (rL B F0 pSorted) := callR fun {pins s σ H vs us w ds K Q} I r R q h k => by
  unfold pSorted at h
  split at h
  · obtain ⟨v, rfl, q9⟩ := q.one
    rcases h.out with ⟨bs, hi, h2⟩ | ⟨n, kvs, ks, rfl, e, hk, h64, h2⟩
    · obtain ⟨a, xs, rfl, hs, rv⟩ := lsD_ok (w := w) R q9 hi.ls
      obtain ⟨u, rfl, ru⟩ := vals1 r
      cases ru
      obtain ⟨its, rt, pl, hz⟩ := I.list (.inl hs)
      have E0 := each_of rv rt
      refine PySem.W.sorted_data (bs := bs) (enc := (·.2)) pl.isList E0 (each_reads I R hi.vw E0) hi.al hi.so hi.sz (fun b hb => by have := hi.dp b hb; omega) fun out hl hE => ?_
      obtain ⟨zs, z1, z2⟩ := of_each hE
      obtain ⟨ep, he'⟩ := PyProof.Rows.sortedAll_at s.heap its out.toArray
      have hlen : zs.length ≤ sizeLine := by rw [z2.length, hl]; exact hi.sz
      exact ⟨.ref _, upd H (s.heap.objs.size + 1) (.lst zs), I.laid (t' := s.toks) (fun _ _ => PyProof.Rows.sortedAll_old) (Nat.le_succ _) ⟨hlen, out, ep, z2, he'⟩, rfl, k.newL R z1 h2 (I.hok.fresh (Nat.le_succ _))⟩
    · obtain ⟨hn, ws, hv, rv⟩ := dcR_ok R e
      cases q9
      exact call_sortedD hc pins s σ H _ us Q I r ⟨_, ws, ks, rfl, .inl hv, by rw [kv_keys rv]; exact hk, h64, fun ys p hp hs hq => k.newL R (rp_strs ys) (h2 ys hp hs) hq⟩
  · exact h.elim
end
end PL

set_option Elab.async false
set_option linter.all false
set_option maxRecDepth 100000
namespace PL
open PySem L2
section
variable {X : Cx} {B F0 : Hp} {W : WX} {x : Str} {p pos : Pos} {k : Nat} {ps : List Str} {sp : Spc}
end
section
variable {X : Cx} {B F0 : Hp} {W : WX} {e : Expr} {we : WE} {p1 p2 p3 pos : Pos} {k : Nat}
end
theorem pLc_xsG {α : Type} {src : Src} {tg : D → Env → Option Env} {we : WE} {env : Env} {fin : Sto → Prop} {S : Sto} (xs : List α) (it f : α → D) (e : src.items = xs.map it) (hz : xs.length < 1000000) (hok : ∀ acc T, src.ok (S ++ (.lst acc :: T)))
    (he : ∀ (i : Nat) (x : α), xs[i]? = some x → ∃ env2, tg (it x) env = some env2 ∧ ∀ (acc : List D) (T : Sto) (K : K1), (∀ T', K (f x) (S ++ (.lst acc :: (T ++ T')))) → we env2 (S ++ (.lst acc :: T)) K X0)
    (hf : ∀ T, fin (S ++ (.lst (xs.map f) :: T))) : pLc src tg wYes we S.length env fin src.items (S ++ [.lst []]) := by
  have hl : src.items.length = xs.length := by rw [e, List.length_map]
  refine pLc_each (fun j S' => j ≤ xs.length ∧ ∃ T, S' = S ++ (.lst ((xs.take j).map f) :: T)) ⟨Nat.zero_le _, [], rfl⟩ (fun i S' _ h => by obtain ⟨_, T, rfl⟩ := h; exact hok _ _) ?_ ?_
  · rintro j d _ Q hj ⟨_, T, rfl⟩ hQ
    rw [e, List.getElem?_map] at hj
    cases hx : xs[j]? with
    | none => rw [hx] at hj; cases hj
    | some x =>
      rw [hx] at hj
      obtain rfl := Option.some.inj hj
      have hlt := (List.getElem?_eq_some_iff.mp hx).1
      obtain ⟨env2, h1, h2⟩ := he j x hx
      refine pGet.mk h1 (pIf.tt rfl (h2 _ T _ fun T' => ?_))
      refine pGet.mk (x := (xs.take j).map f) (lsR_at (by simp)) (pReq.mk (sz_lt6 (by rw [List.length_map, List.length_take]; omega)) (hQ _ ⟨hlt, T ++ T', ?_⟩))
      rw [List.set_append_right _ _ (Nat.le_refl _), Nat.sub_self, List.take_add_one, hx]
      simp
  · rintro S' ⟨_, T, rfl⟩
    rw [hl, List.take_length]
    exact hf T
theorem pLc_rgG {lo : Int} {n : Nat} {tg : D → Env → Option Env} {we : WE} {env : Env} {fin : Sto → Prop} {S : Sto} (f : Nat → D) (hz : n < 1000000)
    (he : ∀ i, i < n → ∃ env2, tg (.z (.int (lo + (i : Int)))) env = some env2 ∧ ∀ (acc : List D) (T : Sto) (K : K1), (∀ T', K (f i) (S ++ (.lst acc :: (T ++ T')))) → we env2 (S ++ (.lst acc :: T)) K X0)
    (hf : ∀ T, fin (S ++ (.lst ((List.range n).map f) :: T))) : pLc (rgD lo n) tg wYes we S.length env fin (rgD lo n).items (S ++ [.lst []]) :=
  pLc_xsG (List.range n) (fun i => .z (.int (lo + (i : Int)))) f rfl (by rw [List.length_range]; exact hz) (fun _ _ => trivial) (fun i x hx => by
    have hi := (List.getElem?_eq_some_iff.mp hx).1
    rw [List.length_range] at hi
    rw [List.getElem?_range hi] at hx
    cases hx
    exact he i hi) hf
end PL

set_option Elab.async false
set_option linter.all false
set_option maxRecDepth 100000
namespace PL
open PySem L2
mutual
theorem al_vr : ∀ (r : RT) (S T : Sto), ∃ ns, (∀ U, VR (S ++ ((al r S.length).2 ++ T)) U (al r S.length).1 r ns) ∧ ns.Nodup ∧ ∀ m ∈ ns, S.length ≤ m ∧ m < S.length + (al r S.length).2.length
  | .z d, S, T => ⟨[], fun U => by unfold al; exact .z .z, List.nodup_nil, fun _ h => by cases h⟩
  | .l rs, S, T => by
    obtain ⟨ns, h1, h2, h3⟩ := als_vr rs S ([.lst (als rs S.length).1] ++ T)
    unfold al
    refine ⟨ns ++ [S.length + (als rs S.length).2.length], fun U => .l ?_ (by rw [List.append_assoc]; exact h1 U), List.nodup_append.mpr ⟨h2, by simp, fun a ha b hb e => ?_⟩, fun m hm => ?_⟩
    · rw [List.getElem?_append_right (by omega), List.append_assoc, List.getElem?_append_right (by omega), show S.length + (als rs S.length).2.length - S.length - (als rs S.length).2.length = 0 by omega]
      rfl
    · have := h3 a ha
      simp at hb
      omega
    · rw [List.length_append, List.length_singleton]
      rcases List.mem_append.mp hm with hm | hm
      · have := h3 m hm; omega
      · simp at hm; omega
  | .t rs, S, T => by
    obtain ⟨ns, h1, h2, h3⟩ := als_vr rs S T
    unfold al
    exact ⟨ns, fun U => .t (h1 U), h2, h3⟩
theorem als_vr : ∀ (rs : List RT) (S T : Sto), ∃ ns, (∀ U, VRs (S ++ ((als rs S.length).2 ++ T)) U (als rs S.length).1 rs ns) ∧ ns.Nodup ∧ ∀ m ∈ ns, S.length ≤ m ∧ m < S.length + (als rs S.length).2.length
  | [], S, T => ⟨[], fun U => by unfold als; exact .nil, List.nodup_nil, fun _ h => by cases h⟩
  | r :: rs, S, T => by
    obtain ⟨ns, h1, h2, h3⟩ := al_vr r S ((als rs (S.length + (al r S.length).2.length)).2 ++ T)
    obtain ⟨ms, k1, k2, k3⟩ := als_vr rs (S ++ (al r S.length).2) T
    rw [List.length_append] at k1 k3
    unfold als
    refine ⟨ns ++ ms, fun U => .cons (by rw [List.append_assoc]; exact h1 U) (by rw [List.append_assoc, ← List.append_assoc]; exact k1 U), List.nodup_append.mpr ⟨h2, k2, fun a ha b hb e => ?_⟩, fun m hm => ?_⟩
    · have := h3 a ha
      have := k3 b hb
      omega
    · rw [List.length_append]
      rcases List.mem_append.mp hm with hm | hm
      · have := h3 m hm; omega
      · have := k3 m hm; omega
end
theorem ret_al {r : RT} {S : Sto} {K : K1} (h : ∀ d S' U, VR S' U d r U → U.Nodup → K d S') : K (al r S.length).1 (S ++ (al r S.length).2) := by
  obtain ⟨U, h1, h2, _⟩ := al_vr r S []
  simp only [List.append_nil] at h1
  exact h _ _ U (h1 U) h2
theorem pLc_nest {α : Type} {src : Src} {tg : D → Env → Option Env} {we : WE} {env : Env} {fin : Sto → Prop} {S : Sto} (xs : List α) (it : α → D) (rows : α → List D) (e : src.items = xs.map it) (hz : xs.length < 1000000) (hok : ∀ acc T, src.ok (S ++ (.lst acc :: T)))
    (he : ∀ x ∈ xs, ∃ env2, tg (it x) env = some env2 ∧ ∀ (S1 : Sto) (K : K1), (∃ acc T, S1 = S ++ (.lst acc :: T)) → K (.r S1.length) (S1 ++ [.lst (rows x)]) → we env2 S1 K X0)
    (hf : fin (S ++ (.lst ((List.range xs.length).map fun i => .r (S.length + 1 + i)) :: xs.map fun x => .lst (rows x)))) : pLc src tg wYes we S.length env fin src.items (S ++ [.lst []]) := by
  have hl : src.items.length = xs.length := by rw [e, List.length_map]
  refine pLc_each (fun j S' => j ≤ xs.length ∧ S' = S ++ (.lst ((List.range j).map fun i => .r (S.length + 1 + i)) :: (xs.take j).map fun x => .lst (rows x))) ⟨Nat.zero_le _, rfl⟩ (fun i S' _ h => by obtain ⟨_, rfl⟩ := h; exact hok _ _) ?_ ?_
  · rintro j d _ Q hj ⟨_, rfl⟩ hQ
    rw [e, List.getElem?_map] at hj
    cases hx : xs[j]? with
    | none => rw [hx] at hj; cases hj
    | some x =>
      rw [hx] at hj
      obtain rfl := Option.some.inj hj
      have hlt := (List.getElem?_eq_some_iff.mp hx).1
      obtain ⟨env2, h1, h2⟩ := he x (List.mem_of_getElem? hx)
      refine pGet.mk h1 (pIf.tt rfl (h2 _ _ ⟨_, _, rfl⟩ ?_))
      refine pGet.mk (x := (List.range j).map fun i => .r (S.length + 1 + i)) (lsR_at (by simp)) (pReq.mk (sz_lt6 (by rw [List.length_map, List.length_range]; omega)) (hQ _ ⟨hlt, ?_⟩))
      rw [List.append_assoc, List.set_append_right _ _ (Nat.le_refl _), Nat.sub_self, List.take_add_one, hx, List.range_succ, List.map_append, List.map_append]
      have el : (S ++ (Ob.lst ((List.range j).map fun i => D.r (S.length + 1 + i)) :: (xs.take j).map fun x => Ob.lst (rows x))).length = S.length + 1 + j := by
        rw [List.length_append, List.length_cons, List.length_map, List.length_take]; omega
      rw [el]
      rfl
  · rintro S' ⟨_, rfl⟩
    rw [hl, List.take_length]
    exact hf
end PL

set_option Elab.async false
set_option linter.all false
set_option maxRecDepth 100000
namespace PL
open PySem L2
abbrev HX := NestedKey → Int
mutual
def nkOf : PyData → Option NestedKey
  | .none => some .none
  | .int i => some (.num i)
  | .str x => some (.text x)
  | .tuple ds => (nksOf ds).map .tup
  | _ => none
def nksOf : List PyData → Option (List NestedKey)
  | [] => some []
  | d :: ds => match nkOf d, nksOf ds with
    | some k, some ks => some (k :: ks)
    | _, _ => none
end
mutual
theorem nkOf_data : ∀ (d : PyData) (k : NestedKey), nkOf d = some k → k.data = d
  | .none, _, h => by simp [nkOf] at h; subst h; simp [NestedKey.data]
  | .int i, _, h => by simp [nkOf] at h; subst h; simp [NestedKey.data]
  | .str x, _, h => by simp [nkOf] at h; subst h; simp [NestedKey.data]
  | .tuple ds, k, h => by
    rw [nkOf] at h
    cases e : nksOf ds with
    | none => rw [e] at h; cases h
    | some ks => rw [e] at h; cases h; rw [NestedKey.data, nksOf_data ds ks e]
  | .bool _, _, h => by simp [nkOf] at h
  | .list _, _, h => by simp [nkOf] at h
  | .dict _, _, h => by simp [nkOf] at h
theorem nksOf_data : ∀ (ds : List PyData) (ks : List NestedKey), nksOf ds = some ks → NestedKey.datas ks = ds
  | [], _, h => by simp [nksOf] at h; subst h; simp [NestedKey.datas]
  | d :: ds, ks, h => by
    rw [nksOf] at h
    cases e1 : nkOf d with
    | none => rw [e1] at h; cases h
    | some k =>
      cases e2 : nksOf ds with
      | none => rw [e1, e2] at h; cases h
      | some ks2 =>
        rw [e1, e2] at h
        cases h
        rw [NestedKey.datas, nkOf_data d k e1, nksOf_data ds ks2 e2]
end
def keyN : D → Option NestedKey
  | .z (.tuple ds) => (nksOf ds).bind fun ks => if (NestedKey.tup ks).depth ≤ 8 then some (.tup ks) else none
  | _ => none
section
variable {P : Program} {w : World} {F H : Hp} {h : Heap}
mutual
theorem nk_is (ok : HOk P w H h) (hF : Sub F H) : ∀ (k : NestedKey) (v : V) (u : Value), RpT (LF F) (TF F) k.data v → RelV v u → NestedIs h k u
  | .none, v, u, r, q => by
    rw [NestedKey.data] at r
    cases r
    cases (show u = Value.none from q)
    exact .none
  | .num i, v, u, r, q => by
    rw [NestedKey.data] at r
    cases r
    obtain ⟨t, rfl⟩ := (show ∃ t, u = Value.int i t from q)
    exact .int i t
  | .text x, v, u, r, q => by
    rw [NestedKey.data] at r
    cases r
    obtain ⟨t, rfl⟩ := (show ∃ t, u = Value.str x t from q)
    exact .text x t
  | .tup ks, v, u, r, q => by
    rw [NestedKey.data] at r
    cases r with
    | tup e rs =>
      rename_i a vs
      cases (show u = Value.ref a from q)
      obtain ⟨_, its, rv, o, h1, h2, n, h3⟩ := (show ObjOk P w H h a (.tup vs) from ok a _ (hF _ _ e))
      exact .tup h1 h2 h3 (by simpa using nks_is ok hF ks vs its rs rv)
theorem nks_is (ok : HOk P w H h) (hF : Sub F H) : ∀ (ks : List NestedKey) (vs : List V) (us : List Value), RpTs (LF F) (TF F) (NestedKey.datas ks) vs → Vals vs us → NestedAll h ks us
  | [], vs, us, r, q => by
    rw [NestedKey.datas] at r
    cases r; cases q
    exact .nil
  | k :: ks, vs, us, r, q => by
    rw [NestedKey.datas] at r
    cases r with
    | cons r1 r2 =>
      cases q with
      | cons q1 q2 => exact .cons (nk_is ok hF k _ _ r1 q1) (nks_is ok hF ks _ _ r2 q2)
end
end
def kAt (kvs : List (NestedKey × D)) (k : NestedKey) : Option D := (kvs.find? fun p => decide (p.1 = k)).map (·.2)
inductive KdAt (hx : HX) (S : Sto) (n : Nat) : List (NestedKey × D) → Prop
  | kd {kvs : List (NestedKey × D)} : S[n]? = some (.kd hx kvs) → KdAt hx S n kvs
  | nil : S[n]? = some (.dic []) → KdAt hx S n []
section
variable {B F0 F H : Hp} {μ : Nat → Addr} {S : Sto} {n : Nat} {kvs : List (NestedKey × D)}
end
section
variable {X : Cx} {pins : List (Addr × Obj)} {σ : St} {H : Hp} {s : Shared} {B F0 : Hp} {w : Wd} {n : Nat} {kvs : List (NestedKey × D)}
end
structure KSetd (hx : HX) (x y z : D) (S : Sto) (K : K1) : Prop where
  out : ∃ n k kvs, x = .r n ∧ keyN y = some k ∧ KdAt hx S n kvs ∧ kvs.length < sizeLine ∧ (∀ d, kAt kvs k = some d → K d S) ∧ (kAt kvs k = none → K z (S.set n (.kd hx (kvs ++ [(k, z)]))))
structure KGet (hx : HX) (x y z : D) (S : Sto) (K : K1) : Prop where
  out : ∃ n k kvs, x = .r n ∧ keyN y = some k ∧ KdAt hx S n kvs ∧ K ((kAt kvs k).getD z) S
structure KTy (hx : HX) (x : D) (S : Sto) : Prop where
  out : ∃ n kvs, x = .r n ∧ KdAt hx S n kvs
section
variable {X : Cx} {B F0 : Hp} {W : WX} {o e : Expr} {es : List Expr} {wo : WE} {wa : WA} {name : Str} {apos cpos : Pos} {id : String} {f : D → D → D → Sto → K1 → Prop}
end
section
variable {X : Cx} {B F0 : Hp} {W : WX} {pins : List (Addr × Obj)} {s : Shared} {σ : St} {H : Hp} {w : Wd} {x y z : D} {vx vy vz : V} {ux uy uz : Value} {K : K1} {Q : VK}
end
section
variable {X : Cx} {B F0 : Hp} {W : WX} {o e : Expr} {es : List Expr} {wo : WE} {wa : WA} {apos cpos : Pos}
end
end PL

set_option Elab.async false
set_option linter.all false
set_option maxRecDepth 100000
namespace PL
open PySem L2
mutual
def rtD : RT → PyData
  | .z d => d
  | .l rs => .list (rtDs rs)
  | .t rs => .tuple (rtDs rs)
def rtDs : List RT → List PyData
  | [] => []
  | r :: rs => rtD r :: rtDs rs
end
theorem rtDs_map {α : Type} (f : α → RT) : ∀ xs : List α, rtDs (xs.map f) = xs.map fun x => rtD (f x)
  | [] => by simp [rtDs]
  | x :: xs => by rw [List.map_cons, rtDs, rtDs_map f xs]; rfl
theorem rtDs_zs {α : Type} (f : α → PyData) (xs : List α) : rtDs (xs.map fun x => .z (f x)) = xs.map f := by
  rw [rtDs_map]
  exact List.map_congr_left fun x _ => by rw [rtD]
theorem rtD_lz {α : Type} (f : α → PyData) (xs : List α) : rtD (lz f xs) = .list (xs.map f) := by
  unfold lz
  rw [rtD, rtDs_zs]
mutual
theorem Vu.vz {S : Sto} {U : List Nat} : ∀ (e : PyData) (d : D), Vu S U d e → Vz S d e
  | .none, _, h => by cases h with | z => exact .z
  | .bool _, _, h => by cases h with | z => exact .z
  | .int _, _, h => by cases h with | z => exact .z
  | .str _, _, h => by cases h with | z => exact .z
  | .dict _, _, h => by cases h with | z => exact .z
  | .list es, _, h => by
    cases h with
    | z => exact .z
    | r _ e ws => exact .r e (Vus.vz es _ ws)
  | .tuple es, _, h => by
    cases h with
    | z => exact .z
    | t ws => exact .t (Vus.vz es _ ws)
theorem Vus.vz {S : Sto} {U : List Nat} : ∀ (es : List PyData) (ds : List D), Vus S U ds es → Vzs S ds es
  | [], _, h => by cases h; exact .nil
  | e :: es, _, h => by cases h with | cons a b => exact .cons (Vu.vz e _ a) (Vus.vz es _ b)
end
mutual
theorem VR.vz {S : Sto} {U : List Nat} : ∀ (r : RT) (d : D) (ns : List Nat), VR S U d r ns → Vz S d (rtD r)
  | .z e, _, _, h => by cases h with | z w => rw [rtD]; exact Vu.vz e _ w
  | .l rs, _, _, h => by cases h with | l e w => rw [rtD]; exact .r e (VRs.vz rs _ _ w)
  | .t rs, _, _, h => by cases h with | t w => rw [rtD]; exact .t (VRs.vz rs _ _ w)
theorem VRs.vz {S : Sto} {U : List Nat} : ∀ (rs : List RT) (ds : List D) (ns : List Nat), VRs S U ds rs ns → Vzs S ds (rtDs rs)
  | [], _, _, h => by cases h; rw [rtDs]; exact .nil
  | r :: rs, _, _, h => by cases h with | cons a b => rw [rtDs]; exact .cons (VR.vz r _ _ a) (VRs.vz rs _ _ b)
end
theorem lentR_lent {α β : Type} {enc : α → List PyData} {pre : α → Prop} {post : α → β → Prop} {out : β → RT} {o2 : β → PyData} (ho : ∀ b, rtD (out b) = o2 b) {ds : List D} {S : Sto} {K : K1} {KX : KF} (h : lent (fsq enc pre post o2) ds S K KX) : lentR (fsrq enc pre post out) ds S K KX := by
  obtain ⟨es, kd, kx, h1, h2, ⟨a, e, hp, hk⟩, hK, hX⟩ := h
  exact ⟨es, fun r => kd (rtD r), kx, h1, h2, ⟨a, e, hp, fun b hb => by show kd (rtD (out b)); rw [ho]; exact hk b hb⟩, fun d S' r U v _ q => hK d S' _ (VR.vz r _ _ v) q, hX⟩
section
variable {X : Cx} {B F0 : Hp}
end
end PL

set_option Elab.async false
set_option linter.all false
set_option maxRecDepth 100000
set_option maxHeartbeats 3200000
namespace PL
open PySem PySem.Spec PyProof.Rows L2
section
variable {P : Program} {w : World} {A : Around} {E : Value → Shared → Prop} {s : Shared}
end
section
variable {X : Cx}
end
section
variable {X : Cx} {B F0 : Hp} {W : WX} {e : Expr} {we : WE} {p p2 pos pos2 : Pos}
end
end PL

set_option Elab.async false
set_option linter.all false
set_option maxRecDepth 100000
namespace PL
open PySem PySem.Spec PyProof.Rows L2
open RZ (ItzT iZipA pi_zipA)
section
variable {X : Cx} {B F0 : Hp} {W : WX} {e e2 : Expr} {wa : WA} {pos p tpos : Pos} {elts : List Expr} {kk : Nat}
end
end PL

set_option Elab.async false
set_option linter.all false
set_option maxRecDepth 100000
namespace PL
open PySem L2
def argM : List Bool → List PyData → List D
  | _, [] => []
  | [], d :: ds => bz d :: argM [] ds
  | z :: zs, d :: ds => (if z = true then .z d else bz d) :: argM zs ds
inductive VwM (S : Sto) : List Bool → List D → List PyData → Prop
  | nil {zs : List Bool} : VwM S zs [] []
  | end_ {d : D} {ds : List D} {e : PyData} {es : List PyData} : Vw S d e → VwM S [] ds es → VwM S [] (d :: ds) (e :: es)
  | z {zs : List Bool} {ds : List D} {e : PyData} {es : List PyData} : VwM S zs ds es → VwM S (true :: zs) (.z e :: ds) (e :: es)
  | b {zs : List Bool} {d : D} {ds : List D} {e : PyData} {es : List PyData} : Vw S d e → VwM S zs ds es → VwM S (false :: zs) (d :: ds) (e :: es)
def frzM (zs : List Bool) (p : Fsp) : Spc := fun ds S K KX => ∃ es, VwM S zs ds es ∧ p es (fun d => K (.z d) S) fun x => KX x S
def lentM (zs : List Bool) (p : Fsp) : Spc := fun ds S K KX => ∃ es kd kx, ds = argM zs es ∧ S = [] ∧ p es kd kx ∧ (∀ d S' e, Vz S' d e → kd e → K d S') ∧ ∀ x S' x', ExV S' x x' → kx x' → KX x S'
def frrM (zs : List Bool) (p : Fsr) : Spc := fun ds S K KX => ∃ es, VwM S zs ds es ∧ p es (fun rt => K (al rt S.length).1 (S ++ (al rt S.length).2)) fun x => KX x S
def lentRM (zs : List Bool) (p : Fsr) : Spc := fun ds S K KX => ∃ es kd kx, ds = argM zs es ∧ S = [] ∧ p es kd kx ∧ (∀ d S' rt U, VR S' U d rt U → U.Nodup → kd rt → K d S') ∧ ∀ x S' x', ExV S' x x' → kx x' → KX x S'
theorem VwM.arg {B F0 F H : Hp} {μ μ2 : Nat → Addr} {S : Sto} {n : Nat} (R : Rl B F0 μ S F H) : ∀ {zs : List Bool} {ds : List D} {es : List PyData} {vs : List V}, VwM S zs ds es → RpDs B F μ S.length ds vs → RpDs H F μ2 n (argM zs es) vs
  | _, _, _, _, .nil, h => by cases h; unfold argM; exact .nil
  | _, _, _, _, .end_ w t, h => by
    cases h with
    | cons a b => unfold argM; exact .cons (RpD.bz (Vw.rp R _ _ _ w a)) (VwM.arg R t b)
  | _, _, _, _, .z t, h => by
    cases h with
    | cons a b => unfold argM; rw [if_pos rfl]; cases a with | z q => exact .cons (.z q) (VwM.arg R t b)
  | _, _, _, _, .b w t, h => by
    cases h with
    | cons a b => unfold argM; rw [if_neg (by decide)]; exact .cons (RpD.bz (Vw.rp R _ _ _ w a)) (VwM.arg R t b)
theorem ex_back {B F0 F F' H H' : Hp} {μ μ' : Nat → Addr} {S S' : Sto} {x x' : Ex} {cls : Value} {dd : Option Addr} (R' : Rl H F μ' S' F' H') (r' : ExR H F' μ' S'.length H' x cls dd) (h : ExV S' x x') : ExR B (fz μ' S'.length F' H') μ S.length H' x' cls dd := by
  obtain ⟨hc, hf⟩ := h
  refine ⟨by rw [hc]; exact r'.1, ?_⟩
  obtain ⟨_, r2⟩ := r'
  cases h1 : x.fs with
  | none =>
    cases h2 : x'.fs with
    | none => rw [h1] at r2; exact r2
    | some gs => rw [h1, h2] at hf; exact hf.elim
  | some fs =>
    cases h2 : x'.fs with
    | none => rw [h1, h2] at hf; exact hf.elim
    | some gs =>
      rw [h1] at r2
      rw [h1, h2] at hf
      obtain ⟨a, ws, e1, e2, e3⟩ := r2
      refine ⟨a, ws, e1, fz_sub _ _ e2, ?_⟩
      clear e2 h1 h2
      induction hf generalizing ws with
      | nil => cases e3; exact .nil
      | cons q t ih =>
        cases e3 with
        | cons r1 r2 =>
          obtain ⟨n1, e, ve, q2⟩ := q
          refine .cons ⟨n1.symm.trans r1.1, ?_⟩ (ih _ r2)
          rw [q2]
          exact .z (Vz.rp R' e _ _ ve r1.2)
theorem FnOk.frzM {P : Program} {w : World} {K : PySem.W.Frag} {mg : Str → Option Value} {base : Heap} {CX : CXT} {k : Nat} {f : Addr} {fd : FuncData} {ps : List Str} {zs : List Bool} {p : Fsp} (h : FnOk P w K mg base CX k f fd ps (spOf (lentM zs p))) : FnOk P w K mg base CX k f fd ps (spOf (PL.frzM zs p)) := by
  refine h.imp fun vs H Q E q => ?_
  obtain ⟨B, F0, w, ds, K, KX, R, r, ⟨es, vw, q⟩, k, kx⟩ := q
  have R0 : Rl H w.F w.μ [] w.F H := ⟨Sub.refl _, R.fh, Sub.refl _, fun a o e => .inl e, fun i j hi => absurd hi (Nat.not_lt_zero _), fun i hi => absurd hi (Nat.not_lt_zero _), fun i hi => absurd hi (Nat.not_lt_zero _), fun i o e => by simp at e⟩
  refine ⟨H, w.F, ⟨w.μ, [], w.F⟩, argM zs es, fun d S' => ∃ e, Vz S' d e ∧ K (.z e) w.S, fun x S' => ∃ x', ExV S' x x' ∧ KX x' w.S, R0, VwM.arg R vw r, ⟨es, _, _, rfl, rfl, q, fun d S' e a b => ⟨e, a, b⟩, fun x S' x' a b => ⟨x', a, b⟩⟩, ?_, ?_⟩
  · rintro d S' v H' μ' F' R' X' r' ⟨e, he, hk⟩
    obtain ⟨R2, X2⟩ := R.back R' X'.f
    exact k _ _ _ _ _ _ R2 X2 (.z (Vz.rp R' e d v he r')) hk
  · rintro x S' H' μ' F' cls dd R' X' r' ⟨x', he, hk⟩
    obtain ⟨R2, X2⟩ := R.back R' X'.f
    exact kx x' _ _ _ _ cls dd R2 X2 (ex_back (F0 := F0) (F := w.F) (H := H) R' r' he) hk
theorem FnOk.frrM {P : Program} {w : World} {K : PySem.W.Frag} {mg : Str → Option Value} {base : Heap} {CX : CXT} {k : Nat} {f : Addr} {fd : FuncData} {ps : List Str} {zs : List Bool} {p : Fsr} (h : FnOk P w K mg base CX k f fd ps (spOf (lentRM zs p))) : FnOk P w K mg base CX k f fd ps (spOf (PL.frrM zs p)) := by
  refine h.imp fun vs H Q E q => ?_
  obtain ⟨B, F0, w, ds, K, KX, R, r, ⟨es, vw, q⟩, k, kx⟩ := q
  have R0 : Rl H w.F w.μ [] w.F H := ⟨Sub.refl _, R.fh, Sub.refl _, fun a o e => .inl e, fun i j hi => absurd hi (Nat.not_lt_zero _), fun i hi => absurd hi (Nat.not_lt_zero _), fun i hi => absurd hi (Nat.not_lt_zero _), fun i o e => by simp at e⟩
  refine ⟨H, w.F, ⟨w.μ, [], w.F⟩, argM zs es, fun d S' => ∃ rt U, VR S' U d rt U ∧ U.Nodup ∧ K (al rt w.S.length).1 (w.S ++ (al rt w.S.length).2), fun x S' => ∃ x', ExV S' x x' ∧ KX x' w.S, R0, VwM.arg R vw r, ⟨es, _, _, rfl, rfl, q, fun d S' rt U a nd b => ⟨rt, U, a, nd, b⟩, fun x S' x' a b => ⟨x', a, b⟩⟩, ?_, ?_⟩
  · rintro d S' v H' μ' F' R' X' r' ⟨rt, U, hv, nd, hk⟩
    have hm : ∀ j n, U[j]? = some n → muU w.μ μ' w.S.length U (w.S.length + j) = μ' n := fun j n h => by
      unfold muU
      rw [if_neg (by omega), Nat.add_sub_cancel_left, List.getD_eq_getElem?_getD, h]; rfl
    obtain ⟨r2, g2⟩ := VR.rp (A := B) (N := w.S.length + U.length) R' rt d v U w.S.length hv r' hm (Nat.le_refl _)
    obtain ⟨R2, X2⟩ := R.backU R' X'.f (VR.lt rt d U hv) nd g2
    refine k _ _ _ _ _ _ R2 X2 ?_ hk
    rw [List.length_append, g2.1]
    exact r2
  · rintro x S' H' μ' F' cls dd R' X' r' ⟨x', he, hk⟩
    obtain ⟨R2, X2⟩ := R.back R' X'.f
    exact kx x' _ _ _ _ cls dd R2 X2 (ex_back (F0 := F0) (F := w.F) (H := H) R' r' he) hk
section
variable {P : Program} {w : World} {K : PySem.W.Frag} {mg : Str → Option Value} {base : Heap} {x : Str} {k : Nat} {ps : List Str} {zs : List Bool}
theorem Fc.frzM {p : Fsp} (c : Fc P w K mg base x k ps (lentM zs p)) : Fc P w K mg base x k ps (PL.frzM zs p) := by
  obtain ⟨f, fd, h, r⟩ := c.ex
  exact ⟨f, fd, FnOk.frzM h, r⟩
theorem Fc.frrM {p : Fsr} (c : Fc P w K mg base x k ps (lentRM zs p)) : Fc P w K mg base x k ps (PL.frrM zs p) := by
  obtain ⟨f, fd, h, r⟩ := c.ex
  exact ⟨f, fd, FnOk.frrM h, r⟩
end
section
variable {α β : Type} {enc : α → List PyData} {pre : α → Prop} {zs : List Bool}
end
end PL

set_option Elab.async false
set_option linter.all false
set_option maxRecDepth 100000
set_option maxHeartbeats 3200000
namespace PL
open PySem PySem.Spec PyProof.Rows L2
section
variable {X : Cx}
end
section
variable {X : Cx} {B F0 : Hp} {W : WX} {e : Expr} {we : WE} {wa : WA} {p p2 pos pos2 : Pos} {tg : Expr}
structure pRg3 (i j c : Int) (k : Nat → Prop) : Prop where
  mk' ::
  out : ∃ n, RgC i j c n ∧ k n
theorem pRg3.mk {i j c : Int} {k : Nat → Prop} (n : Nat) (h : RgC i j c n) (q : k n) : pRg3 i j c k := ⟨⟨n, h, q⟩⟩
theorem RpDs.three {B : Hp} {w : Wd} {d e f : D} {vs : List V} (h : RpsW B w [d, e, f] vs) : ∃ v u t, vs = [v, u, t] ∧ RpW B w d v ∧ RpW B w e u ∧ RpW B w f t := by
  cases h with | cons a b => cases b with | cons c d => cases d with | cons e f => cases f; exact ⟨_, _, _, rfl, a, c, e⟩
end
end PL

set_option Elab.async false
set_option linter.all false
set_option maxRecDepth 100000
set_option maxHeartbeats 3200000
namespace PL
open PySem L2
section
variable {X : Cx} {B F0 : Hp} {W : WX} {scope : Scope} {pos pos2 pos3 p1 p2 p3 : Pos} {x y : Str} {jj : Option Nat}
end
end PL

set_option Elab.async false
set_option linter.all false
set_option maxRecDepth 100000
namespace PL
open PySem L2
theorem pLc_new {α : Type} {src : Src} {tg : D → Env → Option Env} {we : WE} {env : Env} {fin : Sto → Prop} {S : Sto} (xs : List α) (it : α → D) (o : α → Ob) (e : src.items = xs.map it) (hz : xs.length < 1000000) (hok : ∀ acc T, src.ok (S ++ (.lst acc :: T)))
    (he : ∀ x ∈ xs, ∃ env2, tg (it x) env = some env2 ∧ ∀ (S1 : Sto) (K : K1), K (.r S1.length) (S1 ++ [o x]) → we env2 S1 K X0)
    (hf : fin (S ++ (.lst ((List.range xs.length).map fun i => .r (S.length + 1 + i)) :: xs.map o))) : pLc src tg wYes we S.length env fin src.items (S ++ [.lst []]) := by
  have hl : src.items.length = xs.length := by rw [e, List.length_map]
  refine pLc_each (fun j S' => j ≤ xs.length ∧ S' = S ++ (.lst ((List.range j).map fun i => .r (S.length + 1 + i)) :: (xs.take j).map o)) ⟨Nat.zero_le _, rfl⟩ (fun i S' _ h => by obtain ⟨_, rfl⟩ := h; exact hok _ _) ?_ ?_
  · rintro j d _ Q hj ⟨_, rfl⟩ hQ
    rw [e, List.getElem?_map] at hj
    cases hx : xs[j]? with
    | none => rw [hx] at hj; cases hj
    | some x =>
      rw [hx] at hj
      obtain rfl := Option.some.inj hj
      have hlt := (List.getElem?_eq_some_iff.mp hx).1
      obtain ⟨env2, h1, h2⟩ := he x (List.mem_of_getElem? hx)
      refine pGet.mk h1 (pIf.tt rfl (h2 _ _ ?_))
      rw [List.append_assoc]
      refine pGet.mk (x := (List.range j).map fun i => .r (S.length + 1 + i)) (lsR_at (by simp)) (pReq.mk (sz_lt6 (by rw [List.length_map, List.length_range]; omega)) (hQ _ ⟨hlt, ?_⟩))
      have e1 : (S ++ (Ob.lst ((List.range j).map fun i => D.r (S.length + 1 + i)) :: (xs.take j).map o)).length = S.length + 1 + j := by
        simp only [List.length_append, List.length_cons, List.length_map, List.length_take]; omega
      rw [List.set_append_right _ _ (Nat.le_refl _), Nat.sub_self, List.take_add_one, hx, e1, List.range_succ, List.map_append, List.map_append]
      rfl
  · rintro S' ⟨_, rfl⟩
    rw [hl, List.take_length]
    exact hf
end PL

set_option Elab.async false
set_option linter.all false
set_option maxRecDepth 100000
namespace PL
open PySem PySem.Spec L2

section
variable {X : Cx} {CX : CXT} {k : Nat} {f C : Addr} {fd : FuncData} {ps : List Str} {sp : Sp} {dvs : List V} {ds : List Value} {E : St → XK} {x m : Str} {p pos apos : Pos} {e o : Expr} {es : List Expr} {ta : TE} {t : TA}
end

def pObj (C : Addr) (x : D) (S : Sto) (k : Nat → List (Str × D) → Prop) : Prop := match x with
  | .r n => pGet S[n]? fun o => match o with
    | .ins C' fs => pReq (C' = C) (k n fs)
    | _ => False
  | _ => False
theorem pObj.get {C : Addr} {x : D} {S : Sto} {k : Nat → List (Str × D) → Prop} (h : pObj C x S k) : ∃ n fs, x = .r n ∧ S[n]? = some (.ins C fs) ∧ k n fs := by
  unfold pObj at h
  split at h
  · rename_i n
    obtain ⟨o, e, h⟩ := h.out
    cases o with
    | lst _ => exact h.elim
    | dic _ => exact h.elim
    | kd _ _ => exact h.elim
    | ins C' fs =>
      obtain ⟨ec, h2⟩ := pReq.out h
      subst ec
      exact ⟨n, fs, rfl, e, h2⟩
  · exact h.elim
theorem pObj.mk {C : Addr} {n : Nat} {S : Sto} {fs : List (Str × D)} {k : Nat → List (Str × D) → Prop} (h : S[n]? = some (.ins C fs)) (q : k n fs) : pObj C (.r n) S k := pGet.mk h (pReq.mk rfl q)
def putFD (f : Str) (d : D) : List (Str × D) → List (Str × D)
  | [] => [(f, d)]
  | (g, x) :: r => if g = f then (g, d) :: r else (g, x) :: putFD f d r
section
variable {B F : Hp} {μ : Nat → Addr} {n : Nat}
abbrev FsR (B F : Hp) (μ : Nat → Addr) (n : Nat) : List (Str × D) → List (Str × V) → Prop := Paired fun (p : Str × D) (q : Str × V) => p.1 = q.1 ∧ RpD B F μ n p.2 q.2
theorem FsR.look {f : Str} : ∀ {fs : List (Str × D)} {vs : List (Str × V)}, FsR B F μ n fs vs → (fs.lookup f = none ∧ vs.lookup f = none) ∨ ∃ d v, fs.lookup f = some d ∧ vs.lookup f = some v ∧ RpD B F μ n d v
  | _, _, .nil => .inl ⟨rfl, rfl⟩
  | (g, d) :: fs, (g', v) :: vs, .cons ⟨e, r⟩ t => by
    dsimp only at e r
    subst e
    by_cases h : f = g
    · subst h
      exact .inr ⟨d, v, by simp, by simp, r⟩
    · have hb : (f == g) = false := beq_eq_false_iff_ne.mpr h
      rw [List.lookup_cons, List.lookup_cons, hb]
      exact FsR.look t
theorem FsR.put {f : Str} {d : D} {v : V} (r : RpD B F μ n d v) : ∀ {fs : List (Str × D)} {vs : List (Str × V)}, FsR B F μ n fs vs → FsR B F μ n (putFD f d fs) (putF f v vs)
  | _, _, .nil => .cons ⟨rfl, r⟩ .nil
  | (g, x) :: fs, (g', y) :: vs, .cons ⟨e, q⟩ t => by
    dsimp only at e q
    subst e
    unfold putFD putF
    by_cases h : g = f
    · rw [if_pos h, if_pos h]; exact .cons ⟨rfl, r⟩ t
    · rw [if_neg h, if_neg h]; exact .cons ⟨rfl, q⟩ (FsR.put r t)
end
structure Fm (P : Program) (w : World) (K : PySem.W.Frag) (mg : Str → Option Value) (base : Heap) (C : Addr) (m : Str) (k : Nat) (ps : List Str) (sp : Spc) : Prop where
  ex : ∃ (f : Addr) (fd : FuncData), FnOk P w K mg base (L2N.CX P w) k f fd ps (spOf sp) ∧ Meth K C m f ∧ Binds K fd ps []
structure Fk (P : Program) (w : World) (K : PySem.W.Frag) (mg : Str → Option Value) (base : Heap) (x : Str) (C : Addr) (k : Nat) (ps : List Str) (sp : Spc) : Prop where
  ex : ∃ (f : Addr) (fd : FuncData), FnOk P w K mg base (L2N.CX P w) k f fd ps (spOf sp) ∧ Mk K C f ∧ mg x = some (.ref C) ∧ Binds K fd ps []
section
variable {X : Cx} {B F0 : Hp} {W : WX} {e o value : Expr} {es : List Expr} {wa : WA} {we wo : WE} {x m f : Str} {p pos pos' apos : Pos} {k : Nat} {ps : List Str} {sp : Spc} {C : Addr}
end
end PL

set_option Elab.async false
set_option linter.all false
set_option maxRecDepth 100000
namespace PL
open PySem PySem.Spec PyProof.Rows L2
def clsSt (s : Stmt) (j : Nat) : Stmt := match s with
  | .ClassDef _ _ _ b _ _ _ _ _ _ _ => b.getD j (.Pass ⟨0, 0, 0, 0⟩)
  | _ => .Pass ⟨0, 0, 0, 0⟩
abbrev dm (c m q : Str) (st : Stmt) (dfl : List He.Dv) : He.DefD := ⟨(c, some m), m, q, defArgs st, defBody st, defScope st, dfl, []⟩
section
variable {P : Program} {w : World} {K : PySem.W.Frag} {mg : Str → Option Value} {base : Heap} {c m q : Str} {k : Nat} {ps : List Str} {sp : Spc} {st : Stmt} {fd : FuncData}
end
end PL

set_option Elab.async false
set_option linter.all false
set_option maxRecDepth 100000
namespace PL
open PySem PySem.Spec PyProof.Rows L2
end PL

set_option Elab.async false
set_option linter.all false
set_option maxRecDepth 100000
namespace PL
open PySem PySem.Spec PyProof.Rows L2
structure FmI (P : Program) (w : World) (K : PySem.W.Frag) (mg : Str → Option Value) (base : Heap) (C : Addr) (m : Str) (k : Nat) (ps : List Str) (i : Int) (sp : Spc) : Prop where
  ex : ∃ (f : Addr) (fd : FuncData) (ds : List Value), FnOk P w K mg base (L2N.CX P w) k f fd ps (spOf sp) ∧ Meth K C m f ∧ Vals [V.int i] ds ∧ Binds K fd ps ds
theorem RpDs.app {B F : Hp} {μ : Nat → Addr} {n : Nat} : ∀ {ds es : List D} {vs us : List V}, RpDs B F μ n ds vs → RpDs B F μ n es us → RpDs B F μ n (ds ++ es) (vs ++ us)
  | [], _, _, _, h, k => by cases h; exact k
  | d :: ds, _, _, _, h, k => by cases h with | cons a b => exact .cons a (RpDs.app b k)
section
variable {X : Cx} {B F0 : Hp} {W : WX} {e o value : Expr} {es : List Expr} {wa : WA} {we wo : WE} {x m f : Str} {p pos pos' apos : Pos} {k : Nat} {ps : List Str} {sp : Spc} {C : Addr} {i : Int}
end
section
variable {P : Program} {w : World} {K : PySem.W.Frag} {mg : Str → Option Value} {base : Heap} {k : Nat} {ps : List Str} {sp : Spc} {c m q : Str} {st : Stmt} {fd : FuncData}
end
end PL

set_option Elab.async false
set_option linter.all false
set_option maxRecDepth 100000
namespace PL
open PySem PySem.Spec PyProof.Rows L2
structure FcI (P : Program) (w : World) (K : PySem.W.Frag) (mg : Str → Option Value) (base : Heap) (x : Str) (k : Nat) (ps : List Str) (i : Int) (sp : Spc) : Prop where
  ex : ∃ (f : Addr) (fd : FuncData) (ds : List Value), FnOk P w K mg base (L2N.CX P w) k f fd ps (spOf sp) ∧ mg x = some (.ref f) ∧ PySem.W.keepIn K (.ref f) = true ∧ Vals [V.int i] ds ∧ Binds K fd ps ds
theorem FcI.frz {P : Program} {w : World} {K : PySem.W.Frag} {mg : Str → Option Value} {base : Heap} {x : Str} {k : Nat} {ps : List Str} {i : Int} {p : Fsp} (c : FcI P w K mg base x k ps i (lent p)) : FcI P w K mg base x k ps i (PL.frz p) := by
  obtain ⟨f, fd, ds, h, r⟩ := c.ex
  exact ⟨f, fd, ds, FnOk.frz h, r⟩
theorem FcI.frr {P : Program} {w : World} {K : PySem.W.Frag} {mg : Str → Option Value} {base : Heap} {x : Str} {k : Nat} {ps : List Str} {i : Int} {p : Fsr} (c : FcI P w K mg base x k ps i (lentR p)) : FcI P w K mg base x k ps i (PL.frr p) := by
  obtain ⟨f, fd, ds, h, r⟩ := c.ex
  exact ⟨f, fd, ds, FnOk.frr h, r⟩
section
variable {X : Cx} {B F0 : Hp} {W : WX} {e : Expr} {es : List Expr} {wa : WA} {x : Str} {p pos : Pos} {k : Nat} {ps : List Str} {sp : Spc} {i : Int}
end
section
variable {P : Program} {w : World} {K : PySem.W.Frag} {mg : Str → Option Value} {base h : Heap} {x : Str} {k : Nat} {ps : List Str} {sp : Spc} {st : Stmt} {fd : FuncData}
end
end PL

set_option Elab.async false
set_option linter.all false
set_option maxRecDepth 100000
namespace PL
open PySem PySem.Spec PyProof.Rows L2
section
variable {X : Cx} {e : Expr} {es : List Expr} {ta : TA} {p pos : Pos}
end
section
variable {X : Cx} {x : Str} {c : Value} {body suite : List Stmt} {b₀ : Stmt} {np pos pos' : Pos} {tb : WX → TS} {ts : Addr → Value → Option Addr → TS} {Wout : WX}
end
end PL

set_option Elab.async false
set_option linter.all false
set_option maxRecDepth 100000
namespace PL
open PySem PySem.Spec PyProof.Rows L2

def spXI (C : Addr) (ns : List Str) : L2.Sp := fun vs H Q _ => ∃ (a : Addr) (ws : List V), vs = .ref a :: ws ∧ ws.length = ns.length ∧ H a = some (exo a C none) ∧
  ∀ (d : Addr) (H' : Hp), H d = none → d ≠ a → (∀ b, b ≠ d → b ≠ a → H' b = H b) → H' a = some (exo a C (some d)) → H' d = some (exd d (ns.zip ws).reverse) → Q .non H'
structure Fx (P : Program) (w : World) (K : PySem.W.Frag) (mg : Str → Option Value) (base : Heap) (x : Str) (C : Addr) (k : Nat) (ps ns : List Str) : Prop where
  ex : ∃ (f : Addr) (fd : FuncData), FnOk P w K mg base (L2N.CX P w) k f fd ps (spXI C ns) ∧ OexC K C ∧ PySem.W.findIn K (.ref C) "__init__" = some (some (.ref f)) ∧ PySem.W.typeIn K (.ref f) = some (.type "function") ∧ Binds K fd ps [] ∧ mg x = some (.ref C)
section
variable {X : Cx} {B F0 : Hp} {W : WX} {e : Expr} {es : List Expr} {wa : WA} {x : Str} {p pos pos2 : Pos} {k : Nat} {ps ns : List Str} {C : Addr}
end
theorem Rl.all {B F0 F H : Hp} {μ : Nat → Addr} {S : Sto} (R : Rl B F0 μ S F H) : Rl B F μ S F H := ⟨R.bh, R.fh, Sub.refl _, fun _ _ e => .inl e, R.inj, R.nb, R.nf, R.ob⟩
theorem Rl.less {B F0 F1 F H : Hp} {μ : Nat → Addr} {S : Sto} (R : Rl B F1 μ S F H) (h0 : Sub F0 F1) (hn : ∀ a o, F1 a = some o → F0 a = some o ∨ B a = none) : Rl B F0 μ S F H := ⟨R.bh, R.fh, h0.trans R.f0, fun a o e => (R.fn a o e).elim (hn a o) .inr, R.inj, R.nb, R.nf, R.ob⟩
section
variable {X : Cx} {B F0 : Hp} {W : WX} {x n : Str} {c : Value} {i : Nat} {body suite : List Stmt} {b₀ : Stmt} {np pos pos' : Pos} {b : WS} {h : Addr → Value → List (Str × PyData) → WS} {kn : Value → Prop} {mt : Value → Bool}
end
section
variable {X : Cx} {B F0 : Hp} {W : WX} {n f : Str} {C : Addr} {i : Nat} {a : Addr} {v : Value} {d : Option Addr} {oe : Obj} {fs : List (Str × PyData)} {pn : List (Addr × Obj)} {p pos : Pos}
end
section
variable {X : Cx} {B F0 : Hp} {W : WX} {x : Str} {c : Value} {body suite : List Stmt} {b₀ : Stmt} {np pos pos' : Pos} {b h : WS} {kn : Value → Prop} {mt : Value → Bool}
end
end PL
namespace PL
open PySem L2
def fsrE {α : Type} (enc : α → List PyData) (pre : α → Prop) (out : α → Except Ex RT) : Fsr := fun es k kx => ∃ a, es = enc a ∧ pre a ∧ (∀ r, out a = .ok r → k r) ∧ ∀ x, out a = .error x → kx x
theorem fsrE_len {α : Type} {enc : α → List PyData} {pre : α → Prop} {out : α → Except Ex RT} {n : Nat} (h : ∀ a, (enc a).length = n) : ∀ ds S K KX, lentR (fsrE enc pre out) ds S K KX → ds.length = n := by
  rintro ds S K KX ⟨es, kd, kx, rfl, rfl, ⟨a, rfl, _, _⟩, _⟩
  rw [List.length_map]; exact h a
end PL

set_option Elab.async false
set_option linter.all false
set_option maxRecDepth 100000
namespace PL
open PySem PySem.Spec PyProof.Rows L2

section
variable {rp rf handled checked : List Str} {K : PySem.W.Frag} {mg : Str → Option Value}
end
end PL

set_option Elab.async false
set_option linter.all false
set_option maxRecDepth 100000
set_option maxHeartbeats 1000000
namespace PL
open PySem PySem.Spec PyProof.Rows L2
section
variable {X : Cx} {B F0 : Hp}
end
end PL

set_option Elab.async false
set_option linter.all false
set_option maxRecDepth 100000
set_option maxHeartbeats 1000000
namespace PL
open PySem L2
section
variable {X : Cx} {B F0 : Hp}
end
end PL

set_option Elab.async false
set_option linter.all false
set_option maxRecDepth 100000
set_option maxHeartbeats 1000000
namespace PL
open PySem L2
open PyProof.Rows (IsTup)
section
variable {X : Cx} {B F0 : Hp}
variable {o e : Expr} {es : List Expr} {to : TE} {t : TA} {name : Str} {apos cpos : Pos} {id : String} {r : V → List V → Hp → VK → Prop}
end
section
variable {X : Cx} {B F0 : Hp} {W : WX} {e a : Expr} {es : List Expr} {we : WE} {wl wh : WO} {wa : WA} {lo hi : Option Expr} {pos p2 apos cpos : Pos}
end
end PL

set_option Elab.async false
set_option linter.all false
set_option maxRecDepth 100000
namespace PL
open PySem PySem.Spec PyProof.Rows L2 L2H HotX

section
open PySem.W PySem.Calls
variable {prog : Program} {w : World} {A : Around} {E : Value → Shared → Prop} {s : Shared} {K : PySem.W.Frag} {e1 D1 : Addr} {oy : Obj} {dy : Option Obj}
end
def XdIn (H : Hp) (d : Option Addr) : Prop := ∀ dd, d = some dd → ∃ ws, H dd = some (.xd ws)
theorem XdIn.mono {H H' : Hp} {d : Option Addr} (h : XdIn H d) (s : Sub H H') : XdIn H' d := fun dd e => by
  obtain ⟨ws, q⟩ := h dd e
  exact ⟨ws, s _ _ q⟩
section
variable {X : Cx} {B F0 : Hp} {W : WX} {y n : Str} {C D : Addr} {i : Nat} {a : Addr} {b : Bool} {oe : Obj} {d : Option Addr} {p p2 p3 pos : Pos}
end
end PL

set_option Elab.async false
set_option linter.all false
set_option maxRecDepth 100000
namespace PL
open PySem PySem.Spec PyProof.Rows L2 L2H HotX
def RgAt (it : Addr) (lo : Int) (n i : Nat) (h : Heap) : Prop := IsRangeIter h it (lo + (i : Nat) * 1) ((n : Int) - (i : Nat)) 1
structure PRg (X : Cx) (tg iter : Expr) (wi : L2.St → Hp → (Int → Nat → Hp → Prop) → Prop) : Prop where
  run : ∀ (pins : List (Addr × Obj)) (s : Shared) (σ : L2.St) (H : Hp) (R : Int → Nat → Hp → Prop), Inv X pins σ H s → wi σ H R →
    wpAny (model X.prog X.w) X.A (eval iter X.env) (fun v s1 => wpAny (model X.prog X.w) X.A (pyIter v) (fun itv s2 => ∃ it lo n H', itv = .ref it ∧ Inv X pins σ H' s2 ∧ RgAt it lo n 0 s2.heap ∧ FpOk X pins H' it ∧ R lo n H') X.xe s1) X.xe s
end PL

set_option Elab.async false
set_option linter.all false
set_option maxRecDepth 100000
namespace PL
open PySem PySem.Spec PyProof.Rows L2 L2H HotX

section
variable {X : Cx} {B F0 : Hp} {W : WX}
end

structure FnHX (P : Program) (w : World) (K : PySem.W.Frag) (mg : Str → Option Value) (base : Heap) (CX : CXT) (k : Nat) (f : Addr) (fd : FuncData) (ps : List Str) (sp : Addr × Obj → Sp) : Prop where
  len : ∀ q vs H Q E, sp q vs H Q E → vs.length = ps.length
  run : ∀ (A : Around) (outer : List PySem.Env) (s : Shared) (H : Hp) (args : Args) (us : List Value) (vs : List V) (Q : VK) (E : XK) (q : Addr × Obj), RoomH k A → Hot1 A q → PinOk outer H s q → Env0 P w K mg base A outer s H → BindsTo s fd args (ps.zip us) → Vals vs us → sp q vs H Q E →
    codeAny (model P w) A (.call (.ref f) args) (CR CX outer P w H s Q E) s
abbrev SpcE := Value → List D → Sto → K1 → Prop
def spOfE (kn : Value → Prop) (sp : SpcE) (q : Addr × Obj) : Sp := fun vs H Q _ => ∃ (B F0 : Hp) (w : Wd) (cls : Value) (d : Option Addr) (K : K1), kn cls ∧ Zc cls d q.2 ∧ (∃ fv, q.2.data = .fields fv) ∧ XdIn F0 d ∧ vs = [.ref q.1] ∧ RlW B F0 w H ∧ sp cls [.o q.1] w.S K ∧ Fi B F0 w K Q
structure FcE (P : Program) (w : World) (K : PySem.W.Frag) (mg : Str → Option Value) (base : Heap) (x : Str) (k : Nat) (y : Str) (kn : Value → Prop) (sp : SpcE) : Prop where
  ex : ∃ (f : Addr) (fd : FuncData), FnHX P w K mg base (L2N.CX P w) k f fd [y] (spOfE kn sp) ∧ mg x = some (.ref f) ∧ PySem.W.keepIn K (.ref f) = true ∧ Binds K fd [y] []
theorem takes0N {X : Cx} : L2N.Takes X (fun _ _ _ _ => False) := fun _ _ ⟨_, _, _, _, _, _, _, _, _, _, _, _, _, _, _, _, w⟩ => w.elim
section
variable {X : Cx} {B F0 : Hp} {W : WX} {x y n : Str} {i k : Nat} {a : Addr} {cls : Value} {oe : Obj} {d : Option Addr} {kn : Value → Prop} {sp : SpcE} {p p2 pos : Pos}
end

section
variable {X : Cx} {B F0 : Hp} {W : WX} {x n : Str} {c : Value} {i : Nat} {body suite : List Stmt} {b₀ : Stmt} {np pos pos' : Pos} {b : WS} {h : Addr → Value → List (Str × PyData) → WS} {kn : Value → Prop} {mt : Value → Bool}
end
end PL

set_option Elab.async false
set_option linter.all false
set_option maxRecDepth 100000
namespace PL
open PySem PySem.Spec PyProof.Rows L2 L2N
section
variable {X : Cx} {x n : Str} {c : Value} {i : Nat} {body suite : List Stmt} {b₀ : Stmt} {np pos pos' : Pos} {tb : WX → TS} {ts : Addr → Value → Option Addr → TS} {Wout : WX}
end
end PL

set_option Elab.async false
set_option linter.all false
set_option maxRecDepth 100000
namespace PL
open PySem PySem.Spec PyProof.Rows L2 L2N L2H HotX
section
variable {X : Cx} {B F0 : Hp} {W : WX} {x n : Str} {c : Value} {i j : Nat} {body suite : List Stmt} {b₀ : Stmt} {np pos pos' : Pos} {b : WS} {h : Addr → Value → List (Str × PyData) → WS} {kn : Value → Prop} {mt : Value → Bool}
end
section
variable {X : Cx} {B F0 : Hp} {W : WX} {y : Str} {C : Addr} {e : Expr} {we : WE} {kn : Value → Prop} {kd : Value → Bool} {p p2 p3 pos : Pos}
end
section
variable {X : Cx} {B F0 : Hp} {W : WX} {C : Addr} {e : Expr} {we : WE} {f : Str} {pos : Pos}
end
end PL

set_option Elab.async false
set_option linter.all false
set_option maxRecDepth 100000
namespace PL
open PySem PySem.Spec PyProof.Rows L2 L2N
def spXIL (K : PySem.W.Frag) (C : Addr) (f : Str) : L2.Sp := fun vs H Q _ => ∃ (a l : Addr) (xs : List V), vs = [.ref a, .ref l] ∧ SqL K H l xs ∧ H a = some (exo a C none) ∧
  ∀ (p d : Addr) (H' : Hp), H p = none → H d = none → p ≠ a → d ≠ a → d ≠ p → (∀ b, b ≠ d → b ≠ a → b ≠ p → H' b = H b) → H' a = some (exo a C (some d)) → H' d = some (exd d [(f, .ref p)]) → H' p = some (.lst xs) → Q .non H'
structure FxL (P : Program) (w : World) (K : PySem.W.Frag) (mg : Str → Option Value) (base : Heap) (x : Str) (C : Addr) (k : Nat) (ps : List Str) (n : Str) : Prop where
  ex : ∃ (f : Addr) (fd : FuncData), FnOk P w K mg base (L2N.CX P w) k f fd ps (spXIL K C n) ∧ OexC K C ∧ PySem.W.findIn K (.ref C) "__init__" = some (some (.ref f)) ∧ PySem.W.typeIn K (.ref f) = some (.type "function") ∧ Binds K fd ps [] ∧ mg x = some (.ref C)
section
variable {X : Cx} {B F0 : Hp} {W : WX} {e : Expr} {wa : WE} {x n : Str} {p pos pos2 : Pos} {k : Nat} {ps : List Str} {C : Addr}
end
end PL
namespace PL
open PySem PySem.Spec PyProof.Rows L2
end PL

set_option Elab.async false
set_option linter.all false
set_option maxRecDepth 100000
namespace PL
open PySem L2
section
variable {α β : Type} {enc : α → List PyData} {pre : α → Prop} {bad : α → Prop} {xpost : α → Ex → Prop} {post : α → β → Prop} {n : Nat} {ds : List D} {S : Sto} {K : K1} {KX : KF} {ws : WS} {N : List Str}
end
end PL

set_option Elab.async false
set_option linter.all false
set_option maxRecDepth 100000
namespace PL
open PySem L2
section
variable {X : Cx} {B F0 : Hp}
end
end PL

set_option Elab.async false
set_option linter.all false
set_option maxRecDepth 100000
namespace PL
open PySem L2
def pSplit : D → PL := fun x xs S K => match x, xs with
  | .z (.str a), [.z (.str b)] => pReq ((b.length == 0) = false ∧ a.length + 2 ≤ sizeLine) (K (.r S.length) (S ++ [.lst ((Txt.split a b).map fun s => .z (.str s))]))
  | _, _ => False
def pStarts : D → PL := fun x xs S K => match x, xs with
  | .z (.str a), [.z (.str b)] => K (.z (.bool (Txt.startswith a b))) S
  | _, _ => False
def pStr : PL := fun xs S K => match xs with
  | [.z (.int i)] => pReq (i.natAbs.log2 < 1920) (K (.z (.str (toString i))) S)
  | _ => False
def pIntT : PL := fun xs S K => match xs with
  | [.z (.int i)] => K (.z (.int i)) S
  | [.z (.bool b)] => K (.z (.int (if b then 1 else 0))) S
  | [.z (.str a)] => pReq (a.length ≤ 640) (pGet (PySem.intText? a) fun n => K (.z (.int n)) S)
  | _ => False
section
variable {X : Cx} {B F0 : Hp}
theorem oSplit : MtR X "str.split" (rM B F0 pSplit) := methR fun {pins s σ H x v vs us w d ds K Q} I rx r R q qs h k => by
  unfold pSplit at h
  split at h
  · rename_i a b
    obtain ⟨⟨hb, hz⟩, h⟩ := h.out
    obtain ⟨u, rfl, q1⟩ := qs.one
    exact mt_split pins s σ H _ _ v us Q I rx r ⟨a, b, rpStr q, by rw [rpStr q1], hb, hz, fun p hp => k.newL R (rp_strs (Txt.split a b)) h hp⟩
  · exact h.elim
theorem oStarts : MtR X "str.startswith" (rM B F0 pStarts) := methR fun {pins s σ H x v vs us w d ds K Q} I rx r R q qs h k => by
  unfold pStarts at h
  split at h
  · rename_i a b
    obtain ⟨u, rfl, q1⟩ := qs.one
    exact mt_startswith pins s σ H _ _ v us Q I rx r ⟨a, b, rpStr q, by rw [rpStr q1], k.bl R h⟩
  · exact h.elim
theorem oStr : CallR X (.type "str") (rL B F0 pStr) := callR fun {pins s σ H vs us w ds K Q} I r R q h k => by
  unfold pStr at h
  split at h
  · obtain ⟨v, rfl, q9⟩ := q.one
    rw [rpInt q9] at r
    obtain ⟨hz, h⟩ := h.out
    exact call_str_int pins s σ H _ us Q I r ⟨_, rfl, hz, k.str R h⟩
  · exact h.elim
theorem oIntT : CallR X (.type "int") (rL B F0 pIntT) := callR fun {pins s σ H vs us w ds K Q} I r R q h k => by
  unfold pIntT at h
  split at h
  · obtain ⟨v, rfl, q9⟩ := q.one
    rw [rpInt q9] at r
    exact call_int1 pins s σ H _ us Q I r (.inl ⟨_, rfl, k.int R h⟩)
  · obtain ⟨v, rfl, q9⟩ := q.one
    rw [rpBl q9] at r
    exact call_int1 pins s σ H _ us Q I r (.inr ⟨_, rfl, k.int R h⟩)
  · obtain ⟨v, rfl, q9⟩ := q.one
    rw [rpStr q9] at r
    obtain ⟨hz, h⟩ := h.out
    obtain ⟨n, hn, h⟩ := h.out
    exact call_int_str pins s σ H _ us Q I r ⟨_, n, rfl, hn, hz, k.int R h⟩
  · exact h.elim
end
end PL

set_option Elab.async false
set_option linter.all false
set_option maxRecDepth 100000
set_option maxHeartbeats 4000000
namespace K75
open PySem L2 PL
def top (i : Nat) : Stmt := PySem.Challenge.pw_namepaths_k75_tables_written.main.body.getD i (.Pass ⟨0, 0, 0, 0⟩)
structure Txt (mg : Str → Option Value) : Prop where
  n_str : mg "str" = none
  n_isinstance : mg "isinstance" = none
  n_len : mg "len" = none
  n_sorted : mg "sorted" = none
  n_set : mg "set" = none
  n_int : mg "int" = none
  n_range : mg "range" = none
  n_list : mg "list" = none
  n_tuple : mg "tuple" = none
  n_bool : mg "bool" = none
  c_LETTERS : ∃ t, mg "LETTERS" = some (.str (PySem.Str.ofString "abcdefghijklmnopqrstuvwxyz") t)
  c_MOST_STATES : ∃ t, mg "MOST_STATES" = some (.int 8 t)
  c_MOST_PAIRS : ∃ t, mg "MOST_PAIRS" = some (.int 40 t)
  c_MOST_LABELS : ∃ t, mg "MOST_LABELS" = some (.int 8 t)
  c_FIGURES : ∃ t, mg "FIGURES" = some (.str (PySem.Str.ofString "0123456789") t)
  c_SIGNS : ∃ t, mg "SIGNS" = some (.str (PySem.Str.ofString "/:|,") t)
section
variable {P : Program} {w : World} {K : PySem.W.Frag} {mg : Str → Option Value} {base : Heap}
abbrev st_is_name : Stmt := top 10
abbrev nm_is_name : List Str := ["thing", "sign"]
theorem sc_is_name : FnScope nm_is_name ["thing"] (defScope st_is_name) := ⟨rfl, rfl, rfl, by decide +kernel, rfl, by decide +kernel, by decide +kernel⟩
def is_name_b1 : WS :=
  (wIf (wB (w2 (cB bNotIn) (wVar 1) (wC (.str (PySem.Str.ofString "abcdefghijklmnopqrstuvwxyz"))))) (wRet (wC (.bool false))) wNext)
def is_name_r1 : WS :=
  (wRet (wC (.bool true)))
def is_name_r2 : WS :=
  (wSeq (wFor (wIt (wVar 0)) (gN 1) is_name_b1)
    is_name_r1)
def ws_is_name : WS :=
  (wSeq (wIf (wOr (wNot (wB (wCall pIsi (wCons (wVar 0) (wCons (wTy .str) wNil))))) (wOr (wB (w2 (cB bLtD) (wCall pLen (wCons (wVar 0) wNil)) (wC (.int 1)))) (wB (w2 (cB bGt) (wCall pLen (wCons (wVar 0) wNil)) (wC (.int 8)))))) (wRet (wC (.bool false))) wNext)
    is_name_r2)
theorem ok_is_name {f : Addr} {fd : FuncData} {sp : Spc} (F : Fun K "is_name" "is_name" st_is_name f fd) (T : Txt mg) (hl : ∀ ds S K KX, sp ds S K KX → ds.length = 1)
    (hs : ∀ ds S K KX, sp ds S K KX → ws_is_name { nx := fun _ S1 => K (.z .none) S1, rt := K, ex := fun y _ S1 => KX y S1 } (startE nm_is_name ds) S) : FnOk P w K mg base (L2N.CX P w) 1 f fd ["thing"] (spOf sp) := by
  have nd := sc_is_name.nd
  refine fnpx F sc_is_name hl (ws := ws_is_name) (fun cdv A outer s H E B F0 hr tk hp => ?_) hs
  have hu := hu_px hr
  exact (bcons (xif (xtw (yor (xtnot (xtv (xcallB oIsi rfl T.n_isinstance bb_isinstance (acons (xv 0) (acons (xty (T := .str) rfl T.n_str bb_str) anil))))) (yor (xtcmp (oLtD hu) (xcallB oLen rfl T.n_len bb_len (acons (xv 0) anil)) xint) (yor1 (xtcmp oGt (xcallB oLen rfl T.n_len bb_len (acons (xv 0) anil)) xint))))) (bone (xret xbl)) bnil)
    (bcons (xfor hp rfl (xit (xv 0)) (xgn 1 nd) (bone (xif (xtcmp (oNotIn hu) (xv 1) (xgS rfl T.c_LETTERS)) (bone (xret xbl)) bnil)))
    (bone (xret xbl))))
abbrev st_nexts : Stmt := top 12
abbrev nm_nexts : List Str := ["pairs", "label", "found", "better", "worse"]
theorem sc_nexts : FnScope nm_nexts ["pairs", "label"] (defScope st_nexts) := ⟨rfl, rfl, rfl, by decide +kernel, rfl, by decide +kernel, by decide +kernel⟩
def nexts_b1 : WS :=
  (wIf (wAnd (wB (w2 (cB bEq) (wVar 3) (wVar 1))) (wB (w2 (cB bNotIn) (wVar 4) (wVar 2)))) (wDrop (wMth .list pApp (wVar 2) (wCons (wVar 4) wNil))) wNext)
def nexts_r1 : WS :=
  (wRet (wVar 2))
def ws_nexts : WS :=
  (wSeq (wAsg (wLst wNil) (gN 2))
    (wSeq (wFor (wIt (wVar 0)) (gT 2 (gC (gN 3) (gC (gN 4) gE))) nexts_b1)
    nexts_r1))
theorem ok_nexts {f : Addr} {fd : FuncData} {sp : Spc} (F : Fun K "nexts" "nexts" st_nexts f fd) (T : Txt mg) (hl : ∀ ds S K KX, sp ds S K KX → ds.length = 2)
    (hs : ∀ ds S K KX, sp ds S K KX → ws_nexts { nx := fun _ S1 => K (.z .none) S1, rt := K, ex := fun y _ S1 => KX y S1 } (startE nm_nexts ds) S) : FnOk P w K mg base (L2N.CX P w) 1 f fd ["pairs", "label"] (spOf sp) := by
  have nd := sc_nexts.nd
  refine fnpx F sc_nexts hl (ws := ws_nexts) (fun cdv A outer s H E B F0 hr tk hp => ?_) hs
  have hu := hu_px hr
  exact (bcons (xasg (xlst anil) (xgn 2 nd))
    (bcons (xfor hp rfl (xit (xv 0)) (xgt rfl (xgc (xgn 3 nd) (xgc (xgn 4 nd) xge))) (bone (xif (xtw (yand (xtcmp (oEq hu) (xv 3) (xv 1)) (yand1 (xtcmp (oNotIn hu) (xv 4) (xv 2))))) (bone (xexpr (xm1 (T := .list) PySem.F.plainAttrs_list PySem.F.slot_list_append PySem.F.type_list_append oApp (xv 2) (acons (xv 4) anil)))) bnil)))
    (bone (xret (xv 2)))))
abbrev st_below : Stmt := top 13
abbrev nm_below : List Str := ["pairs", "label", "come", "waiting", "here", "worse"]
theorem sc_below : FnScope nm_below ["pairs", "label"] (defScope st_below) := ⟨rfl, rfl, rfl, by decide +kernel, rfl, by decide +kernel, by decide +kernel⟩
def below_b1 : WS :=
  (wIf (wB (w2 (cB bNotIn) (wVar 5) (wVar 2))) (wSeq (wAsg (wC (.bool true)) (gS (wVar 2) (wVar 5)))
    (wDrop (wMth .list pApp (wVar 3) (wCons (wVar 5) wNil)))) wNext)
def below_t1 : WT :=
  (wB (w2 (cB bNe) (wVar 3) (wLst wNil)))
def below_b2 (sp_nexts : Spc) : WS :=
  (wSeq (wAsg (wMth .list pPop (wVar 3) wNil) (gN 4))
    (wFor (wIt (wFn sp_nexts [] (wCons (wVar 0) (wCons (wVar 4) wNil)))) (gN 5) below_b1))
def below_r1 : WS :=
  (wRet (wCall pSorted (wCons (wVar 2) wNil)))
def ws_below (sp_nexts : Spc) : WS :=
  (wSeq (wAsg wDic (gN 2))
    (wSeq (wAsg (wLst (wCons (wVar 1) wNil)) (gN 3))
    (wSeq (wWhile below_t1 (below_b2 sp_nexts))
    below_r1)))
theorem ok_below {f : Addr} {fd : FuncData} {sp : Spc} {sp_nexts : Spc} (F : Fun K "below" "below" st_below f fd) (T : Txt mg) (c_nexts : Fc P w K mg base "nexts" 1 ["pairs", "label"] sp_nexts) (hl : ∀ ds S K KX, sp ds S K KX → ds.length = 2)
    (hs : ∀ ds S K KX, sp ds S K KX → ws_below sp_nexts { nx := fun _ S1 => K (.z .none) S1, rt := K, ex := fun y _ S1 => KX y S1 } (startE nm_below ds) S) : FnOk P w K mg base (L2N.CX P w) 2 f fd ["pairs", "label"] (spOf sp) := by
  have nd := sc_below.nd
  refine fnpx F sc_below hl (ws := ws_below sp_nexts) (fun cdv A outer s H E B F0 hr tk hp => ?_) hs
  have hu := hu_px hr
  exact (bcons (xasg xdic (xgn 2 nd))
    (bcons (xasg (xlst (acons (xv 1) anil)) (xgn 3 nd))
    (bcons (xwhile hp (xtcmp (oNe hu) (xv 3) (xlst anil)) (bcons (xasg (xm0 (T := .list) PySem.F.plainAttrs_list PySem.F.slot_list_pop PySem.F.type_list_pop oPop (xv 3)) (xgn 4 nd))
    (bone (xfor hp rfl (xit (xfc c_nexts (hr.mono (by decide)) tk rfl (acons (xv 0) (acons (xv 4) anil)))) (xgn 5 nd) (bone (xif (xtcmp (oNotIn hu) (xv 5) (xv 2)) (bcons (xasg xbl (xgs (W := W0) hu (xv 2) (xv 5)))
    (bone (xexpr (xm1 (T := .list) PySem.F.plainAttrs_list PySem.F.slot_list_append PySem.F.type_list_append oApp (xv 3) (acons (xv 5) anil))))) bnil))))))
    (bone (xret (xcallB (oSorted hu rfl) rfl T.n_sorted bb_sorted (acons (xv 2) anil)))))))
abbrev st_chain : Stmt := top 14
abbrev nm_chain : List Str := ["pairs", "one", "other", "come", "waiting", "way", "worse"]
theorem sc_chain : FnScope nm_chain ["pairs", "one", "other"] (defScope st_chain) := ⟨rfl, rfl, rfl, by decide +kernel, rfl, by decide +kernel, by decide +kernel⟩
def chain_b1 : WS :=
  (wSeq (wIf (wB (w2 (cB bEq) (wVar 6) (wVar 2))) (wRet (w2 pAdd (wVar 5) (wLst (wCons (wVar 6) wNil)))) wNext)
    (wIf (wB (w2 (cB bNotIn) (wVar 6) (wVar 3))) (wSeq (wAsg (wC (.bool true)) (gS (wVar 3) (wVar 6)))
    (wDrop (wMth .list pApp (wVar 4) (wCons (w2 pAdd (wVar 5) (wLst (wCons (wVar 6) wNil))) wNil)))) wNext))
def chain_t1 : WT :=
  (wB (w2 (cB bNe) (wVar 4) (wLst wNil)))
def chain_b2 (sp_nexts : Spc) : WS :=
  (wSeq (wAsg (wMth .list pPop (wVar 4) (wCons (wC (.int 0)) wNil)) (gN 5))
    (wFor (wIt (wFn sp_nexts [] (wCons (wVar 0) (wCons (w2 pIx (wVar 5) (w1 pNeg (wC (.int 1)))) wNil)))) (gN 6) chain_b1))
def chain_r1 : WS :=
  (wRet (wC .none))
def ws_chain (sp_nexts : Spc) : WS :=
  (wSeq (wAsg wDic (gN 3))
    (wSeq (wAsg (wLst (wCons (wLst (wCons (wVar 1) wNil)) wNil)) (gN 4))
    (wSeq (wWhile chain_t1 (chain_b2 sp_nexts))
    chain_r1)))
theorem ok_chain {f : Addr} {fd : FuncData} {sp : Spc} {sp_nexts : Spc} (F : Fun K "chain" "chain" st_chain f fd) (T : Txt mg) (c_nexts : Fc P w K mg base "nexts" 1 ["pairs", "label"] sp_nexts) (hl : ∀ ds S K KX, sp ds S K KX → ds.length = 3)
    (hs : ∀ ds S K KX, sp ds S K KX → ws_chain sp_nexts { nx := fun _ S1 => K (.z .none) S1, rt := K, ex := fun y _ S1 => KX y S1 } (startE nm_chain ds) S) : FnOk P w K mg base (L2N.CX P w) 2 f fd ["pairs", "one", "other"] (spOf sp) := by
  have nd := sc_chain.nd
  refine fnpx F sc_chain hl (ws := ws_chain sp_nexts) (fun cdv A outer s H E B F0 hr tk hp => ?_) hs
  have hu := hu_px hr
  exact (bcons (xasg xdic (xgn 3 nd))
    (bcons (xasg (xlst (acons (xlst (acons (xv 1) anil)) anil)) (xgn 4 nd))
    (bcons (xwhile hp (xtcmp (oNe hu) (xv 4) (xlst anil)) (bcons (xasg (xm1 (T := .list) PySem.F.plainAttrs_list PySem.F.slot_list_pop PySem.F.type_list_pop oPop (xv 4) (acons xint anil)) (xgn 5 nd))
    (bone (xfor hp rfl (xit (xfc c_nexts (hr.mono (by decide)) tk rfl (acons (xv 0) (acons (xix (oIx hu) (xv 5) (xun oNeg xint)) anil)))) (xgn 6 nd) (bcons (xif (xtcmp (oEq hu) (xv 6) (xv 2)) (bone (xret (xop oAdd (xv 5) (xlst (acons (xv 6) anil))))) bnil)
    (bone (xif (xtcmp (oNotIn hu) (xv 6) (xv 3)) (bcons (xasg xbl (xgs (W := W0) hu (xv 3) (xv 6)))
    (bone (xexpr (xm1 (T := .list) PySem.F.plainAttrs_list PySem.F.slot_list_append PySem.F.type_list_append oApp (xv 4) (acons (xop oAdd (xv 5) (xlst (acons (xv 6) anil))) anil))))) bnil)))))))
    (bone (xret xnon)))))
abbrev st_labels_ahead : Stmt := top 15
abbrev nm_labels_ahead : List Str := ["pairs", "pair"]
theorem sc_labels_ahead : FnScope nm_labels_ahead ["pairs"] (defScope st_labels_ahead) := ⟨rfl, rfl, rfl, by decide +kernel, rfl, by decide +kernel, by decide +kernel⟩
def labels_ahead_e1 : WE :=
  (w2 pIx (wVar 1) (wC (.int 0)))
def ws_labels_ahead : WS :=
  (wRet (wSortSet (wLc (wIt (wVar 0)) (tgN 1) wYes labels_ahead_e1 [1])))
theorem ok_labels_ahead {f : Addr} {fd : FuncData} {sp : Spc} (F : Fun K "labels_ahead" "labels_ahead" st_labels_ahead f fd) (T : Txt mg) (hl : ∀ ds S K KX, sp ds S K KX → ds.length = 1)
    (hs : ∀ ds S K KX, sp ds S K KX → ws_labels_ahead { nx := fun _ S1 => K (.z .none) S1, rt := K, ex := fun y _ S1 => KX y S1 } (startE nm_labels_ahead ds) S) : FnOk P w K mg base (L2N.CX P w) 1 f fd ["pairs"] (spOf sp) := by
  have nd := sc_labels_ahead.nd
  refine fnpx F sc_labels_ahead hl (ws := ws_labels_ahead) (fun cdv A outer s H E B F0 hr tk hp => ?_) hs
  have hu := hu_px hr
  exact (bone (xret (xsortset rfl rfl T.n_sorted rfl T.n_set (xlc (own := [("pair", 1)]) rfl nd (xit (xv 0)) (blkOk_by (N := nm_labels_ahead) (sc := defScope st_labels_ahead) (by decide +kernel)) (fun _ _ _ _ _ => pg_name (i := 1) nd rfl (Or.inl rfl)) tgok_name (fun _ _ _ _ _ => tsNil) (fun _ _ _ _ _ => (xix (oIx hu) (xv 1) xint))))))
abbrev st_order_of : Stmt := top 16
abbrev nm_order_of : List Str := ["pairs", "found", "better", "worse", "way"]
theorem sc_order_of : FnScope nm_order_of ["pairs"] (defScope st_order_of) := ⟨rfl, rfl, rfl, by decide +kernel, rfl, by decide +kernel, by decide +kernel⟩
def order_of_b1 (sp_chain : Spc) : WS :=
  (wSeq (wIf (wB (w2 (cB bEq) (wVar 3) (wVar 2))) (wSeq (wAsg (wFn sp_chain [] (wCons (wVar 0) (wCons (wVar 2) (wCons (wVar 2) wNil)))) (gN 4))
    wNever) wNext)
    (wDrop (wMth .list pApp (wVar 1) (wCons (wTup (wCons (wVar 2) (wCons (wVar 3) wNil))) wNil))))
def order_of_b2 (sp_below : Spc) (sp_chain : Spc) : WS :=
  (wFor (wIt (wFn sp_below [] (wCons (wVar 0) (wCons (wVar 2) wNil)))) (gN 3) (order_of_b1 sp_chain))
def order_of_r1 : WS :=
  (wRet (wVar 1))
def ws_order_of (sp_labels_ahead : Spc) (sp_below : Spc) (sp_chain : Spc) : WS :=
  (wSeq (wAsg (wLst wNil) (gN 1))
    (wSeq (wFor (wIt (wFn sp_labels_ahead [] (wCons (wVar 0) wNil))) (gN 2) (order_of_b2 sp_below sp_chain))
    order_of_r1))
theorem ok_order_of {f : Addr} {fd : FuncData} {sp : Spc} {sp_labels_ahead : Spc} {sp_below : Spc} {sp_chain : Spc} (F : Fun K "order_of" "order_of" st_order_of f fd) (T : Txt mg) (c_labels_ahead : Fc P w K mg base "labels_ahead" 1 ["pairs"] sp_labels_ahead) (c_below : Fc P w K mg base "below" 2 ["pairs", "label"] sp_below) (c_chain : Fc P w K mg base "chain" 2 ["pairs", "one", "other"] sp_chain) (hl : ∀ ds S K KX, sp ds S K KX → ds.length = 1)
    (hs : ∀ ds S K KX, sp ds S K KX → ws_order_of sp_labels_ahead sp_below sp_chain { nx := fun _ S1 => K (.z .none) S1, rt := K, ex := fun y _ S1 => KX y S1 } (startE nm_order_of ds) S) : FnOk P w K mg base (L2N.CX P w) 3 f fd ["pairs"] (spOf sp) := by
  have nd := sc_order_of.nd
  refine fnpx F sc_order_of hl (ws := ws_order_of sp_labels_ahead sp_below sp_chain) (fun cdv A outer s H E B F0 hr tk hp => ?_) hs
  have hu := hu_px hr
  exact (bcons (xasg (xlst anil) (xgn 1 nd))
    (bcons (xfor hp rfl (xit (xfc c_labels_ahead (hr.mono (by decide)) tk rfl (acons (xv 0) anil))) (xgn 2 nd) (bone (xfor hp rfl (xit (xfc c_below (hr.mono (by decide)) tk rfl (acons (xv 0) (acons (xv 2) anil)))) (xgn 3 nd) (bcons (xif (xtcmp (oEq hu) (xv 3) (xv 2)) (bcons (xasg (xfc c_chain (hr.mono (by decide)) tk rfl (acons (xv 0) (acons (xv 2) (acons (xv 2) anil)))) (xgn 4 nd))
    (bone xnever)) bnil)
    (bone (xexpr (xm1 (T := .list) PySem.F.plainAttrs_list PySem.F.slot_list_append PySem.F.type_list_append oApp (xv 1) (acons (xtup (acons (xv 2) (acons (xv 3) anil))) anil))))))))
    (bone (xret (xv 1)))))
abbrev st_too_great : Stmt := top 21
abbrev nm_too_great : List Str := ["states", "pairs", "goes", "ends"]
theorem sc_too_great : FnScope nm_too_great ["states", "pairs"] (defScope st_too_great) := ⟨rfl, rfl, rfl, by decide +kernel, rfl, by decide +kernel, by decide +kernel⟩
def too_great_b1 : WS :=
  (wIf (wOr (wB (w2 (cB bGt) (wCall pLen (wCons (wVar 2) wNil)) (wC (.int 8)))) (wB (w2 (cB bGt) (wCall pLen (wCons (wVar 3) wNil)) (wC (.int 8))))) (wRet (wC (.bool true))) wNext)
def too_great_r1 : WS :=
  (wRet (wC (.bool false)))
def too_great_r2 : WS :=
  (wSeq (wFor (wIt (wVar 0)) (gT 2 (gC (gN 2) (gC (gN 3) gE))) too_great_b1)
    too_great_r1)
def ws_too_great : WS :=
  (wSeq (wIf (wOr (wB (w2 (cB bGt) (wCall pLen (wCons (wVar 0) wNil)) (wC (.int 8)))) (wB (w2 (cB bGt) (wCall pLen (wCons (wVar 1) wNil)) (wC (.int 40))))) (wRet (wC (.bool true))) wNext)
    too_great_r2)
theorem ok_too_great {f : Addr} {fd : FuncData} {sp : Spc} (F : Fun K "too_great" "too_great" st_too_great f fd) (T : Txt mg) (hl : ∀ ds S K KX, sp ds S K KX → ds.length = 2)
    (hs : ∀ ds S K KX, sp ds S K KX → ws_too_great { nx := fun _ S1 => K (.z .none) S1, rt := K, ex := fun y _ S1 => KX y S1 } (startE nm_too_great ds) S) : FnOk P w K mg base (L2N.CX P w) 1 f fd ["states", "pairs"] (spOf sp) := by
  have nd := sc_too_great.nd
  refine fnpx F sc_too_great hl (ws := ws_too_great) (fun cdv A outer s H E B F0 hr tk hp => ?_) hs
  have hu := hu_px hr
  exact (bcons (xif (xtw (yor (xtcmp oGt (xcallB oLen rfl T.n_len bb_len (acons (xv 0) anil)) (xgI rfl T.c_MOST_STATES)) (yor1 (xtcmp oGt (xcallB oLen rfl T.n_len bb_len (acons (xv 1) anil)) (xgI rfl T.c_MOST_PAIRS))))) (bone (xret xbl)) bnil)
    (bcons (xfor hp rfl (xit (xv 0)) (xgt rfl (xgc (xgn 2 nd) (xgc (xgn 3 nd) xge))) (bone (xif (xtw (yor (xtcmp oGt (xcallB oLen rfl T.n_len bb_len (acons (xv 2) anil)) (xgI rfl T.c_MOST_LABELS)) (yor1 (xtcmp oGt (xcallB oLen rfl T.n_len bb_len (acons (xv 3) anil)) (xgI rfl T.c_MOST_LABELS))))) (bone (xret xbl)) bnil)))
    (bone (xret xbl))))
abbrev st_labels_in : Stmt := top 22
abbrev nm_labels_in : List Str := ["states", "pairs", "found", "goes", "ends", "better", "worse", "label", "state"]
theorem sc_labels_in : FnScope nm_labels_in ["states", "pairs"] (defScope st_labels_in) := ⟨rfl, rfl, rfl, by decide +kernel, rfl, by decide +kernel, by decide +kernel⟩
def labels_in_e1 : WE :=
  (wVar 7)
def labels_in_b1 : WS :=
  (wSeq (wDrop (wMth .list pExt (wVar 2) (wCons (wLc (wIt (wVar 3)) (tgT [7, 8]) wYes labels_in_e1 [7, 8]) wNil)))
    (wDrop (wMth .list pExt (wVar 2) (wCons (wVar 4) wNil))))
def labels_in_b2 : WS :=
  (wSeq (wDrop (wMth .list pApp (wVar 2) (wCons (wVar 5) wNil)))
    (wDrop (wMth .list pApp (wVar 2) (wCons (wVar 6) wNil))))
def labels_in_r1 : WS :=
  (wRet (wVar 2))
def labels_in_r2 : WS :=
  (wSeq (wFor (wIt (wVar 1)) (gT 2 (gC (gN 5) (gC (gN 6) gE))) labels_in_b2)
    labels_in_r1)
def ws_labels_in : WS :=
  (wSeq (wAsg (wLst wNil) (gN 2))
    (wSeq (wFor (wIt (wVar 0)) (gT 2 (gC (gN 3) (gC (gN 4) gE))) labels_in_b1)
    labels_in_r2))
theorem ok_labels_in {f : Addr} {fd : FuncData} {sp : Spc} (F : Fun K "labels_in" "labels_in" st_labels_in f fd) (T : Txt mg) (hl : ∀ ds S K KX, sp ds S K KX → ds.length = 2)
    (hs : ∀ ds S K KX, sp ds S K KX → ws_labels_in { nx := fun _ S1 => K (.z .none) S1, rt := K, ex := fun y _ S1 => KX y S1 } (startE nm_labels_in ds) S) : FnOk P w K mg base (L2N.CX P w) 1 f fd ["states", "pairs"] (spOf sp) := by
  have nd := sc_labels_in.nd
  refine fnpx F sc_labels_in hl (ws := ws_labels_in) (fun cdv A outer s H E B F0 hr tk hp => ?_) hs
  have hu := hu_px hr
  exact (bcons (xasg (xlst anil) (xgn 2 nd))
    (bcons (xfor hp rfl (xit (xv 0)) (xgt rfl (xgc (xgn 3 nd) (xgc (xgn 4 nd) xge))) (bcons (xexpr (xm1 (T := .list) PySem.F.plainAttrs_list PySem.F.slot_list_extend PySem.F.type_list_extend oExt (xv 2) (acons (xlc (own := [("label", 7), ("state", 8)]) rfl nd (xit (xv 3)) (blkOk_by (N := nm_labels_in) (sc := defScope st_labels_in) (by decide +kernel)) (fun _ _ _ _ _ => pg_tup (n := 2) rfl (pgs_cons (pg_name (i := 7) nd rfl (Or.inl rfl)) (pgs_cons (pg_name (i := 8) nd rfl (Or.inl rfl)) pgs_nil))) (tgok_tup (is := [7, 8])) (fun _ _ _ _ _ => tsNil) (fun _ _ _ _ _ => (xv 7))) anil)))
    (bone (xexpr (xm1 (T := .list) PySem.F.plainAttrs_list PySem.F.slot_list_extend PySem.F.type_list_extend oExt (xv 2) (acons (xv 4) anil))))))
    (bcons (xfor hp rfl (xit (xv 1)) (xgt rfl (xgc (xgn 5 nd) (xgc (xgn 6 nd) xge))) (bcons (xexpr (xm1 (T := .list) PySem.F.plainAttrs_list PySem.F.slot_list_append PySem.F.type_list_append oApp (xv 2) (acons (xv 5) anil)))
    (bone (xexpr (xm1 (T := .list) PySem.F.plainAttrs_list PySem.F.slot_list_append PySem.F.type_list_append oApp (xv 2) (acons (xv 6) anil))))))
    (bone (xret (xv 2))))))
abbrev st_numbers_in : Stmt := top 23
abbrev nm_numbers_in : List Str := ["states", "inner", "found", "goes", "ends", "label", "state"]
theorem sc_numbers_in : FnScope nm_numbers_in ["states", "inner"] (defScope st_numbers_in) := ⟨rfl, rfl, rfl, by decide +kernel, rfl, by decide +kernel, by decide +kernel⟩
def numbers_in_e1 : WE :=
  (wVar 6)
def numbers_in_b1 : WS :=
  (wDrop (wMth .list pExt (wVar 2) (wCons (wLc (wIt (wVar 3)) (tgT [5, 6]) wYes numbers_in_e1 [5, 6]) wNil)))
def numbers_in_r1 : WS :=
  (wRet (wVar 2))
def ws_numbers_in : WS :=
  (wSeq (wAsg (wLst (wCons (wVar 1) wNil)) (gN 2))
    (wSeq (wFor (wIt (wVar 0)) (gT 2 (gC (gN 3) (gC (gN 4) gE))) numbers_in_b1)
    numbers_in_r1))
theorem ok_numbers_in {f : Addr} {fd : FuncData} {sp : Spc} (F : Fun K "numbers_in" "numbers_in" st_numbers_in f fd) (T : Txt mg) (hl : ∀ ds S K KX, sp ds S K KX → ds.length = 2)
    (hs : ∀ ds S K KX, sp ds S K KX → ws_numbers_in { nx := fun _ S1 => K (.z .none) S1, rt := K, ex := fun y _ S1 => KX y S1 } (startE nm_numbers_in ds) S) : FnOk P w K mg base (L2N.CX P w) 1 f fd ["states", "inner"] (spOf sp) := by
  have nd := sc_numbers_in.nd
  refine fnpx F sc_numbers_in hl (ws := ws_numbers_in) (fun cdv A outer s H E B F0 hr tk hp => ?_) hs
  have hu := hu_px hr
  exact (bcons (xasg (xlst (acons (xv 1) anil)) (xgn 2 nd))
    (bcons (xfor hp rfl (xit (xv 0)) (xgt rfl (xgc (xgn 3 nd) (xgc (xgn 4 nd) xge))) (bone (xexpr (xm1 (T := .list) PySem.F.plainAttrs_list PySem.F.slot_list_extend PySem.F.type_list_extend oExt (xv 2) (acons (xlc (own := [("label", 5), ("state", 6)]) rfl nd (xit (xv 3)) (blkOk_by (N := nm_numbers_in) (sc := defScope st_numbers_in) (by decide +kernel)) (fun _ _ _ _ _ => pg_tup (n := 2) rfl (pgs_cons (pg_name (i := 5) nd rfl (Or.inl rfl)) (pgs_cons (pg_name (i := 6) nd rfl (Or.inl rfl)) pgs_nil))) (tgok_tup (is := [5, 6])) (fun _ _ _ _ _ => tsNil) (fun _ _ _ _ _ => (xv 6))) anil)))))
    (bone (xret (xv 2)))))
abbrev st_has_double : Stmt := top 24
abbrev nm_has_double : List Str := ["labels"]
theorem sc_has_double : FnScope nm_has_double ["labels"] (defScope st_has_double) := ⟨rfl, rfl, rfl, by decide +kernel, rfl, by decide +kernel, by decide +kernel⟩
def ws_has_double : WS :=
  (wRet (w2 (cB bLtD) (wLenSet (wVar 0)) (wCall pLen (wCons (wVar 0) wNil))))
theorem ok_has_double {f : Addr} {fd : FuncData} {sp : Spc} (F : Fun K "has_double" "has_double" st_has_double f fd) (T : Txt mg) (hl : ∀ ds S K KX, sp ds S K KX → ds.length = 1)
    (hs : ∀ ds S K KX, sp ds S K KX → ws_has_double { nx := fun _ S1 => K (.z .none) S1, rt := K, ex := fun y _ S1 => KX y S1 } (startE nm_has_double ds) S) : FnOk P w K mg base (L2N.CX P w) 1 f fd ["labels"] (spOf sp) := by
  have nd := sc_has_double.nd
  refine fnpx F sc_has_double hl (ws := ws_has_double) (fun cdv A outer s H E B F0 hr tk hp => ?_) hs
  have hu := hu_px hr
  exact (bone (xret (xcmp (oLtD hu) (xlenset rfl rfl T.n_len rfl T.n_set (xv 0)) (xcallB oLen rfl T.n_len bb_len (acons (xv 0) anil)))))
abbrev st_table_of : Stmt := top 25
abbrev nm_table_of : List Str := ["states", "inner", "pairs", "label", "number", "order", "goes", "ends", "state"]
theorem sc_table_of : FnScope nm_table_of ["states", "inner", "pairs"] (defScope st_table_of) := ⟨rfl, rfl, rfl, by decide +kernel, rfl, by decide +kernel, by decide +kernel⟩
def table_of_b1 (sp_is_name : Spc) : WS :=
  (wIf (wNot (wB (wFn sp_is_name [] (wCons (wVar 3) wNil)))) wNever wNext)
def table_of_b2 : WS :=
  (wIf (wOr (wB (w2 (cB bLtD) (wVar 4) (wC (.int 0)))) (wB (w2 (cB bGe) (wVar 4) (wCall pLen (wCons (wVar 0) wNil))))) wNever wNext)
def table_of_e1 : WE :=
  (wVar 3)
def table_of_b3 (sp_has_double : Spc) : WS :=
  (wIf (wOr (wB (wFn sp_has_double [] (wCons (wLc (wIt (wVar 6)) (tgT [3, 8]) wYes table_of_e1 [3, 8]) wNil))) (wB (wFn sp_has_double [] (wCons (wVar 7) wNil)))) wNever wNext)
def table_of_e2 : WE :=
  (wTup (wCons (wCall pSorted (wCons (wVar 6) wNil)) (wCons (wCall pSorted (wCons (wVar 7) wNil)) wNil)))
def table_of_r1 (sp_order_of : Spc) : WS :=
  (wSeq (wAsg (wFn sp_order_of [] (wCons (wVar 2) wNil)) (gN 5))
    (wRet (wTup (wCons (wLc (wIt (wVar 0)) (tgT [6, 7]) wYes table_of_e2 [6, 7]) (wCons (wVar 1) (wCons (wVar 5) wNil))))))
def table_of_r2 (sp_has_double : Spc) (sp_order_of : Spc) : WS :=
  (wSeq (wFor (wIt (wVar 0)) (gT 2 (gC (gN 6) (gC (gN 7) gE))) (table_of_b3 sp_has_double))
    (table_of_r1 sp_order_of))
def table_of_r3 (sp_numbers_in : Spc) (sp_has_double : Spc) (sp_order_of : Spc) : WS :=
  (wSeq (wFor (wIt (wFn sp_numbers_in [] (wCons (wVar 0) (wCons (wVar 1) wNil)))) (gN 4) table_of_b2)
    (table_of_r2 sp_has_double sp_order_of))
def table_of_r4 (sp_labels_in : Spc) (sp_is_name : Spc) (sp_numbers_in : Spc) (sp_has_double : Spc) (sp_order_of : Spc) : WS :=
  (wSeq (wFor (wIt (wFn sp_labels_in [] (wCons (wVar 0) (wCons (wVar 2) wNil)))) (gN 3) (table_of_b1 sp_is_name))
    (table_of_r3 sp_numbers_in sp_has_double sp_order_of))
def ws_table_of (sp_too_great : Spc) (sp_labels_in : Spc) (sp_is_name : Spc) (sp_numbers_in : Spc) (sp_has_double : Spc) (sp_order_of : Spc) : WS :=
  (wSeq (wIf (wB (wFn sp_too_great [] (wCons (wVar 0) (wCons (wVar 2) wNil)))) wNever wNext)
    (table_of_r4 sp_labels_in sp_is_name sp_numbers_in sp_has_double sp_order_of))
theorem ok_table_of {f : Addr} {fd : FuncData} {sp : Spc} {sp_too_great : Spc} {sp_labels_in : Spc} {sp_is_name : Spc} {sp_numbers_in : Spc} {sp_has_double : Spc} {sp_order_of : Spc} (F : Fun K "table_of" "table_of" st_table_of f fd) (T : Txt mg) (c_too_great : Fc P w K mg base "too_great" 1 ["states", "pairs"] sp_too_great) (c_labels_in : Fc P w K mg base "labels_in" 1 ["states", "pairs"] sp_labels_in) (c_is_name : Fc P w K mg base "is_name" 1 ["thing"] sp_is_name) (c_numbers_in : Fc P w K mg base "numbers_in" 1 ["states", "inner"] sp_numbers_in) (c_has_double : Fc P w K mg base "has_double" 1 ["labels"] sp_has_double) (c_order_of : Fc P w K mg base "order_of" 3 ["pairs"] sp_order_of) (hl : ∀ ds S K KX, sp ds S K KX → ds.length = 3)
    (hs : ∀ ds S K KX, sp ds S K KX → ws_table_of sp_too_great sp_labels_in sp_is_name sp_numbers_in sp_has_double sp_order_of { nx := fun _ S1 => K (.z .none) S1, rt := K, ex := fun y _ S1 => KX y S1 } (startE nm_table_of ds) S) : FnOk P w K mg base (L2N.CX P w) 4 f fd ["states", "inner", "pairs"] (spOf sp) := by
  have nd := sc_table_of.nd
  refine fnpx F sc_table_of hl (ws := ws_table_of sp_too_great sp_labels_in sp_is_name sp_numbers_in sp_has_double sp_order_of) (fun cdv A outer s H E B F0 hr tk hp => ?_) hs
  have hu := hu_px hr
  exact (bcons (xif (xtv (xfc c_too_great (hr.mono (by decide)) tk rfl (acons (xv 0) (acons (xv 2) anil)))) (bone xnever) bnil)
    (bcons (xfor hp rfl (xit (xfc c_labels_in (hr.mono (by decide)) tk rfl (acons (xv 0) (acons (xv 2) anil)))) (xgn 3 nd) (bone (xif (xtnot (xtv (xfc c_is_name (hr.mono (by decide)) tk rfl (acons (xv 3) anil)))) (bone xnever) bnil)))
    (bcons (xfor hp rfl (xit (xfc c_numbers_in (hr.mono (by decide)) tk rfl (acons (xv 0) (acons (xv 1) anil)))) (xgn 4 nd) (bone (xif (xtw (yor (xtcmp (oLtD hu) (xv 4) xint) (yor1 (xtcmp oGe (xv 4) (xcallB oLen rfl T.n_len bb_len (acons (xv 0) anil)))))) (bone xnever) bnil)))
    (bcons (xfor hp rfl (xit (xv 0)) (xgt rfl (xgc (xgn 6 nd) (xgc (xgn 7 nd) xge))) (bone (xif (xtw (yor (xtv (xfc c_has_double (hr.mono (by decide)) tk rfl (acons (xlc (own := [("label", 3), ("state", 8)]) rfl nd (xit (xv 6)) (blkOk_by (N := nm_table_of) (sc := defScope st_table_of) (by decide +kernel)) (fun _ _ _ _ _ => pg_tup (n := 2) rfl (pgs_cons (pg_name (i := 3) nd rfl (Or.inl rfl)) (pgs_cons (pg_name (i := 8) nd rfl (Or.inl rfl)) pgs_nil))) (tgok_tup (is := [3, 8])) (fun _ _ _ _ _ => tsNil) (fun _ _ _ _ _ => (xv 3))) anil))) (yor1 (xtv (xfc c_has_double (hr.mono (by decide)) tk rfl (acons (xv 7) anil)))))) (bone xnever) bnil)))
    (bcons (xasg (xfc c_order_of (hr.mono (by decide)) tk rfl (acons (xv 2) anil)) (xgn 5 nd))
    (bone (xret (xtup (acons (xlc (own := [("goes", 6), ("ends", 7)]) rfl nd (xit (xv 0)) (blkOk_by (N := nm_table_of) (sc := defScope st_table_of) (by decide +kernel)) (fun _ _ _ _ _ => pg_tup (n := 2) rfl (pgs_cons (pg_name (i := 6) nd rfl (Or.inl rfl)) (pgs_cons (pg_name (i := 7) nd rfl (Or.inl rfl)) pgs_nil))) (tgok_tup (is := [6, 7])) (fun _ _ _ _ _ => tsNil) (fun _ _ _ _ _ => (xtup (acons (xcallB (oSorted hu rfl) rfl T.n_sorted bb_sorted (acons (xv 6) anil)) (acons (xcallB (oSorted hu rfl) rfl T.n_sorted bb_sorted (acons (xv 7) anil)) anil))))) (acons (xv 1) (acons (xv 5) anil)))))))))))
abbrev st_number_in : Stmt := top 29
abbrev nm_number_in : List Str := ["word", "sign"]
theorem sc_number_in : FnScope nm_number_in ["word"] (defScope st_number_in) := ⟨rfl, rfl, rfl, by decide +kernel, rfl, by decide +kernel, by decide +kernel⟩
def number_in_b1 : WS :=
  (wIf (wB (w2 (cB bNotIn) (wVar 1) (wC (.str (PySem.Str.ofString "0123456789"))))) wNever wNext)
def number_in_r1 : WS :=
  (wRet (wCall pIntT (wCons (wVar 0) wNil)))
def number_in_r2 : WS :=
  (wSeq (wIf (wAnd (wB (w2 (cB bGt) (wCall pLen (wCons (wVar 0) wNil)) (wC (.int 1)))) (wB (wMth .str pStarts (wVar 0) (wCons (wC (.str (PySem.Str.ofString "0"))) wNil)))) wNever wNext)
    number_in_r1)
def number_in_r3 : WS :=
  (wSeq (wFor (wIt (wVar 0)) (gN 1) number_in_b1)
    number_in_r2)
def ws_number_in : WS :=
  (wSeq (wIf (wOr (wB (w2 (cB bLtD) (wCall pLen (wCons (wVar 0) wNil)) (wC (.int 1)))) (wB (w2 (cB bGt) (wCall pLen (wCons (wVar 0) wNil)) (wC (.int 4))))) wNever wNext)
    number_in_r3)
theorem ok_number_in {f : Addr} {fd : FuncData} {sp : Spc} (F : Fun K "number_in" "number_in" st_number_in f fd) (T : Txt mg) (hl : ∀ ds S K KX, sp ds S K KX → ds.length = 1)
    (hs : ∀ ds S K KX, sp ds S K KX → ws_number_in { nx := fun _ S1 => K (.z .none) S1, rt := K, ex := fun y _ S1 => KX y S1 } (startE nm_number_in ds) S) : FnOk P w K mg base (L2N.CX P w) 1 f fd ["word"] (spOf sp) := by
  have nd := sc_number_in.nd
  refine fnpx F sc_number_in hl (ws := ws_number_in) (fun cdv A outer s H E B F0 hr tk hp => ?_) hs
  have hu := hu_px hr
  exact (bcons (xif (xtw (yor (xtcmp (oLtD hu) (xcallB oLen rfl T.n_len bb_len (acons (xv 0) anil)) xint) (yor1 (xtcmp oGt (xcallB oLen rfl T.n_len bb_len (acons (xv 0) anil)) xint)))) (bone xnever) bnil)
    (bcons (xfor hp rfl (xit (xv 0)) (xgn 1 nd) (bone (xif (xtcmp (oNotIn hu) (xv 1) (xgS rfl T.c_FIGURES)) (bone xnever) bnil)))
    (bcons (xif (xtw (yand (xtcmp oGt (xcallB oLen rfl T.n_len bb_len (acons (xv 0) anil)) xint) (yand1 (xtv (xm1 (T := .str) PySem.F.plainAttrs_str PySem.F.slot_str_startswith PySem.F.type_str_startswith oStarts (xv 0) (acons xstr anil)))))) (bone xnever) bnil)
    (bone (xret (xcallT oIntT rfl T.n_int bb_int (acons (xv 0) anil)))))))
abbrev st_parted : Stmt := top 30
abbrev nm_parted : List Str := ["words", "sign", "found", "word"]
theorem sc_parted : FnScope nm_parted ["words", "sign"] (defScope st_parted) := ⟨rfl, rfl, rfl, by decide +kernel, rfl, by decide +kernel, by decide +kernel⟩
def parted_b1 : WS :=
  (wIf (wB (w2 (cB bEq) (wVar 3) (wVar 1))) (wDrop (wMth .list pApp (wVar 2) (wCons (wLst wNil) wNil))) (wDrop (wMth .list pApp (w2 pIx (wVar 2) (w1 pNeg (wC (.int 1)))) (wCons (wVar 3) wNil))))
def parted_r1 : WS :=
  (wRet (wVar 2))
def ws_parted : WS :=
  (wSeq (wAsg (wLst (wCons (wLst wNil) wNil)) (gN 2))
    (wSeq (wFor (wIt (wVar 0)) (gN 3) parted_b1)
    parted_r1))
theorem ok_parted {f : Addr} {fd : FuncData} {sp : Spc} (F : Fun K "parted" "parted" st_parted f fd) (T : Txt mg) (hl : ∀ ds S K KX, sp ds S K KX → ds.length = 2)
    (hs : ∀ ds S K KX, sp ds S K KX → ws_parted { nx := fun _ S1 => K (.z .none) S1, rt := K, ex := fun y _ S1 => KX y S1 } (startE nm_parted ds) S) : FnOk P w K mg base (L2N.CX P w) 1 f fd ["words", "sign"] (spOf sp) := by
  have nd := sc_parted.nd
  refine fnpx F sc_parted hl (ws := ws_parted) (fun cdv A outer s H E B F0 hr tk hp => ?_) hs
  have hu := hu_px hr
  exact (bcons (xasg (xlst (acons (xlst anil) anil)) (xgn 2 nd))
    (bcons (xfor hp rfl (xit (xv 0)) (xgn 3 nd) (bone (xif (xtcmp (oEq hu) (xv 3) (xv 1)) (bone (xexpr (xm1 (T := .list) PySem.F.plainAttrs_list PySem.F.slot_list_append PySem.F.type_list_append oApp (xv 2) (acons (xlst anil) anil)))) (bone (xexpr (xm1 (T := .list) PySem.F.plainAttrs_list PySem.F.slot_list_append PySem.F.type_list_append oApp (xix (oIx hu) (xv 2) (xun oNeg xint)) (acons (xv 3) anil)))))))
    (bone (xret (xv 2)))))
abbrev st_twos : Stmt := top 31
abbrev nm_twos : List Str := ["words", "found", "pair"]
theorem sc_twos : FnScope nm_twos ["words"] (defScope st_twos) := ⟨rfl, rfl, rfl, by decide +kernel, rfl, by decide +kernel, by decide +kernel⟩
def twos_b1 : WS :=
  (wSeq (wIf (wB (w2 (cB bNe) (wCall pLen (wCons (wVar 2) wNil)) (wC (.int 2)))) wNever wNext)
    (wDrop (wMth .list pApp (wVar 1) (wCons (wTup (wCons (w2 pIx (wVar 2) (wC (.int 0))) (wCons (w2 pIx (wVar 2) (wC (.int 1))) wNil))) wNil))))
def twos_r1 : WS :=
  (wRet (wVar 1))
def twos_r2 (sp_parted : Spc) : WS :=
  (wSeq (wAsg (wLst wNil) (gN 1))
    (wSeq (wFor (wIt (wFn sp_parted [] (wCons (wVar 0) (wCons (wC (.str (PySem.Str.ofString ","))) wNil)))) (gN 2) twos_b1)
    twos_r1))
def ws_twos (sp_parted : Spc) : WS :=
  (wSeq (wIf (wB (w2 (cB bEq) (wVar 0) (wLst wNil))) (wRet (wLst wNil)) wNext)
    (twos_r2 sp_parted))
theorem ok_twos {f : Addr} {fd : FuncData} {sp : Spc} {sp_parted : Spc} (F : Fun K "twos" "twos" st_twos f fd) (T : Txt mg) (c_parted : Fc P w K mg base "parted" 1 ["words", "sign"] sp_parted) (hl : ∀ ds S K KX, sp ds S K KX → ds.length = 1)
    (hs : ∀ ds S K KX, sp ds S K KX → ws_twos sp_parted { nx := fun _ S1 => K (.z .none) S1, rt := K, ex := fun y _ S1 => KX y S1 } (startE nm_twos ds) S) : FnOk P w K mg base (L2N.CX P w) 2 f fd ["words"] (spOf sp) := by
  have nd := sc_twos.nd
  refine fnpx F sc_twos hl (ws := ws_twos sp_parted) (fun cdv A outer s H E B F0 hr tk hp => ?_) hs
  have hu := hu_px hr
  exact (bcons (xif (xtcmp (oEq hu) (xv 0) (xlst anil)) (bone (xret (xlst anil))) bnil)
    (bcons (xasg (xlst anil) (xgn 1 nd))
    (bcons (xfor hp rfl (xit (xfc c_parted (hr.mono (by decide)) tk rfl (acons (xv 0) (acons xstr anil)))) (xgn 2 nd) (bcons (xif (xtcmp (oNe hu) (xcallB oLen rfl T.n_len bb_len (acons (xv 2) anil)) xint) (bone xnever) bnil)
    (bone (xexpr (xm1 (T := .list) PySem.F.plainAttrs_list PySem.F.slot_list_append PySem.F.type_list_append oApp (xv 1) (acons (xtup (acons (xix (oIx hu) (xv 2) xint) (acons (xix (oIx hu) (xv 2) xint) anil))) anil))))))
    (bone (xret (xv 1))))))
abbrev st_plain_words : Stmt := top 32
abbrev nm_plain_words : List Str := ["words", "word"]
theorem sc_plain_words : FnScope nm_plain_words ["words"] (defScope st_plain_words) := ⟨rfl, rfl, rfl, by decide +kernel, rfl, by decide +kernel, by decide +kernel⟩
def plain_words_b1 : WS :=
  (wIf (wAnd (wB (w2 (cB bEq) (wCall pLen (wCons (wVar 1) wNil)) (wC (.int 1)))) (wB (w2 (cB bIn) (wVar 1) (wC (.str (PySem.Str.ofString "/:|,")))))) wNever wNext)
def plain_words_r1 : WS :=
  (wRet (wVar 0))
def ws_plain_words : WS :=
  (wSeq (wFor (wIt (wVar 0)) (gN 1) plain_words_b1)
    plain_words_r1)
theorem ok_plain_words {f : Addr} {fd : FuncData} {sp : Spc} (F : Fun K "plain_words" "plain_words" st_plain_words f fd) (T : Txt mg) (hl : ∀ ds S K KX, sp ds S K KX → ds.length = 1)
    (hs : ∀ ds S K KX, sp ds S K KX → ws_plain_words { nx := fun _ S1 => K (.z .none) S1, rt := K, ex := fun y _ S1 => KX y S1 } (startE nm_plain_words ds) S) : FnOk P w K mg base (L2N.CX P w) 1 f fd ["words"] (spOf sp) := by
  have nd := sc_plain_words.nd
  refine fnpx F sc_plain_words hl (ws := ws_plain_words) (fun cdv A outer s H E B F0 hr tk hp => ?_) hs
  have hu := hu_px hr
  exact (bcons (xfor hp rfl (xit (xv 0)) (xgn 1 nd) (bone (xif (xtw (yand (xtcmp (oEq hu) (xcallB oLen rfl T.n_len bb_len (acons (xv 1) anil)) xint) (yand1 (xtcmp (oIn hu) (xv 1) (xgS rfl T.c_SIGNS))))) (bone xnever) bnil)))
    (bone (xret (xv 0))))
abbrev st_state_in : Stmt := top 33
abbrev nm_state_in : List Str := ["words", "halves", "goes", "label", "number"]
theorem sc_state_in : FnScope nm_state_in ["words"] (defScope st_state_in) := ⟨rfl, rfl, rfl, by decide +kernel, rfl, by decide +kernel, by decide +kernel⟩
def state_in_e1 (sp_number_in : Spc) : WE :=
  (wTup (wCons (wVar 3) (wCons (wFn sp_number_in [] (wCons (wVar 4) wNil)) wNil)))
def state_in_r1 (sp_twos : Spc) (sp_number_in : Spc) (sp_plain_words : Spc) : WS :=
  (wSeq (wAsg (wLc (wIt (wFn sp_twos [] (wCons (w2 pIx (wVar 1) (wC (.int 0))) wNil))) (tgT [3, 4]) wYes (state_in_e1 sp_number_in) [3, 4]) (gN 2))
    (wRet (wTup (wCons (wVar 2) (wCons (wFn sp_plain_words [] (wCons (w2 pIx (wVar 1) (wC (.int 1))) wNil)) wNil)))))
def ws_state_in (sp_parted : Spc) (sp_twos : Spc) (sp_number_in : Spc) (sp_plain_words : Spc) : WS :=
  (wSeq (wAsg (wFn sp_parted [] (wCons (wVar 0) (wCons (wC (.str (PySem.Str.ofString ":"))) wNil))) (gN 1))
    (wSeq (wIf (wB (w2 (cB bNe) (wCall pLen (wCons (wVar 1) wNil)) (wC (.int 2)))) wNever wNext)
    (state_in_r1 sp_twos sp_number_in sp_plain_words)))
theorem ok_state_in {f : Addr} {fd : FuncData} {sp : Spc} {sp_parted : Spc} {sp_twos : Spc} {sp_number_in : Spc} {sp_plain_words : Spc} (F : Fun K "state_in" "state_in" st_state_in f fd) (T : Txt mg) (c_parted : Fc P w K mg base "parted" 1 ["words", "sign"] sp_parted) (c_twos : Fc P w K mg base "twos" 2 ["words"] sp_twos) (c_number_in : Fc P w K mg base "number_in" 1 ["word"] sp_number_in) (c_plain_words : Fc P w K mg base "plain_words" 1 ["words"] sp_plain_words) (hl : ∀ ds S K KX, sp ds S K KX → ds.length = 1)
    (hs : ∀ ds S K KX, sp ds S K KX → ws_state_in sp_parted sp_twos sp_number_in sp_plain_words { nx := fun _ S1 => K (.z .none) S1, rt := K, ex := fun y _ S1 => KX y S1 } (startE nm_state_in ds) S) : FnOk P w K mg base (L2N.CX P w) 3 f fd ["words"] (spOf sp) := by
  have nd := sc_state_in.nd
  refine fnpx F sc_state_in hl (ws := ws_state_in sp_parted sp_twos sp_number_in sp_plain_words) (fun cdv A outer s H E B F0 hr tk hp => ?_) hs
  have hu := hu_px hr
  exact (bcons (xasg (xfc c_parted (hr.mono (by decide)) tk rfl (acons (xv 0) (acons xstr anil))) (xgn 1 nd))
    (bcons (xif (xtcmp (oNe hu) (xcallB oLen rfl T.n_len bb_len (acons (xv 1) anil)) xint) (bone xnever) bnil)
    (bcons (xsetLc (i := 2) (own := [("label", 3), ("number", 4)]) rfl nd rfl rfl (sw_true rfl rfl rfl (by decide +kernel)) (xit (xfc c_twos (hr.mono (by decide)) tk rfl (acons (xix (oIx hu) (xv 1) xint) anil))) (blkOk_by (N := nm_state_in) (sc := defScope st_state_in) (by decide +kernel)) (fun _ _ _ _ _ => pg_tup (n := 2) rfl (pgs_cons (pg_name (i := 3) nd rfl (Or.inl rfl)) (pgs_cons (pg_name (i := 4) nd rfl (Or.inl rfl)) pgs_nil))) (tgok_tup (is := [3, 4])) (fun _ _ _ _ _ => tsNil) (fun _ _ _ _ _ => (xtup (acons (xv 3) (acons (xfc c_number_in (hr.mono (by decide)) takes0N rfl (acons (xv 4) anil)) anil)))))
    (bone (xret (xtup (acons (xv 2) (acons (xfc c_plain_words (hr.mono (by decide)) tk rfl (acons (xix (oIx hu) (xv 1) xint) anil)) anil))))))))
abbrev st_read_table : Stmt := top 34
abbrev nm_read_table : List Str := ["text", "thirds", "states", "inner", "pairs", "one", "other", "words"]
theorem sc_read_table : FnScope nm_read_table ["text"] (defScope st_read_table) := ⟨rfl, rfl, rfl, by decide +kernel, rfl, by decide +kernel, by decide +kernel⟩
def read_table_e1 (sp_state_in : Spc) : WE :=
  (wFn sp_state_in [] (wCons (wVar 7) wNil))
def read_table_b1 (sp_plain_words : Spc) : WS :=
  (wDrop (wFn sp_plain_words [] (wCons (wLst (wCons (wVar 5) (wCons (wVar 6) wNil))) wNil)))
def read_table_r1 (sp_table_of : Spc) : WS :=
  (wRet (wFn sp_table_of [] (wCons (wVar 2) (wCons (wVar 3) (wCons (wVar 4) wNil)))))
def read_table_r2 (sp_parted : Spc) (sp_state_in : Spc) (sp_number_in : Spc) (sp_twos : Spc) (sp_plain_words : Spc) (sp_table_of : Spc) : WS :=
  (wSeq (wAsg (wLc (wIt (wFn sp_parted [] (wCons (w2 pIx (wVar 1) (wC (.int 0))) (wCons (wC (.str (PySem.Str.ofString "/"))) wNil)))) (tgN 7) wYes (read_table_e1 sp_state_in) [7]) (gN 2))
    (wSeq (wAsg (wFn sp_number_in [] (wCons (w2 pIx (w2 pIx (wVar 1) (wC (.int 1))) (wC (.int 0))) wNil)) (gN 3))
    (wSeq (wAsg (wFn sp_twos [] (wCons (w2 pIx (wVar 1) (wC (.int 2))) wNil)) (gN 4))
    (wSeq (wFor (wIt (wVar 4)) (gT 2 (gC (gN 5) (gC (gN 6) gE))) (read_table_b1 sp_plain_words))
    (read_table_r1 sp_table_of)))))
def read_table_r3 (sp_parted : Spc) (sp_state_in : Spc) (sp_number_in : Spc) (sp_twos : Spc) (sp_plain_words : Spc) (sp_table_of : Spc) : WS :=
  (wSeq (wAsg (wFn sp_parted [] (wCons (wMth .str pSplit (wVar 0) (wCons (wC (.str (PySem.Str.ofString " "))) wNil)) (wCons (wC (.str (PySem.Str.ofString "|"))) wNil))) (gN 1))
    (wSeq (wIf (wOr (wB (w2 (cB bNe) (wCall pLen (wCons (wVar 1) wNil)) (wC (.int 3)))) (wB (w2 (cB bNe) (wCall pLen (wCons (w2 pIx (wVar 1) (wC (.int 1))) wNil)) (wC (.int 1))))) wNever wNext)
    (read_table_r2 sp_parted sp_state_in sp_number_in sp_twos sp_plain_words sp_table_of)))
def ws_read_table (sp_parted : Spc) (sp_state_in : Spc) (sp_number_in : Spc) (sp_twos : Spc) (sp_plain_words : Spc) (sp_table_of : Spc) : WS :=
  (wSeq (wIf (wNot (wB (wCall pIsi (wCons (wVar 0) (wCons (wTy .str) wNil))))) wNever wNext)
    (read_table_r3 sp_parted sp_state_in sp_number_in sp_twos sp_plain_words sp_table_of))
theorem ok_read_table {f : Addr} {fd : FuncData} {sp : Spc} {sp_parted : Spc} {sp_state_in : Spc} {sp_number_in : Spc} {sp_twos : Spc} {sp_plain_words : Spc} {sp_table_of : Spc} (F : Fun K "read_table" "read_table" st_read_table f fd) (T : Txt mg) (c_parted : Fc P w K mg base "parted" 1 ["words", "sign"] sp_parted) (c_state_in : Fc P w K mg base "state_in" 3 ["words"] sp_state_in) (c_number_in : Fc P w K mg base "number_in" 1 ["word"] sp_number_in) (c_twos : Fc P w K mg base "twos" 2 ["words"] sp_twos) (c_plain_words : Fc P w K mg base "plain_words" 1 ["words"] sp_plain_words) (c_table_of : Fc P w K mg base "table_of" 4 ["states", "inner", "pairs"] sp_table_of) (hl : ∀ ds S K KX, sp ds S K KX → ds.length = 1)
    (hs : ∀ ds S K KX, sp ds S K KX → ws_read_table sp_parted sp_state_in sp_number_in sp_twos sp_plain_words sp_table_of { nx := fun _ S1 => K (.z .none) S1, rt := K, ex := fun y _ S1 => KX y S1 } (startE nm_read_table ds) S) : FnOk P w K mg base (L2N.CX P w) 5 f fd ["text"] (spOf sp) := by
  have nd := sc_read_table.nd
  refine fnpx F sc_read_table hl (ws := ws_read_table sp_parted sp_state_in sp_number_in sp_twos sp_plain_words sp_table_of) (fun cdv A outer s H E B F0 hr tk hp => ?_) hs
  have hu := hu_px hr
  exact (bcons (xif (xtnot (xtv (xcallB oIsi rfl T.n_isinstance bb_isinstance (acons (xv 0) (acons (xty (T := .str) rfl T.n_str bb_str) anil))))) (bone xnever) bnil)
    (bcons (xasg (xfc c_parted (hr.mono (by decide)) tk rfl (acons (xm1 (T := .str) PySem.F.plainAttrs_str PySem.F.slot_str_split PySem.F.type_str_split oSplit (xv 0) (acons xstr anil)) (acons xstr anil))) (xgn 1 nd))
    (bcons (xif (xtw (yor (xtcmp (oNe hu) (xcallB oLen rfl T.n_len bb_len (acons (xv 1) anil)) xint) (yor1 (xtcmp (oNe hu) (xcallB oLen rfl T.n_len bb_len (acons (xix (oIx hu) (xv 1) xint) anil)) xint)))) (bone xnever) bnil)
    (bcons (xsetLc (i := 2) (own := [("words", 7)]) rfl nd rfl rfl (sw_true rfl rfl rfl (by decide +kernel)) (xit (xfc c_parted (hr.mono (by decide)) tk rfl (acons (xix (oIx hu) (xv 1) xint) (acons xstr anil)))) (blkOk_by (N := nm_read_table) (sc := defScope st_read_table) (by decide +kernel)) (fun _ _ _ _ _ => pg_name (i := 7) nd rfl (Or.inl rfl)) tgok_name (fun _ _ _ _ _ => tsNil) (fun _ _ _ _ _ => (xfc c_state_in (hr.mono (by decide)) takes0N rfl (acons (xv 7) anil))))
    (bcons (xasg (xfc c_number_in (hr.mono (by decide)) tk rfl (acons (xix (oIx hu) (xix (oIx hu) (xv 1) xint) xint) anil)) (xgn 3 nd))
    (bcons (xasg (xfc c_twos (hr.mono (by decide)) tk rfl (acons (xix (oIx hu) (xv 1) xint) anil)) (xgn 4 nd))
    (bcons (xfor hp rfl (xit (xv 4)) (xgt rfl (xgc (xgn 5 nd) (xgc (xgn 6 nd) xge))) (bone (xexpr (xfc c_plain_words (hr.mono (by decide)) tk rfl (acons (xlst (acons (xv 5) (acons (xv 6) anil))) anil)))))
    (bone (xret (xfc c_table_of (hr.mono (by decide)) tk rfl (acons (xv 2) (acons (xv 3) (acons (xv 4) anil)))))))))))))
abbrev st_bare_pairs : Stmt := top 35
abbrev nm_bare_pairs : List Str := ["order", "found", "one", "other", "between", "better", "label"]
theorem sc_bare_pairs : FnScope nm_bare_pairs ["order"] (defScope st_bare_pairs) := ⟨rfl, rfl, rfl, by decide +kernel, rfl, by decide +kernel, by decide +kernel⟩
def bare_pairs_c1 : WT :=
  (wAnd (wB (w2 (cB bEq) (wVar 5) (wVar 2))) (wB (w2 (cB bIn) (wTup (wCons (wVar 6) (wCons (wVar 3) wNil))) (wVar 0))))
def bare_pairs_e1 : WE :=
  (wVar 6)
def bare_pairs_b1 : WS :=
  (wSeq (wAsg (wLc (wIt (wVar 0)) (tgT [5, 6]) bare_pairs_c1 bare_pairs_e1 [5, 6]) (gN 4))
    (wIf (wB (w2 (cB bEq) (wVar 4) (wLst wNil))) (wDrop (wMth .list pApp (wVar 1) (wCons (wTup (wCons (wVar 2) (wCons (wVar 3) wNil))) wNil))) wNext))
def bare_pairs_r1 : WS :=
  (wRet (wVar 1))
def ws_bare_pairs : WS :=
  (wSeq (wAsg (wLst wNil) (gN 1))
    (wSeq (wFor (wIt (wVar 0)) (gT 2 (gC (gN 2) (gC (gN 3) gE))) bare_pairs_b1)
    bare_pairs_r1))
theorem ok_bare_pairs {f : Addr} {fd : FuncData} {sp : Spc} (F : Fun K "bare_pairs" "bare_pairs" st_bare_pairs f fd) (T : Txt mg) (hl : ∀ ds S K KX, sp ds S K KX → ds.length = 1)
    (hs : ∀ ds S K KX, sp ds S K KX → ws_bare_pairs { nx := fun _ S1 => K (.z .none) S1, rt := K, ex := fun y _ S1 => KX y S1 } (startE nm_bare_pairs ds) S) : FnOk P w K mg base (L2N.CX P w) 1 f fd ["order"] (spOf sp) := by
  have nd := sc_bare_pairs.nd
  refine fnpx F sc_bare_pairs hl (ws := ws_bare_pairs) (fun cdv A outer s H E B F0 hr tk hp => ?_) hs
  have hu := hu_px hr
  exact (bcons (xasg (xlst anil) (xgn 1 nd))
    (bcons (xfor hp rfl (xit (xv 0)) (xgt rfl (xgc (xgn 2 nd) (xgc (xgn 3 nd) xge))) (bcons (xsetLc (i := 4) (own := [("better", 5), ("label", 6)]) rfl nd rfl rfl (sw_true rfl rfl rfl (by decide +kernel)) (xit (xv 0)) (blkOk_by (N := nm_bare_pairs) (sc := defScope st_bare_pairs) (by decide +kernel)) (fun _ _ _ _ _ => pg_tup (n := 2) rfl (pgs_cons (pg_name (i := 5) nd rfl (Or.inl rfl)) (pgs_cons (pg_name (i := 6) nd rfl (Or.inl rfl)) pgs_nil))) (tgok_tup (is := [5, 6])) (fun _ _ _ _ _ => tsOne (xtw (yand (xtcmp (oEq hu) (xv 5) (xv 2)) (yand1 (xtcmp (oIn hu) (xtup (acons (xv 6) (acons (xv 3) anil))) (xv 0)))))) (fun _ _ _ _ _ => (xv 6)))
    (bone (xif (xtcmp (oEq hu) (xv 4) (xlst anil)) (bone (xexpr (xm1 (T := .list) PySem.F.plainAttrs_list PySem.F.slot_list_append PySem.F.type_list_append oApp (xv 1) (acons (xtup (acons (xv 2) (acons (xv 3) anil))) anil)))) bnil))))
    (bone (xret (xv 1)))))
abbrev st_joined_words : Stmt := top 36
abbrev nm_joined_words : List Str := ["rows", "words", "row"]
theorem sc_joined_words : FnScope nm_joined_words ["rows"] (defScope st_joined_words) := ⟨rfl, rfl, rfl, by decide +kernel, rfl, by decide +kernel, by decide +kernel⟩
def joined_words_b1 : WS :=
  (wSeq (wIf (wB (w2 (cB bNe) (wVar 1) (wLst wNil))) (wDrop (wMth .list pApp (wVar 1) (wCons (wC (.str (PySem.Str.ofString ","))) wNil))) wNext)
    (wDrop (wMth .list pExt (wVar 1) (wCons (wVar 2) wNil))))
def joined_words_r1 : WS :=
  (wRet (wVar 1))
def ws_joined_words : WS :=
  (wSeq (wAsg (wLst wNil) (gN 1))
    (wSeq (wFor (wIt (wVar 0)) (gN 2) joined_words_b1)
    joined_words_r1))
theorem ok_joined_words {f : Addr} {fd : FuncData} {sp : Spc} (F : Fun K "joined_words" "joined_words" st_joined_words f fd) (T : Txt mg) (hl : ∀ ds S K KX, sp ds S K KX → ds.length = 1)
    (hs : ∀ ds S K KX, sp ds S K KX → ws_joined_words { nx := fun _ S1 => K (.z .none) S1, rt := K, ex := fun y _ S1 => KX y S1 } (startE nm_joined_words ds) S) : FnOk P w K mg base (L2N.CX P w) 1 f fd ["rows"] (spOf sp) := by
  have nd := sc_joined_words.nd
  refine fnpx F sc_joined_words hl (ws := ws_joined_words) (fun cdv A outer s H E B F0 hr tk hp => ?_) hs
  have hu := hu_px hr
  exact (bcons (xasg (xlst anil) (xgn 1 nd))
    (bcons (xfor hp rfl (xit (xv 0)) (xgn 2 nd) (bcons (xif (xtcmp (oNe hu) (xv 1) (xlst anil)) (bone (xexpr (xm1 (T := .list) PySem.F.plainAttrs_list PySem.F.slot_list_append PySem.F.type_list_append oApp (xv 1) (acons xstr anil)))) bnil)
    (bone (xexpr (xm1 (T := .list) PySem.F.plainAttrs_list PySem.F.slot_list_extend PySem.F.type_list_extend oExt (xv 1) (acons (xv 2) anil))))))
    (bone (xret (xv 1)))))
abbrev st_show_table : Stmt := top 37
abbrev nm_show_table : List Str := ["table", "words", "goes", "ends", "one", "other", "label", "state"]
theorem sc_show_table : FnScope nm_show_table ["table"] (defScope st_show_table) := ⟨rfl, rfl, rfl, by decide +kernel, rfl, by decide +kernel, by decide +kernel⟩
def show_table_e1 : WE :=
  (wLst (wCons (wVar 6) (wCons (wCall pStr (wCons (wVar 7) wNil)) wNil)))
def show_table_b1 (sp_joined_words : Spc) : WS :=
  (wSeq (wIf (wB (w2 (cB bNe) (wVar 1) (wLst wNil))) (wDrop (wMth .list pApp (wVar 1) (wCons (wC (.str (PySem.Str.ofString "/"))) wNil))) wNext)
    (wSeq (wDrop (wMth .list pExt (wVar 1) (wCons (wFn sp_joined_words [] (wCons (wLc (wIt (wVar 2)) (tgT [6, 7]) wYes show_table_e1 [6, 7]) wNil)) wNil)))
    (wSeq (wDrop (wMth .list pApp (wVar 1) (wCons (wC (.str (PySem.Str.ofString ":"))) wNil)))
    (wDrop (wMth .list pExt (wVar 1) (wCons (wVar 3) wNil))))))
def show_table_e2 : WE :=
  (wLst (wCons (wVar 4) (wCons (wVar 5) wNil)))
def show_table_r1 (sp_joined_words : Spc) (sp_bare_pairs : Spc) : WS :=
  (wSeq (wDrop (wMth .list pExt (wVar 1) (wCons (wLst (wCons (wC (.str (PySem.Str.ofString "|"))) (wCons (wCall pStr (wCons (w2 pIx (wVar 0) (wC (.int 1))) wNil)) (wCons (wC (.str (PySem.Str.ofString "|"))) wNil)))) wNil)))
    (wSeq (wDrop (wMth .list pExt (wVar 1) (wCons (wFn sp_joined_words [] (wCons (wLc (wIt (wFn sp_bare_pairs [] (wCons (w2 pIx (wVar 0) (wC (.int 2))) wNil))) (tgT [4, 5]) wYes show_table_e2 [4, 5]) wNil)) wNil)))
    (wRet (wMth .str pJoin (wC (.str (PySem.Str.ofString " "))) (wCons (wVar 1) wNil)))))
def ws_show_table (sp_joined_words : Spc) (sp_bare_pairs : Spc) : WS :=
  (wSeq (wAsg (wLst wNil) (gN 1))
    (wSeq (wFor (wIt (w2 pIx (wVar 0) (wC (.int 0)))) (gT 2 (gC (gN 2) (gC (gN 3) gE))) (show_table_b1 sp_joined_words))
    (show_table_r1 sp_joined_words sp_bare_pairs)))
theorem ok_show_table {f : Addr} {fd : FuncData} {sp : Spc} {sp_joined_words : Spc} {sp_bare_pairs : Spc} (F : Fun K "show_table" "show_table" st_show_table f fd) (T : Txt mg) (c_joined_words : Fc P w K mg base "joined_words" 1 ["rows"] sp_joined_words) (c_bare_pairs : Fc P w K mg base "bare_pairs" 1 ["order"] sp_bare_pairs) (hl : ∀ ds S K KX, sp ds S K KX → ds.length = 1)
    (hs : ∀ ds S K KX, sp ds S K KX → ws_show_table sp_joined_words sp_bare_pairs { nx := fun _ S1 => K (.z .none) S1, rt := K, ex := fun y _ S1 => KX y S1 } (startE nm_show_table ds) S) : FnOk P w K mg base (L2N.CX P w) 2 f fd ["table"] (spOf sp) := by
  have nd := sc_show_table.nd
  refine fnpx F sc_show_table hl (ws := ws_show_table sp_joined_words sp_bare_pairs) (fun cdv A outer s H E B F0 hr tk hp => ?_) hs
  have hu := hu_px hr
  exact (bcons (xasg (xlst anil) (xgn 1 nd))
    (bcons (xfor hp rfl (xit (xix (oIx hu) (xv 0) xint)) (xgt rfl (xgc (xgn 2 nd) (xgc (xgn 3 nd) xge))) (bcons (xif (xtcmp (oNe hu) (xv 1) (xlst anil)) (bone (xexpr (xm1 (T := .list) PySem.F.plainAttrs_list PySem.F.slot_list_append PySem.F.type_list_append oApp (xv 1) (acons xstr anil)))) bnil)
    (bcons (xexpr (xm1 (T := .list) PySem.F.plainAttrs_list PySem.F.slot_list_extend PySem.F.type_list_extend oExt (xv 1) (acons (xfc c_joined_words (hr.mono (by decide)) tk rfl (acons (xlc (own := [("label", 6), ("state", 7)]) rfl nd (xit (xv 2)) (blkOk_by (N := nm_show_table) (sc := defScope st_show_table) (by decide +kernel)) (fun _ _ _ _ _ => pg_tup (n := 2) rfl (pgs_cons (pg_name (i := 6) nd rfl (Or.inl rfl)) (pgs_cons (pg_name (i := 7) nd rfl (Or.inl rfl)) pgs_nil))) (tgok_tup (is := [6, 7])) (fun _ _ _ _ _ => tsNil) (fun _ _ _ _ _ => (xlst (acons (xv 6) (acons (xcallT oStr rfl T.n_str bb_str (acons (xv 7) anil)) anil))))) anil)) anil)))
    (bcons (xexpr (xm1 (T := .list) PySem.F.plainAttrs_list PySem.F.slot_list_append PySem.F.type_list_append oApp (xv 1) (acons xstr anil)))
    (bone (xexpr (xm1 (T := .list) PySem.F.plainAttrs_list PySem.F.slot_list_extend PySem.F.type_list_extend oExt (xv 1) (acons (xv 3) anil))))))))
    (bcons (xexpr (xm1 (T := .list) PySem.F.plainAttrs_list PySem.F.slot_list_extend PySem.F.type_list_extend oExt (xv 1) (acons (xlst (acons xstr (acons (xcallT oStr rfl T.n_str bb_str (acons (xix (oIx hu) (xv 0) xint) anil)) (acons xstr anil)))) anil)))
    (bcons (xexpr (xm1 (T := .list) PySem.F.plainAttrs_list PySem.F.slot_list_extend PySem.F.type_list_extend oExt (xv 1) (acons (xfc c_joined_words (hr.mono (by decide)) tk rfl (acons (xlc (own := [("one", 4), ("other", 5)]) rfl nd (xit (xfc c_bare_pairs (hr.mono (by decide)) tk rfl (acons (xix (oIx hu) (xv 0) xint) anil))) (blkOk_by (N := nm_show_table) (sc := defScope st_show_table) (by decide +kernel)) (fun _ _ _ _ _ => pg_tup (n := 2) rfl (pgs_cons (pg_name (i := 4) nd rfl (Or.inl rfl)) (pgs_cons (pg_name (i := 5) nd rfl (Or.inl rfl)) pgs_nil))) (tgok_tup (is := [4, 5])) (fun _ _ _ _ _ => tsNil) (fun _ _ _ _ _ => (xlst (acons (xv 4) (acons (xv 5) anil))))) anil)) anil)))
    (bone (xret (xm1 (T := .str) PySem.F.plainAttrs_str PySem.F.slot_str_join PySem.F.type_str_join oJoin xstr (acons (xv 1) anil))))))))
abbrev st__law_cell_at : Stmt := top 39
abbrev nm__law_cell_at : List Str := ["_law_script", "_law_k"]
theorem sc__law_cell_at : FnScope nm__law_cell_at ["_law_script", "_law_k"] (defScope st__law_cell_at) := ⟨rfl, rfl, rfl, by decide +kernel, rfl, by decide +kernel, by decide +kernel⟩
def _law_cell_at_r1 : WS :=
  (wRet (wC (.int 0)))
def ws__law_cell_at : WS :=
  (wSeq (wIf (wB (w2 (cB bLtD) (wVar 1) (wCall pLen (wCons (wVar 0) wNil)))) (wRet (w2 pIx (wVar 0) (wVar 1))) wNext)
    _law_cell_at_r1)
theorem ok__law_cell_at {f : Addr} {fd : FuncData} {sp : Spc} (F : Fun K "_law_cell_at" "_law_cell_at" st__law_cell_at f fd) (T : Txt mg) (hl : ∀ ds S K KX, sp ds S K KX → ds.length = 2)
    (hs : ∀ ds S K KX, sp ds S K KX → ws__law_cell_at { nx := fun _ S1 => K (.z .none) S1, rt := K, ex := fun y _ S1 => KX y S1 } (startE nm__law_cell_at ds) S) : FnOk P w K mg base (L2N.CX P w) 1 f fd ["_law_script", "_law_k"] (spOf sp) := by
  have nd := sc__law_cell_at.nd
  refine fnpx F sc__law_cell_at hl (ws := ws__law_cell_at) (fun cdv A outer s H E B F0 hr tk hp => ?_) hs
  have hu := hu_px hr
  exact (bcons (xif (xtcmp (oLtD hu) (xv 1) (xcallB oLen rfl T.n_len bb_len (acons (xv 0) anil))) (bone (xret (xix (oIx hu) (xv 0) (xv 1)))) bnil)
    (bone (xret xint)))
abbrev st__law_names : Stmt := top 40
abbrev nm__law_names : List Str := ["_law_cell", "_law_many", "_law_letters", "_law_size", "_law_base", "_law_names_here", "_law_k", "_law_here"]
theorem sc__law_names : FnScope nm__law_names ["_law_cell", "_law_many"] (defScope st__law_names) := ⟨rfl, rfl, rfl, by decide +kernel, rfl, by decide +kernel, by decide +kernel⟩
def _law_names_e1 : WE :=
  (w2 pIx (wVar 2) (w2 pMod (w2 pDiv (wVar 0) (w2 pAdd (w2 pMul (wVar 6) (wVar 6)) (wC (.int 3)))) (wC (.int 26))))
def _law_names_e2 : WE :=
  (wMth .str pJoin (wC (.str (PySem.Str.ofString ""))) (wCons (wSl pSl (wVar 4) wNo (wPart (w2 pAdd (wVar 6) (wC (.int 1))))) wNil))
def _law_names_b1 : WS :=
  (wSeq (wAsg (wSl pSl (wVar 4) wNo (wPart (wVar 3))) (gN 7))
    (wSeq (wAsg (w2 pIx (wVar 2) (w2 pMod (w2 pAdd (w2 pDiv (wVar 0) (wC (.int 5))) (wVar 6)) (wC (.int 26)))) (gS (wVar 7) (w2 pMod (w2 pDiv (wVar 0) (wC (.int 8))) (wVar 3))))
    (wDrop (wMth .list pApp (wVar 5) (wCons (wMth .str pJoin (wC (.str (PySem.Str.ofString ""))) (wCons (wVar 7) wNil)) wNil)))))
def _law_names_r1 : WS :=
  (wRet (wVar 5))
def _law_names_r2 : WS :=
  (wSeq (wAsg (wLst wNil) (gN 5))
    (wSeq (wFor (wRg1 (wCons (wVar 1) wNil)) (gN 6) _law_names_b1)
    _law_names_r1))
def ws__law_names : WS :=
  (wSeq (wAsg (wC (.str (PySem.Str.ofString "abcdefghijklmnopqrstuvwxyz"))) (gN 2))
    (wSeq (wAsg (w2 pMod (wVar 0) (w2 pPow (wC (.int 10)) (wC (.int 9)))) (gN 0))
    (wSeq (wAsg (w2 pAdd (wC (.int 1)) (w2 pMod (wVar 0) (wC (.int 8)))) (gN 3))
    (wSeq (wAsg (wLc (wRg1 (wCons (wC (.int 8)) wNil)) (tgN 6) wYes _law_names_e1 [6]) (gN 4))
    (wSeq (wIf (wB (w2 (cB bEq) (w2 pMod (w2 pDiv (wVar 0) (wC (.int 64))) (wC (.int 3))) (wC (.int 0)))) (wRet (wLc (wRg1 (wCons (wVar 1) wNil)) (tgN 6) wYes _law_names_e2 [6])) wNext)
    _law_names_r2)))))
theorem ok__law_names {f : Addr} {fd : FuncData} {sp : Spc} (F : Fun K "_law_names" "_law_names" st__law_names f fd) (T : Txt mg) (hl : ∀ ds S K KX, sp ds S K KX → ds.length = 2)
    (hs : ∀ ds S K KX, sp ds S K KX → ws__law_names { nx := fun _ S1 => K (.z .none) S1, rt := K, ex := fun y _ S1 => KX y S1 } (startE nm__law_names ds) S) : FnOk P w K mg base (L2N.CX P w) 1 f fd ["_law_cell", "_law_many"] (spOf sp) := by
  have nd := sc__law_names.nd
  refine fnpx F sc__law_names hl (ws := ws__law_names) (fun cdv A outer s H E B F0 hr tk hp => ?_) hs
  have hu := hu_px hr
  exact (bcons (xasg xstr (xgn 2 nd))
    (bcons (xasg (xop oMod (xv 0) (xop oPow xint xint)) (xgn 0 nd))
    (bcons (xasg (xop oAdd xint (xop oMod (xv 0) xint)) (xgn 3 nd))
    (bcons (xasg (xlc (own := [("_law_k", 6)]) rfl nd (xrg1 rfl T.n_range (acons xint anil)) (blkOk_by (N := nm__law_names) (sc := defScope st__law_names) (by decide +kernel)) (fun _ _ _ _ _ => pg_name (i := 6) nd rfl (Or.inl rfl)) tgok_name (fun _ _ _ _ _ => tsNil) (fun _ _ _ _ _ => (xix (oIx hu) (xv 2) (xop oMod (xop oDiv (xv 0) (xop oAdd (xop oMul (xv 6) (xv 6)) xint)) xint)))) (xgn 4 nd))
    (bcons (xif (xtcmp (oEq hu) (xop oMod (xop oDiv (xv 0) xint) xint) xint) (bone (xret (xlc (own := [("_law_k", 6)]) rfl nd (xrg1 rfl T.n_range (acons (xv 1) anil)) (blkOk_by (N := nm__law_names) (sc := defScope st__law_names) (by decide +kernel)) (fun _ _ _ _ _ => pg_name (i := 6) nd rfl (Or.inl rfl)) tgok_name (fun _ _ _ _ _ => tsNil) (fun _ _ _ _ _ => (xm1 (T := .str) PySem.F.plainAttrs_str PySem.F.slot_str_join PySem.F.type_str_join oJoin xstr (acons (xsl oSl (xv 4) ono (osome (xop oAdd (xv 6) xint))) anil)))))) bnil)
    (bcons (xasg (xlst anil) (xgn 5 nd))
    (bcons (xfor hp rfl (xrg1 rfl T.n_range (acons (xv 1) anil)) (xgn 6 nd) (bcons (xasg (xsl oSl (xv 4) ono (osome (xv 3))) (xgn 7 nd))
    (bcons (xasg (xix (oIx hu) (xv 2) (xop oMod (xop oAdd (xop oDiv (xv 0) xint) (xv 6)) xint)) (xgs (W := W0) hu (xv 7) (xop oMod (xop oDiv (xv 0) xint) (xv 3))))
    (bone (xexpr (xm1 (T := .list) PySem.F.plainAttrs_list PySem.F.slot_list_append PySem.F.type_list_append oApp (xv 5) (acons (xm1 (T := .str) PySem.F.plainAttrs_str PySem.F.slot_str_join PySem.F.type_str_join oJoin xstr (acons (xv 7) anil)) anil)))))))
    (bone (xret (xv 5))))))))))
abbrev st__law_turned : Stmt := top 41
abbrev nm__law_turned : List Str := ["_law_some", "_law_cell", "_law_turn"]
theorem sc__law_turned : FnScope nm__law_turned ["_law_some", "_law_cell"] (defScope st__law_turned) := ⟨rfl, rfl, rfl, by decide +kernel, rfl, by decide +kernel, by decide +kernel⟩
def ws__law_turned : WS :=
  (wSeq (wAsg (w2 pMod (wVar 1) (w2 pAdd (wCall pLen (wCons (wVar 0) wNil)) (wC (.int 1)))) (gN 2))
    (wRet (w2 pAdd (wSl pSl (wVar 0) (wPart (wVar 2)) wNo) (wSl pSl (wVar 0) wNo (wPart (wVar 2))))))
theorem ok__law_turned {f : Addr} {fd : FuncData} {sp : Spc} (F : Fun K "_law_turned" "_law_turned" st__law_turned f fd) (T : Txt mg) (hl : ∀ ds S K KX, sp ds S K KX → ds.length = 2)
    (hs : ∀ ds S K KX, sp ds S K KX → ws__law_turned { nx := fun _ S1 => K (.z .none) S1, rt := K, ex := fun y _ S1 => KX y S1 } (startE nm__law_turned ds) S) : FnOk P w K mg base (L2N.CX P w) 1 f fd ["_law_some", "_law_cell"] (spOf sp) := by
  have nd := sc__law_turned.nd
  refine fnpx F sc__law_turned hl (ws := ws__law_turned) (fun cdv A outer s H E B F0 hr tk hp => ?_) hs
  have hu := hu_px hr
  exact (bcons (xasg (xop oMod (xv 1) (xop oAdd (xcallB oLen rfl T.n_len bb_len (acons (xv 0) anil)) xint)) (xgn 2 nd))
    (bone (xret (xop oAdd (xsl oSl (xv 0) (osome (xv 2)) ono) (xsl oSl (xv 0) ono (osome (xv 2)))))))
abbrev st__law_joined : Stmt := top 42
abbrev nm__law_joined : List Str := ["_law_pairs_here", "_law_labels", "_law_many", "_law_rows", "_law_k", "_law_found", "_law_i", "_law_j", "_law_one", "_law_other"]
theorem sc__law_joined : FnScope nm__law_joined ["_law_pairs_here", "_law_labels"] (defScope st__law_joined) := ⟨rfl, rfl, rfl, by decide +kernel, rfl, by decide +kernel, by decide +kernel⟩
def _law_joined_e1 : WE :=
  (w2 (cB bIn) (wTup (wCons (wVar 8) (wCons (wVar 9) wNil))) (wVar 0))
def _law_joined_e2 : WE :=
  (wLc (wIt (wVar 1)) (tgN 9) wYes _law_joined_e1 [9])
def _law_joined_b1 : WS :=
  (wIf (wAnd (wB (w2 pIx (w2 pIx (wVar 3) (wVar 6)) (wVar 4))) (wB (w2 pIx (w2 pIx (wVar 3) (wVar 4)) (wVar 7)))) (wAsg (wC (.bool true)) (gS (w2 pIx (wVar 3) (wVar 6)) (wVar 7))) wNext)
def _law_joined_b2 : WS :=
  (wFor (wRg1 (wCons (wVar 2) wNil)) (gN 7) _law_joined_b1)
def _law_joined_b3 : WS :=
  (wFor (wRg1 (wCons (wVar 2) wNil)) (gN 6) _law_joined_b2)
def _law_joined_b4 : WS :=
  (wIf (wB (w2 pIx (w2 pIx (wVar 3) (wVar 6)) (wVar 7))) (wDrop (wMth .list pApp (wVar 5) (wCons (wTup (wCons (w2 pIx (wVar 1) (wVar 6)) (wCons (w2 pIx (wVar 1) (wVar 7)) wNil))) wNil))) wNext)
def _law_joined_b5 : WS :=
  (wFor (wRg1 (wCons (wVar 2) wNil)) (gN 7) _law_joined_b4)
def _law_joined_r1 : WS :=
  (wRet (wCall pSorted (wCons (wVar 5) wNil)))
def _law_joined_r2 : WS :=
  (wSeq (wAsg (wLst wNil) (gN 5))
    (wSeq (wFor (wRg1 (wCons (wVar 2) wNil)) (gN 6) _law_joined_b5)
    _law_joined_r1))
def ws__law_joined : WS :=
  (wSeq (wAsg (wCall pLen (wCons (wVar 1) wNil)) (gN 2))
    (wSeq (wAsg (wLc (wIt (wVar 1)) (tgN 8) wYes _law_joined_e2 [8]) (gN 3))
    (wSeq (wFor (wRg1 (wCons (wVar 2) wNil)) (gN 4) _law_joined_b3)
    _law_joined_r2)))
theorem ok__law_joined {f : Addr} {fd : FuncData} {sp : Spc} (F : Fun K "_law_joined" "_law_joined" st__law_joined f fd) (T : Txt mg) (hl : ∀ ds S K KX, sp ds S K KX → ds.length = 2)
    (hs : ∀ ds S K KX, sp ds S K KX → ws__law_joined { nx := fun _ S1 => K (.z .none) S1, rt := K, ex := fun y _ S1 => KX y S1 } (startE nm__law_joined ds) S) : FnOk P w K mg base (L2N.CX P w) 1 f fd ["_law_pairs_here", "_law_labels"] (spOf sp) := by
  have nd := sc__law_joined.nd
  refine fnpx F sc__law_joined hl (ws := ws__law_joined) (fun cdv A outer s H E B F0 hr tk hp => ?_) hs
  have hu := hu_px hr
  exact (bcons (xasg (xcallB oLen rfl T.n_len bb_len (acons (xv 1) anil)) (xgn 2 nd))
    (bcons (xsetLc (i := 3) (own := [("_law_one", 8)]) rfl nd rfl rfl (sw_true rfl rfl rfl (by decide +kernel)) (xit (xv 1)) (blkOk_by (N := nm__law_joined) (sc := defScope st__law_joined) (by decide +kernel)) (fun _ _ _ _ _ => pg_name (i := 8) nd rfl (by first | exact Or.inl rfl | exact Or.inr rfl)) tgok_name (fun _ _ _ _ _ => tsNil) (fun _ _ _ _ _ => (xlc (own := [("_law_other", 9)]) rfl nd (xit (xv 1)) (blkOk_by (by show blkC nm__law_joined (relS _ (defScope st__law_joined)) _ _ = true; decide +kernel)) (fun _ _ _ _ _ => pg_name (i := 9) nd rfl (Or.inl rfl)) tgok_name (fun _ _ _ _ _ => tsNil) (fun _ _ _ _ _ => (xcmp (oIn hu) (xtup (acons (xv 8) (acons (xv 9) anil))) (xv 0))))))
    (bcons (xfor hp rfl (xrg1 rfl T.n_range (acons (xv 2) anil)) (xgn 4 nd) (bone (xfor hp rfl (xrg1 rfl T.n_range (acons (xv 2) anil)) (xgn 6 nd) (bone (xfor hp rfl (xrg1 rfl T.n_range (acons (xv 2) anil)) (xgn 7 nd) (bone (xif (xtw (yand (xtv (xix (oIx hu) (xix (oIx hu) (xv 3) (xv 6)) (xv 4))) (yand1 (xtv (xix (oIx hu) (xix (oIx hu) (xv 3) (xv 4)) (xv 7)))))) (bone (xasg xbl (xgs (W := W0) hu (xix (oIx hu) (xv 3) (xv 6)) (xv 7)))) bnil)))))))
    (bcons (xasg (xlst anil) (xgn 5 nd))
    (bcons (xfor hp rfl (xrg1 rfl T.n_range (acons (xv 2) anil)) (xgn 6 nd) (bone (xfor hp rfl (xrg1 rfl T.n_range (acons (xv 2) anil)) (xgn 7 nd) (bone (xif (xtv (xix (oIx hu) (xix (oIx hu) (xv 3) (xv 6)) (xv 7))) (bone (xexpr (xm1 (T := .list) PySem.F.plainAttrs_list PySem.F.slot_list_append PySem.F.type_list_append oApp (xv 5) (acons (xtup (acons (xix (oIx hu) (xv 1) (xv 6)) (acons (xix (oIx hu) (xv 1) (xv 7)) anil))) anil)))) bnil)))))
    (bone (xret (xcallB (oSorted hu rfl) rfl T.n_sorted bb_sorted (acons (xv 5) anil)))))))))
abbrev st__law_state : Stmt := top 43
abbrev nm__law_state : List Str := ["_law_script", "_law_start", "_law_labels", "_law_many", "_law_full", "_law_goes", "_law_ends", "_law_k", "_law_cell"]
theorem sc__law_state : FnScope nm__law_state ["_law_script", "_law_start", "_law_labels", "_law_many", "_law_full"] (defScope st__law_state) := ⟨rfl, rfl, rfl, by decide +kernel, rfl, by decide +kernel, by decide +kernel⟩
def _law_state_b1 (sp__law_cell_at : Spc) : WS :=
  (wSeq (wAsg (wFn sp__law_cell_at [] (wCons (wVar 0) (wCons (w2 pAdd (wVar 1) (wVar 7)) wNil))) (gN 8))
    (wSeq (wIf (wOr (wB (wVar 4)) (wB (w2 (cB bNe) (w2 pMod (wVar 8) (wC (.int 3))) (wC (.int 0))))) (wDrop (wMth .list pApp (wVar 5) (wCons (wTup (wCons (w2 pIx (wVar 2) (wVar 7)) (wCons (w2 pMod (w2 pDiv (wVar 8) (wC (.int 3))) (wVar 3)) wNil))) wNil))) wNext)
    (wIf (wOr (wB (wVar 4)) (wB (w2 (cB bEq) (w2 pMod (w2 pDiv (wVar 8) (wC (.int 24))) (wC (.int 2))) (wC (.int 1))))) (wDrop (wMth .list pApp (wVar 6) (wCons (w2 pIx (wVar 2) (wVar 7)) wNil))) wNext)))
def _law_state_r1 : WS :=
  (wRet (wTup (wCons (wVar 5) (wCons (wVar 6) wNil))))
def ws__law_state (sp__law_cell_at : Spc) : WS :=
  (wSeq (wAsg (wLst wNil) (gN 5))
    (wSeq (wAsg (wLst wNil) (gN 6))
    (wSeq (wFor (wRg1 (wCons (wCall pLen (wCons (wVar 2) wNil)) wNil)) (gN 7) (_law_state_b1 sp__law_cell_at))
    _law_state_r1)))
theorem ok__law_state {f : Addr} {fd : FuncData} {sp : Spc} {sp__law_cell_at : Spc} (F : Fun K "_law_state" "_law_state" st__law_state f fd) (T : Txt mg) (c__law_cell_at : Fc P w K mg base "_law_cell_at" 1 ["_law_script", "_law_k"] sp__law_cell_at) (hl : ∀ ds S K KX, sp ds S K KX → ds.length = 5)
    (hs : ∀ ds S K KX, sp ds S K KX → ws__law_state sp__law_cell_at { nx := fun _ S1 => K (.z .none) S1, rt := K, ex := fun y _ S1 => KX y S1 } (startE nm__law_state ds) S) : FnOk P w K mg base (L2N.CX P w) 2 f fd ["_law_script", "_law_start", "_law_labels", "_law_many", "_law_full"] (spOf sp) := by
  have nd := sc__law_state.nd
  refine fnpx F sc__law_state hl (ws := ws__law_state sp__law_cell_at) (fun cdv A outer s H E B F0 hr tk hp => ?_) hs
  have hu := hu_px hr
  exact (bcons (xasg (xlst anil) (xgn 5 nd))
    (bcons (xasg (xlst anil) (xgn 6 nd))
    (bcons (xfor hp rfl (xrg1 rfl T.n_range (acons (xcallB oLen rfl T.n_len bb_len (acons (xv 2) anil)) anil)) (xgn 7 nd) (bcons (xasg (xfc c__law_cell_at (hr.mono (by decide)) tk rfl (acons (xv 0) (acons (xop oAdd (xv 1) (xv 7)) anil))) (xgn 8 nd))
    (bcons (xif (xtw (yor (xtv (xv 4)) (yor1 (xtcmp (oNe hu) (xop oMod (xv 8) xint) xint)))) (bone (xexpr (xm1 (T := .list) PySem.F.plainAttrs_list PySem.F.slot_list_append PySem.F.type_list_append oApp (xv 5) (acons (xtup (acons (xix (oIx hu) (xv 2) (xv 7)) (acons (xop oMod (xop oDiv (xv 8) xint) (xv 3)) anil))) anil)))) bnil)
    (bone (xif (xtw (yor (xtv (xv 4)) (yor1 (xtcmp (oEq hu) (xop oMod (xop oDiv (xv 8) xint) xint) xint)))) (bone (xexpr (xm1 (T := .list) PySem.F.plainAttrs_list PySem.F.slot_list_append PySem.F.type_list_append oApp (xv 6) (acons (xix (oIx hu) (xv 2) (xv 7)) anil)))) bnil)))))
    (bone (xret (xtup (acons (xv 5) (acons (xv 6) anil))))))))
abbrev st__law_pairs : Stmt := top 44
abbrev nm__law_pairs : List Str := ["_law_cells", "_law_labels", "_law_many", "_law_pairs_here", "_law_cell", "_law_one", "_law_other"]
theorem sc__law_pairs : FnScope nm__law_pairs ["_law_cells", "_law_labels"] (defScope st__law_pairs) := ⟨rfl, rfl, rfl, by decide +kernel, rfl, by decide +kernel, by decide +kernel⟩
def _law_pairs_b1 : WS :=
  (wSeq (wAsg (w2 pMod (wVar 4) (w2 pSub (wVar 2) (wC (.int 1)))) (gN 5))
    (wSeq (wAsg (w2 pAdd (w2 pAdd (wVar 5) (wC (.int 1))) (w2 pMod (w2 pDiv (wVar 4) (wC (.int 7))) (w2 pSub (w2 pSub (wVar 2) (wC (.int 1))) (wVar 5)))) (gN 6))
    (wDrop (wMth .list pApp (wVar 3) (wCons (wTup (wCons (w2 pIx (wVar 1) (wVar 5)) (wCons (w2 pIx (wVar 1) (wVar 6)) wNil))) wNil)))))
def _law_pairs_r1 : WS :=
  (wRet (wVar 3))
def ws__law_pairs : WS :=
  (wSeq (wAsg (wCall pLen (wCons (wVar 1) wNil)) (gN 2))
    (wSeq (wAsg (wLst wNil) (gN 3))
    (wSeq (wIf (wB (w2 (cB bGt) (wVar 2) (wC (.int 1)))) (wFor (wIt (wVar 0)) (gN 4) _law_pairs_b1) wNext)
    _law_pairs_r1)))
theorem ok__law_pairs {f : Addr} {fd : FuncData} {sp : Spc} (F : Fun K "_law_pairs" "_law_pairs" st__law_pairs f fd) (T : Txt mg) (hl : ∀ ds S K KX, sp ds S K KX → ds.length = 2)
    (hs : ∀ ds S K KX, sp ds S K KX → ws__law_pairs { nx := fun _ S1 => K (.z .none) S1, rt := K, ex := fun y _ S1 => KX y S1 } (startE nm__law_pairs ds) S) : FnOk P w K mg base (L2N.CX P w) 1 f fd ["_law_cells", "_law_labels"] (spOf sp) := by
  have nd := sc__law_pairs.nd
  refine fnpx F sc__law_pairs hl (ws := ws__law_pairs) (fun cdv A outer s H E B F0 hr tk hp => ?_) hs
  have hu := hu_px hr
  exact (bcons (xasg (xcallB oLen rfl T.n_len bb_len (acons (xv 1) anil)) (xgn 2 nd))
    (bcons (xasg (xlst anil) (xgn 3 nd))
    (bcons (xif (xtcmp oGt (xv 2) xint) (bone (xfor hp rfl (xit (xv 0)) (xgn 4 nd) (bcons (xasg (xop oMod (xv 4) (xop oSub (xv 2) xint)) (xgn 5 nd))
    (bcons (xasg (xop oAdd (xop oAdd (xv 5) xint) (xop oMod (xop oDiv (xv 4) xint) (xop oSub (xop oSub (xv 2) xint) (xv 5)))) (xgn 6 nd))
    (bone (xexpr (xm1 (T := .list) PySem.F.plainAttrs_list PySem.F.slot_list_append PySem.F.type_list_append oApp (xv 3) (acons (xtup (acons (xix (oIx hu) (xv 1) (xv 5)) (acons (xix (oIx hu) (xv 1) (xv 6)) anil))) anil)))))))) bnil)
    (bone (xret (xv 3))))))
abbrev st__law_bare : Stmt := top 45
abbrev nm__law_bare : List Str := ["_law_order", "_law_found", "_law_one", "_law_other", "_law_better", "_law_label"]
theorem sc__law_bare : FnScope nm__law_bare ["_law_order"] (defScope st__law_bare) := ⟨rfl, rfl, rfl, by decide +kernel, rfl, by decide +kernel, by decide +kernel⟩
def _law_bare_c1 : WT :=
  (wAnd (wB (w2 (cB bEq) (wVar 4) (wVar 2))) (wB (w2 (cB bIn) (wTup (wCons (wVar 5) (wCons (wVar 3) wNil))) (wVar 0))))
def _law_bare_e1 : WE :=
  (wVar 5)
def _law_bare_b1 : WS :=
  (wIf (wB (w2 (cB bEq) (wLc (wIt (wVar 0)) (tgT [4, 5]) _law_bare_c1 _law_bare_e1 [4, 5]) (wLst wNil))) (wDrop (wMth .list pApp (wVar 1) (wCons (wTup (wCons (wVar 2) (wCons (wVar 3) wNil))) wNil))) wNext)
def _law_bare_r1 : WS :=
  (wRet (wVar 1))
def ws__law_bare : WS :=
  (wSeq (wAsg (wLst wNil) (gN 1))
    (wSeq (wFor (wIt (wVar 0)) (gT 2 (gC (gN 2) (gC (gN 3) gE))) _law_bare_b1)
    _law_bare_r1))
theorem ok__law_bare {f : Addr} {fd : FuncData} {sp : Spc} (F : Fun K "_law_bare" "_law_bare" st__law_bare f fd) (T : Txt mg) (hl : ∀ ds S K KX, sp ds S K KX → ds.length = 1)
    (hs : ∀ ds S K KX, sp ds S K KX → ws__law_bare { nx := fun _ S1 => K (.z .none) S1, rt := K, ex := fun y _ S1 => KX y S1 } (startE nm__law_bare ds) S) : FnOk P w K mg base (L2N.CX P w) 1 f fd ["_law_order"] (spOf sp) := by
  have nd := sc__law_bare.nd
  refine fnpx F sc__law_bare hl (ws := ws__law_bare) (fun cdv A outer s H E B F0 hr tk hp => ?_) hs
  have hu := hu_px hr
  exact (bcons (xasg (xlst anil) (xgn 1 nd))
    (bcons (xfor hp rfl (xit (xv 0)) (xgt rfl (xgc (xgn 2 nd) (xgc (xgn 3 nd) xge))) (bone (xif (xtcmp (oEq hu) (xlc (own := [("_law_better", 4), ("_law_label", 5)]) rfl nd (xit (xv 0)) (blkOk_by (N := nm__law_bare) (sc := defScope st__law_bare) (by decide +kernel)) (fun _ _ _ _ _ => pg_tup (n := 2) rfl (pgs_cons (pg_name (i := 4) nd rfl (Or.inl rfl)) (pgs_cons (pg_name (i := 5) nd rfl (Or.inl rfl)) pgs_nil))) (tgok_tup (is := [4, 5])) (fun _ _ _ _ _ => tsOne (xtw (yand (xtcmp (oEq hu) (xv 4) (xv 2)) (yand1 (xtcmp (oIn hu) (xtup (acons (xv 5) (acons (xv 3) anil))) (xv 0)))))) (fun _ _ _ _ _ => (xv 5))) (xlst anil)) (bone (xexpr (xm1 (T := .list) PySem.F.plainAttrs_list PySem.F.slot_list_append PySem.F.type_list_append oApp (xv 1) (acons (xtup (acons (xv 2) (acons (xv 3) anil))) anil)))) bnil)))
    (bone (xret (xv 1)))))
abbrev st__law_comma : Stmt := top 46
abbrev nm__law_comma : List Str := ["_law_rows", "_law_words_here", "_law_row"]
theorem sc__law_comma : FnScope nm__law_comma ["_law_rows"] (defScope st__law_comma) := ⟨rfl, rfl, rfl, by decide +kernel, rfl, by decide +kernel, by decide +kernel⟩
def _law_comma_b1 : WS :=
  (wSeq (wIf (wB (w2 (cB bNe) (wVar 1) (wLst wNil))) (wDrop (wMth .list pApp (wVar 1) (wCons (wC (.str (PySem.Str.ofString ","))) wNil))) wNext)
    (wAsg (w2 pAdd (wVar 1) (wCall pList (wCons (wVar 2) wNil))) (gN 1)))
def _law_comma_r1 : WS :=
  (wRet (wVar 1))
def ws__law_comma : WS :=
  (wSeq (wAsg (wLst wNil) (gN 1))
    (wSeq (wFor (wIt (wVar 0)) (gN 2) _law_comma_b1)
    _law_comma_r1))
theorem ok__law_comma {f : Addr} {fd : FuncData} {sp : Spc} (F : Fun K "_law_comma" "_law_comma" st__law_comma f fd) (T : Txt mg) (hl : ∀ ds S K KX, sp ds S K KX → ds.length = 1)
    (hs : ∀ ds S K KX, sp ds S K KX → ws__law_comma { nx := fun _ S1 => K (.z .none) S1, rt := K, ex := fun y _ S1 => KX y S1 } (startE nm__law_comma ds) S) : FnOk P w K mg base (L2N.CX P w) 1 f fd ["_law_rows"] (spOf sp) := by
  have nd := sc__law_comma.nd
  refine fnpx F sc__law_comma hl (ws := ws__law_comma) (fun cdv A outer s H E B F0 hr tk hp => ?_) hs
  have hu := hu_px hr
  exact (bcons (xasg (xlst anil) (xgn 1 nd))
    (bcons (xfor hp rfl (xit (xv 0)) (xgn 2 nd) (bcons (xif (xtcmp (oNe hu) (xv 1) (xlst anil)) (bone (xexpr (xm1 (T := .list) PySem.F.plainAttrs_list PySem.F.slot_list_append PySem.F.type_list_append oApp (xv 1) (acons xstr anil)))) bnil)
    (bone (xasg (xop oAdd (xv 1) (xcallT oList rfl T.n_list bb_list (acons (xv 2) anil))) (xgn 1 nd)))))
    (bone (xret (xv 1)))))
abbrev st__law_words : Stmt := top 47
abbrev nm__law_words : List Str := ["_law_states", "_law_inner", "_law_pairs_here", "_law_words_here", "_law_goes", "_law_ends", "_law_label", "_law_number"]
theorem sc__law_words : FnScope nm__law_words ["_law_states", "_law_inner", "_law_pairs_here"] (defScope st__law_words) := ⟨rfl, rfl, rfl, by decide +kernel, rfl, by decide +kernel, by decide +kernel⟩
def _law_words_e1 : WE :=
  (wTup (wCons (wVar 6) (wCons (wCall pStr (wCons (wVar 7) wNil)) wNil)))
def _law_words_b1 (sp__law_comma : Spc) : WS :=
  (wSeq (wIf (wB (w2 (cB bNe) (wVar 3) (wLst wNil))) (wDrop (wMth .list pApp (wVar 3) (wCons (wC (.str (PySem.Str.ofString "/"))) wNil))) wNext)
    (wAsg (w2 pAdd (w2 pAdd (w2 pAdd (wVar 3) (wFn sp__law_comma [] (wCons (wLc (wIt (wVar 4)) (tgT [6, 7]) wYes _law_words_e1 [6, 7]) wNil))) (wLst (wCons (wC (.str (PySem.Str.ofString ":"))) wNil))) (wVar 5)) (gN 3)))
def _law_words_r1 (sp__law_comma : Spc) : WS :=
  (wRet (w2 pAdd (w2 pAdd (wVar 3) (wLst (wCons (wC (.str (PySem.Str.ofString "|"))) (wCons (wCall pStr (wCons (wVar 1) wNil)) (wCons (wC (.str (PySem.Str.ofString "|"))) wNil))))) (wFn sp__law_comma [] (wCons (wVar 2) wNil))))
def ws__law_words (sp__law_comma : Spc) : WS :=
  (wSeq (wAsg (wLst wNil) (gN 3))
    (wSeq (wFor (wIt (wVar 0)) (gT 2 (gC (gN 4) (gC (gN 5) gE))) (_law_words_b1 sp__law_comma))
    (_law_words_r1 sp__law_comma)))
theorem ok__law_words {f : Addr} {fd : FuncData} {sp : Spc} {sp__law_comma : Spc} (F : Fun K "_law_words" "_law_words" st__law_words f fd) (T : Txt mg) (c__law_comma : Fc P w K mg base "_law_comma" 1 ["_law_rows"] sp__law_comma) (hl : ∀ ds S K KX, sp ds S K KX → ds.length = 3)
    (hs : ∀ ds S K KX, sp ds S K KX → ws__law_words sp__law_comma { nx := fun _ S1 => K (.z .none) S1, rt := K, ex := fun y _ S1 => KX y S1 } (startE nm__law_words ds) S) : FnOk P w K mg base (L2N.CX P w) 2 f fd ["_law_states", "_law_inner", "_law_pairs_here"] (spOf sp) := by
  have nd := sc__law_words.nd
  refine fnpx F sc__law_words hl (ws := ws__law_words sp__law_comma) (fun cdv A outer s H E B F0 hr tk hp => ?_) hs
  have hu := hu_px hr
  exact (bcons (xasg (xlst anil) (xgn 3 nd))
    (bcons (xfor hp rfl (xit (xv 0)) (xgt rfl (xgc (xgn 4 nd) (xgc (xgn 5 nd) xge))) (bcons (xif (xtcmp (oNe hu) (xv 3) (xlst anil)) (bone (xexpr (xm1 (T := .list) PySem.F.plainAttrs_list PySem.F.slot_list_append PySem.F.type_list_append oApp (xv 3) (acons xstr anil)))) bnil)
    (bone (xasg (xop oAdd (xop oAdd (xop oAdd (xv 3) (xfc c__law_comma (hr.mono (by decide)) tk rfl (acons (xlc (own := [("_law_label", 6), ("_law_number", 7)]) rfl nd (xit (xv 4)) (blkOk_by (N := nm__law_words) (sc := defScope st__law_words) (by decide +kernel)) (fun _ _ _ _ _ => pg_tup (n := 2) rfl (pgs_cons (pg_name (i := 6) nd rfl (Or.inl rfl)) (pgs_cons (pg_name (i := 7) nd rfl (Or.inl rfl)) pgs_nil))) (tgok_tup (is := [6, 7])) (fun _ _ _ _ _ => tsNil) (fun _ _ _ _ _ => (xtup (acons (xv 6) (acons (xcallT oStr rfl T.n_str bb_str (acons (xv 7) anil)) anil))))) anil))) (xlst (acons xstr anil))) (xv 5)) (xgn 3 nd)))))
    (bone (xret (xop oAdd (xop oAdd (xv 3) (xlst (acons xstr (acons (xcallT oStr rfl T.n_str bb_str (acons (xv 1) anil)) (acons xstr anil))))) (xfc c__law_comma (hr.mono (by decide)) tk rfl (acons (xv 2) anil)))))))
abbrev st__law_kinds : Stmt := top 48
abbrev nm__law_kinds : List Str := ["_law_table", "_law_state_here", "_law_row"]
theorem sc__law_kinds : FnScope nm__law_kinds ["_law_table"] (defScope st__law_kinds) := ⟨rfl, rfl, rfl, by decide +kernel, rfl, by decide +kernel, by decide +kernel⟩
def _law_kinds_b1 : WS :=
  (wIf (wOr (wNot (wB (wCall pIsi (wCons (wVar 2) (wCons (wTy .tuple) wNil))))) (wB (wCall pIsi (wCons (w2 pIx (wVar 2) (w1 pNeg (wC (.int 1)))) (wCons (wTy .bool) wNil))))) (wRet (wC (.bool false))) wNext)
def _law_kinds_b2 : WS :=
  (wSeq (wIf (wOr (wNot (wB (wCall pIsi (wCons (wVar 1) (wCons (wTy .tuple) wNil))))) (wOr (wNot (wB (wCall pIsi (wCons (w2 pIx (wVar 1) (wC (.int 0))) (wCons (wTy .list) wNil))))) (wNot (wB (wCall pIsi (wCons (w2 pIx (wVar 1) (wC (.int 1))) (wCons (wTy .list) wNil))))))) (wRet (wC (.bool false))) wNext)
    (wFor (wIt (w2 pIx (wVar 1) (wC (.int 0)))) (gN 2) _law_kinds_b1))
def _law_kinds_r1 : WS :=
  (wRet (wAndV (wCall pIsi (wCons (w2 pIx (wVar 0) (wC (.int 2))) (wCons (wTy .list) wNil))) (wNotV (wCall pIsi (wCons (w2 pIx (wVar 0) (wC (.int 1))) (wCons (wTy .bool) wNil))))))
def _law_kinds_r2 : WS :=
  (wSeq (wFor (wIt (w2 pIx (wVar 0) (wC (.int 0)))) (gN 1) _law_kinds_b2)
    _law_kinds_r1)
def ws__law_kinds : WS :=
  (wSeq (wIf (wOr (wNot (wB (wCall pIsi (wCons (wVar 0) (wCons (wTy .tuple) wNil))))) (wOr (wB (w2 (cB bNe) (wCall pLen (wCons (wVar 0) wNil)) (wC (.int 3)))) (wNot (wB (wCall pIsi (wCons (w2 pIx (wVar 0) (wC (.int 0))) (wCons (wTy .list) wNil))))))) (wRet (wC (.bool false))) wNext)
    _law_kinds_r2)
theorem ok__law_kinds {f : Addr} {fd : FuncData} {sp : Spc} (F : Fun K "_law_kinds" "_law_kinds" st__law_kinds f fd) (T : Txt mg) (hl : ∀ ds S K KX, sp ds S K KX → ds.length = 1)
    (hs : ∀ ds S K KX, sp ds S K KX → ws__law_kinds { nx := fun _ S1 => K (.z .none) S1, rt := K, ex := fun y _ S1 => KX y S1 } (startE nm__law_kinds ds) S) : FnOk P w K mg base (L2N.CX P w) 1 f fd ["_law_table"] (spOf sp) := by
  have nd := sc__law_kinds.nd
  refine fnpx F sc__law_kinds hl (ws := ws__law_kinds) (fun cdv A outer s H E B F0 hr tk hp => ?_) hs
  have hu := hu_px hr
  exact (bcons (xif (xtw (yor (xtnot (xtv (xcallB oIsi rfl T.n_isinstance bb_isinstance (acons (xv 0) (acons (xty (T := .tuple) rfl T.n_tuple bb_tuple) anil))))) (yor (xtcmp (oNe hu) (xcallB oLen rfl T.n_len bb_len (acons (xv 0) anil)) xint) (yor1 (xtnot (xtv (xcallB oIsi rfl T.n_isinstance bb_isinstance (acons (xix (oIx hu) (xv 0) xint) (acons (xty (T := .list) rfl T.n_list bb_list) anil))))))))) (bone (xret xbl)) bnil)
    (bcons (xfor hp rfl (xit (xix (oIx hu) (xv 0) xint)) (xgn 1 nd) (bcons (xif (xtw (yor (xtnot (xtv (xcallB oIsi rfl T.n_isinstance bb_isinstance (acons (xv 1) (acons (xty (T := .tuple) rfl T.n_tuple bb_tuple) anil))))) (yor (xtnot (xtv (xcallB oIsi rfl T.n_isinstance bb_isinstance (acons (xix (oIx hu) (xv 1) xint) (acons (xty (T := .list) rfl T.n_list bb_list) anil))))) (yor1 (xtnot (xtv (xcallB oIsi rfl T.n_isinstance bb_isinstance (acons (xix (oIx hu) (xv 1) xint) (acons (xty (T := .list) rfl T.n_list bb_list) anil))))))))) (bone (xret xbl)) bnil)
    (bone (xfor hp rfl (xit (xix (oIx hu) (xv 1) xint)) (xgn 2 nd) (bone (xif (xtw (yor (xtnot (xtv (xcallB oIsi rfl T.n_isinstance bb_isinstance (acons (xv 2) (acons (xty (T := .tuple) rfl T.n_tuple bb_tuple) anil))))) (yor1 (xtv (xcallB oIsi rfl T.n_isinstance bb_isinstance (acons (xix (oIx hu) (xv 2) (xun oNeg xint)) (acons (xty (T := .bool) rfl T.n_bool bb_bool) anil))))))) (bone (xret xbl)) bnil))))))
    (bone (xret (xand (xcallB oIsi rfl T.n_isinstance bb_isinstance (acons (xix (oIx hu) (xv 0) xint) (acons (xty (T := .list) rfl T.n_list bb_list) anil))) (xone (xnot (xcallB oIsi rfl T.n_isinstance bb_isinstance (acons (xix (oIx hu) (xv 0) xint) (acons (xty (T := .bool) rfl T.n_bool bb_bool) anil))))))))))
abbrev st_law : Stmt := top 49
abbrev nm_law : List Str := ["_law_script", "_law_full", "_law_many", "_law_size", "_law_labels", "_law_states", "_law_pairs_here", "_law_inner", "_law_order", "_law_sides", "_law_text", "_law_shown", "_law_turn", "_law_odd", "_law_words_here", "_law_table", "_law_k", "_law_goes", "_law_ends"]
theorem sc_law : FnScope nm_law ["_law_script"] (defScope st_law) := ⟨rfl, rfl, rfl, by decide +kernel, rfl, by decide +kernel, by decide +kernel⟩
def law_e1 (sp__law_state : Spc) : WE :=
  (wFn sp__law_state [] (wCons (wVar 0) (wCons (w2 pAdd (wC (.int 2)) (w2 pMul (wVar 16) (wVar 3))) (wCons (wVar 4) (wCons (wVar 2) (wCons (wVar 1) wNil))))))
def law_e2 : WE :=
  (wTup (wCons (wCall pSorted (wCons (wVar 17) wNil)) (wCons (wCall pSorted (wCons (wVar 18) wNil)) wNil)))
def law_e3 (sp__law_turned : Spc) : WE :=
  (wTup (wCons (wFn sp__law_turned [] (wCons (wVar 17) (wCons (wVar 12) wNil))) (wCons (wFn sp__law_turned [] (wCons (wVar 18) (wCons (w2 pDiv (wVar 12) (wC (.int 8))) wNil))) wNil)))
def law_b1 (sp_read_table : Spc) (sp__law_kinds : Spc) : WS :=
  (wSeq (wAsg (wFn sp_read_table [] (wCons (wVar 14) wNil)) (gN 15))
    (wSeq (wIf (wOr (wNot (wB (wFn sp__law_kinds [] (wCons (wVar 15) wNil)))) (wB (w2 (cB bNe) (wVar 15) (wTup (wCons (wVar 9) (wCons (wVar 7) (wCons (wVar 8) wNil))))))) (wRet (wC (.bool false))) wNext)
    (wSeq (wDrop (wMth .list pClear (w2 pIx (wVar 15) (wC (.int 0))) wNil))
    (wSeq (wDrop (wMth .list pApp (w2 pIx (wVar 15) (wC (.int 2))) (wCons (wTup (wCons (wC (.str (PySem.Str.ofString "a"))) (wCons (wC (.str (PySem.Str.ofString "b"))) wNil))) wNil)))
    (wSeq (wAsg (wFn sp_read_table [] (wCons (wVar 14) wNil)) (gN 15))
    (wIf (wOr (wNot (wB (wFn sp__law_kinds [] (wCons (wVar 15) wNil)))) (wB (w2 (cB bNe) (wVar 15) (wTup (wCons (wVar 9) (wCons (wVar 7) (wCons (wVar 8) wNil))))))) (wRet (wC (.bool false))) wNext))))))
def law_r1 : WS :=
  (wRet (wC (.bool true)))
def law_r2 (sp__law_cell_at : Spc) (sp__law_words : Spc) (sp__law_turned : Spc) (sp_read_table : Spc) (sp__law_kinds : Spc) : WS :=
  (wSeq (wAsg (w2 pMod (wFn sp__law_cell_at [] (wCons (wVar 0) (wCons (wC (.int 2)) wNil))) (wC (.int 72))) (gN 12))
    (wSeq (wAsg (wLc (wIt (wVar 5)) (tgT [17, 18]) wYes (law_e3 sp__law_turned) [17, 18]) (gN 13))
    (wSeq (wFor (wIt (wLst (wCons (wVar 10) (wCons (wMth .str pJoin (wC (.str (PySem.Str.ofString " "))) (wCons (wFn sp__law_words [] (wCons (wVar 13) (wCons (wVar 7) (wCons (wVar 6) wNil)))) wNil)) wNil)))) (gN 14) (law_b1 sp_read_table sp__law_kinds))
    law_r1)))
def law_r3 (sp__law_cell_at : Spc) (sp__law_names : Spc) (sp__law_state : Spc) (sp__law_pairs : Spc) (sp__law_joined : Spc) (sp__law_bare : Spc) (sp__law_words : Spc) (sp_table_of : Spc) (sp_show_table : Spc) (sp__law_turned : Spc) (sp_read_table : Spc) (sp__law_kinds : Spc) : WS :=
  (wSeq (wAsg (wFn sp__law_names [] (wCons (wFn sp__law_cell_at [] (wCons (wVar 0) (wCons (wC (.int 0)) wNil))) (wCons (wVar 3) wNil))) (gN 4))
    (wSeq (wAsg (wLc (wRg1 (wCons (wVar 2) wNil)) (tgN 16) wYes (law_e1 sp__law_state) [16]) (gN 5))
    (wSeq (wAsg (wFn sp__law_pairs [] (wCons (wSl pSl (wSl pSl (wVar 0) (wPart (w2 pAdd (wC (.int 2)) (w2 pDiv (w2 pMul (wVar 2) (wVar 3)) (wC (.int 2))))) wNo) wNo (wPart (wC (.int 40)))) (wCons (wVar 4) wNil))) (gN 6))
    (wSeq (wAsg (w2 pMod (w2 pDiv (wFn sp__law_cell_at [] (wCons (wVar 0) (wCons (wC (.int 0)) wNil))) (wC (.int 7))) (wVar 2)) (gN 7))
    (wSeq (wAsg (wFn sp__law_joined [] (wCons (wVar 6) (wCons (wVar 4) wNil))) (gN 8))
    (wSeq (wAsg (wLc (wIt (wVar 5)) (tgT [17, 18]) wYes law_e2 [17, 18]) (gN 9))
    (wSeq (wAsg (wMth .str pJoin (wC (.str (PySem.Str.ofString " "))) (wCons (wFn sp__law_words [] (wCons (wVar 9) (wCons (wVar 7) (wCons (wFn sp__law_bare [] (wCons (wVar 8) wNil)) wNil)))) wNil)) (gN 10))
    (wSeq (wAsg (wFn sp_show_table [] (wCons (wFn sp_table_of [] (wCons (wVar 5) (wCons (wVar 7) (wCons (wVar 6) wNil)))) wNil)) (gN 11))
    (wSeq (wIf (wOr (wNot (wB (wCall pIsi (wCons (wVar 11) (wCons (wTy .str) wNil))))) (wB (w2 (cB bNe) (wVar 11) (wVar 10)))) (wRet (wC (.bool false))) wNext)
    (law_r2 sp__law_cell_at sp__law_words sp__law_turned sp_read_table sp__law_kinds))))))))))
def ws_law (sp__law_cell_at : Spc) (sp__law_names : Spc) (sp__law_state : Spc) (sp__law_pairs : Spc) (sp__law_joined : Spc) (sp__law_bare : Spc) (sp__law_words : Spc) (sp_table_of : Spc) (sp_show_table : Spc) (sp__law_turned : Spc) (sp_read_table : Spc) (sp__law_kinds : Spc) : WS :=
  (wSeq (wAsg (w2 (cB bEq) (w2 pMod (wFn sp__law_cell_at [] (wCons (wVar 0) (wCons (wC (.int 1)) wNil))) (wC (.int 5))) (wC (.int 1))) (gN 1))
    (wSeq (wAsg (w2 pAdd (wC (.int 1)) (w2 pMod (w2 pDiv (wFn sp__law_cell_at [] (wCons (wVar 0) (wCons (wC (.int 1)) wNil))) (wC (.int 5))) (wC (.int 4)))) (gN 2))
    (wSeq (wAsg (w2 pAdd (wC (.int 1)) (w2 pMod (w2 pDiv (wFn sp__law_cell_at [] (wCons (wVar 0) (wCons (wC (.int 1)) wNil))) (wC (.int 20))) (wC (.int 5)))) (gN 3))
    (wSeq (wIf (wB (wVar 1)) (wSeq (wAsg (wC (.int 8)) (gN 2))
    (wAsg (wC (.int 8)) (gN 3))) wNext)
    (law_r3 sp__law_cell_at sp__law_names sp__law_state sp__law_pairs sp__law_joined sp__law_bare sp__law_words sp_table_of sp_show_table sp__law_turned sp_read_table sp__law_kinds)))))
theorem ok_law {f : Addr} {fd : FuncData} {sp : Spc} {sp__law_cell_at : Spc} {sp__law_names : Spc} {sp__law_state : Spc} {sp__law_pairs : Spc} {sp__law_joined : Spc} {sp__law_bare : Spc} {sp__law_words : Spc} {sp_table_of : Spc} {sp_show_table : Spc} {sp__law_turned : Spc} {sp_read_table : Spc} {sp__law_kinds : Spc} (F : Fun K "law" "law" st_law f fd) (T : Txt mg) (c__law_cell_at : Fc P w K mg base "_law_cell_at" 1 ["_law_script", "_law_k"] sp__law_cell_at) (c__law_names : Fc P w K mg base "_law_names" 1 ["_law_cell", "_law_many"] sp__law_names) (c__law_state : Fc P w K mg base "_law_state" 2 ["_law_script", "_law_start", "_law_labels", "_law_many", "_law_full"] sp__law_state) (c__law_pairs : Fc P w K mg base "_law_pairs" 1 ["_law_cells", "_law_labels"] sp__law_pairs) (c__law_joined : Fc P w K mg base "_law_joined" 1 ["_law_pairs_here", "_law_labels"] sp__law_joined) (c__law_bare : Fc P w K mg base "_law_bare" 1 ["_law_order"] sp__law_bare) (c__law_words : Fc P w K mg base "_law_words" 2 ["_law_states", "_law_inner", "_law_pairs_here"] sp__law_words) (c_table_of : Fc P w K mg base "table_of" 4 ["states", "inner", "pairs"] sp_table_of) (c_show_table : Fc P w K mg base "show_table" 2 ["table"] sp_show_table) (c__law_turned : Fc P w K mg base "_law_turned" 1 ["_law_some", "_law_cell"] sp__law_turned) (c_read_table : Fc P w K mg base "read_table" 5 ["text"] sp_read_table) (c__law_kinds : Fc P w K mg base "_law_kinds" 1 ["_law_table"] sp__law_kinds) (hl : ∀ ds S K KX, sp ds S K KX → ds.length = 1)
    (hs : ∀ ds S K KX, sp ds S K KX → ws_law sp__law_cell_at sp__law_names sp__law_state sp__law_pairs sp__law_joined sp__law_bare sp__law_words sp_table_of sp_show_table sp__law_turned sp_read_table sp__law_kinds { nx := fun _ S1 => K (.z .none) S1, rt := K, ex := fun y _ S1 => KX y S1 } (startE nm_law ds) S) : FnOk P w K mg base (L2N.CX P w) 6 f fd ["_law_script"] (spOf sp) := by
  have nd := sc_law.nd
  refine fnpx F sc_law hl (ws := ws_law sp__law_cell_at sp__law_names sp__law_state sp__law_pairs sp__law_joined sp__law_bare sp__law_words sp_table_of sp_show_table sp__law_turned sp_read_table sp__law_kinds) (fun cdv A outer s H E B F0 hr tk hp => ?_) hs
  have hu := hu_px hr
  exact (bcons (xasg (xcmp (oEq hu) (xop oMod (xfc c__law_cell_at (hr.mono (by decide)) tk rfl (acons (xv 0) (acons xint anil))) xint) xint) (xgn 1 nd))
    (bcons (xasg (xop oAdd xint (xop oMod (xop oDiv (xfc c__law_cell_at (hr.mono (by decide)) tk rfl (acons (xv 0) (acons xint anil))) xint) xint)) (xgn 2 nd))
    (bcons (xasg (xop oAdd xint (xop oMod (xop oDiv (xfc c__law_cell_at (hr.mono (by decide)) tk rfl (acons (xv 0) (acons xint anil))) xint) xint)) (xgn 3 nd))
    (bcons (xif (xtv (xv 1)) (bcons (xasg xint (xgn 2 nd))
    (bone (xasg xint (xgn 3 nd)))) bnil)
    (bcons (xasg (xfc c__law_names (hr.mono (by decide)) tk rfl (acons (xfc c__law_cell_at (hr.mono (by decide)) tk rfl (acons (xv 0) (acons xint anil))) (acons (xv 3) anil))) (xgn 4 nd))
    (bcons (xsetLc (i := 5) (own := [("_law_k", 16)]) rfl nd rfl rfl (sw_true rfl rfl rfl (by decide +kernel)) (xrg1 rfl T.n_range (acons (xv 2) anil)) (blkOk_by (N := nm_law) (sc := defScope st_law) (by decide +kernel)) (fun _ _ _ _ _ => pg_name (i := 16) nd rfl (Or.inl rfl)) tgok_name (fun _ _ _ _ _ => tsNil) (fun _ _ _ _ _ => (xfc c__law_state (hr.mono (by decide)) takes0N rfl (acons (xv 0) (acons (xop oAdd xint (xop oMul (xv 16) (xv 3))) (acons (xv 4) (acons (xv 2) (acons (xv 1) anil))))))))
    (bcons (xasg (xfc c__law_pairs (hr.mono (by decide)) tk rfl (acons (xsl oSl (xsl oSl (xv 0) (osome (xop oAdd xint (xop oDiv (xop oMul (xv 2) (xv 3)) xint))) ono) ono (osome xint)) (acons (xv 4) anil))) (xgn 6 nd))
    (bcons (xasg (xop oMod (xop oDiv (xfc c__law_cell_at (hr.mono (by decide)) tk rfl (acons (xv 0) (acons xint anil))) xint) (xv 2)) (xgn 7 nd))
    (bcons (xasg (xfc c__law_joined (hr.mono (by decide)) tk rfl (acons (xv 6) (acons (xv 4) anil))) (xgn 8 nd))
    (bcons (xsetLc (i := 9) (own := [("_law_goes", 17), ("_law_ends", 18)]) rfl nd rfl rfl (sw_true rfl rfl rfl (by decide +kernel)) (xit (xv 5)) (blkOk_by (N := nm_law) (sc := defScope st_law) (by decide +kernel)) (fun _ _ _ _ _ => pg_tup (n := 2) rfl (pgs_cons (pg_name (i := 17) nd rfl (Or.inl rfl)) (pgs_cons (pg_name (i := 18) nd rfl (Or.inl rfl)) pgs_nil))) (tgok_tup (is := [17, 18])) (fun _ _ _ _ _ => tsNil) (fun _ _ _ _ _ => (xtup (acons (xcallB (oSorted hu rfl) rfl T.n_sorted bb_sorted (acons (xv 17) anil)) (acons (xcallB (oSorted hu rfl) rfl T.n_sorted bb_sorted (acons (xv 18) anil)) anil)))))
    (bcons (xasg (xm1 (T := .str) PySem.F.plainAttrs_str PySem.F.slot_str_join PySem.F.type_str_join oJoin xstr (acons (xfc c__law_words (hr.mono (by decide)) tk rfl (acons (xv 9) (acons (xv 7) (acons (xfc c__law_bare (hr.mono (by decide)) tk rfl (acons (xv 8) anil)) anil)))) anil)) (xgn 10 nd))
    (bcons (xasg (xfc c_show_table (hr.mono (by decide)) tk rfl (acons (xfc c_table_of (hr.mono (by decide)) tk rfl (acons (xv 5) (acons (xv 7) (acons (xv 6) anil)))) anil)) (xgn 11 nd))
    (bcons (xif (xtw (yor (xtnot (xtv (xcallB oIsi rfl T.n_isinstance bb_isinstance (acons (xv 11) (acons (xty (T := .str) rfl T.n_str bb_str) anil))))) (yor1 (xtcmp (oNe hu) (xv 11) (xv 10))))) (bone (xret xbl)) bnil)
    (bcons (xasg (xop oMod (xfc c__law_cell_at (hr.mono (by decide)) tk rfl (acons (xv 0) (acons xint anil))) xint) (xgn 12 nd))
    (bcons (xsetLc (i := 13) (own := [("_law_goes", 17), ("_law_ends", 18)]) rfl nd rfl rfl (sw_true rfl rfl rfl (by decide +kernel)) (xit (xv 5)) (blkOk_by (N := nm_law) (sc := defScope st_law) (by decide +kernel)) (fun _ _ _ _ _ => pg_tup (n := 2) rfl (pgs_cons (pg_name (i := 17) nd rfl (Or.inl rfl)) (pgs_cons (pg_name (i := 18) nd rfl (Or.inl rfl)) pgs_nil))) (tgok_tup (is := [17, 18])) (fun _ _ _ _ _ => tsNil) (fun _ _ _ _ _ => (xtup (acons (xfc c__law_turned (hr.mono (by decide)) takes0N rfl (acons (xv 17) (acons (xv 12) anil))) (acons (xfc c__law_turned (hr.mono (by decide)) takes0N rfl (acons (xv 18) (acons (xop oDiv (xv 12) xint) anil))) anil)))))
    (bcons (xfor hp rfl (xit (xlst (acons (xv 10) (acons (xm1 (T := .str) PySem.F.plainAttrs_str PySem.F.slot_str_join PySem.F.type_str_join oJoin xstr (acons (xfc c__law_words (hr.mono (by decide)) tk rfl (acons (xv 13) (acons (xv 7) (acons (xv 6) anil)))) anil)) anil)))) (xgn 14 nd) (bcons (xasg (xfc c_read_table (hr.mono (by decide)) tk rfl (acons (xv 14) anil)) (xgn 15 nd))
    (bcons (xif (xtw (yor (xtnot (xtv (xfc c__law_kinds (hr.mono (by decide)) tk rfl (acons (xv 15) anil)))) (yor1 (xtcmp (oNe hu) (xv 15) (xtup (acons (xv 9) (acons (xv 7) (acons (xv 8) anil)))))))) (bone (xret xbl)) bnil)
    (bcons (xexpr (xm0 (T := .list) PySem.F.plainAttrs_list PySem.F.slot_list_clear PySem.F.type_list_clear oClear (xix (oIx hu) (xv 15) xint)))
    (bcons (xexpr (xm1 (T := .list) PySem.F.plainAttrs_list PySem.F.slot_list_append PySem.F.type_list_append oApp (xix (oIx hu) (xv 15) xint) (acons (xtup (acons xstr (acons xstr anil))) anil)))
    (bcons (xasg (xfc c_read_table (hr.mono (by decide)) tk rfl (acons (xv 14) anil)) (xgn 15 nd))
    (bone (xif (xtw (yor (xtnot (xtv (xfc c__law_kinds (hr.mono (by decide)) tk rfl (acons (xv 15) anil)))) (yor1 (xtcmp (oNe hu) (xv 15) (xtup (acons (xv 9) (acons (xv 7) (acons (xv 8) anil)))))))) (bone (xret xbl)) bnil))))))))
    (bone (xret xbl))))))))))))))))))
end
end K75

set_option Elab.async false
set_option linter.all false
set_option maxHeartbeats 4000000
set_option maxRecDepth 100000
namespace K75
open PySem PySem.Spec PyProof.Rows L2 PL
def fn : List He.DefD := [dd "is_name" st_is_name, dd "nexts" st_nexts, dd "below" st_below, dd "chain" st_chain, dd "labels_ahead" st_labels_ahead, dd "order_of" st_order_of, dd "too_great" st_too_great, dd "labels_in" st_labels_in, dd "numbers_in" st_numbers_in, dd "has_double" st_has_double, dd "table_of" st_table_of, dd "number_in" st_number_in, dd "parted" st_parted, dd "twos" st_twos, dd "plain_words" st_plain_words, dd "state_in" st_state_in, dd "read_table" st_read_table, dd "bare_pairs" st_bare_pairs, dd "joined_words" st_joined_words, dd "show_table" st_show_table, dd "_law_cell_at" st__law_cell_at, dd "_law_names" st__law_names, dd "_law_turned" st__law_turned, dd "_law_joined" st__law_joined, dd "_law_state" st__law_state, dd "_law_pairs" st__law_pairs, dd "_law_bare" st__law_bare, dd "_law_comma" st__law_comma, dd "_law_words" st__law_words, dd "_law_kinds" st__law_kinds, dd "law" st_law]
def fa0 : List He.Fa := [.glo "is_name", .glo "nexts", .glo "below", .glo "chain", .glo "labels_ahead", .glo "order_of", .glo "too_great", .glo "labels_in", .glo "numbers_in", .glo "has_double", .glo "table_of", .glo "number_in", .glo "parted", .glo "twos", .glo "plain_words", .glo "state_in", .glo "read_table", .glo "bare_pairs", .glo "joined_words", .glo "show_table", .glo "_law_cell_at", .glo "_law_names", .glo "_law_turned", .glo "_law_joined", .glo "_law_state", .glo "_law_pairs", .glo "_law_bare", .glo "_law_comma", .glo "_law_words", .glo "_law_kinds"]
def fa1 : List He.Fa := [.glo "law", .free "str", .free "isinstance", .free "len", .free "sorted", .free "set", .free "int", .free "range", .free "list", .free "tuple", .free "bool", .str "LETTERS" "abcdefghijklmnopqrstuvwxyz", .int "MOST_STATES" 8, .int "MOST_PAIRS" 40, .int "MOST_LABELS" 8, .str "FIGURES" "0123456789", .str "SIGNS" "/:|,"]
def fa : List He.Fa := fa0 ++ fa1
def loose : List PySem.Str := ("PathError" : PySem.Str) :: ("TooGreat" : PySem.Str) :: ("NoName" : PySem.Str) :: ("NoPlace" : PySem.Str) :: ("Twice" : PySem.Str) :: ("NoText" : PySem.Str) :: ("Ring" : PySem.Str) :: ("LETTERS" : PySem.Str) :: ("is_name" : PySem.Str) :: ("nexts" : PySem.Str) :: ("below" : PySem.Str) :: ("chain" : PySem.Str) :: ("labels_ahead" : PySem.Str) :: ("order_of" : PySem.Str) :: ("MOST_STATES" : PySem.Str) :: ("MOST_LABELS" : PySem.Str) :: ("MOST_PAIRS" : PySem.Str) :: ("too_great" : PySem.Str) :: ("labels_in" : PySem.Str) :: ("numbers_in" : PySem.Str) :: ("has_double" : PySem.Str) :: ("table_of" : PySem.Str) :: ("FIGURES" : PySem.Str) :: ("SIGNS" : PySem.Str) :: ("number_in" : PySem.Str) :: ("parted" : PySem.Str) :: ("twos" : PySem.Str) :: ("plain_words" : PySem.Str) :: ("state_in" : PySem.Str) :: ("read_table" : PySem.Str) :: ("bare_pairs" : PySem.Str) :: ("joined_words" : PySem.Str) :: ("show_table" : PySem.Str) :: ("_law_cell_at" : PySem.Str) :: ("_law_names" : PySem.Str) :: ("_law_turned" : PySem.Str) :: ("_law_joined" : PySem.Str) :: ("_law_state" : PySem.Str) :: ("_law_pairs" : PySem.Str) :: ("_law_bare" : PySem.Str) :: ("_law_comma" : PySem.Str) :: ("_law_words" : PySem.Str) :: ("_law_kinds" : PySem.Str) :: []
abbrev R : PySem.W.OpenRow := PySem.W.OpenLaw.row PySem.Challenge.rw_namepaths_k75_tables_written
abbrev hk : PySem.W.Hook := hookP 4 fa fn
def ob (s : PySem.W.SharedT) : Bool × He.AlD := obsPG 4 fa fn (HandSHeadRun.getT s)
theorem ob_eq (s : PySem.W.SharedT) : ob s = hk.obs s.abs := obsPG_eq (HandSHeadRun.getT_eq s)
theorem run (w : World) : HandSHeadRun.RunEq R (PySem.W.view R.prog [49]) hk ob 8000 loose w := K75H.run w
end K75

set_option Elab.async false
set_option linter.all false
set_option maxRecDepth 100000
namespace ND
open PySem L2 PL

structure Step where
  lab : Str
  by_ : Bool
  num : Int
structure Tell where
  lab : Str
  name : Str
  by_ : Bool
  num : Int
inductive Thing where
  | plain | part (s : Int) | sort (q : Int)
inductive Ans where
  | opn | thing (t : Int) | none_ (at_ : Int) | torn (at_ : Int)
structure Quest where
  scope : Int
  state : Int
  path : List Str
abbrev Scope := List Step × List Tell
structure Net where
  scopes : List Scope
  things : List Thing
  quests : List Quest
inductive Goal where
  | to (s : Int) | opn (q : Int) | no
def eStep (s : Step) : PyData := .tuple [.str s.lab, .str (if s.by_ then "by" else "to"), .int s.num]
def eTell (s : Tell) : PyData := .tuple [.str s.lab, .str s.name, .str (if s.by_ then "by" else "thing"), .int s.num]
def eThing : Thing → PyData
  | .plain => .tuple [.str "plain", .int 0]
  | .part s => .tuple [.str "part", .int s]
  | .sort q => .tuple [.str "sort", .int q]
def eQuest (q : Quest) : PyData := .tuple [.int q.scope, .int q.state, .tuple (q.path.map .str)]
def eScope (s : Scope) : PyData := .tuple [.list (s.1.map eStep), .list (s.2.map eTell)]
def eNet (n : Net) : PyData := .tuple [.list (n.scopes.map eScope), .list (n.things.map eThing), .list (n.quests.map eQuest)]
structure InOk (net : Net) (ans : List Ans) : Prop where
  sort : ∀ (q : Int), Thing.sort q ∈ net.things → 0 ≤ q ∧ q < ans.length
  ans : ∀ (t : Int), Ans.thing t ∈ ans → 0 ≤ t ∧ t < net.things.length
def getI {α : Type} (xs : List α) (d : α) (i : Int) : α := xs.getD i.toNat d
def inside (net : Net) (ans : List Ans) (t : Int) : Goal := match getI net.things .plain t with
  | .part s => .to s
  | .plain => .no
  | .sort q => match getI ans .opn q with
    | .opn => .opn q
    | .thing t => match getI net.things .plain t with
      | .part s => .to s
      | _ => .no
    | _ => .no
theorem getI_at {α : Type} {xs : List α} {d : α} {i : Int} (h : 0 ≤ i ∧ i < xs.length) : atD xs i = some (getI xs d i) := by
  rw [atD_in h.1 h.2]
  unfold getI
  rw [List.getD_eq_getElem?_getD, List.getElem?_eq_getElem (by omega)]
  rfl
theorem getI_mem {α : Type} {xs : List α} {d : α} {i : Int} (h : 0 ≤ i ∧ i < xs.length) : getI xs d i ∈ xs := by
  have := getI_at (d := d) h
  rw [atD_in h.1 h.2] at this
  rw [← Option.some.inj this]
  exact List.getElem_mem _
theorem flat_strs : ∀ xs : List Str, flatTs (xs.map .str) = true
  | [] => rfl
  | x :: xs => by simp [flatTs, flatT, flat_strs xs]
theorem bzQ (q : Quest) : bz (eQuest q) = .z (eQuest q) := bz_flat (by simp [eQuest, flatT, flatTs, flat_strs])
theorem bzT (t : Thing) : bz (eThing t) = .z (eThing t) := by cases t <;> rfl
theorem bzS (s : Step) : bz (eStep s) = .z (eStep s) := rfl
theorem bzL (t : Tell) : bz (eTell t) = .z (eTell t) := rfl
end ND

set_option Elab.async false
set_option linter.all false
set_option maxRecDepth 100000
namespace ND
open PySem L2 PL

theorem cutL_map {α β : Type} (f : α → β) (xs : List α) (lo hi : Option Int) : cutL (xs.map f) lo hi = (cutL xs lo hi).map f := by
  unfold cutL; rw [List.length_map, List.map_take, List.map_drop]
theorem cutL_len {α : Type} (xs : List α) (lo hi : Option Int) : (cutL xs lo hi).length ≤ xs.length := by
  unfold cutL; rw [List.length_take, List.length_drop]; omega
theorem cutL_mem {α : Type} {xs : List α} {lo hi : Option Int} {x : α} (h : x ∈ cutL xs lo hi) : x ∈ xs := List.mem_of_mem_drop (List.mem_of_mem_take h)
theorem bz_ints (ns : List Int) : (ns.map PyData.int).map bz = ns.map fun i => .z (.int i) := by rw [List.map_map]; rfl

def scD (p : Nat × Nat) : D := .t [.r p.1, .r p.2]
structure ScIn (S : Sto) (p : Nat × Nat) (s : Scope) : Prop where
  a : S[p.1]? = some (.lst (s.1.map fun x => .z (eStep x)))
  b : S[p.2]? = some (.lst (s.2.map fun x => .z (eTell x)))
theorem ScIn.vw {S : Sto} {p : Nat × Nat} {s : Scope} (h : ScIn S p s) : Vw S (scD p) (eScope s) :=
  .t (.cons (.r h.a (Vws.map _ _)) (.cons (.r h.b (Vws.map _ _)) .nil))
theorem ScIn.sub {S S' : Sto} {p : Nat × Nat} {s : Scope} (h : ScIn S p s) (k : ∀ (n : Nat) (o : Ob), S[n]? = some o → S'[n]? = some o) : ScIn S' p s := ⟨k _ _ h.a, k _ _ h.b⟩
inductive ScsIn (S : Sto) : List (Nat × Nat) → List Scope → Prop
  | nil : ScsIn S [] []
  | cons {p : Nat × Nat} {s : Scope} {ps : List (Nat × Nat)} {ss : List Scope} : ScIn S p s → ScsIn S ps ss → ScsIn S (p :: ps) (s :: ss)
theorem ScsIn.vws {S : Sto} : ∀ {ps : List (Nat × Nat)} {ss : List Scope}, ScsIn S ps ss → Vws S (ps.map scD) (ss.map eScope)
  | [], _, h => by cases h; exact .nil
  | p :: ps, _, h => by cases h with | cons a b => exact .cons a.vw b.vws
theorem ScsIn.sub {S S' : Sto} (k : ∀ (n : Nat) (o : Ob), S[n]? = some o → S'[n]? = some o) : ∀ {ps : List (Nat × Nat)} {ss : List Scope}, ScsIn S ps ss → ScsIn S' ps ss
  | [], _, h => by cases h; exact .nil
  | p :: ps, _, h => by cases h with | cons a b => exact .cons (a.sub k) (b.sub k)
def emp (L n : Nat) : List (Nat × Nat) := (List.range n).map fun k => (L + 2 * k, L + 2 * k + 1)
def noSc : Scope := ([], [])
abbrev weEmp : WE := wTup (wCons (wLst wNil) (wCons (wLst wNil) wNil))
theorem pLc_emp {lo : Int} {n : Nat} {i : Nat} {env : PL.Env} {fin : Sto → Prop} {S : Sto} (hz : n < 1000000) (hf : fin (S ++ .lst ((emp (S.length + 1) n).map scD) :: List.replicate (2 * n) (.lst []))) :
    pLc (rgD lo n) (tgN i) wYes weEmp S.length env fin (rgD lo n).items (S ++ [.lst []]) := by
  have hl : (rgD lo n).items.length = n := by simp [rgD]
  refine pLc_each (fun j S' => j ≤ n ∧ S' = S ++ .lst ((emp (S.length + 1) j).map scD) :: List.replicate (2 * j) (.lst [])) ⟨Nat.zero_le _, rfl⟩ (fun _ _ _ _ => trivial) ?_ ?_
  · rintro j d _ Q hj ⟨hj2, rfl⟩ hQ
    have hlt : j < n := by rw [← hl]; exact (List.getElem?_eq_some_iff.mp hj).1
    refine pGet.mk rfl ?_
    refine pIf.tt rfl ?_
    refine pReq.mk (sz_le rfl) ?_
    refine pReq.mk (sz_le rfl) ?_
    refine pReq.mk (sz_le rfl) ?_
    refine pGet.mk (x := (emp (S.length + 1) j).map scD) ?_ (pReq.mk ?_ ?_)
    · rw [List.append_assoc, List.append_assoc]
      exact lsR_at (List.getElem?_append_right (Nat.le_refl _) |>.trans (by rw [Nat.sub_self]; rfl))
    · rw [List.length_map]
      refine sz_lt6 ?_
      unfold emp
      rw [List.length_map, List.length_range]
      omega
    · refine hQ _ ⟨hlt, ?_⟩
      rw [List.append_assoc, List.append_assoc, List.set_append_right _ _ (Nat.le_refl _), Nat.sub_self]
      have e1 : emp (S.length + 1) (j + 1) = emp (S.length + 1) j ++ [(S.length + 1 + 2 * j, S.length + 1 + 2 * j + 1)] := by
        unfold emp; rw [range_snoc]
      have e2 : List.replicate (2 * (j + 1)) (Ob.lst []) = List.replicate (2 * j) (.lst []) ++ [.lst [], .lst []] := by
        rw [show 2 * (j + 1) = 2 * j + 2 by omega, ← List.replicate_append_replicate]; rfl
      rw [e1, e2, List.map_append]
      have e3 : (S ++ Ob.lst ((emp (S.length + 1) j).map scD) :: List.replicate (2 * j) (Ob.lst [])).length = S.length + 1 + 2 * j := by simp; omega
      have e4 : ((S ++ Ob.lst ((emp (S.length + 1) j).map scD) :: List.replicate (2 * j) (Ob.lst [])) ++ [Ob.lst []]).length = S.length + 1 + 2 * j + 1 := by simp; omega
      show S ++ (Ob.lst (_ ++ [D.t [.r _, .r _]]) :: _) = _
      rw [e3, e4]
      rfl
  · rintro S' ⟨_, rfl⟩
    rw [hl]
    exact hf
end ND

set_option Elab.async false
set_option linter.all false
set_option maxRecDepth 100000
namespace ND
open PySem L2 PL

def LwN (n : Nat) (x : Str) : Prop := x.cps.toList.length = n ∧ ∀ c ∈ x.cps.toList, 97 ≤ c ∧ c < 123
def isNm (x : Str) : Prop := ∃ n, 1 ≤ n ∧ n ≤ 8 ∧ LwN n x
theorem LwN.nil : LwN 0 (Str.ofString "") := ⟨rfl, fun c h => by cases h⟩
theorem LwN.len {n : Nat} {x : Str} (h : LwN n x) : x.length = n := by
  rw [← h.1]; show x.cps.size = _; simp
theorem LwN.ok {n : Nat} {x : Str} (h : LwN n x) : PyData.strOk x = true := by
  unfold PyData.strOk
  rw [Array.all_eq_true']
  intro c hc
  have := h.2 c (by simpa using hc)
  simp; omega
theorem isNm.ok {x : Str} (h : isNm x) : PyData.strOk x = true := by
  obtain ⟨n, _, _, h⟩ := h; exact h.ok
theorem app_list (x y : Str) : (x ++ y).cps.toList = x.cps.toList ++ y.cps.toList := by
  show (x.cps ++ y.cps).toList = _
  simp
theorem LwN.snoc {n : Nat} {x : Str} {c : Nat} (h : LwN n x) (h1 : 97 ≤ c) (h2 : c < 123) : LwN (n + 1) (x ++ ⟨⟨[c]⟩⟩) := by
  constructor
  · rw [app_list, List.length_append, h.1]; rfl
  · intro d hd
    rw [app_list, List.mem_append] at hd
    rcases hd with hd | hd
    · exact h.2 d hd
    · have : d = c := by simpa using hd
      subst this; exact ⟨h1, h2⟩
theorem one_len (c : Nat) : (⟨⟨[c]⟩⟩ : Str).length = 1 := rfl
def alpha : List Nat := [97, 98, 99, 100, 101, 102, 103, 104, 105, 106, 107, 108, 109, 110, 111, 112, 113, 114, 115, 116, 117, 118, 119, 120, 121, 122]
theorem alpha_eq : (Str.ofString "abcdefghijklmnopqrstuvwxyz").cps.toList = alpha := by decide +kernel
theorem alpha_at {i : Int} (h : 0 ≤ i ∧ i < 26) : ∃ c, atD (Str.ofString "abcdefghijklmnopqrstuvwxyz").cps.toList i = some c ∧ 97 ≤ c ∧ c < 123 := by
  rw [alpha_eq]
  obtain ⟨m, rfl⟩ : ∃ m : Nat, i = (m : Int) := ⟨i.toNat, by omega⟩
  have hm : m < 26 := by omega
  have key : ∀ m : Fin 26, ∃ c, alpha[m.val]? = some c ∧ 97 ≤ c ∧ c < 123 := by decide
  exact key ⟨m, hm⟩
theorem getA {α : Type} {xs : List α} {i : Int} (h : 0 ≤ i ∧ i < xs.length) : ∃ x, atD xs i = some x ∧ x ∈ xs := ⟨_, atD_in h.1 h.2, List.getElem_mem _⟩

theorem ixD_zA {α : Type} {S : Sto} {f : α → PyData} {xs : List α} {i : Int} (h : 0 ≤ i ∧ i < xs.length) : ∃ d, ixD S (.z (.list (xs.map f))) i = some d ∧ ∃ x, x ∈ xs ∧ d = .z (f x) := by
  obtain ⟨x, e, hx⟩ := getA h
  exact ⟨_, ixD_zL e, x, hx, rfl⟩
theorem ixD_bA {α : Type} {S : Sto} {f : α → PyData} {xs : List α} {i : Int} (h : 0 ≤ i ∧ i < xs.length) : ∃ d, ixD S (.b (.list (xs.map f))) i = some d ∧ ∃ x, x ∈ xs ∧ d = bz (f x) := by
  obtain ⟨x, e, hx⟩ := getA h
  exact ⟨_, ixD_bL e, x, hx, rfl⟩
def StepOk (ns nq : Nat) (x : Step) : Prop := PyData.strOk x.lab = true ∧ 0 ≤ x.num ∧ x.num < (if x.by_ = true then nq else ns : Nat)
def TellOk (nt nq : Nat) (x : Tell) : Prop := PyData.strOk x.lab = true ∧ PyData.strOk x.name = true ∧ 0 ≤ x.num ∧ x.num < (if x.by_ = true then nq else nt : Nat)
def ThingOk (ns nq : Nat) : Thing → Prop
  | .plain => True
  | .part s => 0 ≤ s ∧ s < ns
  | .sort q => 0 ≤ q ∧ q < nq
structure QuestOk (ns : Nat) (q : Quest) : Prop where
  s : 0 ≤ q.scope ∧ q.scope < ns
  t : 0 ≤ q.state
  p1 : q.path ≠ []
  p6 : q.path.length ≤ 6
  ok : ∀ x ∈ q.path, PyData.strOk x = true
def ScopeOk (ns nt nq : Nat) (s : Scope) : Prop := (∀ x ∈ s.1, StepOk ns nq x) ∧ ∀ x ∈ s.2, TellOk nt nq x
structure NetOk (n : Net) : Prop where
  sc : ∀ s ∈ n.scopes, ScopeOk n.scopes.length n.things.length n.quests.length s
  th : ∀ t ∈ n.things, ThingOk n.scopes.length n.quests.length t
  qs : ∀ q ∈ n.quests, QuestOk n.scopes.length q
def AnsOk (nt : Nat) : Ans → Prop
  | .thing t => 0 ≤ t ∧ t < nt
  | _ => True
theorem inOk_of {n : Net} {a : List Ans} (h : NetOk n) (hl : a.length = n.quests.length) (ha : ∀ x ∈ a, AnsOk n.things.length x) : InOk n a :=
  ⟨fun q hq => by have := h.th _ hq; rw [hl]; exact this, fun t ht => ha _ ht⟩
theorem shQ {q : Quest} (h : ∀ x ∈ q.path, PyData.strOk x = true) : Shp 2 (eQuest q) := .tup3 .int .int (.tuple fun d hd => by
  obtain ⟨x, hx, rfl⟩ := List.mem_map.mp hd
  exact .str (h x hx))
theorem shT (t : Thing) : Shp 2 (eThing t) := by cases t <;> exact .mono (.tup2 (n := 0) (.str (by decide +kernel)) .int) (by decide)
theorem shS {x : Step} (h : PyData.strOk x.lab = true) : Shp 1 (eStep x) := .tup3 (.str h) (by cases x.by_ <;> exact .str (by decide +kernel)) .int
theorem shL {x : Tell} (h : PyData.strOk x.lab = true) (h2 : PyData.strOk x.name = true) : Shp 1 (eTell x) := .tup4 (.str h) (.str h2) (by cases x.by_ <;> exact .str (by decide +kernel)) .int
theorem shSc {ns nt nq : Nat} {s : Scope} (h : ScopeOk ns nt nq s) : Shp 3 (eScope s) := .tup2 (.lists fun x hx => shS (h.1 x hx).1) (.lists fun x hx => shL (h.2 x hx).1 (h.2 x hx).2.1)
theorem shN {n : Net} (h : NetOk n) : Shp 5 (eNet n) := .tup3 (.lists fun s hs => shSc (h.sc s hs)) (.mono (.lists fun t _ => shT t) (by decide)) (.mono (.lists fun q hq => shQ (h.qs q hq).ok) (by decide))

def plcs (ps : List (Nat × Nat)) : List Nat := ps.flatMap fun p => [p.1, p.2]
structure ScsAt (S : Sto) (n0 : Nat) (ps : List (Nat × Nat)) (ss : List Scope) : Prop where
  l : S[n0]? = some (.lst (ps.map scD))
  i : ScsIn S ps ss
  nd : (n0 :: plcs ps).Nodup
theorem ScsAt.app {S T : Sto} {n0 : Nat} {ps : List (Nat × Nat)} {ss : List Scope} (h : ScsAt S n0 ps ss) : ScsAt (S ++ T) n0 ps ss := ⟨sto_app h.l, h.i.sub fun _ _ => sto_app, h.nd⟩
theorem ScsAt.vw {S : Sto} {n0 : Nat} {ps : List (Nat × Nat)} {ss : List Scope} (h : ScsAt S n0 ps ss) : Vw S (.r n0) (.list (ss.map eScope)) := .r h.l h.i.vws
theorem ScsIn.len {S : Sto} : ∀ {ps : List (Nat × Nat)} {ss : List Scope}, ScsIn S ps ss → ps.length = ss.length
  | [], _, h => by cases h; rfl
  | p :: ps, _, h => by cases h with | cons a b => simp [ScsIn.len b]
theorem ScsIn.get {S : Sto} : ∀ {ps : List (Nat × Nat)} {ss : List Scope} {i : Nat} {p : Nat × Nat}, ScsIn S ps ss → ps[i]? = some p → ∃ s, ss[i]? = some s ∧ ScIn S p s
  | [], _, _, _, h, e => by simp at e
  | p :: ps, _, 0, _, h, e => by cases h with | cons a b => simp at e; subst e; exact ⟨_, rfl, a⟩
  | p :: ps, _, i + 1, q, h, e => by
    cases h with
    | cons a b =>
      obtain ⟨s, h1, h2⟩ := ScsIn.get (i := i) (p := q) b (by simpa using e)
      exact ⟨s, by simpa using h1, h2⟩
theorem ScsIn.keep {S : Sto} {n : Nat} {o : Ob} : ∀ {ps : List (Nat × Nat)} {ss : List Scope}, ScsIn S ps ss → n ∉ plcs ps → ScsIn (S.set n o) ps ss
  | [], _, h, _ => by cases h; exact .nil
  | p :: ps, _, h, hn => by
    cases h with
    | cons a b =>
      have h1 : n ≠ p.1 := fun e => hn (by simp [plcs, e])
      have h2 : n ≠ p.2 := fun e => hn (by simp [plcs, e])
      have h3 : n ∉ plcs ps := fun e => hn (by
        show n ∈ [p.1, p.2] ++ plcs ps
        exact List.mem_append_right _ e)
      exact .cons ⟨by rw [List.getElem?_set_ne h1]; exact a.a, by rw [List.getElem?_set_ne h2]; exact a.b⟩ (ScsIn.keep b h3)
theorem ScIn.lt1 {S : Sto} {p : Nat × Nat} {s : Scope} (h : ScIn S p s) : p.1 < S.length := (List.getElem?_eq_some_iff.mp h.a).1
theorem ScIn.lt2 {S : Sto} {p : Nat × Nat} {s : Scope} (h : ScIn S p s) : p.2 < S.length := (List.getElem?_eq_some_iff.mp h.b).1
theorem ScsIn.put1 {S : Sto} {xs : List Step} : ∀ {ps : List (Nat × Nat)} {ss : List Scope} {i : Nat} {p : Nat × Nat} {s : Scope}, ScsIn S ps ss → (plcs ps).Nodup → ps[i]? = some p → ss[i]? = some s → ScsIn (S.set p.1 (.lst (xs.map fun x => .z (eStep x)))) ps (ss.set i (xs, s.2))
  | [], _, _, _, _, h, _, e, _ => by simp at e
  | p :: ps, _, 0, q, s, h, nd, e, e2 => by
    cases h with
    | cons a b =>
      simp at e e2
      subst e; subst e2
      have nd2 : (p.1 :: p.2 :: plcs ps).Nodup := nd
      have h12 : p.1 ≠ p.2 := fun z => by rw [z] at nd2; simp at nd2
      have h3 : p.1 ∉ plcs ps := fun z => by
        have := List.nodup_cons.mp nd2
        exact this.1 (List.mem_cons_of_mem _ z)
      exact .cons ⟨by rw [List.getElem?_set_self a.lt1], by rw [List.getElem?_set_ne h12]; exact a.b⟩ (b.keep h3)
  | p :: ps, _, i + 1, q, s, h, nd, e, e2 => by
    cases h with
    | cons a b =>
      have nd2 : (p.1 :: p.2 :: plcs ps).Nodup := nd
      have hq : q ∈ ps := List.mem_of_getElem? (i := i) (by simpa using e)
      have hq1 : q.1 ∈ plcs ps := List.mem_flatMap.mpr ⟨q, hq, by simp⟩
      have h1 := (List.nodup_cons.mp nd2).1
      have h2 := (List.nodup_cons.mp (List.nodup_cons.mp nd2).2).1
      have n1 : q.1 ≠ p.1 := fun z => h1 (by rw [← z]; exact List.mem_cons_of_mem _ hq1)
      have n2 : q.1 ≠ p.2 := fun z => h2 (by rw [← z]; exact hq1)
      exact .cons ⟨by rw [List.getElem?_set_ne n1]; exact a.a, by rw [List.getElem?_set_ne n2]; exact a.b⟩ (ScsIn.put1 b (List.nodup_cons.mp (List.nodup_cons.mp nd2).2).2 (by simpa using e) (by simpa using e2))
theorem ScsIn.put2 {S : Sto} {xs : List Tell} : ∀ {ps : List (Nat × Nat)} {ss : List Scope} {i : Nat} {p : Nat × Nat} {s : Scope}, ScsIn S ps ss → (plcs ps).Nodup → ps[i]? = some p → ss[i]? = some s → ScsIn (S.set p.2 (.lst (xs.map fun x => .z (eTell x)))) ps (ss.set i (s.1, xs))
  | [], _, _, _, _, h, _, e, _ => by simp at e
  | p :: ps, _, 0, q, s, h, nd, e, e2 => by
    cases h with
    | cons a b =>
      simp at e e2
      subst e; subst e2
      have nd2 : (p.1 :: p.2 :: plcs ps).Nodup := nd
      have h12 : p.2 ≠ p.1 := fun z => by rw [z] at nd2; simp at nd2
      have h3 : p.2 ∉ plcs ps := (List.nodup_cons.mp (List.nodup_cons.mp nd2).2).1
      exact .cons ⟨by rw [List.getElem?_set_ne h12]; exact a.a, by rw [List.getElem?_set_self a.lt2]⟩ (b.keep h3)
  | p :: ps, _, i + 1, q, s, h, nd, e, e2 => by
    cases h with
    | cons a b =>
      have nd2 : (p.1 :: p.2 :: plcs ps).Nodup := nd
      have hq : q ∈ ps := List.mem_of_getElem? (i := i) (by simpa using e)
      have hq1 : q.2 ∈ plcs ps := List.mem_flatMap.mpr ⟨q, hq, by simp⟩
      have h1 := (List.nodup_cons.mp nd2).1
      have h2 := (List.nodup_cons.mp (List.nodup_cons.mp nd2).2).1
      have n1 : q.2 ≠ p.1 := fun z => h1 (by rw [← z]; exact List.mem_cons_of_mem _ hq1)
      have n2 : q.2 ≠ p.2 := fun z => h2 (by rw [← z]; exact hq1)
      exact .cons ⟨by rw [List.getElem?_set_ne n1]; exact a.a, by rw [List.getElem?_set_ne n2]; exact a.b⟩ (ScsIn.put2 b (List.nodup_cons.mp (List.nodup_cons.mp nd2).2).2 (by simpa using e) (by simpa using e2))
theorem mem_plcs {ps : List (Nat × Nat)} {p : Nat × Nat} (h : p ∈ ps) : p.1 ∈ plcs ps ∧ p.2 ∈ plcs ps := ⟨List.mem_flatMap.mpr ⟨p, h, by simp⟩, List.mem_flatMap.mpr ⟨p, h, by simp⟩⟩
theorem ScsAt.put1 {S : Sto} {n0 : Nat} {ps : List (Nat × Nat)} {ss : List Scope} {i : Nat} {p : Nat × Nat} {s : Scope} {xs : List Step} (h : ScsAt S n0 ps ss) (e : ps[i]? = some p) (e2 : ss[i]? = some s) : ScsAt (S.set p.1 (.lst (xs.map fun x => .z (eStep x)))) n0 ps (ss.set i (xs, s.2)) := by
  have hm := mem_plcs (List.mem_of_getElem? e)
  have nd := List.nodup_cons.mp h.nd
  exact ⟨by rw [List.getElem?_set_ne (fun z => nd.1 (by rw [← z]; exact hm.1))]; exact h.l, h.i.put1 nd.2 e e2, h.nd⟩
theorem ScsAt.put2 {S : Sto} {n0 : Nat} {ps : List (Nat × Nat)} {ss : List Scope} {i : Nat} {p : Nat × Nat} {s : Scope} {xs : List Tell} (h : ScsAt S n0 ps ss) (e : ps[i]? = some p) (e2 : ss[i]? = some s) : ScsAt (S.set p.2 (.lst (xs.map fun x => .z (eTell x)))) n0 ps (ss.set i (s.1, xs)) := by
  have hm := mem_plcs (List.mem_of_getElem? e)
  have nd := List.nodup_cons.mp h.nd
  exact ⟨by rw [List.getElem?_set_ne (fun z => nd.1 (by rw [← z]; exact hm.2))]; exact h.l, h.i.put2 nd.2 e e2, h.nd⟩
theorem ScsIn.lt {S : Sto} : ∀ {ps : List (Nat × Nat)} {ss : List Scope}, ScsIn S ps ss → ∀ m ∈ plcs ps, m < S.length
  | [], _, _, m, hm => by cases hm
  | p :: ps, _, h, m, hm => by
    cases h with
    | cons a b =>
      have hm : m ∈ p.1 :: p.2 :: plcs ps := hm
      rcases List.mem_cons.mp hm with rfl | hm
      · exact a.lt1
      · rcases List.mem_cons.mp hm with rfl | hm
        · exact a.lt2
        · exact b.lt m hm
theorem ScsAt.lt {S : Sto} {n0 : Nat} {ps : List (Nat × Nat)} {ss : List Scope} (h : ScsAt S n0 ps ss) : ∀ m ∈ n0 :: plcs ps, m < S.length := fun m hm => by
  rcases List.mem_cons.mp hm with rfl | hm
  · exact (List.getElem?_eq_some_iff.mp h.l).1
  · exact h.i.lt m hm
theorem emp_plcs (L n : Nat) : (∀ m ∈ plcs (emp L n), L ≤ m ∧ m < L + 2 * n) ∧ (plcs (emp L n)).Nodup := by
  induction n with
  | zero => exact ⟨fun m h => (by cases h), List.nodup_nil⟩
  | succ n ih =>
    have e : plcs (emp L (n + 1)) = plcs (emp L n) ++ [L + 2 * n, L + 2 * n + 1] := by
      unfold emp plcs
      rw [List.range_succ, List.map_append, List.flatMap_append]
      rfl
    rw [e]
    refine ⟨fun m hm => ?_, ?_⟩
    · rcases List.mem_append.mp hm with h | h
      · have := ih.1 m h; omega
      · simp at h; omega
    · rw [List.nodup_append]
      refine ⟨ih.2, by simp, fun a ha b hb => ?_⟩
      have := ih.1 a ha
      simp at hb; omega
theorem emp_len (L n : Nat) : (emp L n).length = n := by unfold emp; rw [List.length_map, List.length_range]
end ND

set_option Elab.async false
set_option linter.all false
set_option maxRecDepth 100000
namespace ND
open PySem L2 PL

def cps (ss : List Scope) : Sto := ss.flatMap fun s => [.lst (s.1.map fun x => .z (eStep x)), .lst (s.2.map fun x => .z (eTell x))]
theorem cps_app (a b : List Scope) : cps (a ++ b) = cps a ++ cps b := List.flatMap_append
theorem cps_len (ss : List Scope) : (cps ss).length = 2 * ss.length := by
  induction ss with
  | nil => rfl
  | cons s ss ih =>
    show ([_, _] ++ cps ss).length = _
    rw [List.length_append, ih, List.length_cons]
    simp; omega
theorem cps_get : ∀ {ss : List Scope} {i : Nat} {s : Scope}, ss[i]? = some s → (cps ss)[2 * i]? = some (.lst (s.1.map fun x => .z (eStep x))) ∧ (cps ss)[2 * i + 1]? = some (.lst (s.2.map fun x => .z (eTell x)))
  | [], _, _, h => by simp at h
  | t :: ss, 0, s, h => by simp at h; subst h; exact ⟨rfl, rfl⟩
  | t :: ss, i + 1, s, h => by
    have := cps_get (ss := ss) (i := i) (s := s) (by simpa using h)
    have e1 : 2 * (i + 1) = 2 * i + 2 := by omega
    rw [e1]
    exact this
theorem cps_in {S T : Sto} {L : Nat} (hL : S.length = L) (ss : List Scope) : ScsIn (S ++ (cps ss ++ T)) (emp L ss.length) ss := by
  have go : ∀ (done rest : List Scope), ss = done ++ rest → ScsIn (S ++ (cps ss ++ T)) (((List.range rest.length).map (· + done.length)).map fun k => (L + 2 * k, L + 2 * k + 1)) rest := by
    intro done rest
    induction rest generalizing done with
    | nil => intro _; exact .nil
    | cons s rest ih =>
      intro e
      have hs : ss[done.length]? = some s := by rw [e]; simp
      obtain ⟨g1, g2⟩ := cps_get hs
      have hlt : done.length < ss.length := (List.getElem?_eq_some_iff.mp hs).1
      have hc := cps_len ss
      have ih2 := ih (done ++ [s]) (by rw [e]; simp)
      have e2 : (List.range (s :: rest).length).map (· + done.length) = done.length :: (List.range rest.length).map (· + (done ++ [s]).length) := by
        rw [List.length_cons, List.range_succ_eq_map, List.map_cons, List.map_map]
        congr 1
        · omega
        · refine List.map_congr_left fun k _ => ?_
          simp; omega
      rw [e2, List.map_cons]
      refine .cons ⟨?_, ?_⟩ ih2
      · show (S ++ _)[L + 2 * done.length]? = _
        rw [List.getElem?_append_right (by omega), List.getElem?_append_left (by omega), ← hL, Nat.add_sub_cancel_left]; exact g1
      · show (S ++ _)[L + 2 * done.length + 1]? = _
        rw [List.getElem?_append_right (by omega), List.getElem?_append_left (by omega), ← hL]
        rw [show S.length + 2 * done.length + 1 - S.length = 2 * done.length + 1 by omega]; exact g2
  have := go [] ss rfl
  simpa [emp] using this
theorem wVar_at {i : Nat} {env : PL.Env} {S : Sto} {K : K1} {KX : KX} {d : D} (h : env[i]? = some (some d)) (k : K d S) : wVar i env S K KX := by
  unfold wVar; rw [h]; exact k
abbrev weCopy (a b : Nat) : WE := wTup (wCons (wCall pList (wCons (wVar a) wNil)) (wCons (wCall pList (wCons (wVar b) wNil)) wNil))
def SeenSc (S : Sto) (d : D) (s : Scope) : Prop := ∃ x y, tpD d = some [x, y] ∧ ∀ T, sqD (S ++ T) x = some (s.1.map fun x => .z (eStep x)) ∧ sqD (S ++ T) y = some (s.2.map fun x => .z (eTell x))
theorem ScIn.seen {S : Sto} {p : Nat × Nat} {s : Scope} (h : ScIn S p s) : SeenSc S (scD p) s := ⟨_, _, rfl, fun T => ⟨sqD_at (sto_app h.a), sqD_at (sto_app h.b)⟩⟩
theorem bzs_steps (s : List Step) : (s.map eStep).map bz = s.map fun x => .z (eStep x) := by rw [List.map_map]; rfl
theorem bzs_tells (s : List Tell) : (s.map eTell).map bz = s.map fun x => .z (eTell x) := by rw [List.map_map]; rfl
theorem bz_scope (s : Scope) : bz (eScope s) = .b (eScope s) := by
  unfold bz
  rw [if_neg]
  simp [eScope, flatT, flatTs]
theorem seen_b {S : Sto} (s : Scope) : SeenSc S (bz (eScope s)) s := by
  rw [bz_scope]
  refine ⟨.b (.list (s.1.map eStep)), .b (.list (s.2.map eTell)), ?_, fun T => ⟨?_, ?_⟩⟩
  · show some ([PyData.list _, PyData.list _].map bz) = _
    rw [List.map_cons, List.map_cons, bz_list, bz_list]; rfl
  · show some ((s.1.map eStep).map bz) = _
    rw [bzs_steps]
  · show some ((s.2.map eTell).map bz) = _
    rw [bzs_tells]
theorem pLc_copy {src : Src} {ss : List Scope} {a b : Nat} {env : PL.Env} {fin : Sto → Prop} {S : Sto} (hz : ss.length < 1000000) (hlen : src.items.length = ss.length) (hok : ∀ acc T, src.ok (S ++ (.lst acc :: T)))
    (hit : ∀ (i : Nat) (d : D) (s : Scope), src.items[i]? = some d → ss[i]? = some s → SeenSc S d s) (ha : ∀ x y, ((env.set a (some x)).set b (some y))[a]? = some (some x)) (hb : ∀ x y, ((env.set a (some x)).set b (some y))[b]? = some (some y))
    (hf : fin (S ++ .lst ((emp (S.length + 1) ss.length).map scD) :: cps ss)) : pLc src (tgT [a, b]) wYes (weCopy a b) S.length env fin src.items (S ++ [.lst []]) := by
  refine pLc_each (fun j S' => j ≤ ss.length ∧ S' = S ++ .lst ((emp (S.length + 1) j).map scD) :: cps (ss.take j)) ⟨Nat.zero_le _, rfl⟩ ?_ ?_ ?_
  · rintro j _ _ ⟨_, rfl⟩
    exact hok _ _
  · rintro j d _ Q hj ⟨_, rfl⟩ hQ
    have hlt : j < ss.length := by rw [← hlen]; exact (List.getElem?_eq_some_iff.mp hj).1
    have hs := List.getElem?_eq_getElem hlt
    obtain ⟨x, y, htp, hxy⟩ := hit j d _ hj hs
    have htl : (ss.take j).length = j := by rw [List.length_take]; omega
    have hcl := cps_len (ss.take j)
    rw [htl] at hcl
    generalize ss[j] = s at hs hxy
    refine pGet.mk (x := (env.set a (some x)).set b (some y)) (by unfold tgT; rw [htp]; rfl) ?_
    refine pIf.tt rfl ?_
    have e3 : (S ++ Ob.lst ((emp (S.length + 1) j).map scD) :: cps (ss.take j)).length = S.length + 1 + 2 * j := by rw [List.length_append, List.length_cons, hcl]; omega
    have hx := (hxy (Ob.lst ((emp (S.length + 1) j).map scD) :: cps (ss.take j))).1
    have hy := (hxy (Ob.lst ((emp (S.length + 1) j).map scD) :: (cps (ss.take j) ++ [.lst (s.1.map fun x => .z (eStep x))]))).2
    dsimp only [weCopy, wTup, wCons, wCall, wNil, pList]
    refine wVar_at (ha _ _) ?_
    refine pGet.mk hx ?_
    try dsimp only
    refine wVar_at (hb _ _) ?_
    rw [List.append_assoc]
    refine pGet.mk hy ?_
    refine pReq.mk (sz_le rfl) ?_
    refine pGet.mk (x := (emp (S.length + 1) j).map scD) ?_ (pReq.mk ?_ ?_)
    · rw [List.append_assoc]
      exact lsR_at (List.getElem?_append_right (Nat.le_refl _) |>.trans (by rw [Nat.sub_self]; rfl))
    · rw [List.length_map, emp_len]
      exact sz_lt6 (by omega)
    · refine hQ _ ⟨hlt, ?_⟩
      rw [List.append_assoc, List.set_append_right _ _ (Nat.le_refl _), Nat.sub_self]
      have e1 : emp (S.length + 1) (j + 1) = emp (S.length + 1) j ++ [(S.length + 1 + 2 * j, S.length + 1 + 2 * j + 1)] := by
        unfold emp; rw [range_snoc]
      have e2 : cps (ss.take (j + 1)) = cps (ss.take j) ++ [.lst (s.1.map fun x => .z (eStep x)), .lst (s.2.map fun x => .z (eTell x))] := by
        rw [List.take_add_one, hs, cps_app]; rfl
      rw [e1, e2, List.map_append]
      have e4 : (S ++ (Ob.lst ((emp (S.length + 1) j).map scD) :: cps (ss.take j) ++ [Ob.lst (s.1.map fun x => .z (eStep x))])).length = S.length + 1 + 2 * j + 1 := by
        rw [← List.append_assoc, List.length_append, e3]; rfl
      show S ++ (Ob.lst (_ ++ [D.t [.r _, .r _]]) :: _) = _
      rw [e3, e4]
      generalize cps (ss.take j) = C
      have e5 : ∀ A B : Ob, (C ++ [A]) ++ [B] = C ++ [A, B] := fun A B => by rw [List.append_assoc]; rfl
      exact congrArg (fun Z => S ++ Ob.lst _ :: Z) (e5 _ _)
  · rintro S' ⟨_, rfl⟩
    rw [hlen, List.take_length]
    exact hf
end ND

set_option Elab.async false
set_option linter.all false
set_option maxRecDepth 100000
namespace NE
open PySem L2 PL

structure XStep where
  lab : Str
  kind : Str
  num : Int
structure XTell where
  lab : Str
  name : Str
  kind : Str
  num : Int
structure XThing where
  kind : Str
  num : Int
structure XQuest where
  scope : Int
  state : Int
  path : List Str
abbrev XScope := List XStep × List XTell
structure XNet where
  scopes : List XScope
  things : List XThing
  quests : List XQuest
def eS (s : XStep) : PyData := .tuple [.str s.lab, .str s.kind, .int s.num]
def eL (s : XTell) : PyData := .tuple [.str s.lab, .str s.name, .str s.kind, .int s.num]
def eT (s : XThing) : PyData := .tuple [.str s.kind, .int s.num]
def eQ (q : XQuest) : PyData := .tuple [.int q.scope, .int q.state, .tuple (q.path.map .str)]
def eSc (s : XScope) : PyData := .tuple [.list (s.1.map eS), .list (s.2.map eL)]
def eN (n : XNet) : PyData := .tuple [.list (n.scopes.map eSc), .list (n.things.map eT), .list (n.quests.map eQ)]
theorem flat_strs : ∀ xs : List Str, flatTs (xs.map .str) = true
  | [] => rfl
  | x :: xs => by simp [flatTs, flatT, flat_strs xs]
theorem bzS (s : XStep) : bz (eS s) = .z (eS s) := rfl
theorem bzL (s : XTell) : bz (eL s) = .z (eL s) := rfl
theorem bzT (s : XThing) : bz (eT s) = .z (eT s) := rfl
theorem bzQ (q : XQuest) : bz (eQ q) = .z (eQ q) := bz_flat (by simp [eQ, flatT, flatTs, flat_strs])
theorem bzSc (s : XScope) : bz (eSc s) = .b (eSc s) := by
  unfold bz
  rw [if_neg]
  simp [eSc, flatT, flatTs]
abbrev zS (s : XStep) : D := .z (eS s)
abbrev zL (s : XTell) : D := .z (eL s)
abbrev zT (s : XThing) : D := .z (eT s)
abbrev zQ (s : XQuest) : D := .z (eQ s)
theorem bzsS (s : List XStep) : (s.map eS).map bz = s.map zS := by rw [List.map_map]; rfl
theorem bzsL (s : List XTell) : (s.map eL).map bz = s.map zL := by rw [List.map_map]; rfl
def scD (p : Nat × Nat) : D := .t [.r p.1, .r p.2]
def plcs (ps : List (Nat × Nat)) : List Nat := ps.flatMap fun p => [p.1, p.2]
structure ScIn (S : Sto) (p : Nat × Nat) (s : XScope) : Prop where
  a : S[p.1]? = some (.lst (s.1.map zS))
  b : S[p.2]? = some (.lst (s.2.map zL))
theorem ScIn.vw {S : Sto} {p : Nat × Nat} {s : XScope} (h : ScIn S p s) : Vw S (scD p) (eSc s) := .t (.cons (.r h.a (Vws.map _ _)) (.cons (.r h.b (Vws.map _ _)) .nil))
theorem ScIn.lt1 {S : Sto} {p : Nat × Nat} {s : XScope} (h : ScIn S p s) : p.1 < S.length := (List.getElem?_eq_some_iff.mp h.a).1
theorem ScIn.lt2 {S : Sto} {p : Nat × Nat} {s : XScope} (h : ScIn S p s) : p.2 < S.length := (List.getElem?_eq_some_iff.mp h.b).1
inductive ScsIn (S : Sto) : List (Nat × Nat) → List XScope → Prop
  | nil : ScsIn S [] []
  | cons {p : Nat × Nat} {s : XScope} {ps : List (Nat × Nat)} {ss : List XScope} : ScIn S p s → ScsIn S ps ss → ScsIn S (p :: ps) (s :: ss)
section
variable {S : Sto} {n : Nat} {o : Ob}
theorem ScsIn.vws : ∀ {ps : List (Nat × Nat)} {ss : List XScope}, ScsIn S ps ss → Vws S (ps.map scD) (ss.map eSc)
  | [], _, h => by cases h; exact .nil
  | p :: ps, _, h => by cases h with | cons a b => exact .cons a.vw b.vws
theorem ScsIn.len : ∀ {ps : List (Nat × Nat)} {ss : List XScope}, ScsIn S ps ss → ps.length = ss.length
  | [], _, h => by cases h; rfl
  | p :: ps, _, h => by cases h with | cons a b => simp [ScsIn.len b]
theorem ScsIn.get : ∀ {ps : List (Nat × Nat)} {ss : List XScope} {i : Nat} {p : Nat × Nat}, ScsIn S ps ss → ps[i]? = some p → ∃ s, ss[i]? = some s ∧ ScIn S p s
  | [], _, _, _, h, e => by simp at e
  | p :: ps, _, 0, _, h, e => by cases h with | cons a b => simp at e; subst e; exact ⟨_, rfl, a⟩
  | p :: ps, _, i + 1, q, h, e => by
    cases h with
    | cons a b =>
      obtain ⟨s, h1, h2⟩ := ScsIn.get (i := i) (p := q) b (by simpa using e)
      exact ⟨s, by simpa using h1, h2⟩
theorem ScsIn.at {ps : List (Nat × Nat)} {ss : List XScope} {i : Nat} (h : ScsIn S ps ss) (hi : i < ss.length) : ∃ p s, ps[i]? = some p ∧ ss[i]? = some s ∧ ScIn S p s := by
  have hp : ps[i]? = some (ps[i]'(by rw [h.len]; exact hi)) := List.getElem?_eq_getElem _
  obtain ⟨s, h1, h2⟩ := h.get hp
  exact ⟨_, s, hp, h1, h2⟩
theorem ScsIn.lt : ∀ {ps : List (Nat × Nat)} {ss : List XScope}, ScsIn S ps ss → ∀ m ∈ plcs ps, m < S.length
  | [], _, _, m, hm => by cases hm
  | p :: ps, _, h, m, hm => by
    cases h with
    | cons a b =>
      have hm : m ∈ p.1 :: p.2 :: plcs ps := hm
      rcases List.mem_cons.mp hm with rfl | hm
      · exact a.lt1
      · rcases List.mem_cons.mp hm with rfl | hm
        · exact a.lt2
        · exact b.lt m hm
theorem ScsIn.sub {S' : Sto} : ∀ {ps : List (Nat × Nat)} {ss : List XScope}, ScsIn S ps ss → (∀ m ∈ plcs ps, ∀ o, S[m]? = some o → S'[m]? = some o) → ScsIn S' ps ss
  | [], _, h, _ => by cases h; exact .nil
  | p :: ps, _, h, k => by
    cases h with
    | cons a b =>
      have hm : ∀ m ∈ plcs ps, m ∈ plcs (p :: ps) := fun m hm => List.mem_cons_of_mem _ (List.mem_cons_of_mem _ hm)
      exact .cons ⟨k _ List.mem_cons_self _ a.a, k _ (List.mem_cons_of_mem _ List.mem_cons_self) _ a.b⟩ (ScsIn.sub b fun m h => k m (hm m h))
theorem ScsIn.app {T : Sto} {ps : List (Nat × Nat)} {ss : List XScope} (h : ScsIn S ps ss) : ScsIn (S ++ T) ps ss := h.sub fun _ _ _ => sto_app
theorem ScsIn.keep {ps : List (Nat × Nat)} {ss : List XScope} (h : ScsIn S ps ss) (hn : n ∉ plcs ps) : ScsIn (S.set n o) ps ss := h.sub fun m hm o e => by
  rw [List.getElem?_set_ne (fun z : n = m => hn (by rw [z]; exact hm))]; exact e
theorem ScsIn.snoc : ∀ {ps : List (Nat × Nat)} {ss : List XScope} {p : Nat × Nat} {s : XScope}, ScsIn S ps ss → ScIn S p s → ScsIn S (ps ++ [p]) (ss ++ [s])
  | [], _, _, _, h, k => by cases h; exact .cons k .nil
  | p :: ps, _, _, _, h, k => by cases h with | cons a b => exact .cons a (ScsIn.snoc b k)
theorem mem_plcs {ps : List (Nat × Nat)} {p : Nat × Nat} (h : p ∈ ps) : p.1 ∈ plcs ps ∧ p.2 ∈ plcs ps := ⟨List.mem_flatMap.mpr ⟨p, h, by simp⟩, List.mem_flatMap.mpr ⟨p, h, by simp⟩⟩
theorem ScsIn.put1 {xs : List XStep} : ∀ {ps : List (Nat × Nat)} {ss : List XScope} {i : Nat} {p : Nat × Nat} {s : XScope}, ScsIn S ps ss → (plcs ps).Nodup → ps[i]? = some p → ss[i]? = some s → ScsIn (S.set p.1 (.lst (xs.map zS))) ps (ss.set i (xs, s.2))
  | [], _, _, _, _, h, _, e, _ => by simp at e
  | p :: ps, _, 0, q, s, h, nd, e, e2 => by
    cases h with
    | cons a b =>
      simp at e e2
      subst e; subst e2
      have nd2 : (p.1 :: p.2 :: plcs ps).Nodup := nd
      have h12 : p.1 ≠ p.2 := fun z => by rw [z] at nd2; simp at nd2
      have h3 : p.1 ∉ plcs ps := fun z => (List.nodup_cons.mp nd2).1 (List.mem_cons_of_mem _ z)
      exact .cons ⟨by rw [List.getElem?_set_self a.lt1], by rw [List.getElem?_set_ne h12]; exact a.b⟩ (b.keep h3)
  | p :: ps, _, i + 1, q, s, h, nd, e, e2 => by
    cases h with
    | cons a b =>
      have nd2 : (p.1 :: p.2 :: plcs ps).Nodup := nd
      have hq1 := (mem_plcs (List.mem_of_getElem? (i := i) (show ps[i]? = some q by simpa using e))).1
      have h1 := (List.nodup_cons.mp nd2).1
      have h2 := (List.nodup_cons.mp (List.nodup_cons.mp nd2).2).1
      have n1 : q.1 ≠ p.1 := fun z => h1 (by rw [← z]; exact List.mem_cons_of_mem _ hq1)
      have n2 : q.1 ≠ p.2 := fun z => h2 (by rw [← z]; exact hq1)
      exact .cons ⟨by rw [List.getElem?_set_ne n1]; exact a.a, by rw [List.getElem?_set_ne n2]; exact a.b⟩ (ScsIn.put1 b (List.nodup_cons.mp (List.nodup_cons.mp nd2).2).2 (by simpa using e) (by simpa using e2))
theorem ScsIn.put2 {xs : List XTell} : ∀ {ps : List (Nat × Nat)} {ss : List XScope} {i : Nat} {p : Nat × Nat} {s : XScope}, ScsIn S ps ss → (plcs ps).Nodup → ps[i]? = some p → ss[i]? = some s → ScsIn (S.set p.2 (.lst (xs.map zL))) ps (ss.set i (s.1, xs))
  | [], _, _, _, _, h, _, e, _ => by simp at e
  | p :: ps, _, 0, q, s, h, nd, e, e2 => by
    cases h with
    | cons a b =>
      simp at e e2
      subst e; subst e2
      have nd2 : (p.1 :: p.2 :: plcs ps).Nodup := nd
      have h12 : p.2 ≠ p.1 := fun z => by rw [z] at nd2; simp at nd2
      have h3 : p.2 ∉ plcs ps := (List.nodup_cons.mp (List.nodup_cons.mp nd2).2).1
      exact .cons ⟨by rw [List.getElem?_set_ne h12]; exact a.a, by rw [List.getElem?_set_self a.lt2]⟩ (b.keep h3)
  | p :: ps, _, i + 1, q, s, h, nd, e, e2 => by
    cases h with
    | cons a b =>
      have nd2 : (p.1 :: p.2 :: plcs ps).Nodup := nd
      have hq1 := (mem_plcs (List.mem_of_getElem? (i := i) (show ps[i]? = some q by simpa using e))).2
      have h1 := (List.nodup_cons.mp nd2).1
      have h2 := (List.nodup_cons.mp (List.nodup_cons.mp nd2).2).1
      have n1 : q.2 ≠ p.1 := fun z => h1 (by rw [← z]; exact List.mem_cons_of_mem _ hq1)
      have n2 : q.2 ≠ p.2 := fun z => h2 (by rw [← z]; exact hq1)
      exact .cons ⟨by rw [List.getElem?_set_ne n1]; exact a.a, by rw [List.getElem?_set_ne n2]; exact a.b⟩ (ScsIn.put2 b (List.nodup_cons.mp (List.nodup_cons.mp nd2).2).2 (by simpa using e) (by simpa using e2))
end
structure NetAt (S : Sto) (n0 n1 n2 : Nat) (ps : List (Nat × Nat)) (n : XNet) : Prop where
  l : S[n0]? = some (.lst (ps.map scD))
  i : ScsIn S ps n.scopes
  t : S[n1]? = some (.lst (n.things.map zT))
  q : S[n2]? = some (.lst (n.quests.map zQ))
  nd : (n0 :: n1 :: n2 :: plcs ps).Nodup
section
variable {S : Sto} {n0 n1 n2 : Nat} {ps : List (Nat × Nat)} {n : XNet}
abbrev nPl (n0 n1 n2 : Nat) (ps : List (Nat × Nat)) : List Nat := n0 :: n1 :: n2 :: plcs ps
theorem NetAt.vw (h : NetAt S n0 n1 n2 ps n) : Vw S (.t [.r n0, .r n1, .r n2]) (eN n) := .t (.cons (.r h.l h.i.vws) (.cons (.r h.t (Vws.map _ _)) (.cons (.r h.q (Vws.map _ _)) .nil)))
theorem NetAt.sub {S' : Sto} (h : NetAt S n0 n1 n2 ps n) (k : ∀ m ∈ nPl n0 n1 n2 ps, ∀ o, S[m]? = some o → S'[m]? = some o) : NetAt S' n0 n1 n2 ps n :=
  ⟨k _ (by simp) _ h.l, h.i.sub fun m hm => k m (by simp [hm]), k _ (by simp) _ h.t, k _ (by simp) _ h.q, h.nd⟩
theorem NetAt.app {T : Sto} (h : NetAt S n0 n1 n2 ps n) : NetAt (S ++ T) n0 n1 n2 ps n := h.sub fun _ _ _ => sto_app
theorem NetAt.keep {U : List Nat} {S' : Sto} (h : NetAt S n0 n1 n2 ps n) (k : Keep U S S') (d : ∀ m ∈ U, m ∉ nPl n0 n1 n2 ps) : NetAt S' n0 n1 n2 ps n := h.sub fun m hm o e => k m o (fun z => d m z hm) e
theorem NetAt.lt (h : NetAt S n0 n1 n2 ps n) : ∀ m ∈ nPl n0 n1 n2 ps, m < S.length := fun m hm => by
  rcases List.mem_cons.mp hm with rfl | hm
  · exact (List.getElem?_eq_some_iff.mp h.l).1
  rcases List.mem_cons.mp hm with rfl | hm
  · exact (List.getElem?_eq_some_iff.mp h.t).1
  rcases List.mem_cons.mp hm with rfl | hm
  · exact (List.getElem?_eq_some_iff.mp h.q).1
  · exact h.i.lt m hm
theorem NetAt.nds (h : NetAt S n0 n1 n2 ps n) : n0 ≠ n1 ∧ n0 ≠ n2 ∧ n1 ≠ n2 ∧ n0 ∉ plcs ps ∧ n1 ∉ plcs ps ∧ n2 ∉ plcs ps ∧ (plcs ps).Nodup := by
  have a := List.nodup_cons.mp h.nd
  have b := List.nodup_cons.mp a.2
  have c := List.nodup_cons.mp b.2
  refine ⟨fun z => a.1 (by simp [z]), fun z => a.1 (by simp [z]), fun z => b.1 (by simp [z]), fun z => a.1 (by simp [z]), fun z => b.1 (by simp [z]), c.1, c.2⟩
theorem NetAt.put1 {i : Nat} {p : Nat × Nat} {s : XScope} {xs : List XStep} (h : NetAt S n0 n1 n2 ps n) (e : ps[i]? = some p) (e2 : n.scopes[i]? = some s) : NetAt (S.set p.1 (.lst (xs.map zS))) n0 n1 n2 ps ⟨n.scopes.set i (xs, s.2), n.things, n.quests⟩ := by
  obtain ⟨_, _, _, a, b, c, d⟩ := h.nds
  have hm := (mem_plcs (List.mem_of_getElem? e)).1
  exact ⟨by rw [List.getElem?_set_ne (fun z => a (by rw [← z]; exact hm))]; exact h.l, h.i.put1 d e e2, by rw [List.getElem?_set_ne (fun z => b (by rw [← z]; exact hm))]; exact h.t, by rw [List.getElem?_set_ne (fun z => c (by rw [← z]; exact hm))]; exact h.q, h.nd⟩
theorem NetAt.put2 {i : Nat} {p : Nat × Nat} {s : XScope} {xs : List XTell} (h : NetAt S n0 n1 n2 ps n) (e : ps[i]? = some p) (e2 : n.scopes[i]? = some s) : NetAt (S.set p.2 (.lst (xs.map zL))) n0 n1 n2 ps ⟨n.scopes.set i (s.1, xs), n.things, n.quests⟩ := by
  obtain ⟨_, _, _, a, b, c, d⟩ := h.nds
  have hm := (mem_plcs (List.mem_of_getElem? e)).2
  exact ⟨by rw [List.getElem?_set_ne (fun z => a (by rw [← z]; exact hm))]; exact h.l, h.i.put2 d e e2, by rw [List.getElem?_set_ne (fun z => b (by rw [← z]; exact hm))]; exact h.t, by rw [List.getElem?_set_ne (fun z => c (by rw [← z]; exact hm))]; exact h.q, h.nd⟩
theorem NetAt.putT {xs : List XThing} (h : NetAt S n0 n1 n2 ps n) : NetAt (S.set n1 (.lst (xs.map zT))) n0 n1 n2 ps ⟨n.scopes, xs, n.quests⟩ := by
  obtain ⟨h01, h02, h12, a, b, c, d⟩ := h.nds
  exact ⟨by rw [List.getElem?_set_ne h01.symm]; exact h.l, h.i.keep b, by rw [List.getElem?_set_self (h.lt n1 (by simp))], by rw [List.getElem?_set_ne h12]; exact h.q, h.nd⟩
theorem NetAt.putQ {xs : List XQuest} (h : NetAt S n0 n1 n2 ps n) : NetAt (S.set n2 (.lst (xs.map zQ))) n0 n1 n2 ps ⟨n.scopes, n.things, xs⟩ := by
  obtain ⟨h01, h02, h12, a, b, c, d⟩ := h.nds
  exact ⟨by rw [List.getElem?_set_ne h02.symm]; exact h.l, h.i.keep c, by rw [List.getElem?_set_ne h12.symm]; exact h.t, by rw [List.getElem?_set_self (h.lt n2 (by simp))], h.nd⟩
theorem plcs_app (a b : List (Nat × Nat)) : plcs (a ++ b) = plcs a ++ plcs b := List.flatMap_append
theorem NetAt.more {s : XScope} {T : Sto} (h : NetAt S n0 n1 n2 ps n) : NetAt ((S ++ (.lst (s.1.map zS) :: .lst (s.2.map zL) :: T)).set n0 (.lst ((ps ++ [(S.length, S.length + 1)]).map scD))) n0 n1 n2 (ps ++ [(S.length, S.length + 1)]) ⟨n.scopes ++ [s], n.things, n.quests⟩ := by
  obtain ⟨h01, h02, h12, a, b, c, d⟩ := h.nds
  have hlt := h.lt
  have hn0 : n0 < S.length := hlt n0 (by simp)
  have g : ∀ (m : Nat) (o : Ob), m ≠ n0 → (S ++ (.lst (s.1.map zS) :: .lst (s.2.map zL) :: T))[m]? = some o → ((S ++ (.lst (s.1.map zS) :: .lst (s.2.map zL) :: T)).set n0 (.lst ((ps ++ [(S.length, S.length + 1)]).map scD)))[m]? = some o := fun m o hm e => by
    rw [List.getElem?_set_ne hm.symm]; exact e
  refine ⟨by rw [List.getElem?_set_self (by rw [List.length_append]; omega)], ScsIn.snoc (h.i.sub fun m hm o e => g m o (fun z => a (by rw [← z]; exact hm)) (sto_app e)) ⟨g _ _ (Nat.ne_of_gt hn0) (by simp), g _ _ (Nat.ne_of_gt (Nat.lt_succ_of_lt hn0)) sto_r1⟩, g _ _ h01.symm (sto_app h.t), g _ _ h02.symm (sto_app h.q), ?_⟩
  rw [plcs_app]
  have e : n0 :: n1 :: n2 :: (plcs ps ++ plcs [(S.length, S.length + 1)]) = (n0 :: n1 :: n2 :: plcs ps) ++ [S.length, S.length + 1] := rfl
  rw [e, List.nodup_append]
  refine ⟨h.nd, by simp, fun x hx y hy => ?_⟩
  have := hlt x hx
  simp at hy
  omega
end
end NE

set_option Elab.async false
set_option linter.all false
set_option maxRecDepth 100000
namespace NE
open PySem L2 PL
open ND (cutL_map cutL_len cutL_mem bz_ints LwN isNm alpha alpha_eq alpha_at getA ixD_zA ixD_bA app_list one_len)

def cps (ss : List XScope) : Sto := ss.flatMap fun s => [.lst (s.1.map zS), .lst (s.2.map zL)]
def emp (L n : Nat) : List (Nat × Nat) := (List.range n).map fun k => (L + 2 * k, L + 2 * k + 1)
def noSc : XScope := ([], [])
theorem emp_len (L n : Nat) : (emp L n).length = n := by unfold emp; rw [List.length_map, List.length_range]
theorem emp_snoc (L n : Nat) : emp L (n + 1) = emp L n ++ [(L + 2 * n, L + 2 * n + 1)] := by unfold emp; rw [range_snoc]
theorem cps_app (a b : List XScope) : cps (a ++ b) = cps a ++ cps b := List.flatMap_append
theorem cps_len (ss : List XScope) : (cps ss).length = 2 * ss.length := by
  induction ss with
  | nil => rfl
  | cons s ss ih =>
    show ([_, _] ++ cps ss).length = _
    rw [List.length_append, ih, List.length_cons]
    simp; omega
theorem cps_in {S T : Sto} {L : Nat} (hL : S.length = L) (ss : List XScope) : ScsIn (S ++ (cps ss ++ T)) (emp L ss.length) ss := by
  have go : ∀ (n : Nat) (ss : List XScope), ss.length = n → ∀ T, ScsIn (S ++ (cps ss ++ T)) (emp L ss.length) ss := by
    intro n
    induction n with
    | zero => intro ss h T; cases ss with | nil => exact .nil | cons _ _ => simp at h
    | succ n ih =>
      intro ss h T
      obtain ⟨ini, s, rfl⟩ : ∃ ini s, ss = ini ++ [s] := ⟨ss.dropLast, ss.getLast (by intro e; rw [e] at h; simp at h), (List.dropLast_concat_getLast _).symm⟩
      have hi : ini.length = n := by simp at h; exact h
      have hc := cps_len ini
      rw [List.length_append, List.length_singleton, emp_snoc, cps_app, List.append_assoc]
      refine (ih ini hi (cps [s] ++ T)).snoc ⟨?_, ?_⟩
      · show (S ++ _)[L + 2 * ini.length]? = _
        rw [List.getElem?_append_right (by omega), List.getElem?_append_right (by omega), show L + 2 * ini.length - S.length - (cps ini).length = 0 by omega]; rfl
      · show (S ++ _)[L + 2 * ini.length + 1]? = _
        rw [List.getElem?_append_right (by omega), List.getElem?_append_right (by omega), show L + 2 * ini.length + 1 - S.length - (cps ini).length = 1 by omega]; rfl
  exact go _ ss rfl T
theorem emp_plcs (L n : Nat) : (∀ m ∈ plcs (emp L n), L ≤ m ∧ m < L + 2 * n) ∧ (plcs (emp L n)).Nodup := by
  induction n with
  | zero => exact ⟨fun m h => (by cases h), List.nodup_nil⟩
  | succ n ih =>
    rw [emp_snoc, plcs_app]
    have e : plcs [(L + 2 * n, L + 2 * n + 1)] = [L + 2 * n, L + 2 * n + 1] := rfl
    rw [e]
    refine ⟨fun m hm => ?_, ?_⟩
    · rcases List.mem_append.mp hm with h | h
      · have := ih.1 m h; omega
      · simp at h; omega
    · rw [List.nodup_append]
      refine ⟨ih.2, by simp, fun a ha b hb => ?_⟩
      have := ih.1 a ha
      simp at hb; omega
abbrev weEmp : WE := wTup (wCons (wLst wNil) (wCons (wLst wNil) wNil))
theorem pLc_emp {lo : Int} {n : Nat} {i : Nat} {env : PL.Env} {fin : Sto → Prop} {S : Sto} (hz : n < 1000000) (hf : fin (S ++ .lst ((emp (S.length + 1) n).map scD) :: cps (List.replicate n noSc))) :
    pLc (rgD lo n) (tgN i) wYes weEmp S.length env fin (rgD lo n).items (S ++ [.lst []]) := by
  have hl : (rgD lo n).items.length = n := by simp [rgD]
  refine pLc_each (fun j S' => j ≤ n ∧ S' = S ++ .lst ((emp (S.length + 1) j).map scD) :: cps (List.replicate j noSc)) ⟨Nat.zero_le _, rfl⟩ (fun _ _ _ _ => trivial) ?_ ?_
  · rintro j d _ Q hj ⟨hj2, rfl⟩ hQ
    have hlt : j < n := by rw [← hl]; exact (List.getElem?_eq_some_iff.mp hj).1
    have hcl := cps_len (List.replicate j noSc)
    rw [List.length_replicate] at hcl
    refine pGet.mk rfl ?_
    refine pIf.tt rfl ?_
    refine pReq.mk (sz_le rfl) ?_
    refine pReq.mk (sz_le rfl) ?_
    refine pReq.mk (sz_le rfl) ?_
    refine pGet.mk (x := (emp (S.length + 1) j).map scD) ?_ (pReq.mk ?_ ?_)
    · rw [List.append_assoc, List.append_assoc]
      exact lsR_at (List.getElem?_append_right (Nat.le_refl _) |>.trans (by rw [Nat.sub_self]; rfl))
    · rw [List.length_map, emp_len]
      exact sz_lt6 (by omega)
    · refine hQ _ ⟨hlt, ?_⟩
      rw [List.append_assoc, List.append_assoc, List.set_append_right _ _ (Nat.le_refl _), Nat.sub_self]
      have e2 : cps (List.replicate (j + 1) noSc) = cps (List.replicate j noSc) ++ [.lst [], .lst []] := by
        rw [List.replicate_succ', cps_app]; rfl
      rw [emp_snoc, e2, List.map_append]
      have e3 : (S ++ Ob.lst ((emp (S.length + 1) j).map scD) :: cps (List.replicate j noSc)).length = S.length + 1 + 2 * j := by rw [List.length_append, List.length_cons, hcl]; omega
      have e4 : ((S ++ Ob.lst ((emp (S.length + 1) j).map scD) :: cps (List.replicate j noSc)) ++ [Ob.lst []]).length = S.length + 1 + 2 * j + 1 := by rw [List.length_append, e3]; rfl
      show S ++ (Ob.lst (_ ++ [D.t [.r _, .r _]]) :: _) = _
      rw [e3, e4]
      rfl
  · rintro S' ⟨_, rfl⟩
    rw [hl]
    exact hf
abbrev weCopy (a b : Nat) : WE := wTup (wCons (wCall pList (wCons (wVar a) wNil)) (wCons (wCall pList (wCons (wVar b) wNil)) wNil))
def SeenSc (S : Sto) (d : D) (s : XScope) : Prop := ∃ x y, tpD d = some [x, y] ∧ ∀ T, sqD (S ++ T) x = some (s.1.map zS) ∧ sqD (S ++ T) y = some (s.2.map zL)
theorem ScIn.seen {S : Sto} {p : Nat × Nat} {s : XScope} (h : ScIn S p s) : SeenSc S (scD p) s := ⟨_, _, rfl, fun T => ⟨sqD_at (sto_app h.a), sqD_at (sto_app h.b)⟩⟩
theorem seen_b {S : Sto} (s : XScope) : SeenSc S (bz (eSc s)) s := by
  rw [bzSc]
  refine ⟨.b (.list (s.1.map eS)), .b (.list (s.2.map eL)), ?_, fun T => ⟨?_, ?_⟩⟩
  · show some ([PyData.list _, PyData.list _].map bz) = _
    rw [List.map_cons, List.map_cons, bz_list, bz_list]; rfl
  · show some ((s.1.map eS).map bz) = _
    rw [bzsS]
  · show some ((s.2.map eL).map bz) = _
    rw [bzsL]
theorem wVar_at {i : Nat} {env : PL.Env} {S : Sto} {K : K1} {KX : KX} {d : D} (h : env[i]? = some (some d)) (k : K d S) : wVar i env S K KX := by
  unfold wVar; rw [h]; exact k
theorem pLc_copy {src : Src} {ss : List XScope} {a b : Nat} {env : PL.Env} {fin : Sto → Prop} {S : Sto} (hz : ss.length < 1000000) (hlen : src.items.length = ss.length) (hok : ∀ acc T, src.ok (S ++ (.lst acc :: T)))
    (hit : ∀ (i : Nat) (d : D) (s : XScope), src.items[i]? = some d → ss[i]? = some s → SeenSc S d s) (ha : ∀ x y, ((env.set a (some x)).set b (some y))[a]? = some (some x)) (hb : ∀ x y, ((env.set a (some x)).set b (some y))[b]? = some (some y))
    (hf : fin (S ++ .lst ((emp (S.length + 1) ss.length).map scD) :: cps ss)) : pLc src (tgT [a, b]) wYes (weCopy a b) S.length env fin src.items (S ++ [.lst []]) := by
  refine pLc_each (fun j S' => j ≤ ss.length ∧ S' = S ++ .lst ((emp (S.length + 1) j).map scD) :: cps (ss.take j)) ⟨Nat.zero_le _, rfl⟩ ?_ ?_ ?_
  · rintro j _ _ ⟨_, rfl⟩
    exact hok _ _
  · rintro j d _ Q hj ⟨_, rfl⟩ hQ
    have hlt : j < ss.length := by rw [← hlen]; exact (List.getElem?_eq_some_iff.mp hj).1
    have hs := List.getElem?_eq_getElem hlt
    obtain ⟨x, y, htp, hxy⟩ := hit j d _ hj hs
    have htl : (ss.take j).length = j := by rw [List.length_take]; omega
    have hcl := cps_len (ss.take j)
    rw [htl] at hcl
    generalize ss[j] = s at hs hxy
    refine pGet.mk (x := (env.set a (some x)).set b (some y)) (by unfold tgT; rw [htp]; rfl) ?_
    refine pIf.tt rfl ?_
    have e3 : (S ++ Ob.lst ((emp (S.length + 1) j).map scD) :: cps (ss.take j)).length = S.length + 1 + 2 * j := by rw [List.length_append, List.length_cons, hcl]; omega
    have hx := (hxy (Ob.lst ((emp (S.length + 1) j).map scD) :: cps (ss.take j))).1
    have hy := (hxy (Ob.lst ((emp (S.length + 1) j).map scD) :: (cps (ss.take j) ++ [.lst (s.1.map zS)]))).2
    dsimp only [weCopy, wTup, wCons, wCall, wNil, pList]
    refine wVar_at (ha _ _) ?_
    refine pGet.mk hx ?_
    try dsimp only
    refine wVar_at (hb _ _) ?_
    rw [List.append_assoc]
    refine pGet.mk hy ?_
    refine pReq.mk (sz_le rfl) ?_
    refine pGet.mk (x := (emp (S.length + 1) j).map scD) ?_ (pReq.mk ?_ ?_)
    · rw [List.append_assoc]
      exact lsR_at (List.getElem?_append_right (Nat.le_refl _) |>.trans (by rw [Nat.sub_self]; rfl))
    · rw [List.length_map, emp_len]
      exact sz_lt6 (by omega)
    · refine hQ _ ⟨hlt, ?_⟩
      rw [List.append_assoc, List.set_append_right _ _ (Nat.le_refl _), Nat.sub_self]
      have e2 : cps (ss.take (j + 1)) = cps (ss.take j) ++ [.lst (s.1.map zS), .lst (s.2.map zL)] := by
        rw [List.take_add_one, hs, cps_app]; rfl
      rw [emp_snoc, e2, List.map_append]
      have e4 : (S ++ (Ob.lst ((emp (S.length + 1) j).map scD) :: cps (ss.take j) ++ [Ob.lst (s.1.map zS)])).length = S.length + 1 + 2 * j + 1 := by
        rw [← List.append_assoc, List.length_append, e3]; rfl
      show S ++ (Ob.lst (_ ++ [D.t [.r _, .r _]]) :: _) = _
      rw [e3, e4]
      generalize cps (ss.take j) = C
      have e5 : ∀ A B : Ob, (C ++ [A]) ++ [B] = C ++ [A, B] := fun A B => by rw [List.append_assoc]; rfl
      exact congrArg (fun Z => S ++ Ob.lst _ :: Z) (e5 _ _)
  · rintro S' ⟨_, rfl⟩
    rw [hlen, List.take_length]
    exact hf
def rSc (s : XScope) : RT := .t [lz eS s.1, lz eL s.2]
def rN (n : XNet) : RT := .t [.l (n.scopes.map rSc), lz eT n.things, lz eQ n.quests]
theorem al_sc (s : XScope) (n : Nat) : al (rSc s) n = (scD (n, n + 1), [.lst (s.1.map zS), .lst (s.2.map zL)]) := by
  unfold rSc al
  simp only [als, al_lz]
  rfl
theorem als_scs : ∀ (ss : List XScope) (n : Nat), als (ss.map rSc) n = ((emp n ss.length).map scD, cps ss)
  | [], n => by unfold als; rfl
  | s :: ss, n => by
    rw [List.map_cons]
    unfold als
    rw [al_sc, als_scs ss]
    have e : emp n (s :: ss).length = (n, n + 1) :: emp (n + 2) ss.length := by
      unfold emp
      rw [List.length_cons, List.range_succ_eq_map, List.map_cons, List.map_map]
      congr 1
      refine List.map_congr_left fun k _ => ?_
      simp; omega
    rw [e]
    rfl
theorem VRs.scs {S : Sto} {U : List Nat} : ∀ {ps : List (Nat × Nat)} {ss : List XScope}, ScsIn S ps ss → VRs S U (ps.map scD) (ss.map rSc) (plcs ps)
  | [], _, h => by cases h; exact .nil
  | p :: ps, _, h => by
    cases h with
    | cons a b =>
      refine .cons (ns := [p.1, p.2]) (.t ?_) (VRs.scs b)
      exact .cons (ns := [p.1]) (.l (ns := []) a.a (VRs.zs _ _)) (.cons (ns := [p.2]) (ms := []) (.l (ns := []) a.b (VRs.zs _ _)) .nil)
theorem NetAt.vr {S : Sto} {n0 n1 n2 : Nat} {ps : List (Nat × Nat)} {n : XNet} (h : NetAt S n0 n1 n2 ps n) : ∃ U, VR S U (.t [.r n0, .r n1, .r n2]) (rN n) U ∧ U.Nodup := by
  refine ⟨(plcs ps ++ [n0]) ++ ([n1] ++ ([n2] ++ [])), .t (.cons (.l h.l (VRs.scs h.i)) (.cons (.l (ns := []) h.t (VRs.zs _ _)) (.cons (.l (ns := []) h.q (VRs.zs _ _)) .nil))), ?_⟩
  have := h.nd
  have e : (n0 :: n1 :: n2 :: plcs ps) = [n0, n1, n2] ++ plcs ps := rfl
  rw [e] at this
  have p : ((plcs ps ++ [n0]) ++ ([n1] ++ ([n2] ++ []))).Perm ([n0, n1, n2] ++ plcs ps) := by
    rw [List.append_assoc]
    exact List.perm_append_comm
  exact p.nodup_iff.mpr this
def strOks (n : XNet) : Prop := (∀ s ∈ n.scopes, (∀ x ∈ s.1, PyData.strOk x.lab = true ∧ PyData.strOk x.kind = true) ∧ ∀ x ∈ s.2, PyData.strOk x.lab = true ∧ PyData.strOk x.name = true ∧ PyData.strOk x.kind = true) ∧ (∀ t ∈ n.things, PyData.strOk t.kind = true) ∧ ∀ q ∈ n.quests, ∀ x ∈ q.path, PyData.strOk x = true
theorem shSc {s : XScope} (h : (∀ x ∈ s.1, PyData.strOk x.lab = true ∧ PyData.strOk x.kind = true) ∧ ∀ x ∈ s.2, PyData.strOk x.lab = true ∧ PyData.strOk x.name = true ∧ PyData.strOk x.kind = true) : Shp 3 (eSc s) :=
  .tup2 (.lists fun x hx => .tup3 (.str (h.1 x hx).1) (.str (h.1 x hx).2) .int) (.lists fun x hx => .tup4 (.str (h.2 x hx).1) (.str (h.2 x hx).2.1) (.str (h.2 x hx).2.2) .int)
theorem shN {n : XNet} (h : strOks n) : Shp 5 (eN n) := .tup3 (.lists fun s hs => shSc (h.1 s hs)) (.mono (.lists fun t ht => .tup2 (n := 0) (.str (h.2.1 t ht)) .int) (by decide))
  (.mono (.lists fun q hq => .tup3 (n := 1) .int .int (.tuple fun d hd => by
    obtain ⟨x, hx, rfl⟩ := List.mem_map.mp hd
    exact .str (h.2.2 q hq x hx))) (by decide))
end NE

set_option Elab.async false
set_option linter.all false
set_option maxRecDepth 100000
namespace PL
open PySem L2
mutual
theorem Vz.of_z {S' : Sto} : ∀ (e : PyData) (d : D), Vz [] d e → Vz S' d e
  | .none, _, h => by cases h; exact .z
  | .bool _, _, h => by cases h; exact .z
  | .int _, _, h => by cases h; exact .z
  | .str _, _, h => by cases h; exact .z
  | .dict _, _, h => by cases h; exact .z
  | .list es, _, h => by
    cases h with
    | z => exact .z
    | r e ws => simp at e
  | .tuple es, _, h => by
    cases h with
    | z => exact .z
    | t ws => exact .t (Vzs.of_z0 es _ ws)
theorem Vzs.of_z0 {S' : Sto} : ∀ (es : List PyData) (ds : List D), Vzs [] ds es → Vzs S' ds es
  | [], _, h => by cases h; exact .nil
  | e :: es, _, h => by cases h with | cons a b => exact .cons (Vz.of_z e _ a) (Vzs.of_z0 es _ b)
end
theorem Vzs.of_z {S' : Sto} {es : List PyData} {ds : List D} (h : Vzs [] ds es) : Vzs S' ds es := Vzs.of_z0 es ds h
end PL
namespace NE
open PySem L2 PL
theorem NetAt.all {S S' : Sto} {a b c : Nat} {ps : List (Nat × Nat)} {n : XNet} (h : NetAt S a b c ps n) (k : Keep [] S S') : NetAt S' a b c ps n := h.keep k fun m hm => by cases hm
theorem copied (n : XNet) {K : K1} (hk : ∀ d S' U, VR S' U d (rN n) U → U.Nodup → K d S') : K (.t [.r 0, .r (List.length (Ob.lst ((emp 1 n.scopes.length).map scD) :: cps n.scopes)), .r (List.length (Ob.lst ((emp 1 n.scopes.length).map scD) :: cps n.scopes ++ [Ob.lst (n.things.map zT)]))]) (Ob.lst ((emp 1 n.scopes.length).map scD) :: cps n.scopes ++ [Ob.lst (n.things.map zT)] ++ [Ob.lst (n.quests.map zQ)]) := by
  have h3 := cps_len n.scopes
  have hp := emp_plcs 1 n.scopes.length
  have hA : NetAt ([Ob.lst ((emp 1 n.scopes.length).map scD)] ++ cps n.scopes ++ [Ob.lst (n.things.map zT)] ++ [Ob.lst (n.quests.map zQ)]) 0 (1 + 2 * n.scopes.length) (1 + 2 * n.scopes.length + 1) (emp 1 n.scopes.length) n := by
    have hl : ([Ob.lst ((emp 1 n.scopes.length).map scD)] ++ cps n.scopes).length = 1 + 2 * n.scopes.length := by simp [h3]; omega
    have h1 : ∀ m, 1 + 2 * n.scopes.length ≤ m → m ∉ plcs (emp 1 n.scopes.length) := fun m hm z => by have := hp.1 m z; omega
    refine ⟨rfl, ?_, ?_, ?_, ?_⟩
    · have := cps_in (S := [Ob.lst ((emp 1 n.scopes.length).map scD)]) (T := [Ob.lst (n.things.map zT), Ob.lst (n.quests.map zQ)]) (L := 1) rfl n.scopes
      rw [← List.append_assoc] at this
      rw [List.append_assoc]
      exact this
    · rw [← hl]; exact sto_app sto_last
    · rw [← hl, List.append_assoc]; exact sto_r1
    · refine List.nodup_cons.mpr ⟨?_, List.nodup_cons.mpr ⟨?_, List.nodup_cons.mpr ⟨h1 _ (by omega), hp.2⟩⟩⟩
      · simp only [List.mem_cons, not_or]
        exact ⟨by omega, by omega, fun z => by have := hp.1 0 z; omega⟩
      · simp only [List.mem_cons, not_or]
        exact ⟨by omega, h1 _ (by omega)⟩
  obtain ⟨U, hv, hu⟩ := hA.vr
  have e1 : (Ob.lst ((emp 1 n.scopes.length).map scD) :: cps n.scopes).length = 1 + 2 * n.scopes.length := by rw [List.length_cons, h3]; omega
  have e2 : (Ob.lst ((emp 1 n.scopes.length).map scD) :: cps n.scopes ++ [Ob.lst (n.things.map zT)]).length = 1 + 2 * n.scopes.length + 1 := by rw [List.length_append, e1]; rfl
  rw [e1, e2]
  exact hk _ _ U hv hu
end NE

set_option Elab.async false
set_option linter.all false
set_option maxRecDepth 100000
namespace OR
open PySem

abbrev Pr := Str × Str
inductive Reach (ps : List Pr) : Str → Str → Prop
  | one {a b : Str} : (a, b) ∈ ps → Reach ps a b
  | step {a b c : Str} : Reach ps a b → (b, c) ∈ ps → Reach ps a c
section
variable {ps : List Pr}
theorem Reach.trans {a b c : Str} (h : Reach ps a b) (k : Reach ps b c) : Reach ps a c := by
  induction k with
  | one h1 => exact .step h h1
  | step _ h2 ih => exact .step ih h2
theorem Reach.head {a b c : Str} (h : (a, b) ∈ ps) (k : Reach ps b c) : Reach ps a c := (Reach.one h).trans k
theorem Reach.fst {a b : Str} (h : Reach ps a b) : ∃ c, (a, c) ∈ ps := by
  induction h with
  | one h => exact ⟨_, h⟩
  | step _ _ ih => exact ih
theorem Reach.snd {a b : Str} (h : Reach ps a b) : ∃ c, (c, b) ∈ ps := by
  cases h with
  | one h => exact ⟨_, h⟩
  | step _ h => exact ⟨_, h⟩
def addN (f : List Str) (w : Str) : List Str := if w ∈ f then f else f ++ [w]
def nextsL (ps : List Pr) (l : Str) : List Str := ps.foldl (fun f p => if p.1 = l then addN f p.2 else f) []
theorem nexts_snoc (ps : List Pr) (p : Pr) (l : Str) : nextsL (ps ++ [p]) l = if p.1 = l then addN (nextsL ps l) p.2 else nextsL ps l := by
  unfold nextsL
  rw [List.foldl_append]; rfl
theorem addN_mem {f : List Str} {w x : Str} : x ∈ addN f w ↔ x ∈ f ∨ x = w := by
  unfold addN
  split
  · rename_i h
    exact ⟨.inl, fun z => z.elim id fun e => e ▸ h⟩
  · simp
theorem addN_nodup {f : List Str} {w : Str} (h : f.Nodup) : (addN f w).Nodup := by
  unfold addN
  split
  · exact h
  · rename_i hn
    exact List.nodup_append.mpr ⟨h, by simp, fun x hx y hy e => hn (by rw [← List.mem_singleton.mp hy, ← e]; exact hx)⟩
theorem addN_len (f : List Str) (w : Str) : (addN f w).length ≤ f.length + 1 := by
  unfold addN
  split
  · exact Nat.le_succ _
  · simp
theorem nexts_ok (l : Str) : ∀ (n : Nat) (ps : List Pr), ps.length = n → (∀ w, w ∈ nextsL ps l ↔ (l, w) ∈ ps) ∧ (nextsL ps l).Nodup ∧ (nextsL ps l).length ≤ ps.length := by
  intro n
  induction n with
  | zero =>
    intro ps h
    obtain rfl := List.length_eq_zero_iff.mp h
    exact ⟨fun w => by simp [nextsL], by simp [nextsL], by simp [nextsL]⟩
  | succ n ih =>
    intro ps h
    obtain ⟨qs, p, rfl⟩ : ∃ qs p, ps = qs ++ [p] := ⟨ps.dropLast, ps.getLast (by intro e; rw [e] at h; simp at h), (List.dropLast_concat_getLast _).symm⟩
    obtain ⟨h1, h2, h3⟩ := ih qs (by simp at h; exact h)
    rw [nexts_snoc]
    split
    · rename_i e
      refine ⟨fun w => ?_, addN_nodup h2, ?_⟩
      · rw [addN_mem, h1, List.mem_append, List.mem_singleton]
        constructor
        · rintro (z | z)
          · exact .inl z
          · right; rw [z, ← e]
        · rintro (z | z)
          · exact .inl z
          · right; rw [← z]
      · have := addN_len (nextsL qs l) p.2
        simp; omega
    · rename_i e
      refine ⟨fun w => ?_, h2, by simp; omega⟩
      rw [h1, List.mem_append, List.mem_singleton]
      exact ⟨.inl, fun z => z.elim id fun z => absurd (by rw [← z]) e⟩
theorem nexts_mem {l w : Str} : w ∈ nextsL ps l ↔ (l, w) ∈ ps := (nexts_ok l _ ps rfl).1 w
theorem nexts_len (l : Str) : (nextsL ps l).length ≤ ps.length := (nexts_ok l _ ps rfl).2.2
theorem nodup_le {α : Type} [DecidableEq α] : ∀ {a b : List α}, a.Nodup → (∀ x ∈ a, x ∈ b) → a.length ≤ b.length
  | [], _, _, _ => Nat.zero_le _
  | x :: a, b, nd, h => by
    have hx := h x List.mem_cons_self
    have := nodup_le (a := a) (b := b.erase x) (List.nodup_cons.mp nd).2 fun y hy => by
      have : y ≠ x := fun e => (List.nodup_cons.mp nd).1 (e ▸ hy)
      exact (List.mem_erase_of_ne this).mpr (h y (List.mem_cons_of_mem _ hy))
    rw [List.length_erase_of_mem hx] at this
    have hp := List.length_pos_of_mem hx
    simp; omega
structure DInv (ps : List Pr) (l : Str) (ks ws : List Str) : Prop where
  nd : ks.Nodup
  re : ∀ k ∈ ks, Reach ps l k
  wk : ∀ w ∈ ws, w = l ∨ w ∈ ks
  cl : ∀ x, (x = l ∨ x ∈ ks) → x ∉ ws → ∀ y, (x, y) ∈ ps → y ∈ ks
def meas (ps : List Pr) (ks ws : List Str) : Nat := 2 * (ps.length - ks.length) + ws.length
theorem DInv.start (l : Str) : DInv ps l [] [l] := ⟨List.nodup_nil, fun _ h => (by cases h), fun w h => .inl (List.mem_singleton.mp h), fun x hx hn => by
  rcases hx with rfl | h
  · exact absurd List.mem_cons_self hn
  · cases h⟩
theorem reach_len {l : Str} {ks : List Str} (nd : ks.Nodup) (re : ∀ k ∈ ks, Reach ps l k) : ks.length ≤ ps.length := by
  have := nodup_le (b := ps.map (·.2)) nd fun k hk => by
    obtain ⟨c, hc⟩ := (re k hk).snd
    exact List.mem_map.mpr ⟨_, hc, rfl⟩
  rwa [List.length_map] at this
theorem DInv.len {l : Str} {ks ws : List Str} (h : DInv ps l ks ws) : ks.length ≤ ps.length := reach_len h.nd h.re
structure DIn (ps : List Pr) (l here : Str) (ks ws0 : List Str) (i : Nat) (ks' ws' : List Str) : Prop where
  nd : ks'.Nodup
  re : ∀ k ∈ ks', Reach ps l k
  wk : ∀ w ∈ ws', w = l ∨ w ∈ ks'
  up : ∀ k ∈ ks, k ∈ ks'
  ne : ∀ k ∈ (nextsL ps here).take i, k ∈ ks'
  wu : ∀ w ∈ ws0, w ∈ ws'
  nw : ∀ k ∈ ks', k ∉ ks → k ∈ ws'
  ms : meas ps ks' ws' ≤ meas ps ks ws0
theorem DInv.pop {l here : Str} {ks ws0 : List Str} (h : DInv ps l ks (ws0 ++ [here])) : DIn ps l here ks ws0 0 ks ws0 :=
  ⟨h.nd, h.re, fun w hw => h.wk w (List.mem_append_left _ hw), fun _ h => h, fun k hk => (by simp at hk), fun _ h => h, fun k h1 h2 => absurd h1 h2, Nat.le_refl _⟩
theorem DIn.old {l here : Str} {ks ws0 ks' ws' : List Str} {i : Nat} {w : Str} (h : DIn ps l here ks ws0 i ks' ws') (hw : (nextsL ps here)[i]? = some w) (hk : w ∈ ks') : DIn ps l here ks ws0 (i + 1) ks' ws' :=
  ⟨h.nd, h.re, h.wk, h.up, fun k hk2 => by
    rw [List.take_add_one, hw] at hk2
    rcases List.mem_append.mp hk2 with z | z
    · exact h.ne k z
    · simp at z; rw [z]; exact hk, h.wu, h.nw, h.ms⟩
theorem DIn.new {l here : Str} {ks ws0 ks' ws' : List Str} {i : Nat} {w : Str} (h : DIn ps l here ks ws0 i ks' ws') (hh : here = l ∨ here ∈ ks) (hw : (nextsL ps here)[i]? = some w) (hk : w ∉ ks') : DIn ps l here ks ws0 (i + 1) (ks' ++ [w]) (ws' ++ [w]) := by
  have hp : (here, w) ∈ ps := nexts_mem.mp (List.mem_of_getElem? hw)
  have hr : Reach ps l w := by
    rcases hh with rfl | hh
    · exact .one hp
    · exact .step (h.re _ (h.up _ hh)) hp
  have nd2 : (ks' ++ [w]).Nodup := List.nodup_append.mpr ⟨h.nd, by simp, fun x hx y hy e => hk (by rw [← List.mem_singleton.mp hy, ← e]; exact hx)⟩
  have re2 : ∀ k ∈ ks' ++ [w], Reach ps l k := fun k hk2 => by
    rcases List.mem_append.mp hk2 with z | z
    · exact h.re k z
    · rw [List.mem_singleton.mp z]; exact hr
  refine ⟨nd2, re2, fun v hv => ?_, fun k hk2 => List.mem_append_left _ (h.up k hk2), fun k hk2 => ?_, fun v hv => List.mem_append_left _ (h.wu v hv), fun k h1 h2 => ?_, ?_⟩
  · rcases List.mem_append.mp hv with z | z
    · exact (h.wk v z).imp id fun z => List.mem_append_left _ z
    · exact .inr (List.mem_append_right _ z)
  · rw [List.take_add_one, hw] at hk2
    rcases List.mem_append.mp hk2 with z | z
    · exact List.mem_append_left _ (h.ne k z)
    · simp at z; rw [z]; simp
  · rcases List.mem_append.mp h1 with z | z
    · exact List.mem_append_left _ (h.nw k z h2)
    · exact List.mem_append_right _ z
  · have h1 := reach_len nd2 re2
    have h2 := h.ms
    unfold meas at *
    rw [List.length_append, List.length_append] at *
    simp at *
    omega
theorem DIn.done {l here : Str} {ks ws0 ks' ws' : List Str} (h : DIn ps l here ks ws0 (nextsL ps here).length ks' ws') (h0 : DInv ps l ks (ws0 ++ [here])) : DInv ps l ks' ws' ∧ meas ps ks' ws' < meas ps ks (ws0 ++ [here]) := by
  refine ⟨⟨h.nd, h.re, h.wk, fun x hx hn y hy => ?_⟩, ?_⟩
  · by_cases e : x = here
    · subst e
      exact h.ne y (by rw [List.take_length]; exact nexts_mem.mpr hy)
    · have hx' : x = l ∨ x ∈ ks := by
        rcases hx with z | z
        · exact .inl z
        · by_cases hk : x ∈ ks
          · exact .inr hk
          · exact absurd (h.nw x z hk) hn
      refine h.up y (h0.cl x hx' (fun z => ?_) y hy)
      rcases List.mem_append.mp z with z | z
      · exact hn (h.wu x z)
      · exact e (List.mem_singleton.mp z)
  · have := h.ms
    unfold meas at *
    simp; omega
theorem DInv.fin {l : Str} {ks : List Str} (h : DInv ps l ks []) (w : Str) : w ∈ ks ↔ Reach ps l w := by
  refine ⟨h.re w, fun hr => ?_⟩
  induction hr with
  | one hp => exact h.cl l (.inl rfl) (by simp) _ hp
  | step _ hp ih => exact h.cl _ (.inr ih) (by simp) _ hp
end
end OR

set_option Elab.async false
set_option linter.all false
set_option maxRecDepth 100000
namespace OR
open PySem
section
variable {ps : List Pr} {one other : Str}
def lastOf (a : Str) (t : List Str) : Str := (a :: t).getLast (by simp)
theorem last_snoc (a b : Str) (t : List Str) : lastOf a (t ++ [b]) = b := by
  show ((a :: t) ++ [b]).getLast (by simp) = b
  first | exact List.getLast_concat .. | exact List.getLast_append_singleton .. | simp
def Walk (ps : List Pr) (a : Str) (t : List Str) : Prop := ∀ (i : Nat) (x y : Str), (a :: t)[i]? = some x → (a :: t)[i + 1]? = some y → (x, y) ∈ ps
theorem Walk.nil (a : Str) : Walk ps a [] := fun i x y h1 h2 => by simp at h2
theorem last_at (a : Str) (t : List Str) : (a :: t)[t.length]? = some (lastOf a t) := by
  unfold lastOf
  rw [List.getLast_eq_getElem, List.getElem?_eq_getElem (by simp)]
  simp
theorem Walk.snoc {a b : Str} {t : List Str} (h : Walk ps a t) (hb : (lastOf a t, b) ∈ ps) : Walk ps a (t ++ [b]) := by
  intro i x y h1 h2
  rw [show a :: (t ++ [b]) = (a :: t) ++ [b] from rfl] at h1 h2
  have hi : i + 1 < ((a :: t) ++ [b]).length := (List.getElem?_eq_some_iff.mp h2).1
  have hi : i + 1 < t.length + 2 := by simpa using hi
  rw [List.getElem?_append_left (by simp; omega)] at h1
  by_cases e : i = t.length
  · subst e
    rw [last_at] at h1
    rw [List.getElem?_append_right (by simp)] at h2
    simp at h2
    cases h1
    rw [← h2]; exact hb
  · rw [List.getElem?_append_left (by simp; omega)] at h2
    exact h i x y h1 h2
def Exp (ps : List Pr) (other : Str) (ks : List Str) (x : Str) : Prop := ∀ y, (x, y) ∈ ps → y ∈ ks ∧ y ≠ other
theorem Exp.up {ks ks' : List Str} {x : Str} (h : Exp ps other ks x) (u : ∀ k ∈ ks, k ∈ ks') : Exp ps other ks' x := fun y hy => ⟨u y (h y hy).1, (h y hy).2⟩
structure Wy (ps : List Pr) (one other : Str) (ks : List Str) (w t : List Str) : Prop where
  e : w = one :: t
  wk : Walk ps one t
  nd : t.Nodup
  ks : ∀ x ∈ t, x ∈ ks
  no : other ∉ t
  rg : one ∈ t → lastOf one t = one
theorem Wy.up {ks ks' w t : List Str} (h : Wy ps one other ks w t) (u : ∀ k ∈ ks, k ∈ ks') : Wy ps one other ks' w t := ⟨h.e, h.wk, h.nd, fun x hx => u x (h.ks x hx), h.no, h.rg⟩
structure BInv (ps : List Pr) (one other : Str) (ks : List Str) (ws : List (List Str)) : Prop where
  nd : ks.Nodup
  sb : ∀ k ∈ ks, ∃ c, (c, k) ∈ ps
  wy : ∀ w ∈ ws, ∃ t, Wy ps one other ks w t
  cl : ∀ x, (x = one ∨ x ∈ ks) → (∃ t, (one :: t) ∈ ws ∧ lastOf one t = x) ∨ Exp ps other ks x
  st : (∀ w ∈ ws, w = [one]) ∨ Exp ps other ks one
def measB (ps : List Pr) (ks : List Str) (ws : List (List Str)) : Nat := 2 * (ps.length - ks.length) + ws.length
theorem BInv.start : BInv ps one other [] [[one]] := ⟨List.nodup_nil, fun _ h => (by cases h), fun w hw => by
  rw [List.mem_singleton.mp hw]
  exact ⟨[], rfl, .nil _, List.nodup_nil, fun _ h => (by cases h), fun h => (by cases h), fun h => (by cases h)⟩, fun x hx => (by
  rcases hx with rfl | h
  · exact .inl ⟨[], List.mem_cons_self, rfl⟩
  · cases h), Or.inl fun w hw => List.mem_singleton.mp hw⟩
theorem sub_len {ks : List Str} (nd : ks.Nodup) (sb : ∀ k ∈ ks, ∃ c, (c, k) ∈ ps) : ks.length ≤ ps.length := by
  have := nodup_le (b := ps.map (·.2)) nd fun k hk => by
    obtain ⟨c, hc⟩ := sb k hk
    exact List.mem_map.mpr ⟨_, hc, rfl⟩
  rwa [List.length_map] at this
structure BIn (ps : List Pr) (one other : Str) (t : List Str) (ks : List Str) (ws0 : List (List Str)) (i : Nat) (ks' : List Str) (ws' : List (List Str)) : Prop where
  nd : ks'.Nodup
  sb : ∀ k ∈ ks', ∃ c, (c, k) ∈ ps
  wy : ∀ w ∈ ws', ∃ t, Wy ps one other ks' w t
  up : ∀ k ∈ ks, k ∈ ks'
  ne : ∀ k ∈ (nextsL ps (lastOf one t)).take i, k ∈ ks' ∧ k ≠ other
  wu : ∀ w ∈ ws0, w ∈ ws'
  nw : ∀ k ∈ ks', k ∉ ks → ∃ u, (one :: u) ∈ ws' ∧ lastOf one u = k
  me : Wy ps one other ks' (one :: t) t
  st : t = [] ∨ Exp ps other ks' one
  ms : measB ps ks' ws' ≤ measB ps ks ws0
theorem BInv.pop {w : List Str} {ks : List Str} {ws0 : List (List Str)} (h : BInv ps one other ks (w :: ws0)) : ∃ t, w = one :: t ∧ BIn ps one other t ks ws0 0 ks ws0 := by
  obtain ⟨t, ht⟩ := h.wy w List.mem_cons_self
  refine ⟨t, ht.e, h.nd, h.sb, fun w hw => h.wy w (List.mem_cons_of_mem _ hw), fun _ h => h, fun k hk => (by simp at hk), fun _ h => h, fun k h1 h2 => absurd h1 h2, ?_, ?_, Nat.le_refl _⟩
  · rw [← ht.e]; exact ht
  · rcases h.st with z | z
    · have := z w List.mem_cons_self
      rw [ht.e] at this
      exact .inl (by injection this)
    · exact .inr z
theorem BIn.old {t : List Str} {ks : List Str} {ws0 : List (List Str)} {i : Nat} {ks' : List Str} {ws' : List (List Str)} {w : Str} (h : BIn ps one other t ks ws0 i ks' ws') (hw : (nextsL ps (lastOf one t))[i]? = some w) (ho : w ≠ other) (hk : w ∈ ks') : BIn ps one other t ks ws0 (i + 1) ks' ws' :=
  ⟨h.nd, h.sb, h.wy, h.up, fun k hk2 => by
    rw [List.take_add_one, hw] at hk2
    rcases List.mem_append.mp hk2 with z | z
    · exact h.ne k z
    · simp at z; rw [z]; exact ⟨hk, ho⟩, h.wu, h.nw, h.me, h.st, h.ms⟩
theorem BIn.new {t : List Str} {ks : List Str} {ws0 : List (List Str)} {i : Nat} {ks' : List Str} {ws' : List (List Str)} {w : Str} (h : BIn ps one other t ks ws0 i ks' ws') (hw : (nextsL ps (lastOf one t))[i]? = some w) (ho : w ≠ other) (hk : w ∉ ks') :
    BIn ps one other t ks ws0 (i + 1) (ks' ++ [w]) (ws' ++ [(one :: t) ++ [w]]) := by
  have hp : (lastOf one t, w) ∈ ps := nexts_mem.mp (List.mem_of_getElem? hw)
  have u : ∀ k ∈ ks', k ∈ ks' ++ [w] := fun k hk => List.mem_append_left _ hk
  have nd2 : (ks' ++ [w]).Nodup := List.nodup_append.mpr ⟨h.nd, by simp, fun x hx y hy e => hk (by rw [← List.mem_singleton.mp hy, ← e]; exact hx)⟩
  have sb2 : ∀ k ∈ ks' ++ [w], ∃ c, (c, k) ∈ ps := fun k hk2 => by
    rcases List.mem_append.mp hk2 with z | z
    · exact h.sb k z
    · rw [List.mem_singleton.mp z]; exact ⟨_, hp⟩
  have no1 : one ∉ t := fun z => by
    rcases h.st with e | e
    · rw [e] at z; cases z
    · have hl := h.me.rg z
      rw [hl] at hp
      exact hk (e w hp).1
  refine ⟨nd2, sb2, fun v hv => ?_, fun k hk2 => u k (h.up k hk2), fun k hk2 => ?_, fun v hv => List.mem_append_left _ (h.wu v hv), fun k h1 h2 => ?_, h.me.up u, h.st.imp id fun e => e.up u, ?_⟩
  · rcases List.mem_append.mp hv with z | z
    · obtain ⟨t', ht'⟩ := h.wy v z
      exact ⟨t', ht'.up u⟩
    · rw [List.mem_singleton.mp z]
      refine ⟨t ++ [w], rfl, h.me.wk.snoc hp, ?_, fun x hx => ?_, fun z => ?_, fun z => ?_⟩
      · exact List.nodup_append.mpr ⟨h.me.nd, by simp, fun x hx y hy e => hk (by rw [← List.mem_singleton.mp hy, ← e]; exact h.me.ks x hx)⟩
      · rcases List.mem_append.mp hx with z | z
        · exact u x (h.me.ks x z)
        · exact List.mem_append_right _ z
      · rcases List.mem_append.mp z with z | z
        · exact h.me.no z
        · exact ho (List.mem_singleton.mp z).symm
      · rcases List.mem_append.mp z with z | z
        · exact absurd z no1
        · rw [last_snoc]; exact (List.mem_singleton.mp z).symm
  · rw [List.take_add_one, hw] at hk2
    rcases List.mem_append.mp hk2 with z | z
    · exact ⟨u k (h.ne k z).1, (h.ne k z).2⟩
    · simp at z; rw [z]; exact ⟨by simp, ho⟩
  · rcases List.mem_append.mp h1 with z | z
    · obtain ⟨v, hv, hl⟩ := h.nw k z h2
      exact ⟨v, List.mem_append_left _ hv, hl⟩
    · refine ⟨t ++ [w], List.mem_append_right _ (List.mem_singleton.mpr rfl), ?_⟩
      rw [last_snoc]; exact (List.mem_singleton.mp z).symm
  · have h1 := sub_len nd2 sb2
    have h2 := h.ms
    unfold measB at *
    rw [List.length_append, List.length_append] at *
    simp at *
    omega
theorem BIn.done {t : List Str} {ks : List Str} {ws0 : List (List Str)} {ks' : List Str} {ws' : List (List Str)} (h : BIn ps one other t ks ws0 (nextsL ps (lastOf one t)).length ks' ws') (h0 : BInv ps one other ks ((one :: t) :: ws0)) : BInv ps one other ks' ws' ∧ measB ps ks' ws' < measB ps ks ((one :: t) :: ws0) := by
  have ex : Exp ps other ks' (lastOf one t) := fun y hy => h.ne y (by rw [List.take_length]; exact nexts_mem.mpr hy)
  refine ⟨⟨h.nd, h.sb, h.wy, fun x hx => ?_, ?_⟩, ?_⟩
  · by_cases hk : x = one ∨ x ∈ ks
    · rcases h0.cl x hk with ⟨v, hv, hl⟩ | e
      · rcases List.mem_cons.mp hv with e | hv
        · injection e with _ e
          subst e
          rw [← hl]; exact .inr ex
        · exact .inl ⟨v, h.wu _ hv, hl⟩
      · exact .inr (e.up h.up)
    · refine .inl (h.nw x ?_ fun z => hk (.inr z))
      rcases hx with z | z
      · exact absurd (.inl z) hk
      · exact z
  · rcases h.st with e | e
    · subst e
      exact .inr ex
    · exact .inr e
  · have := h.ms
    unfold measB at *
    simp; omega
structure Chn (ps : List Pr) (a b : Str) (c t : List Str) : Prop where
  e : c = (a :: t) ++ [b]
  wk : Walk ps a (t ++ [b])
  n1 : (t ++ [b]).Nodup
  n2 : (a :: t).Nodup
theorem BIn.found {t : List Str} {ks : List Str} {ws0 : List (List Str)} {i : Nat} {ks' : List Str} {ws' : List (List Str)} (h : BIn ps one other t ks ws0 i ks' ws') (hw : (nextsL ps (lastOf one t))[i]? = some other) : Chn ps one other ((one :: t) ++ [other]) t := by
  have hp : (lastOf one t, other) ∈ ps := nexts_mem.mp (List.mem_of_getElem? hw)
  refine ⟨rfl, h.me.wk.snoc hp, List.nodup_append.mpr ⟨h.me.nd, by simp, fun x hx y hy e => h.me.no (by rw [← List.mem_singleton.mp hy, ← e]; exact hx)⟩, List.nodup_cons.mpr ⟨fun z => ?_, h.me.nd⟩⟩
  rcases h.st with e | e
  · rw [e] at z; cases z
  · have hl := h.me.rg z
    rw [hl] at hp
    exact (e other hp).2 rfl
theorem BInv.none {ks : List Str} (h : BInv ps one other ks []) : ¬ Reach ps one other := by
  have ex : ∀ x, (x = one ∨ x ∈ ks) → Exp ps other ks x := fun x hx => (h.cl x hx).elim (fun ⟨_, z, _⟩ => by cases z) id
  have key : ∀ y, Reach ps one y → y ∈ ks ∧ y ≠ other := by
    intro y hr
    induction hr with
    | one hp => exact ex one (.inl rfl) _ hp
    | step _ hp ih => exact ex _ (.inr ih.1) _ hp
  exact fun hr => (key other hr).2 rfl
end
end OR

set_option Elab.async false
set_option linter.all false
set_option maxRecDepth 100000
namespace OR
open PySem PyProof.Rows
def SLt (a b : Str) : Prop := a.cps.toList < b.cps.toList
theorem SLt.irr (a : Str) : ¬ SLt a a := List.lt_irrefl _
theorem SLt.tr {a b c : Str} (h : SLt a b) (k : SLt b c) : SLt a c := List.lt_trans h k
theorem SLt.tri (a b : Str) : SLt a b ∨ a = b ∨ SLt b a := by
  unfold SLt
  by_cases h : a.cps.toList < b.cps.toList
  · exact .inl h
  · by_cases k : b.cps.toList < a.cps.toList
    · exact .inr (.inr k)
    · exact .inr (.inl (PySem.W.str_of_cps (List.le_antisymm (List.not_lt.mp k) (List.not_lt.mp h))))
theorem SLt.nodup {ys : List Str} (h : ys.Pairwise SLt) : ys.Nodup := h.imp fun {a b} h e => by subst e; exact SLt.irr _ h
theorem le_of_rising : ∀ (p : Str) (l : List Str), risingS p l = true → (p :: l).Pairwise fun a b => ¬ SLt b a
  | p, [], _ => List.pairwise_singleton _ _
  | p, x :: r, h => by
    unfold risingS at h
    rw [Bool.and_eq_true] at h
    have ih := le_of_rising x r h.2
    have h1 : ¬ SLt x p := fun z => by
      have := h.1
      rw [ltCps_eq, decide_eq_true (show x.cps.toList < p.cps.toList from z)] at this
      cases this
    refine List.pairwise_cons.mpr ⟨fun y hy => ?_, ih⟩
    rcases List.mem_cons.mp hy with rfl | hy
    · exact h1
    · have h2 := (List.pairwise_cons.mp ih).1 y hy
      intro z
      rcases SLt.tri p x with k | k | k
      · exact h2 (z.tr k)
      · subst k; exact h2 z
      · exact h1 k
theorem strict_of {ys : List Str} (nd : ys.Nodup) (h : sortedS ys = true) : ys.Pairwise SLt := by
  cases ys with
  | nil => exact List.Pairwise.nil
  | cons x r =>
    have := le_of_rising x r h
    refine (this.and nd).imp fun {a b} ⟨h1, h2⟩ => ?_
    rcases SLt.tri a b with k | k | k
    · exact k
    · exact absurd k h2
    · exact absurd k h1
theorem uniq_of {α : Type} {r : α → α → Prop} (irr : ∀ a, ¬ r a a) (tr : ∀ a b c, r a b → r b c → r a c) : ∀ {l m : List α}, l.Pairwise r → m.Pairwise r → (∀ x, x ∈ l ↔ x ∈ m) → l = m
  | [], [], _, _, _ => rfl
  | [], y :: m, _, _, h => by have := (h y).mpr List.mem_cons_self; cases this
  | x :: l, [], _, _, h => by have := (h x).mp List.mem_cons_self; cases this
  | x :: l, y :: m, h1, h2, h => by
    obtain ⟨a1, a2⟩ := List.pairwise_cons.mp h1
    obtain ⟨b1, b2⟩ := List.pairwise_cons.mp h2
    have e : x = y := by
      rcases List.mem_cons.mp ((h x).mp List.mem_cons_self) with e | e
      · exact e
      · rcases List.mem_cons.mp ((h y).mpr List.mem_cons_self) with e2 | e2
        · exact e2.symm
        · exact absurd (tr _ _ _ (b1 x e) (a1 y e2)) (irr _)
    subst e
    rw [uniq_of irr tr a2 b2 fun z => ?_]
    constructor
    · intro hz
      rcases List.mem_cons.mp ((h z).mp (List.mem_cons_of_mem _ hz)) with e | e
      · subst e; exact absurd (a1 z hz) (irr z)
      · exact e
    · intro hz
      rcases List.mem_cons.mp ((h z).mpr (List.mem_cons_of_mem _ hz)) with e | e
      · subst e; exact absurd (b1 z hz) (irr z)
      · exact e
def PLt (p q : Pr) : Prop := SLt p.1 q.1 ∨ (p.1 = q.1 ∧ SLt p.2 q.2)
theorem PLt.irr (a : Pr) : ¬ PLt a a := fun h => h.elim (SLt.irr _) fun h => SLt.irr _ h.2
theorem PLt.tr (a b c : Pr) (h : PLt a b) (k : PLt b c) : PLt a c := by
  rcases h with h | ⟨e, h⟩
  · rcases k with k | ⟨e2, k⟩
    · exact .inl (h.tr k)
    · exact .inl (by rw [← e2]; exact h)
  · rcases k with k | ⟨e2, k⟩
    · exact .inl (by rw [e]; exact k)
    · exact .inr ⟨e.trans e2, h.tr k⟩
abbrev eP (p : Pr) : PyData := .tuple [.str p.1, .str p.2]
theorem eqv_str (a b : Str) : PyData.eqv (.str a) (.str b) = decide (a = b) := by
  simp [PyData.eqv]
  by_cases h : a = b <;> simp [h]
instance (a b : Str) : Decidable (SLt a b) := inferInstanceAs (Decidable (a.cps.toList < b.cps.toList))
theorem lt_str (a b : Str) : PySem.W.dataLt (.str a) (.str b) = decide (SLt a b) := PySem.W.dataLt_str a b
theorem lt_pair {p q : Pr} (h : PLt p q) : PySem.W.dataLt (eP p) (eP q) = true := by
  rw [PySem.W.dataLt_pair (by simp [PySem.W.alike]) (by simp [PySem.W.alike]), eqv_str, eqv_str, lt_str, lt_str]
  rcases h with h | ⟨e, h⟩
  · have : p.1 ≠ q.1 := fun z => by rw [z] at h; exact SLt.irr _ h
    rw [if_neg (by rw [decide_eq_false this]; decide)]
    exact decide_eq_true h
  · have : p.2 ≠ q.2 := fun z => by rw [z] at h; exact SLt.irr _ h
    rw [if_pos (by rw [decide_eq_true e]), if_neg (by rw [decide_eq_false this]; decide)]
    exact decide_eq_true h
structure Ord (ps rs : List Pr) : Prop where
  so : rs.Pairwise PLt
  me : ∀ a b, (a, b) ∈ rs ↔ Reach ps a b
theorem Ord.uniq {ps rs rs' : List Pr} (h : Ord ps rs) (k : Ord ps rs') : rs = rs' := uniq_of PLt.irr PLt.tr h.so k.so fun ⟨a, b⟩ => (h.me a b).trans (k.me a b).symm
structure OIn (ps : List Pr) (done : List Str) (rs : List Pr) : Prop where
  so : rs.Pairwise PLt
  me : ∀ a b, (a, b) ∈ rs ↔ a ∈ done ∧ Reach ps a b
theorem OIn.next {ps : List Pr} {done : List Str} {rs : List Pr} {y : Str} {bs : List Str} (h : OIn ps done rs) (hy : ∀ d ∈ done, SLt d y) (hb : bs.Pairwise SLt) (hm : ∀ w, w ∈ bs ↔ Reach ps y w) : OIn ps (done ++ [y]) (rs ++ bs.map fun b => (y, b)) := by
  refine ⟨List.pairwise_append.mpr ⟨h.so, List.pairwise_map.mpr (hb.imp fun h => .inr ⟨rfl, h⟩), fun p hp q hq => ?_⟩, fun a b => ?_⟩
  · obtain ⟨b, _, rfl⟩ := List.mem_map.mp hq
    exact .inl (hy _ ((h.me p.1 p.2).mp hp).1)
  · rw [List.mem_append, h.me, List.mem_append, List.mem_singleton, List.mem_map]
    constructor
    · rintro (⟨h1, h2⟩ | ⟨c, hc, e⟩)
      · exact ⟨.inl h1, h2⟩
      · injection e with e1 e2
        subst e1; subst e2
        exact ⟨.inr rfl, (hm _).mp hc⟩
    · rintro ⟨h1 | h1, h2⟩
      · exact .inl ⟨h1, h2⟩
      · subst h1
        exact .inr ⟨b, (hm b).mpr h2, rfl⟩
theorem OIn.fin {ps : List Pr} {done : List Str} {rs : List Pr} (h : OIn ps done rs) (hd : ∀ k, k ∈ done ↔ k ∈ ps.map (·.1)) : Ord ps rs := ⟨h.so, fun a b => by
  rw [h.me]
  refine ⟨fun h => h.2, fun hr => ⟨?_, hr⟩⟩
  obtain ⟨c, hc⟩ := hr.fst
  exact (hd a).mpr (List.mem_map.mpr ⟨_, hc, rfl⟩)⟩
end OR

set_option Elab.async false
set_option linter.all false
set_option maxRecDepth 100000
namespace TB
open PySem L2 PL
open NE (scD plcs mem_plcs plcs_app emp emp_len emp_snoc emp_plcs)
abbrev XSt := List (Str × Int) × List Str
abbrev eG (g : Str × Int) : PyData := .tuple [.str g.1, .int g.2]
abbrev zG (g : Str × Int) : D := .z (eG g)
abbrev zW (s : Str) : D := .z (.str s)
def eSt (s : XSt) : PyData := .tuple [.list (s.1.map eG), .list (s.2.map .str)]
structure ScIn (S : Sto) (p : Nat × Nat) (s : XSt) : Prop where
  a : S[p.1]? = some (.lst (s.1.map zG))
  b : S[p.2]? = some (.lst (s.2.map zW))
theorem ScIn.vw {S : Sto} {p : Nat × Nat} {s : XSt} (h : ScIn S p s) : Vw S (scD p) (eSt s) := .t (.cons (.r h.a (Vws.map _ _)) (.cons (.r h.b (Vws.map _ _)) .nil))
theorem ScIn.lt1 {S : Sto} {p : Nat × Nat} {s : XSt} (h : ScIn S p s) : p.1 < S.length := (List.getElem?_eq_some_iff.mp h.a).1
theorem ScIn.lt2 {S : Sto} {p : Nat × Nat} {s : XSt} (h : ScIn S p s) : p.2 < S.length := (List.getElem?_eq_some_iff.mp h.b).1
inductive ScsIn (S : Sto) : List (Nat × Nat) → List XSt → Prop
  | nil : ScsIn S [] []
  | cons {p : Nat × Nat} {s : XSt} {ps : List (Nat × Nat)} {ss : List XSt} : ScIn S p s → ScsIn S ps ss → ScsIn S (p :: ps) (s :: ss)
section
variable {S : Sto} {n : Nat} {o : Ob}
theorem ScsIn.vws : ∀ {ps : List (Nat × Nat)} {ss : List XSt}, ScsIn S ps ss → Vws S (ps.map scD) (ss.map eSt)
  | [], _, h => by cases h; exact .nil
  | p :: ps, _, h => by cases h with | cons a b => exact .cons a.vw b.vws
theorem ScsIn.len : ∀ {ps : List (Nat × Nat)} {ss : List XSt}, ScsIn S ps ss → ps.length = ss.length
  | [], _, h => by cases h; rfl
  | p :: ps, _, h => by cases h with | cons a b => simp [ScsIn.len b]
theorem ScsIn.get : ∀ {ps : List (Nat × Nat)} {ss : List XSt} {i : Nat} {p : Nat × Nat}, ScsIn S ps ss → ps[i]? = some p → ∃ s, ss[i]? = some s ∧ ScIn S p s
  | [], _, _, _, h, e => by simp at e
  | p :: ps, _, 0, _, h, e => by cases h with | cons a b => simp at e; subst e; exact ⟨_, rfl, a⟩
  | p :: ps, _, i + 1, q, h, e => by
    cases h with
    | cons a b =>
      obtain ⟨s, h1, h2⟩ := ScsIn.get (i := i) (p := q) b (by simpa using e)
      exact ⟨s, by simpa using h1, h2⟩
theorem ScsIn.at {ps : List (Nat × Nat)} {ss : List XSt} {i : Nat} (h : ScsIn S ps ss) (hi : i < ss.length) : ∃ p s, ps[i]? = some p ∧ ss[i]? = some s ∧ ScIn S p s := by
  have hp : ps[i]? = some (ps[i]'(by rw [h.len]; exact hi)) := List.getElem?_eq_getElem _
  obtain ⟨s, h1, h2⟩ := h.get hp
  exact ⟨_, s, hp, h1, h2⟩
theorem ScsIn.lt : ∀ {ps : List (Nat × Nat)} {ss : List XSt}, ScsIn S ps ss → ∀ m ∈ plcs ps, m < S.length
  | [], _, _, m, hm => by cases hm
  | p :: ps, _, h, m, hm => by
    cases h with
    | cons a b =>
      have hm : m ∈ p.1 :: p.2 :: plcs ps := hm
      rcases List.mem_cons.mp hm with rfl | hm
      · exact a.lt1
      · rcases List.mem_cons.mp hm with rfl | hm
        · exact a.lt2
        · exact b.lt m hm
theorem ScsIn.sub {S' : Sto} : ∀ {ps : List (Nat × Nat)} {ss : List XSt}, ScsIn S ps ss → (∀ m ∈ plcs ps, ∀ o, S[m]? = some o → S'[m]? = some o) → ScsIn S' ps ss
  | [], _, h, _ => by cases h; exact .nil
  | p :: ps, _, h, k => by
    cases h with
    | cons a b =>
      have hm : ∀ m ∈ plcs ps, m ∈ plcs (p :: ps) := fun m hm => List.mem_cons_of_mem _ (List.mem_cons_of_mem _ hm)
      exact .cons ⟨k _ List.mem_cons_self _ a.a, k _ (List.mem_cons_of_mem _ List.mem_cons_self) _ a.b⟩ (ScsIn.sub b fun m h => k m (hm m h))
theorem ScsIn.app {T : Sto} {ps : List (Nat × Nat)} {ss : List XSt} (h : ScsIn S ps ss) : ScsIn (S ++ T) ps ss := h.sub fun _ _ _ => sto_app
theorem ScsIn.keep {ps : List (Nat × Nat)} {ss : List XSt} (h : ScsIn S ps ss) (hn : n ∉ plcs ps) : ScsIn (S.set n o) ps ss := h.sub fun m hm o e => by
  rw [List.getElem?_set_ne (fun z : n = m => hn (by rw [z]; exact hm))]; exact e
theorem ScsIn.snoc : ∀ {ps : List (Nat × Nat)} {ss : List XSt} {p : Nat × Nat} {s : XSt}, ScsIn S ps ss → ScIn S p s → ScsIn S (ps ++ [p]) (ss ++ [s])
  | [], _, _, _, h, k => by cases h; exact .cons k .nil
  | p :: ps, _, _, _, h, k => by cases h with | cons a b => exact .cons a (ScsIn.snoc b k)
theorem ScsIn.put1 {xs : List (Str × Int)} : ∀ {ps : List (Nat × Nat)} {ss : List XSt} {i : Nat} {p : Nat × Nat} {s : XSt}, ScsIn S ps ss → (plcs ps).Nodup → ps[i]? = some p → ss[i]? = some s → ScsIn (S.set p.1 (.lst (xs.map zG))) ps (ss.set i (xs, s.2))
  | [], _, _, _, _, h, _, e, _ => by simp at e
  | p :: ps, _, 0, q, s, h, nd, e, e2 => by
    cases h with
    | cons a b =>
      simp at e e2
      subst e; subst e2
      have nd2 : (p.1 :: p.2 :: plcs ps).Nodup := nd
      have h12 : p.1 ≠ p.2 := fun z => by rw [z] at nd2; simp at nd2
      have h3 : p.1 ∉ plcs ps := fun z => (List.nodup_cons.mp nd2).1 (List.mem_cons_of_mem _ z)
      exact .cons ⟨by rw [List.getElem?_set_self a.lt1], by rw [List.getElem?_set_ne h12]; exact a.b⟩ (b.keep h3)
  | p :: ps, _, i + 1, q, s, h, nd, e, e2 => by
    cases h with
    | cons a b =>
      have nd2 : (p.1 :: p.2 :: plcs ps).Nodup := nd
      have hq1 := (mem_plcs (List.mem_of_getElem? (i := i) (show ps[i]? = some q by simpa using e))).1
      have h1 := (List.nodup_cons.mp nd2).1
      have h2 := (List.nodup_cons.mp (List.nodup_cons.mp nd2).2).1
      have n1 : q.1 ≠ p.1 := fun z => h1 (by rw [← z]; exact List.mem_cons_of_mem _ hq1)
      have n2 : q.1 ≠ p.2 := fun z => h2 (by rw [← z]; exact hq1)
      exact .cons ⟨by rw [List.getElem?_set_ne n1]; exact a.a, by rw [List.getElem?_set_ne n2]; exact a.b⟩ (ScsIn.put1 b (List.nodup_cons.mp (List.nodup_cons.mp nd2).2).2 (by simpa using e) (by simpa using e2))
theorem ScsIn.put2 {xs : List Str} : ∀ {ps : List (Nat × Nat)} {ss : List XSt} {i : Nat} {p : Nat × Nat} {s : XSt}, ScsIn S ps ss → (plcs ps).Nodup → ps[i]? = some p → ss[i]? = some s → ScsIn (S.set p.2 (.lst (xs.map zW))) ps (ss.set i (s.1, xs))
  | [], _, _, _, _, h, _, e, _ => by simp at e
  | p :: ps, _, 0, q, s, h, nd, e, e2 => by
    cases h with
    | cons a b =>
      simp at e e2
      subst e; subst e2
      have nd2 : (p.1 :: p.2 :: plcs ps).Nodup := nd
      have h12 : p.2 ≠ p.1 := fun z => by rw [z] at nd2; simp at nd2
      have h3 : p.2 ∉ plcs ps := (List.nodup_cons.mp (List.nodup_cons.mp nd2).2).1
      exact .cons ⟨by rw [List.getElem?_set_ne h12]; exact a.a, by rw [List.getElem?_set_self a.lt2]⟩ (b.keep h3)
  | p :: ps, _, i + 1, q, s, h, nd, e, e2 => by
    cases h with
    | cons a b =>
      have nd2 : (p.1 :: p.2 :: plcs ps).Nodup := nd
      have hq1 := (mem_plcs (List.mem_of_getElem? (i := i) (show ps[i]? = some q by simpa using e))).2
      have h1 := (List.nodup_cons.mp nd2).1
      have h2 := (List.nodup_cons.mp (List.nodup_cons.mp nd2).2).1
      have n1 : q.2 ≠ p.1 := fun z => h1 (by rw [← z]; exact List.mem_cons_of_mem _ hq1)
      have n2 : q.2 ≠ p.2 := fun z => h2 (by rw [← z]; exact hq1)
      exact .cons ⟨by rw [List.getElem?_set_ne n1]; exact a.a, by rw [List.getElem?_set_ne n2]; exact a.b⟩ (ScsIn.put2 b (List.nodup_cons.mp (List.nodup_cons.mp nd2).2).2 (by simpa using e) (by simpa using e2))
end
def cps (ss : List XSt) : Sto := ss.flatMap fun s => [.lst (s.1.map zG), .lst (s.2.map zW)]
theorem cps_app (a b : List XSt) : cps (a ++ b) = cps a ++ cps b := List.flatMap_append
theorem cps_len (ss : List XSt) : (cps ss).length = 2 * ss.length := by
  induction ss with
  | nil => rfl
  | cons s ss ih =>
    show ([_, _] ++ cps ss).length = _
    rw [List.length_append, ih, List.length_cons]
    simp; omega
theorem cps_in {S T : Sto} {L : Nat} (hL : S.length = L) (ss : List XSt) : ScsIn (S ++ (cps ss ++ T)) (emp L ss.length) ss := by
  have go : ∀ (n : Nat) (ss : List XSt), ss.length = n → ∀ T, ScsIn (S ++ (cps ss ++ T)) (emp L ss.length) ss := by
    intro n
    induction n with
    | zero => intro ss h T; cases ss with | nil => exact .nil | cons _ _ => simp at h
    | succ n ih =>
      intro ss h T
      obtain ⟨ini, s, rfl⟩ : ∃ ini s, ss = ini ++ [s] := ⟨ss.dropLast, ss.getLast (by intro e; rw [e] at h; simp at h), (List.dropLast_concat_getLast _).symm⟩
      have hi : ini.length = n := by simp at h; exact h
      have hc := cps_len ini
      rw [List.length_append, List.length_singleton, emp_snoc, cps_app, List.append_assoc]
      refine (ih ini hi (cps [s] ++ T)).snoc ⟨?_, ?_⟩
      · show (S ++ _)[L + 2 * ini.length]? = _
        rw [List.getElem?_append_right (by omega), List.getElem?_append_right (by omega), show L + 2 * ini.length - S.length - (cps ini).length = 0 by omega]; rfl
      · show (S ++ _)[L + 2 * ini.length + 1]? = _
        rw [List.getElem?_append_right (by omega), List.getElem?_append_right (by omega), show L + 2 * ini.length + 1 - S.length - (cps ini).length = 1 by omega]; rfl
  exact go _ ss rfl T
def rSt (s : XSt) : RT := .t [lz eG s.1, lz PyData.str s.2]
theorem al_sc (s : XSt) (n : Nat) : al (rSt s) n = (scD (n, n + 1), [.lst (s.1.map zG), .lst (s.2.map zW)]) := by
  unfold rSt al
  simp only [als, al_lz]
  rfl
theorem als_scs : ∀ (ss : List XSt) (n : Nat), als (ss.map rSt) n = ((emp n ss.length).map scD, cps ss)
  | [], n => by unfold als; rfl
  | s :: ss, n => by
    rw [List.map_cons]
    unfold als
    rw [al_sc, als_scs ss]
    have e : emp n (s :: ss).length = (n, n + 1) :: emp (n + 2) ss.length := by
      unfold emp
      rw [List.length_cons, List.range_succ_eq_map, List.map_cons, List.map_map]
      congr 1
      refine List.map_congr_left fun k _ => ?_
      simp; omega
    rw [e]
    rfl
theorem VRs.scs {S : Sto} {U : List Nat} : ∀ {ps : List (Nat × Nat)} {ss : List XSt}, ScsIn S ps ss → VRs S U (ps.map scD) (ss.map rSt) (plcs ps)
  | [], _, h => by cases h; exact .nil
  | p :: ps, _, h => by
    cases h with
    | cons a b =>
      refine .cons (ns := [p.1, p.2]) (.t ?_) (VRs.scs b)
      exact .cons (ns := [p.1]) (.l (ns := []) a.a (VRs.zs _ _)) (.cons (ns := [p.2]) (ms := []) (.l (ns := []) a.b (VRs.zs _ _)) .nil)

structure XTab where
  states : List XSt
  inner : Int
  order : List OR.Pr
def eTab (t : XTab) : PyData := .tuple [.list (t.states.map eSt), .int t.inner, .list (t.order.map OR.eP)]
def rTab (t : XTab) : RT := .t [.l (t.states.map rSt), .z (.int t.inner), lz OR.eP t.order]
theorem bzSt (s : XSt) : bz (eSt s) = .b (eSt s) := by
  unfold bz
  rw [if_neg]
  simp [eSt, flatT, flatTs]
end TB

set_option Elab.async false
set_option linter.all false
set_option maxRecDepth 100000
namespace TB
open PySem L2 PL
open OR (SLt PLt eP)
open NE (scD plcs emp emp_len emp_snoc emp_plcs)
theorem perm_strict {α : Type} {le : α → α → Bool} : ∀ {m s : List α}, s.Perm m → s.Pairwise (fun a b => le a b = true) → m.Pairwise (fun a b => le b a = false) → s = m
  | [], s, h, _, _ => h.eq_nil
  | x :: m, [], h, _, _ => by have := h.length_eq; simp at this
  | x :: m, y :: r, h, hs, hm => by
    have e : y = x := by
      have hy : y ∈ x :: m := h.mem_iff.mp List.mem_cons_self
      rcases List.mem_cons.mp hy with e | hy
      · exact e
      · have hx : x ∈ y :: r := h.mem_iff.mpr List.mem_cons_self
        rcases List.mem_cons.mp hx with e | hx
        · exact e.symm
        · have a1 := (List.pairwise_cons.mp hs).1 x hx
          have a2 := (List.pairwise_cons.mp hm).1 y hy
          rw [a2] at a1; cases a1
    subst e
    rw [perm_strict h.cons_inv (List.pairwise_cons.mp hs).2 (List.pairwise_cons.mp hm).2]
theorem sort_eq {α : Type} {k : α → PyData} {l m : List α} (hp : m.Perm l) (hs : m.Pairwise fun a b => PySem.W.dataLt (k a) (k b) = true) : l.mergeSort (PySem.W.dataLe false k) = m :=
  perm_strict ((List.mergeSort_perm l _).trans hp.symm) (PySem.W.sort_pairwise (PySem.W.sortLe_total _ _ _) l) (hs.imp fun h => by
    show (!PySem.W.dataLt _ _) = false
    rw [h]; rfl)
instance (a b : OR.Pr) : Decidable (PLt a b) := inferInstanceAs (Decidable (_ ∨ _))
theorem lt_g {p q : Str × Int} (h : SLt p.1 q.1) : PySem.W.dataLt (eG p) (eG q) = true := by
  rw [PySem.W.dataLt_pair (by simp [PySem.W.alike]) (by simp [PySem.W.alike]), OR.eqv_str, OR.lt_str]
  have : p.1 ≠ q.1 := fun z => by rw [z] at h; exact SLt.irr _ h
  rw [if_neg (by rw [decide_eq_false this]; decide)]
  exact decide_eq_true h
theorem al_tab (t : XTab) (n : Nat) : al (rTab t) n = (.t [.r (n + 2 * t.states.length), .z (.int t.inner), .r (n + 2 * t.states.length + 1)], cps t.states ++ [.lst ((emp n t.states.length).map scD), .lst (t.order.map fun p => .z (eP p))]) := by
  unfold rTab al
  simp only [als, al_lz]
  unfold al
  rw [als_scs]
  have hc := cps_len t.states
  simp [als, hc, Nat.add_assoc]
theorem shG {g : Str × Int} (h : PyData.strOk g.1 = true) : Shp 2 (eG g) := .tuple fun d hd => by
  rcases List.mem_cons.mp hd with rfl | hd
  · exact .mono (.str (n := 0) h) (by decide)
  · rcases List.mem_cons.mp hd with rfl | hd
    · exact .mono (.int (n := 0)) (by decide)
    · cases hd
theorem PLt_tri (a b : OR.Pr) : PLt a b ∨ a = b ∨ PLt b a := by
  rcases SLt.tri a.1 b.1 with h | h | h
  · exact .inl (.inl h)
  · rcases SLt.tri a.2 b.2 with k | k | k
    · exact .inl (.inr ⟨h, k⟩)
    · exact .inr (.inl (Prod.ext h k))
    · exact .inr (.inr (.inr ⟨h.symm, k⟩))
  · exact .inr (.inr (.inl h))
theorem sort_pairs {rs : List OR.Pr} (nd : rs.Nodup) : (rs.mergeSort (PySem.W.dataLe false eP)).Pairwise PLt := by
  have h1 : (rs.mergeSort (PySem.W.dataLe false eP)).Pairwise fun a b => PySem.W.dataLe false eP a b = true := PySem.W.sort_pairwise (PySem.W.sortLe_total _ _ _) rs
  have h2 : (rs.mergeSort (PySem.W.dataLe false eP)).Nodup := (List.mergeSort_perm rs _).nodup_iff.mpr nd
  refine (h1.and h2).imp fun {a b} ⟨k1, k2⟩ => ?_
  have k1 : (!PySem.W.dataLt (eP b) (eP a)) = true := k1
  rcases PLt_tri a b with h | h | h
  · exact h
  · exact absurd h k2
  · rw [OR.lt_pair h] at k1; cases k1
theorem sort_ord {ps rs : List OR.Pr} (nd : rs.Nodup) (h : ∀ a b, (a, b) ∈ rs ↔ OR.Reach ps a b) : OR.Ord ps (rs.mergeSort (PySem.W.dataLe false eP)) :=
  ⟨sort_pairs nd, fun a b => by rw [(List.mergeSort_perm rs _).mem_iff]; exact h a b⟩
end TB

set_option Elab.async false
set_option linter.all false
set_option maxRecDepth 100000
namespace OD
open PySem PySem.W PyProof.Rows
theorem lt_irr (d : PyData) : dataLt d d = false := (listOrd itemOrd).irrefl _
theorem lt_tr {a b c : PyData} (h : dataLt a b = true) (k : dataLt b c = true) : dataLt a c = true := (listOrd itemOrd).trans _ _ _ h k
theorem eqv_toks {x y : PyData} (h : alike x y = true) (e : keyToks x = keyToks y) : PyData.eqv x y = true := by
  cases he : PyData.eqv x y with
  | true => rfl
  | false =>
    have := (toks_eqv x y h).2 he [] [.inl 0]
    have h2 : PyProof.Rows.lexLt itemOrd (keyToks y) (keyToks y) = false := lex_irrefl _
    rw [e, lex_pre, h2] at this
    exact absurd (show true = false from this) (by decide)
theorem lt_tri {x y : PyData} (h : alike x y = true) (a : dataLt x y = false) (b : dataLt y x = false) : PyData.eqv x y = true :=
  eqv_toks h ((listOrd itemOrd).total _ _ a b)
def Up {α : Type} (k : α → PyData) (l : List α) : Prop := l.Pairwise fun a b => dataLt (k a) (k b) = true
section
variable {α : Type} {k : α → PyData} {l m : List α}
theorem Up.uniq (h : Up k l) (h2 : Up k m) (e : ∀ x, x ∈ l ↔ x ∈ m) : l = m :=
  OR.uniq_of (r := fun a b => dataLt (k a) (k b) = true) (fun a h => by rw [lt_irr] at h; cases h) (fun _ _ _ h k => lt_tr h k) h h2 e
theorem Up.nodup (h : Up k l) : l.Nodup := h.imp fun {a b} h e => by subst e; rw [lt_irr] at h; cases h
theorem up_sort (nd : l.Nodup) (al : ∀ a ∈ l, ∀ b ∈ l, alike (k a) (k b) = true) (ej : ∀ a ∈ l, ∀ b ∈ l, PyData.eqv (k a) (k b) = true → a = b) : Up k (l.mergeSort (dataLe false k)) := by
  have h1 : (l.mergeSort (dataLe false k)).Pairwise fun a b => dataLe false k a b = true := sort_pairwise (sortLe_total _ _ _) l
  have h2 : (l.mergeSort (dataLe false k)).Nodup := (List.mergeSort_perm l _).nodup_iff.mpr nd
  have hm : ∀ x, x ∈ l.mergeSort (dataLe false k) → x ∈ l := fun x hx => (List.mergeSort_perm l _).mem_iff.mp hx
  refine (List.Pairwise.and_mem.mp (h1.and h2)).imp fun {a b} ⟨ha, hb, k1, k2⟩ => ?_
  have k1 : (!dataLt (k b) (k a)) = true := k1
  cases hc : dataLt (k a) (k b) with
  | true => rfl
  | false => exact absurd (ej a (hm a ha) b (hm b hb) (lt_tri (al a (hm a ha) b (hm b hb)) hc (by cases h : dataLt (k b) (k a) with | true => rw [h] at k1; cases k1 | false => rfl))) k2
theorem sort_up (h : Up k m) (p : m.Perm l) : l.mergeSort (dataLe false k) = m := TB.sort_eq p h
end
end OD

set_option Elab.async false
set_option linter.all false
set_option maxRecDepth 100000
namespace WY
open PySem L2 PL ND
def goal (net : Net) (ans : List Ans) (st : ND.Step) : Goal := if st.by_ = true then (match getI ans .opn st.num with
    | .opn => .opn st.num
    | .thing t => inside net ans t
    | _ => .no) else .to st.num
structure World where
  net : Net
  ans : List Ans
  tab : TB.XTab
structure Mk where
  sc : Int
  ix : Int
  deriving DecidableEq
def eMk (m : Mk) : PyData := .tuple [.int m.sc, .str "step", .int m.ix]
structure Row where
  ms : List Mk
  sc : Int
  st : Int
  deriving DecidableEq
def eRow (r : Row) : PyData := .tuple [.list (r.ms.map eMk), .int r.sc, .int r.st]
def nextS (t : TB.XTab) (st : Int) (lab : Str) : Option Int := ((getI t.states ([], []) st).1.find? fun g => decide (g.1 = lab)).map (·.2)
def steps (W : World) (sc : Int) : List ND.Step := (getI W.net.scopes ([], []) sc).1
def tells (W : World) (sc : Int) : List ND.Tell := (getI W.net.scopes ([], []) sc).2
def leads (W : World) (r : Row) (x : ND.Step) : Option (Int × Int) := match nextS W.tab r.st x.lab with
  | none => none
  | some t => match goal W.net W.ans x with
    | .to n => if n = r.sc ∨ n ∈ r.ms.map (·.sc) then none else some (n, t)
    | _ => none
def lgr (W : World) (r : Row) (i : Nat) (x : ND.Step) : Option Row := (leads W r x).map fun p => ⟨r.ms ++ [⟨r.sc, i⟩], p.1, p.2⟩
def lgrs (W : World) (r : Row) : Nat → List ND.Step → List Row
  | _, [] => []
  | i, x :: xs => (lgr W r i x).toList ++ lgrs W r (i + 1) xs
def longer (W : World) (r : Row) : List Row := lgrs W r 0 (steps W r.sc)
section
variable {W : World} {r q : Row}
theorem mem_lgrs : ∀ {xs : List ND.Step} {i : Nat}, q ∈ lgrs W r i xs ↔ ∃ j x, xs[j]? = some x ∧ lgr W r (i + j) x = some q
  | [], i => by simp [lgrs]
  | y :: xs, i => by
    unfold lgrs
    rw [List.mem_append, mem_lgrs (xs := xs)]
    constructor
    · rintro (h | ⟨j, x, h1, h2⟩)
      · exact ⟨0, y, rfl, by simpa using h⟩
      · exact ⟨j + 1, x, by simpa using h1, by rw [← h2, show i + (j + 1) = i + 1 + j by omega]⟩
    · rintro ⟨j, x, h1, h2⟩
      cases j with
      | zero => simp at h1; subst h1; exact .inl (by simpa using h2)
      | succ j => exact .inr ⟨j, x, by simpa using h1, by rw [← h2, show i + (j + 1) = i + 1 + j by omega]⟩
theorem mem_longer : q ∈ longer W r ↔ ∃ (j : Nat) (x : ND.Step), (steps W r.sc)[j]? = some x ∧ lgr W r j x = some q := by
  unfold longer
  rw [mem_lgrs]
  constructor
  · rintro ⟨j, x, h1, h2⟩; exact ⟨j, x, h1, by rwa [Nat.zero_add] at h2⟩
  · rintro ⟨j, x, h1, h2⟩; exact ⟨j, x, h1, by rwa [Nat.zero_add]⟩
theorem lgr_ms {i : Nat} {x : ND.Step} (h : lgr W r i x = some q) : q.ms = r.ms ++ [⟨r.sc, i⟩] := by
  unfold lgr at h
  cases e : leads W r x with
  | none => rw [e] at h; cases h
  | some p => rw [e] at h; cases h; rfl
theorem longer_ms (h : q ∈ longer W r) : ∃ i : Nat, q.ms = r.ms ++ [⟨r.sc, i⟩] := by
  obtain ⟨j, x, _, h⟩ := mem_longer.mp h
  exact ⟨j, lgr_ms h⟩
theorem lgrs_len : ∀ {xs : List ND.Step} {i : Nat}, (lgrs W r i xs).length ≤ xs.length
  | [], i => Nat.le_refl _
  | y :: xs, i => by
    unfold lgrs
    rw [List.length_append, List.length_cons]
    have := lgrs_len (xs := xs) (i := i + 1)
    cases lgr W r i y <;> simp <;> omega
theorem lgrs_nodup : ∀ {xs : List ND.Step} {i : Nat}, (lgrs W r i xs).Nodup
  | [], i => List.nodup_nil
  | y :: xs, i => by
    unfold lgrs
    refine List.nodup_append.mpr ⟨by cases lgr W r i y <;> simp, lgrs_nodup, fun a ha b hb e => ?_⟩
    subst e
    obtain ⟨j, x, _, h2⟩ := mem_lgrs.mp hb
    have h1 := lgr_ms (by simpa using ha)
    rw [lgr_ms h2] at h1
    have := List.append_cancel_left h1
    simp at this
    omega
def wt (B : Nat) : Nat → Nat
  | 0 => 1
  | n + 1 => 1 + B * wt B n
theorem wt_pos {B : Nat} : ∀ n, 1 ≤ wt B n
  | 0 => Nat.le_refl _
  | n + 1 => by unfold wt; omega
structure TOk (t : TB.XTab) : Prop where
  go : ∀ s ∈ t.states, ∀ g ∈ s.1, PyData.strOk g.1 = true ∧ 0 ≤ g.2 ∧ g.2 < t.states.length
  en : ∀ s ∈ t.states, ∀ w ∈ s.2, PyData.strOk w = true
  od : ∀ p ∈ t.order, PyData.strOk p.1 = true ∧ PyData.strOk p.2 = true
  n1 : 1 ≤ t.states.length
  n9 : t.states.length ≤ 9
  ir : 0 ≤ t.inner ∧ t.inner < t.states.length
  nr : ∀ p ∈ t.order, p.1 ≠ p.2
  tr : ∀ p ∈ t.order, ∀ q ∈ t.order, p.2 = q.1 → (p.1, q.2) ∈ t.order
structure WB (W : World) : Prop where
  net : NetOk W.net
  len : W.ans.length = W.net.quests.length
  an : ∀ x ∈ W.ans, AnsOk W.net.things.length x
  tab : TOk W.tab
  qst : ∀ q ∈ W.net.quests, q.state < W.tab.states.length
structure RowOk (W : World) (r : Row) : Prop where
  sc : 0 ≤ r.sc ∧ r.sc < W.net.scopes.length
  st : 0 ≤ r.st ∧ r.st < W.tab.states.length
  ms : ∀ m ∈ r.ms, (0 ≤ m.sc ∧ m.sc < W.net.scopes.length) ∧ 0 ≤ m.ix ∧ m.ix < (steps W m.sc).length
  nd : (r.ms.map (·.sc) ++ [r.sc]).Nodup
theorem inOk (h : WB W) : InOk W.net W.ans := inOk_of h.net h.len h.an
theorem nextS_ok {t : TB.XTab} (h : TOk t) {st n : Int} {l : Str} (hs : 0 ≤ st ∧ st < t.states.length) (e : nextS t st l = some n) : 0 ≤ n ∧ n < t.states.length := by
  unfold nextS at e
  have hm := getI_mem (d := (([], []) : TB.XSt)) hs
  generalize getI t.states ([], []) st = s at e hm
  cases hf : s.1.find? fun g => decide (g.1 = l) with
  | none => rw [hf] at e; cases e
  | some g => rw [hf] at e; cases e; exact (h.go s hm g (List.mem_of_find?_eq_some hf)).2
theorem steps_in (h : WB W) {sc : Int} (hs : 0 ≤ sc ∧ sc < W.net.scopes.length) : ∀ x ∈ steps W sc, StepOk W.net.scopes.length W.net.quests.length x := (h.net.sc _ (getI_mem (d := (([], []) : ND.Scope)) hs)).1
theorem inside_to (h : WB W) {t n : Int} (ht : 0 ≤ t ∧ t < W.net.things.length) (e : inside W.net W.ans t = .to n) : 0 ≤ n ∧ n < W.net.scopes.length := by
  unfold inside at e
  have hm := getI_mem (d := Thing.plain) ht
  generalize getI W.net.things .plain t = x at e hm
  cases x with
  | plain => cases e
  | part s => cases e; exact h.net.th _ hm
  | sort q =>
    have hq := (inOk h).sort _ hm
    have hm2 := getI_mem (d := Ans.opn) hq
    dsimp only at e
    generalize getI W.ans .opn q = y at e hm2
    cases y with
    | opn => cases e
    | none_ a => cases e
    | torn a => cases e
    | thing u =>
      have hm3 := getI_mem (d := Thing.plain) ((inOk h).ans u hm2)
      dsimp only at e
      generalize getI W.net.things .plain u = z at e hm3
      cases z with
      | plain => cases e
      | part s => cases e; exact h.net.th _ hm3
      | sort q => cases e
theorem by_ok (h : WB W) {x : ND.Step} (hx : StepOk W.net.scopes.length W.net.quests.length x) (hb : x.by_ = true) : 0 ≤ x.num ∧ x.num < W.ans.length := by
  have h2 := hx.2.2
  rw [if_pos hb] at h2
  exact ⟨hx.2.1, by rw [h.len]; exact h2⟩
theorem goal_to (h : WB W) {x : ND.Step} {n : Int} (hx : StepOk W.net.scopes.length W.net.quests.length x) (e : goal W.net W.ans x = .to n) : 0 ≤ n ∧ n < W.net.scopes.length := by
  unfold goal at e
  by_cases hb : x.by_ = true
  · rw [if_pos hb] at e
    have hm := getI_mem (d := Ans.opn) (by_ok h hx hb)
    generalize getI W.ans .opn x.num = y at e hm
    cases y with
    | opn => cases e
    | none_ a => cases e
    | torn a => cases e
    | thing u => exact inside_to h ((inOk h).ans u hm) e
  · rw [if_neg hb] at e
    have h2 := hx.2.2
    rw [if_neg hb] at h2
    cases e
    exact ⟨hx.2.1, h2⟩
theorem leads_some {x : ND.Step} {p : Int × Int} (e : leads W r x = some p) : nextS W.tab r.st x.lab = some p.2 ∧ goal W.net W.ans x = .to p.1 ∧ p.1 ≠ r.sc ∧ p.1 ∉ r.ms.map (·.sc) := by
  unfold leads at e
  cases h1 : nextS W.tab r.st x.lab with
  | none => rw [h1] at e; cases e
  | some t =>
    rw [h1] at e
    dsimp only at e
    cases h2 : goal W.net W.ans x with
    | opn a => rw [h2] at e; cases e
    | no => rw [h2] at e; cases e
    | to n =>
      rw [h2] at e
      dsimp only at e
      by_cases c : n = r.sc ∨ n ∈ r.ms.map (·.sc)
      · rw [if_pos c] at e; cases e
      · rw [if_neg c] at e; cases e
        exact ⟨rfl, rfl, fun z => c (.inl z), fun z => c (.inr z)⟩
theorem lgr_some {i : Nat} {x : ND.Step} (h : lgr W r i x = some q) : leads W r x = some (q.sc, q.st) ∧ q.ms = r.ms ++ [⟨r.sc, i⟩] := by
  unfold lgr at h
  cases e : leads W r x with
  | none => rw [e] at h; cases h
  | some p => rw [e] at h; cases h; exact ⟨rfl, rfl⟩
theorem lgr_ok (h : WB W) (hr : RowOk W r) {i : Nat} {x : ND.Step} (hx : (steps W r.sc)[i]? = some x) (e : lgr W r i x = some q) : RowOk W q := by
  obtain ⟨e1, e2⟩ := lgr_some e
  obtain ⟨h1, h2, h3, h4⟩ := leads_some e1
  have hi := (List.getElem?_eq_some_iff.mp hx).1
  refine ⟨goal_to h (steps_in h hr.sc x (List.mem_of_getElem? hx)) h2, nextS_ok h.tab hr.st h1, fun m hm => ?_, ?_⟩
  · rw [e2] at hm
    rcases List.mem_append.mp hm with hm | hm
    · exact hr.ms m hm
    · simp at hm; subst hm
      exact ⟨hr.sc, by dsimp only; omega, by dsimp only; omega⟩
  · rw [e2, List.map_append]
    refine List.nodup_append.mpr ⟨hr.nd, by simp, fun a ha b hb e => ?_⟩
    simp at hb
    subst hb; subst e
    rcases List.mem_append.mp ha with ha | ha
    · exact h4 ha
    · simp at ha; exact h3 ha
theorem longer_ok (h : WB W) (hr : RowOk W r) (hq : q ∈ longer W r) : RowOk W q := by
  obtain ⟨j, x, h1, h2⟩ := mem_longer.mp hq
  exact lgr_ok h hr h1 h2
theorem nd_le {α : Type} [DecidableEq α] : ∀ {l m : List α}, l.Nodup → (∀ x ∈ l, x ∈ m) → l.length ≤ m.length
  | [], m, _, _ => Nat.zero_le _
  | x :: l, m, nd, h => by
    obtain ⟨h1, h2⟩ := List.nodup_cons.mp nd
    have := nd_le (l := l) (m := m.erase x) h2 fun y hy => (List.mem_erase_of_ne fun e => h1 (by rw [← e]; exact hy)).mpr (h y (List.mem_cons_of_mem _ hy))
    have hx := h x List.mem_cons_self
    rw [List.length_erase_of_mem hx] at this
    have := List.length_pos_of_mem hx
    rw [List.length_cons]; omega
theorem RowOk.len (h : RowOk W r) : r.ms.length < W.net.scopes.length := by
  have := nd_le (m := (List.range W.net.scopes.length).map fun n : Nat => (n : Int)) h.nd fun x hx => by
    have hb : 0 ≤ x ∧ x < W.net.scopes.length := by
      rcases List.mem_append.mp hx with hx | hx
      · obtain ⟨m, hm, rfl⟩ := List.mem_map.mp hx
        exact (h.ms m hm).1
      · simp at hx; subst hx; exact h.sc
    exact List.mem_map.mpr ⟨x.toNat, List.mem_range.mpr (by omega), by omega⟩
  simp at this
  omega
inductive Gone (W : World) (sc st : Int) : Row → Prop
  | nil : Gone W sc st ⟨[], sc, st⟩
  | step {r q : Row} : Gone W sc st r → q ∈ longer W r → Gone W sc st q
variable {sc st : Int}
theorem Gone.ok (h : WB W) (h0 : RowOk W ⟨[], sc, st⟩) (g : Gone W sc st r) : RowOk W r := by
  induction g with
  | nil => exact h0
  | step _ hq ih => exact longer_ok h ih hq
theorem Gone.fn (g : Gone W sc st r) : ∀ {q : Row}, Gone W sc st q → r.ms = q.ms → r = q := by
  induction g with
  | nil =>
    intro q g e
    cases g with
    | nil => rfl
    | step _ hq => obtain ⟨i, h⟩ := longer_ms hq; rw [h] at e; simp at e
  | step g hq ih =>
    intro q g2 e
    obtain ⟨i, x, h1, h2⟩ := mem_longer.mp hq
    cases g2 with
    | nil => rw [lgr_ms h2] at e; simp at e
    | step g3 hq3 =>
      obtain ⟨j, y, k1, k2⟩ := mem_longer.mp hq3
      rw [lgr_ms h2, lgr_ms k2] at e
      obtain ⟨e1, e2⟩ := List.append_inj' e rfl
      have e3 := ih g3 e1
      subst e3
      simp at e2
      have e2 : i = j := by omega
      subst e2
      rw [h1] at k1; cases k1
      rw [h2] at k2; cases k2
      rfl
theorem Gone.at (g : Gone W sc st r) : ∀ {j : Nat} {m : Mk}, r.ms[j]? = some m → ∃ (p q : Row) (x : ND.Step) (i : Nat), Gone W sc st p ∧ p.ms = r.ms.take j ∧ m = ⟨p.sc, i⟩ ∧ (steps W p.sc)[i]? = some x ∧ lgr W p i x = some q ∧ Gone W sc st q ∧ q.ms = r.ms.take (j + 1) := by
  induction g with
  | nil => intro j m h; simp at h
  | @step p q g hq ih =>
    intro j m h
    obtain ⟨i, x, h1, h2⟩ := mem_longer.mp hq
    have e := lgr_ms h2
    by_cases c : j < p.ms.length
    · rw [e, List.getElem?_append_left c] at h
      obtain ⟨p2, q2, x2, i2, k1, k2, k3, k4, k5, k6, k7⟩ := ih h
      refine ⟨p2, q2, x2, i2, k1, ?_, k3, k4, k5, k6, ?_⟩
      · rw [k2, e, List.take_append_of_le_length (by omega)]
      · rw [k7, e, List.take_append_of_le_length (by omega)]
    · have hl := (List.getElem?_eq_some_iff.mp h).1
      have hj : j = p.ms.length := by rw [e] at hl; simp at hl; omega
      rw [e, List.getElem?_append_right (by omega), hj, Nat.sub_self] at h
      cases h
      refine ⟨p, q, x, i, g, ?_, rfl, h1, h2, .step g hq, ?_⟩
      · rw [e, hj, List.take_left]
      · rw [e, hj, ← e, List.take_of_length_le (by rw [e]; simp)]
structure BfJ (W : World) (sc st : Int) (rows : List Row) (k : Nat) : Prop where
  le : k ≤ rows.length
  go : ∀ r ∈ rows, Gone W sc st r
  hd : ⟨[], sc, st⟩ ∈ rows
  cl : ∀ (i : Nat) (r : Row), i < k → rows[i]? = some r → ∀ q ∈ longer W r, q ∈ rows
  fr : ∀ q ∈ rows, q.ms = [] ∨ ∃ (i : Nat) (r : Row), i < k ∧ rows[i]? = some r ∧ q ∈ longer W r
  nd : rows.Nodup
structure BfI (W : World) (B : Nat) (sc st : Int) (rows : List Row) (k : Nat) : Prop extends BfJ W sc st rows k where
  wt : k + ((rows.drop k).map fun r => wt B (W.net.scopes.length - r.ms.length)).sum ≤ wt B W.net.scopes.length
theorem BfJ.start : BfJ W sc st [⟨[], sc, st⟩] 0 :=
  ⟨Nat.zero_le _, fun r hr => by simp at hr; subst hr; exact .nil, by simp, fun _ _ h => absurd h (by omega), fun q hq => by simp at hq; subst hq; exact .inl rfl, by simp⟩
theorem BfI.start {B : Nat} : BfI W B sc st [⟨[], sc, st⟩] 0 := ⟨.start, by simp⟩
theorem sum_le {α : Type} {f : α → Nat} {c : Nat} : ∀ {l : List α}, (∀ x ∈ l, f x ≤ c) → (l.map f).sum ≤ l.length * c
  | [], _ => by simp
  | x :: l, h => by
    have h1 := h x List.mem_cons_self
    have h2 := sum_le (l := l) fun y hy => h y (List.mem_cons_of_mem _ hy)
    rw [List.map_cons, List.sum_cons, List.length_cons, Nat.add_mul]; omega
theorem le_sum {α : Type} {f : α → Nat} : ∀ {l : List α}, (∀ x ∈ l, 1 ≤ f x) → l.length ≤ (l.map f).sum
  | [], _ => by simp
  | x :: l, h => by
    have h1 := h x List.mem_cons_self
    have h2 := le_sum (l := l) fun y hy => h y (List.mem_cons_of_mem _ hy)
    rw [List.map_cons, List.sum_cons, List.length_cons]; omega
theorem BfI.len {B : Nat} {rows : List Row} {k : Nat} (h : BfI W B sc st rows k) : rows.length ≤ WY.wt B W.net.scopes.length := by
  have h1 := h.wt
  have h2 := le_sum (f := fun r : Row => WY.wt B (W.net.scopes.length - r.ms.length)) (l := rows.drop k) fun x _ => wt_pos _
  have h3 := h.le
  rw [List.length_drop] at h2
  omega
theorem BfJ.step {rows : List Row} {k : Nat} (hW : WB W) (h0 : RowOk W ⟨[], sc, st⟩) (h : BfJ W sc st rows k) (hr : rows[k]? = some r) : BfJ W sc st (rows ++ longer W r) (k + 1) := by
  have hk := (List.getElem?_eq_some_iff.mp hr).1
  have hrm := List.mem_of_getElem? hr
  have hro := (h.go r hrm).ok hW h0
  refine ⟨by rw [List.length_append]; omega, fun x hx => ?_, List.mem_append_left _ h.hd, fun i x hi hx q hq => ?_, fun q hq => ?_, ?_⟩
  · rcases List.mem_append.mp hx with hx | hx
    · exact h.go x hx
    · exact .step (h.go r hrm) hx
  · by_cases c : i < k
    · rw [List.getElem?_append_left (by omega)] at hx
      exact List.mem_append_left _ (h.cl i x c hx q hq)
    · have : i = k := by omega
      subst this
      rw [List.getElem?_append_left hk, hr] at hx
      cases hx
      exact List.mem_append_right _ hq
  · rcases List.mem_append.mp hq with hq | hq
    · rcases h.fr q hq with e | ⟨i, x, h1, h2, h3⟩
      · exact .inl e
      · exact .inr ⟨i, x, by omega, by rw [List.getElem?_append_left (by omega)]; exact h2, h3⟩
    · exact .inr ⟨k, r, by omega, by rw [List.getElem?_append_left hk]; exact hr, hq⟩
  · refine List.nodup_append.mpr ⟨h.nd, lgrs_nodup, fun a ha b hb e => ?_⟩
    subst e
    obtain ⟨i, hi⟩ := longer_ms hb
    rcases h.fr a ha with e | ⟨j, x, h1, h2, h3⟩
    · rw [hi] at e; simp at e
    · obtain ⟨i2, hi2⟩ := longer_ms h3
      rw [hi] at hi2
      obtain ⟨e1, _⟩ := List.append_inj' hi2 rfl
      have e2 := (h.go r hrm).fn (h.go x (List.mem_of_getElem? h2)) e1
      subst e2
      have := (List.getElem?_inj (List.getElem?_eq_some_iff.mp h2).1 h.nd).mp (h2.trans hr.symm)
      omega
theorem BfI.step {B : Nat} {rows : List Row} {k : Nat} (hW : WB W) (hB : ∀ s ∈ W.net.scopes, s.1.length ≤ B) (h0 : RowOk W ⟨[], sc, st⟩) (h : BfI W B sc st rows k) (hr : rows[k]? = some r) : BfI W B sc st (rows ++ longer W r) (k + 1) := by
  have hk := (List.getElem?_eq_some_iff.mp hr).1
  have hrm := List.mem_of_getElem? hr
  have hro := (h.go r hrm).ok hW h0
  refine ⟨h.toBfJ.step hW h0 hr, ?_⟩
  have h1 := h.wt
  have e : rows.drop k = r :: rows.drop (k + 1) := by
    obtain ⟨_, e⟩ := List.getElem?_eq_some_iff.mp hr
    rw [← e]; exact List.drop_eq_getElem_cons hk
  rw [e, List.map_cons, List.sum_cons] at h1
  have hlen := hro.len
  rw [List.drop_append_of_le_length (by omega), List.map_append, List.sum_append]
  have h2 : ((longer W r).map fun r => WY.wt B (W.net.scopes.length - r.ms.length)).sum ≤ B * WY.wt B (W.net.scopes.length - r.ms.length - 1) := by
    have h3 := sum_le (f := fun r : Row => WY.wt B (W.net.scopes.length - r.ms.length)) (c := WY.wt B (W.net.scopes.length - r.ms.length - 1)) (l := longer W r) fun q hq => by
      obtain ⟨i, hi⟩ := longer_ms hq
      rw [hi, List.length_append, List.length_singleton, show W.net.scopes.length - (r.ms.length + 1) = W.net.scopes.length - r.ms.length - 1 by omega]
      exact Nat.le_refl _
    have h4 : (longer W r).length ≤ B := Nat.le_trans lgrs_len (hB _ (getI_mem (d := (([], []) : ND.Scope)) hro.sc))
    exact Nat.le_trans h3 (Nat.mul_le_mul_right _ h4)
  have h5 : WY.wt B (W.net.scopes.length - r.ms.length) = 1 + B * WY.wt B (W.net.scopes.length - r.ms.length - 1) := by
    rw [show W.net.scopes.length - r.ms.length = (W.net.scopes.length - r.ms.length - 1) + 1 by omega]
    rfl
  rw [h5] at h1
  omega
theorem BfJ.done {rows : List Row} (h : BfJ W sc st rows rows.length) : ∀ r, r ∈ rows ↔ Gone W sc st r := fun r => ⟨h.go r, fun g => by
  induction g with
  | nil => exact h.hd
  | step _ hq ih =>
    obtain ⟨i, hi⟩ := List.getElem?_of_mem ih
    exact h.cl i _ (List.getElem?_eq_some_iff.mp hi).1 hi _ hq⟩
theorem BfI.end_ {B : Nat} (hW : WB W) (hB : ∀ s ∈ W.net.scopes, s.1.length ≤ B) (h0 : RowOk W ⟨[], sc, st⟩) : ∀ (m : Nat) (rows : List Row) (k : Nat), BfI W B sc st rows k → WY.wt B W.net.scopes.length ≤ k + m → ∃ rows, BfI W B sc st rows rows.length
  | 0, rows, k, h, hm => by
    have h1 := h.len
    have h2 := h.le
    have e : k = rows.length := by omega
    subst e
    exact ⟨_, h⟩
  | m + 1, rows, k, h, hm => by
    by_cases c : k < rows.length
    · exact BfI.end_ hW hB h0 m _ _ (h.step hW hB h0 (List.getElem?_eq_getElem c)) (by omega)
    · have h2 := h.le
      have e : k = rows.length := by omega
      subst e
      exact ⟨_, h⟩
structure WOk (W : World) : Prop extends WB W where
  s40 : W.net.scopes.length ≤ 40
  tl : ∀ s ∈ W.net.scopes, s.1.length ≤ 12 ∧ s.2.length ≤ 12
  few : ∀ ans, ans.length = W.net.quests.length → (∀ x ∈ ans, AnsOk W.net.things.length x) → ∀ sc st : Int, 0 ≤ sc ∧ sc < W.net.scopes.length → 0 ≤ st ∧ st < W.tab.states.length →
    ∀ rs : List Row, rs.Nodup → (∀ r ∈ rs, Gone ⟨W.net, ans, W.tab⟩ sc st r) → rs.length ≤ 200
theorem WOk.few1 (h : WOk W) (h0 : RowOk W ⟨[], sc, st⟩) {rs : List Row} (nd : rs.Nodup) (hg : ∀ r ∈ rs, Gone W sc st r) : rs.length ≤ 200 := h.few W.ans h.len h.an sc st h0.sc h0.st rs nd hg
end
theorem eqv_mk (a b : Mk) : PyData.eqv (eMk a) (eMk b) = decide (a = b) := by
  obtain ⟨x, y⟩ := a
  obtain ⟨u, v⟩ := b
  simp [eMk, PyData.eqv, PyData.eqvAll]
  by_cases h : x = u <;> by_cases h2 : y = v <;> simp [h, h2]
theorem eqv_mks : ∀ a b : List Mk, PyData.eqvAll (a.map eMk) (b.map eMk) = decide (a = b)
  | [], [] => by simp [PyData.eqvAll]
  | [], b :: bs => by simp [PyData.eqvAll]
  | a :: as, [] => by simp [PyData.eqvAll]
  | a :: as, b :: bs => by
    rw [List.map_cons, List.map_cons, PyData.eqvAll, eqv_mk, eqv_mks as bs]
    by_cases h : a = b <;> by_cases h2 : as = bs <;> simp [h, h2]
theorem alike_mk (a b : Mk) : PySem.W.alike (eMk a) (eMk b) = true := by simp [eMk, PySem.W.alike, PySem.W.alikeAll]
theorem alike_mks : ∀ a b : List Mk, PySem.W.alikeAll (a.map eMk) (b.map eMk) = true
  | [], b => by cases b <;> simp [PySem.W.alikeAll]
  | a :: as, [] => by simp [PySem.W.alikeAll]
  | a :: as, b :: bs => by
    rw [List.map_cons, List.map_cons, PySem.W.alikeAll, alike_mk, alike_mks as bs]; rfl
theorem alike_row (a b : Row) : PySem.W.alike (eRow a) (eRow b) = true := by
  simp only [eRow, PySem.W.alike, PySem.W.alikeAll, alike_mks, Bool.and_self]
theorem eqv_row {a b : Row} (h : PyData.eqv (eRow a) (eRow b) = true) : a = b := by
  obtain ⟨x, y, z⟩ := a
  obtain ⟨u, v, w⟩ := b
  simp only [eRow, PyData.eqv, PyData.eqvAll, eqv_mks] at h
  simp at h
  obtain ⟨rfl, rfl, rfl⟩ := h
  rfl
end WY

set_option Elab.async false
set_option linter.all false
set_option maxRecDepth 100000
namespace KD
open PySem L2 PL
structure Kd (α : Type) where
  o : α → Ob
  d : Nat → α → D
  e : α → PyData
  r : α → RT
  vw : ∀ (S : Sto) (n : Nat) (a : α), S[n]? = some (o a) → Vw S (d n a) (e a)
  vr : ∀ (S : Sto) (U : List Nat) (n : Nat) (a : α), S[n]? = some (o a) → VR S U (d n a) (r a) [n]
  al : ∀ (a : α) (L : Nat), al (r a) L = (d L a, [o a])
section
variable {α : Type}
end
section
variable {α : Type} {k : Kd α} {S T : Sto} {ps : List (Nat × α)}
def Kd.dd (k : Kd α) (p : Nat × α) : D := k.d p.1 p.2
def In (k : Kd α) (S : Sto) (ps : List (Nat × α)) : Prop := ∀ p ∈ ps, S[p.1]? = some (k.o p.2)
theorem In.nil : In k S [] := fun _ h => by cases h
theorem In.tail {p : Nat × α} (h : In k S (p :: ps)) : In k S ps := fun q hq => h q (List.mem_cons_of_mem _ hq)
theorem In.vws' : ∀ {ps : List (Nat × α)}, In k S ps → Vws S (ps.map k.dd) (ps.map fun p => k.e p.2)
  | [], _ => .nil
  | p :: ps, h => .cons (k.vw _ _ _ (h p List.mem_cons_self)) (In.vws' h.tail)
theorem In.vws (h : In k S ps) {xs : List α} (e : ps.map (·.2) = xs) : Vws S (ps.map k.dd) (xs.map k.e) := by
  have := h.vws'
  rw [← e, List.map_map]; exact this
theorem In.keep {S2 : Sto} {U : List Nat} (h : In k S ps) (q : Keep U S S2) (d : ∀ p ∈ ps, p.1 ∉ U) : In k S2 ps := fun p hp => q _ _ (d p hp) (h p hp)
theorem In.app (h : In k S ps) : In k (S ++ T) ps := fun p hp => sto_app (h p hp)
theorem In.set {n : Nat} {o : Ob} (h : In k S ps) (d : ∀ p ∈ ps, p.1 ≠ n) : In k (S.set n o) ps := fun p hp => by
  rw [List.getElem?_set_ne (fun e => d p hp e.symm)]; exact h p hp
theorem In.snoc {p : Nat × α} (h : In k S ps) (q : S[p.1]? = some (k.o p.2)) : In k S (ps ++ [p]) := fun x hx => by
  rcases List.mem_append.mp hx with hx | hx
  · exact h x hx
  · simp at hx; subst hx; exact q
theorem In.lt (h : In k S ps) : ∀ p ∈ ps, p.1 < S.length := fun p hp => (List.getElem?_eq_some_iff.mp (h p hp)).1
structure Got (k : Kd α) (S S2 : Sto) (n : Nat) (ps : List (Nat × α)) (rs : List α) : Prop where
  old : ∀ (m : Nat) (o : Ob), S[m]? = some o → S2[m]? = some o
  l : S2[n]? = some (.lst (ps.map k.dd))
  i : In k S2 ps
  s : ps.map (·.2) = rs
  nd : (ps.map (·.1)).Nodup
  b : ∀ p ∈ ps, S.length ≤ p.1 ∧ p.1 < n
  n : S.length ≤ n
theorem Got.len {S2 : Sto} {n : Nat} {rs : List α} (h : Got k S S2 n ps rs) : ps.length = rs.length := by rw [← h.s, List.length_map]
theorem Got.vw {S2 : Sto} {n : Nat} {rs : List α} (h : Got k S S2 n ps rs) : Vw S2 (.r n) (.list (rs.map k.e)) := .r h.l (h.i.vws h.s)
end
end KD

set_option Elab.async false
set_option linter.all false
set_option maxRecDepth 100000
namespace KD
open PySem L2 PL
structure Put {α : Type} (k : Kd α) (S2 S : Sto) (n0 : Nat) (qs : List (Nat × α)) (xs : List α) : Prop where
  l : S[n0]? = some (.lst (qs.map k.dd))
  i : In k S qs
  e : qs.map (·.2) = xs
  nd : (qs.map (·.1)).Nodup
  b : ∀ q ∈ qs, S2.length ≤ q.1
  k : Keep [n0] S2 S
  z : n0 < S2.length
variable {α : Type} {k : Kd α}
theorem Put.new {S : Sto} {n0 : Nat} (h : S[n0]? = some (.lst [])) : Put k S S n0 [] [] := ⟨h, .nil, rfl, List.nodup_nil, fun _ h => (by cases h), .refl, (List.getElem?_eq_some_iff.mp h).1⟩
theorem Put.len {S2 S : Sto} {n0 : Nat} {qs : List (Nat × α)} {xs : List α} (h : Put k S2 S n0 qs xs) : qs.length = xs.length := by rw [← h.e, List.length_map]
theorem Put.le {S2 S : Sto} {n0 : Nat} {qs : List (Nat × α)} {xs : List α} (h : Put k S2 S n0 qs xs) : S2.length ≤ S.length := by
  have hn := (List.getElem?_eq_some_iff.mp h.l).1
  by_cases c : S2.length ≤ 1
  · have := h.z; omega
  · by_cases c2 : n0 = S2.length - 1
    · have := h.z; omega
    · have h3 : S2.length - 1 < S2.length := by omega
      have := h.k (S2.length - 1) _ (by simp; omega) (List.getElem?_eq_getElem h3)
      have := (List.getElem?_eq_some_iff.mp this).1
      omega
theorem Put.app {S2 S T : Sto} {n0 : Nat} {qs : List (Nat × α)} {xs : List α} (h : Put k S2 S n0 qs xs) : Put k S2 (S ++ T) n0 qs xs := ⟨sto_app h.l, h.i.app, h.e, h.nd, h.b, h.k.trans .app, h.z⟩
theorem Put.push1 {S2 S : Sto} {n0 : Nat} {qs : List (Nat × α)} {xs : List α} (h : Put k S2 S n0 qs xs) {ob : Ob} {w : α} {d : D} (ho : ob = k.o w) (hd : d = k.d S.length w) :
    Put k S2 ((S ++ [ob]).set n0 (.lst (qs.map k.dd ++ [d]))) n0 (qs ++ [(S.length, w)]) (xs ++ [w]) := by
  subst ho; subst hd
  have hn := (List.getElem?_eq_some_iff.mp h.l).1
  have lt := h.i.lt
  have hz := h.le
  refine ⟨?_, ?_, by rw [List.map_append, h.e]; rfl, ?_, fun q hq => ?_, (h.k.trans Keep.app).trans (Keep.set (by simp)), h.z⟩
  · rw [List.getElem?_set_self (by rw [List.length_append]; omega), List.map_append]; rfl
  · refine In.snoc ((h.i.app).set fun q hq => by have := h.b q hq; have := h.z; omega) ?_
    rw [List.getElem?_set_ne (fun z : n0 = S.length => by omega)]
    exact sto_last
  · rw [List.map_append]
    refine List.nodup_append.mpr ⟨h.nd, by simp, fun a ha b hb e => ?_⟩
    obtain ⟨p, hp, rfl⟩ := List.mem_map.mp ha
    have := lt p hp
    simp at hb
    omega
  · rcases List.mem_append.mp hq with hq | hq
    · exact h.b q hq
    · simp at hq; subst hq; dsimp only; omega
theorem Put.push {S2 S : Sto} {n0 : Nat} {qs : List (Nat × α)} {xs : List α} (h : Put k S2 S n0 qs xs) {lit ob : Ob} {w : α} {d : D} (ho : ob = k.o w) (hd : d = k.d (S.length + 1) w) :
    Put k S2 ((S ++ [lit] ++ [ob]).set n0 (.lst (qs.map k.dd ++ [d]))) n0 (qs ++ [(S.length + 1, w)]) (xs ++ [w]) := by
  have := (h.app (T := [lit])).push1 (d := d) ho (by rw [hd, List.length_append]; rfl)
  rw [List.length_append] at this
  exact this
end KD

set_option Elab.async false
set_option linter.all false
set_option maxRecDepth 100000
namespace WY
open PySem L2 PL ND
structure TMk where
  sc : Int
  told : Bool
  ix : Int
  deriving DecidableEq
def tword (b : Bool) : Str := if b = true then "told" else "step"
def eTM (m : TMk) : PyData := .tuple [.int m.sc, .str (tword m.told), .int m.ix]
def stepM (m : Mk) : TMk := ⟨m.sc, false, m.ix⟩
abbrev Way := List TMk
def eWay (w : Way) : PyData := .list (w.map eTM)
def eOwe (p : Way × Int) : PyData := .tuple [eWay p.1, .int p.2]
def picks {α β : Type} (f : Nat → α → Option β) : Nat → List α → List β
  | _, [] => []
  | i, x :: xs => (f i x).toList ++ picks f (i + 1) xs
section
variable {α β : Type} {f : Nat → α → Option β}
theorem mem_picks {q : β} : ∀ {xs : List α} {i : Nat}, q ∈ picks f i xs ↔ ∃ j x, xs[j]? = some x ∧ f (i + j) x = some q
  | [], i => by simp [picks]
  | y :: xs, i => by
    unfold picks
    rw [List.mem_append, mem_picks (xs := xs)]
    constructor
    · rintro (h | ⟨j, x, h1, h2⟩)
      · exact ⟨0, y, rfl, by simpa using h⟩
      · exact ⟨j + 1, x, by simpa using h1, by rw [← h2, show i + (j + 1) = i + 1 + j by omega]⟩
    · rintro ⟨j, x, h1, h2⟩
      cases j with
      | zero => simp at h1; subst h1; exact .inl (by simpa using h2)
      | succ j => exact .inr ⟨j, x, by simpa using h1, by rw [← h2, show i + (j + 1) = i + 1 + j by omega]⟩
theorem picks_len : ∀ {xs : List α} {i : Nat}, (picks f i xs).length ≤ xs.length
  | [], i => Nat.le_refl _
  | y :: xs, i => by
    unfold picks
    rw [List.length_append, List.length_cons]
    have := picks_len (xs := xs) (i := i + 1)
    cases f i y <;> simp <;> omega
theorem flat_len {γ : Type} {g : α → List γ} {n : Nat} : ∀ {xs : List α}, (∀ x ∈ xs, (g x).length ≤ n) → (xs.flatMap g).length ≤ xs.length * n
  | [], _ => by simp
  | x :: xs, h => by
    rw [List.flatMap_cons, List.length_append, List.length_cons, Nat.add_mul]
    have := flat_len (xs := xs) fun y hy => h y (List.mem_cons_of_mem _ hy)
    have := h x List.mem_cons_self
    omega
end
def endsB (t : TB.XTab) (st : Int) (l : Str) : Bool := decide (l ∈ (getI t.states ([], []) st).2)
def fnd (W : World) (nm : Str) (r : Row) (i : Nat) (x : ND.Tell) : Option Way := if x.name = nm ∧ endsB W.tab r.st x.lab = true then some (r.ms.map stepM ++ [⟨r.sc, true, i⟩]) else none
def finds (W : World) (nm : Str) (r : Row) : List Way := picks (fnd W nm r) 0 (tells W r.sc)
def owd (W : World) (r : Row) (i : Nat) (x : ND.Step) : Option (Way × Int) := match nextS W.tab r.st x.lab with
  | none => none
  | some _ => match goal W.net W.ans x with
    | .opn q => some (r.ms.map stepM ++ [⟨r.sc, false, i⟩], q)
    | _ => none
def owes (W : World) (r : Row) : List (Way × Int) := picks (owd W r) 0 (steps W r.sc)
theorem fnd_some {W : World} {nm : Str} {r : Row} {i : Nat} {x : ND.Tell} {w : Way} (h : fnd W nm r i x = some w) : x.name = nm ∧ endsB W.tab r.st x.lab = true ∧ w = r.ms.map stepM ++ [⟨r.sc, true, i⟩] := by
  unfold fnd at h
  split at h
  · rename_i c; cases h; exact ⟨c.1, c.2, rfl⟩
  · cases h
theorem owd_some {W : World} {r : Row} {i : Nat} {x : ND.Step} {p : Way × Int} (h : owd W r i x = some p) : (∃ t, nextS W.tab r.st x.lab = some t) ∧ goal W.net W.ans x = .opn p.2 ∧ p.1 = r.ms.map stepM ++ [⟨r.sc, false, i⟩] := by
  unfold owd at h
  cases h1 : nextS W.tab r.st x.lab with
  | none => rw [h1] at h; cases h
  | some t =>
    rw [h1] at h
    dsimp only at h
    cases h2 : goal W.net W.ans x with
    | to n => rw [h2] at h; cases h
    | no => rw [h2] at h; cases h
    | opn q => rw [h2] at h; cases h; exact ⟨⟨t, rfl⟩, rfl, rfl⟩
theorem mem_finds {W : World} {nm : Str} {r : Row} {w : Way} (h : w ∈ finds W nm r) : ∃ (i : Nat) (x : ND.Tell), (tells W r.sc)[i]? = some x ∧ x.name = nm ∧ endsB W.tab r.st x.lab = true ∧ w = r.ms.map stepM ++ [⟨r.sc, true, i⟩] := by
  obtain ⟨j, x, h1, h2⟩ := mem_picks.mp h
  rw [Nat.zero_add] at h2
  exact ⟨j, x, h1, fnd_some h2⟩
theorem mem_owes {W : World} {r : Row} {p : Way × Int} (h : p ∈ owes W r) : ∃ (i : Nat) (x : ND.Step), (steps W r.sc)[i]? = some x ∧ (∃ t, nextS W.tab r.st x.lab = some t) ∧ goal W.net W.ans x = .opn p.2 ∧ p.1 = r.ms.map stepM ++ [⟨r.sc, false, i⟩] := by
  obtain ⟨j, x, h1, h2⟩ := mem_picks.mp h
  rw [Nat.zero_add] at h2
  exact ⟨j, x, h1, owd_some h2⟩
theorem finds_len {W : World} (h : WOk W) {nm : Str} {r : Row} (hr : RowOk W r) : (finds W nm r).length ≤ 12 :=
  Nat.le_trans picks_len (h.tl _ (getI_mem (d := (([], []) : ND.Scope)) hr.sc)).2
theorem tword_inj {a b : Bool} (h : tword a = tword b) : a = b := by
  cases a <;> cases b <;> first | rfl | exact absurd h (by decide +kernel)
theorem eqv_tm (a b : TMk) : PyData.eqv (eTM a) (eTM b) = decide (a = b) := by
  obtain ⟨x, s, y⟩ := a
  obtain ⟨u, t, v⟩ := b
  simp only [eTM, PyData.eqv, PyData.eqvAll]
  by_cases h : x = u
  · by_cases h2 : y = v
    · by_cases h3 : s = t
      · subst h; subst h2; subst h3; simp
      · have : tword s ≠ tword t := fun z => h3 (tword_inj z)
        simp [h, h2, h3, this]
    · simp [h, h2]
  · simp [h]
theorem eqv_tms : ∀ a b : List TMk, PyData.eqvAll (a.map eTM) (b.map eTM) = decide (a = b)
  | [], [] => by simp [PyData.eqvAll]
  | [], b :: bs => by simp [PyData.eqvAll]
  | a :: as, [] => by simp [PyData.eqvAll]
  | a :: as, b :: bs => by
    rw [List.map_cons, List.map_cons, PyData.eqvAll, eqv_tm, eqv_tms as bs]
    by_cases h : a = b <;> by_cases h2 : as = bs <;> simp [h, h2]
theorem eqv_way (a b : Way) : PyData.eqv (eWay a) (eWay b) = decide (a = b) := by
  unfold eWay
  rw [PyData.eqv]; exact eqv_tms a b
theorem alike_tm (a b : TMk) : PySem.W.alike (eTM a) (eTM b) = true := by simp [eTM, PySem.W.alike, PySem.W.alikeAll]
theorem alike_tms : ∀ a b : List TMk, PySem.W.alikeAll (a.map eTM) (b.map eTM) = true
  | [], b => by cases b <;> simp [PySem.W.alikeAll]
  | a :: as, [] => by simp [PySem.W.alikeAll]
  | a :: as, b :: bs => by
    rw [List.map_cons, List.map_cons, PySem.W.alikeAll, alike_tm, alike_tms as bs]; rfl
theorem alike_way (a b : Way) : PySem.W.alike (eWay a) (eWay b) = true := by
  unfold eWay
  simp only [PySem.W.alike]; exact alike_tms a b
abbrev zT (m : TMk) : D := .z (eTM m)
def sortY (ws : List Way) : List Way := ws.mergeSort (PySem.W.dataLe false eWay)
def sortO (ws : List (Way × Int)) : List (Way × Int) := ws.mergeSort (PySem.W.dataLe false eOwe)
theorem mem_sortY {w : Way} {ws : List Way} : w ∈ sortY ws ↔ w ∈ ws := (List.mergeSort_perm ws _).mem_iff
theorem mem_sortO {w : Way × Int} {ws : List (Way × Int)} : w ∈ sortO ws ↔ w ∈ ws := (List.mergeSort_perm ws _).mem_iff
end WY

set_option Elab.async false
set_option linter.all false
set_option maxRecDepth 100000
namespace WY
open PySem L2 PL ND
def rowLen (s : ND.Scope) (b : Bool) : Nat := if b = true then s.2.length else s.1.length
structure MkIn (n : Net) (m : TMk) : Prop where
  s : 0 ≤ m.sc ∧ m.sc < n.scopes.length
  i : 0 ≤ m.ix ∧ m.ix < rowLen (getI n.scopes ([], []) m.sc) m.told
def noS : ND.Step := ⟨⟨#[]⟩, false, 0⟩
def noT : ND.Tell := ⟨⟨#[]⟩, ⟨#[]⟩, false, 0⟩
def labM (n : Net) (m : TMk) : Str := if m.told = true then (getI (getI n.scopes ([], []) m.sc).2 noT m.ix).lab else (getI (getI n.scopes ([], []) m.sc).1 noS m.ix).lab
def hidesZ (n : Net) (od : List OR.Pr) : List (TMk × TMk) → Bool
  | [] => false
  | (a, b) :: r => if a = b then hidesZ n od r else decide ((labM n a, labM n b) ∈ od)
def hidesB (n : Net) (od : List OR.Pr) (a b : Way) : Bool := hidesZ n od (a.zip b)
def WayIn (n : Net) (w : Way) : Prop := (∀ m ∈ w, MkIn n m) ∧ w.length ≤ 41
theorem row_in {W : World} (h : WOk W) {r : Row} (hr : RowOk W r) : ∀ m ∈ r.ms.map stepM, MkIn W.net m := fun m hm => by
  obtain ⟨k, hk, rfl⟩ := List.mem_map.mp hm
  have := hr.ms k hk
  exact ⟨this.1, this.2⟩
theorem finds_in {W : World} (h : WOk W) {nm : Str} {r : Row} (hr : RowOk W r) {w : Way} (hw : w ∈ finds W nm r) : WayIn W.net w := by
  obtain ⟨i, x, h1, _, _, rfl⟩ := mem_finds hw
  have hl := hr.len
  have h9 := h.s40
  refine ⟨fun m hm => ?_, by rw [List.length_append, List.length_map, List.length_singleton]; omega⟩
  rcases List.mem_append.mp hm with hm | hm
  · exact row_in h hr m hm
  · simp at hm; subst hm
    exact ⟨hr.sc, Int.natCast_nonneg i, Int.ofNat_lt.mpr (List.getElem?_eq_some_iff.mp h1).1⟩
end WY

set_option Elab.async false
set_option linter.all false
set_option maxRecDepth 100000
namespace WY
open PySem L2 PL ND
section
variable {n : Net} {od : List OR.Pr}
theorem hides_nil {b : Way} : hidesB n od [] b = false := by cases b <;> rfl
theorem hides_nil2 {a : Way} : hidesB n od a [] = false := by cases a <;> rfl
theorem hides_cons {x y : TMk} {a b : Way} : hidesB n od (x :: a) (y :: b) = if x = y then hidesB n od a b else decide ((labM n x, labM n y) ∈ od) := rfl
theorem hides_iff : ∀ {a b : Way}, hidesB n od a b = true ↔ ∃ pre x y ra rb, a = pre ++ x :: ra ∧ b = pre ++ y :: rb ∧ x ≠ y ∧ (labM n x, labM n y) ∈ od
  | [], b => by
    rw [hides_nil]
    refine ⟨fun h => (by cases h), fun ⟨pre, x, y, ra, rb, h, _⟩ => by cases pre <;> cases h⟩
  | x :: a, [] => by
    rw [hides_nil2]
    refine ⟨fun h => (by cases h), fun ⟨pre, x, y, ra, rb, _, h, _⟩ => by cases pre <;> cases h⟩
  | x :: a, y :: b => by
    rw [hides_cons]
    by_cases e : x = y
    · rw [if_pos e, hides_iff (a := a) (b := b)]
      subst e
      constructor
      · rintro ⟨pre, u, v, ra, rb, rfl, rfl, h1, h2⟩
        exact ⟨x :: pre, u, v, ra, rb, rfl, rfl, h1, h2⟩
      · rintro ⟨pre, u, v, ra, rb, h1, h2, h3, h4⟩
        cases pre with
        | nil => cases h1; cases h2; exact absurd rfl h3
        | cons p pre => cases h1; cases h2; exact ⟨pre, u, v, ra, rb, rfl, rfl, h3, h4⟩
    · rw [if_neg e, decide_eq_true_iff]
      constructor
      · intro h; exact ⟨[], x, y, a, b, rfl, rfl, e, h⟩
      · rintro ⟨pre, u, v, ra, rb, h1, h2, h3, h4⟩
        cases pre with
        | nil => cases h1; cases h2; exact h4
        | cons p pre => cases h1; cases h2; exact absurd rfl e
structure OdOk (od : List OR.Pr) : Prop where
  nr : ∀ p ∈ od, p.1 ≠ p.2
  tr : ∀ p ∈ od, ∀ q ∈ od, p.2 = q.1 → (p.1, q.2) ∈ od
theorem TOk.odk {t : TB.XTab} (h : TOk t) : OdOk t.order := ⟨h.nr, h.tr⟩
theorem hides_tr (ho : OdOk od) : ∀ {a b c : Way}, hidesB n od a b = true → hidesB n od b c = true → hidesB n od a c = true
  | [], b, c, h, _ => by rw [hides_nil] at h; cases h
  | x :: a, [], c, h, _ => by rw [hides_nil2] at h; cases h
  | x :: a, y :: b, [], _, h => by rw [hides_nil2] at h; cases h
  | x :: a, y :: b, z :: c, h1, h2 => by
    rw [hides_cons] at h1 h2 ⊢
    by_cases e1 : x = y
    · subst e1
      rw [if_pos rfl] at h1
      by_cases e2 : x = z
      · subst e2
        rw [if_pos rfl] at h2 ⊢
        exact hides_tr ho h1 h2
      · rw [if_neg e2] at h2 ⊢; exact h2
    · rw [if_neg e1] at h1
      have h1' := of_decide_eq_true h1
      by_cases e2 : y = z
      · subst e2
        rw [if_neg e1]; exact h1
      · rw [if_neg e2] at h2
        have h2' := of_decide_eq_true h2
        have h3 := ho.tr _ h1' _ h2' rfl
        have e3 : x ≠ z := fun e => by subst e; exact ho.nr _ h3 rfl
        rw [if_neg e3]
        exact decide_eq_true h3
def noneB (n : Net) (od : List OR.Pr) (ws : List Way) (w : Way) : Bool := ws.all fun v => !hidesB n od v w
def seenB (n : Net) (od : List OR.Pr) (ws : List Way) : List Way := ws.filter fun w => noneB n od ws w
theorem noneB_iff {ws : List Way} {w : Way} : noneB n od ws w = true ↔ ∀ v ∈ ws, hidesB n od v w = false := by
  unfold noneB
  rw [List.all_eq_true]
  exact ⟨fun h v hv => by have := h v hv; simpa using this, fun h v hv => by rw [h v hv]; rfl⟩
theorem mem_seen {ws : List Way} {w : Way} : w ∈ seenB n od ws ↔ w ∈ ws ∧ ∀ v ∈ ws, hidesB n od v w = false := by
  unfold seenB
  rw [List.mem_filter, noneB_iff]
abbrev Lb := Way × Str
def lbsOf (n : Net) (w : Way) : List Lb := w.mapIdx fun k m => (w.take k, labM n m)
end
def keyM (m : TMk) : NestedKey := .tup [.num m.sc, .text (tword m.told), .num m.ix]
def keyW (w : Way) : NestedKey := .tup (w.map keyM)
theorem nk_tm (m : TMk) : nkOf (eTM m) = some (keyM m) := rfl
theorem nks_tms : ∀ w : Way, nksOf (w.map eTM) = some (w.map keyM)
  | [] => rfl
  | m :: w => by
    rw [List.map_cons, nksOf, nk_tm, nks_tms w]; rfl
theorem keyM_depth (m : TMk) : (keyM m).depth ≤ 2 := by simp [keyM, NestedKey.depth, NestedKey.depthAll]
theorem keysM_depth : ∀ w : Way, NestedKey.depthAll (w.map keyM) ≤ 2
  | [] => by simp [NestedKey.depthAll]
  | m :: w => by
    rw [List.map_cons, NestedKey.depthAll]
    have := keyM_depth m
    have := keysM_depth w
    omega
theorem keyN_way (w : Way) : keyN (.z (.tuple (w.map eTM))) = some (keyW w) := by
  show ((nksOf (w.map eTM)).bind fun ks => if (NestedKey.tup ks).depth ≤ 8 then some (NestedKey.tup ks) else none) = _
  rw [nks_tms]
  dsimp only [Option.bind]
  rw [if_pos]
  · rfl
  · have := keysM_depth w
    rw [NestedKey.depth]; omega
theorem keyM_inj {a b : TMk} (h : keyM a = keyM b) : a = b := by
  obtain ⟨x, s, y⟩ := a
  obtain ⟨u, t, v⟩ := b
  simp [keyM] at h
  obtain ⟨rfl, h2, rfl⟩ := h
  rw [tword_inj h2]
theorem keyW_inj {a b : Way} (h : keyW a = keyW b) : a = b := by
  simp only [keyW, NestedKey.tup.injEq] at h
  induction a generalizing b with
  | nil => cases b with
    | nil => rfl
    | cons y b => cases h
  | cons x a ih =>
    cases b with
    | nil => cases h
    | cons y b =>
      rw [List.map_cons, List.map_cons] at h
      injection h with h1 h2
      rw [keyM_inj h1, ih h2]
end WY

set_option Elab.async false
set_option linter.all false
set_option maxRecDepth 100000
namespace WY
open PySem L2 PL ND
abbrev zL (l : Str) : D := .z (.str l)
theorem zL_inj {a b : List Str} (h : a.map zL = b.map zL) : a = b := by
  induction a generalizing b with
  | nil =>
    cases b with
    | nil => rfl
    | cons y b => cases h
  | cons x a ih =>
    cases b with
    | nil => cases h
    | cons y b =>
      rw [List.map_cons, List.map_cons] at h
      injection h with h1 h2
      injection h1 with h1
      injection h1 with h1
      rw [h1, ih h2]
theorem kAt_keys (p : Way) : ∀ es : List (Way × Nat), kAt (es.map fun e => (keyW e.1, D.r e.2)) (keyW p) = (es.find? fun e => decide (e.1 = p)).map fun e => .r e.2
  | [] => rfl
  | e :: es => by
    have ih := kAt_keys p es
    unfold kAt at ih ⊢
    rw [List.map_cons, List.find?_cons, List.find?_cons]
    by_cases c : e.1 = p
    · simp [c]
    · have c2 : keyW e.1 ≠ keyW p := fun z => c (keyW_inj z)
      simp only [c, c2, decide_false]
      exact ih
structure LbX (hx : HX) (b : Nat) (S : Sto) (m c : Nat) (T : List Lb) (es : List (Way × Nat)) : Prop where
  kd : KdAt hx S m (es.map fun e => (keyW e.1, D.r e.2))
  n1 : (es.map (·.1)).Nodup
  n2 : (es.map (·.2)).Nodup
  le : es.length ≤ c
  at_ : ∀ e ∈ es, b ≤ e.2 ∧ e.2 ≠ m ∧ ∃ ls : List Str, S[e.2]? = some (.lst (ls.map zL)) ∧ ls.length ≤ c ∧ ∀ l, l ∈ ls ↔ (e.1, l) ∈ T
  all : ∀ p l, (p, l) ∈ T → p ∈ es.map (·.1)
section
variable {hx : HX} {b : Nat} {S S' : Sto} {m c : Nat} {T : List Lb} {es : List (Way × Nat)}
theorem KdAt.keep {kvs : List (NestedKey × D)} (h : KdAt hx S m kvs) (k : ∀ o, S[m]? = some o → S'[m]? = some o) : KdAt hx S' m kvs := by
  cases h with
  | kd e => exact .kd (k _ e)
  | nil e => exact .nil (k _ e)
theorem KdAt.lt {kvs : List (NestedKey × D)} (h : KdAt hx S m kvs) : m < S.length := by
  cases h with
  | kd e => exact (List.getElem?_eq_some_iff.mp e).1
  | nil e => exact (List.getElem?_eq_some_iff.mp e).1
theorem LbX.new (h : S[m]? = some (.dic [])) : LbX hx b S m 0 [] [] := ⟨.nil h, List.nodup_nil, List.nodup_nil, Nat.le_refl _, fun _ h => (by cases h), fun _ _ h => (by cases h)⟩
theorem LbX.keep (h : LbX hx b S m c T es) {U : List Nat} (k : Keep U S S') (hm : m ∉ U) (he : ∀ e ∈ es, e.2 ∉ U) : LbX hx b S' m c T es :=
  ⟨KdAt.keep h.kd fun o e => k m o hm e, h.n1, h.n2, h.le, fun e hem => by
    obtain ⟨h1, h2, ls, h3, h4⟩ := h.at_ e hem
    exact ⟨h1, h2, ls, k _ _ (he e hem) h3, h4⟩, h.all⟩
theorem LbX.app (h : LbX hx b S m c T es) {R : Sto} : LbX hx b (S ++ R) m c T es := h.keep (U := []) .app (by simp) (by simp)
theorem LbX.mono (h : LbX hx b S m c T es) {c' : Nat} (hc : c ≤ c') : LbX hx b S m c' T es := ⟨h.kd, h.n1, h.n2, Nat.le_trans h.le hc, fun e he => by
  obtain ⟨h1, h2, ls, h3, h4, h5⟩ := h.at_ e he
  exact ⟨h1, h2, ls, h3, Nat.le_trans h4 hc, h5⟩, h.all⟩
theorem LbX.key (h : LbX hx b S m c T es) (p : Way) : (kAt (es.map fun e => (keyW e.1, D.r e.2)) (keyW p) = none ∧ p ∉ es.map (·.1) ∧ ∀ l, (p, l) ∉ T) ∨
    ∃ n, (p, n) ∈ es ∧ kAt (es.map fun e => (keyW e.1, D.r e.2)) (keyW p) = some (.r n) := by
  rw [kAt_keys]
  cases e : es.find? fun e => decide (e.1 = p) with
  | none =>
    have hn : p ∉ es.map (·.1) := fun hm => by
      obtain ⟨x, hx, hp⟩ := List.mem_map.mp hm
      have := List.find?_eq_none.mp e x hx
      simp [hp] at this
    exact .inl ⟨rfl, hn, fun l hl => hn (h.all p l hl)⟩
  | some x =>
    have h1 := List.mem_of_find?_eq_some e
    have h2 := List.find?_some e
    have h2 : x.1 = p := of_decide_eq_true h2
    obtain ⟨x1, x2⟩ := x
    subst h2
    exact .inr ⟨x2, h1, rfl⟩
theorem LbX.fresh (h : LbX hx b S m c T es) {p : Way} {n : Nat} (hp : p ∉ es.map (·.1)) (hT : ∀ l, (p, l) ∉ T) (hn : S[n]? = some (.lst [])) (hb : b ≤ n) (hne : n ≠ m) (hnew : ∀ e ∈ es, e.2 ≠ n) :
    LbX hx b (S.set m (.kd hx ((es.map fun e => (keyW e.1, D.r e.2)) ++ [(keyW p, .r n)]))) m (c + 1) T (es ++ [(p, n)]) := by
  have hlt := KdAt.lt h.kd
  refine ⟨.kd ?_, ?_, ?_, ?_, fun e he => ?_, fun q l hl => ?_⟩
  · rw [List.getElem?_set_self hlt, List.map_append]; rfl
  · rw [List.map_append]
    exact List.nodup_append.mpr ⟨h.n1, by simp, fun a ha x hx e => by simp at hx; subst hx; subst e; exact hp ha⟩
  · rw [List.map_append]
    refine List.nodup_append.mpr ⟨h.n2, by simp, fun a ha x hx e => ?_⟩
    simp at hx; subst hx; subst e
    obtain ⟨y, hy, e⟩ := List.mem_map.mp ha
    exact hnew y hy e
  · have := h.le; rw [List.length_append, List.length_singleton]; omega
  · rcases List.mem_append.mp he with he | he
    · obtain ⟨h1, h2, ls, h3, h4, h5⟩ := h.at_ e he
      exact ⟨h1, h2, ls, by rw [List.getElem?_set_ne (Ne.symm h2)]; exact h3, by omega, h5⟩
    · simp at he; subst he
      refine ⟨hb, hne, [], by rw [List.getElem?_set_ne (Ne.symm hne)]; exact hn, by simp, fun l => ⟨fun z => (by cases z), fun z => absurd z (hT l)⟩⟩
  · rw [List.map_append]; exact List.mem_append_left _ (h.all q l hl)
theorem LbX.hit (h : LbX hx b S m c T es) {p : Way} {n : Nat} {l : Str} {ls : List Str} (hp : (p, n) ∈ es) (hls : S[n]? = some (.lst (ls.map zL))) (hl : l ∈ ls) : LbX hx b S m c (T ++ [(p, l)]) es := by
  have hz : (p, l) ∈ T := by
    obtain ⟨_, _, ls2, h3, _, h5⟩ := h.at_ _ hp
    have e : ls2 = ls := by
      have : ls2.map zL = ls.map zL := by
        have := h3.symm.trans hls
        simpa using this
      exact zL_inj this
    subst e
    exact (h5 l).mp hl
  refine ⟨h.kd, h.n1, h.n2, h.le, fun e he => ?_, fun q k hk => ?_⟩
  · obtain ⟨h1, h2, ls, h3, h4, h5⟩ := h.at_ e he
    refine ⟨h1, h2, ls, h3, h4, fun k => ?_⟩
    rw [h5 k, List.mem_append, List.mem_singleton]
    exact ⟨.inl, fun z => z.elim id fun e2 => by rw [e2]; exact hz⟩
  · rcases List.mem_append.mp hk with hk | hk
    · exact h.all q k hk
    · simp at hk; obtain ⟨rfl, rfl⟩ := hk; exact h.all _ _ hz
theorem LbX.put (h : LbX hx b S m c T es) {p : Way} {n : Nat} {l : Str} {ls : List Str} (hp : (p, n) ∈ es) (hls : S[n]? = some (.lst (ls.map zL))) : LbX hx b (S.set n (.lst (ls.map zL ++ [zL l]))) m (c + 1) (T ++ [(p, l)]) es := by
  obtain ⟨hb, hne, ls2, h3, h4, h5⟩ := h.at_ _ hp
  have e : ls2 = ls := by
    have : ls2.map zL = ls.map zL := by
      have := h3.symm.trans hls
      simpa using this
    exact zL_inj this
  subst e
  have hlt := (List.getElem?_eq_some_iff.mp hls).1
  refine ⟨KdAt.keep h.kd fun o e => by rw [List.getElem?_set_ne hne]; exact e, h.n1, h.n2, Nat.le_succ_of_le h.le, fun e he => ?_, fun q k hk => ?_⟩
  · obtain ⟨g1, g2, ks, g3, g4, g5⟩ := h.at_ e he
    by_cases ce : e.2 = n
    · have ee : e = (p, n) := by
        obtain ⟨i, hi⟩ := List.getElem?_of_mem he
        obtain ⟨j, hj⟩ := List.getElem?_of_mem hp
        have hi2 : (es.map (·.2))[i]? = some n := by rw [List.getElem?_map, hi]; simp [ce]
        have hj2 : (es.map (·.2))[j]? = some n := by rw [List.getElem?_map, hj]; rfl
        have := (List.getElem?_inj (List.getElem?_eq_some_iff.mp hi2).1 h.n2).mp (hi2.trans hj2.symm)
        subst this
        exact Option.some.inj (hi.symm.trans hj)
      subst ee
      refine ⟨g1, g2, ls2 ++ [l], ?_, by rw [List.length_append, List.length_singleton]; omega, fun k => ?_⟩
      · dsimp only
        rw [List.getElem?_set_self hlt, List.map_append]; rfl
      · rw [List.mem_append, List.mem_append, h5 k, List.mem_singleton, List.mem_singleton]
        exact ⟨fun z => z.imp id fun e2 => by rw [e2], fun z => z.imp id fun e2 => by injection e2⟩
    · refine ⟨g1, g2, ks, by rw [List.getElem?_set_ne (Ne.symm ce)]; exact g3, by omega, fun k => ?_⟩
      rw [g5 k, List.mem_append, List.mem_singleton]
      refine ⟨.inl, fun z => z.elim id fun e2 => ?_⟩
      injection e2 with e3 e4
      have ee : e = (p, n) := by
        obtain ⟨i, hi⟩ := List.getElem?_of_mem he
        obtain ⟨j, hj⟩ := List.getElem?_of_mem hp
        have hi2 : (es.map (·.1))[i]? = some p := by rw [List.getElem?_map, hi]; simp [e3]
        have hj2 : (es.map (·.1))[j]? = some p := by rw [List.getElem?_map, hj]; rfl
        have := (List.getElem?_inj (List.getElem?_eq_some_iff.mp hi2).1 h.n1).mp (hi2.trans hj2.symm)
        subst this
        exact Option.some.inj (hi.symm.trans hj)
      exact absurd (by rw [ee]) ce
  · rcases List.mem_append.mp hk with hk | hk
    · exact h.all q k hk
    · simp at hk; obtain ⟨rfl, rfl⟩ := hk
      exact List.mem_map.mpr ⟨_, hp, rfl⟩
theorem LbX.get {K0 : K1} (h : LbX hx b S m c T es) {p : Way} {n : Nat} (hn : S[n]? = some (.lst []))
    (k : ∀ (q : Nat) (ls : List Str), S[q]? = some (.lst (ls.map zL)) → (∀ l, l ∈ ls ↔ (p, l) ∈ T) → K0 (.r q) S) : KGet hx (.r m) (.z (.tuple (p.map eTM))) (.r n) S K0 := by
  refine ⟨m, keyW p, _, rfl, keyN_way p, h.kd, ?_⟩
  rcases h.key p with ⟨e, hp, hT⟩ | ⟨q, hq, e⟩
  · rw [e]
    exact k n [] hn fun l => ⟨fun z => (by cases z), fun z => absurd z (hT l)⟩
  · rw [e]
    obtain ⟨_, _, ls, h3, _, h5⟩ := h.at_ _ hq
    exact k q ls h3 h5
theorem LbX.lt (h : LbX hx b S m c T es) : ∀ e ∈ es, e.2 < S.length := fun e he => by
  obtain ⟨_, _, ls, h3, _⟩ := h.at_ e he
  exact (List.getElem?_eq_some_iff.mp h3).1
def LbAt (hx : HX) (n : Net) (S : Sto) (m : Nat) (ws : List Way) : Prop := ∃ b c es, LbX hx b S m c (ws.flatMap (lbsOf n)) es
theorem LbAt.keep {n : Net} {ws : List Way} (h : LbAt hx n S m ws) (k : Keep [] S S') : LbAt hx n S' m ws := by
  obtain ⟨b, c, es, h⟩ := h
  exact ⟨b, c, es, h.keep k (by simp) (by simp)⟩
end
end WY

set_option Elab.async false
set_option linter.all false
set_option maxRecDepth 100000
namespace WY
open PySem L2 PL ND
structure Later (a b : List Ans) : Prop where
  len : a.length = b.length
  st : ∀ i : Int, getI a .opn i ≠ .opn → getI b .opn i = getI a .opn i
theorem Later.refl (a : List Ans) : Later a a := ⟨rfl, fun _ _ => rfl⟩
theorem Later.trans {a b c : List Ans} (h : Later a b) (k : Later b c) : Later a c := ⟨h.len.trans k.len, fun i hi => by
  have e := h.st i hi
  rw [k.st i (by rw [e]; exact hi), e]⟩
section
variable {net : Net} {a b : List Ans} {tab : TB.XTab} {sc st : Int}
theorem inside_mono (h : Later a b) {t : Int} (e : ∀ q, inside net a t ≠ .opn q) : inside net b t = inside net a t := by
  unfold inside at e ⊢
  cases h1 : getI net.things .plain t with
  | plain => rfl
  | part s => rfl
  | sort q =>
    rw [h1] at e
    dsimp only at e ⊢
    have hn : getI a .opn q ≠ .opn := fun z => by
      rw [z] at e
      exact e q rfl
    rw [h.st q hn]
theorem goal_mono (h : Later a b) {x : ND.Step} (e : ∀ q, goal net a x ≠ .opn q) : goal net b x = goal net a x := by
  unfold goal at e ⊢
  by_cases hb : x.by_ = true
  · rw [if_pos hb] at e ⊢
    rw [if_pos hb]
    have hn : getI a .opn x.num ≠ .opn := fun z => by
      rw [z] at e
      exact e _ rfl
    rw [h.st _ hn]
    cases h1 : getI a .opn x.num with
    | opn => rfl
    | none_ _ => rfl
    | torn _ => rfl
    | thing t =>
      rw [h1] at e
      exact inside_mono h e
  · rw [if_neg hb, if_neg hb]
theorem leads_mono (h : Later a b) {r : Row} {x : ND.Step} {p : Int × Int} (e : leads ⟨net, a, tab⟩ r x = some p) : leads ⟨net, b, tab⟩ r x = some p := by
  obtain ⟨_, h2, _⟩ := leads_some e
  have e2 : goal net b x = goal net a x := goal_mono h fun q z => by
    have h2 : goal net a x = .to p.1 := h2
    rw [h2] at z; cases z
  rw [← e]
  unfold leads
  dsimp only
  rw [e2]
theorem lgr_mono (h : Later a b) {r q : Row} {i : Nat} {x : ND.Step} (e : lgr ⟨net, a, tab⟩ r i x = some q) : lgr ⟨net, b, tab⟩ r i x = some q := by
  unfold lgr at e ⊢
  cases h1 : leads ⟨net, a, tab⟩ r x with
  | none => rw [h1] at e; cases e
  | some p => rw [h1] at e; rw [leads_mono h h1]; exact e
theorem gone_mono (h : Later a b) {r : Row} (g : Gone ⟨net, a, tab⟩ sc st r) : Gone ⟨net, b, tab⟩ sc st r := by
  induction g with
  | nil => exact .nil
  | step g hq ih =>
    obtain ⟨i, x, h1, h2⟩ := mem_longer.mp hq
    exact .step ih (mem_longer.mpr ⟨i, x, h1, lgr_mono h h2⟩)
def OwedAt (W : World) (sc st : Int) (o : Way) (q : Int) : Prop := ∃ (p : Row) (i : Nat) (x : ND.Step), Gone W sc st p ∧ (steps W p.sc)[i]? = some x ∧ (∃ t, nextS W.tab p.st x.lab = some t) ∧ goal W.net W.ans x = .opn q ∧ o = p.ms.map stepM ++ [⟨p.sc, false, i⟩]
theorem gone_past (h : Later a b) {r : Row} (g : Gone ⟨net, b, tab⟩ sc st r) : Gone ⟨net, a, tab⟩ sc st r ∨ ∃ o q rest, OwedAt ⟨net, a, tab⟩ sc st o q ∧ r.ms.map stepM = o ++ rest := by
  induction g with
  | nil => exact .inl .nil
  | @step r q g hq ih =>
    obtain ⟨i, x, h1, h2⟩ := mem_longer.mp hq
    have em := lgr_ms h2
    rcases ih with ih | ⟨o, qu, rest, ho, e⟩
    · cases ha : lgr ⟨net, a, tab⟩ r i x with
      | some q2 =>
        have := lgr_mono h ha
        rw [h2] at this
        cases this
        exact .inl (.step ih (mem_longer.mpr ⟨i, x, h1, ha⟩))
      | none =>
        obtain ⟨h3, _⟩ := lgr_some h2
        obtain ⟨k1, k2, k3, k4⟩ := leads_some h3
        have hopn : ∃ qu, goal net a x = .opn qu := by
          apply Classical.byContradiction
          intro z
          have e2 := goal_mono h (net := net) (x := x) fun qu e => z ⟨qu, e⟩
          have : leads ⟨net, a, tab⟩ r x = some (q.sc, q.st) := by
            rw [← h3]
            unfold leads
            dsimp only
            rw [e2]
          unfold lgr at ha
          rw [this] at ha
          cases ha
        obtain ⟨qu, hq2⟩ := hopn
        refine .inr ⟨r.ms.map stepM ++ [⟨r.sc, false, i⟩], qu, [], ⟨r, i, x, ih, h1, ⟨_, k1⟩, hq2, rfl⟩, ?_⟩
        rw [em, List.map_append, List.append_nil]; rfl
    · refine .inr ⟨o, qu, rest ++ [⟨r.sc, false, i⟩], ho, ?_⟩
      rw [em, List.map_append, e, List.append_assoc]; rfl
theorem hides_app {n : Net} {od : List OR.Pr} {v o rest : Way} (h : hidesB n od v o = true) : hidesB n od v (o ++ rest) = true := by
  obtain ⟨pre, x, y, ra, rb, e1, e2, h3, h4⟩ := hides_iff.mp h
  exact hides_iff.mpr ⟨pre, x, y, ra, rb ++ rest, e1, by rw [e2]; simp, h3, h4⟩
end
def IsFound (W : World) (sc st : Int) (nm : Str) (w : Way) : Prop := ∃ r, Gone W sc st r ∧ w ∈ finds W nm r
section
variable {net : Net} {a b : List Ans} {tab : TB.XTab} {sc st : Int} {nm : Str} {od : List OR.Pr}
theorem found_mono (h : Later a b) {w : Way} (g : IsFound ⟨net, a, tab⟩ sc st nm w) : IsFound ⟨net, b, tab⟩ sc st nm w := by
  obtain ⟨r, h1, h2⟩ := g
  exact ⟨r, gone_mono h h1, h2⟩
theorem found_new (h : Later a b) {ws : List Way} (hs : ∀ o q, OwedAt ⟨net, a, tab⟩ sc st o q → ∃ v ∈ ws, hidesB net od v o = true) {w : Way} (g : IsFound ⟨net, b, tab⟩ sc st nm w) : IsFound ⟨net, a, tab⟩ sc st nm w ∨ ∃ v ∈ ws, hidesB net od v w = true := by
  obtain ⟨r, h1, h2⟩ := g
  rcases gone_past h h1 with h3 | ⟨o, q, rest, ho, e⟩
  · exact .inl ⟨r, h3, h2⟩
  · obtain ⟨v, hv, hh⟩ := hs o q ho
    obtain ⟨i, x, _, _, _, ew⟩ := mem_finds h2
    refine .inr ⟨v, hv, ?_⟩
    rw [ew, e, List.append_assoc]
    exact hides_app hh
theorem owed_later (h : Later a b) {ws : List Way} (hs : ∀ o q, OwedAt ⟨net, a, tab⟩ sc st o q → ∃ v ∈ ws, hidesB net od v o = true) {o : Way} {q : Int} (g : OwedAt ⟨net, b, tab⟩ sc st o q) : ∃ v ∈ ws, hidesB net od v o = true := by
  obtain ⟨r, i, x, h1, h2, h3, h4, e⟩ := g
  rcases gone_past h h1 with hg | ⟨o2, q2, rest, ho, e2⟩
  · have hopn : ∃ qu, goal net a x = .opn qu := by
      apply Classical.byContradiction
      intro z
      have e2 := goal_mono h (net := net) (x := x) fun qu e => z ⟨qu, e⟩
      have h4 : goal net b x = .opn q := h4
      rw [e2] at h4
      exact z ⟨q, h4⟩
    obtain ⟨qu, hq⟩ := hopn
    exact hs o qu ⟨r, i, x, hg, h2, h3, hq, e⟩
  · obtain ⟨v, hv, hh⟩ := hs o2 q2 ho
    refine ⟨v, hv, ?_⟩
    rw [e, e2, List.append_assoc]
    exact hides_app hh
end
theorem up_filter {α : Type} {k : α → PyData} {l : List α} {p : α → Bool} (h : OD.Up k l) : OD.Up k (l.filter p) := List.Pairwise.sublist List.filter_sublist h
theorem seen_same {n : Net} {od : List OR.Pr} (ho : OdOk od) {ws vs : List Way} (u1 : OD.Up eWay ws) (u2 : OD.Up eWay vs) (hsub : ∀ w ∈ ws, w ∈ vs) (hnew : ∀ w ∈ vs, w ∈ ws ∨ ∃ v ∈ ws, hidesB n od v w = true) : seenB n od vs = seenB n od ws := by
  refine OD.Up.uniq (k := eWay) (up_filter u2) (up_filter u1) fun w => ?_
  show w ∈ seenB n od vs ↔ w ∈ seenB n od ws
  rw [mem_seen, mem_seen]
  constructor
  · rintro ⟨h1, h2⟩
    rcases hnew w h1 with h | ⟨v, hv, hh⟩
    · exact ⟨h, fun v hv => h2 v (hsub v hv)⟩
    · rw [h2 v (hsub v hv)] at hh; cases hh
  · rintro ⟨h1, h2⟩
    refine ⟨hsub w h1, fun v hv => ?_⟩
    rcases hnew v hv with h | ⟨u, hu, hh⟩
    · exact h2 v h
    · cases q : hidesB n od v w with
      | false => rfl
      | true =>
        have := hides_tr ho hh q
        rw [h2 u hu] at this; cases this
theorem picks_nodup {α β : Type} {f : Nat → α → Option β} (hf : ∀ i j x y u, f i x = some u → f j y = some u → i = j) : ∀ (xs : List α) (i : Nat), (picks f i xs).Nodup
  | [], _ => List.nodup_nil
  | x :: xs, i => by
    unfold picks
    refine List.nodup_append.mpr ⟨by cases f i x <;> simp, picks_nodup hf xs (i + 1), fun u hu v hv e => ?_⟩
    subst e
    obtain ⟨j, y, _, h2⟩ := mem_picks.mp hv
    have h1 : f i x = some u := by simpa using hu
    have := hf _ _ _ _ _ h1 h2
    omega
theorem flat_nodup {α β : Type} {f : α → List β} : ∀ {xs : List α}, xs.Nodup → (∀ x ∈ xs, (f x).Nodup) → (∀ x ∈ xs, ∀ y ∈ xs, ∀ u, u ∈ f x → u ∈ f y → x = y) → (xs.flatMap f).Nodup
  | [], _, _, _ => by simp
  | x :: xs, nd, h1, h2 => by
    obtain ⟨hx, nd⟩ := List.nodup_cons.mp nd
    rw [List.flatMap_cons]
    refine List.nodup_append.mpr ⟨h1 x List.mem_cons_self, flat_nodup nd (fun y hy => h1 y (List.mem_cons_of_mem _ hy)) (fun y hy z hz => h2 y (List.mem_cons_of_mem _ hy) z (List.mem_cons_of_mem _ hz)), fun u hu v hv e => ?_⟩
    subst e
    obtain ⟨y, hy, hu2⟩ := List.mem_flatMap.mp hv
    have := h2 x List.mem_cons_self y (List.mem_cons_of_mem _ hy) u hu hu2
    subst this
    exact hx hy
theorem finds_nodup (W : World) (nm : Str) (r : Row) : (finds W nm r).Nodup := picks_nodup (fun i j x y u h1 h2 => by
  have e1 := (fnd_some h1).2.2
  rw [(fnd_some h2).2.2] at e1
  have := List.append_cancel_left e1
  simp at this
  omega) _ _
theorem stepM_inj {a b : List Mk} (h : a.map stepM = b.map stepM) : a = b := by
  induction a generalizing b with
  | nil =>
    cases b with
    | nil => rfl
    | cons y b => cases h
  | cons x a ih =>
    cases b with
    | nil => cases h
    | cons y b =>
      rw [List.map_cons, List.map_cons] at h
      injection h with h1 h2
      have : x = y := by
        obtain ⟨x1, x2⟩ := x
        obtain ⟨y1, y2⟩ := y
        simp [stepM] at h1
        simp [h1]
      rw [this, ih h2]
theorem finds_apart {W : World} {sc st : Int} {nm : Str} {r q : Row} (g : Gone W sc st r) (k : Gone W sc st q) {w : Way} (h1 : w ∈ finds W nm r) (h2 : w ∈ finds W nm q) : r = q := by
  obtain ⟨i, x, _, _, _, e1⟩ := mem_finds h1
  obtain ⟨j, y, _, _, _, e2⟩ := mem_finds h2
  rw [e1] at e2
  obtain ⟨e3, _⟩ := List.append_inj' e2 rfl
  exact g.fn k (stepM_inj e3)
theorem found_up {W : World} {sc st : Int} {nm : Str} {rs : List Row} (nd : rs.Nodup) (hg : ∀ r ∈ rs, Gone W sc st r) : OD.Up eWay (sortY (rs.flatMap (finds W nm))) :=
  OD.up_sort (flat_nodup nd (fun x _ => finds_nodup W nm x) fun x hx y hy u h1 h2 => finds_apart (hg x hx) (hg y hy) h1 h2) (fun a _ b _ => alike_way a b) fun a _ b _ h => by
    rw [eqv_way] at h; exact of_decide_eq_true h
end WY

set_option Elab.async false
set_option linter.all false
set_option maxRecDepth 100000
namespace WY
open PySem L2 PL ND
def bfs (W : World) : Nat → List Row → Nat → List Row
  | 0, rows, _ => rows
  | f + 1, rows, k => match rows[k]? with
    | none => rows
    | some r => bfs W f (rows ++ longer W r) (k + 1)
def begs (W : World) (sc st : Int) : List Row := (bfs W 201 [⟨[], sc, st⟩] 0).mergeSort (PySem.W.dataLe false eRow)
section
variable {W : World} {sc st : Int}
theorem bfs_ok (hW : WB W) (h0 : RowOk W ⟨[], sc, st⟩) (few : ∀ rs : List Row, rs.Nodup → (∀ r ∈ rs, Gone W sc st r) → rs.length ≤ 200) : ∀ (f : Nat) (rows : List Row) (k : Nat), BfJ W sc st rows k → 200 < k + f → BfJ W sc st (bfs W f rows k) (bfs W f rows k).length
  | 0, rows, k, h, hf => by
    have := few rows h.nd h.go
    have := h.le
    omega
  | f + 1, rows, k, h, hf => by
    unfold bfs
    cases e : rows[k]? with
    | none =>
      have := List.getElem?_eq_none_iff.mp e
      have := h.le
      have ek : k = rows.length := by omega
      subst ek
      exact h
    | some r => exact bfs_ok hW h0 few f _ _ (h.step hW h0 e) (by omega)
structure BegOk (W : World) (sc st : Int) (rs : List Row) : Prop where
  up : OD.Up eRow rs
  me : ∀ r, r ∈ rs ↔ Gone W sc st r
  n200 : rs.length ≤ 200
theorem begs_ok (h : WOk W) (h0 : RowOk W ⟨[], sc, st⟩) : BegOk W sc st (begs W sc st) := by
  have hb := bfs_ok h.toWB h0 (fun rs => h.few1 h0) 201 _ 0 .start (by omega)
  have hm : ∀ r, r ∈ begs W sc st ↔ Gone W sc st r := fun r => by
    unfold begs
    rw [(List.mergeSort_perm _ _).mem_iff]; exact hb.done r
  have hu : OD.Up eRow (begs W sc st) := OD.up_sort (k := eRow) hb.nd (fun a _ b _ => alike_row a b) (fun a _ b _ h => eqv_row h)
  exact ⟨hu, hm, h.few1 h0 hu.nodup fun r hr => (hm r).mp hr⟩
def found (W : World) (sc st : Int) (nm : Str) : List Way := sortY ((begs W sc st).flatMap (finds W nm))
def owed (W : World) (sc st : Int) : List (Way × Int) := sortO ((begs W sc st).flatMap (owes W))
theorem mem_found (h : WOk W) (h0 : RowOk W ⟨[], sc, st⟩) {nm : Str} {w : Way} : w ∈ found W sc st nm ↔ IsFound W sc st nm w := by
  unfold found
  rw [mem_sortY, List.mem_flatMap]
  exact ⟨fun ⟨r, hr, hw⟩ => ⟨r, ((begs_ok h h0).me r).mp hr, hw⟩, fun ⟨r, hr, hw⟩ => ⟨r, ((begs_ok h h0).me r).mpr hr, hw⟩⟩
theorem mem_owed (h : WOk W) (h0 : RowOk W ⟨[], sc, st⟩) {o : Way × Int} : o ∈ owed W sc st ↔ OwedAt W sc st o.1 o.2 := by
  unfold owed
  rw [mem_sortO, List.mem_flatMap]
  constructor
  · rintro ⟨r, hr, hw⟩
    obtain ⟨i, x, k1, k2, k3, k4⟩ := mem_owes hw
    exact ⟨r, i, x, ((begs_ok h h0).me r).mp hr, k1, k2, k3, k4⟩
  · rintro ⟨r, i, x, hr, k1, ⟨t, k2⟩, k3, k4⟩
    refine ⟨r, ((begs_ok h h0).me r).mpr hr, mem_picks.mpr ⟨i, x, k1, ?_⟩⟩
    rw [Nat.zero_add]
    unfold owd
    rw [k2, k3]
    obtain ⟨o1, o2⟩ := o
    dsimp only at k4 ⊢
    rw [k4]
theorem found_rise (h : WOk W) (h0 : RowOk W ⟨[], sc, st⟩) (nm : Str) : OD.Up eWay (found W sc st nm) :=
  found_up (begs_ok h h0).up.nodup fun r hr => ((begs_ok h h0).me r).mp hr
theorem found_ok (h : WOk W) (h0 : RowOk W ⟨[], sc, st⟩) (nm : Str) : (found W sc st nm).length ≤ 2400 ∧ ∀ w ∈ found W sc st nm, WayIn W.net w := by
  have hb := begs_ok h h0
  refine ⟨?_, fun w hw => ?_⟩
  · unfold found sortY
    rw [List.length_mergeSort]
    have h3 := flat_len (g := finds W nm) (n := 12) (xs := begs W sc st) fun x hx => finds_len h (((hb.me x).mp hx).ok h.toWB h0)
    have := hb.n200
    omega
  · obtain ⟨r, hr1, hw⟩ := List.mem_flatMap.mp (mem_sortY.mp hw)
    exact finds_in h (((hb.me r).mp hr1).ok h.toWB h0) hw
end
inductive Mean where
  | thing (t : Int) | none_ | opn (q : Int)
  deriving DecidableEq
def tellAt (n : Net) (m : TMk) : ND.Tell := getI (getI n.scopes ([], []) m.sc).2 noT m.ix
def meant (ans : List Ans) (t : ND.Tell) : Mean := if t.by_ = true then (match getI ans .opn t.num with
    | .opn => .opn t.num
    | .thing u => .thing u
    | _ => .none_) else .thing t.num
def noM : TMk := ⟨0, true, 0⟩
def lastM (w : Way) : TMk := w.getLastD noM
def wayMeans (n : Net) (ans : List Ans) (w : Way) : Mean := meant ans (tellAt n (lastM w))
inductive End where
  | opn (q : Int) (w : Way) | none_ | torn | thing (t : Int)
def isOpn : Mean → Option Int
  | .opn q => some q
  | _ => none
def firstOpn (n : Net) (ans : List Ans) : List Way → Option (Int × Way)
  | [] => none
  | w :: ws => match isOpn (wayMeans n ans w) with
    | some q => some (q, w)
    | none => firstOpn n ans ws
def agree : List Mean → End
  | [] => .none_
  | m :: ms => if (m :: ms).count m < (m :: ms).length then .torn else match m with
    | .thing t => .thing t
    | _ => .none_
def endOf (n : Net) (ans : List Ans) (od : List OR.Pr) (ws : List Way) (os : List (Way × Int)) : End := match os.find? (fun o => noneB n od ws o.1) with
  | some o => .opn o.2 o.1
  | none => if ws = [] then .none_ else match firstOpn n ans (seenB n od ws) with
    | some (q, w) => .opn q w
    | none => agree ((seenB n od ws).map (wayMeans n ans))
def lookEnd (W : World) (sc st : Int) (nm : Str) : End := endOf W.net W.ans W.tab.order (found W sc st nm) (owed W sc st)
structure Look where
  sc : Int
  st : Int
  nm : Str
  e : End
def looks (W : World) : Int → Int → List Str → List Look
  | _, _, [] => []
  | sc, st, nm :: path => ⟨sc, st, nm, lookEnd W sc st nm⟩ :: (match lookEnd W sc st nm with
    | .thing t => if path = [] then [] else match inside W.net W.ans t with
      | .to s => looks W s W.tab.inner path
      | _ => []
    | _ => [])
def noQ : Quest := ⟨0, 0, []⟩
def quest (W : World) (k : Int) : Quest := getI W.net.quests noQ k
def qlooks (W : World) (k : Int) : List Look := looks W (quest W k).scope (quest W k).state (quest W k).path
structure Wait where
  at_ : Int
  way : Way
  q : Int
structure Find where
  ans : Ans
  wait : Option Wait
def noLook : Look := ⟨0, 0, ⟨#[]⟩, .none_⟩
def findBy (W : World) (n : Nat) (ls : List Look) : Find := match (ls.getLastD noLook).e with
  | .opn q w => ⟨.opn, some ⟨(ls.length : Int) - 1, w, q⟩⟩
  | .none_ => ⟨.none_ ((ls.length : Int) - 1), none⟩
  | .torn => ⟨.torn ((ls.length : Int) - 1), none⟩
  | .thing t => if ls.length = n then ⟨.thing t, none⟩ else match inside W.net W.ans t with
    | .opn q => ⟨.opn, some ⟨(ls.length : Int) - 1, [], q⟩⟩
    | _ => ⟨.none_ ((ls.length : Int) - 1 + 1), none⟩
def find (W : World) (k : Int) : Find := findBy W (quest W k).path.length (qlooks W k)
def trail (W : World) (k : Int) : List (List Way) := (qlooks W k).map fun l => seenB W.net W.tab.order (found W l.sc l.st l.nm)
theorem looks_ne (W : World) (sc st : Int) {p : List Str} (h : p ≠ []) : looks W sc st p ≠ [] := by
  cases p with
  | nil => exact absurd rfl h
  | cons a p => unfold looks; simp
theorem looks_len (W : World) : ∀ (p : List Str) (sc st : Int), (looks W sc st p).length ≤ p.length
  | [], _, _ => by simp [looks]
  | a :: p, sc, st => by
    unfold looks
    rw [List.length_cons, List.length_cons]
    cases lookEnd W sc st a with
    | thing t =>
      dsimp only
      by_cases hp : p = []
      · rw [if_pos hp]; simp
      · rw [if_neg hp]
        cases inside W.net W.ans t with
        | to s => exact Nat.succ_le_succ (looks_len W p s _)
        | opn q => simp
        | no => simp
    | opn q w => simp
    | none_ => simp
    | torn => simp
end WY

set_option Elab.async false
set_option linter.all false
set_option maxRecDepth 100000
namespace WY
open PySem L2 PL ND
theorem agree_cons (m : Mean) (ms : List Mean) : agree (m :: ms) = if (m :: ms).count m < (m :: ms).length then .torn else match m with
    | .thing t => .thing t
    | _ => .none_ := rfl
theorem firstOpn_none {n : Net} {ans : List Ans} : ∀ {ws : List Way}, firstOpn n ans ws = none ↔ ∀ w ∈ ws, isOpn (wayMeans n ans w) = none
  | [] => by simp [WY.firstOpn]
  | w :: ws => by
    unfold WY.firstOpn
    cases h : isOpn (wayMeans n ans w) with
    | some q => simp [h]
    | none => simp [h, firstOpn_none (ws := ws)]
theorem row_of {W : WY.World} {sc st : Int} (h1 : 0 ≤ sc ∧ sc < W.net.scopes.length) (h2 : 0 ≤ st ∧ st < W.tab.states.length) : RowOk W ⟨[], sc, st⟩ := ⟨h1, h2, fun _ h => (by cases h), by simp⟩
theorem found_last {W : WY.World} (hW : WOk W) {sc st : Int} (hr : RowOk W ⟨[], sc, st⟩) {nm : Str} {w : Way} (h : w ∈ WY.found W sc st nm) : w ≠ [] ∧ (lastM w).told = true := by
  obtain ⟨r, _, hw⟩ := (WY.mem_found hW hr).mp h
  obtain ⟨i, x, _, _, _, e⟩ := WY.mem_finds hw
  rw [e]
  refine ⟨by simp, ?_⟩
  unfold WY.lastM
  rw [List.getLastD_concat]
theorem told_mean {n : Net} {ans : List Ans} {w : Way} (hn : NetOk n) (hl : ans.length = n.quests.length) (han : ∀ x ∈ ans, AnsOk n.things.length x) (hw : WayIn n w) (h : w ≠ [] ∧ (lastM w).told = true) {t : Int} (e : wayMeans n ans w = .thing t) : 0 ≤ t ∧ t < n.things.length := by
  have hlm : lastM w ∈ w := by
    unfold WY.lastM
    rw [List.getLastD_eq_getLast?, List.getLast?_eq_some_getLast h.1]
    exact List.getLast_mem h.1
  have hin := hw.1 _ hlm
  have htl : tellAt n (lastM w) ∈ (getI n.scopes ([], []) (lastM w).sc).2 := getI_mem (by
    have := hin.i
    unfold WY.rowLen at this
    rw [h.2, if_pos rfl] at this
    exact this)
  have ht := (hn.sc _ (getI_mem (d := (([], []) : ND.Scope)) hin.s)).2 _ htl
  unfold WY.wayMeans WY.meant at e
  by_cases hb : (tellAt n (lastM w)).by_ = true
  · rw [if_pos hb] at e
    have h2 := ht.2.2.2
    rw [if_pos hb] at h2
    have hm := getI_mem (d := Ans.opn) (show 0 ≤ (tellAt n (lastM w)).num ∧ (tellAt n (lastM w)).num < ans.length from ⟨ht.2.2.1, by rw [hl]; exact h2⟩)
    generalize getI ans .opn (tellAt n (lastM w)).num = y at e hm
    cases y with
    | thing u => cases e; exact han _ hm
    | opn => cases e
    | none_ a => cases e
    | torn a => cases e
  · rw [if_neg hb] at e
    have h2 := ht.2.2.2
    rw [if_neg hb] at h2
    cases e
    exact ⟨ht.2.2.1, h2⟩
theorem look_thing {W : WY.World} (hW : WOk W) {sc st : Int} (hr : RowOk W ⟨[], sc, st⟩) {nm : Str} {t : Int} (e : lookEnd W sc st nm = .thing t) : 0 ≤ t ∧ t < W.net.things.length := by
  unfold WY.lookEnd WY.endOf at e
  have hall : ∀ w ∈ WY.found W sc st nm, ∀ u, wayMeans W.net W.ans w = .thing u → 0 ≤ u ∧ u < W.net.things.length := fun w hw u hu => told_mean hW.net hW.len hW.an ((WY.found_ok hW hr nm).2 w hw) (found_last hW hr hw) hu
  generalize WY.found W sc st nm = ws at e hall
  cases h1 : (WY.owed W sc st).find? (fun o => noneB W.net W.tab.order ws o.1) with
  | some o => rw [h1] at e; cases e
  | none =>
    rw [h1] at e
    dsimp only at e
    by_cases h2 : ws = []
    · rw [if_pos h2] at e; cases e
    · rw [if_neg h2] at e
      cases h3 : firstOpn W.net W.ans (seenB W.net W.tab.order ws) with
      | some p => rw [h3] at e; cases e
      | none =>
        rw [h3] at e
        dsimp only at e
        have hm : ∀ m ∈ (seenB W.net W.tab.order ws).map (wayMeans W.net W.ans), ∀ u, m = .thing u → 0 ≤ u ∧ u < W.net.things.length := fun m hm u hu => by
          obtain ⟨w, hw, rfl⟩ := List.mem_map.mp hm
          exact hall w (WY.mem_seen.mp hw).1 u hu
        generalize (seenB W.net W.tab.order ws).map (wayMeans W.net W.ans) = ms at e hm
        cases ms with
        | nil => cases e
        | cons m ms =>
          rw [agree_cons] at e
          by_cases hc : (m :: ms).count m < (m :: ms).length
          · rw [if_pos hc] at e; cases e
          · rw [if_neg hc] at e
            cases m with
            | thing u => cases e; exact hm _ List.mem_cons_self _ rfl
            | none_ => cases e
            | opn q => cases e
theorem looks_nil (W : WY.World) (sc st : Int) : looks W sc st [] = [] := rfl
theorem looks_cons (W : WY.World) (sc st : Int) (nm : Str) (path : List Str) : looks W sc st (nm :: path) = ⟨sc, st, nm, lookEnd W sc st nm⟩ :: (match lookEnd W sc st nm with
    | .thing t => if path = [] then [] else (match inside W.net W.ans t with
      | .to s => looks W s W.tab.inner path
      | _ => [])
    | _ => []) := rfl
theorem mem_looks {W : WY.World} (hW : WOk W) {l : Look} : ∀ {p : List Str} {sc st : Int}, RowOk W ⟨[], sc, st⟩ → l ∈ looks W sc st p → RowOk W ⟨[], l.sc, l.st⟩ ∧ l.e = lookEnd W l.sc l.st l.nm
  | [], _, _, _, h => by rw [looks_nil] at h; cases h
  | nm :: p, sc, st, hr, h => by
    rw [looks_cons] at h
    rcases List.mem_cons.mp h with h | h
    · subst h; exact ⟨hr, rfl⟩
    · have hlt := fun t e => look_thing hW hr (nm := nm) (t := t) e
      generalize lookEnd W sc st nm = e at h hlt
      cases e with
      | thing t =>
        dsimp only at h
        by_cases hp : p = []
        · rw [if_pos hp] at h; cases h
        · rw [if_neg hp] at h
          cases hin : inside W.net W.ans t with
          | to s =>
            rw [hin] at h
            exact mem_looks hW (row_of (WY.inside_to hW.toWB (hlt t rfl) hin) hW.tab.ir) h
          | opn q => rw [hin] at h; cases h
          | no => rw [hin] at h; cases h
      | opn q w => cases h
      | none_ => cases h
      | torn => cases h
theorem mem_last {α : Type} {xs : List α} {d : α} (h : xs ≠ []) : xs.getLastD d ∈ xs := by
  rw [List.getLastD_eq_getLast?, List.getLast?_eq_some_getLast h]
  exact List.getLast_mem h
theorem quest_ok {W : WY.World} (hW : WOk W) {k : Int} (hk : 0 ≤ k ∧ k < W.net.quests.length) : RowOk W ⟨[], (quest W k).scope, (quest W k).state⟩ ∧ (quest W k).path ≠ [] ∧ (quest W k).path.length ≤ 6 := by
  have hqm := getI_mem (d := noQ) hk
  have hqo := hW.net.qs _ hqm
  exact ⟨row_of hqo.s ⟨hqo.t, hW.qst _ hqm⟩, hqo.p1, hqo.p6⟩
theorem qlooks_ok {W : WY.World} (hW : WOk W) {k : Int} (hk : 0 ≤ k ∧ k < W.net.quests.length) : qlooks W k ≠ [] ∧ (qlooks W k).length ≤ (quest W k).path.length ∧ ∀ l ∈ qlooks W k, RowOk W ⟨[], l.sc, l.st⟩ ∧ l.e = lookEnd W l.sc l.st l.nm := by
  obtain ⟨h1, h2, _⟩ := quest_ok hW hk
  exact ⟨WY.looks_ne W _ _ h2, WY.looks_len W _ _ _, fun l hl => mem_looks hW h1 hl⟩
section
variable {net : Net} {a b : List Ans} {tab : TB.XTab}
theorem RowOk.ans {r : Row} (h : RowOk ⟨net, a, tab⟩ r) : RowOk ⟨net, b, tab⟩ r := ⟨h.sc, h.st, h.ms, h.nd⟩
theorem wayMeans_mono (h : Later a b) {w : Way} (e : isOpn (wayMeans net a w) = none) : wayMeans net b w = wayMeans net a w := by
  unfold wayMeans meant at e ⊢
  by_cases hb : (tellAt net (lastM w)).by_ = true
  · rw [if_pos hb] at e
    rw [if_pos hb, if_pos hb]
    have hn : getI a .opn (tellAt net (lastM w)).num ≠ .opn := fun z => by
      rw [z] at e; cases e
    rw [h.st _ hn]
  · rw [if_neg hb, if_neg hb]
theorem noneB_false {n : Net} {od : List OR.Pr} {ws : List Way} {w : Way} : noneB n od ws w = false ↔ ∃ v ∈ ws, hidesB n od v w = true := by
  constructor
  · intro h
    apply Classical.byContradiction
    intro z
    have : noneB n od ws w = true := noneB_iff.mpr fun v hv => by
      cases q : hidesB n od v w with
      | false => rfl
      | true => exact absurd ⟨v, hv, q⟩ z
    rw [this] at h; cases h
  · rintro ⟨v, hv, h⟩
    cases q : noneB n od ws w with
    | false => rfl
    | true => rw [noneB_iff.mp q v hv] at h; cases h
theorem look_hid (hW : WOk ⟨net, a, tab⟩) {sc st : Int} (hr : RowOk ⟨net, a, tab⟩ ⟨[], sc, st⟩) {nm : Str} (e : ∀ q w, lookEnd ⟨net, a, tab⟩ sc st nm ≠ .opn q w) : (∀ o q, OwedAt ⟨net, a, tab⟩ sc st o q → ∃ v ∈ found ⟨net, a, tab⟩ sc st nm, hidesB net tab.order v o = true) ∧ (found ⟨net, a, tab⟩ sc st nm ≠ [] → firstOpn net a (seenB net tab.order (found ⟨net, a, tab⟩ sc st nm)) = none) := by
  unfold lookEnd endOf at e
  cases hf : (owed ⟨net, a, tab⟩ sc st).find? (fun o => noneB net tab.order (found ⟨net, a, tab⟩ sc st nm) o.1) with
  | some o => rw [hf] at e; exact absurd rfl (e _ _)
  | none =>
    rw [hf] at e
    dsimp only at e
    refine ⟨fun o q h => ?_, fun hne => ?_⟩
    · have hm := (mem_owed hW hr (o := (o, q))).mpr h
      have := List.find?_eq_none.mp hf _ hm
      refine noneB_false.mp ?_
      cases z : noneB net tab.order (found ⟨net, a, tab⟩ sc st nm) o with
      | false => rfl
      | true => exact absurd z this
    · rw [if_neg hne] at e
      cases h3 : firstOpn net a (seenB net tab.order (found ⟨net, a, tab⟩ sc st nm)) with
      | none => rfl
      | some p => rw [h3] at e; exact absurd rfl (e _ _)
theorem look_later (h : Later a b) (hA : WOk ⟨net, a, tab⟩) (hB : WOk ⟨net, b, tab⟩) {sc st : Int} (hr : RowOk ⟨net, a, tab⟩ ⟨[], sc, st⟩) {nm : Str} (e : ∀ q w, lookEnd ⟨net, a, tab⟩ sc st nm ≠ .opn q w) :
    lookEnd ⟨net, b, tab⟩ sc st nm = lookEnd ⟨net, a, tab⟩ sc st nm ∧ seenB net tab.order (found ⟨net, b, tab⟩ sc st nm) = seenB net tab.order (found ⟨net, a, tab⟩ sc st nm) := by
  obtain ⟨hs, hfo⟩ := look_hid hA hr e
  have hrb : RowOk ⟨net, b, tab⟩ ⟨[], sc, st⟩ := hr.ans
  have hsub : ∀ w ∈ found ⟨net, a, tab⟩ sc st nm, w ∈ found ⟨net, b, tab⟩ sc st nm := fun w hw => (mem_found hB hrb).mpr (found_mono h ((mem_found hA hr).mp hw))
  have hnew : ∀ w ∈ found ⟨net, b, tab⟩ sc st nm, w ∈ found ⟨net, a, tab⟩ sc st nm ∨ ∃ v ∈ found ⟨net, a, tab⟩ sc st nm, hidesB net tab.order v w = true := fun w hw => by
    rcases found_new h hs ((mem_found hB hrb).mp hw) with k | k
    · exact .inl ((mem_found hA hr).mpr k)
    · exact .inr k
  have hsame := seen_same hA.tab.odk (found_rise hA hr nm) (found_rise hB hrb nm) hsub hnew
  refine ⟨?_, hsame⟩
  have h0 : found ⟨net, b, tab⟩ sc st nm = [] ↔ found ⟨net, a, tab⟩ sc st nm = [] := by
    constructor
    · intro z
      refine List.eq_nil_iff_forall_not_mem.mpr fun w hw => ?_
      have := hsub w hw
      rw [z] at this; cases this
    · intro z
      refine List.eq_nil_iff_forall_not_mem.mpr fun w hw => ?_
      rcases hnew w hw with k | ⟨v, k, _⟩
      · rw [z] at k; cases k
      · rw [z] at k; cases k
  have hfa : (owed ⟨net, a, tab⟩ sc st).find? (fun o => noneB net tab.order (found ⟨net, a, tab⟩ sc st nm) o.1) = none := List.find?_eq_none.mpr fun o ho => by
    have := noneB_false.mpr (hs o.1 o.2 ((mem_owed hA hr).mp ho))
    rw [this]; decide
  have hfb : (owed ⟨net, b, tab⟩ sc st).find? (fun o => noneB net tab.order (found ⟨net, b, tab⟩ sc st nm) o.1) = none := List.find?_eq_none.mpr fun o ho => by
    obtain ⟨v, hv, hh⟩ := owed_later h hs ((mem_owed hB hrb).mp ho)
    have := noneB_false.mpr ⟨v, hsub v hv, hh⟩
    rw [this]; decide
  unfold lookEnd endOf
  dsimp only
  rw [hfa, hfb]
  dsimp only
  by_cases hz : found ⟨net, a, tab⟩ sc st nm = []
  · rw [if_pos hz, if_pos (h0.mpr hz)]
  · have hfo := hfo hz
    rw [if_neg hz, if_neg fun z => hz (h0.mp z), hsame, hfo]
    have hm : ∀ w ∈ seenB net tab.order (found ⟨net, a, tab⟩ sc st nm), wayMeans net b w = wayMeans net a w := fun w hw => wayMeans_mono h (firstOpn_none.mp hfo w hw)
    have hfo2 : firstOpn net b (seenB net tab.order (found ⟨net, a, tab⟩ sc st nm)) = none := firstOpn_none.mpr fun w hw => by rw [hm w hw]; exact firstOpn_none.mp hfo w hw
    rw [hfo2]
    dsimp only
    rw [List.map_congr_left hm]
structure Ended (net : Net) (a : List Ans) (n : Nat) (ls : List Look) : Prop where
  op : ∀ q w, (ls.getLastD noLook).e ≠ .opn q w
  th : ∀ t, (ls.getLastD noLook).e = .thing t → ls.length ≠ n → ∀ q, inside net a t ≠ .opn q
theorem last_cons {l : Look} {ls : List Look} (h : ls ≠ []) : (l :: ls).getLastD noLook = ls.getLastD noLook := by
  cases ls with
  | nil => exact absurd rfl h
  | cons x ls => simp [List.getLastD]
theorem looks_later (h : Later a b) (hA : WOk ⟨net, a, tab⟩) (hB : WOk ⟨net, b, tab⟩) : ∀ (p : List Str) (sc st : Int), RowOk ⟨net, a, tab⟩ ⟨[], sc, st⟩ → Ended net a p.length (looks ⟨net, a, tab⟩ sc st p) →
    looks ⟨net, b, tab⟩ sc st p = looks ⟨net, a, tab⟩ sc st p ∧ ∀ l ∈ looks ⟨net, a, tab⟩ sc st p, seenB net tab.order (found ⟨net, b, tab⟩ l.sc l.st l.nm) = seenB net tab.order (found ⟨net, a, tab⟩ l.sc l.st l.nm)
  | [], sc, st, _, _ => ⟨rfl, fun l hl => by rw [looks_nil] at hl; cases hl⟩
  | nm :: p, sc, st, hr, hE => by
    have hno : ∀ q w, lookEnd ⟨net, a, tab⟩ sc st nm ≠ .opn q w := fun q w z => by
      rw [looks_cons, z] at hE
      exact hE.op q w rfl
    obtain ⟨e1, e2⟩ := look_later h hA hB hr hno
    have hlt := fun t e => look_thing hA hr (nm := nm) (t := t) e
    rw [looks_cons] at hE ⊢
    rw [looks_cons, e1]
    generalize lookEnd ⟨net, a, tab⟩ sc st nm = e at hE hlt ⊢
    have one : ∀ l ∈ ([⟨sc, st, nm, e⟩] : List Look), seenB net tab.order (found ⟨net, b, tab⟩ l.sc l.st l.nm) = seenB net tab.order (found ⟨net, a, tab⟩ l.sc l.st l.nm) := fun l hl => by
      rw [List.mem_singleton.mp hl]; exact e2
    cases e with
    | opn q w => exact ⟨rfl, one⟩
    | none_ => exact ⟨rfl, one⟩
    | torn => exact ⟨rfl, one⟩
    | thing t =>
      dsimp only at hE ⊢
      by_cases hp : p = []
      · rw [if_pos hp] at hE ⊢
        rw [if_pos hp]
        exact ⟨rfl, one⟩
      · rw [if_neg hp] at hE ⊢
        rw [if_neg hp]
        have hi : ∀ q, inside net a t ≠ .opn q := fun q z => by
          rw [z] at hE
          refine hE.th t rfl ?_ q z
          show [_].length ≠ (nm :: p).length
          rw [List.length_singleton, List.length_cons]
          have : p.length ≠ 0 := fun z => hp (List.length_eq_zero_iff.mp z)
          omega
        rw [inside_mono h hi]
        cases hin : inside net a t with
        | opn q => exact absurd hin (hi q)
        | no => exact ⟨rfl, one⟩
        | to s =>
          dsimp only
          rw [hin] at hE
          dsimp only at hE
          have hr2 : RowOk ⟨net, a, tab⟩ ⟨[], s, tab.inner⟩ := row_of (inside_to hA.toWB (hlt t rfl) hin) hA.tab.ir
          have hne := looks_ne ⟨net, a, tab⟩ s tab.inner hp
          have ih := looks_later h hA hB p s tab.inner hr2 ⟨fun q w z => hE.op q w (by rw [last_cons hne]; exact z), fun t' z hn q => hE.th t' (by rw [last_cons hne]; exact z) (by rw [List.length_cons, List.length_cons]; omega) q⟩
          refine ⟨by rw [ih.1], fun l hl => ?_⟩
          rcases List.mem_cons.mp hl with hl | hl
          · rw [hl]; exact e2
          · exact ih.2 l hl
theorem find_ended {W : World} {k : Int} (hk : (find W k).ans ≠ .opn) : Ended W.net W.ans (quest W k).path.length (qlooks W k) := by
  unfold find findBy at hk
  refine ⟨fun q w z => ?_, fun t z hn q hi => ?_⟩
  · rw [z] at hk; exact hk rfl
  · rw [z] at hk
    dsimp only at hk
    rw [if_neg hn, hi] at hk
    exact hk rfl
theorem find_later (h : Later a b) (hA : WOk ⟨net, a, tab⟩) (hB : WOk ⟨net, b, tab⟩) {k : Int} (hq : 0 ≤ k ∧ k < net.quests.length) (hk : (find ⟨net, a, tab⟩ k).ans ≠ .opn) :
    find ⟨net, b, tab⟩ k = find ⟨net, a, tab⟩ k ∧ trail ⟨net, b, tab⟩ k = trail ⟨net, a, tab⟩ k ∧ (find ⟨net, a, tab⟩ k).wait = none := by
  have hE := find_ended hk
  have hr := (quest_ok hA hq).1
  obtain ⟨e1, e2⟩ := looks_later h hA hB _ _ _ hr hE
  have e1 : qlooks ⟨net, b, tab⟩ k = qlooks ⟨net, a, tab⟩ k := e1
  have ef : find ⟨net, b, tab⟩ k = find ⟨net, a, tab⟩ k := by
    unfold find
    rw [e1]
    show findBy ⟨net, b, tab⟩ (quest ⟨net, a, tab⟩ k).path.length _ = _
    unfold findBy
    cases hl : ((qlooks ⟨net, a, tab⟩ k).getLastD noLook).e with
    | thing t =>
      dsimp only
      by_cases hn : (qlooks ⟨net, a, tab⟩ k).length = (quest ⟨net, a, tab⟩ k).path.length
      · rw [if_pos hn, if_pos hn]
      · rw [if_neg hn, if_neg hn, inside_mono h (hE.th t hl hn)]
    | _ => rfl
  refine ⟨ef, ?_, ?_⟩
  · unfold trail
    rw [e1]
    exact List.map_congr_left fun l hl => e2 l hl
  · have hop := hE.op
    have hth := hE.th
    unfold find findBy
    generalize (qlooks ⟨net, a, tab⟩ k).getLastD noLook = l at hop hth
    obtain ⟨sc, st, nm, e⟩ := l
    cases e with
    | opn q w => exact absurd rfl (hop q w)
    | none_ => rfl
    | torn => rfl
    | thing t =>
      dsimp only
      by_cases hn : (qlooks ⟨net, a, tab⟩ k).length = (quest ⟨net, a, tab⟩ k).path.length
      · rw [if_pos hn]
      · rw [if_neg hn]
        cases hi : inside net a t with
        | opn q => exact absurd hi (hth t rfl hn q)
        | _ => rfl
end
end WY

set_option Elab.async false
set_option linter.all false
set_option maxRecDepth 100000
namespace WY
open PySem L2 PL ND
section
variable {W : World}
structure WaitOk (W : World) (k : Int) (x : Wait) : Prop where
  at_ : x.at_ = ((qlooks W k).length : Int) - 1
  q : 0 ≤ x.q ∧ x.q < W.net.quests.length
  op : getI W.ans .opn x.q = .opn
  nh : noneB W.net W.tab.order (found W ((qlooks W k).getLastD noLook).sc ((qlooks W k).getLastD noLook).st ((qlooks W k).getLastD noLook).nm) x.way = true
  w : WayIn W.net x.way
end
end WY

set_option Elab.async false
set_option linter.all false
set_option maxRecDepth 100000
namespace ST
open PySem L2 PL ND WY
def isO : Ans → Bool
  | .opn => true
  | _ => false
theorem isO_iff {a : Ans} : isO a = true ↔ a = .opn := by cases a <;> simp [isO]
theorem isO_not {a : Ans} : isO a = false ↔ a ≠ .opn := by cases a <;> simp [isO]
structure NT where
  net : Net
  tab : TB.XTab
def NT.w (T : NT) (a : List Ans) : WY.World := ⟨T.net, a, T.tab⟩
def AnsIs (T : NT) (a : List Ans) : Prop := a.length = T.net.quests.length ∧ ∀ x ∈ a, AnsOk T.net.things.length x
structure NTOk (T : NT) : Prop where
  w : ∀ a, AnsIs T a → WOk (T.w a)
def fnd (T : NT) (a : List Ans) (q : Nat) : Ans := (find (T.w a) (q : Int)).ans
def turn (T : NT) (a : List Ans) : List Ans := (List.range a.length).map fun (q : Nat) => if isO (getI a .opn (q : Int)) = true then fnd T a q else getI a .opn (q : Int)
def isFresh (T : NT) (a : List Ans) (q : Nat) : Bool := isO (getI a .opn (q : Int)) && !isO (fnd T a q)
def fresh (T : NT) (a : List Ans) : List Nat := (List.range a.length).filter (isFresh T a)
theorem turn_len (T : NT) (a : List Ans) : (turn T a).length = a.length := by unfold turn; simp
theorem turn_get (T : NT) {a : List Ans} {q : Nat} (h : q < a.length) : getI (turn T a) .opn (q : Int) = if isO (getI a .opn (q : Int)) = true then fnd T a q else getI a .opn (q : Int) := by
  show (turn T a).getD q .opn = _
  unfold turn
  rw [List.getD_eq_getElem?_getD, List.getElem?_map, List.getElem?_range h]; rfl
theorem getI_out {a : List Ans} {q : Nat} (h : a.length ≤ q) : getI a .opn (q : Int) = .opn := by
  show a.getD q .opn = _
  rw [List.getD_eq_getElem?_getD, List.getElem?_eq_none h]; rfl
theorem ext_get {a b : List Ans} (hl : a.length = b.length) (h : ∀ q : Nat, q < a.length → getI a .opn (q : Int) = getI b .opn (q : Int)) : a = b := by
  refine List.ext_getElem? fun i => ?_
  by_cases hi : i < a.length
  · have h1 := getI_at (xs := a) (d := Ans.opn) (i := (i : Int)) ⟨by omega, by omega⟩
    have h2 := getI_at (xs := b) (d := Ans.opn) (i := (i : Int)) ⟨by omega, by omega⟩
    have h1 : a[i]? = some (getI a .opn (i : Int)) := h1
    have h2 : b[i]? = some (getI b .opn (i : Int)) := h2
    rw [h1, h2, h i hi]
  · rw [List.getElem?_eq_none (by omega), List.getElem?_eq_none (by omega)]
theorem later_of {a b : List Ans} (hl : a.length = b.length) (h : ∀ q : Nat, q < a.length → getI a .opn (q : Int) ≠ .opn → getI b .opn (q : Int) = getI a .opn (q : Int)) : Later a b := by
  refine ⟨hl, fun i hi => ?_⟩
  have e : getI a .opn i = getI a .opn ((i.toNat : Nat) : Int) := rfl
  have e2 : getI b .opn i = getI b .opn ((i.toNat : Nat) : Int) := rfl
  rw [e] at hi ⊢
  rw [e2]
  by_cases hq : i.toNat < a.length
  · exact h _ hq hi
  · exact absurd (getI_out (by omega)) hi
section
variable {T : NT}
theorem fnd_ok (h : NTOk T) {a : List Ans} (ha : AnsIs T a) {q : Nat} (hq : q < T.net.quests.length) : AnsOk T.net.things.length (fnd T a q) := by
  have hW := h.w a ha
  have hk : 0 ≤ (q : Int) ∧ (q : Int) < (T.w a).net.quests.length := ⟨by omega, by show (q : Int) < (T.net.quests.length : Int); omega⟩
  obtain ⟨hne, hle, hall⟩ := qlooks_ok hW hk
  have hl := hall _ (mem_last (d := noLook) hne)
  have ht := fun t (e : ((qlooks (T.w a) (q : Int)).getLastD noLook).e = .thing t) => look_thing hW hl.1 (by rw [← hl.2]; exact e)
  unfold fnd WY.find WY.findBy
  generalize (qlooks (T.w a) (q : Int)).getLastD noLook = l at ht
  obtain ⟨sc, st, nm, e⟩ := l
  cases e with
  | opn q w => exact trivial
  | none_ => exact trivial
  | torn => exact trivial
  | thing t =>
    have := ht t rfl
    dsimp only
    by_cases hn : (qlooks (T.w a) (q : Int)).length = (quest (T.w a) (q : Int)).path.length
    · rw [if_pos hn]; exact this
    · rw [if_neg hn]
      cases inside (T.w a).net (T.w a).ans t <;> exact trivial
theorem turn_is (h : NTOk T) {a : List Ans} (ha : AnsIs T a) : AnsIs T (turn T a) := by
  refine ⟨(turn_len T a).trans ha.1, fun x hx => ?_⟩
  obtain ⟨q, hq, rfl⟩ := List.mem_map.mp hx
  have hq := List.mem_range.mp hq
  split
  · exact fnd_ok h ha (by rw [← ha.1]; exact hq)
  · exact ha.2 _ (getI_mem ⟨by omega, by omega⟩)
theorem turn_later (a : List Ans) : Later a (turn T a) := later_of (turn_len T a).symm fun q hq hn => by
  rw [turn_get T hq, if_neg]
  rw [isO_iff]; exact hn
theorem fnd_later (h : NTOk T) {a b : List Ans} (ha : AnsIs T a) (hb : AnsIs T b) (l : Later a b) {q : Nat} (hq : q < T.net.quests.length) (hn : fnd T a q ≠ .opn) : fnd T b q = fnd T a q := by
  have := (find_later (net := T.net) (tab := T.tab) l (h.w a ha) (h.w b hb) (k := (q : Int)) ⟨by omega, by omega⟩ hn).1
  show (find (T.w b) (q : Int)).ans = _
  have e : find (T.w b) (q : Int) = find (T.w a) (q : Int) := this
  rw [e]; rfl
def none0 (T : NT) : List Ans := List.replicate T.net.quests.length .opn
theorem none0_is : AnsIs T (none0 T) := ⟨List.length_replicate, fun x hx => by rw [List.eq_of_mem_replicate hx]; exact trivial⟩
theorem none0_get (q : Nat) : getI (none0 T) .opn (q : Int) = .opn := by
  show (none0 T).getD q .opn = _
  unfold none0
  rw [List.getD_eq_getElem?_getD]
  by_cases h : q < T.net.quests.length
  · rw [List.getElem?_replicate_of_lt h]; rfl
  · rw [List.getElem?_eq_none (by rw [List.length_replicate]; omega)]; rfl
def seq (T : NT) : Nat → List Ans
  | 0 => none0 T
  | i + 1 => turn T (seq T i)
theorem seq_is (h : NTOk T) : ∀ i, AnsIs T (seq T i)
  | 0 => none0_is
  | i + 1 => turn_is h (seq_is h i)
theorem seq_later (i : Nat) : ∀ j, Later (seq T i) (seq T (i + j))
  | 0 => Later.refl _
  | j + 1 => (seq_later i j).trans (turn_later _)
theorem seq_le {i j : Nat} (h : i ≤ j) : Later (seq T i) (seq T j) := by
  obtain ⟨k, rfl⟩ : ∃ k, j = i + k := ⟨j - i, by omega⟩
  exact seq_later i k
theorem mem_fresh {a : List Ans} {q : Nat} : q ∈ fresh T a ↔ q < a.length ∧ getI a .opn (q : Int) = .opn ∧ fnd T a q ≠ .opn := by
  unfold fresh isFresh
  rw [List.mem_filter, List.mem_range, Bool.and_eq_true, isO_iff, Bool.not_eq_true', isO_not]
theorem turn_same {a : List Ans} (h : fresh T a = []) : turn T a = a := ext_get (turn_len T a) fun q hq => by
  rw [turn_len] at hq
  rw [turn_get T hq]
  by_cases ho : isO (getI a .opn (q : Int)) = true
  · rw [if_pos ho]
    have ho := isO_iff.mp ho
    rw [ho]
    apply Classical.byContradiction
    intro z
    have : q ∈ fresh T a := mem_fresh.mpr ⟨hq, ho, z⟩
    rw [h] at this; cases this
  · rw [if_neg ho]
theorem filter_lt {α : Type} {p q : α → Bool} : ∀ {xs : List α}, (∀ x ∈ xs, q x = true → p x = true) → (∃ x ∈ xs, p x = true ∧ q x = false) → (xs.filter q).length < (xs.filter p).length
  | [], _, h => by obtain ⟨x, hx, _⟩ := h; cases hx
  | x :: xs, h, he => by
    have hle : (xs.filter q).length ≤ (xs.filter p).length := by
      have := List.countP_mono_left (l := xs) (p := q) (q := p) fun y hy => h y (List.mem_cons_of_mem _ hy)
      rw [← List.countP_eq_length_filter, ← List.countP_eq_length_filter]; exact this
    by_cases hx : p x = true ∧ q x = false
    · rw [List.filter_cons, List.filter_cons, if_pos hx.1, if_neg (by rw [hx.2]; decide), List.length_cons]
      omega
    · have he2 : ∃ y ∈ xs, p y = true ∧ q y = false := by
        obtain ⟨y, hy, h2⟩ := he
        rcases List.mem_cons.mp hy with e | e
        · subst e; exact absurd h2 hx
        · exact ⟨y, e, h2⟩
      have ih := filter_lt (fun y hy => h y (List.mem_cons_of_mem _ hy)) he2
      rw [List.filter_cons, List.filter_cons]
      by_cases hq : q x = true
      · rw [if_pos hq, if_pos (h x List.mem_cons_self hq), List.length_cons, List.length_cons]; omega
      · rw [if_neg hq]
        split
        · rw [List.length_cons]; omega
        · exact ih
def turnOf (T : NT) (q : Nat) : Nat → Nat
  | 0 => 0
  | n + 1 => if turnOf T q n = 0 ∧ isO (getI (seq T (n + 1)) .opn (q : Int)) = false then n + 1 else turnOf T q n
end
end ST

set_option Elab.async false
set_option linter.all false
set_option maxRecDepth 100000
namespace ST
open PySem L2 PL ND WY
section
variable {T : NT}
theorem seq_len (i : Nat) : (seq T i).length = T.net.quests.length := by
  induction i with
  | zero => exact List.length_replicate
  | succ i ih => exact (turn_len T _).trans ih
theorem opn_le {i j : Nat} (h : i ≤ j) {q : Int} (e : getI (seq T j) .opn q = .opn) : getI (seq T i) .opn q = .opn := by
  apply Classical.byContradiction
  intro z
  rw [(seq_le h).st q z] at e
  exact z e
theorem seq_stop {i : Nat} (h : fresh T (seq T i) = []) : ∀ j, seq T (i + j) = seq T i
  | 0 => rfl
  | j + 1 => by
    show turn T (seq T (i + j)) = _
    rw [seq_stop h j, turn_same h]
theorem stop_le {i j : Nat} (h : fresh T (seq T i) = []) (hj : i ≤ j) : seq T j = seq T i := by
  obtain ⟨k, rfl⟩ : ∃ k, j = i + k := ⟨j - i, by omega⟩
  exact seq_stop h k
def top (T : NT) : List Ans := seq T T.net.quests.length
def Fix (T : NT) (a : List Ans) : Prop := ∀ q : Nat, q < a.length → fnd T a q = getI a .opn (q : Int)
theorem seq_fix (h : NTOk T) {b : List Ans} (hb : AnsIs T b) (hf : Fix T b) : ∀ i, Later (seq T i) b
  | 0 => later_of ((seq_len 0).trans hb.1.symm) fun q _ z => absurd (none0_get q) z
  | i + 1 => later_of ((seq_len _).trans hb.1.symm) fun q hq hn => by
    rw [seq_len] at hq
    have ih := seq_fix h hb hf i
    have hq2 : q < (seq T i).length := by rw [seq_len]; exact hq
    have e : getI (seq T (i + 1)) .opn (q : Int) = _ := turn_get T hq2
    rw [e] at hn ⊢
    by_cases ho : isO (getI (seq T i) .opn (q : Int)) = true
    · rw [if_pos ho] at hn ⊢
      rw [← fnd_later h (seq_is h i) hb ih hq hn]
      exact (hf q (by rw [hb.1]; exact hq)).symm
    · rw [if_neg ho]
      exact ih.st _ fun z => ho (isO_iff.mpr z)
inductive Come (T : NT) : List Ans → Prop
  | nil : Come T (none0 T)
  | put {a : List Ans} (h : Come T a) {q : Nat} (hq : q < a.length) (ho : getI a .opn (q : Int) = .opn) : Come T (a.set q (fnd T a q))
theorem set_get {a : List Ans} {q r : Nat} {x : Ans} (hq : q < a.length) : getI (a.set q x) .opn (r : Int) = if r = q then x else getI a .opn (r : Int) := by
  show (a.set q x).getD r .opn = _
  rw [List.getD_eq_getElem?_getD]
  by_cases h : r = q
  · subst h
    rw [List.getElem?_set_self hq, if_pos rfl]; rfl
  · rw [List.getElem?_set_ne (fun z => h z.symm), if_neg h]
    show _ = a.getD r .opn
    rw [List.getD_eq_getElem?_getD]
theorem Come.is (h : NTOk T) {a : List Ans} (c : Come T a) : AnsIs T a := by
  induction c with
  | nil => exact none0_is
  | @put a c q hq ho ih =>
    refine ⟨by rw [List.length_set]; exact ih.1, fun x hx => ?_⟩
    rcases List.mem_or_eq_of_mem_set hx with e | e
    · exact ih.2 x e
    · rw [e]; exact fnd_ok h ih (by rw [← ih.1]; exact hq)
theorem Come.le (h : NTOk T) {b : List Ans} (hb : AnsIs T b) (hf : Fix T b) {a : List Ans} (c : Come T a) : Later a b := by
  induction c with
  | nil => exact seq_fix h hb hf 0
  | @put a c q hq ho ih =>
    have hi := c.is h
    refine later_of (by rw [List.length_set]; exact ih.len) fun r hr hn => ?_
    rw [List.length_set] at hr
    rw [set_get hq] at hn ⊢
    by_cases e : r = q
    · subst e
      rw [if_pos rfl] at hn ⊢
      rw [← fnd_later h hi hb ih (by rw [← hi.1]; exact hr) hn]
      exact (hf r (by rw [← ih.len]; exact hr)).symm
    · rw [if_neg e] at hn ⊢
      exact ih.st _ hn
theorem turnOf_zero (q : Nat) : ∀ n, turnOf T q n = 0 ↔ getI (seq T n) .opn (q : Int) = .opn
  | 0 => ⟨fun _ => none0_get q, fun _ => rfl⟩
  | n + 1 => by
    have ih := turnOf_zero q n
    unfold turnOf
    constructor
    · intro h
      by_cases hc : turnOf T q n = 0 ∧ isO (getI (seq T (n + 1)) .opn (q : Int)) = false
      · rw [if_pos hc] at h; cases h
      · rw [if_neg hc] at h
        apply Classical.byContradiction
        intro z
        exact hc ⟨h, isO_not.mpr z⟩
    · intro h
      rw [if_neg (fun z => by rw [isO_iff.mpr h] at z; exact absurd z.2 (by decide))]
      exact ih.mpr (opn_le (Nat.le_succ n) h)
theorem turnOf_pos (q : Nat) : ∀ {n : Nat}, turnOf T q n ≠ 0 → turnOf T q n ≤ n ∧ getI (seq T (turnOf T q n - 1)) .opn (q : Int) = .opn ∧ getI (seq T (turnOf T q n)) .opn (q : Int) ≠ .opn
  | 0, h => absurd rfl h
  | n + 1, h => by
    unfold turnOf at h ⊢
    by_cases hc : turnOf T q n = 0 ∧ isO (getI (seq T (n + 1)) .opn (q : Int)) = false
    · rw [if_pos hc]
      exact ⟨Nat.le_refl _, (turnOf_zero q n).mp hc.1, isO_not.mp hc.2⟩
    · rw [if_neg hc] at h ⊢
      have := turnOf_pos q h
      exact ⟨by omega, this.2⟩
theorem turnOf_step {q n : Nat} (hq : q < T.net.quests.length) : turnOf T q (n + 1) = if q ∈ fresh T (seq T n) then n + 1 else turnOf T q n := by
  have e : getI (seq T (n + 1)) .opn (q : Int) = _ := turn_get T (a := seq T n) (q := q) (by rw [seq_len]; exact hq)
  have z := turnOf_zero (T := T) q n
  conv => lhs; unfold turnOf
  by_cases hm : q ∈ fresh T (seq T n)
  · have h3 := mem_fresh.mp hm
    rw [if_pos hm, if_pos ⟨z.mpr h3.2.1, by rw [e, if_pos (isO_iff.mpr h3.2.1)]; exact isO_not.mpr h3.2.2⟩]
  · rw [if_neg hm, if_neg]
    rintro ⟨h1, h2⟩
    have h1 := z.mp h1
    rw [e, if_pos (isO_iff.mpr h1)] at h2
    exact hm (mem_fresh.mpr ⟨by rw [seq_len]; exact hq, h1, isO_not.mp h2⟩)
def topT (T : NT) (q : Nat) : Nat := turnOf T q T.net.quests.length
theorem topT_pos {q : Nat} (h : topT T q ≠ 0) : topT T q ≤ T.net.quests.length ∧ getI (seq T (topT T q - 1)) .opn (q : Int) = .opn ∧ getI (seq T (topT T q)) .opn (q : Int) ≠ .opn := turnOf_pos q h
theorem early {q : Nat} (h : 1 < topT T q) : fnd T (seq T (topT T q - 2)) q = .opn ∧ ∃ r, r < T.net.quests.length ∧ topT T r = topT T q - 1 := by
  have hp := topT_pos (T := T) (q := q) (by omega)
  have hql : q < T.net.quests.length := by
    apply Classical.byContradiction
    intro z
    exact hp.2.2 (getI_out (by rw [seq_len]; omega))
  have ho : getI (seq T (topT T q - 2)) .opn (q : Int) = .opn := opn_le (by omega) hp.2.1
  have es : seq T (topT T q - 1) = turn T (seq T (topT T q - 2)) := by
    rw [show topT T q - 1 = topT T q - 2 + 1 by omega]; rfl
  refine ⟨?_, ?_⟩
  · have e := turn_get T (a := seq T (topT T q - 2)) (q := q) (by rw [seq_len]; exact hql)
    rw [← es, hp.2.1, if_pos (isO_iff.mpr ho)] at e
    exact e.symm
  · have hf : fresh T (seq T (topT T q - 2)) ≠ [] := fun z => by
      have e1 := stop_le z (j := topT T q) (by omega)
      rw [e1] at hp
      exact hp.2.2 ho
    cases hf2 : fresh T (seq T (topT T q - 2)) with
    | nil => exact absurd hf2 hf
    | cons r rs =>
      have hm : r ∈ fresh T (seq T (topT T q - 2)) := by rw [hf2]; exact List.mem_cons_self
      have h3 := mem_fresh.mp hm
      have hr : r < T.net.quests.length := by rw [← seq_len (T := T) (topT T q - 2)]; exact h3.1
      refine ⟨r, hr, ?_⟩
      have e : turnOf T r (topT T q - 2 + 1) = _ := turnOf_step hr
      rw [if_pos hm] at e
      have keep : ∀ j, turnOf T r (topT T q - 2 + 1 + j) = topT T q - 2 + 1 := by
        intro j
        induction j with
        | zero => exact e
        | succ j ih =>
          rw [show topT T q - 2 + 1 + (j + 1) = (topT T q - 2 + 1 + j) + 1 by omega]
          unfold turnOf
          rw [ih, if_neg (by omega)]
      have hk := keep (T.net.quests.length - (topT T q - 2 + 1))
      rw [show topT T q - 2 + 1 + (T.net.quests.length - (topT T q - 2 + 1)) = T.net.quests.length by omega] at hk
      have hk2 : topT T r = topT T q - 2 + 1 := hk
      omega
end
end ST

set_option Elab.async false
set_option linter.all false
set_option maxRecDepth 100000
namespace MD
open PySem L2 PL ND WY
def sW : Str := ⟨#[]⟩
def ltr (i : Int) : Str := ⟨⟨[(alpha[(i.fmod 26).toNat]?).getD 97]⟩⟩
def sgn (c j : Int) : Int := c.fdiv (64 + 3 * j) + j * ((c.fdiv 64).fmod 2)
def chr (c a k j : Int) : Int := sgn c j + k * (if decide (j = a) = true then 1 else 0)
def word (c a k : Int) : Nat → Str
  | 0 => Str.ofString ""
  | j + 1 => word c a k j ++ ltr (chr c a k (0 + (j : Int)))
def size (c : Int) : Nat := (1 + c.fmod 8).toNat
def words (c : Int) (n : Nat) : List Str := (List.range n).map fun (k : Nat) => word c ((c.fdiv 8).fmod (size c)) (0 + (k : Int)) (size c)
def names (c : Int) (n : Nat) : List Str := if (c.fdiv 128).fmod 3 = 1 ∧ size c < 8 then (words c n).set 1 ((words c n).headD sW ++ ltr (c.fdiv 384)) else words c n
def ranks : Int → Nat → List Int
  | _, 0 => []
  | m, n + 1 => m.fmod 5 :: ranks (m.fdiv 5) n
def sortP (ps : List OR.Pr) : List OR.Pr := ps.mergeSort (PySem.W.dataLe false OR.eP)
def sortG (gs : List (Str × Int)) : List (Str × Int) := gs.mergeSort (PySem.W.dataLe false TB.eG)
def sortW (ws : List Str) : List Str := ws.mergeSort (PySem.W.dataLe false PyData.str)
def rk1 (c : Int) (n : Nat) : List Int := ranks ((c * 48271).fmod 2147483647) n
def rk2 (c : Int) (n : Nat) : List Int := if c.fmod 2 = 1 then ranks ((c * 69621).fmod 2147483629) n else rk1 c n
def lessB (o1 o2 : List Int) (j k : Int) : Bool := decide (getI o1 0 j < getI o1 0 k ∧ getI o2 0 j < getI o2 0 k)
def rowO (o1 o2 : List Int) (ls : List Str) (j : Int) : Nat → List OR.Pr
  | 0 => []
  | k + 1 => rowO o1 o2 ls j k ++ if lessB o1 o2 j (0 + (k : Int)) = true then [(getI ls sW j, getI ls sW (0 + (k : Int)))] else []
def rowsO (o1 o2 : List Int) (ls : List Str) : Nat → List OR.Pr
  | 0 => []
  | j + 1 => rowsO o1 o2 ls j ++ rowO o1 o2 ls (0 + (j : Int)) ls.length
def order (c : Int) (ls : List Str) : List OR.Pr := sortP (rowsO (rk1 c ls.length) (rk2 c ls.length) ls ls.length)
structure OrdIs (ls : List Str) (ps : List OR.Pr) : Prop where
  od : ∀ p ∈ ps, p.1 ∈ ls ∧ p.2 ∈ ls
  nr : ∀ p ∈ ps, p.1 ≠ p.2
  tr : ∀ p ∈ ps, ∀ q ∈ ps, p.2 = q.1 → (p.1, q.2) ∈ ps
def goesTo (m : Int) (rs : List Int) (ls : List Str) : Nat → List (Str × Int)
  | 0 => []
  | k + 1 => goesTo m rs ls k ++ if getI rs 0 (0 + (k : Int)) > 0 then [(getI ls sW (0 + (k : Int)), (getI rs 0 (5 + (0 + (k : Int)))).fmod m)] else []
def endsTo (rs : List Int) (ls : List Str) : Nat → List Str
  | 0 => []
  | k + 1 => endsTo rs ls k ++ if getI rs 0 (10 + (0 + (k : Int))) > 0 then [getI ls sW (0 + (k : Int))] else []
def state (m : Int) (ls : List Str) (c : Int) : TB.XSt := (sortG (goesTo m (ranks ((c * 864691128455135233).fmod 2305843009213693951) 20) ls 5), sortW (endsTo (ranks ((c * 864691128455135233).fmod 2305843009213693951) 20) ls 5))
def stCells (cs : List Int) : List Int := cutL cs (some 1) (some (2 + (getI cs 0 0).fmod 3))
def table (cs : List Int) (ls : List Str) : TB.XTab := ⟨(stCells cs).map (state (1 + (getI cs 0 0).fmod 3) ls), ((getI cs 0 0).fdiv 3).fmod (stCells cs).length, order (getI cs 0 4) ls⟩
def question (c : Int) (many states : Nat) (nms : List Str) : Quest :=
  ⟨((c * 16807).fmod 65519).fmod many, ((c * 69621).fmod 65497).fmod states,
    [getI nms sW (((c * 48271).fmod 65521).fmod 3)] ++ (if ((((c * 48271).fmod 65521).fdiv 3).fmod 2 = 1) then [getI nms sW ((((c * 48271).fmod 65521).fdiv 6).fmod 3)] else []) ++
    (if ((((c * 48271).fmod 65521).fdiv 18).fmod 4 = 3) then [getI nms sW ((((c * 48271).fmod 65521).fdiv 72).fmod 3)] else [])⟩
def thing (c : Int) (many asked : Nat) : Thing := if ((c * 69621).fmod 65497).fmod 4 = 0 then .plain else if ((c * 69621).fmod 65497).fmod 4 = 1 then .sort (((c * 48271).fmod 65521).fmod asked) else .part (((c * 48271).fmod 65521).fmod many)
def step (c : Int) (ls : List Str) (many asked : Nat) : ND.Step := if ((c * 69621).fmod 65497).fmod 2 = 0 then ⟨getI ls sW (((c * 48271).fmod 65521).fmod 5), true, ((c * 16807).fmod 65519).fmod asked⟩ else ⟨getI ls sW (((c * 48271).fmod 65521).fmod 5), false, ((c * 16807).fmod 65519).fmod many⟩
def tell (c : Int) (ls nms : List Str) (things asked : Nat) : ND.Tell := if ((c * 69621).fmod 65497).fmod 3 = 0 then ⟨getI ls sW (((c * 48271).fmod 65521).fmod 5), getI nms sW ((((c * 69621).fmod 65497).fdiv 3).fmod 3), true, ((c * 16807).fmod 65519).fmod asked⟩ else ⟨getI ls sW (((c * 48271).fmod 65521).fmod 5), getI nms sW ((((c * 69621).fmod 65497).fdiv 3).fmod 3), false, ((c * 16807).fmod 65519).fmod things⟩
end MD

set_option Elab.async false
set_option linter.all false
set_option maxRecDepth 100000
namespace MD
open PySem L2 PL ND WY
def most (n : Nat) : Nat := if n < 4 then 3 else 2
def noSc : ND.Scope := ([], [])
structure Dr where
  ls : List Str
  nms : List Str
  many : Nat
  things : Nat
  asked : Nat
structure DrOk (d : Dr) : Prop where
  l5 : d.ls.length = 5
  n3 : d.nms.length = 3
  lw : ∀ x ∈ d.ls, isNm x
  nw : ∀ x ∈ d.nms, isNm x
  m0 : 0 < d.many
  t0 : 0 < d.things
  a0 : 0 < d.asked
def place (d : Dr) (c : Int) : Int := ((c.fdiv 8 * 48271).fmod 65539).fmod d.many
def layS (d : Dr) (c : Int) (ss : List ND.Scope) : List ND.Scope :=
  if c.fmod 8 < 3 ∧ (getI ss noSc (place d c)).1.length < most d.many then ss.set (place d c).toNat ((getI ss noSc (place d c)).1 ++ [step (c.fdiv 8) d.ls d.many d.asked], (getI ss noSc (place d c)).2) else ss
def layT (d : Dr) (c : Int) (ss : List ND.Scope) : List ND.Scope :=
  if (2 < c.fmod 8 ∧ c.fmod 8 < 6) ∧ (getI ss noSc (place d c)).2.length < 2 then ss.set (place d c).toNat ((getI ss noSc (place d c)).1, (getI ss noSc (place d c)).2 ++ [tell (c.fdiv 8) d.ls d.nms d.things d.asked]) else ss
def lays (d : Dr) (cs : List Int) : List ND.Scope := cs.foldl (fun ss c => layT d c (layS d c ss)) (List.replicate d.many noSc)
def putT (many asked : Nat) (ts : List Thing) (c : Int) : List Thing := if c.fmod 8 = 6 ∧ ts.length < 6 then ts ++ [thing (c.fdiv 8) many asked] else ts
def putQ (many states : Nat) (nms : List Str) (qs : List Quest) (c : Int) : List Quest := if c.fmod 8 = 7 ∧ qs.length < 6 then qs ++ [question (c.fdiv 8) many states nms] else qs
def asks (cs : List Int) : List Int := cs.filter fun c => decide (c.fmod 8 = 7)
def askedN (cs : List Int) : Nat := 1 + min 5 (asks cs).length
def cellAt (ns : List Int) (k : Int) : Int := ns.getD k.toNat 0
def rest (ns : List Int) : List Int := cutL ns (some 9) none
def nms (ns : List Int) : List Str := names (cellAt ns 0) 3
def labs (ns : List Int) : List Str := names (cellAt ns 1) 5
def tab (ns : List Int) : TB.XTab := table ((List.range 5).map fun (k : Nat) => cellAt ns (2 + (k : Int))) (labs ns)
def many (ns : List Int) : Nat := (1 + (cellAt ns 7).fmod 5).toNat
def things (ns : List Int) : List Thing := (rest ns).foldl (putT (many ns) (askedN (rest ns))) [.part (((cellAt ns 7).fdiv 5).fmod (many ns))]
def quests (ns : List Int) : List Quest := (rest ns).foldl (putQ (many ns) (tab ns).states.length (nms ns)) [question ((cellAt ns 7).fdiv 25) (many ns) (tab ns).states.length (nms ns)]
def drs (ns : List Int) : Dr := ⟨labs ns, nms ns, many ns, (things ns).length, askedN (rest ns)⟩
def net (ns : List Int) : Net := ⟨lays (drs ns) (rest ns), things ns, quests ns⟩
structure NetIs (ns : List Int) : Prop where
  net : NetOk (net ns)
  tab : TOk (tab ns)
  qst : ∀ q ∈ (MD.net ns).quests, q.state < (MD.tab ns).states.length
  p3 : ∀ q ∈ (MD.net ns).quests, q.path.length ≤ 3
  sc1 : 1 ≤ (MD.net ns).scopes.length
  sc5 : (MD.net ns).scopes.length ≤ 5
  st : ∀ s ∈ (MD.net ns).scopes, s.1.length ≤ most (MD.net ns).scopes.length ∧ s.2.length ≤ 2
  th0 : 0 < (MD.net ns).things.length
  th6 : (MD.net ns).things.length ≤ 6
  q0 : 0 < (MD.net ns).quests.length
  q6 : (MD.net ns).quests.length ≤ 6
end MD

set_option Elab.async false
set_option linter.all false
set_option maxRecDepth 100000
namespace MX
open PySem L2 PL
open OR (Pr Reach eP)
def WW (E : Nat → Nat → Prop) : Nat → Nat → Nat → Prop
  | 0, i, j => E i j
  | k + 1, i, j => WW E k i j ∨ (WW E k i k ∧ WW E k k j)
theorem WW.tr {E : Nat → Nat → Prop} : ∀ {k c i j : Nat}, c < k → WW E k i c → WW E k c j → WW E k i j
  | 0, _, _, _, h, _, _ => by omega
  | k + 1, c, i, j, h, h1, h2 => by
    by_cases e : c = k
    · subst e
      have a : WW E c i c := by
        rcases h1 with h | h
        · exact h
        · exact h.1
      have b : WW E c c j := by
        rcases h2 with h | h
        · exact h
        · exact h.2
      exact .inr ⟨a, b⟩
    · have hk : c < k := by omega
      rcases h1 with a | ⟨a1, a2⟩
      · rcases h2 with b | ⟨b1, b2⟩
        · exact .inl (WW.tr hk a b)
        · exact .inr ⟨WW.tr hk a b1, b2⟩
      · rcases h2 with b | ⟨b1, b2⟩
        · exact .inr ⟨a1, WW.tr hk a2 b⟩
        · exact .inr ⟨a1, b2⟩
theorem WW.up {E : Nat → Nat → Prop} {i j : Nat} : ∀ k, E i j → WW E k i j
  | 0, h => h
  | k + 1, h => .inl (WW.up k h)
abbrev Mx := List (List Bool)
def at2 (R : Mx) (i j : Nat) : Bool := ((R[i]?).getD [])[j]?.getD false
def put2 (R : Mx) (i j : Nat) : Mx := R.set i (((R[i]?).getD []).set j true)
structure Sq (n : Nat) (R : Mx) : Prop where
  len : R.length = n
  row : ∀ r ∈ R, r.length = n
theorem Sq.get {n : Nat} {R : Mx} (h : Sq n R) {i : Nat} (hi : i < n) : ∃ r, R[i]? = some r ∧ r.length = n ∧ ∀ j, at2 R i j = r[j]?.getD false := by
  have hl : i < R.length := by rw [h.len]; exact hi
  refine ⟨R[i], List.getElem?_eq_getElem hl, h.row _ (List.getElem_mem hl), fun j => ?_⟩
  unfold at2
  rw [List.getElem?_eq_getElem hl]; rfl
theorem Sq.at {n : Nat} {R : Mx} (h : Sq n R) {i j : Nat} (hi : i < n) (hj : j < n) : ∃ r, R[i]? = some r ∧ r.length = n ∧ r[j]? = some (at2 R i j) := by
  obtain ⟨r, h1, h2, h3⟩ := h.get hi
  refine ⟨r, h1, h2, ?_⟩
  rw [h3, List.getElem?_eq_getElem (by omega)]; rfl
theorem Sq.put {n : Nat} {R : Mx} (h : Sq n R) {i j : Nat} (hi : i < n) (hj : j < n) : Sq n (put2 R i j) := by
  obtain ⟨r, h1, h2, _⟩ := h.get hi
  refine ⟨by unfold put2; rw [List.length_set, h.len], fun r' hr => ?_⟩
  unfold put2 at hr
  rcases List.mem_or_eq_of_mem_set hr with k | k
  · exact h.row _ k
  · rw [k, h1, Option.getD_some, List.length_set, h2]
theorem Sq.put_at {n : Nat} {R : Mx} (h : Sq n R) {i j a b : Nat} (hi : i < n) (hj : j < n) : at2 (put2 R i j) a b = (at2 R a b || (decide (a = i) && decide (b = j))) := by
  obtain ⟨r, h1, h2, h3⟩ := h.get hi
  unfold put2
  by_cases e : a = i
  · subst e
    have : at2 (R.set a (((R[a]?).getD []).set j true)) a b = (r.set j true)[b]?.getD false := by
      unfold at2
      rw [List.getElem?_set_self (by rw [h.len]; exact hi), h1]; rfl
    rw [this, h3]
    by_cases e2 : b = j
    · subst e2
      rw [List.getElem?_set_self (by omega)]; simp
    · rw [List.getElem?_set_ne (Ne.symm e2)]; simp [e2]
  · have : at2 (R.set i (((R[i]?).getD []).set j true)) a b = at2 R a b := by
      unfold at2
      rw [List.getElem?_set_ne (Ne.symm e)]
    rw [this]; simp [e]
structure MI (T E : Nat → Nat → Prop) (n k i j : Nat) (R : Mx) : Prop where
  sq : Sq n R
  so : ∀ a b, a < n → b < n → at2 R a b = true → T a b
  lo : ∀ a b, a < n → b < n → WW E k a b → at2 R a b = true
  dn : ∀ a b, a < n → b < n → (a < i ∨ (a = i ∧ b < j)) → WW E (k + 1) a b → at2 R a b = true
section
variable {T E : Nat → Nat → Prop} {n k i j : Nat} {R : Mx}
theorem MI.row (h : MI T E n k i n R) : MI T E n k (i + 1) 0 R := ⟨h.sq, h.so, h.lo, fun a b ha hb hd w => h.dn a b ha hb (by omega) w⟩
theorem MI.round (h : MI T E n k n 0 R) : MI T E n (k + 1) 0 0 R := ⟨h.sq, h.so, fun a b ha hb w => h.dn a b ha hb (.inl ha) w, fun a b ha hb hd w => by omega⟩
theorem MI.old (h : MI T E n k i j R) (hi : i < n) (hj : j < n) (hk : k < n) (hc : (at2 R i k && at2 R k j) = false) : MI T E n k i (j + 1) R := ⟨h.sq, h.so, h.lo, fun a b ha hb hd w => by
  by_cases e : a = i ∧ b = j
  · obtain ⟨rfl, rfl⟩ := e
    rcases w with w | ⟨w1, w2⟩
    · exact h.lo a b ha hb w
    · rw [h.lo a k ha hk w1, h.lo k b hk hb w2] at hc; cases hc
  · exact h.dn a b ha hb (by omega) w⟩
theorem MI.new (h : MI T E n k i j R) (tr : ∀ a b c, T a b → T b c → T a c) (hi : i < n) (hj : j < n) (hk : k < n) (hc : (at2 R i k && at2 R k j) = true) : MI T E n k i (j + 1) (put2 R i j) := by
  rw [Bool.and_eq_true] at hc
  refine ⟨h.sq.put hi hj, fun a b ha hb w => ?_, fun a b ha hb w => ?_, fun a b ha hb hd w => ?_⟩
  · rw [h.sq.put_at hi hj, Bool.or_eq_true] at w
    rcases w with w | w
    · exact h.so a b ha hb w
    · simp only [Bool.and_eq_true, decide_eq_true_eq] at w
      rw [w.1, w.2]
      exact tr _ _ _ (h.so i k hi hk hc.1) (h.so k j hk hj hc.2)
  · rw [h.sq.put_at hi hj, h.lo a b ha hb w]; rfl
  · rw [h.sq.put_at hi hj]
    by_cases e : a = i ∧ b = j
    · simp [e.1, e.2]
    · rw [h.dn a b ha hb (by omega) w]; rfl
end
def Ed (ps : List Pr) (ls : List Str) (i j : Nat) : Prop := ∃ a b, ls[i]? = some a ∧ ls[j]? = some b ∧ (a, b) ∈ ps
def Tc (ps : List Pr) (ls : List Str) (i j : Nat) : Prop := ∃ a b, ls[i]? = some a ∧ ls[j]? = some b ∧ Reach ps a b
section
variable {ps : List Pr} {ls : List Str}
theorem Tc.tr (a b c : Nat) (h : Tc ps ls a b) (k : Tc ps ls b c) : Tc ps ls a c := by
  obtain ⟨x, y, h1, h2, h3⟩ := h
  obtain ⟨y', z, k1, k2, k3⟩ := k
  obtain rfl := Option.some.inj (h2.symm.trans k1)
  exact ⟨x, z, h1, k2, h3.trans k3⟩
def row0 (ps : List Pr) (ls : List Str) : Mx := ls.map fun a => ls.map fun b => decide ((a, b) ∈ ps)
theorem row0_sq : Sq ls.length (row0 ps ls) := ⟨by simp [row0], fun r hr => by
  obtain ⟨a, _, rfl⟩ := List.mem_map.mp hr
  simp⟩
theorem row0_at {i j : Nat} (hi : i < ls.length) (hj : j < ls.length) : at2 (row0 ps ls) i j = decide ((ls[i], ls[j]) ∈ ps) := by
  unfold at2 row0
  rw [List.getElem?_map, List.getElem?_eq_getElem hi]
  simp only [Option.map_some, Option.getD_some]
  rw [List.getElem?_map, List.getElem?_eq_getElem hj]; rfl
theorem MI.start : MI (Tc ps ls) (Ed ps ls) ls.length 0 0 0 (row0 ps ls) := by
  refine ⟨row0_sq, fun a b ha hb w => ?_, fun a b ha hb w => ?_, fun a b ha hb hd w => by omega⟩
  · rw [row0_at ha hb] at w
    exact ⟨_, _, List.getElem?_eq_getElem ha, List.getElem?_eq_getElem hb, .one (of_decide_eq_true w)⟩
  · rw [row0_at ha hb]
    obtain ⟨x, y, h1, h2, h3⟩ := w
    rw [List.getElem?_eq_getElem ha] at h1
    rw [List.getElem?_eq_getElem hb] at h2
    cases h1; cases h2
    exact decide_eq_true h3
theorem MI.done {R : Mx} (hp : ∀ p ∈ ps, p.1 ∈ ls ∧ p.2 ∈ ls) (nd : ls.Nodup) (h : MI (Tc ps ls) (Ed ps ls) ls.length ls.length 0 0 R) {i j : Nat} {a b : Str} (ha : ls[i]? = some a) (hb : ls[j]? = some b) : at2 R i j = true ↔ Reach ps a b := by
  have hi := (List.getElem?_eq_some_iff.mp ha).1
  have hj := (List.getElem?_eq_some_iff.mp hb).1
  refine ⟨fun k => ?_, fun k => h.lo i j hi hj ?_⟩
  · obtain ⟨x, y, h1, h2, h3⟩ := h.so i j hi hj k
    obtain rfl := Option.some.inj (h1.symm.trans ha)
    obtain rfl := Option.some.inj (h2.symm.trans hb)
    exact h3
  · have key : ∀ {a b : Str}, Reach ps a b → ∀ i j, ls[i]? = some a → ls[j]? = some b → WW (Ed ps ls) ls.length i j := by
      intro a b hr
      induction hr with
      | one h1 => exact fun i j ha hb => .up _ ⟨_, _, ha, hb, h1⟩
      | @step y z h1 h2 ih =>
        intro i j ha hb
        obtain ⟨c, hc, e⟩ := List.mem_iff_getElem.mp (hp _ h2).1
        have e' : ls[c]? = some y := by rw [List.getElem?_eq_getElem hc, e]
        exact WW.tr hc (ih i c ha e') (.up _ ⟨_, _, e', hb, h2⟩)
    exact key k i j ha hb
end
open Classical in
noncomputable def reachB (ps : List Pr) (a b : Str) : Bool := decide (Reach ps a b)
theorem reachB_iff {ps : List Pr} {a b : Str} : reachB ps a b = true ↔ Reach ps a b := by unfold reachB; simp
noncomputable def rowsOf (ps : List Pr) (ls : List Str) : Mx := ls.map fun a => ls.map fun b => reachB ps a b
theorem MI.eq {ps : List Pr} {ls : List Str} {R : Mx} (hp : ∀ p ∈ ps, p.1 ∈ ls ∧ p.2 ∈ ls) (nd : ls.Nodup) (h : MI (Tc ps ls) (Ed ps ls) ls.length ls.length 0 0 R) : R = rowsOf ps ls := by
  have e1 : R.length = (rowsOf ps ls).length := by rw [h.sq.len]; simp [rowsOf]
  refine List.ext_getElem e1 fun i h1 h2 => ?_
  have hi : i < ls.length := by rw [← h.sq.len]; exact h1
  obtain ⟨r, k1, k2, k3⟩ := h.sq.get hi
  rw [List.getElem?_eq_getElem h1] at k1
  cases k1
  have e2 : (rowsOf ps ls)[i] = ls.map fun b => reachB ps ls[i] b := by simp [rowsOf]
  rw [e2]
  refine List.ext_getElem (by rw [k2]; simp) fun j j1 j2 => ?_
  have hj : j < ls.length := by rw [← k2]; exact j1
  rw [List.getElem_map]
  have := k3 j
  rw [List.getElem?_eq_getElem j1, Option.getD_some] at this
  rw [← this, Bool.eq_iff_iff, reachB_iff]
  exact MI.done hp nd h (List.getElem?_eq_getElem hi) (List.getElem?_eq_getElem hj)
end MX

set_option Elab.async false
set_option linter.all false
set_option maxRecDepth 100000
namespace PL
open PySem L2
section
variable {S : Sto} {U V : List Nat}
mutual
theorem Vu.sub (h : ∀ n ∈ V, n ∈ U) : ∀ (e : PyData) (d : D), Vu S U d e → Vu S V d e
  | .none, _, w => by cases w; exact .z
  | .bool _, _, w => by cases w; exact .z
  | .int _, _, w => by cases w; exact .z
  | .str _, _, w => by cases w; exact .z
  | .dict _, _, w => by cases w; exact .z
  | .list es, _, w => by
    cases w with
    | z => exact .z
    | r nu e ws => exact .r (fun z => nu (h _ z)) e (Vus.sub h es _ ws)
  | .tuple es, _, w => by
    cases w with
    | z => exact .z
    | t ws => exact .t (Vus.sub h es _ ws)
theorem Vus.sub (h : ∀ n ∈ V, n ∈ U) : ∀ (es : List PyData) (ds : List D), Vus S U ds es → Vus S V ds es
  | [], _, w => by cases w; exact .nil
  | e :: es, _, w => by cases w with | cons a b => exact .cons (Vu.sub h e _ a) (Vus.sub h es _ b)
end
mutual
theorem VR.vu (h : ∀ n ∈ V, n ∈ U) : ∀ (r : RT) (d : D) (ns : List Nat), VR S U d r ns → (∀ n ∈ ns, n ∉ V) → Vu S V d (rtD r)
  | .z e, _, _, w, _ => by cases w with | z a => exact Vu.sub h e _ a
  | .l rs, _, _, w, hn => by
    cases w with
    | @l n ds _ ns e ws => exact .r (hn n (by simp)) e (VRs.vu h rs _ _ ws fun m hm => hn m (by simp [hm]))
  | .t rs, _, _, w, hn => by
    cases w with
    | t ws => exact .t (VRs.vu h rs _ _ ws hn)
theorem VRs.vu (h : ∀ n ∈ V, n ∈ U) : ∀ (rs : List RT) (ds : List D) (ns : List Nat), VRs S U ds rs ns → (∀ n ∈ ns, n ∉ V) → Vus S V ds (rtDs rs)
  | [], _, _, w, _ => by cases w; exact .nil
  | r :: rs, _, _, w, hn => by
    cases w with
    | cons a b => exact .cons (VR.vu h r _ _ a fun m hm => hn m (by simp [hm])) (VRs.vu h rs _ _ b fun m hm => hn m (by simp [hm]))
end
end
end PL
namespace WY
open PySem L2 PL
end WY

set_option Elab.async false
set_option linter.all false
set_option maxRecDepth 100000
namespace PL
open PySem L2
section
variable {S S' : Sto} {U : List Nat}
mutual
theorem Vu.keep (k : Keep U S S') : ∀ (e : PyData) (d : D), Vu S U d e → Vu S' U d e
  | .none, _, w => by cases w; exact .z
  | .bool _, _, w => by cases w; exact .z
  | .int _, _, w => by cases w; exact .z
  | .str _, _, w => by cases w; exact .z
  | .dict _, _, w => by cases w; exact .z
  | .list es, _, w => by
    cases w with
    | z => exact .z
    | r nu e ws => exact .r nu (k _ _ nu e) (Vus.keep k es _ ws)
  | .tuple es, _, w => by
    cases w with
    | z => exact .z
    | t ws => exact .t (Vus.keep k es _ ws)
theorem Vus.keep (k : Keep U S S') : ∀ (es : List PyData) (ds : List D), Vus S U ds es → Vus S' U ds es
  | [], _, w => by cases w; exact .nil
  | e :: es, _, w => by cases w with | cons a b => exact .cons (Vu.keep k e _ a) (Vus.keep k es _ b)
end
mutual
theorem Vu.vw : ∀ (e : PyData) (d : D), Vu S U d e → Vw S d e
  | .none, _, w => by cases w; exact .z
  | .bool _, _, w => by cases w; exact .z
  | .int _, _, w => by cases w; exact .z
  | .str _, _, w => by cases w; exact .z
  | .dict _, _, w => by cases w; exact .z
  | .list es, _, w => by
    cases w with
    | z => exact .z
    | r nu e ws => exact .r e (Vus.vw es _ ws)
  | .tuple es, _, w => by
    cases w with
    | z => exact .z
    | t ws => exact .t (Vus.vw es _ ws)
theorem Vus.vw : ∀ (es : List PyData) (ds : List D), Vus S U ds es → Vws S ds es
  | [], _, w => by cases w; exact .nil
  | e :: es, _, w => by cases w with | cons a b => exact .cons (Vu.vw e _ a) (Vus.vw es _ b)
end
theorem Vus.zs {α : Type} (f : α → PyData) : ∀ xs : List α, Vus S U (xs.map fun x => .z (f x)) (xs.map f)
  | [] => .nil
  | x :: xs => .cons .z (Vus.zs f xs)
end
end PL
namespace WY
open PySem L2 PL KD
end WY

set_option Elab.async false
set_option linter.all false
set_option maxRecDepth 100000
namespace TT
open PySem L2 PL
open TB (XSt)
open OR (Pr Reach Ord PLt)
section
variable {α : Type} [DecidableEq α] {s : α}
def pstep (s : α) (acc : List (List α)) (w : α) : List (List α) := if w = s then acc ++ [[]] else acc.dropLast ++ [acc.getLastD [] ++ [w]]
def parts (s : α) (ws : List α) : List (List α) := ws.foldl (pstep s) [[]]
theorem parts_snoc (ws : List α) (w : α) : parts s (ws ++ [w]) = pstep s (parts s ws) w := by unfold parts; rw [List.foldl_append]; rfl
theorem parts_ne (ws : List α) : parts s ws ≠ [] := by
  have : ∀ (ws : List α) (acc : List (List α)), acc ≠ [] → ws.foldl (pstep s) acc ≠ [] := by
    intro ws
    induction ws with
    | nil => intro acc h; exact h
    | cons w ws ih =>
      intro acc h
      refine ih _ ?_
      unfold pstep
      split <;> simp
  exact this ws _ (by simp)
def inter (s : α) : List (List α) → List α
  | [] => []
  | [g] => g
  | g :: h :: gs => g ++ s :: inter s (h :: gs)
theorem inter_snoc (s : α) : ∀ (gs : List (List α)) (g : List α), gs ≠ [] → inter s (gs ++ [g]) = inter s gs ++ s :: g
  | [], _, h => absurd rfl h
  | [h], g, _ => rfl
  | h :: i :: gs, g, _ => by
    show h ++ s :: inter s (i :: gs ++ [g]) = (h ++ s :: inter s (i :: gs)) ++ s :: g
    rw [inter_snoc s (i :: gs) g (by simp)]; simp
theorem inter_nil {gs : List (List α)} (h : ∀ g ∈ gs, g ≠ []) : inter s gs = [] ↔ gs = [] := by
  match gs with
  | [] => simp [inter]
  | [g] => simp [inter, h g (by simp)]
  | g :: i :: gs => simp [inter]
theorem inter_mem {x : α} : ∀ {gs : List (List α)}, x ∈ inter s gs → x = s ∨ ∃ g ∈ gs, x ∈ g
  | [], h => by cases h
  | [g], h => .inr ⟨g, by simp, h⟩
  | g :: i :: gs, h => by
    rcases List.mem_append.mp (show x ∈ g ++ s :: inter s (i :: gs) from h) with h | h
    · exact .inr ⟨g, by simp, h⟩
    · rcases List.mem_cons.mp h with h | h
      · exact .inl h
      · rcases inter_mem h with h | ⟨y, hy, h⟩
        · exact .inl h
        · exact .inr ⟨y, List.mem_cons_of_mem _ hy, h⟩
theorem inter_len : ∀ (gs : List (List α)), (inter s gs).length ≤ (gs.map fun g => g.length + 1).sum
  | [] => by simp [inter]
  | [g] => by simp [inter]
  | g :: i :: gs => by
    show (g ++ s :: inter s (i :: gs)).length ≤ _
    rw [List.length_append, List.length_cons, List.map_cons, List.sum_cons]
    have := inter_len (i :: gs)
    omega
theorem free_go : ∀ (g : List α) (acc : List (List α)) (l : List α), s ∉ g → g.foldl (pstep s) (acc ++ [l]) = acc ++ [l ++ g]
  | [], acc, l, _ => by simp
  | w :: g, acc, l, h => by
    have hw : w ≠ s := fun e => h (by simp [e])
    have hg : s ∉ g := fun e => h (by simp [e])
    rw [List.foldl_cons]
    unfold pstep
    rw [if_neg hw]
    have e : (acc ++ [l]).dropLast ++ [(acc ++ [l]).getLastD [] ++ [w]] = acc ++ [l ++ [w]] := by simp [List.getLastD_eq_getLast?]
    rw [e]
    have := free_go g acc (l ++ [w]) hg
    unfold pstep at this
    rw [this]; simp
theorem parts_go : ∀ (gs : List (List α)) (acc : List (List α)) (l : List α), (∀ g ∈ gs, s ∉ g) → gs ≠ [] → (inter s gs).foldl (pstep s) (acc ++ [l]) = acc ++ (l ++ gs.headD []) :: gs.tail
  | [], _, _, _, h => absurd rfl h
  | [g], acc, l, h, _ => by
    show g.foldl (pstep s) (acc ++ [l]) = acc ++ [l ++ g]
    exact free_go g acc l (h g (by simp))
  | g :: i :: gs, acc, l, h, _ => by
    show (g ++ s :: inter s (i :: gs)).foldl (pstep s) (acc ++ [l]) = acc ++ (l ++ g) :: i :: gs
    rw [List.foldl_append, free_go g acc l (h g (by simp)), List.foldl_cons]
    have e : pstep s (acc ++ [l ++ g]) s = (acc ++ [l ++ g]) ++ [[]] := by unfold pstep; rw [if_pos rfl]
    rw [e, parts_go (i :: gs) _ [] (fun x hx => h x (List.mem_cons_of_mem _ hx)) (by simp)]
    simp
theorem parts_inter {gs : List (List α)} (h : ∀ g ∈ gs, s ∉ g) (hn : gs ≠ []) : parts s (inter s gs) = gs := by
  have := parts_go (s := s) gs [] [] h hn
  unfold parts
  rw [List.nil_append] at this
  rw [this]
  cases gs with
  | nil => exact absurd rfl hn
  | cons g gs => rfl
end
def wRow (g : Str × Int) : List Str := [g.1, toString g.2]
def wPr (p : Pr) : List Str := [p.1, p.2]
def wSt (s : XSt) : List Str := inter (Str.ofString ",") (s.1.map wRow) ++ Str.ofString ":" :: s.2
def wTb (ss : List XSt) (n : Int) (ps : List Pr) : List Str := inter (Str.ofString "/") (ss.map wSt) ++ [Str.ofString "|", toString n, Str.ofString "|"] ++ inter (Str.ofString ",") (ps.map wPr)
def btw (os : List Pr) (p : Pr) : List Pr := os.filter fun q => decide (q.1 = p.1 ∧ (q.2, p.2) ∈ os)
def bareL (os : List Pr) : List Pr := os.filter fun p => decide (btw os p = [])
section
variable {ps os : List Pr}
theorem bare_sub {p : Pr} (h : p ∈ bareL os) : p ∈ os := (List.mem_filter.mp h).1
theorem bare_iff {p : Pr} : p ∈ bareL os ↔ p ∈ os ∧ ∀ c, (p.1, c) ∈ os → (c, p.2) ∉ os := by
  unfold bareL
  rw [List.mem_filter]
  refine and_congr_right fun hp => ?_
  rw [decide_eq_true_eq]
  unfold btw
  rw [List.filter_eq_nil_iff]
  constructor
  · intro h c h1 h2
    exact h _ h1 (decide_eq_true ⟨rfl, h2⟩)
  · intro h q hq hd
    obtain ⟨h1, h2⟩ := of_decide_eq_true hd
    refine h q.2 ?_ h2
    rw [← h1]; exact hq
def amid (os : List Pr) (a b : Str) : List Str := (os.map (·.2)).filter fun c => decide ((a, c) ∈ os ∧ (c, b) ∈ os)
theorem filter_lt {α : Type} {p q : α → Bool} {c : α} : ∀ {xs : List α}, (∀ x ∈ xs, p x = true → q x = true) → c ∈ xs → q c = true → p c = false → (xs.filter p).length < (xs.filter q).length
  | [], _, h, _, _ => by cases h
  | x :: xs, hpq, hc, hq, hp => by
    have hle : (xs.filter p).length ≤ (xs.filter q).length := by
      have : ∀ ys : List α, (∀ x ∈ ys, p x = true → q x = true) → (ys.filter p).length ≤ (ys.filter q).length := by
        intro ys
        induction ys with
        | nil => intro _; simp
        | cons y ys ih =>
          intro h
          have := ih fun x hx => h x (List.mem_cons_of_mem _ hx)
          rw [List.filter_cons, List.filter_cons]
          by_cases hy : p y = true
          · rw [if_pos hy, if_pos (h y (by simp) hy)]; simp; omega
          · rw [if_neg hy]; split <;> simp <;> omega
      exact this xs fun x hx => hpq x (List.mem_cons_of_mem _ hx)
    rw [List.filter_cons, List.filter_cons]
    rcases List.mem_cons.mp hc with rfl | hc
    · rw [if_neg (by rw [hp]; decide), if_pos hq]; simp; omega
    · have := filter_lt (fun x hx => hpq x (List.mem_cons_of_mem _ hx)) hc hq hp
      by_cases hy : p x = true
      · rw [if_pos hy, if_pos (hpq x (by simp) hy)]; simp; omega
      · rw [if_neg hy]; split <;> simp <;> omega
theorem bare_reach (tr : ∀ a b c, (a, b) ∈ os → (b, c) ∈ os → (a, c) ∈ os) (ir : ∀ a, (a, a) ∉ os) : ∀ (n : Nat) (a b : Str), (amid os a b).length ≤ n → (a, b) ∈ os → Reach (bareL os) a b := by
  intro n
  induction n with
  | zero =>
    intro a b hn h
    refine .one (bare_iff.mpr ⟨h, fun c h1 h2 => ?_⟩)
    have : c ∈ amid os a b := List.mem_filter.mpr ⟨List.mem_map.mpr ⟨(a, c), h1, rfl⟩, decide_eq_true ⟨h1, h2⟩⟩
    rw [List.length_eq_zero_iff.mp (Nat.le_zero.mp hn)] at this
    cases this
  | succ n ih =>
    intro a b hn h
    by_cases hb : (a, b) ∈ bareL os
    · exact .one hb
    · have hx : ∃ c, (a, c) ∈ os ∧ (c, b) ∈ os := by
        refine Classical.byContradiction fun z => hb (bare_iff.mpr ⟨h, fun c h1 h2 => z ⟨c, h1, h2⟩⟩)
      obtain ⟨c, h1, h2⟩ := hx
      have hm : c ∈ os.map (·.2) := List.mem_map.mpr ⟨(a, c), h1, rfl⟩
      have l1 : (amid os a c).length < (amid os a b).length := filter_lt (c := c) (fun x _ hx => by
        obtain ⟨x1, x2⟩ := of_decide_eq_true hx
        exact decide_eq_true ⟨x1, tr _ _ _ x2 h2⟩) hm (decide_eq_true ⟨h1, h2⟩) (decide_eq_false fun z => ir c z.2)
      have l2 : (amid os c b).length < (amid os a b).length := filter_lt (c := c) (fun x _ hx => by
        obtain ⟨x1, x2⟩ := of_decide_eq_true hx
        exact decide_eq_true ⟨tr _ _ _ h1 x1, x2⟩) hm (decide_eq_true ⟨h1, h2⟩) (decide_eq_false fun z => ir c z.1)
      exact (ih a c (by omega) h1).trans (ih c b (by omega) h2)
theorem bare_in (tr : ∀ a b c, (a, b) ∈ os → (b, c) ∈ os → (a, c) ∈ os) {a b : Str} (h : Reach (bareL os) a b) : (a, b) ∈ os := by
  induction h with
  | one h => exact bare_sub h
  | step _ h ih => exact tr _ _ _ ih (bare_sub h)
theorem Ord.bare (h : Ord ps os) (ac : ∀ a, ¬ Reach ps a a) : Ord (bareL os) os := by
  have tr : ∀ a b c, (a, b) ∈ os → (b, c) ∈ os → (a, c) ∈ os := fun a b c h1 h2 => (h.me a c).mpr (((h.me a b).mp h1).trans ((h.me b c).mp h2))
  have ir : ∀ a, (a, a) ∉ os := fun a z => ac a ((h.me a a).mp z)
  exact ⟨h.so, fun a b => ⟨fun z => bare_reach tr ir _ a b (Nat.le_refl _) z, fun z => bare_in tr z⟩⟩
theorem bare_ac (h : Ord ps os) (ac : ∀ a, ¬ Reach ps a a) (a : Str) : ¬ Reach (bareL os) a a := fun z => by
  have tr : ∀ a b c, (a, b) ∈ os → (b, c) ∈ os → (a, c) ∈ os := fun a b c h1 h2 => (h.me a c).mpr (((h.me a b).mp h1).trans ((h.me b c).mp h2))
  exact ac a ((h.me a a).mp (bare_in tr z))
end
end TT

set_option Elab.async false
set_option linter.all false
set_option maxRecDepth 100000
set_option maxHeartbeats 1000000
namespace K75
open PySem L2 PL NE
open ND (cutL_map cutL_len cutL_mem bz_ints LwN isNm alpha alpha_eq alpha_at getA ixD_zA ixD_bA app_list one_len getI getI_at getI_mem)
local macro_rules | `(tactic| walk_at "st1") => `(tactic| first | assumption | exact sto_last | exact sto_r0 | exact sto_r1 | exact sto_r2 | exact sto_r3 | exact sto_r4)
local macro_rules | `(tactic| walk_at "sto") => `(tactic| first | walk_at "st1" | exact sto_app (by walk_at "st1") | exact sto_app (sto_app (by walk_at "st1")))
local macro_rules | `(tactic| walk_at "sz") => `(tactic| ((try simp only [List.length_map, List.length_range, List.length_append, List.length_cons, List.length_nil]); omega))
local macro_rules | `(tactic| walk_at "go") => `(tactic| ((try (conv => whnf)); repeat ((first | (show pIf _ _ _; first | refine pIf.tt rfl ?_ | refine pIf.ff rfl ?_) | (show pReq _ _; first | refine pReq.mk rfl ?_ | refine pReq.mk (sz_le rfl) ?_ | refine pReq.mk (sz_lt rfl) ?_ | refine pReq.mk (by decide) ?_ | refine pReq.mk (Or.inr (by decide)) ?_ | refine pReq.mk (Or.inl (by decide)) ?_ | refine pReq.mk (by assumption) ?_ | refine pReq.mk (isTy_l (by walk_at "sto")) ?_ | refine pReq.mk (by omega) ?_ | refine pReq.mk (sz_lt6 (by walk_at "sz")) ?_ | refine pReq.mk (sz_le6 (by walk_at "sz")) ?_ | refine pReq.mk (by walk_at "sz") ?_) | (show pGet _ _; first | refine pGet.mk rfl ?_ | refine pGet.mk (by walk_at "sto") ?_ | refine pGet.mk (lenD_at (by walk_at "sto")) ?_ | refine pGet.mk (sqD_at (by walk_at "sto")) ?_ | refine pGet.mk (lsD_at (by walk_at "sto")) ?_ | refine pGet.mk (lsR_at (by walk_at "sto")) ?_ | refine pGet.mk (srcD_at (by walk_at "sto")) ?_ | refine pGet.mk (tyD_l (by walk_at "sto")) ?_)); (try (conv => whnf)))))
open OR (eP nextsL Reach DInv DIn meas BInv BIn measB lastOf Wy Chn OIn Ord SLt)
abbrev zW (s : Str) : D := .z (.str s)
def PsOk (ps : List OR.Pr) : Prop := ∀ p ∈ ps, PyData.strOk p.1 = true ∧ PyData.strOk p.2 = true
theorem zsP (ps : List OR.Pr) : (ps.map eP).map bz = ps.map fun p => .z (eP p) := by rw [List.map_map]; rfl
theorem any_strs (x : Str) : ∀ ws : List Str, ((ws.map PyData.str).any fun z => PyData.eqv z (.str x)) = decide (x ∈ ws)
  | [] => by simp
  | w :: ws => by
    rw [List.map_cons, List.any_cons, any_strs x ws]
    have e : PyData.eqv (.str w) (.str x) = decide (w = x) := by
      simp [PyData.eqv]
      by_cases h : w = x <;> simp [h]
    rw [e]
    by_cases h : w = x
    · subst h; simp
    · have h2 : x ≠ w := fun z => h z.symm
      simp [h, h2]
theorem bInG_l {S : Sto} {n : Nat} {ws : List Str} {x : Str} {k : Bool → Prop} (h : S[n]? = some (.lst (ws.map zW))) (hx : PyData.strOk x = true) (hw : ∀ w ∈ ws, PyData.strOk w = true) (hk : k (decide (x ∈ ws))) : bInG (zW x) (.r n) S k := by
  refine ⟨.inl ⟨.str x, ws.map .str, .z, .r h (Vws.map _ _), (Shp.str (n := 1) hx).ok, (Shp.lists (n := 1) (f := PyData.str) fun w h => .str (hw w h)).ok, ?_⟩⟩
  rw [any_strs]; exact hk
def comeD (ks : List Str) : List (Key × D) := ks.map fun k => (.inr k, .z (.bool true))
theorem has_come (ks : List Str) (w : Str) : hasD (comeD ks) (.inr w) = decide (w ∈ ks) := by
  unfold hasD comeD
  induction ks with
  | nil => simp
  | cons k ks ih =>
    rw [List.map_cons, List.any_cons, ih]
    by_cases h : k = w
    · subst h; simp
    · have h2 : w ≠ k := fun z => h z.symm
      have h3 : ¬ ((Sum.inr k : Key) = Sum.inr w) := fun z => h (Sum.inr.inj z)
      simp [h2, h3]
theorem put_come {ks : List Str} {w : Str} (h : w ∉ ks) : putD (comeD ks) (.inr w) (.z (.bool true)) = comeD (ks ++ [w]) := by
  unfold putD
  rw [has_come, if_neg (by rw [decide_eq_false h]; decide)]
  unfold comeD
  rw [List.map_append]; rfl
def F_nexts : Fsp := fsp (fun a : List OR.Pr × Str => [.list (a.1.map eP), .str a.2]) (fun a => PsOk a.1 ∧ a.1.length ≤ 1000) fun a => .list ((nextsL a.1 a.2).map .str)
theorem pu_nexts : ∀ ds S K KX, lent F_nexts ds S K KX → ws_nexts { nx := fun _ S1 => K (.z .none) S1, rt := K, ex := fun y _ S1 => KX y S1 } (startE nm_nexts ds) S := by
  refine fsp_ok fun ⟨ps, l⟩ ⟨hps, hlen⟩ K KX hk => ?_
  dsimp only at hps hlen hk
  walk_at "go"
  refine pFor_xs ps (fun p => .z (eP p)) (zsP ps) (fun i env S => ∃ v3 v4, env = [some (.b (.list (ps.map eP))), some (.z (.str l)), some (.r 0), v3, v4] ∧ S[0]? = some (.lst ((nextsL (ps.take i) l).map zW))) ⟨_, _, rfl, rfl⟩ (fun _ _ _ _ _ => trivial) ?_ ?_
  · rintro i p _ S Q hp ⟨v3, v4, rfl, hS⟩ hQ
    have hpm := List.mem_of_getElem? hp
    have e : nextsL (ps.take (i + 1)) l = if p.1 = l then OR.addN (nextsL (ps.take i) l) p.2 else nextsL (ps.take i) l := by
      rw [List.take_add_one, hp]; exact OR.nexts_snoc _ _ _
    have hn : ∀ w ∈ nextsL (ps.take i) l, PyData.strOk w = true := fun w hw => (hps _ (List.mem_of_mem_take (OR.nexts_mem.mp hw))).2
    have hl : (nextsL (ps.take i) l).length ≤ 1000 := by
      have := OR.nexts_len (ps := ps.take i) l
      rw [List.length_take] at this
      omega
    walk_at "go"
    refine pIf.mk (fun c => ?_) (fun c => ?_)
    · have c : p.1 = l := of_decide_eq_true c
      walk_at "go"
      refine bInG_l hS (hps p hpm).2 hn ?_
      walk_at "go"
      refine pIf.mk (fun c2 => ?_) (fun c2 => ?_)
      · have c2 : p.2 ∉ nextsL (ps.take i) l := fun z => by rw [decide_eq_true z] at c2; cases c2
        walk_at "go"
        refine hQ _ _ ⟨_, _, rfl, ?_⟩
        rw [e, if_pos c]
        unfold OR.addN
        rw [if_neg c2, List.map_append]
        exact List.getElem?_set_self (List.getElem?_eq_some_iff.mp hS).1
      · have c2 : p.2 ∈ nextsL (ps.take i) l := by
          by_cases z : p.2 ∈ nextsL (ps.take i) l
          · exact z
          · rw [decide_eq_false z] at c2; cases c2
        walk_at "go"
        refine hQ _ _ ⟨_, _, rfl, ?_⟩
        rw [e, if_pos c]
        unfold OR.addN
        rw [if_pos c2]; exact hS
    · have c : p.1 ≠ l := of_decide_eq_false c
      walk_at "go"
      refine hQ _ _ ⟨_, _, rfl, ?_⟩
      rw [e, if_neg c]; exact hS
  · rintro _ S ⟨v3, v4, rfl, hS⟩
    rw [List.take_length] at hS
    walk_at "go"
    exact hk _ _ (.r hS (Vzs.map _ _))
theorem zsW (ws : List Str) : (ws.map PyData.str).map D.z = ws.map zW := by rw [List.map_map]; rfl
theorem eqv_nil {α : Type} (f : α → PyData) (xs : List α) : PyData.eqv (.list (xs.map f)) (.list []) = decide (xs = []) := by cases xs <;> rfl
theorem reach_ok {ps : List OR.Pr} (h : PsOk ps) {a b : Str} (hr : Reach ps a b) : PyData.strOk b = true := by
  obtain ⟨c, hc⟩ := hr.snd
  exact (h _ hc).2
def F_below : Fsp := fsq (fun a : List OR.Pr × Str => [.list (a.1.map eP), .str a.2]) (fun a => PsOk a.1 ∧ PyData.strOk a.2 = true ∧ a.1.length ≤ 60) (fun a (ys : List Str) => ys.Pairwise SLt ∧ ∀ w, w ∈ ys ↔ Reach a.1 a.2 w) fun ys => .list (ys.map .str)
theorem pu_below : ∀ ds S K KX, lent F_below ds S K KX → ws_below (frz F_nexts) { nx := fun _ S1 => K (.z .none) S1, rt := K, ex := fun y _ S1 => KX y S1 } (startE nm_below ds) S := by
  refine fsq_ok fun ⟨ps, l⟩ ⟨hps, hok, hlen⟩ K KX hk => ?_
  dsimp only at hps hlen hok hk
  walk_at "go"
  refine pWhile_by (fun m env S => ∃ ks ws v4 v5, env = [some (.b (.list (ps.map eP))), some (.z (.str l)), some (.r 0), some (.r 1), v4, v5] ∧ S[0]? = some (.dic (comeD ks)) ∧ S[1]? = some (.lst (ws.map zW)) ∧ DInv ps l ks ws ∧ m = meas ps ks ws ∧ m ≤ 2 * ps.length + 1) _ ⟨[], [l], _, _, rfl, rfl, rfl, .start l, rfl, by unfold meas; simp⟩ ?_
  rintro m _ S Q ⟨ks, ws, v4, v5, rfl, h0, h1, hi, rfl, hmm⟩ hQ
  have hkl := hi.len
  have okW : ∀ w ∈ ws, PyData.strOk w = true := fun w hw => by
    rcases hi.wk w hw with rfl | z
    · exact hok
    · exact reach_ok hps (hi.re w z)
  walk_at "go"
  refine eq_dec (.r (sto_app h1) (Vws.map _ _)) (.r sto_last .nil) (n := 4) (.lists fun w hw => .mono (.str (n := 0) (okW w hw)) (by decide)) (.list fun d hd => by cases hd) (by decide) (eqv_nil _ _) ?_
  walk_at "go"
  refine pIf.mk (fun c => ?_) (fun c => ?_)
  · have hne : ws ≠ [] := fun z => by rw [z] at c; simp at c
    obtain ⟨ws0, here, rfl⟩ : ∃ u x, ws = u ++ [x] := ⟨ws.dropLast, ws.getLast hne, (List.dropLast_concat_getLast _).symm⟩
    have hh := hi.wk here (by simp)
    have okH := okW here (by simp)
    have h1 := sto_app (T := [Ob.lst []]) h1
    have h0 := sto_app (T := [Ob.lst []]) h0
    generalize S ++ [Ob.lst []] = S1 at h0 h1 ⊢
    have hlt := (List.getElem?_eq_some_iff.mp h1).1
    walk_at "go"
    refine pGet.mk (x := zW here) (by rw [List.map_append, List.length_append]; simp) ?_
    walk_at "go"
    rw [List.map_append, List.map_cons, List.map_nil, List.dropLast_concat]
    refine fsp_call (ps, here) (.cons .b (.cons .z .nil)) ⟨hps, by show ps.length ≤ 1000; omega⟩ ?_
    walk_at "go"
    have hnl := OR.nexts_len (ps := ps) here
    refine pFor_xs (nextsL ps here) zW (zsW _) (fun i env S => ∃ ks' ws' v5, env = [some (.b (.list (ps.map eP))), some (.z (.str l)), some (.r 0), some (.r 1), some (zW here), v5] ∧ S[0]? = some (.dic (comeD ks')) ∧ S[1]? = some (.lst (ws'.map zW)) ∧ DIn ps l here ks ws0 i ks' ws')
      ⟨ks, ws0, _, rfl, by rw [List.getElem?_set_ne (by decide)]; exact h0, List.getElem?_set_self hlt, hi.pop⟩ (fun _ _ _ _ _ => trivial) ?_ ?_
    · rintro i w _ S Q2 hw ⟨ks', ws', v5, rfl, g0, g1, hd⟩ hQ2
      have hk2 := OR.reach_len hd.nd hd.re
      have hm := hd.ms
      have hm0 : meas ps ks ws0 ≤ 2 * ps.length + ws0.length := by unfold meas; omega
      have hlt0 := (List.getElem?_eq_some_iff.mp g0).1
      have hlt1 := (List.getElem?_eq_some_iff.mp g1).1
      walk_at "go"
      rw [has_come]
      walk_at "go"
      refine pIf.mk (fun c2 => ?_) (fun c2 => ?_)
      · have c2 : w ∉ ks' := fun z => by rw [decide_eq_true z] at c2; cases c2
        have hcl : (comeD ks').length ≤ 60 := by unfold comeD; rw [List.length_map]; omega
        have g1' : ∀ o, (S.set 0 o)[1]? = some (.lst (ws'.map zW)) := fun o => by rw [List.getElem?_set_ne (by decide)]; exact g1
        have hwl : ws'.length ≤ 1000 := by unfold meas at hm hmm; simp at hmm; omega
        walk_at "go"
        refine pReq.mk (isTy_l (g1' _)) ?_
        walk_at "go"
        refine pGet.mk (lsR_at (g1' _)) ?_
        walk_at "go"
        have hN := hd.new hh hw c2
        refine hQ2 _ _ ⟨_, _, _, rfl, ?_, ?_, hN⟩
        · rw [List.getElem?_set_ne (by decide), List.getElem?_set_self hlt0, put_come c2]
        · rw [List.getElem?_set_self (by rw [List.length_set]; exact hlt1), List.map_append]; rfl
      · have c2 : w ∈ ks' := by
          by_cases z : w ∈ ks'
          · exact z
          · rw [decide_eq_false z] at c2; cases c2
        walk_at "go"
        exact hQ2 _ _ ⟨_, _, _, rfl, g0, g1, hd.old hw c2⟩
    · rintro _ S ⟨ks', ws', v5, rfl, g0, g1, hd⟩
      obtain ⟨a1, a2⟩ := hd.done hi
      exact hQ _ _ _ a2 ⟨_, _, _, _, rfl, g0, g1, a1, rfl, by omega⟩
  · have e : ws = [] := by
      cases ws with
      | nil => rfl
      | cons _ _ => simp at c
    subst e
    have hf := hi.fin
    walk_at "go"
    refine ⟨.inr ⟨0, comeD ks, ks, rfl, by unfold dcR; rw [sto_app h0], by unfold comeD; rw [List.map_map]; rfl, by omega, fun ys hp hs => ?_⟩⟩
    walk_at "go"
    exact hk _ _ ys (.r sto_last (Vzs.map _ _)) ⟨OR.strict_of (hp.nodup_iff.mpr hi.nd) hs, fun w => by rw [hp.mem_iff]; exact hf w⟩
end K75

set_option Elab.async false
set_option linter.all false
set_option maxRecDepth 100000
set_option maxHeartbeats 1000000
namespace K75
open PySem L2 PL NE
open ND (cutL_map cutL_len cutL_mem bz_ints LwN isNm alpha alpha_eq alpha_at getA ixD_zA ixD_bA app_list one_len getI getI_at getI_mem)
local macro_rules | `(tactic| walk_at "st1") => `(tactic| first | assumption | exact sto_last | exact sto_r0 | exact sto_r1 | exact sto_r2 | exact sto_r3 | exact sto_r4)
local macro_rules | `(tactic| walk_at "sto") => `(tactic| first | walk_at "st1" | exact sto_app (by walk_at "st1") | exact sto_app (sto_app (by walk_at "st1")))
local macro_rules | `(tactic| walk_at "sz") => `(tactic| ((try simp only [List.length_map, List.length_range, List.length_append, List.length_cons, List.length_nil]); omega))
local macro_rules | `(tactic| walk_at "go") => `(tactic| ((try (conv => whnf)); repeat ((first | (show pIf _ _ _; first | refine pIf.tt rfl ?_ | refine pIf.ff rfl ?_) | (show pReq _ _; first | refine pReq.mk rfl ?_ | refine pReq.mk (sz_le rfl) ?_ | refine pReq.mk (sz_lt rfl) ?_ | refine pReq.mk (by decide) ?_ | refine pReq.mk (Or.inr (by decide)) ?_ | refine pReq.mk (Or.inl (by decide)) ?_ | refine pReq.mk (by assumption) ?_ | refine pReq.mk (isTy_l (by walk_at "sto")) ?_ | refine pReq.mk (by omega) ?_ | refine pReq.mk (sz_lt6 (by walk_at "sz")) ?_ | refine pReq.mk (sz_le6 (by walk_at "sz")) ?_ | refine pReq.mk (by walk_at "sz") ?_) | (show pGet _ _; first | refine pGet.mk rfl ?_ | refine pGet.mk (by walk_at "sto") ?_ | refine pGet.mk (lenD_at (by walk_at "sto")) ?_ | refine pGet.mk (sqD_at (by walk_at "sto")) ?_ | refine pGet.mk (lsD_at (by walk_at "sto")) ?_ | refine pGet.mk (lsR_at (by walk_at "sto")) ?_ | refine pGet.mk (srcD_at (by walk_at "sto")) ?_ | refine pGet.mk (tyD_l (by walk_at "sto")) ?_)); (try (conv => whnf)))))
open OR (eP nextsL Reach DInv DIn meas BInv BIn measB lastOf Wy Chn OIn Ord SLt)
def F_chain : Fsp := fsp (fun _ : Unit => [.none, .none, .none]) (fun _ => False) fun _ => .none
theorem pu_chain : ∀ ds S K KX, lent F_chain ds S K KX → ws_chain (frz F_nexts) { nx := fun _ S1 => K (.z .none) S1, rt := K, ex := fun y _ S1 => KX y S1 } (startE nm_chain ds) S := fsp_ok fun _ h _ _ _ => h.elim
def cellAt (ns : List Int) (k : Int) : Int := ns.getD k.toNat 0
def F_cell : Fsp := fsp (fun a : List Int × Int => [.list (a.1.map .int), .int a.2]) (fun a => 0 ≤ a.2) fun a => .int (cellAt a.1 a.2)
theorem pu_cell : ∀ ds S K KX, lent F_cell ds S K KX → ws__law_cell_at { nx := fun _ S1 => K (.z .none) S1, rt := K, ex := fun y _ S1 => KX y S1 } (startE nm__law_cell_at ds) S := by
  refine fsp_ok fun a h0 K KX hk => ?_
  walk_at "go"
  rw [List.length_map]
  refine pIf.mk (fun c => ?_) (fun c => ?_)
  · have h1 : a.2 < a.1.length := of_decide_eq_true c
    walk_at "go"
    refine pGet.mk (ixD_bL (atD_in h0 h1)) ?_
    walk_at "go"
    refine hk _ _ ?_
    have e : cellAt a.1 a.2 = a.1[a.2.toNat]'(by omega) := by
      unfold cellAt
      rw [List.getD_eq_getElem?_getD, List.getElem?_eq_getElem (by omega)]; rfl
    rw [e]; exact .z
  · have h1 : ¬ a.2 < a.1.length := of_decide_eq_false c
    walk_at "go"
    refine hk _ _ ?_
    have e : cellAt a.1 a.2 = 0 := by
      unfold cellAt
      rw [List.getD_eq_getElem?_getD, List.getElem?_eq_none (by omega)]; rfl
    rw [e]; exact .z
def F_labels_ahead : Fsp := fsq (fun ps : List OR.Pr => [.list (ps.map eP)]) (fun ps => PsOk ps ∧ ps.length ≤ 60) (fun ps (ys : List Str) => ys.Pairwise SLt ∧ ∀ k, k ∈ ys ↔ k ∈ ps.map (·.1)) fun ys => .list (ys.map .str)
theorem pu_labels_ahead : ∀ ds S K KX, lent F_labels_ahead ds S K KX → ws_labels_ahead { nx := fun _ S1 => K (.z .none) S1, rt := K, ex := fun y _ S1 => KX y S1 } (startE nm_labels_ahead ds) S := by
  refine fsq_ok fun ps ⟨hps, hlen⟩ K KX hk => ?_
  walk_at "go"
  refine pLc_allE ps (fun p => .z (eP p)) (fun p => zW p.1) (zsP ps) (by omega) (fun _ => trivial) (fun p hp => ⟨_, rfl, fun S1 K _ h => ?_⟩) ?_
  · walk_at "go"
    exact h
  walk_at "go"
  refine ⟨ps.map (·.1), by rw [List.map_map]; rfl, pReq.mk (by rw [List.length_map]; omega) fun ys hm hs => ?_⟩
  walk_at "go"
  exact hk _ _ ys (.r sto_last (Vzs.map _ _)) ⟨OR.strict_of hm.1 hs, hm.2⟩
def Acyc (ps : List OR.Pr) : Prop := ∀ a, ¬ Reach ps a a
abbrev zP (p : OR.Pr) : D := .z (eP p)
def F_order_of : Fsr := fsrq (fun ps : List OR.Pr => [.list (ps.map eP)]) (fun ps => PsOk ps ∧ ps.length ≤ 60 ∧ Acyc ps) (fun ps (rs : List OR.Pr) => Ord ps rs ∧ rs.length ≤ 3600) fun rs => lz eP rs
theorem pu_order_of : ∀ ds S K KX, lentR F_order_of ds S K KX → ws_order_of (frz F_labels_ahead) (frz F_below) (frz F_chain) { nx := fun _ S1 => K (.z .none) S1, rt := K, ex := fun y _ S1 => KX y S1 } (startE nm_order_of ds) S := by
  refine fsrq_ok fun ps ⟨hps, hlen, hac⟩ K KX hk => ?_
  walk_at "go"
  refine fsq_call ps (.cons .b .nil) ⟨hps, hlen⟩ fun ys ⟨hy1, hy2⟩ => ?_
  walk_at "go"
  have hyl : ys.length ≤ 60 := by
    have := OR.nodup_le (a := ys) (b := ps.map (·.1)) (OR.SLt.nodup hy1) fun x hx => (hy2 x).mp hx
    rw [List.length_map] at this
    omega
  refine pFor_xs ys zW (zsW _) (fun i env S => ∃ v2 v3 rs, env = [some (.b (.list (ps.map eP))), some (.r 0), v2, v3, none] ∧ S[0]? = some (.lst (rs.map zP)) ∧ OIn ps (ys.take i) rs ∧ rs.length ≤ 60 * i) ⟨_, _, [], rfl, rfl, ⟨List.Pairwise.nil, fun a b => by simp⟩, Nat.zero_le _⟩ (fun _ _ _ _ _ => trivial) ?_ ?_
  · rintro i y _ S Q hy ⟨v2, v3, rs, rfl, h0, ho, hrl⟩ hQ
    have hym := List.mem_of_getElem? hy
    have hi := (List.getElem?_eq_some_iff.mp hy).1
    obtain ⟨z, hz⟩ := List.mem_map.mp ((hy2 y).mp hym)
    have hyok : PyData.strOk y = true := by rw [← hz.2]; exact (hps z hz.1).1
    walk_at "go"
    refine fsq_call (ps, y) (.cons .b (.cons .z .nil)) ⟨hps, hyok, hlen⟩ fun bs ⟨hb1, hb2⟩ => ?_
    dsimp only at hb2
    have hbl : bs.length ≤ 60 := by
      have := OR.nodup_le (a := bs) (b := ps.map (·.2)) (OR.SLt.nodup hb1) fun x hx => by
        obtain ⟨c, hc⟩ := ((hb2 x).mp hx).snd
        exact List.mem_map.mpr ⟨_, hc, rfl⟩
      rw [List.length_map] at this
      omega
    walk_at "go"
    refine pFor_xs bs zW (zsW _) (fun j env S => ∃ v3, env = [some (.b (.list (ps.map eP))), some (.r 0), some (zW y), v3, none] ∧ S[0]? = some (.lst ((rs ++ (bs.take j).map fun b => (y, b)).map zP))) ⟨_, rfl, by simpa using h0⟩ (fun _ _ _ _ _ => trivial) ?_ ?_
    · rintro j b _ S Q2 hb ⟨v3, rfl, h0⟩ hQ2
      have hbm := List.mem_of_getElem? hb
      have hne : b ≠ y := fun e => by
        rw [e] at hbm
        exact hac y ((hb2 y).mp hbm)
      have hlt := (List.getElem?_eq_some_iff.mp h0).1
      have hll : ((rs ++ (bs.take j).map fun b => (y, b)).map zP).length ≤ 10000 := by
        rw [List.length_map, List.length_append, List.length_map, List.length_take]
        omega
      walk_at "go"
      refine pIf.ff (decide_eq_false hne) ?_
      walk_at "go"
      refine pReq.mk (sz_lt6 (by omega)) ?_
      walk_at "go"
      refine hQ2 _ _ ⟨_, rfl, ?_⟩
      rw [List.getElem?_set_self hlt, List.take_add_one, hb]
      simp only [Option.toList_some, List.map_append, List.map_cons, List.map_nil, List.append_assoc]
      rfl
    · rintro _ S ⟨v3, rfl, h0⟩
      rw [List.take_length] at h0
      have hN := ho.next (y := y) (bs := bs) (fun d hd => ?_) hb1 hb2
      · refine hQ _ _ ⟨_, _, _, rfl, h0, ?_, ?_⟩
        · rw [List.take_add_one, hy]; exact hN
        · rw [List.length_append, List.length_map]; omega
      · obtain ⟨k, hk1, hk2⟩ := List.mem_take_iff_getElem.mp hd
        have := List.pairwise_iff_getElem.mp hy1 k i (by omega) hi (by omega)
        rw [hk2] at this
        rw [(List.getElem?_eq_some_iff.mp hy).2] at this
        exact this
  · rintro _ S ⟨v2, v3, rs, rfl, h0, ho, hrl⟩
    rw [List.take_length] at ho
    walk_at "go"
    exact hk _ _ rs [0] (.l (ns := []) h0 (VRs.zs _ _)) (by simp) ⟨ho.fin hy2, by omega⟩
end K75

set_option Elab.async false
set_option linter.all false
set_option maxRecDepth 100000
set_option maxHeartbeats 1000000
namespace K75
open PySem L2 PL NE
open ND (cutL_map cutL_len cutL_mem bz_ints LwN isNm alpha alpha_eq alpha_at getA ixD_zA ixD_bA app_list one_len getI getI_at getI_mem)
local macro_rules | `(tactic| walk_at "st1") => `(tactic| first | assumption | exact sto_last | exact sto_r0 | exact sto_r1 | exact sto_r2 | exact sto_r3 | exact sto_r4)
local macro_rules | `(tactic| walk_at "sto") => `(tactic| first | walk_at "st1" | exact sto_app (by walk_at "st1") | exact sto_app (sto_app (by walk_at "st1")))
local macro_rules | `(tactic| walk_at "sz") => `(tactic| ((try simp only [List.length_map, List.length_range, List.length_append, List.length_cons, List.length_nil]); omega))
local macro_rules | `(tactic| walk_at "go") => `(tactic| ((try (conv => whnf)); repeat ((first | (show pIf _ _ _; first | refine pIf.tt rfl ?_ | refine pIf.ff rfl ?_) | (show pReq _ _; first | refine pReq.mk rfl ?_ | refine pReq.mk (sz_le rfl) ?_ | refine pReq.mk (sz_lt rfl) ?_ | refine pReq.mk (by decide) ?_ | refine pReq.mk (Or.inr (by decide)) ?_ | refine pReq.mk (Or.inl (by decide)) ?_ | refine pReq.mk (by assumption) ?_ | refine pReq.mk (isTy_l (by walk_at "sto")) ?_ | refine pReq.mk (by omega) ?_ | refine pReq.mk (sz_lt6 (by walk_at "sz")) ?_ | refine pReq.mk (sz_le6 (by walk_at "sz")) ?_ | refine pReq.mk (by walk_at "sz") ?_) | (show pGet _ _; first | refine pGet.mk rfl ?_ | refine pGet.mk (by walk_at "sto") ?_ | refine pGet.mk (lenD_at (by walk_at "sto")) ?_ | refine pGet.mk (sqD_at (by walk_at "sto")) ?_ | refine pGet.mk (lsD_at (by walk_at "sto")) ?_ | refine pGet.mk (lsR_at (by walk_at "sto")) ?_ | refine pGet.mk (srcD_at (by walk_at "sto")) ?_ | refine pGet.mk (tyD_l (by walk_at "sto")) ?_)); (try (conv => whnf)))))
open OR (eP nextsL Reach DInv DIn meas BInv BIn measB lastOf Wy Chn OIn Ord SLt)
open TB (XSt eG zG eSt XTab eTab rSt rTab bzSt ScIn ScsIn cps)
open NE (scD plcs emp emp_len emp_snoc emp_plcs)
def smallT (a : List XSt × List OR.Pr) : Prop := a.1.length ≤ 8 ∧ a.2.length ≤ 40 ∧ ∀ s ∈ a.1, s.1.length ≤ 8 ∧ s.2.length ≤ 8
theorem bz_sts (ss : List XSt) : (ss.map eSt).map bz = ss.map fun s => bz (eSt s) := List.map_map
theorem zsG (gs : List (Str × Int)) : (gs.map eG).map bz = gs.map zG := by rw [List.map_map]; rfl
def F_too_great : Fsp := fsp (fun a : List XSt × List OR.Pr => [.list (a.1.map eSt), .list (a.2.map eP)]) smallT fun _ => .bool false
theorem pu_too_great : ∀ ds S K KX, lent F_too_great ds S K KX → ws_too_great { nx := fun _ S1 => K (.z .none) S1, rt := K, ex := fun y _ S1 => KX y S1 } (startE nm_too_great ds) S := by
  refine fsp_ok fun ⟨ss, ps⟩ ⟨h1, h2, h3⟩ K KX hk => ?_
  dsimp only at h1 h2 h3 hk
  walk_at "go"
  refine pIf.ff (decide_eq_false (by rw [List.length_map]; show ¬ ((ss.length : Nat) : Int) > 8; omega)) ?_
  walk_at "go"
  refine pIf.ff (decide_eq_false (by rw [List.length_map]; show ¬ ((ps.length : Nat) : Int) > 40; omega)) ?_
  walk_at "go"
  refine pFor_allB ss (fun s => bz (eSt s)) (fun _ => true) (fun env => ∃ v2 v3, env = [some (.b (.list (ss.map eSt))), some (.b (.list (ps.map eP))), v2, v3]) (bz_sts ss) trivial ⟨_, _, rfl⟩ ?_ ?_ ?_
  · rintro s _ Q hs ⟨v2, v3, rfl⟩ g1 g2
    have := h3 s hs
    rw [bzSt]
    walk_at "go"
    refine pIf.ff (decide_eq_false (by rw [List.length_map]; omega)) ?_
    walk_at "go"
    refine pIf.ff (decide_eq_false (by rw [List.length_map]; omega)) ?_
    walk_at "go"
    exact g1 rfl _ ⟨_, _, rfl⟩
  · rintro _ _ ⟨v2, v3, rfl⟩
    walk_at "go"
    exact hk _ _ .z
  · intro h; simp at h
def labsS (ss : List XSt) : List Str := ss.flatMap fun s => s.1.map (·.1) ++ s.2
def labsP (ps : List OR.Pr) : List Str := ps.flatMap fun p => [p.1, p.2]
theorem labsS_len {ss : List XSt} (h : ∀ s ∈ ss, s.1.length ≤ 8 ∧ s.2.length ≤ 8) : (labsS ss).length ≤ 16 * ss.length := by
  induction ss with
  | nil => exact Nat.le_refl _
  | cons s ss ih =>
    have h1 := h s List.mem_cons_self
    have h2 := ih fun u hu => h u (List.mem_cons_of_mem _ hu)
    show ((s.1.map (·.1) ++ s.2) ++ labsS ss).length ≤ _
    rw [List.length_append, List.length_append, List.length_map, List.length_cons]
    omega
theorem labsP_len (ps : List OR.Pr) : (labsP ps).length = 2 * ps.length := by
  induction ps with
  | nil => rfl
  | cons p ps ih =>
    show ([p.1, p.2] ++ labsP ps).length = _
    rw [List.length_append, ih, List.length_cons]
    simp; omega
def F_labels_in : Fsp := fsp (fun a : List XSt × List OR.Pr => [.list (a.1.map eSt), .list (a.2.map eP)]) smallT fun a => .list ((labsS a.1 ++ labsP a.2).map .str)
theorem pu_labels_in : ∀ ds S K KX, lent F_labels_in ds S K KX → ws_labels_in { nx := fun _ S1 => K (.z .none) S1, rt := K, ex := fun y _ S1 => KX y S1 } (startE nm_labels_in ds) S := by
  refine fsp_ok fun ⟨ss, ps⟩ ⟨h1, h2, h3⟩ K KX hk => ?_
  dsimp only at h1 h2 h3 hk
  walk_at "go"
  refine pFor_xs ss (fun s => bz (eSt s)) (bz_sts ss) (fun i env S => ∃ v3 v4, env = [some (.b (.list (ss.map eSt))), some (.b (.list (ps.map eP))), some (.r 0), v3, v4, none, none, none, none] ∧ S[0]? = some (.lst ((labsS (ss.take i)).map zW))) ⟨_, _, rfl, rfl⟩ (fun _ _ _ _ _ => trivial) ?_ ?_
  · rintro i s _ S Q hs ⟨v3, v4, rfl, h0⟩ hQ
    have hi := (List.getElem?_eq_some_iff.mp hs).1
    have hsl := h3 s (List.mem_of_getElem? hs)
    have hl := labsS_len (ss := ss.take i) fun u hu => h3 u (List.mem_of_mem_take hu)
    rw [List.length_take] at hl
    have hlt := (List.getElem?_eq_some_iff.mp h0).1
    rw [bzSt]
    walk_at "go"
    refine pLc_allE s.1 zG (fun g => zW g.1) (zsG s.1) (by omega) (fun _ => trivial) (fun g hg => ⟨_, rfl, fun S1 K _ h => ?_⟩) ?_
    · walk_at "go"
      exact h
    have h0 := sto_app (T := [Ob.lst (s.1.map fun g => zW g.1)]) h0
    have hc : (S ++ [Ob.lst (s.1.map fun g => zW g.1)])[S.length]? = some (.lst (s.1.map fun g => zW g.1)) := sto_last
    generalize S ++ [Ob.lst (s.1.map fun g => zW g.1)] = S1 at h0 hc ⊢
    have hlt1 := (List.getElem?_eq_some_iff.mp h0).1
    have hm : (s.1.map fun g => zW g.1) = (s.1.map (·.1)).map zW := by rw [List.map_map]; rfl
    walk_at "go"
    rw [hm]
    have h5 : ∀ o, (S1.set 0 o)[0]? = some o := fun o => List.getElem?_set_self hlt1
    refine pReq.mk (isTy_l (h5 _)) ?_
    walk_at "go"
    refine pGet.mk (lsR_at (h5 _)) ?_
    walk_at "go"
    refine hQ _ _ ⟨_, _, rfl, ?_⟩
    rw [List.getElem?_set_self (by rw [List.length_set]; exact hlt1), List.take_add_one, hs]
    unfold labsS
    rw [List.flatMap_append, ← List.map_append]
    have e : (s.2.map PyData.str).map bz = s.2.map zW := by rw [List.map_map]; rfl
    rw [e, ← List.map_append, List.append_assoc]
    simp
  · rintro _ S ⟨v3, v4, rfl, h0⟩
    rw [List.take_length] at h0
    have hl := labsS_len h3
    walk_at "go"
    refine pFor_xs ps zP (zsP ps) (fun i env S => ∃ v5 v6, env = [some (.b (.list (ss.map eSt))), some (.b (.list (ps.map eP))), some (.r 0), v3, v4, v5, v6, none, none] ∧ S[0]? = some (.lst ((labsS ss ++ labsP (ps.take i)).map zW))) ⟨_, _, rfl, by simpa [labsP] using h0⟩ (fun _ _ _ _ _ => trivial) ?_ ?_
    · rintro i p _ S Q hp ⟨v5, v6, rfl, h0⟩ hQ
      have hi := (List.getElem?_eq_some_iff.mp hp).1
      have hlt := (List.getElem?_eq_some_iff.mp h0).1
      have hpl := labsP_len (ps.take i)
      rw [List.length_take] at hpl
      have hll : ((labsS ss ++ labsP (ps.take i)).map zW).length ≤ 1000 := by rw [List.length_map, List.length_append]; omega
      have h5 : ∀ o, (S.set 0 o)[0]? = some o := fun o => List.getElem?_set_self hlt
      walk_at "go"
      refine pReq.mk (isTy_l (h5 _)) ?_
      walk_at "go"
      refine pGet.mk (lsR_at (h5 _)) ?_
      walk_at "go"
      refine hQ _ _ ⟨_, _, rfl, ?_⟩
      rw [List.getElem?_set_self (by rw [List.length_set]; exact hlt), List.take_add_one, hp]
      unfold labsP
      simp
    · rintro _ S ⟨v5, v6, rfl, h0⟩
      rw [List.take_length] at h0
      walk_at "go"
      exact hk _ _ (.r h0 (Vzs.map _ _))
def numsS (ss : List XSt) : List Int := ss.flatMap fun s => s.1.map (·.2)
theorem numsS_len {ss : List XSt} (h : ∀ s ∈ ss, s.1.length ≤ 8 ∧ s.2.length ≤ 8) : (numsS ss).length ≤ 8 * ss.length := by
  induction ss with
  | nil => exact Nat.le_refl _
  | cons s ss ih =>
    have h1 := h s List.mem_cons_self
    have h2 := ih fun u hu => h u (List.mem_cons_of_mem _ hu)
    show (s.1.map (·.2) ++ numsS ss).length ≤ _
    rw [List.length_append, List.length_map, List.length_cons]
    omega
abbrev zI (i : Int) : D := .z (.int i)
def F_numbers_in : Fsp := fsp (fun a : List XSt × Int => [.list (a.1.map eSt), .int a.2]) (fun a => smallT (a.1, [])) fun a => .list ((a.2 :: numsS a.1).map .int)
theorem pu_numbers_in : ∀ ds S K KX, lent F_numbers_in ds S K KX → ws_numbers_in { nx := fun _ S1 => K (.z .none) S1, rt := K, ex := fun y _ S1 => KX y S1 } (startE nm_numbers_in ds) S := by
  refine fsp_ok fun ⟨ss, n⟩ ⟨h1, _, h3⟩ K KX hk => ?_
  dsimp only at h1 h3 hk
  walk_at "go"
  refine pFor_xs ss (fun s => bz (eSt s)) (bz_sts ss) (fun i env S => ∃ v3 v4, env = [some (.b (.list (ss.map eSt))), some (.z (.int n)), some (.r 0), v3, v4, none, none] ∧ S[0]? = some (.lst ((n :: numsS (ss.take i)).map zI))) ⟨_, _, rfl, rfl⟩ (fun _ _ _ _ _ => trivial) ?_ ?_
  · rintro i s _ S Q hs ⟨v3, v4, rfl, h0⟩ hQ
    have hi := (List.getElem?_eq_some_iff.mp hs).1
    have hsl := h3 s (List.mem_of_getElem? hs)
    have hl := numsS_len (ss := ss.take i) fun u hu => h3 u (List.mem_of_mem_take hu)
    rw [List.length_take] at hl
    rw [bzSt]
    walk_at "go"
    refine pLc_allE s.1 zG (fun g => zI g.2) (zsG s.1) (by omega) (fun _ => trivial) (fun g hg => ⟨_, rfl, fun S1 K _ h => ?_⟩) ?_
    · walk_at "go"
      exact h
    have h0 := sto_app (T := [Ob.lst (s.1.map fun g => zI g.2)]) h0
    have hc : (S ++ [Ob.lst (s.1.map fun g => zI g.2)])[S.length]? = some (.lst (s.1.map fun g => zI g.2)) := sto_last
    generalize S ++ [Ob.lst (s.1.map fun g => zI g.2)] = S1 at h0 hc ⊢
    have hlt1 := (List.getElem?_eq_some_iff.mp h0).1
    have hm : (s.1.map fun g => zI g.2) = (s.1.map (·.2)).map zI := by rw [List.map_map]; rfl
    walk_at "go"
    rw [hm]
    refine hQ _ _ ⟨_, _, rfl, ?_⟩
    rw [List.getElem?_set_self hlt1, List.take_add_one, hs]
    unfold numsS
    rw [List.flatMap_append, ← List.map_append]
    simp
  · rintro _ S ⟨v3, v4, rfl, h0⟩
    rw [List.take_length] at h0
    walk_at "go"
    exact hk _ _ (.r h0 (Vzs.map _ _))
theorem same_len {ws ys : List Str} (h : ws.Nodup) (k : SameMem ys ws) : ys.length = ws.length := Nat.le_antisymm (OR.nodup_le k.1 fun x hx => (k.2 x).mp hx) (OR.nodup_le h fun x hx => (k.2 x).mpr hx)
def F_has_double : Fsp := fsp (fun ws : List Str => [.list (ws.map .str)]) (fun ws => ws.Nodup ∧ ws.length < 64) fun _ => .bool false
theorem pu_has_double : ∀ ds S K KX, lent F_has_double ds S K KX → ws_has_double { nx := fun _ S1 => K (.z .none) S1, rt := K, ex := fun y _ S1 => KX y S1 } (startE nm_has_double ds) S := by
  refine fsp_ok fun ws ⟨hn, hl⟩ K KX hk => ?_
  walk_at "go"
  refine ⟨ws, by rw [List.map_map]; rfl, pReq.mk hl fun ys hy => ?_⟩
  walk_at "go"
  rw [List.length_map, same_len hn hy, decide_eq_false (by omega)]
  exact hk _ _ .z
def isNameB (x : Str) : Bool := decide (1 ≤ x.length) && (decide (x.length ≤ 8) && x.cps.toList.all fun c => decide (c ∈ alpha))
def F_is_name : Fsp := fsp (fun x : Str => [.str x]) (fun x => x.length ≤ 1000000) fun x => .bool (isNameB x)
theorem pu_is_name : ∀ ds S K KX, lent F_is_name ds S K KX → ws_is_name { nx := fun _ S1 => K (.z .none) S1, rt := K, ex := fun y _ S1 => KX y S1 } (startE nm_is_name ds) S := by
  refine fsp_ok fun x hx K KX hk => ?_
  unfold isNameB at hk
  walk_at "go"
  refine pIf.mk (fun c => ?_) (fun c => ?_)
  · have c := of_decide_eq_true c
    rw [show decide (1 ≤ x.length) = false from decide_eq_false (by omega)] at hk
    walk_at "go"
    exact hk _ _ .z
  · have c := of_decide_eq_false c
    rw [show decide (1 ≤ x.length) = true from decide_eq_true (by omega), Bool.true_and] at hk
    walk_at "go"
    refine pIf.mk (fun c => ?_) (fun c => ?_)
    · have c := of_decide_eq_true c
      rw [show decide (x.length ≤ 8) = false from decide_eq_false (by omega)] at hk
      walk_at "go"
      exact hk _ _ .z
    · have c := of_decide_eq_false c
      rw [show decide (x.length ≤ 8) = true from decide_eq_true (by omega), Bool.true_and] at hk
      walk_at "go"
      refine pFor_allB x.cps.toList (fun c => .z (.str ⟨⟨[c]⟩⟩)) (fun c => decide (c ∈ alpha)) (fun env => ∃ v, env = [some (.z (.str x)), v]) rfl trivial ⟨_, rfl⟩ ?_ ?_ ?_
      · rintro c _ Q hc ⟨v, rfl⟩ h1 h2
        walk_at "go"
        rw [alpha_eq]
        refine pIf.mk (fun q => ?_) (fun q => ?_)
        · walk_at "go"
          refine h2 ?_
          revert q
          cases decide (c ∈ alpha) <;> simp
        · walk_at "go"
          refine h1 ?_ _ ⟨_, rfl⟩
          revert q
          cases decide (c ∈ alpha) <;> simp
      · rintro ha _ ⟨v, rfl⟩
        walk_at "go"
        rw [ha] at hk
        exact hk _ _ .z
      · intro hf
        rw [hf] at hk
        exact hk _ _ .z
end K75

set_option Elab.async false
set_option linter.all false
set_option maxRecDepth 100000
set_option maxHeartbeats 1000000
namespace K75
open PySem L2 PL NE
open ND (cutL_map cutL_len cutL_mem bz_ints LwN isNm alpha alpha_eq alpha_at getA ixD_zA ixD_bA app_list one_len getI getI_at getI_mem)
local macro_rules | `(tactic| walk_at "st1") => `(tactic| first | assumption | exact sto_last | exact sto_r0 | exact sto_r1 | exact sto_r2 | exact sto_r3 | exact sto_r4)
local macro_rules | `(tactic| walk_at "sto") => `(tactic| first | walk_at "st1" | exact sto_app (by walk_at "st1") | exact sto_app (sto_app (by walk_at "st1")))
local macro_rules | `(tactic| walk_at "sz") => `(tactic| ((try simp only [List.length_map, List.length_range, List.length_append, List.length_cons, List.length_nil]); omega))
local macro_rules | `(tactic| walk_at "go") => `(tactic| ((try (conv => whnf)); repeat ((first | (show pIf _ _ _; first | refine pIf.tt rfl ?_ | refine pIf.ff rfl ?_) | (show pReq _ _; first | refine pReq.mk rfl ?_ | refine pReq.mk (sz_le rfl) ?_ | refine pReq.mk (sz_lt rfl) ?_ | refine pReq.mk (by decide) ?_ | refine pReq.mk (Or.inr (by decide)) ?_ | refine pReq.mk (Or.inl (by decide)) ?_ | refine pReq.mk (by assumption) ?_ | refine pReq.mk (isTy_l (by walk_at "sto")) ?_ | refine pReq.mk (by omega) ?_ | refine pReq.mk (sz_lt6 (by walk_at "sz")) ?_ | refine pReq.mk (sz_le6 (by walk_at "sz")) ?_ | refine pReq.mk (by walk_at "sz") ?_) | (show pGet _ _; first | refine pGet.mk rfl ?_ | refine pGet.mk (by walk_at "sto") ?_ | refine pGet.mk (lenD_at (by walk_at "sto")) ?_ | refine pGet.mk (sqD_at (by walk_at "sto")) ?_ | refine pGet.mk (lsD_at (by walk_at "sto")) ?_ | refine pGet.mk (lsR_at (by walk_at "sto")) ?_ | refine pGet.mk (srcD_at (by walk_at "sto")) ?_ | refine pGet.mk (tyD_l (by walk_at "sto")) ?_)); (try (conv => whnf)))))
open OR (eP nextsL Reach DInv DIn meas BInv BIn measB lastOf Wy Chn OIn Ord SLt)
open TB (XSt eG zG eSt XTab eTab rSt rTab bzSt ScIn ScsIn cps cps_app cps_len cps_in)
open NE (scD plcs emp emp_len emp_snoc emp_plcs)
theorem sort_z {α : Type} {f : α → PyData} {xs : List α} {S : Sto} {x : D} {K : K1} (h : lsD S x = some (xs.map fun a => .z (f a))) (al : PySem.W.AllAlike (xs.map f)) (so : PySem.W.Sortable (xs.map f)) (dp : ∀ a ∈ xs, (f a).depth ≤ 64) (sz : xs.length ≤ sizeLine)
    (k : K (.r S.length) (S ++ [.lst ((xs.mergeSort (PySem.W.dataLe false f)).map fun a => .z (f a))])) : SortOk S x K := by
  have e2 : (xs.map fun a => (D.z (f a), f a)).map (·.2) = xs.map f := by rw [List.map_map]; rfl
  refine ⟨.inl ⟨xs.map fun a => (.z (f a), f a), ⟨by rw [h, List.map_map]; rfl, fun b hb => ?_, by rw [e2]; exact al, by rw [e2]; exact so, fun b hb => ?_, by rw [List.length_map]; exact sz⟩, ?_⟩⟩
  · obtain ⟨a, _, rfl⟩ := List.mem_map.mp hb
    exact .z
  · obtain ⟨a, ha, rfl⟩ := List.mem_map.mp hb
    exact dp a ha
  · have e : ((sortB (xs.map fun a => (D.z (f a), f a))).map (·.1)) = (xs.mergeSort (PySem.W.dataLe false f)).map fun a => .z (f a) := by
      unfold sortB
      rw [← List.map_mergeSort (f := fun a => (D.z (f a), f a)) (r := PySem.W.dataLe false f) (l := xs) (fun a _ b _ => rfl), List.map_map]
      rfl
    rw [e]; exact k
def sortG (gs : List (Str × Int)) : List (Str × Int) := gs.mergeSort (PySem.W.dataLe false eG)
def sortW (ws : List Str) : List Str := ws.mergeSort (PySem.W.dataLe false PyData.str)
def sortSt (s : XSt) : XSt := (sortG s.1, sortW s.2)
theorem alG (gs : List (Str × Int)) : PySem.W.AllAlike (gs.map eG) := .of fun a b => by simp [eG, PySem.W.alike, PySem.W.alikeAll]
theorem alW (ws : List Str) : PySem.W.AllAlike (ws.map PyData.str) := .of fun a b => by simp [PySem.W.alike]
theorem sort_g {gs : List (Str × Int)} {S : Sto} {x : D} {K : K1} (h : lsD S x = some (gs.map zG)) (hl : gs.length ≤ 1000) (k : K (.r S.length) (S ++ [.lst ((sortG gs).map zG)])) : SortOk S x K :=
  sort_z h (alG gs) (.tuples fun g => ⟨_, _, rfl⟩) (fun g _ => by simp [eG, PyData.depth, PyData.depthAll]) (sz_le6 (by omega)) k
theorem sort_w {ws : List Str} {S : Sto} {x : D} {K : K1} (h : lsD S x = some (ws.map zW)) (hl : ws.length ≤ 1000) (k : K (.r S.length) (S ++ [.lst ((sortW ws).map zW)])) : SortOk S x K :=
  sort_z h (alW ws) (.others fun w => ⟨by simp, fun _ => by simp⟩) (fun w _ => by simp [PyData.depth]) (sz_le6 (by omega)) k
theorem is_ok {x : Str} (h : isNameB x = true) : PyData.strOk x = true ∧ x.length ≤ 8 := by
  unfold isNameB at h
  simp only [Bool.and_eq_true, decide_eq_true_eq, List.all_eq_true] at h
  refine ⟨?_, h.2.1⟩
  unfold PyData.strOk
  rw [Array.all_eq_true']
  intro c hc
  have h2 := h.2.2 c (Array.mem_toList_iff.mpr hc)
  have h3 : ∀ c ∈ alpha, c < 200 := by decide
  have := h3 c h2
  simp; omega
structure TabOk (a : List XSt × Int × List OR.Pr) : Prop where
  sm : smallT (a.1, a.2.2)
  nm : ∀ l ∈ labsS a.1 ++ labsP a.2.2, isNameB l = true
  nu : ∀ n ∈ a.2.1 :: numsS a.1, 0 ≤ n ∧ n < a.1.length
  db : ∀ s ∈ a.1, (s.1.map (·.1)).Nodup ∧ s.2.Nodup
  ac : Acyc a.2.2
theorem TabOk.ps {a : List XSt × Int × List OR.Pr} (h : TabOk a) : PsOk a.2.2 := fun p hp => by
  have h1 : ∀ l ∈ [p.1, p.2], l ∈ labsP a.2.2 := fun l hl => List.mem_flatMap.mpr ⟨p, hp, hl⟩
  exact ⟨(is_ok (h.nm _ (List.mem_append_right _ (h1 p.1 (by simp))))).1, (is_ok (h.nm _ (List.mem_append_right _ (h1 p.2 (by simp))))).1⟩
def F_table_of : Fsr := fsrq (fun a : List XSt × Int × List OR.Pr => [.list (a.1.map eSt), .int a.2.1, .list (a.2.2.map eP)]) TabOk (fun a (t : XTab) => t.states = a.1.map sortSt ∧ t.inner = a.2.1 ∧ Ord a.2.2 t.order) rTab
theorem pLc_sorts {ss : List XSt} (h8 : ∀ s ∈ ss, s.1.length ≤ 8 ∧ s.2.length ≤ 8) (hz : ss.length ≤ 8) {env : PL.Env} {fin : Sto → Prop} {S : Sto} {src : Src} (e : src.items = ss.map fun s => bz (eSt s)) (hok : ∀ S, src.ok S) (ha : ∀ x y, ((env.set 6 (some x)).set 7 (some y))[6]? = some (some x)) (hb : ∀ x y, ((env.set 6 (some x)).set 7 (some y))[7]? = some (some y))
    (hf : fin (S ++ .lst ((emp (S.length + 1) ss.length).map scD) :: cps (ss.map sortSt))) : pLc src (tgT [6, 7]) wYes table_of_e2 S.length env fin src.items (S ++ [.lst []]) := by
  have hlen : src.items.length = ss.length := by rw [e, List.length_map]
  refine pLc_each (fun j S' => j ≤ ss.length ∧ S' = S ++ .lst ((emp (S.length + 1) j).map scD) :: cps ((ss.take j).map sortSt)) ⟨Nat.zero_le _, rfl⟩ (fun _ _ _ _ => hok _) ?_ ?_
  · rintro j d _ Q hj ⟨_, rfl⟩ hQ
    rw [e, List.getElem?_map] at hj
    have hlt : j < ss.length := by
      rcases Nat.lt_or_ge j ss.length with z | z
      · exact z
      · rw [List.getElem?_eq_none z] at hj; cases hj
    have hs := List.getElem?_eq_getElem hlt
    have hsm := List.getElem_mem hlt
    generalize ss[j] = s at hs hsm
    rw [hs] at hj
    obtain rfl := (Option.some.inj hj).symm
    have hsl := h8 s hsm
    have htl : ((ss.take j).map sortSt).length = j := by rw [List.length_map, List.length_take]; omega
    have hcl := cps_len ((ss.take j).map sortSt)
    rw [htl] at hcl
    show pGet (tgT [6, 7] (bz (eSt s)) env) _
    rw [bzSt]
    refine pGet.mk (x := (env.set 6 (some (.b (.list (s.1.map eG))))).set 7 (some (.b (.list (s.2.map .str))))) (by
      unfold tgT
      rw [show tpD (.b (eSt s)) = some [.b (.list (s.1.map eG)), .b (.list (s.2.map .str))] from by
        show some ([PyData.list _, PyData.list _].map bz) = _
        rw [List.map_cons, List.map_cons, bz_list, bz_list]; rfl]
      rfl) ?_
    refine pIf.tt rfl ?_
    have e3 : (S ++ Ob.lst ((emp (S.length + 1) j).map scD) :: cps ((ss.take j).map sortSt)).length = S.length + 1 + 2 * j := by rw [List.length_append, List.length_cons, hcl]; omega
    dsimp only [table_of_e2, wTup, wCons, wCall, wNil, pSorted]
    unfold wVar
    rw [ha]
    dsimp only
    refine sort_g (gs := s.1) (by show some ((s.1.map eG).map bz) = _; rw [zsG]) (by omega) ?_
    rw [hb]
    dsimp only
    refine sort_w (ws := s.2) (by show some ((s.2.map PyData.str).map bz) = _; rw [List.map_map]; rfl) (by omega) ?_
    refine pReq.mk (sz_le rfl) ?_
    refine pGet.mk (x := (emp (S.length + 1) j).map scD) ?_ (pReq.mk ?_ ?_)
    · rw [List.append_assoc, List.append_assoc]
      exact lsR_at (List.getElem?_append_right (Nat.le_refl _) |>.trans (by rw [Nat.sub_self]; rfl))
    · rw [List.length_map, emp_len]
      exact sz_lt6 (by omega)
    · refine hQ _ ⟨hlt, ?_⟩
      rw [List.append_assoc, List.append_assoc, List.set_append_right _ _ (Nat.le_refl _), Nat.sub_self]
      have e2 : cps ((ss.take (j + 1)).map sortSt) = cps ((ss.take j).map sortSt) ++ [.lst ((sortG s.1).map zG), .lst ((sortW s.2).map zW)] := by
        rw [List.take_add_one, hs, List.map_append, TB.cps_app]; rfl
      rw [emp_snoc, e2, List.map_append]
      have e4 : ((S ++ Ob.lst ((emp (S.length + 1) j).map scD) :: cps ((ss.take j).map sortSt)) ++ [Ob.lst ((sortG s.1).map zG)]).length = S.length + 1 + 2 * j + 1 := by rw [List.length_append, e3]; rfl
      show S ++ (Ob.lst (_ ++ [D.t [.r _, .r _]]) :: _) = _
      rw [e3, e4]
      rfl
  · rintro S' ⟨_, rfl⟩
    rw [hlen, List.take_length]
    exact hf
end K75

set_option Elab.async false
set_option linter.all false
set_option maxRecDepth 100000
set_option maxHeartbeats 1000000
namespace K75
open PySem L2 PL NE
open ND (cutL_map cutL_len cutL_mem bz_ints LwN isNm alpha alpha_eq alpha_at getA ixD_zA ixD_bA app_list one_len getI getI_at getI_mem)
local macro_rules | `(tactic| walk_at "st1") => `(tactic| first | assumption | exact sto_last | exact sto_r0 | exact sto_r1 | exact sto_r2 | exact sto_r3 | exact sto_r4)
local macro_rules | `(tactic| walk_at "sto") => `(tactic| first | walk_at "st1" | exact sto_app (by walk_at "st1") | exact sto_app (sto_app (by walk_at "st1")))
local macro_rules | `(tactic| walk_at "sz") => `(tactic| ((try simp only [List.length_map, List.length_range, List.length_append, List.length_cons, List.length_nil]); omega))
local macro_rules | `(tactic| walk_at "go") => `(tactic| ((try (conv => whnf)); repeat ((first | (show pIf _ _ _; first | refine pIf.tt rfl ?_ | refine pIf.ff rfl ?_) | (show pReq _ _; first | refine pReq.mk rfl ?_ | refine pReq.mk (sz_le rfl) ?_ | refine pReq.mk (sz_lt rfl) ?_ | refine pReq.mk (by decide) ?_ | refine pReq.mk (Or.inr (by decide)) ?_ | refine pReq.mk (Or.inl (by decide)) ?_ | refine pReq.mk (by assumption) ?_ | refine pReq.mk (isTy_l (by walk_at "sto")) ?_ | refine pReq.mk (by omega) ?_ | refine pReq.mk (sz_lt6 (by walk_at "sz")) ?_ | refine pReq.mk (sz_le6 (by walk_at "sz")) ?_ | refine pReq.mk (by walk_at "sz") ?_) | (show pGet _ _; first | refine pGet.mk rfl ?_ | refine pGet.mk (by walk_at "sto") ?_ | refine pGet.mk (lenD_at (by walk_at "sto")) ?_ | refine pGet.mk (sqD_at (by walk_at "sto")) ?_ | refine pGet.mk (lsD_at (by walk_at "sto")) ?_ | refine pGet.mk (lsR_at (by walk_at "sto")) ?_ | refine pGet.mk (srcD_at (by walk_at "sto")) ?_ | refine pGet.mk (tyD_l (by walk_at "sto")) ?_)); (try (conv => whnf)))))
open OR (eP nextsL Reach DInv DIn meas BInv BIn measB lastOf Wy Chn OIn Ord SLt)
open TB (XSt eG zG eSt XTab eTab rSt rTab bzSt ScIn ScsIn cps cps_in VRs.scs)
open NE (scD plcs emp emp_len emp_snoc emp_plcs)
theorem pu_table_of : ∀ ds S K KX, lentR F_table_of ds S K KX → ws_table_of (frz F_too_great) (frz F_labels_in) (frz F_is_name) (frz F_numbers_in) (frz F_has_double) (frr F_order_of) { nx := fun _ S1 => K (.z .none) S1, rt := K, ex := fun y _ S1 => KX y S1 } (startE nm_table_of ds) S := by
  refine fsrq_ok fun ⟨ss, n, ps⟩ ht K KX hk => ?_
  have hps := ht.ps
  obtain ⟨⟨h1, h2, h3⟩, hnm, hnu, hdb, hac⟩ := ht
  dsimp only at h1 h2 h3 hnm hnu hdb hac hps hk
  have hl1 := labsS_len h3
  have hl2 := labsP_len ps
  have hl3 := numsS_len h3
  walk_at "go"
  refine fsp_call (ss, ps) (.cons .b (.cons .b .nil)) ⟨h1, h2, h3⟩ ?_
  walk_at "go"
  refine fsp_call (ss, ps) (.cons .b (.cons .b .nil)) ⟨h1, h2, h3⟩ ?_
  walk_at "go"
  refine pFor_allB (labsS ss ++ labsP ps) zW (fun _ => true) (fun env => ∃ v, env = [some (.b (.list (ss.map eSt))), some (.z (.int n)), some (.b (.list (ps.map eP))), v, none, none, none, none, none]) (zsW _) trivial ⟨_, rfl⟩ ?_ ?_ ?_
  · rintro w _ Q hw ⟨v, rfl⟩ g1 g2
    have hx := hnm w hw
    walk_at "go"
    refine fsp_call w (.cons .z .nil) (by have := (is_ok hx).2; omega) ?_
    walk_at "go"
    rw [hx]
    walk_at "go"
    exact g1 rfl _ ⟨_, rfl⟩
  · rintro _ _ ⟨v, rfl⟩
    walk_at "go"
    refine fsp_call (ss, n) (.cons .b (.cons .z .nil)) ⟨h1, Nat.zero_le _, h3⟩ ?_
    walk_at "go"
    refine pFor_allB (n :: numsS ss) zI (fun _ => true) (fun env => ∃ v v4, env = [some (.b (.list (ss.map eSt))), some (.z (.int n)), some (.b (.list (ps.map eP))), v, v4, none, none, none, none]) (by rw [List.map_map]; rfl) trivial ⟨_, _, rfl⟩ ?_ ?_ ?_
    · rintro m _ Q hm ⟨v, v4, rfl⟩ g1 g2
      have hx := hnu m hm
      walk_at "go"
      refine pIf.ff (decide_eq_false (by omega)) ?_
      walk_at "go"
      refine pIf.ff (decide_eq_false (by rw [List.length_map]; show ¬ (m ≥ _); omega)) ?_
      walk_at "go"
      exact g1 rfl _ ⟨_, _, rfl⟩
    · rintro _ _ ⟨v, v4, rfl⟩
      walk_at "go"
      refine pFor_xs ss (fun s => bz (eSt s)) (bz_sts ss) (fun i env S => ∃ v6 v7, env = [some (.b (.list (ss.map eSt))), some (.z (.int n)), some (.b (.list (ps.map eP))), v, v4, none, v6, v7, none]) ⟨_, _, rfl⟩ (fun _ _ _ _ _ => trivial) ?_ ?_
      · rintro i s _ S Q hs ⟨v6, v7, rfl⟩ hQ
        have hsm := List.mem_of_getElem? hs
        have hsl := h3 s hsm
        have hsd := hdb s hsm
        rw [bzSt]
        walk_at "go"
        refine pLc_allE s.1 zG (fun g => zW g.1) (zsG s.1) (by omega) (fun _ => trivial) (fun g hg => ⟨_, rfl, fun S1 K _ h => ?_⟩) ?_
        · walk_at "go"
          exact h
        have hm : (s.1.map fun g => zW g.1) = (s.1.map (·.1)).map zW := by rw [List.map_map]; rfl
        rw [hm]
        walk_at "go"
        refine fsp_call (s.1.map (·.1)) (.cons (.r sto_last (Vws.map _ _)) .nil) ⟨hsd.1, by rw [List.length_map]; omega⟩ ?_
        walk_at "go"
        refine fsp_call s.2 (.cons .b .nil) ⟨hsd.2, by omega⟩ ?_
        walk_at "go"
        exact hQ _ _ ⟨_, _, rfl⟩
      · rintro _ S ⟨v6, v7, rfl⟩
        walk_at "go"
        refine fslq_call ps (.cons .b .nil) ⟨hps, by omega, hac⟩ fun rs ⟨hr1, hr2⟩ => ?_
        walk_at "go"
        refine pLc_sorts h3 h1 (bz_sts ss) (fun _ => trivial) (fun _ _ => rfl) (fun _ _ => rfl) ?_
        walk_at "go"
        have hc := TB.cps_in (S := (S ++ [Ob.lst (rs.map fun x => zP x)]) ++ [Ob.lst ((emp ((S ++ [Ob.lst (rs.map fun x => zP x)]).length + 1) ss.length).map scD)]) (T := []) rfl (ss.map sortSt)
        have hl : (S ++ [Ob.lst (rs.map fun x => zP x)]).length = S.length + 1 := by rw [List.length_append]; rfl
        have hp := emp_plcs (S.length + 2) ss.length
        rw [hl] at hc ⊢
        refine hk _ _ ⟨ss.map sortSt, n, rs⟩ _ (.t (.cons (.l (ns := plcs (emp (S.length + 2) ss.length)) (n := S.length + 1) (ds := (emp (S.length + 2) ss.length).map scD) ?_ (TB.VRs.scs ?_)) (.cons (.z .z) (.cons (.l (ns := []) (n := S.length) (ds := rs.map zP) ?_ (VRs.zs _ _)) .nil)))) ?_ ⟨rfl, rfl, hr1⟩
        · rw [List.getElem?_append_right (by rw [hl]; exact Nat.le_refl _), hl, Nat.sub_self]; rfl
        · rw [List.length_append, hl, List.length_map, List.append_nil, List.append_assoc] at hc
          exact hc
        · exact (sto_app sto_last)
        · simp only [List.nil_append, List.append_nil]
          refine List.nodup_append.mpr ⟨List.nodup_append.mpr ⟨hp.2, by simp, ?_⟩, by simp, ?_⟩
          · intro a ha b hb e
            simp at hb
            have := hp.1 a ha
            omega
          · intro a ha b hb e
            simp at hb
            rcases List.mem_append.mp ha with ha | ha
            · have := hp.1 a ha
              omega
            · simp at ha
              omega
    · simp
  · simp
open TB (lt_g sort_eq)
end K75

set_option Elab.async false
set_option linter.all false
set_option maxRecDepth 100000
set_option maxHeartbeats 1000000
namespace K75
open PySem L2 PL NE
open ND (cutL_map cutL_len cutL_mem bz_ints LwN isNm alpha alpha_eq alpha_at getA ixD_zA ixD_bA app_list one_len getI getI_at getI_mem)
local macro_rules | `(tactic| walk_at "st1") => `(tactic| first | assumption | exact sto_last | exact sto_r0 | exact sto_r1 | exact sto_r2 | exact sto_r3 | exact sto_r4)
local macro_rules | `(tactic| walk_at "sto") => `(tactic| first | walk_at "st1" | exact sto_app (by walk_at "st1") | exact sto_app (sto_app (by walk_at "st1")))
local macro_rules | `(tactic| walk_at "sz") => `(tactic| ((try simp only [List.length_map, List.length_range, List.length_append, List.length_cons, List.length_nil]); omega))
local macro_rules | `(tactic| walk_at "go") => `(tactic| ((try (conv => whnf)); repeat ((first | (show pIf _ _ _; first | refine pIf.tt rfl ?_ | refine pIf.ff rfl ?_) | (show pReq _ _; first | refine pReq.mk rfl ?_ | refine pReq.mk (sz_le rfl) ?_ | refine pReq.mk (sz_lt rfl) ?_ | refine pReq.mk (by decide) ?_ | refine pReq.mk (Or.inr (by decide)) ?_ | refine pReq.mk (Or.inl (by decide)) ?_ | refine pReq.mk (by assumption) ?_ | refine pReq.mk (isTy_l (by walk_at "sto")) ?_ | refine pReq.mk (by omega) ?_ | refine pReq.mk (sz_lt6 (by walk_at "sz")) ?_ | refine pReq.mk (sz_le6 (by walk_at "sz")) ?_ | refine pReq.mk (by walk_at "sz") ?_) | (show pGet _ _; first | refine pGet.mk rfl ?_ | refine pGet.mk (by walk_at "sto") ?_ | refine pGet.mk (lenD_at (by walk_at "sto")) ?_ | refine pGet.mk (sqD_at (by walk_at "sto")) ?_ | refine pGet.mk (lsD_at (by walk_at "sto")) ?_ | refine pGet.mk (lsR_at (by walk_at "sto")) ?_ | refine pGet.mk (srcD_at (by walk_at "sto")) ?_ | refine pGet.mk (tyD_l (by walk_at "sto")) ?_)); (try (conv => whnf)))))
open OR (eP nextsL Reach DInv DIn meas BInv BIn measB lastOf Wy Chn OIn Ord SLt)
def chrS (c : Nat) : Str := ⟨⟨[c]⟩⟩
def alphaAt (i : Int) : Nat := alpha.getD (i.fmod 26).toNat 97
theorem alphaAt_at (i : Int) : atD (Str.ofString "abcdefghijklmnopqrstuvwxyz").cps.toList (i.fmod 26) = some (alphaAt i) := by
  rw [alpha_eq]
  have hb := fmod_b (a := i) (b := 26) (by decide)
  unfold alphaAt
  obtain ⟨m, hm⟩ : ∃ m : Nat, i.fmod 26 = (m : Int) := ⟨(i.fmod 26).toNat, by omega⟩
  rw [hm] at hb ⊢
  have hm : m < 26 := by omega
  have key : ∀ m : Fin 26, alpha[m.val]? = some (alpha.getD m.val 97) := by decide
  exact key ⟨m, hm⟩
theorem tl_joined (cs : List Nat) : (Txt.join "" (cs.map chrS)).cps.toList = cs := by
  have h := TL.tl_join "" (cs.map chrS)
  rw [← TL.join_eq] at h
  have key : ∀ cs : List Nat, TL.joinL (TL.tl "") ((cs.map chrS).map TL.tl) = cs := by
    intro cs
    induction cs with
    | nil => rfl
    | cons c cs ih =>
      cases cs with
      | nil => rfl
      | cons d cs =>
        show [c] ++ ([] ++ TL.joinL (TL.tl "") (((d :: cs).map chrS).map TL.tl)) = _
        rw [ih]; rfl
  rw [key] at h
  exact h
theorem sum_chr : ∀ cs : List Nat, ((cs.map chrS).map (·.length)).sum = cs.length
  | [] => rfl
  | c :: cs => by
    rw [List.map_cons, List.map_cons, List.sum_cons, sum_chr cs]
    show 1 + cs.length = cs.length + 1
    omega
theorem alphaAt_eq (i : Int) : alphaAt i = 97 + (i.fmod 26).toNat := by
  have hb := fmod_b (a := i) (b := 26) (by decide)
  unfold alphaAt
  have key : ∀ m : Fin 26, alpha.getD m.val 97 = 97 + m.val := by decide
  exact key ⟨(i.fmod 26).toNat, by omega⟩
theorem nodup_range {α : Type} {f : Nat → α} {m : Nat} (h : ∀ i j, i < j → j < m → f i ≠ f j) : ((List.range m).map f).Nodup := by
  refine List.pairwise_iff_getElem.mpr fun i j hi hj hij => ?_
  simp only [List.length_map, List.length_range] at hi hj
  rw [List.getElem_map, List.getElem_map, List.getElem_range, List.getElem_range]
  exact h i j hij hj
theorem joined_inj {a b : List Nat} (h : Txt.join "" (a.map chrS) = Txt.join "" (b.map chrS)) : a = b := by
  rw [← tl_joined a, ← tl_joined b, h]
theorem cut_to {α : Type} (xs : List α) (k : Nat) : cutL xs none (some (k : Int)) = xs.take k := by
  unfold cutL
  rw [HT.sIx_none, HT.sIx_nat, List.drop_zero, Nat.sub_zero]
  by_cases h : k ≤ xs.length
  · rw [Nat.min_eq_left h]
  · rw [Nat.min_eq_right (by omega), List.take_length, List.take_of_length_le (by omega)]
theorem cut_from {α : Type} (xs : List α) (k : Nat) : cutL xs (some (k : Int)) none = xs.drop k := by
  unfold cutL
  rw [HT.sIx_none, HT.sIx_nat]
  by_cases h : k ≤ xs.length
  · rw [Nat.min_eq_left h, List.take_of_length_le (by rw [List.length_drop]; omega)]
  · rw [Nat.min_eq_right (by omega), Nat.sub_self, List.take_zero, List.drop_of_length_le (by omega)]
def F_names : Fsp := fsq (fun a : Int × Nat => [.int a.1, .int a.2]) (fun a => a.2 ≤ 8) (fun a (ws : List Str) => ws.length = a.2 ∧ ws.Nodup ∧ ∀ w ∈ ws, isNameB w = true) fun ws => .list (ws.map .str)
def baseL (c : Int) : List Nat := (List.range 8).map fun (k : Nat) => alphaAt (c.fdiv ((0 + (k : Int)) * (0 + (k : Int)) + 3))
theorem base_len (c : Int) : (baseL c).length = 8 := by unfold baseL; simp
abbrev zC (c : Nat) : D := .z (.str (chrS c))
def pre1 (c : Int) (m : Nat) : List Str := (List.range m).map fun k => Txt.join "" (((baseL c).take (k + 1)).map chrS)
def var1 (c : Int) (n : Nat) (at_ : Nat) (k : Nat) : List Nat := ((baseL c).take n).set at_ (alphaAt (c.fdiv 5 + (0 + (k : Int))))
def var2 (c : Int) (n : Nat) (at_ : Nat) (m : Nat) : List Str := (List.range m).map fun k => Txt.join "" ((var1 c n at_ k).map chrS)
theorem pre1_nd {c : Int} {m : Nat} (h : m ≤ 8) : (pre1 c m).Nodup := nodup_range fun i j hij hj e => by
  have := congrArg List.length (joined_inj e)
  rw [List.length_take, List.length_take, base_len] at this
  omega
theorem var2_nd {c : Int} {n at_ m : Nat} (h : m ≤ 8) (h1 : n ≤ 8) (h2 : at_ < n) : (var2 c n at_ m).Nodup := nodup_range fun i j hij hj e => by
  have e := joined_inj e
  unfold var1 at e
  have hl : at_ < ((baseL c).take n).length := by rw [List.length_take, base_len]; omega
  have e2 : (((baseL c).take n).set at_ (alphaAt (c.fdiv 5 + (0 + (i : Int)))))[at_]? = (((baseL c).take n).set at_ (alphaAt (c.fdiv 5 + (0 + (j : Int)))))[at_]? := by rw [e]
  rw [List.getElem?_set_self hl, List.getElem?_set_self hl, Option.some.injEq, alphaAt_eq, alphaAt_eq] at e2
  have b1 := fmod_b (a := c.fdiv 5 + (0 + (i : Int))) (b := 26) (by decide)
  have b2 := fmod_b (a := c.fdiv 5 + (0 + (j : Int))) (b := 26) (by decide)
  have e3 : (c.fdiv 5 + (0 + (i : Int))).fmod 26 = (c.fdiv 5 + (0 + (j : Int))).fmod 26 := by omega
  rw [Int.fmod_eq_emod_of_nonneg _ (by decide), Int.fmod_eq_emod_of_nonneg _ (by decide)] at e3
  omega
theorem alpha_in (i : Int) : alphaAt i ∈ alpha := by
  have hb := fmod_b (a := i) (b := 26) (by decide)
  rw [alphaAt_eq]
  have key : ∀ m : Fin 26, 97 + m.val ∈ alpha := by decide
  exact key ⟨(i.fmod 26).toNat, by omega⟩
theorem name_join {cs : List Nat} (h1 : 1 ≤ cs.length) (h8 : cs.length ≤ 8) (ha : ∀ c ∈ cs, c ∈ alpha) : isNameB (Txt.join "" (cs.map chrS)) = true := by
  have hl : (Txt.join "" (cs.map chrS)).length = cs.length := by
    have := congrArg List.length (tl_joined cs)
    rw [Array.length_toList] at this
    exact this
  unfold isNameB
  rw [hl, tl_joined, decide_eq_true h1, decide_eq_true h8]
  simp only [Bool.true_and, List.all_eq_true, decide_eq_true_eq]
  exact ha
theorem base_in (c : Int) : ∀ x ∈ baseL c, x ∈ alpha := fun x hx => by
  obtain ⟨k, _, rfl⟩ := List.mem_map.mp hx
  exact alpha_in _
theorem pre1_ok {c : Int} {m : Nat} (hm : m ≤ 8) : ∀ w ∈ pre1 c m, isNameB w = true := fun w hw => by
  obtain ⟨k, hk, rfl⟩ := List.mem_map.mp hw
  have hk := List.mem_range.mp hk
  refine name_join ?_ ?_ fun x hx => base_in c x (List.mem_of_mem_take hx)
  · rw [List.length_take, base_len]; omega
  · rw [List.length_take, base_len]; omega
theorem var1_in {c : Int} {n at_ k : Nat} : ∀ x ∈ var1 c n at_ k, x ∈ alpha := fun x hx => by
  rcases List.mem_or_eq_of_mem_set hx with h | h
  · exact base_in c x (List.mem_of_mem_take h)
  · rw [h]; exact alpha_in _
theorem var2_ok {c : Int} {n at_ m : Nat} (h1 : 1 ≤ n) (h8 : n ≤ 8) : ∀ w ∈ var2 c n at_ m, isNameB w = true := fun w hw => by
  obtain ⟨k, _, rfl⟩ := List.mem_map.mp hw
  refine name_join ?_ ?_ var1_in
  · unfold var1; rw [List.length_set, List.length_take, base_len]; omega
  · unfold var1; rw [List.length_set, List.length_take, base_len]; omega
theorem joins {cs : List Nat} {S : Sto} {K : K1} (hl : cs.length ≤ 1000) (h : K (.z (.str (Txt.join "" (cs.map chrS)))) S) : ∃ ys : List Str, cs.map zC = ys.map (fun s => .z (.str s)) ∧ pReq ((ys.map (fun x => x.length)).sum + ys.length * (Str.ofString "").length ≤ 16777216) (K (.z (.str (Txt.join (Str.ofString "") ys))) S) :=
  ⟨cs.map chrS, by rw [List.map_map]; rfl, pReq.mk (by rw [sum_chr, List.length_map]; show cs.length + cs.length * 0 ≤ _; omega) h⟩
theorem pu_names : ∀ ds S K KX, lent F_names ds S K KX → ws__law_names { nx := fun _ S1 => K (.z .none) S1, rt := K, ex := fun y _ S1 => KX y S1 } (startE nm__law_names ds) S := by
  refine fsq_ok fun ⟨c0, m⟩ hm K KX hk => ?_
  dsimp only at hm hk
  walk_at "go"
  generalize c0.fmod _ = c
  refine pLc_rg (fun j => zC (alphaAt (c.fdiv ((0 + (j : Int)) * (0 + (j : Int)) + 3)))) (by decide) (fun j hj => ⟨_, rfl, fun S1 K _ h => ?_⟩) ?_
  · have hj8 : j < 8 := hj
    have h64 : (0 + (j : Int)) * (0 + (j : Int)) ≤ 49 ∧ 0 ≤ (0 + (j : Int)) * (0 + (j : Int)) := by
      have : ∀ j : Fin 8, (0 + ((j.val : Nat) : Int)) * (0 + ((j.val : Nat) : Int)) ≤ 49 ∧ 0 ≤ (0 + ((j.val : Nat) : Int)) * (0 + ((j.val : Nat) : Int)) := by decide
      exact this ⟨j, hj8⟩
    have cm : CMul (0 + (j : Int)) (0 + (j : Int)) := .inl (by omega)
    walk_at "go"
    refine pGet.mk (alphaAt_at _) ?_
    walk_at "go"
    exact h
  have eb : ((List.range 8).map fun (j : Nat) => zC (alphaAt (c.fdiv ((0 + (j : Int)) * (0 + (j : Int)) + 3)))) = (baseL c).map zC := by unfold baseL; rw [List.map_map]; rfl
  rw [show Int.toNat 8 = 8 from rfl, eb]
  have em : ((m : Nat) : Int).toNat = m := by omega
  have hb : ([] ++ [Ob.lst ((baseL c).map zC)] : Sto)[0]? = some (.lst ((baseL c).map zC)) := rfl
  have h1 : ([] ++ [Ob.lst ((baseL c).map zC)] : Sto).length = 1 := rfl
  generalize ([] ++ [Ob.lst ((baseL c).map zC)] : Sto) = S0 at hb h1 ⊢
  walk_at "go"
  refine pIf.mk (fun q => ?_) (fun q => ?_)
  · walk_at "go"
    rw [em]
    refine pLc_rgG (fun k => zW (Txt.join "" (((baseL c).take (k + 1)).map chrS))) (by omega) (fun k hk2 => ⟨_, rfl, fun acc T K h => ?_⟩) fun T => ?_
    · have hb := sto_app (T := Ob.lst acc :: T) hb
      walk_at "go"
      rw [show 0 + (k : Int) + 1 = ((k + 1 : Nat) : Int) by omega, cutL_map, cut_to]
      have hl : ((baseL c).take (k + 1)).length ≤ 1000 := by rw [List.length_take]; omega
      refine joins hl ?_
      have := h [Ob.lst (((baseL c).take (k + 1)).map zC)]
      rw [← List.cons_append, ← List.append_assoc] at this
      exact this
    · have ep : ((List.range m).map fun k => zW (Txt.join "" (((baseL c).take (k + 1)).map chrS))) = (pre1 c m).map zW := by unfold pre1; rw [List.map_map]; rfl
      rw [ep]
      walk_at "go"
      exact hk _ _ (pre1 c m) (.r sto_r0 (Vzs.map _ _)) ⟨by unfold pre1; simp, pre1_nd hm, pre1_ok hm⟩
  · have hs := fmod_b (a := c) (b := 8) (by decide)
    obtain ⟨n, hn⟩ : ∃ n : Nat, 1 + c.fmod 8 = (n : Int) := ⟨(1 + c.fmod 8).toNat, by omega⟩
    rw [hn]
    have ha := fmod_b (a := c.fdiv 8) (b := (n : Int)) (by omega)
    obtain ⟨at_, hat⟩ : ∃ k : Nat, (c.fdiv 8).fmod n = (k : Int) := ⟨((c.fdiv 8).fmod n).toNat, by omega⟩
    rw [hat] at ha
    walk_at "go"
    rw [em]
    refine pFor_range (fun i env S => ∃ v6 v7, env = [some (.z (.int c)), some (.z (.int m)), some (.z (.str (Str.ofString "abcdefghijklmnopqrstuvwxyz"))), some (.z (.int n)), some (.r 0), some (.r S0.length), v6, v7] ∧ S[0]? = some (.lst ((baseL c).map zC)) ∧ S[S0.length]? = some (.lst ((var2 c n at_ i).map zW))) ⟨_, _, rfl, sto_app hb, sto_last⟩ ?_ ?_
    · rintro i _ S Q hi ⟨v6, v7, rfl, g0, g1⟩ hQ
      have hlt := (List.getElem?_eq_some_iff.mp g1).1
      walk_at "go"
      rw [cutL_map, cut_to]
      refine pGet.mk (alphaAt_at _) ?_
      walk_at "go"
      rw [hat]
      refine pGet.mk (x := at_) (by
        have := ixN_at (n := (((baseL c).take n).map zC).length) (i := at_) (by rw [List.length_map, List.length_take, base_len]; omega)
        rw [Int.zero_add] at this
        exact this) ?_
      have hv : (((baseL c).take n).map zC).set at_ (D.z (.str ⟨⟨[alphaAt (c.fdiv 5 + (0 + (i : Int)))]⟩⟩)) = (var1 c n at_ i).map zC := by unfold var1; rw [List.map_set]; rfl
      have g1' : (S ++ [Ob.lst ((var1 c n at_ i).map zC)])[S0.length]? = some (.lst ((var2 c n at_ i).map zW)) := sto_app g1
      have g0' : (S ++ [Ob.lst ((var1 c n at_ i).map zC)])[0]? = some (.lst ((baseL c).map zC)) := sto_app g0
      have es : (S ++ [Ob.lst (((baseL c).take n).map zC)]).set S.length (.lst ((((baseL c).take n).map zC).set at_ (D.z (.str ⟨⟨[alphaAt (c.fdiv 5 + (0 + (i : Int)))]⟩⟩)))) = S ++ [Ob.lst ((var1 c n at_ i).map zC)] := by rw [hv]; simp
      walk_at "go"
      rw [es]
      have g2' : (S ++ [Ob.lst ((var1 c n at_ i).map zC)])[S.length]? = some (.lst ((var1 c n at_ i).map zC)) := sto_last
      generalize S ++ [Ob.lst ((var1 c n at_ i).map zC)] = S1 at g1' g0' g2' ⊢
      have hlt1 := (List.getElem?_eq_some_iff.mp g1').1
      have hvl : (var1 c n at_ i).length ≤ 1000 := by unfold var1; rw [List.length_set, List.length_take]; omega
      have hwl : (var2 c n at_ i).length ≤ 8 := by unfold var2; rw [List.length_map, List.length_range]; omega
      walk_at "go"
      refine ⟨(var1 c n at_ i).map chrS, by rw [List.map_map]; rfl, pReq.mk (by rw [sum_chr, List.length_map]; show _ + (var1 c n at_ i).length * 0 ≤ _; omega) ?_⟩
      walk_at "go"
      refine hQ _ _ ⟨_, _, rfl, ?_, ?_⟩
      · rw [List.getElem?_set_ne (by omega)]; exact g0'
      · rw [List.getElem?_set_self hlt1]
        unfold var2
        rw [List.range_succ, List.map_append, List.map_append]; rfl
    · rintro _ S ⟨v6, v7, rfl, g0, g1⟩
      walk_at "go"
      exact hk _ _ (var2 c n at_ m) (.r g1 (Vzs.map _ _)) ⟨by unfold var2; simp, var2_nd hm (by omega) (by omega), var2_ok (by omega) (by omega)⟩
end K75

set_option Elab.async false
set_option linter.all false
set_option maxRecDepth 100000
set_option maxHeartbeats 1000000
namespace K75
open PySem L2 PL NE
open ND (cutL_map cutL_len cutL_mem bz_ints LwN isNm alpha alpha_eq alpha_at getA ixD_zA ixD_bA app_list one_len getI getI_at getI_mem)
local macro_rules | `(tactic| walk_at "st1") => `(tactic| first | assumption | exact sto_last | exact sto_r0 | exact sto_r1 | exact sto_r2 | exact sto_r3 | exact sto_r4)
local macro_rules | `(tactic| walk_at "sto") => `(tactic| first | walk_at "st1" | exact sto_app (by walk_at "st1") | exact sto_app (sto_app (by walk_at "st1")))
local macro_rules | `(tactic| walk_at "sz") => `(tactic| ((try simp only [List.length_map, List.length_range, List.length_append, List.length_cons, List.length_nil]); omega))
local macro_rules | `(tactic| walk_at "go") => `(tactic| ((try (conv => whnf)); repeat ((first | (show pIf _ _ _; first | refine pIf.tt rfl ?_ | refine pIf.ff rfl ?_) | (show pReq _ _; first | refine pReq.mk rfl ?_ | refine pReq.mk (sz_le rfl) ?_ | refine pReq.mk (sz_lt rfl) ?_ | refine pReq.mk (by decide) ?_ | refine pReq.mk (Or.inr (by decide)) ?_ | refine pReq.mk (Or.inl (by decide)) ?_ | refine pReq.mk (by assumption) ?_ | refine pReq.mk (isTy_l (by walk_at "sto")) ?_ | refine pReq.mk (by omega) ?_ | refine pReq.mk (sz_lt6 (by walk_at "sz")) ?_ | refine pReq.mk (sz_le6 (by walk_at "sz")) ?_ | refine pReq.mk (by walk_at "sz") ?_) | (show pGet _ _; first | refine pGet.mk rfl ?_ | refine pGet.mk (by walk_at "sto") ?_ | refine pGet.mk (lenD_at (by walk_at "sto")) ?_ | refine pGet.mk (sqD_at (by walk_at "sto")) ?_ | refine pGet.mk (lsD_at (by walk_at "sto")) ?_ | refine pGet.mk (lsR_at (by walk_at "sto")) ?_ | refine pGet.mk (srcD_at (by walk_at "sto")) ?_ | refine pGet.mk (tyD_l (by walk_at "sto")) ?_)); (try (conv => whnf)))))
open OR (eP nextsL Reach DInv DIn meas BInv BIn measB lastOf Wy Chn OIn Ord SLt)
theorem any_pairs (p : OR.Pr) : ∀ ps : List OR.Pr, ((ps.map eP).any fun z => PyData.eqv z (eP p)) = decide (p ∈ ps)
  | [] => by simp
  | q :: ps => by
    rw [List.map_cons, List.any_cons, any_pairs p ps]
    have e : PyData.eqv (eP q) (eP p) = decide (q = p) := by
      obtain ⟨a, b⟩ := q
      obtain ⟨c, d⟩ := p
      simp [PyData.eqv, PyData.eqvAll]
      by_cases h : a = c <;> by_cases h2 : b = d <;> simp [h, h2]
    rw [e]
    by_cases h : q = p
    · subst h; simp
    · have h2 : p ≠ q := fun z => h z.symm
      simp [h, h2]
theorem shP {p : OR.Pr} (h : PyData.strOk p.1 = true ∧ PyData.strOk p.2 = true) : Shp 1 (eP p) := .tup2 (n := 0) (.str h.1) (.str h.2)
theorem bIn_p {S : Sto} {x y : D} {ps : List OR.Pr} {p : OR.Pr} {k : Bool → Prop} (h1 : Vw S x (eP p)) (h2 : Vw S y (.list (ps.map eP))) (hp : PyData.strOk p.1 = true ∧ PyData.strOk p.2 = true) (hps : PsOk ps) (hk : k (decide (p ∈ ps))) : bInG x y S k := by
  refine ⟨.inl ⟨eP p, ps.map eP, h1, h2, (shP hp).ok, (Shp.lists (n := 1) fun q hq => shP (hps q hq)).ok, ?_⟩⟩
  rw [any_pairs]; exact hk
open MX (reachB_iff Mx at2 put2 Sq MI Ed Tc row0 rowsOf reachB)
abbrev zB (b : Bool) : D := .z (.bool b)
def mtx (n : Nat) (R : Mx) : Sto := .lst ((List.range n).map fun i => .r (0 + 1 + i)) :: R.map fun r => .lst (r.map zB)
theorem mtx0 {n : Nat} {R : Mx} : (mtx n R)[0]? = some (.lst ((List.range n).map fun i => .r (0 + 1 + i))) := rfl
theorem mtx_at {n i : Nat} {R : Mx} {r : List Bool} (h : R[i]? = some r) : (mtx n R)[0 + 1 + i]? = some (.lst (r.map zB)) := by
  show (_ :: R.map _)[0 + 1 + i]? = _
  rw [show 0 + 1 + i = i + 1 by omega, List.getElem?_cons_succ, List.getElem?_map, h]; rfl
theorem mtx_r {n i : Nat} (hi : i < n) : ((List.range n).map fun i => D.r (0 + 1 + i))[i]? = some (.r (0 + 1 + i)) := by
  rw [List.getElem?_map, List.getElem?_range hi]; rfl
theorem mtx_set {n i : Nat} {R : Mx} {r : List Bool} : (mtx n R).set (0 + 1 + i) (.lst (r.map zB)) = mtx n (R.set i r) := by
  show (_ :: R.map _).set (0 + 1 + i) _ = _ :: (R.set i r).map _
  rw [show 0 + 1 + i = i + 1 by omega, List.set_cons_succ, List.map_set]
theorem row_at {r : List Bool} {j : Nat} {b : Bool} (h : r[j]? = some b) : atD (r.map zB) (j : Int) = some (zB b) := by
  show (r.map zB)[j]? = _
  rw [List.getElem?_map, h]; rfl
def eRow (r : List Bool) : PyData := .list (r.map .bool)
def RowsPre (a : List OR.Pr × List Str) : Prop := PsOk a.1 ∧ (∀ w ∈ a.2, PyData.strOk w = true) ∧ a.2.length ≤ 1000 ∧ (∀ p ∈ a.1, p.1 ∈ a.2 ∧ p.2 ∈ a.2) ∧ a.2.Nodup
structure JI (ps : List OR.Pr) (ls : List Str) (i j : Nat) (rs : List OR.Pr) : Prop where
  nd : rs.Nodup
  me : ∀ p, p ∈ rs ↔ ∃ a b, ls[a]? = some p.1 ∧ ls[b]? = some p.2 ∧ (a < i ∨ (a = i ∧ b < j)) ∧ Reach ps p.1 p.2
  sb : ∀ p ∈ rs, p.1 ∈ ls ∧ p.2 ∈ ls
  len : rs.length ≤ i * ls.length + j
section
variable {ps : List OR.Pr} {ls : List Str} {i j : Nat} {rs : List OR.Pr}
theorem JI.start : JI ps ls 0 0 [] := ⟨List.nodup_nil, fun p => ⟨fun h => (by cases h), fun ⟨a, b, _, _, h, _⟩ => (by omega)⟩, fun p h => (by cases h), Nat.zero_le _⟩
theorem JI.row (h : JI ps ls i ls.length rs) : JI ps ls (i + 1) 0 rs := ⟨h.nd, fun p => by
  rw [h.me p]
  constructor
  · rintro ⟨a, b, h1, h2, h3, h4⟩
    exact ⟨a, b, h1, h2, by omega, h4⟩
  · rintro ⟨a, b, h1, h2, h3, h4⟩
    have := (List.getElem?_eq_some_iff.mp h2).1
    exact ⟨a, b, h1, h2, by omega, h4⟩, h.sb, by have := h.len; rw [Nat.add_mul]; omega⟩
variable (nd : ls.Nodup) {a b : Str}
include nd
theorem JI.old (h : JI ps ls i j rs) (ha : ls[i]? = some a) (hb : ls[j]? = some b) (hr : reachB ps a b = false) : JI ps ls i (j + 1) rs := ⟨h.nd, fun p => by
  rw [h.me p]
  constructor
  · rintro ⟨x, y, h1, h2, h3, h4⟩
    exact ⟨x, y, h1, h2, by omega, h4⟩
  · rintro ⟨x, y, h1, h2, h3, h4⟩
    refine ⟨x, y, h1, h2, ?_, h4⟩
    by_cases e : x = i ∧ y = j
    · obtain ⟨rfl, rfl⟩ := e
      rw [ha] at h1; rw [hb] at h2
      cases h1; cases h2
      rw [reachB_iff.mpr h4] at hr; cases hr
    · omega, h.sb, by have := h.len; omega⟩
theorem JI.new (h : JI ps ls i j rs) (ha : ls[i]? = some a) (hb : ls[j]? = some b) (hr : reachB ps a b = true) : JI ps ls i (j + 1) (rs ++ [(a, b)]) := by
  have hi := (List.getElem?_eq_some_iff.mp ha).1
  have hj := (List.getElem?_eq_some_iff.mp hb).1
  refine ⟨List.nodup_append.mpr ⟨h.nd, by simp, fun p hp q hq e => ?_⟩, fun p => ?_, fun p hp => ?_, by have := h.len; rw [List.length_append, List.length_singleton]; omega⟩
  · rw [List.mem_singleton.mp hq] at e
    subst e
    obtain ⟨x, y, h1, h2, h3, _⟩ := (h.me _).mp hp
    have e1 : i = x := (List.getElem?_inj hi nd).mp (ha.trans h1.symm)
    have e2 : j = y := (List.getElem?_inj hj nd).mp (hb.trans h2.symm)
    omega
  · rw [List.mem_append, h.me p, List.mem_singleton]
    constructor
    · rintro (⟨x, y, h1, h2, h3, h4⟩ | rfl)
      · exact ⟨x, y, h1, h2, by omega, h4⟩
      · exact ⟨i, j, ha, hb, by omega, reachB_iff.mp hr⟩
    · rintro ⟨x, y, h1, h2, h3, h4⟩
      by_cases e : x = i ∧ y = j
      · obtain ⟨rfl, rfl⟩ := e
        rw [ha] at h1; rw [hb] at h2
        obtain ⟨p1, p2⟩ := p
        cases h1; cases h2
        exact .inr rfl
      · exact .inl ⟨x, y, h1, h2, by omega, h4⟩
  · rcases List.mem_append.mp hp with hp | hp
    · exact h.sb p hp
    · rw [List.mem_singleton.mp hp]
      exact ⟨List.mem_of_getElem? ha, List.mem_of_getElem? hb⟩
end
def F_joined : Fsp := fsq (fun a : List OR.Pr × List Str => [.list (a.1.map eP), .list (a.2.map .str)]) (fun a => RowsPre a ∧ a.2.length ≤ 20) (fun a (rs : List OR.Pr) => Ord a.1 rs) fun rs => .list (rs.map eP)
theorem bzsW (ws : List Str) : (ws.map PyData.str).map bz = ws.map zW := by rw [List.map_map]; rfl
theorem pu_joined : ∀ ds S K KX, lent F_joined ds S K KX → ws__law_joined { nx := fun _ S1 => K (.z .none) S1, rt := K, ex := fun y _ S1 => KX y S1 } (startE nm__law_joined ds) S := by
  refine fsq_ok fun ⟨ps, ls⟩ ⟨⟨hps, hls, hll, hpm, hnd⟩, hl20⟩ K KX hk => ?_
  dsimp only at hps hls hll hpm hnd hl20 hk
  walk_at "go"
  rw [List.length_map]
  walk_at "go"
  refine pLc_nest ls zW (fun a => (ls.map fun b => decide ((a, b) ∈ ps)).map zB) (bzsW ls) (by omega) (fun _ _ => trivial) (fun a ha => ⟨_, rfl, fun S1 K _ h => ?_⟩) ?_
  · have ha2 := hls a ha
    dsimp only [_law_joined_e2]
    walk_at "go"
    refine pLc_allE ls zW (fun b => zB (decide ((a, b) ∈ ps))) (bzsW ls) (by omega) (fun _ => trivial) (fun b hb => ⟨_, rfl, fun S1 K _ h => ?_⟩) ?_
    · have hb2 := hls b hb
      dsimp only [_law_joined_e1]
      walk_at "go"
      refine bIn_p (p := (a, b)) (show Vw _ (.z (eP (a, b))) _ from .z) .b ⟨ha2, hb2⟩ hps ?_
      exact h
    · rw [List.map_map] at h
      exact h
  have e0 : ([] ++ (Ob.lst ((List.range ls.length).map fun i => D.r (([] : Sto).length + 1 + i)) :: ls.map fun a => Ob.lst ((ls.map fun b => decide ((a, b) ∈ ps)).map zB)) : Sto) = mtx ls.length (row0 ps ls) := by
    unfold mtx row0
    rw [List.map_map]; rfl
  rw [e0]
  walk_at "go"
  have et : ((ls.length : Nat) : Int).toNat = ls.length := by omega
  show pFor (rgD 0 ((ls.length : Nat) : Int).toNat) _ _ _ _ _ _
  rw [et]
  refine pFor_range (fun k env S => ∃ v4 v6 v7 R, env = [some (.b (.list (ps.map eP))), some (.b (.list (ls.map .str))), some (.z (.int ls.length)), some (.r 0), v4, none, v6, v7, none, none] ∧ S = mtx ls.length R ∧ MI (Tc ps ls) (Ed ps ls) ls.length k 0 0 R) ⟨_, _, _, _, rfl, rfl, MI.start⟩ ?_ ?_
  · rintro k _ _ Q hk2 ⟨v4, v6, v7, R, rfl, rfl, hR⟩ hQ
    rw [Int.zero_add]
    walk_at "go"
    rw [et]
    refine pFor_range (fun i env S => ∃ v6 v7 R, env = [some (.b (.list (ps.map eP))), some (.b (.list (ls.map .str))), some (.z (.int ls.length)), some (.r 0), some (.z (.int k)), none, v6, v7, none, none] ∧ S = mtx ls.length R ∧ MI (Tc ps ls) (Ed ps ls) ls.length k i 0 R) ⟨_, _, _, rfl, rfl, hR⟩ ?_ ?_
    · rintro i _ _ Q2 hi ⟨v6, v7, R, rfl, rfl, hR⟩ hQ2
      rw [Int.zero_add]
      walk_at "go"
      rw [et]
      refine pFor_range (fun j env S => ∃ v7 R, env = [some (.b (.list (ps.map eP))), some (.b (.list (ls.map .str))), some (.z (.int ls.length)), some (.r 0), some (.z (.int k)), none, some (.z (.int i)), v7, none, none] ∧ S = mtx ls.length R ∧ MI (Tc ps ls) (Ed ps ls) ls.length k i j R) ⟨_, _, rfl, rfl, hR⟩ ?_ ?_
      · rintro j _ _ Q3 hj ⟨v7, R, rfl, rfl, hR⟩ hQ3
        rw [Int.zero_add]
        obtain ⟨ri, i1, i2, i3⟩ := hR.sq.at hi hk2
        obtain ⟨rk, k1, k2, k3⟩ := hR.sq.at hk2 hj
        have hOld := fun hc => hR.old hi hj hk2 hc
        have hNew := fun hc => hR.new Tc.tr hi hj hk2 hc
        have hp2 : put2 R i j = R.set i (ri.set j true) := by unfold put2; rw [i1]; rfl
        walk_at "go"
        refine pGet.mk (atD_nat (mtx_r hi)) ?_
        walk_at "go"
        refine pGet.mk (mtx_at i1) ?_
        walk_at "go"
        refine pGet.mk (row_at i3) ?_
        walk_at "go"
        refine pIf.mk (fun c1 => ?_) (fun c1 => ?_)
        · walk_at "go"
          refine pGet.mk (atD_nat (mtx_r hk2)) ?_
          walk_at "go"
          refine pGet.mk (mtx_at k1) ?_
          walk_at "go"
          refine pGet.mk (row_at k3) ?_
          walk_at "go"
          refine pIf.mk (fun c2 => ?_) (fun c2 => ?_)
          · have hN := hNew (by rw [c1, c2]; rfl)
            rw [hp2] at hN
            walk_at "go"
            refine pGet.mk (atD_nat (mtx_r hi)) ?_
            walk_at "go"
            refine pGet.mk (mtx_at i1) ?_
            walk_at "go"
            refine pGet.mk (ixN_nat (by rw [List.length_map, i2]; exact hj)) ?_
            rw [show (ri.map zB).set j (D.z (.bool true)) = (ri.set j true).map zB by rw [List.map_set], mtx_set]
            walk_at "go"
            exact hQ3 _ _ ⟨_, _, rfl, rfl, hN⟩
          · walk_at "go"
            exact hQ3 _ _ ⟨_, _, rfl, rfl, hOld (by rw [c1, c2]; rfl)⟩
        · walk_at "go"
          exact hQ3 _ _ ⟨_, _, rfl, rfl, hOld (by rw [c1]; rfl)⟩
      · rintro _ _ ⟨v7, R, rfl, rfl, hR⟩
        walk_at "go"
        exact hQ2 _ _ ⟨_, _, _, rfl, rfl, hR.row⟩
    · rintro _ _ ⟨v6, v7, R, rfl, rfl, hR⟩
      walk_at "go"
      exact hQ _ _ ⟨_, _, _, _, rfl, rfl, hR.round⟩
  · rintro _ _ ⟨v4, v6, v7, R, rfl, rfl, hR⟩
    walk_at "go"
    have hRe := MI.eq hpm hnd hR
    subst hRe
    rw [et]
    have m0 := sto_app (T := [Ob.lst []]) (mtx0 (n := ls.length) (R := rowsOf ps ls))
    have hlen : (mtx ls.length (rowsOf ps ls)).length = ls.length + 1 := by unfold mtx rowsOf; simp
    refine pFor_range (fun i env S => ∃ v6 v7 rs, env = [some (.b (.list (ps.map eP))), some (.b (.list (ls.map .str))), some (.z (.int ls.length)), some (.r 0), v4, some (.r (ls.length + 1)), v6, v7, none, none] ∧ S = mtx ls.length (rowsOf ps ls) ++ [.lst (rs.map zP)] ∧ JI ps ls i 0 rs) ⟨_, _, [], by rw [hlen]; rfl, rfl, .start⟩ ?_ ?_
    · rintro i _ _ Q hi ⟨v6, v7, rs, rfl, rfl, hJ⟩ hQ
      rw [Int.zero_add]
      walk_at "go"
      rw [et]
      refine pFor_range (fun j env S => ∃ v7 rs, env = [some (.b (.list (ps.map eP))), some (.b (.list (ls.map .str))), some (.z (.int ls.length)), some (.r 0), v4, some (.r (ls.length + 1)), some (.z (.int i)), v7, none, none] ∧ S = mtx ls.length (rowsOf ps ls) ++ [.lst (rs.map zP)] ∧ JI ps ls i j rs) ⟨_, _, rfl, rfl, hJ⟩ ?_ ?_
      · rintro j _ _ Q2 hj ⟨v7, rs, rfl, rfl, hJ⟩ hQ2
        rw [Int.zero_add]
        have ha := List.getElem?_eq_getElem hi
        have hb := List.getElem?_eq_getElem hj
        generalize ls[i] = a at ha
        generalize ls[j] = b at hb
        have r1 : (rowsOf ps ls)[i]? = some (ls.map fun b => reachB ps a b) := by unfold rowsOf; rw [List.getElem?_map, ha]; rfl
        have r2 : (ls.map fun b => reachB ps a b)[j]? = some (reachB ps a b) := by rw [List.getElem?_map, hb]; rfl
        have m1 := sto_app (T := [Ob.lst (rs.map zP)]) (mtx0 (n := ls.length) (R := rowsOf ps ls))
        have m2 := sto_app (T := [Ob.lst (rs.map zP)]) (mtx_at (n := ls.length) r1)
        have m3 : (mtx ls.length (rowsOf ps ls) ++ [Ob.lst (rs.map zP)])[ls.length + 1]? = some (.lst (rs.map zP)) := by rw [← hlen]; exact sto_last
        have hJl := hJ.len
        have hJ1 := fun q => hJ.new hnd ha hb q
        have hJ2 := fun q => hJ.old hnd ha hb q
        have es : ∀ rs' : List OR.Pr, (mtx ls.length (rowsOf ps ls) ++ [Ob.lst (rs.map zP)]).set (ls.length + 1) (.lst (rs'.map zP)) = mtx ls.length (rowsOf ps ls) ++ [Ob.lst (rs'.map zP)] := fun rs' => by rw [← hlen]; simp
        generalize hM : mtx ls.length (rowsOf ps ls) ++ [Ob.lst (rs.map zP)] = S1 at m1 m2 m3 es ⊢
        walk_at "go"
        refine pGet.mk (atD_nat (mtx_r hi)) ?_
        walk_at "go"
        refine pGet.mk (row_at r2) ?_
        walk_at "go"
        have hll2 : rs.length ≤ 1000 := by
          have : i * ls.length ≤ 20 * 20 := Nat.mul_le_mul (by omega) hl20
          omega
        refine pIf.mk (fun c => ?_) (fun c => ?_)
        · walk_at "go"
          refine pGet.mk (ixD_bL (f := PyData.str) (atD_nat ha)) ?_
          walk_at "go"
          refine pGet.mk (ixD_bL (f := PyData.str) (atD_nat hb)) ?_
          walk_at "go"
          refine hQ2 _ _ ⟨_, _, rfl, ?_, hJ1 c⟩
          rw [← es]
          rw [List.map_append]; rfl
        · walk_at "go"
          exact hQ2 _ _ ⟨_, _, rfl, hM.symm, hJ2 c⟩
      · rintro _ _ ⟨v7, rs, rfl, rfl, hJ⟩
        walk_at "go"
        exact hQ _ _ ⟨_, _, _, rfl, rfl, hJ.row⟩
    · rintro _ _ ⟨v6, v7, rs, rfl, rfl, hJ⟩
      walk_at "go"
      have m3 : (mtx ls.length (rowsOf ps ls) ++ [Ob.lst (rs.map zP)])[ls.length + 1]? = some (.lst (rs.map zP)) := by rw [← hlen]; exact sto_last
      have hll2 : rs.length ≤ 1000 := by
        have := hJ.len
        have : ls.length * ls.length ≤ 20 * 20 := Nat.mul_le_mul hl20 hl20
        omega
      refine sort_z (xs := rs) (f := eP) (lsD_at m3) (.of fun a b => by simp [PySem.W.alike, PySem.W.alikeAll]) (.tuples fun g => ⟨_, _, rfl⟩) (fun g _ => by simp [PyData.depth, PyData.depthAll]) (sz_le6 (by omega)) ?_
      walk_at "go"
      refine hk _ _ _ (.r sto_last (Vzs.map _ _)) (TB.sort_ord hJ.nd fun a b => ?_)
      rw [hJ.me]
      constructor
      · rintro ⟨_, _, _, _, _, h⟩
        exact h
      · intro h
        obtain ⟨x, hx⟩ := h.fst
        obtain ⟨y, hy⟩ := h.snd
        obtain ⟨i, hi, e1⟩ := List.mem_iff_getElem.mp (hpm _ hx).1
        obtain ⟨j, hj, e2⟩ := List.mem_iff_getElem.mp (hpm _ hy).2
        exact ⟨i, j, by rw [List.getElem?_eq_getElem hi, e1], by rw [List.getElem?_eq_getElem hj, e2], .inl hi, h⟩
end K75

set_option Elab.async false
set_option linter.all false
set_option maxRecDepth 100000
set_option maxHeartbeats 1000000
namespace K75
open PySem L2 PL NE
open ND (cutL_map cutL_len cutL_mem bz_ints LwN isNm alpha alpha_eq alpha_at getA ixD_zA ixD_bA app_list one_len getI getI_at getI_mem)
local macro_rules | `(tactic| walk_at "st1") => `(tactic| first | assumption | exact sto_last | exact sto_r0 | exact sto_r1 | exact sto_r2 | exact sto_r3 | exact sto_r4)
local macro_rules | `(tactic| walk_at "sto") => `(tactic| first | walk_at "st1" | exact sto_app (by walk_at "st1") | exact sto_app (sto_app (by walk_at "st1")))
local macro_rules | `(tactic| walk_at "sz") => `(tactic| ((try simp only [List.length_map, List.length_range, List.length_append, List.length_cons, List.length_nil]); omega))
local macro_rules | `(tactic| walk_at "go") => `(tactic| ((try (conv => whnf)); repeat ((first | (show pIf _ _ _; first | refine pIf.tt rfl ?_ | refine pIf.ff rfl ?_) | (show pReq _ _; first | refine pReq.mk rfl ?_ | refine pReq.mk (sz_le rfl) ?_ | refine pReq.mk (sz_lt rfl) ?_ | refine pReq.mk (by decide) ?_ | refine pReq.mk (Or.inr (by decide)) ?_ | refine pReq.mk (Or.inl (by decide)) ?_ | refine pReq.mk (by assumption) ?_ | refine pReq.mk (isTy_l (by walk_at "sto")) ?_ | refine pReq.mk (by omega) ?_ | refine pReq.mk (sz_lt6 (by walk_at "sz")) ?_ | refine pReq.mk (sz_le6 (by walk_at "sz")) ?_ | refine pReq.mk (by walk_at "sz") ?_) | (show pGet _ _; first | refine pGet.mk rfl ?_ | refine pGet.mk (by walk_at "sto") ?_ | refine pGet.mk (lenD_at (by walk_at "sto")) ?_ | refine pGet.mk (sqD_at (by walk_at "sto")) ?_ | refine pGet.mk (lsD_at (by walk_at "sto")) ?_ | refine pGet.mk (lsR_at (by walk_at "sto")) ?_ | refine pGet.mk (srcD_at (by walk_at "sto")) ?_ | refine pGet.mk (tyD_l (by walk_at "sto")) ?_)); (try (conv => whnf)))))
open OR (eP nextsL Reach DInv DIn meas BInv BIn measB lastOf Wy Chn OIn Ord SLt)
open TB (XSt eG zG eSt XTab eTab rSt rTab bzSt)
open OR (Pr eP Reach Ord PLt)
open TT
theorem bNe_nilG {α : Type} {f : α → PyData} {S : Sto} {x y : D} {a : List α} {k : Bool → Prop} {n : Nat} (h : Vw S x (.list (a.map f))) (sh : ∀ x ∈ a, Shp n (f x)) (hn : n + 1 ≤ 64) (h2 : Vw S y (.list [])) (hk : k (decide (a = []))) : bEqG x y S k := by
  refine ⟨_, _, h, h2, (Shp.lists sh).ok hn, (Shp.lists (n := 0) (f := PyData.int) (xs := []) fun _ _ => .int).ok, ?_⟩
  have e : PyData.eqv (.list (a.map f)) (.list []) = decide (a = []) := by
    cases a with
    | nil => rfl
    | cons _ _ => rfl
  rw [e]; exact hk
theorem num_str {n : Nat} (h : n < 10) : (toString ((n : Nat) : Int) : Str) = ⟨⟨[48 + n]⟩⟩ := by
  have e : ∀ m : Fin 10, (Str.ofString (toString ((m.val : Nat) : Int))) = (⟨⟨[48 + m.val]⟩⟩ : Str) := by decide +kernel
  exact e ⟨n, h⟩
theorem num_text {n : Nat} (h : n < 10) : PySem.intText? ⟨⟨[48 + n]⟩⟩ = some (n : Int) := by
  have e : ∀ m : Fin 10, PySem.intText? (⟨⟨[48 + m.val]⟩⟩ : Str) = some ((m.val : Nat) : Int) := by decide +kernel
  exact e ⟨n, h⟩
def F_number : Fsp := fsp (fun n : Nat => [.str (toString ((n : Nat) : Int))]) (fun n => n < 10) fun n => .int (n : Int)
theorem pu_number : ∀ ds S K KX, lent F_number ds S K KX → ws_number_in { nx := fun _ S1 => K (.z .none) S1, rt := K, ex := fun y _ S1 => KX y S1 } (startE nm_number_in ds) S := by
  refine fsp_ok fun n hn K KX hk => ?_
  try dsimp only at hk
  rw [num_str hn]
  have ht := num_text hn
  have hd : ∀ m : Fin 10, 48 + m.val ∈ (Str.ofString "0123456789").cps.toList := by decide +kernel
  have hd : 48 + n ∈ (Str.ofString "0123456789").cps.toList := hd ⟨n, hn⟩
  have hl : (⟨⟨[48 + n]⟩⟩ : Str).length = 1 := rfl
  walk_at "go"
  refine pFor_each (fun _ env S => ∃ v, env = [some (.z (.str ⟨⟨[48 + n]⟩⟩)), v]) ⟨_, rfl⟩ (fun _ _ _ _ _ => trivial) ?_ ?_
  · rintro i d _ S Q hi ⟨v, rfl⟩ hQ
    have hd2 : d = .z (.str ⟨⟨[48 + n]⟩⟩) := by
      have := List.mem_of_getElem? hi
      simpa using this
    subst hd2
    dsimp only [number_in_b1]
    walk_at "go"
    refine pIf.ff (by rw [decide_eq_true hd]; rfl) ?_
    walk_at "go"
    exact hQ _ _ ⟨_, rfl⟩
  · rintro _ S ⟨v, rfl⟩
    walk_at "go"
    exact hk _ _ .z
def KG : KD.Kd (List Str) where
  o w := .lst (w.map zW)
  d n _ := .r n
  e w := .list (w.map .str)
  r w := lz PyData.str w
  vw _ _ w h := .r h (Vws.map _ _)
  vr _ _ _ w h := .l (ns := []) h (VRs.zs _ _)
  al w L := by rw [al_lz]
def eG2 (g : List Str) : PyData := .list (g.map .str)
theorem vzsG {S : Sto} : ∀ {ps : List (Nat × List Str)}, KD.In KG S ps → Vzs S (ps.map KG.dd) (ps.map fun p => eG2 p.2)
  | [], _ => .nil
  | p :: ps, h => .cons (.r (h p List.mem_cons_self) (Vzs.map _ _)) (vzsG h.tail)
structure PI (S : Sto) (acc : List (List Str)) : Prop where
  h : ∃ qs, S[1]? = some (.lst (qs.map KG.dd)) ∧ KD.In KG S qs ∧ qs.map (·.2) = acc ∧ (qs.map (·.1)).Nodup ∧ ∀ q ∈ qs, q.1 ≠ 1
theorem PI.start : PI ([.lst [], .lst [.r 0]] : Sto) [[]] := ⟨[(0, [])], rfl, fun p hp => by simp at hp; subst hp; rfl, rfl, by simp, fun q hq => by simp at hq; subst hq; simp⟩
theorem PI.len {S : Sto} {acc : List (List Str)} (h : PI S acc) : ∃ ds, S[1]? = some (.lst ds) ∧ ds.length = acc.length := by
  obtain ⟨qs, h1, _, h3, _⟩ := h.h
  exact ⟨_, h1, by rw [← h3, List.length_map, List.length_map]⟩
theorem PI.push {S : Sto} {acc : List (List Str)} (h : PI S acc) : ∃ ds, S[1]? = some (.lst ds) ∧ ds.length = acc.length ∧ PI ((S ++ [Ob.lst []]).set 1 (Ob.lst (ds ++ [D.r S.length]))) (acc ++ [[]]) := by
  obtain ⟨qs, h1, h2, h3, h4, h5⟩ := h.h
  have hl := (List.getElem?_eq_some_iff.mp h1).1
  refine ⟨_, h1, by rw [← h3, List.length_map, List.length_map], ⟨qs ++ [(S.length, [])], ?_, ?_, by rw [List.map_append, h3]; rfl, ?_, fun q hq => ?_⟩⟩
  · rw [List.getElem?_set_self (by rw [List.length_append]; omega), List.map_append]; rfl
  · intro q hq
    rcases List.mem_append.mp hq with hq | hq
    · rw [List.getElem?_set_ne (fun e => h5 q hq e.symm)]; exact sto_app (h2 q hq)
    · simp at hq; subst hq
      rw [List.getElem?_set_ne (by dsimp only; omega)]; exact sto_last
  · rw [List.map_append]
    refine List.nodup_append.mpr ⟨h4, by simp, fun a ha b hb e => ?_⟩
    obtain ⟨p, hp, rfl⟩ := List.mem_map.mp ha
    have := (List.getElem?_eq_some_iff.mp (h2 p hp)).1
    simp at hb
    try omega
  · rcases List.mem_append.mp hq with hq | hq
    · exact h5 q hq
    · simp at hq; subst hq; dsimp only; omega
theorem atD_last' {α : Type} (xs : List α) (x : α) : atD (xs ++ [x]) (-1) = some x := by
  show atD (xs ++ [x]) (Int.negSucc 0) = some x
  rw [atD_neg, if_pos (by simp)]
  simp
theorem PI.word {S : Sto} {acc : List (List Str)} (h : PI S acc) (hn : acc ≠ []) (w : Str) : ∃ ds m, S[1]? = some (.lst ds) ∧ atD ds (-1) = some (.r m) ∧ S[m]? = some (.lst ((acc.getLastD []).map zW)) ∧ PI (S.set m (.lst ((acc.getLastD []).map zW ++ [zW w]))) (acc.dropLast ++ [acc.getLastD [] ++ [w]]) := by
  obtain ⟨qs, h1, h2, h3, h4, h5⟩ := h.h
  have hq : qs ≠ [] := fun e => hn (by rw [← h3, e]; rfl)
  obtain ⟨qs', ⟨m, g⟩, rfl⟩ : ∃ qs' q, qs = qs' ++ [q] := ⟨qs.dropLast, qs.getLast hq, (List.dropLast_concat_getLast hq).symm⟩
  rw [List.map_append] at h3
  have hl : acc.getLastD [] = g := by rw [← h3]; simp [List.getLastD_eq_getLast?]
  have hd : acc.dropLast = qs'.map (·.2) := by rw [← h3]; simp
  have hm := h2 (m, g) (by simp)
  have hml := (List.getElem?_eq_some_iff.mp hm).1
  have hm1 := h5 (m, g) (by simp)
  dsimp only at hm hml hm1
  have hnd := h4
  rw [List.map_append] at hnd
  have hne : ∀ q ∈ qs', q.1 ≠ m := fun q hq e => (List.nodup_append.mp hnd).2.2 q.1 (List.mem_map_of_mem hq) m (by simp) e
  refine ⟨_, m, h1, ?_, by rw [hl]; exact hm, ⟨qs' ++ [(m, g ++ [w])], ?_, fun q hq => ?_, ?_, ?_, fun q hq => ?_⟩⟩
  · rw [List.map_append]; exact atD_last' _ _
  · rw [List.getElem?_set_ne hm1, h1, List.map_append, List.map_append]; rfl
  · rcases List.mem_append.mp hq with hq | hq
    · rw [List.getElem?_set_ne (fun e => hne q hq e.symm)]; exact h2 q (List.mem_append_left _ hq)
    · simp at hq; subst hq
      rw [List.getElem?_set_self hml, hl]
      show _ = some (Ob.lst ((g ++ [w]).map zW))
      rw [List.map_append]; rfl
  · rw [List.map_append, hd, hl]; rfl
  · rw [List.map_append] at h4 ⊢; exact h4
  · rcases List.mem_append.mp hq with hq | hq
    · exact h5 q (List.mem_append_left _ hq)
    · simp at hq; subst hq; exact hm1
theorem parts_len {α : Type} [DecidableEq α] {s : α} : ∀ (ws : List α) (acc : List (List α)), (ws.foldl (pstep s) acc).length ≤ acc.length + ws.length + 1 ∧ ((∀ g ∈ acc, g.length ≤ 100000) → True) := fun ws => by
  induction ws with
  | nil => intro acc; exact ⟨by rw [List.foldl_nil]; omega, fun _ => trivial⟩
  | cons w ws ih =>
    intro acc
    refine ⟨?_, fun _ => trivial⟩
    rw [List.foldl_cons]
    have := (ih (pstep s acc w)).1
    have e : (pstep s acc w).length ≤ acc.length + 1 := by
      unfold pstep
      split
      · simp
      · simp
    rw [List.length_cons]; omega
theorem mem_sum : ∀ {l : List Nat} {x : Nat}, x ∈ l → x ≤ l.sum
  | [], _, h => by cases h
  | y :: l, x, h => by
    rw [List.sum_cons]
    rcases List.mem_cons.mp h with rfl | h
    · omega
    · have := mem_sum h; omega
theorem parts_sum {α : Type} [DecidableEq α] {s : α} : ∀ (ws : List α) (acc : List (List α)), ∀ g ∈ ws.foldl (pstep s) acc, g.length ≤ (acc.map List.length).sum + ws.length := fun ws => by
  induction ws with
  | nil =>
    intro acc g hg
    rw [List.foldl_nil] at hg
    have := mem_sum (List.mem_map_of_mem (f := List.length) hg)
    omega
  | cons w ws ih =>
    intro acc g hg
    rw [List.foldl_cons] at hg
    have h := ih (pstep s acc w) g hg
    have e : ((pstep s acc w).map List.length).sum ≤ (acc.map List.length).sum + 1 := by
      unfold pstep
      split
      · simp
      · cases ha : acc.getLast? with
        | none =>
          have : acc = [] := List.getLast?_eq_none_iff.mp ha
          subst this; simp
        | some x =>
          have e1 : acc = acc.dropLast ++ [x] := by
            obtain ⟨ys, rfl⟩ := List.getLast?_eq_some_iff.mp ha
            simp
          have e2 : acc.getLastD [] = x := by rw [List.getLastD_eq_getLast?, ha]; rfl
          rw [e2]
          have : (acc.map List.length).sum = (acc.dropLast.map List.length).sum + x.length := by
            conv => lhs; rw [e1]
            simp
          rw [List.map_append, List.sum_append]
          show _ + ((x ++ [w]).length + 0) ≤ _
          rw [List.length_append]
          simp only [List.length_cons, List.length_nil]
          omega
    rw [List.length_cons]; omega
def F_parted : Fsp := fsp (fun a : List Str × Str => [.list (a.1.map .str), .str a.2]) (fun a => a.1.length ≤ 100000) fun a => .list ((parts a.2 a.1).map eG2)
theorem pu_parted : ∀ ds S K KX, lent F_parted ds S K KX → ws_parted { nx := fun _ S1 => K (.z .none) S1, rt := K, ex := fun y _ S1 => KX y S1 } (startE nm_parted ds) S := by
  refine fsp_ok fun ⟨ws, s⟩ hl K KX hk => ?_
  dsimp only at hl hk
  walk_at "go"
  refine pFor_xs ws zW (by show (ws.map PyData.str).map bz = _; rw [List.map_map]; rfl) (fun i env S => ∃ v, env = [some (.b (.list (ws.map .str))), some (.z (.str s)), some (.r 1), v] ∧ PI S (parts s (ws.take i))) ⟨_, rfl, PI.start⟩ (fun _ _ _ _ _ => trivial) ?_ ?_
  · rintro i w _ S Q hw ⟨v, rfl, hP⟩ hQ
    have hi := (List.getElem?_eq_some_iff.mp hw).1
    have et : ws.take (i + 1) = ws.take i ++ [w] := by rw [List.take_add_one, hw]; rfl
    have hne := parts_ne (s := s) (ws.take i)
    have hpl := (parts_len (s := s) (ws.take i) [[]]).1
    have hps := parts_sum (s := s) (ws.take i) [[]]
    have hgl : ((parts s (ws.take i)).getLastD []).length ≤ 200000 := by
      cases e : (parts s (ws.take i)).getLast? with
      | none => rw [List.getLastD_eq_getLast?, e]; simp
      | some x =>
        rw [List.getLastD_eq_getLast?, e]
        have := hps x (List.mem_of_getLast? e)
        simp at this
        show x.length ≤ _
        omega
    have hpl : (parts s (ws.take i)).length ≤ 200000 := by
      have : (ws.take i).length ≤ ws.length := by rw [List.length_take]; omega
      have hq : (parts s (ws.take i)).length ≤ ([[]] : List (List Str)).length + (ws.take i).length + 1 := hpl
      simp only [List.length_cons, List.length_nil] at hq
      omega
    dsimp only [parted_b1]
    walk_at "go"
    refine pIf.mk (fun hc => ?_) (fun hc => ?_)
    · have hc := of_decide_eq_true hc
      subst hc
      obtain ⟨ds, h1, hdl, hP2⟩ := hP.push
      have h1' : (S ++ [Ob.lst []])[1]? = some (.lst ds) := sto_app h1
      walk_at "go"
      refine hQ _ _ ⟨_, rfl, ?_⟩
      rw [et, parts_snoc]
      unfold pstep
      rw [if_pos rfl]
      exact hP2
    · have hc := of_decide_eq_false hc
      obtain ⟨ds, m, h1, h2, h3, hP2⟩ := hP.word hne w
      have h3l : (((parts s (ws.take i)).getLastD []).map zW).length ≤ 200000 := by rw [List.length_map]; exact hgl
      walk_at "go"
      refine hQ _ _ ⟨_, rfl, ?_⟩
      rw [et, parts_snoc]
      unfold pstep
      rw [if_neg hc]
      exact hP2
  · rintro _ S ⟨v, rfl, hP⟩
    rw [List.take_of_length_le (Nat.le_refl _)] at hP
    obtain ⟨qs, h1, h2, h3, -⟩ := hP.h
    walk_at "go"
    refine hk _ _ (.r h1 ?_)
    have := vzsG h2
    rw [← h3, List.map_map]
    exact this
end K75

set_option Elab.async false
set_option linter.all false
set_option maxRecDepth 100000
set_option maxHeartbeats 1000000
namespace K75
open PySem L2 PL NE
open ND (cutL_map cutL_len cutL_mem bz_ints LwN isNm alpha alpha_eq alpha_at getA ixD_zA ixD_bA app_list one_len getI getI_at getI_mem)
local macro_rules | `(tactic| walk_at "st1") => `(tactic| first | assumption | exact sto_last | exact sto_r0 | exact sto_r1 | exact sto_r2 | exact sto_r3 | exact sto_r4)
local macro_rules | `(tactic| walk_at "sto") => `(tactic| first | walk_at "st1" | exact sto_app (by walk_at "st1") | exact sto_app (sto_app (by walk_at "st1")))
local macro_rules | `(tactic| walk_at "sz") => `(tactic| ((try simp only [List.length_map, List.length_range, List.length_append, List.length_cons, List.length_nil]); omega))
local macro_rules | `(tactic| walk_at "go") => `(tactic| ((try (conv => whnf)); repeat ((first | (show pIf _ _ _; first | refine pIf.tt rfl ?_ | refine pIf.ff rfl ?_) | (show pReq _ _; first | refine pReq.mk rfl ?_ | refine pReq.mk (sz_le rfl) ?_ | refine pReq.mk (sz_lt rfl) ?_ | refine pReq.mk (by decide) ?_ | refine pReq.mk (Or.inr (by decide)) ?_ | refine pReq.mk (Or.inl (by decide)) ?_ | refine pReq.mk (by assumption) ?_ | refine pReq.mk (isTy_l (by walk_at "sto")) ?_ | refine pReq.mk (by omega) ?_ | refine pReq.mk (sz_lt6 (by walk_at "sz")) ?_ | refine pReq.mk (sz_le6 (by walk_at "sz")) ?_ | refine pReq.mk (by walk_at "sz") ?_) | (show pGet _ _; first | refine pGet.mk rfl ?_ | refine pGet.mk (by walk_at "sto") ?_ | refine pGet.mk (lenD_at (by walk_at "sto")) ?_ | refine pGet.mk (sqD_at (by walk_at "sto")) ?_ | refine pGet.mk (lsD_at (by walk_at "sto")) ?_ | refine pGet.mk (lsR_at (by walk_at "sto")) ?_ | refine pGet.mk (srcD_at (by walk_at "sto")) ?_ | refine pGet.mk (tyD_l (by walk_at "sto")) ?_)); (try (conv => whnf)))))
open OR (eP nextsL Reach DInv DIn meas BInv BIn measB lastOf Wy Chn OIn Ord SLt)
open TB (XSt eG zG eSt XTab eTab rSt rTab bzSt)
open OR (Pr eP Reach Ord PLt)
open TT
structure WdOk (x : Str) : Prop where
  b : 32 ∉ x.cps.toList
  s : x ≠ Str.ofString "/" ∧ x ≠ Str.ofString ":" ∧ x ≠ Str.ofString "|" ∧ x ≠ Str.ofString ","
  k : PyData.strOk x = true
  l : x.length ≤ 10
theorem WdOk.of {x : Str} {cs : List Nat} (e : x.cps.toList = cs) (h : ∀ c ∈ cs, 48 ≤ c ∧ c < 58 ∨ 97 ≤ c ∧ c < 123) (hl : cs.length ≤ 10) (hn : cs ≠ []) : WdOk x := by
  have hx : ∀ (y : Str) (c : Nat), y.cps.toList = [c] → ¬ (48 ≤ c ∧ c < 58 ∨ 97 ≤ c ∧ c < 123) → x ≠ y := fun y c hy hc z => by
    subst z
    rw [hy] at e
    exact hc (h c (by rw [← e]; simp))
  refine ⟨fun z => ?_, ⟨hx _ 47 (by decide +kernel) (by omega), hx _ 58 (by decide +kernel) (by omega), hx _ 124 (by decide +kernel) (by omega), hx _ 44 (by decide +kernel) (by omega)⟩, ?_, ?_⟩
  · rw [e] at z
    have := h 32 z
    omega
  · unfold PyData.strOk
    rw [Array.all_eq_true']
    intro c hc
    have := h c (by rw [← e]; exact Array.mem_toList_iff.mpr hc)
    simp; omega
  · show x.cps.size ≤ 10
    rw [← Array.length_toList, e]; exact hl
theorem name_wd {x : Str} (h : isNameB x = true) : WdOk x := by
  unfold isNameB at h
  simp only [Bool.and_eq_true, decide_eq_true_eq, List.all_eq_true] at h
  have ha : ∀ c ∈ alpha, 97 ≤ c ∧ c < 123 := by decide
  refine WdOk.of (x := x) rfl (fun c hc => .inr (ha c (h.2.2 c hc))) ?_ ?_
  · rw [Array.length_toList]; show x.length ≤ 10; omega
  · intro z
    have : x.length = 0 := by show x.cps.size = 0; rw [← Array.length_toList, z]; rfl
    omega
theorem num_wd {n : Nat} (h : n < 10) : WdOk (toString ((n : Nat) : Int) : Str) := by
  rw [num_str h]
  exact WdOk.of (cs := [48 + n]) rfl (fun c hc => by simp at hc; subst hc; omega) (by simp) (by simp)
theorem wPr_ne (p : Pr) : wPr p ≠ [] := by unfold wPr; simp
theorem sum3 : ∀ rows : List Pr, ((rows.map wPr).map fun g => g.length + 1).sum = 3 * rows.length
  | [] => rfl
  | p :: rows => by rw [List.map_cons, List.map_cons, List.sum_cons, sum3 rows, List.length_cons]; show 2 + 1 + _ = _; omega
def F_twos : Fsp := fsp (fun rows : List Pr => [.list ((inter (Str.ofString ",") (rows.map wPr)).map .str)]) (fun rows => rows.length ≤ 1000 ∧ ∀ p ∈ rows, WdOk p.1 ∧ WdOk p.2) fun rows => .list (rows.map eP)
theorem pu_twos : ∀ ds S K KX, lent F_twos ds S K KX → ws_twos (frz F_parted) { nx := fun _ S1 => K (.z .none) S1, rt := K, ex := fun y _ S1 => KX y S1 } (startE nm_twos ds) S := by
  refine fsp_ok fun rows ⟨hl, hw⟩ K KX hk => ?_
  have hkm : PyData.strOk (Str.ofString ",") = true := by decide +kernel
  have hsh : ∀ x ∈ inter (Str.ofString ",") (rows.map wPr), Shp 0 (PyData.str x) := fun x hx => by
    rcases inter_mem hx with rfl | ⟨g, hg, hx⟩
    · exact .str hkm
    · obtain ⟨p, hp, rfl⟩ := List.mem_map.mp hg
      simp only [wPr, List.mem_cons, List.not_mem_nil, or_false] at hx
      rcases hx with rfl | rfl
      · exact .str (hw p hp).1.k
      · exact .str (hw p hp).2.k
  have hil := inter_len (s := Str.ofString ",") (rows.map wPr)
  have hsum := sum3 rows
  walk_at "go"
  refine bNe_nilG (a := inter (Str.ofString ",") (rows.map wPr)) (f := PyData.str) .b hsh (by decide) (.r sto_last .nil) ?_
  have hn : inter (Str.ofString ",") (rows.map wPr) = [] ↔ rows = [] := by
    rw [inter_nil (fun g hg => by obtain ⟨p, _, rfl⟩ := List.mem_map.mp hg; exact wPr_ne p)]
    exact List.map_eq_nil_iff
  walk_at "go"
  refine pIf.mk (fun hc => ?_) (fun hc => ?_)
  · have hc := hn.mp (of_decide_eq_true hc)
    subst hc
    walk_at "go"
    exact hk _ _ (.r sto_last .nil)
  · have hc : rows ≠ [] := fun z => of_decide_eq_false hc (hn.mpr z)
    walk_at "go"
    refine fsp_call (inter (Str.ofString ",") (rows.map wPr), Str.ofString ",") (.cons .b (.cons .z .nil)) (by dsimp only; omega) ?_
    dsimp only
    rw [parts_inter (fun g hg => by
      obtain ⟨p, hp, rfl⟩ := List.mem_map.mp hg
      simp only [wPr, List.mem_cons, List.not_mem_nil, or_false, not_or]
      exact ⟨fun z => (hw p hp).1.s.2.2.2 z.symm, fun z => (hw p hp).2.s.2.2.2 z.symm⟩) (by simpa using hc)]
    walk_at "go"
    refine pFor_xs rows (fun p => .z (eG2 (wPr p))) (by show ((rows.map wPr).map eG2).map D.z = _; rw [List.map_map, List.map_map]; rfl) (fun i env S => ∃ v, env = [some (.b (.list ((inter (Str.ofString ",") (rows.map wPr)).map .str))), some (.r 1), v] ∧ S[1]? = some (.lst ((rows.take i).map zP))) ⟨_, rfl, rfl⟩ (fun _ _ _ _ _ => trivial) ?_ ?_
    · rintro i p _ S Q hp ⟨v, rfl, h1⟩ hQ
      have hlt := (List.getElem?_eq_some_iff.mp h1).1
      have hl2 : (rows.take i).length ≤ 1000 := by rw [List.length_take]; omega
      dsimp only [twos_b1]
      walk_at "go"
      refine hQ _ _ ⟨_, rfl, ?_⟩
      rw [List.getElem?_set_self hlt, List.take_add_one, hp, List.map_append]; rfl
    · rintro _ S ⟨v, rfl, h1⟩
      rw [List.take_of_length_le (Nat.le_refl _)] at h1
      walk_at "go"
      exact hk _ _ (.r h1 (Vzs.map _ _))
structure PwPre (a : D × List Str) (es : List D) (S : Sto) : Prop where
  ds : es = [a.1]
  v : a.1 = .z (.list (a.2.map .str)) ∨ ∃ n, a.1 = .r n ∧ S[n]? = some (.lst (a.2.map zW))
  ok : ∀ w ∈ a.2, isNameB w = true
def F_plain : Spc := fsm PwPre fun a d S S' => d = a.1 ∧ S' = S
theorem one_name {w : Str} (h : isNameB w = true) (hl : w.length = 1) : ∃ c, w = ⟨⟨[c]⟩⟩ ∧ 97 ≤ c ∧ c < 123 := by
  obtain ⟨⟨cs⟩⟩ := w
  have hl : cs.length = 1 := hl
  match cs, hl with
  | [c], _ =>
    refine ⟨c, rfl, ?_⟩
    unfold isNameB at h
    simp only [Bool.and_eq_true, decide_eq_true_eq, List.all_eq_true] at h
    have ha : ∀ c ∈ alpha, 97 ≤ c ∧ c < 123 := by decide
    exact ha c (h.2.2 c (by simp))
theorem pu_plain : ∀ ds S K KX, F_plain ds S K KX → ws_plain_words { nx := fun _ S1 => K (.z .none) S1, rt := K, ex := fun y _ S1 => KX y S1 } (startE nm_plain_words ds) S := by
  refine fsm_ok fun ⟨d, ws⟩ es S ⟨he, hv, hok⟩ K KX hk => ?_
  dsimp only at he hv hok hk
  subst he
  have body : ∀ (k : KS) (w : Str) (v : D) (S1 : Sto) (Q : PL.Env → Sto → Prop), isNameB w = true → k.nx = Q → Q [some v, some (zW w)] S1 → plain_words_b1 k [some v, some (zW w)] S1 := by
    intro k w v S1 Q hw hkn hQ
    have hlw := (name_wd hw).l
    dsimp only [plain_words_b1]
    walk_at "go"
    refine pIf.mk (fun hc => ?_) (fun hc => ?_)
    · have hc : ((w.length : Nat) : Int) = 1 := of_decide_eq_true hc
      obtain ⟨c, rfl, h97⟩ := one_name hw (by omega)
      have hin : c ∉ (Str.ofString "/:|,").cps.toList := by
        have e : (Str.ofString "/:|,").cps.toList = [47, 58, 124, 44] := by decide +kernel
        rw [e]
        intro z
        simp only [List.mem_cons, List.not_mem_nil, or_false] at z
        omega
      walk_at "go"
      refine pIf.ff (decide_eq_false hin) ?_
      walk_at "go"
      show k.nx _ _
      rw [hkn]; exact hQ
    · walk_at "go"
      show k.nx _ _
      rw [hkn]; exact hQ
  generalize hB : plain_words_b1 = B at body
  unfold ws_plain_words
  rw [hB]
  rcases hv with rfl | ⟨n, rfl, hn⟩
  · walk_at "go"
    refine pFor_xs ws zW (by show (ws.map PyData.str).map D.z = _; rw [List.map_map]; rfl) (fun i env S' => ∃ v, env = [some (.z (.list (ws.map .str))), v] ∧ S' = S) ⟨_, rfl, rfl⟩ (fun _ _ _ _ _ => trivial) ?_ ?_
    · rintro i w _ _ Q hw ⟨v, rfl, rfl⟩ hQ
      exact body _ w _ _ Q (hok w (List.mem_of_getElem? hw)) rfl (hQ _ _ ⟨_, rfl, rfl⟩)
    · rintro _ _ ⟨v, rfl, rfl⟩
      walk_at "go"
      exact hk _ _ ⟨rfl, rfl⟩
  · walk_at "go"
    refine pFor_xs ws zW rfl (fun i env S' => ∃ v, env = [some (.r n), v] ∧ S' = S) ⟨_, rfl, rfl⟩ (fun _ _ _ _ ⟨_, _, e⟩ => by rw [e]; exact hn) ?_ ?_
    · rintro i w _ _ Q hw ⟨v, rfl, rfl⟩ hQ
      exact body _ w _ _ Q (hok w (List.mem_of_getElem? hw)) rfl (hQ _ _ ⟨_, rfl, rfl⟩)
    · rintro _ _ ⟨v, rfl, rfl⟩
      walk_at "go"
      exact hk _ _ ⟨rfl, rfl⟩
end K75

set_option Elab.async false
set_option linter.all false
set_option maxRecDepth 100000
set_option maxHeartbeats 1000000
namespace K75
open PySem L2 PL NE
open ND (cutL_map cutL_len cutL_mem bz_ints LwN isNm alpha alpha_eq alpha_at getA ixD_zA ixD_bA app_list one_len getI getI_at getI_mem)
local macro_rules | `(tactic| walk_at "st1") => `(tactic| first | assumption | exact sto_last | exact sto_r0 | exact sto_r1 | exact sto_r2 | exact sto_r3 | exact sto_r4)
local macro_rules | `(tactic| walk_at "sto") => `(tactic| first | walk_at "st1" | exact sto_app (by walk_at "st1") | exact sto_app (sto_app (by walk_at "st1")))
local macro_rules | `(tactic| walk_at "sz") => `(tactic| ((try simp only [List.length_map, List.length_range, List.length_append, List.length_cons, List.length_nil]); omega))
local macro_rules | `(tactic| walk_at "go") => `(tactic| ((try (conv => whnf)); repeat ((first | (show pIf _ _ _; first | refine pIf.tt rfl ?_ | refine pIf.ff rfl ?_) | (show pReq _ _; first | refine pReq.mk rfl ?_ | refine pReq.mk (sz_le rfl) ?_ | refine pReq.mk (sz_lt rfl) ?_ | refine pReq.mk (by decide) ?_ | refine pReq.mk (Or.inr (by decide)) ?_ | refine pReq.mk (Or.inl (by decide)) ?_ | refine pReq.mk (by assumption) ?_ | refine pReq.mk (isTy_l (by walk_at "sto")) ?_ | refine pReq.mk (by omega) ?_ | refine pReq.mk (sz_lt6 (by walk_at "sz")) ?_ | refine pReq.mk (sz_le6 (by walk_at "sz")) ?_ | refine pReq.mk (by walk_at "sz") ?_) | (show pGet _ _; first | refine pGet.mk rfl ?_ | refine pGet.mk (by walk_at "sto") ?_ | refine pGet.mk (lenD_at (by walk_at "sto")) ?_ | refine pGet.mk (sqD_at (by walk_at "sto")) ?_ | refine pGet.mk (lsD_at (by walk_at "sto")) ?_ | refine pGet.mk (lsR_at (by walk_at "sto")) ?_ | refine pGet.mk (srcD_at (by walk_at "sto")) ?_ | refine pGet.mk (tyD_l (by walk_at "sto")) ?_)); (try (conv => whnf)))))
open OR (eP nextsL Reach DInv DIn meas BInv BIn measB lastOf Wy Chn OIn Ord SLt)
open TB (XSt eG zG eSt XTab eTab rSt rTab bzSt)
open OR (Pr eP Reach Ord PLt)
open TT
structure SPar (s : XSt) : Prop where
  g : ∀ g ∈ s.1, isNameB g.1 = true ∧ 0 ≤ g.2 ∧ g.2 < 10
  e : ∀ w ∈ s.2, isNameB w = true
  l : s.1.length ≤ 8 ∧ s.2.length ≤ 8
def gPr (g : Str × Int) : Pr := (g.1, toString g.2)
theorem rowsG (gs : List (Str × Int)) : gs.map wRow = (gs.map gPr).map wPr := by rw [List.map_map]; rfl
theorem SPar.wd {s : XSt} (h : SPar s) : ∀ p ∈ s.1.map gPr, WdOk p.1 ∧ WdOk p.2 := fun p hp => by
  obtain ⟨g, hg, rfl⟩ := List.mem_map.mp hp
  obtain ⟨h1, h2, h3⟩ := h.g g hg
  refine ⟨name_wd h1, ?_⟩
  obtain ⟨k, hk⟩ : ∃ k : Nat, g.2 = (k : Int) := ⟨g.2.toNat, by omega⟩
  show WdOk (toString g.2 : Str)
  rw [hk]
  exact num_wd (by omega)
theorem rows_wd {rows : List Pr} (h : ∀ p ∈ rows, WdOk p.1 ∧ WdOk p.2) {x : Str} (hx : x ∈ inter (Str.ofString ",") (rows.map wPr)) : x = Str.ofString "," ∨ WdOk x := by
  rcases inter_mem hx with rfl | ⟨g, hg, hx⟩
  · exact .inl rfl
  · obtain ⟨p, hp, rfl⟩ := List.mem_map.mp hg
    simp only [wPr, List.mem_cons, List.not_mem_nil, or_false] at hx
    rcases hx with rfl | rfl
    · exact .inr (h p hp).1
    · exact .inr (h p hp).2
theorem rows_len (rows : List Pr) : (inter (Str.ofString ",") (rows.map wPr)).length ≤ 3 * rows.length := by
  have := inter_len (s := Str.ofString ",") (rows.map wPr)
  rw [sum3] at this; exact this
theorem wSt_inter (s : XSt) : wSt s = inter (Str.ofString ":") [inter (Str.ofString ",") ((s.1.map gPr).map wPr), s.2] := by rw [← rowsG]; rfl
theorem wSt_len {s : XSt} (h : SPar s) : (wSt s).length ≤ 33 := by
  have := rows_len (s.1.map gPr)
  rw [List.length_map] at this
  unfold wSt
  rw [rowsG, List.length_append, List.length_cons]
  have := h.l
  omega
theorem wSt_mem {s : XSt} (h : SPar s) {x : Str} (hx : x ∈ wSt s) : x = Str.ofString "," ∨ x = Str.ofString ":" ∨ WdOk x := by
  unfold wSt at hx
  rw [rowsG] at hx
  rcases List.mem_append.mp hx with hx | hx
  · rcases rows_wd h.wd hx with h | h
    · exact .inl h
    · exact .inr (.inr h)
  · rcases List.mem_cons.mp hx with hx | hx
    · exact .inr (.inl hx)
    · exact .inr (.inr (name_wd (h.e x hx)))
theorem com_col : Str.ofString ":" ≠ Str.ofString "," := by decide +kernel
def F_state_in : Fsp := fsp (fun s : XSt => [.list ((wSt s).map .str)]) SPar eSt
theorem pu_state_in : ∀ ds S K KX, lent F_state_in ds S K KX → ws_state_in (frz F_parted) (frz F_twos) (frz F_number) F_plain { nx := fun _ S1 => K (.z .none) S1, rt := K, ex := fun y _ S1 => KX y S1 } (startE nm_state_in ds) S := by
  refine fsp_ok fun s hs K KX hk => ?_
  have hl := wSt_len hs
  have hl2 := hs.l
  walk_at "go"
  refine fsp_call (wSt s, Str.ofString ":") (.cons .b (.cons .z .nil)) (by dsimp only; omega) ?_
  dsimp only
  rw [wSt_inter, parts_inter (fun g hg => by
    simp only [List.mem_cons, List.not_mem_nil, or_false] at hg
    rcases hg with rfl | rfl
    · intro z
      rcases rows_wd hs.wd z with z | z
      · exact com_col z
      · exact z.s.2.1 rfl
    · exact fun z => (name_wd (hs.e _ z)).s.2.1 rfl) (by simp)]
  walk_at "go"
  refine fsp_call (s.1.map gPr) (.cons .z .nil) ⟨by rw [List.length_map]; omega, hs.wd⟩ ?_
  walk_at "go"
  refine pLc_allE s.1 (fun g => .z (eP (gPr g))) zG (by show ((s.1.map gPr).map eP).map D.z = _; rw [List.map_map, List.map_map]; rfl) (by omega) (fun _ => trivial) (fun g hg => ⟨_, rfl, fun S1 K1 _ h => ?_⟩) ?_
  · obtain ⟨h1, h2, h3⟩ := hs.g g hg
    obtain ⟨k, hk⟩ : ∃ k : Nat, g.2 = (k : Int) := ⟨g.2.toNat, by omega⟩
    have eg : zG g = .z (.tuple [.str g.1, .int (k : Int)]) := by show D.z (eG g) = _; rw [← hk]
    have ep : (toString g.2 : Str) = toString ((k : Nat) : Int) := by rw [hk]
    rw [eg] at h
    walk_at "go"
    refine fsp_call k (.cons (by show Vw _ (.z (.str (toString g.2))) _; rw [ep]; exact .z) .nil) (by omega) ?_
    walk_at "go"
    exact h
  · walk_at "go"
    refine fsm_call (.z (.list (s.2.map .str)), s.2) ⟨rfl, .inl rfl, hs.e⟩ ?_
    rintro _ _ ⟨rfl, rfl⟩
    dsimp only
    walk_at "go"
    exact hk _ _ (.t (.cons (.r sto_last (Vzs.map _ _)) (.cons .z .nil)))
theorem tab_wd {a : List XSt × Int × List Pr} (h : TabOk a) : (∀ s ∈ a.1, SPar s) ∧ (∀ p ∈ a.2.2, isNameB p.1 = true ∧ isNameB p.2 = true) ∧ (∃ k : Nat, a.2.1 = (k : Int) ∧ k < 10) ∧ a.1 ≠ [] := by
  have hsm : a.1.length ≤ 8 := h.sm.1
  refine ⟨fun s hs => ⟨fun g hg => ⟨h.nm g.1 (List.mem_append_left _ (List.mem_flatMap.mpr ⟨s, hs, List.mem_append_left _ (List.mem_map_of_mem hg)⟩)), ?_⟩, fun w hw => h.nm w (List.mem_append_left _ (List.mem_flatMap.mpr ⟨s, hs, List.mem_append_right _ hw⟩)), h.sm.2.2 s hs⟩, fun p hp => ?_, ?_, ?_⟩
  · have := h.nu g.2 (List.mem_cons_of_mem _ (List.mem_flatMap.mpr ⟨s, hs, List.mem_map_of_mem hg⟩))
    omega
  · have h1 : ∀ l ∈ [p.1, p.2], l ∈ labsP a.2.2 := fun l hl => List.mem_flatMap.mpr ⟨p, hp, hl⟩
    exact ⟨h.nm _ (List.mem_append_right _ (h1 p.1 (by simp))), h.nm _ (List.mem_append_right _ (h1 p.2 (by simp)))⟩
  · have := h.nu a.2.1 (by simp)
    exact ⟨a.2.1.toNat, by omega, by omega⟩
  · intro z
    have := h.nu a.2.1 (by simp)
    rw [z] at this
    simp at this; omega
theorem pr_wd {a : List XSt × Int × List Pr} (h : TabOk a) : ∀ p ∈ a.2.2, WdOk p.1 ∧ WdOk p.2 := fun p hp => ⟨name_wd ((tab_wd h).2.1 p hp).1, name_wd ((tab_wd h).2.1 p hp).2⟩
abbrev cBar : Str := Str.ofString "|"
abbrev cSl : Str := Str.ofString "/"
theorem sl_ne : cSl ≠ Str.ofString "," ∧ cSl ≠ Str.ofString ":" ∧ cBar ≠ Str.ofString "," ∧ cBar ≠ Str.ofString ":" ∧ cBar ≠ cSl := by decide +kernel
theorem wTb_inter (a : List XSt × Int × List Pr) : wTb a.1 a.2.1 a.2.2 = inter cBar [inter cSl (a.1.map wSt), [toString a.2.1], inter (Str.ofString ",") (a.2.2.map wPr)] := by
  show inter cSl (a.1.map wSt) ++ [cBar, (toString a.2.1 : Str), cBar] ++ inter (Str.ofString ",") (a.2.2.map wPr) = inter cSl (a.1.map wSt) ++ cBar :: ([(toString a.2.1 : Str)] ++ cBar :: inter (Str.ofString ",") (a.2.2.map wPr))
  simp
theorem sts_mem {ss : List XSt} (h : ∀ s ∈ ss, SPar s) {x : Str} (hx : x ∈ inter cSl (ss.map wSt)) : x = cSl ∨ x = Str.ofString "," ∨ x = Str.ofString ":" ∨ WdOk x := by
  rcases inter_mem hx with rfl | ⟨g, hg, hx⟩
  · exact .inl rfl
  · obtain ⟨s, hs, rfl⟩ := List.mem_map.mp hg
    exact .inr (wSt_mem (h s hs) hx)
theorem sts_len : ∀ {ss : List XSt}, (∀ s ∈ ss, SPar s) → ((ss.map wSt).map fun g => g.length + 1).sum ≤ 34 * ss.length
  | [], _ => by simp
  | s :: ss, h => by
    rw [List.map_cons, List.map_cons, List.sum_cons, List.length_cons]
    have := sts_len (ss := ss) fun x hx => h x (List.mem_cons_of_mem _ hx)
    have := wSt_len (h s (by simp))
    omega
theorem wTb_mem {a : List XSt × Int × List Pr} (h : TabOk a) {x : Str} (hx : x ∈ wTb a.1 a.2.1 a.2.2) : 32 ∉ x.cps.toList ∧ x.length ≤ 10 := by
  have hs1 : ∀ y : Str, y = cSl ∨ y = cBar ∨ y = Str.ofString "," ∨ y = Str.ofString ":" → 32 ∉ y.cps.toList ∧ y.length ≤ 10 := fun y hy => by
    rcases hy with rfl | rfl | rfl | rfl <;> decide +kernel
  obtain ⟨h1, h2, ⟨k, hk, hk10⟩, h4⟩ := tab_wd h
  unfold wTb at hx
  rcases List.mem_append.mp hx with hx | hx
  · rcases List.mem_append.mp hx with hx | hx
    · rcases sts_mem h1 hx with e | e | e | e
      · exact hs1 x (.inl e)
      · exact hs1 x (.inr (.inr (.inl e)))
      · exact hs1 x (.inr (.inr (.inr e)))
      · exact ⟨e.b, e.l⟩
    · simp only [List.mem_cons, List.not_mem_nil, or_false] at hx
      rcases hx with e | e | e
      · exact hs1 x (.inr (.inl e))
      · rw [hk] at e
        have := num_wd hk10
        rw [e]; exact ⟨this.b, this.l⟩
      · exact hs1 x (.inr (.inl e))
  · rcases rows_wd (pr_wd h) hx with e | e
    · exact hs1 x (.inr (.inr (.inl e)))
    · exact ⟨e.b, e.l⟩
theorem wTb_len {a : List XSt × Int × List Pr} (h : TabOk a) : (wTb a.1 a.2.1 a.2.2).length ≤ 500 := by
  have h1 := rows_len a.2.2
  have h2 := inter_len (s := cSl) (a.1.map wSt)
  have h3 := sts_len (tab_wd h).1
  have h4 := h.sm.1
  have h5 := h.sm.2.1
  dsimp only at h4 h5
  unfold wTb
  rw [List.length_append, List.length_append]
  show (inter cSl (a.1.map wSt)).length + 3 + _ ≤ 500
  omega
def txt (ws : List Str) : Str := Txt.join (Str.ofString " ") ws
theorem txt_len {ws : List Str} (h : ∀ x ∈ ws, x.length ≤ 10) : (txt ws).length ≤ 11 * ws.length := by
  have e := PySem.size_glued (Str.ofString " ") ws
  have hb : (Str.ofString " ").length = 1 := by decide +kernel
  have hs : ∀ ws : List Str, (∀ x ∈ ws, x.length ≤ 10) → (ws.map (·.length)).sum ≤ 10 * ws.length := by
    intro ws
    induction ws with
    | nil => intro _; simp
    | cons w ws ih =>
      intro h
      rw [List.map_cons, List.sum_cons, List.length_cons]
      have := ih fun x hx => h x (List.mem_cons_of_mem _ hx)
      have := h w (by simp)
      omega
  have := hs ws h
  show (Txt.join (Str.ofString " ") ws).length ≤ _
  have e2 : (Txt.join (Str.ofString " ") ws).length = (ws.map (·.length)).sum + (ws.length - 1) * (Str.ofString " ").length := e
  rw [e2, hb]
  omega
theorem split_txt {ws : List Str} (hn : ws ≠ []) (h : ∀ x ∈ ws, 32 ∉ x.cps.toList) : Txt.split (txt ws) (Str.ofString " ") = ws := TL.split_join (s := 32) (S := []) (by decide +kernel) (by decide +kernel) hn h
def F_read : Fsr := fsrq (fun a : List XSt × Int × List Pr => [.str (txt (wTb a.1 a.2.1 a.2.2))]) TabOk (fun a (t : XTab) => t.states = a.1.map sortSt ∧ t.inner = a.2.1 ∧ Ord a.2.2 t.order) rTab
theorem pu_read : ∀ ds S K KX, lentR F_read ds S K KX → ws_read_table (frz F_parted) (frz F_state_in) (frz F_number) (frz F_twos) F_plain (frr F_table_of) { nx := fun _ S1 => K (.z .none) S1, rt := K, ex := fun y _ S1 => KX y S1 } (startE nm_read_table ds) S := by
  refine fsrq_ok fun ⟨ss, n, ps⟩ ht K KX hk => ?_
  have hw : ∀ {x : Str}, x ∈ wTb ss n ps → 32 ∉ x.cps.toList ∧ x.length ≤ 10 := fun hx => wTb_mem ht hx
  have hwl := wTb_len ht
  have htl := txt_len fun x hx => (hw hx).2
  obtain ⟨h1, h2, ⟨k, hk0, hk10⟩, h4⟩ := tab_wd ht
  have hpw := pr_wd ht
  have hsm1 := ht.sm.1
  have hsm2 := ht.sm.2.1
  have hif := wTb_inter (ss, n, ps)
  dsimp only at h1 h2 hk0 h4 hpw hsm1 hsm2 hw hwl htl hk hif ⊢
  subst hk0
  have hne : wTb ss (k : Int) ps ≠ [] := by unfold wTb; simp
  have hs : Txt.split (txt (wTb ss (k : Int) ps)) (Str.ofString " ") = wTb ss (k : Int) ps := split_txt hne fun x hx => (hw hx).1
  have hz : (txt (wTb ss (k : Int) ps)).length + 2 ≤ sizeLine := Nat.le_trans (m := 10000) (by omega) (by decide)
  have hb : ((Str.ofString " ").length == 0) = false := by decide +kernel
  walk_at "go"
  refine pReq.mk ⟨hb, hz⟩ ?_
  rw [hs]
  walk_at "go"
  refine fsp_call (wTb ss (k : Int) ps, cBar) (.cons (.r sto_last (Vws.map PyData.str _)) (.cons .z .nil)) (by dsimp only; omega) ?_
  dsimp only
  have hx1 : cBar ∉ inter cSl (ss.map wSt) := fun z => by
    rcases sts_mem h1 z with e | e | e | e
    · exact sl_ne.2.2.2.2 e
    · exact sl_ne.2.2.1 e
    · exact sl_ne.2.2.2.1 e
    · exact e.s.2.2.1 rfl
  have hx2 : cBar ∉ [(toString ((k : Nat) : Int) : Str)] := fun z => by
    rw [List.mem_singleton] at z
    exact (num_wd hk10).s.2.2.1 z.symm
  have hx3 : cBar ∉ inter (Str.ofString ",") (ps.map wPr) := fun z => by
    rcases rows_wd hpw z with e | e
    · exact sl_ne.2.2.1 e
    · exact e.s.2.2.1 rfl
  rw [hif, parts_inter (fun g hg => by
    simp only [List.mem_cons, List.not_mem_nil, or_false] at hg
    rcases hg with rfl | rfl | rfl <;> assumption) (by simp)]
  walk_at "go"
  have hil := inter_len (s := cSl) (ss.map wSt)
  have hsl := sts_len h1
  refine fsp_call (inter cSl (ss.map wSt), cSl) (.cons .z (.cons .z .nil)) (by dsimp only; omega) ?_
  dsimp only
  rw [parts_inter (fun g hg => by
    obtain ⟨s, hs, rfl⟩ := List.mem_map.mp hg
    intro z
    rcases wSt_mem (h1 s hs) z with e | e | e
    · exact sl_ne.1 e
    · exact sl_ne.2.1 e
    · exact e.s.1 rfl) (by simpa using h4)]
  walk_at "go"
  refine pLc_allE ss (fun s => .z (eG2 (wSt s))) (fun s => .z (eSt s)) (by show ((ss.map wSt).map eG2).map D.z = _; rw [List.map_map, List.map_map]; rfl) (by omega) (fun _ => trivial) (fun s hs => ⟨_, rfl, fun S1 K1 _ h => ?_⟩) ?_
  · walk_at "go"
    refine fsp_call s (.cons .z .nil) (h1 s hs) ?_
    exact h
  · walk_at "go"
    refine fsp_call k (.cons .z .nil) hk10 ?_
    walk_at "go"
    refine fsp_call ps (.cons .z .nil) ⟨by omega, hpw⟩ ?_
    walk_at "go"
    refine pFor_xs ps (fun p => .z (eP p)) (by show (ps.map eP).map D.z = _; rw [List.map_map]; rfl) (fun i env S' => ∃ v5 v6, env = [some (.z (.str (txt (inter cBar [inter cSl (ss.map wSt), [(toString ((k : Nat) : Int) : Str)], inter (Str.ofString ",") (ps.map wPr)])))), some (.z (.list ([inter cSl (ss.map wSt), [(toString ((k : Nat) : Int) : Str)], inter (Str.ofString ",") (ps.map wPr)].map eG2))), some (.r 1), some (.z (.int (k : Int))), some (.z (.list (ps.map eP))), v5, v6, none] ∧ S'[1]? = some (.lst (ss.map fun s => .z (eSt s)))) ⟨_, _, rfl, rfl⟩ (fun _ _ _ _ _ => trivial) ?_ ?_
    · rintro i p _ S' Q hp ⟨v5, v6, rfl, hS⟩ hQ
      have hpm := h2 p (List.mem_of_getElem? hp)
      dsimp only [read_table_b1]
      walk_at "go"
      refine fsm_call (.r S'.length, [p.1, p.2]) ⟨rfl, .inr ⟨_, rfl, sto_last⟩, fun w hw => by
        simp only [List.mem_cons, List.not_mem_nil, or_false] at hw
        rcases hw with rfl | rfl
        · exact hpm.1
        · exact hpm.2⟩ ?_
      rintro _ _ ⟨rfl, rfl⟩
      dsimp only
      walk_at "go"
      exact hQ _ _ ⟨_, _, rfl, sto_app hS⟩
    · rintro _ S' ⟨v5, v6, rfl, hS⟩
      walk_at "go"
      refine fsrq_call (ss, (k : Int), ps) (.cons (.r hS (Vws.map _ _)) (.cons .z (.cons .z .nil))) ht fun t hpt => ?_
      exact ret_al fun d S2 U hv hu => hk d S2 t U hv hu hpt
end K75

set_option Elab.async false
set_option linter.all false
set_option maxRecDepth 100000
set_option maxHeartbeats 1000000
namespace K75
open PySem L2 PL NE
open ND (cutL_map cutL_len cutL_mem bz_ints LwN isNm alpha alpha_eq alpha_at getA ixD_zA ixD_bA app_list one_len getI getI_at getI_mem)
local macro_rules | `(tactic| walk_at "st1") => `(tactic| first | assumption | exact sto_last | exact sto_r0 | exact sto_r1 | exact sto_r2 | exact sto_r3 | exact sto_r4)
local macro_rules | `(tactic| walk_at "sto") => `(tactic| first | walk_at "st1" | exact sto_app (by walk_at "st1") | exact sto_app (sto_app (by walk_at "st1")))
local macro_rules | `(tactic| walk_at "sz") => `(tactic| ((try simp only [List.length_map, List.length_range, List.length_append, List.length_cons, List.length_nil]); omega))
local macro_rules | `(tactic| walk_at "go") => `(tactic| ((try (conv => whnf)); repeat ((first | (show pIf _ _ _; first | refine pIf.tt rfl ?_ | refine pIf.ff rfl ?_) | (show pReq _ _; first | refine pReq.mk rfl ?_ | refine pReq.mk (sz_le rfl) ?_ | refine pReq.mk (sz_lt rfl) ?_ | refine pReq.mk (by decide) ?_ | refine pReq.mk (Or.inr (by decide)) ?_ | refine pReq.mk (Or.inl (by decide)) ?_ | refine pReq.mk (by assumption) ?_ | refine pReq.mk (isTy_l (by walk_at "sto")) ?_ | refine pReq.mk (by omega) ?_ | refine pReq.mk (sz_lt6 (by walk_at "sz")) ?_ | refine pReq.mk (sz_le6 (by walk_at "sz")) ?_ | refine pReq.mk (by walk_at "sz") ?_) | (show pGet _ _; first | refine pGet.mk rfl ?_ | refine pGet.mk (by walk_at "sto") ?_ | refine pGet.mk (lenD_at (by walk_at "sto")) ?_ | refine pGet.mk (sqD_at (by walk_at "sto")) ?_ | refine pGet.mk (lsD_at (by walk_at "sto")) ?_ | refine pGet.mk (lsR_at (by walk_at "sto")) ?_ | refine pGet.mk (srcD_at (by walk_at "sto")) ?_ | refine pGet.mk (tyD_l (by walk_at "sto")) ?_)); (try (conv => whnf)))))
open OR (eP nextsL Reach DInv DIn meas BInv BIn measB lastOf Wy Chn OIn Ord SLt)
open TB (XSt eG zG eSt XTab eTab rSt rTab bzSt)
open OR (Pr eP Reach Ord PLt)
open TT
def F_bare : Fsp := fsp (fun os : List Pr => [.list (os.map eP)]) (fun os => os.length ≤ 10000 ∧ PsOk os) fun os => .list ((bareL os).map eP)
theorem bzsP2 (ps : List Pr) : (ps.map eP).map bz = ps.map fun p => .z (eP p) := by
  rw [List.map_map]
  exact List.map_congr_left fun p _ => bz_flat rfl
theorem bare_take {os : List Pr} {i : Nat} {p : Pr} (h : os[i]? = some p) : (os.take (i + 1)).filter (fun p => decide (btw os p = [])) = (os.take i).filter (fun p => decide (btw os p = [])) ++ if btw os p = [] then [p] else [] := by
  rw [List.take_add_one, h, List.filter_append]
  show _ ++ [p].filter _ = _
  by_cases hb : btw os p = []
  · rw [if_pos hb, List.filter_cons, if_pos (decide_eq_true hb)]; rfl
  · rw [if_neg hb, List.filter_cons, if_neg (by rw [decide_eq_false hb]; decide)]; rfl
theorem pu_bare : ∀ ds S K KX, lent F_bare ds S K KX → ws_bare_pairs { nx := fun _ S1 => K (.z .none) S1, rt := K, ex := fun y _ S1 => KX y S1 } (startE nm_bare_pairs ds) S := by
  refine fsp_ok fun os ⟨hl, ho⟩ K KX hk => ?_
  walk_at "go"
  refine pFor_xs os (fun p => .z (eP p)) (bzsP2 os) (fun i env S => ∃ v2 v3 v4, env = [some (.b (.list (os.map eP))), some (.r 0), v2, v3, v4, none, none] ∧ S[0]? = some (.lst (((os.take i).filter fun p => decide (btw os p = [])).map zP))) ⟨_, _, _, rfl, rfl⟩ (fun _ _ _ _ _ => trivial) ?_ ?_
  · rintro i p _ S Q hp ⟨v2, v3, v4, rfl, h0⟩ hQ
    have hpm := List.mem_of_getElem? hp
    have hpk := ho p hpm
    dsimp only [bare_pairs_b1]
    walk_at "go"
    refine pLc_mapE os (fun p => .z (eP p)) (fun q => zW q.2) (fun q => decide (q.1 = p.1 ∧ (q.2, p.2) ∈ os)) (bzsP2 os) (by omega) (fun _ => trivial) (fun q hq => ⟨_, rfl, fun S1 K1 _ h => ?_, fun _ S1 K1 _ h => ?_⟩) ?_
    · have hqk := ho q hq
      dsimp only [bare_pairs_c1]
      walk_at "go"
      refine pIf.mk (fun c1 => ?_) (fun c1 => ?_)
      · have c1 := of_decide_eq_true c1
        walk_at "go"
        refine bIn_p (p := (q.2, p.2)) .z .b ⟨hqk.2, hpk.2⟩ ho ?_
        rw [show decide (q.1 = p.1 ∧ (q.2, p.2) ∈ os) = decide ((q.2, p.2) ∈ os) from by simp [c1]] at h
        exact h
      · have c1 := of_decide_eq_false c1
        rw [show decide (q.1 = p.1 ∧ (q.2, p.2) ∈ os) = false from decide_eq_false fun z => c1 z.1] at h
        exact h
    · walk_at "go"
      exact h
    have eb : (os.filter fun q => decide (q.1 = p.1 ∧ (q.2, p.2) ∈ os)) = btw os p := rfl
    rw [eb]
    have hbl : (btw os p).length ≤ 10000 := Nat.le_trans (List.length_filter_le _ _) hl
    have emm : (btw os p).map (fun q => zW q.2) = ((btw os p).map (·.2)).map zW := by rw [List.map_map]; rfl
    rw [emm]
    walk_at "go"
    refine bNe_nilG (n := 0) (a := (btw os p).map (·.2)) (f := PyData.str) (.r (sto_app sto_last) (Vws.map _ _)) (fun x hx => by
      obtain ⟨q, hq, rfl⟩ := List.mem_map.mp hx
      exact .str (ho q (List.mem_filter.mp hq).1).2) (by decide) (.r sto_last .nil) ?_
    have hlt := (List.getElem?_eq_some_iff.mp h0).1
    have hnil : ((btw os p).map (·.2) = []) = (btw os p = []) := by rw [List.map_eq_nil_iff]
    have hfl : ((os.take i).filter fun p => decide (btw os p = [])).length ≤ 10000 := Nat.le_trans (List.length_filter_le _ _) (by rw [List.length_take]; omega)
    have h0' : (S ++ [Ob.lst (((btw os p).map (·.2)).map zW)] ++ [Ob.lst []])[0]? = some (.lst (((os.take i).filter fun p => decide (btw os p = [])).map zP)) := sto_app (sto_app h0)
    walk_at "go"
    refine pIf.mk (fun c => ?_) (fun c => ?_)
    · have c : btw os p = [] := by have := of_decide_eq_true c; rwa [List.map_eq_nil_iff] at this
      have hfl2 : (((os.take i).filter fun p => decide (btw os p = [])).map zP).length < sizeLine := Nat.lt_of_le_of_lt (m := 10000) (by rw [List.length_map]; exact hfl) (by decide)
      walk_at "go"
      refine hQ _ _ ⟨_, _, _, rfl, ?_⟩
      rw [List.getElem?_set_self (by rw [List.length_append, List.length_append]; omega), bare_take hp, if_pos c, List.map_append]
      rfl
    · have c : btw os p ≠ [] := fun z => of_decide_eq_false c (by rw [List.map_eq_nil_iff]; exact z)
      walk_at "go"
      refine hQ _ _ ⟨_, _, _, rfl, ?_⟩
      rw [bare_take hp, if_neg c, List.append_nil]
      exact h0'
  · rintro _ S ⟨v2, v3, v4, rfl, h0⟩
    rw [List.take_of_length_le (Nat.le_refl _)] at h0
    walk_at "go"
    exact hk _ _ (.r h0 (Vzs.map _ _))
structure JOk (rows : List (List Str)) : Prop where
  n : ∀ g ∈ rows, g ≠ []
  k : ∀ g ∈ rows, ∀ x ∈ g, PyData.strOk x = true
  l : (rows.map fun g => g.length + 1).sum ≤ 10000
theorem take_inter {α : Type} [DecidableEq α] {s : α} {gs : List (List α)} {i : Nat} {g : List α} (h : gs[i]? = some g) (hn : ∀ g ∈ gs, g ≠ []) : inter s (gs.take (i + 1)) = if inter s (gs.take i) = [] then g else inter s (gs.take i) ++ s :: g := by
  have e : gs.take (i + 1) = gs.take i ++ [g] := by rw [List.take_add_one, h]; rfl
  have hz : inter s (gs.take i) = [] ↔ gs.take i = [] := inter_nil fun g hg => hn g (List.mem_of_mem_take hg)
  rw [e]
  by_cases c : gs.take i = []
  · rw [if_pos (hz.mpr c), c]; rfl
  · rw [if_neg (fun z => c (hz.mp z)), inter_snoc s _ _ c]
theorem sum_take {α : Type} (f : α → Nat) : ∀ (xs : List α) (i : Nat), ((xs.take i).map f).sum ≤ (xs.map f).sum
  | [], i => by simp
  | x :: xs, 0 => by simp
  | x :: xs, i + 1 => by
    rw [List.take_succ_cons, List.map_cons, List.map_cons, List.sum_cons, List.sum_cons]
    have := sum_take f xs i
    omega
theorem inter_take_len {α : Type} [DecidableEq α] {s : α} (gs : List (List α)) (i : Nat) : (inter s (gs.take i)).length ≤ (gs.map fun g => g.length + 1).sum := Nat.le_trans (inter_len _) (sum_take _ _ _)
def F_words_of : Fsp := fsp (fun rows : List (List Str) => [.list (rows.map eG2)]) JOk fun rows => .list ((inter (Str.ofString ",") rows).map .str)
theorem bzG2 (g : List Str) : bz (eG2 g) = .b (eG2 g) := by
  unfold eG2
  rfl
theorem pu_joined_words : ∀ ds S K KX, lent F_words_of ds S K KX → ws_joined_words { nx := fun _ S1 => K (.z .none) S1, rt := K, ex := fun y _ S1 => KX y S1 } (startE nm_joined_words ds) S := by
  refine fsp_ok fun rows ⟨hn, hkk, hl⟩ K KX hk => ?_
  have hkm : PyData.strOk (Str.ofString ",") = true := by decide +kernel
  walk_at "go"
  refine pFor_xs rows (fun g => .b (eG2 g)) (by show (rows.map eG2).map bz = _; rw [List.map_map]; exact List.map_congr_left fun g _ => bzG2 g) (fun i env S => ∃ v2, env = [some (.b (.list (rows.map eG2))), some (.r 0), v2] ∧ S[0]? = some (.lst ((inter (Str.ofString ",") (rows.take i)).map zW))) ⟨_, rfl, rfl⟩ (fun _ _ _ _ _ => trivial) ?_ ?_
  · rintro i g _ S Q hg ⟨v2, rfl, h0⟩ hQ
    have hgm := List.mem_of_getElem? hg
    have hlt := (List.getElem?_eq_some_iff.mp h0).1
    have hil := inter_take_len (s := Str.ofString ",") rows i
    have hgl : g.length ≤ 10000 := by have := mem_sum (List.mem_map_of_mem (f := fun g : List Str => g.length + 1) hgm); omega
    have ht := take_inter (s := Str.ofString ",") hg hn
    generalize hW : inter (Str.ofString ",") (rows.take i) = W at h0 hil ht
    have hsh : ∀ x ∈ W, Shp 0 (PyData.str x) := fun x hx => by
      rw [← hW] at hx
      rcases inter_mem hx with rfl | ⟨y, hy, hx⟩
      · exact .str hkm
      · exact .str (hkk y (List.mem_of_mem_take hy) x hx)
    have h0' : (S ++ [Ob.lst []])[0]? = some (.lst (W.map zW)) := sto_app h0
    have ebz : (g.map PyData.str).map bz = g.map zW := by rw [List.map_map]; rfl
    have hWl : (W.map zW).length < sizeLine := Nat.lt_of_le_of_lt (m := 10000) (by rw [List.length_map]; omega) (by decide)
    dsimp only [joined_words_b1]
    walk_at "go"
    refine bNe_nilG (a := W) (f := PyData.str) (.r h0' (Vws.map _ _)) hsh (by decide) (.r sto_last .nil) ?_
    walk_at "go"
    refine pIf.mk (fun c => ?_) (fun c => ?_)
    · have c : W ≠ [] := by
        intro z
        rw [z] at c
        exact absurd c (by decide)
      rw [if_neg c] at ht
      walk_at "go"
      have h1 : ((S ++ [Ob.lst []]).set 0 (.lst (W.map zW ++ [D.z (.str (Str.ofString ","))])))[0]? = some (.lst ((W ++ [Str.ofString ","]).map zW)) := by
        rw [List.getElem?_set_self (by rw [List.length_append]; omega), List.map_append]; rfl
      walk_at "go"
      rw [ebz]
      refine hQ _ _ ⟨_, rfl, ?_⟩
      rw [List.getElem?_set_self (by rw [List.length_set, List.length_append]; omega), ← List.map_append, ht]
      simp
    · have c : W = [] := by
        rcases Classical.em (W = []) with z | z
        · exact z
        · rw [decide_eq_false z] at c; exact absurd c (by decide)
      rw [if_pos c] at ht
      walk_at "go"
      rw [ebz]
      refine hQ _ _ ⟨_, rfl, ?_⟩
      rw [List.getElem?_set_self (by rw [List.length_append]; omega), ← List.map_append, ht, c, List.nil_append]
  · rintro _ S ⟨v2, rfl, h0⟩
    rw [List.take_of_length_le (Nat.le_refl _)] at h0
    walk_at "go"
    exact hk _ _ (.r h0 (Vzs.map _ _))
end K75

set_option Elab.async false
set_option linter.all false
set_option maxRecDepth 100000
set_option maxHeartbeats 1000000
namespace K75
open PySem L2 PL NE
open ND (cutL_map cutL_len cutL_mem bz_ints LwN isNm alpha alpha_eq alpha_at getA ixD_zA ixD_bA app_list one_len getI getI_at getI_mem)
local macro_rules | `(tactic| walk_at "st1") => `(tactic| first | assumption | exact sto_last | exact sto_r0 | exact sto_r1 | exact sto_r2 | exact sto_r3 | exact sto_r4)
local macro_rules | `(tactic| walk_at "sto") => `(tactic| first | walk_at "st1" | exact sto_app (by walk_at "st1") | exact sto_app (sto_app (by walk_at "st1")))
local macro_rules | `(tactic| walk_at "sz") => `(tactic| ((try simp only [List.length_map, List.length_range, List.length_append, List.length_cons, List.length_nil]); omega))
local macro_rules | `(tactic| walk_at "go") => `(tactic| ((try (conv => whnf)); repeat ((first | (show pIf _ _ _; first | refine pIf.tt rfl ?_ | refine pIf.ff rfl ?_) | (show pReq _ _; first | refine pReq.mk rfl ?_ | refine pReq.mk (sz_le rfl) ?_ | refine pReq.mk (sz_lt rfl) ?_ | refine pReq.mk (by decide) ?_ | refine pReq.mk (Or.inr (by decide)) ?_ | refine pReq.mk (Or.inl (by decide)) ?_ | refine pReq.mk (by assumption) ?_ | refine pReq.mk (isTy_l (by walk_at "sto")) ?_ | refine pReq.mk (by omega) ?_ | refine pReq.mk (sz_lt6 (by walk_at "sz")) ?_ | refine pReq.mk (sz_le6 (by walk_at "sz")) ?_ | refine pReq.mk (by walk_at "sz") ?_) | (show pGet _ _; first | refine pGet.mk rfl ?_ | refine pGet.mk (by walk_at "sto") ?_ | refine pGet.mk (lenD_at (by walk_at "sto")) ?_ | refine pGet.mk (sqD_at (by walk_at "sto")) ?_ | refine pGet.mk (lsD_at (by walk_at "sto")) ?_ | refine pGet.mk (lsR_at (by walk_at "sto")) ?_ | refine pGet.mk (srcD_at (by walk_at "sto")) ?_ | refine pGet.mk (tyD_l (by walk_at "sto")) ?_)); (try (conv => whnf)))))
open OR (eP nextsL Reach DInv DIn meas BInv BIn measB lastOf Wy Chn OIn Ord SLt)
open TB (XSt eG zG eSt XTab eTab rSt rTab bzSt)
open OR (Pr eP Reach Ord PLt)
open TT
theorem vws_new {α : Type} {S : Sto} (o : α → Ob) (e : α → PyData) (hv : ∀ n x, S[n]? = some (o x) → Vw S (.r n) (e x)) : ∀ (xs : List α) (L : Nat), (∀ j x, xs[j]? = some x → S[L + j]? = some (o x)) → Vws S ((List.range xs.length).map fun i => .r (L + i)) (xs.map e)
  | [], _, _ => .nil
  | x :: xs, L, h => by
    rw [List.length_cons, List.range_succ_eq_map, List.map_cons, List.map_map, List.map_cons]
    refine .cons (hv _ _ (h 0 x rfl)) ?_
    have := vws_new o e hv xs (L + 1) fun j y hj => by
      have := h (j + 1) y (by simpa using hj)
      rw [show L + 1 + j = L + (j + 1) by omega]; exact this
    have e2 : ((fun i => D.r (L + i)) ∘ Nat.succ) = fun i => D.r (L + 1 + i) := by funext i; show D.r (L + (i + 1)) = _; congr 1; omega
    rw [e2]; exact this
structure ShOk (t : XTab) : Prop where
  s : ∀ s ∈ t.states, SPar s
  n : t.states.length ≤ 8
  i : ∃ k : Nat, t.inner = (k : Int) ∧ k < 10
  o : ∀ p ∈ t.order, isNameB p.1 = true ∧ isNameB p.2 = true
  l : t.order.length ≤ 3000
theorem log_small {i : Int} (h : 0 ≤ i ∧ i < 10) : i.natAbs.log2 < 1920 := by
  have e : ∀ m : Fin 10, (m.val).log2 < 1920 := by decide
  obtain ⟨k, rfl⟩ : ∃ k : Nat, i = (k : Int) := ⟨i.toNat, by omega⟩
  exact e ⟨k, by omega⟩
theorem jok_rows {rows : List Pr} (h : ∀ p ∈ rows, WdOk p.1 ∧ WdOk p.2) (hl : rows.length ≤ 3000) : JOk (rows.map wPr) := ⟨fun g hg => by
  obtain ⟨p, _, rfl⟩ := List.mem_map.mp hg
  exact wPr_ne p, fun g hg x hx => by
  obtain ⟨p, hp, rfl⟩ := List.mem_map.mp hg
  simp only [wPr, List.mem_cons, List.not_mem_nil, or_false] at hx
  rcases hx with rfl | rfl
  · exact (h p hp).1.k
  · exact (h p hp).2.k, by rw [sum3]; omega⟩
theorem bzTab (t : TB.XTab) : bz (TB.eTab t) = .b (TB.eTab t) := by
  unfold bz
  rw [if_neg]
  simp [TB.eTab, flatT, flatTs]
def F_show : Fsp := fsp (fun t : XTab => [eTab t]) ShOk fun t => .str (txt (wTb t.states t.inner (bareL t.order)))
theorem wSt_ne (s : XSt) : wSt s ≠ [] := by unfold wSt; simp
theorem pu_show : ∀ ds S K KX, lent F_show ds S K KX → ws_show_table (frz F_words_of) (frz F_bare) { nx := fun _ S1 => K (.z .none) S1, rt := K, ex := fun y _ S1 => KX y S1 } (startE nm_show_table ds) S := by
  refine fsp_ok fun ⟨ss, n, os⟩ ⟨hs, hn8, ⟨k, hk0, hk10⟩, ho, hol⟩ K KX hk => ?_
  dsimp only at hs hn8 hk0 ho hol hk
  subst hk0
  have hsl := sts_len hs
  have hpo : PsOk os := fun p hp => ⟨(is_ok (ho p hp).1).1, (is_ok (ho p hp).2).1⟩
  have hb := bzTab (⟨ss, (k : Int), os⟩ : XTab)
  simp only [List.map_cons, List.map_nil, hb]
  walk_at "go"
  refine pFor_xs ss (fun s => .b (eSt s)) (by show (ss.map eSt).map bz = _; rw [List.map_map]; exact List.map_congr_left fun s _ => bzSt s) (fun i env S => ∃ v2 v3, env = [some (.b (eTab ⟨ss, (k : Int), os⟩)), some (.r 0), v2, v3, none, none, none, none] ∧ S[0]? = some (.lst ((inter cSl ((ss.take i).map wSt)).map zW))) ⟨_, _, rfl, rfl⟩ (fun _ _ _ _ _ => trivial) ?_ ?_
  · rintro i s _ S Q hi ⟨v2, v3, rfl, h0⟩ hQ
    have hsm := List.mem_of_getElem? hi
    have hsp := hs s hsm
    have hlt := (List.getElem?_eq_some_iff.mp h0).1
    have hgi : (ss.map wSt)[i]? = some (wSt s) := by rw [List.getElem?_map, hi]; rfl
    have ht := take_inter (s := cSl) hgi (fun g hg => by obtain ⟨s, _, rfl⟩ := List.mem_map.mp hg; exact wSt_ne s)
    have hil := inter_take_len (s := cSl) (ss.map wSt) i
    rw [← List.map_take, ← List.map_take] at ht
    rw [← List.map_take] at hil
    have hsh0 : ∀ x ∈ inter cSl ((ss.take i).map wSt), Shp 0 (PyData.str x) := fun x hx => by
      have hkm : PyData.strOk cSl = true ∧ PyData.strOk (Str.ofString ",") = true ∧ PyData.strOk (Str.ofString ":") = true := by decide +kernel
      rcases sts_mem (fun s h => hs s (List.mem_of_mem_take h)) hx with rfl | rfl | rfl | h
      · exact .str hkm.1
      · exact .str hkm.2.1
      · exact .str hkm.2.2
      · exact .str h.k
    generalize hW : inter cSl ((ss.take i).map wSt) = W at h0 hil ht hsh0
    have hlS := hsp.l
    have h0' : (S ++ [Ob.lst []])[0]? = some (.lst (W.map zW)) := sto_app h0
    have hWl : (W.map zW).length < sizeLine := Nat.lt_of_le_of_lt (m := 10000) (by rw [List.length_map]; omega) (by decide)
    -- behind the sign
    have rest : ∀ (W2 : List Str) (S2 : Sto) (k2 : KS), k2.nx = Q → W2.length ≤ 5000 → S2[0]? = some (.lst (W2.map zW)) → W2 ++ wSt s = inter cSl ((ss.take (i + 1)).map wSt) →
        (wSeq (wDrop (wMth .list pExt (wVar 1) (wCons (wFn (frz F_words_of) [] (wCons (wLc (wIt (wVar 2)) (tgT [6, 7]) wYes show_table_e1 [6, 7]) wNil)) wNil)))
          (wSeq (wDrop (wMth .list pApp (wVar 1) (wCons (wC (.str (PySem.Str.ofString ":"))) wNil))) (wDrop (wMth .list pExt (wVar 1) (wCons (wVar 3) wNil))))) k2 [some (.b (eTab ⟨ss, (k : Int), os⟩)), some (.r 0), some (.b (.list (s.1.map eG))), some (.b (.list (s.2.map .str))), none, none, none, none] S2 := by
      intro W2 S2 k2 hk2 hWl2 h02 he
      have hlt2 := (List.getElem?_eq_some_iff.mp h02).1
      walk_at "go"
      refine pLc_new s.1 zG (fun g => .lst [zW g.1, zW (toString g.2)]) (zsG s.1) (by omega) (fun _ _ => trivial) (fun g hg => ⟨_, rfl, fun S3 K3 h3 => ?_⟩) ?_
      · have hlg := log_small (hsp.g g hg).2
        dsimp only [show_table_e1]
        walk_at "go"
        exact h3
      have hvw : Vw (S2 ++ (Ob.lst ((List.range s.1.length).map fun i => D.r (S2.length + 1 + i)) :: s.1.map fun g => Ob.lst [zW g.1, zW (toString g.2)])) (.r S2.length) (.list (((s.1.map gPr).map wPr).map eG2)) := by
        refine .r (ds := (List.range s.1.length).map fun i => D.r (S2.length + 1 + i)) (by simp) ?_
        have := vws_new (S := S2 ++ (Ob.lst ((List.range s.1.length).map fun i => D.r (S2.length + 1 + i)) :: s.1.map fun g => Ob.lst [zW g.1, zW (toString g.2)])) (fun g : Str × Int => Ob.lst [zW g.1, zW (toString g.2)]) (fun g => eG2 (wPr (gPr g))) (fun n g hg => .r hg (.cons .z (.cons .z .nil))) s.1 (S2.length + 1) fun j x hx => by
          rw [List.getElem?_append_right (by omega), show S2.length + 1 + j - S2.length = j + 1 by omega, List.getElem?_cons_succ, List.getElem?_map, hx]; rfl
        rw [List.map_map, List.map_map]
        exact this
      have h03 : (S2 ++ (Ob.lst ((List.range s.1.length).map fun i => D.r (S2.length + 1 + i)) :: s.1.map fun g => Ob.lst [zW g.1, zW (toString g.2)]))[0]? = some (.lst (W2.map zW)) := sto_app h02
      generalize S2 ++ (Ob.lst ((List.range s.1.length).map fun i => D.r (S2.length + 1 + i)) :: s.1.map fun g => Ob.lst [zW g.1, zW (toString g.2)]) = S3 at hvw h03 ⊢
      have hlt3 := (List.getElem?_eq_some_iff.mp h03).1
      have hrl := rows_len (s.1.map gPr)
      rw [List.length_map] at hrl
      walk_at "go"
      refine fsp_call ((s.1.map gPr).map wPr) (.cons hvw .nil) (jok_rows hsp.wd (by rw [List.length_map]; omega)) ?_
      have ebz : ∀ ws : List Str, (ws.map PyData.str).map D.z = ws.map zW := fun ws => by rw [List.map_map]; rfl
      have ebz2 : ∀ ws : List Str, (ws.map PyData.str).map bz = ws.map zW := fun ws => by rw [List.map_map]; rfl
      walk_at "go"
      rw [ebz, ← List.map_append]
      have h04 : (S3.set 0 (.lst ((W2 ++ inter (Str.ofString ",") ((s.1.map gPr).map wPr)).map zW)))[0]? = some (.lst ((W2 ++ inter (Str.ofString ",") ((s.1.map gPr).map wPr)).map zW)) := List.getElem?_set_self hlt3
      have hz4 : ((W2 ++ inter (Str.ofString ",") ((s.1.map gPr).map wPr)).map zW).length ≤ 6000 := by rw [List.length_map, List.length_append]; omega
      generalize S3.set 0 (.lst ((W2 ++ inter (Str.ofString ",") ((s.1.map gPr).map wPr)).map zW)) = S4 at h04 ⊢
      have hlt4 := (List.getElem?_eq_some_iff.mp h04).1
      generalize hX : W2 ++ inter (Str.ofString ",") ((s.1.map gPr).map wPr) = X at h04 hz4
      have hz4' : (X.map zW).length < sizeLine := Nat.lt_of_le_of_lt hz4 (by decide)
      walk_at "go"
      have e5 : X.map zW ++ [D.z (.str (Str.ofString ":"))] = (X ++ [Str.ofString ":"]).map zW := by rw [List.map_append]; rfl
      rw [e5]
      have h05 : (S4.set 0 (.lst ((X ++ [Str.ofString ":"]).map zW)))[0]? = some (.lst ((X ++ [Str.ofString ":"]).map zW)) := List.getElem?_set_self hlt4
      generalize S4.set 0 (.lst ((X ++ [Str.ofString ":"]).map zW)) = S5 at h05 ⊢
      have hlt5 := (List.getElem?_eq_some_iff.mp h05).1
      have hz5 : ((X ++ [Str.ofString ":"]).map zW).length + ((s.2.map PyData.str).map bz).length ≤ sizeLine := Nat.le_trans (m := 10000) (by
        rw [List.length_map] at hz4
        rw [List.length_map, List.length_map, List.length_map, List.length_append]; simp; omega) (by decide)
      walk_at "go"
      rw [ebz2, ← List.map_append]
      show k2.nx _ _
      rw [hk2]
      refine hQ _ _ ⟨_, _, rfl, ?_⟩
      rw [List.getElem?_set_self hlt5, ← he, ← hX]
      unfold wSt
      rw [rowsG]
      simp
    dsimp only [show_table_b1]
    walk_at "go"
    refine bNe_nilG (a := W) (f := PyData.str) (.r h0' (Vws.map _ _)) hsh0 (by decide) (.r sto_last .nil) ?_
    walk_at "go"
    refine pIf.mk (fun c => ?_) (fun c => ?_)
    · have c : W ≠ [] := by
        intro z
        rw [z] at c
        exact absurd c (by decide)
      rw [if_neg c] at ht
      walk_at "go"
      have h1 : ((S ++ [Ob.lst []]).set 0 (.lst (W.map zW ++ [D.z (.str cSl)])))[0]? = some (.lst ((W ++ [cSl]).map zW)) := by
        rw [List.getElem?_set_self (by rw [List.length_append]; omega), List.map_append]; rfl
      exact rest (W ++ [cSl]) _ _ rfl (by rw [List.length_append]; simp; omega) h1 (by rw [ht]; simp)
    · have c : W = [] := by
        rcases Classical.em (W = []) with z | z
        · exact z
        · rw [decide_eq_false z] at c; exact absurd c (by decide)
      rw [if_pos c] at ht
      refine rest W _ _ ?_ (by omega) h0' (by rw [ht, c]; rfl)
      rfl
  · rintro _ S ⟨v2, v3, rfl, h0⟩
    rw [List.take_of_length_le (Nat.le_refl _)] at h0
    have hlt := (List.getElem?_eq_some_iff.mp h0).1
    have hil := inter_len (s := cSl) (ss.map wSt)
    have hlk := log_small (i := (k : Int)) (by omega)
    have hbo : (bareL os).length ≤ 3000 := Nat.le_trans (List.length_filter_le _ _) hol
    have hbn : ∀ p ∈ bareL os, isNameB p.1 = true ∧ isNameB p.2 = true := fun p hp => ho p (bare_sub hp)
    have hbw : ∀ p ∈ bareL os, WdOk p.1 ∧ WdOk p.2 := fun p hp => ⟨name_wd (hbn p hp).1, name_wd (hbn p hp).2⟩
    have hrl := rows_len (bareL os)
    have hmem : ∀ x ∈ wTb ss (k : Int) (bareL os), x.length ≤ 10 := fun x hx => by
      unfold wTb at hx
      have hs1 : (Str.ofString "/").length ≤ 10 ∧ (Str.ofString "|").length ≤ 10 ∧ (Str.ofString ",").length ≤ 10 ∧ (Str.ofString ":").length ≤ 10 := by decide +kernel
      rcases List.mem_append.mp hx with hx | hx
      · rcases List.mem_append.mp hx with hx | hx
        · rcases sts_mem hs hx with rfl | rfl | rfl | e
          · exact hs1.1
          · exact hs1.2.2.1
          · exact hs1.2.2.2
          · exact e.l
        · simp only [List.mem_cons, List.not_mem_nil, or_false] at hx
          rcases hx with rfl | rfl | rfl
          · exact hs1.2.1
          · exact (num_wd hk10).l
          · exact hs1.2.1
      · rcases rows_wd hbw hx with rfl | e
        · exact hs1.2.2.1
        · exact e.l
    have ewt : wTb ss (k : Int) (bareL os) = (inter cSl (ss.map wSt) ++ [cBar, (toString ((k : Nat) : Int) : Str), cBar]) ++ inter (Str.ofString ",") ((bareL os).map wPr) := rfl
    generalize hW : inter cSl (ss.map wSt) = W at h0 hil ewt
    have hWl : (W.map zW).length ≤ 5000 := by rw [List.length_map]; omega
    dsimp only [show_table_r1]
    walk_at "go"
    have h0' : (S ++ [Ob.lst [zW cBar, zW (toString ((k : Nat) : Int)), zW cBar]])[0]? = some (.lst (W.map zW)) := sto_app h0
    have e1 : W.map zW ++ [zW cBar, zW (toString ((k : Nat) : Int)), zW cBar] = (W ++ [cBar, (toString ((k : Nat) : Int) : Str), cBar]).map zW := by rw [List.map_append]; rfl
    walk_at "go"
    dsimp only
    rw [e1]
    have h1 : ((S ++ [Ob.lst [zW cBar, zW (toString ((k : Nat) : Int)), zW cBar]]).set 0 (.lst ((W ++ [cBar, (toString ((k : Nat) : Int) : Str), cBar]).map zW)))[0]? = some (.lst ((W ++ [cBar, (toString ((k : Nat) : Int) : Str), cBar]).map zW)) := List.getElem?_set_self (by rw [List.length_append]; omega)
    have hX : (W ++ [cBar, (toString ((k : Nat) : Int) : Str), cBar]).length ≤ 6000 := by rw [List.length_map] at hWl; rw [List.length_append]; simp; omega
    generalize (S ++ [Ob.lst [zW cBar, zW (toString ((k : Nat) : Int)), zW cBar]]).set 0 (.lst ((W ++ [cBar, (toString ((k : Nat) : Int) : Str), cBar]).map zW)) = S1 at h1 ⊢
    generalize W ++ [cBar, (toString ((k : Nat) : Int) : Str), cBar] = X at h1 hX ewt
    walk_at "go"
    refine fsp_call os (.cons .b .nil) ⟨by omega, hpo⟩ ?_
    walk_at "go"
    refine pLc_new (bareL os) (fun p => .z (eP p)) (fun p => .lst [zW p.1, zW p.2]) (by show ((bareL os).map eP).map D.z = _; rw [List.map_map]; rfl) (by omega) (fun _ _ => trivial) (fun p hp => ⟨_, rfl, fun S3 K3 h3 => ?_⟩) ?_
    · dsimp only [show_table_e2]
      walk_at "go"
      exact h3
    have hvw : Vw (S1 ++ (Ob.lst ((List.range (bareL os).length).map fun i => D.r (S1.length + 1 + i)) :: (bareL os).map fun p => Ob.lst [zW p.1, zW p.2])) (.r S1.length) (.list (((bareL os).map wPr).map eG2)) := by
      refine .r (ds := (List.range (bareL os).length).map fun i => D.r (S1.length + 1 + i)) (by simp) ?_
      have := vws_new (S := S1 ++ (Ob.lst ((List.range (bareL os).length).map fun i => D.r (S1.length + 1 + i)) :: (bareL os).map fun p => Ob.lst [zW p.1, zW p.2])) (fun p : Pr => Ob.lst [zW p.1, zW p.2]) (fun p => eG2 (wPr p)) (fun n p hp => .r hp (.cons .z (.cons .z .nil))) (bareL os) (S1.length + 1) fun j x hx => by
        rw [List.getElem?_append_right (by omega), show S1.length + 1 + j - S1.length = j + 1 by omega, List.getElem?_cons_succ, List.getElem?_map, hx]; rfl
      rw [List.map_map]
      exact this
    have h03 : (S1 ++ (Ob.lst ((List.range (bareL os).length).map fun i => D.r (S1.length + 1 + i)) :: (bareL os).map fun p => Ob.lst [zW p.1, zW p.2]))[0]? = some (.lst (X.map zW)) := sto_app h1
    generalize S1 ++ (Ob.lst ((List.range (bareL os).length).map fun i => D.r (S1.length + 1 + i)) :: (bareL os).map fun p => Ob.lst [zW p.1, zW p.2]) = S3 at hvw h03 ⊢
    have hlt3 := (List.getElem?_eq_some_iff.mp h03).1
    walk_at "go"
    refine fsp_call ((bareL os).map wPr) (.cons hvw .nil) (jok_rows hbw hbo) ?_
    have ebz : ∀ ws : List Str, (ws.map PyData.str).map D.z = ws.map zW := fun ws => by rw [List.map_map]; rfl
    have hz3 : (X.map zW).length + (((inter (Str.ofString ",") ((bareL os).map wPr)).map PyData.str).map D.z).length ≤ sizeLine := Nat.le_trans (m := 20000) (by rw [List.length_map, List.length_map, List.length_map]; omega) (by decide)
    walk_at "go"
    rw [ebz, ← List.map_append, ← ewt]
    have h04 : (S3.set 0 (.lst ((wTb ss (k : Int) (bareL os)).map zW)))[0]? = some (.lst ((wTb ss (k : Int) (bareL os)).map zW)) := List.getElem?_set_self hlt3
    walk_at "go"
    have hln : (wTb ss (k : Int) (bareL os)).length ≤ 20000 := by rw [ewt, List.length_append]; omega
    have hsum : ∀ ws : List Str, (∀ x ∈ ws, x.length ≤ 10) → (ws.map (·.length)).sum ≤ 10 * ws.length := by
      intro ws
      induction ws with
      | nil => intro _; simp
      | cons w ws ih =>
        intro h
        rw [List.map_cons, List.sum_cons, List.length_cons]
        have := ih fun x hx => h x (List.mem_cons_of_mem _ hx)
        have := h w (by simp)
        omega
    have hsm := hsum _ hmem
    have hb1 : (Str.ofString " ").length = 1 := by decide +kernel
    refine ⟨wTb ss (k : Int) (bareL os), rfl, pReq.mk (by rw [hb1]; omega) ?_⟩
    exact hk _ _ .z
end K75

set_option Elab.async false
set_option linter.all false
set_option maxRecDepth 100000
set_option maxHeartbeats 1000000
namespace K75
open PySem L2 PL NE
open ND (cutL_map cutL_len cutL_mem bz_ints LwN isNm alpha alpha_eq alpha_at getA ixD_zA ixD_bA app_list one_len getI getI_at getI_mem)
local macro_rules | `(tactic| walk_at "st1") => `(tactic| first | assumption | exact sto_last | exact sto_r0 | exact sto_r1 | exact sto_r2 | exact sto_r3 | exact sto_r4)
local macro_rules | `(tactic| walk_at "sto") => `(tactic| first | walk_at "st1" | exact sto_app (by walk_at "st1") | exact sto_app (sto_app (by walk_at "st1")))
local macro_rules | `(tactic| walk_at "sz") => `(tactic| ((try simp only [List.length_map, List.length_range, List.length_append, List.length_cons, List.length_nil]); omega))
local macro_rules | `(tactic| walk_at "go") => `(tactic| ((try (conv => whnf)); repeat ((first | (show pIf _ _ _; first | refine pIf.tt rfl ?_ | refine pIf.ff rfl ?_) | (show pReq _ _; first | refine pReq.mk rfl ?_ | refine pReq.mk (sz_le rfl) ?_ | refine pReq.mk (sz_lt rfl) ?_ | refine pReq.mk (by decide) ?_ | refine pReq.mk (Or.inr (by decide)) ?_ | refine pReq.mk (Or.inl (by decide)) ?_ | refine pReq.mk (by assumption) ?_ | refine pReq.mk (isTy_l (by walk_at "sto")) ?_ | refine pReq.mk (by omega) ?_ | refine pReq.mk (sz_lt6 (by walk_at "sz")) ?_ | refine pReq.mk (sz_le6 (by walk_at "sz")) ?_ | refine pReq.mk (by walk_at "sz") ?_) | (show pGet _ _; first | refine pGet.mk rfl ?_ | refine pGet.mk (by walk_at "sto") ?_ | refine pGet.mk (lenD_at (by walk_at "sto")) ?_ | refine pGet.mk (sqD_at (by walk_at "sto")) ?_ | refine pGet.mk (lsD_at (by walk_at "sto")) ?_ | refine pGet.mk (lsR_at (by walk_at "sto")) ?_ | refine pGet.mk (srcD_at (by walk_at "sto")) ?_ | refine pGet.mk (tyD_l (by walk_at "sto")) ?_)); (try (conv => whnf)))))
open OR (eP nextsL Reach DInv DIn meas BInv BIn measB lastOf Wy Chn OIn Ord SLt)
open TB (XSt eG zG eSt XTab eTab rSt rTab bzSt)
open OR (Pr eP Reach Ord PLt)
open TT
def rotL {α : Type} (xs : List α) (c : Int) : List α := xs.drop (c.fmod ((xs.length : Int) + 1)).toNat ++ xs.take (c.fmod ((xs.length : Int) + 1)).toNat
theorem rot_map {α β : Type} (f : α → β) (xs : List α) (c : Int) : rotL (xs.map f) c = (rotL xs c).map f := by
  unfold rotL
  rw [List.length_map, List.map_append, List.map_drop, List.map_take]
theorem turn_perm {α : Type} (xs : List α) (t : Nat) : (xs.drop t ++ xs.take t).Perm xs := by
  have := List.perm_append_comm (l₁ := xs.drop t) (l₂ := xs.take t)
  rwa [List.take_append_drop] at this
theorem rot_perm {α : Type} (xs : List α) (c : Int) : (rotL xs c).Perm xs := turn_perm xs _
theorem flats {ds : List PyData} (h : ∀ d ∈ ds, flatT d = true) : ds.map bz = ds.map fun d => .z d := List.map_congr_left fun d hd => bz_flat (h d hd)
def F_turned : Fsp := fsp (fun a : List PyData × Int => [.list a.1, .int a.2]) (fun a => (∀ d ∈ a.1, flatT d = true) ∧ a.1.length ≤ 1000) fun a => .list (rotL a.1 a.2)
theorem pu_turned : ∀ ds S K KX, lent F_turned ds S K KX → ws__law_turned { nx := fun _ S1 => K (.z .none) S1, rt := K, ex := fun y _ S1 => KX y S1 } (startE nm__law_turned ds) S := by
  refine fsp_ok fun ⟨ds, c⟩ ⟨hf, hl⟩ K KX hk => ?_
  dsimp only at hf hl hk
  walk_at "go"
  have hb := fmod_b (a := c) (b := (ds.length : Int) + 1) (by omega)
  obtain ⟨t, ht⟩ : ∃ t : Nat, c.fmod ((ds.length : Int) + 1) = (t : Int) := ⟨(c.fmod ((ds.length : Int) + 1)).toNat, by omega⟩
  have er : rotL ds c = ds.drop t ++ ds.take t := by unfold rotL; rw [ht, Int.toNat_natCast]
  walk_at "go"
  rw [ht, flats hf, cutL_map, cutL_map, cut_from, cut_to]
  have ha : (ds.drop t).length + (ds.take t).length ≤ 1000 := by rw [List.length_drop, List.length_take]; omega
  walk_at "go"
  rw [← List.map_append, ← er]
  refine hk _ _ (.r sto_last ?_)
  have := Vzs.map (S := [] ++ [Ob.lst ((ds.drop t).map fun d => D.z d)] ++ [Ob.lst ((ds.take t).map fun d => D.z d)] ++ [Ob.lst ((rotL ds c).map fun d => D.z d)]) (fun d : PyData => d) (rotL ds c)
  rw [List.map_id'] at this
  exact this
structure StOk (ls : List Str) (m : Nat) (s : XSt) : Prop where
  nd : (s.1.map (·.1)).Nodup
  go : ∀ g ∈ s.1, g.1 ∈ ls ∧ 0 ≤ g.2 ∧ g.2 < m
  ne : s.2.Nodup
  en : ∀ w ∈ s.2, w ∈ ls
theorem StOk.l1 {ls : List Str} {m : Nat} {s : XSt} (h : StOk ls m s) : s.1.length ≤ ls.length := by
  have := OR.nodup_le h.nd fun x hx => by
    obtain ⟨g, hg, rfl⟩ := List.mem_map.mp hx
    exact (h.go g hg).1
  rwa [List.length_map] at this
theorem StOk.l2 {ls : List Str} {m : Nat} {s : XSt} (h : StOk ls m s) : s.2.length ≤ ls.length := OR.nodup_le h.ne h.en
structure Arg where
  ns : List Int
  start : Nat
  ls : List Str
  m : Nat
  full : Bool
def F_state : Fsp := fsq (fun a : Arg => [.list (a.ns.map .int), .int a.start, .list (a.ls.map .str), .int a.m, .bool a.full]) (fun a => 0 < a.m ∧ a.ls.Nodup ∧ a.ls.length ≤ 1000) (fun a s => StOk a.ls a.m s) eSt
theorem pu_state : ∀ ds S K KX, lent F_state ds S K KX → ws__law_state (frz F_cell) { nx := fun _ S1 => K (.z .none) S1, rt := K, ex := fun y _ S1 => KX y S1 } (startE nm__law_state ds) S := by
  refine fsq_ok fun ⟨ns, st, ls, m, full⟩ ⟨hm, hnd, hll⟩ K KX hk => ?_
  dsimp only at hm hnd hll hk
  have et : ((ls.length : Nat) : Int).toNat = ls.length := by omega
  walk_at "go"
  rw [List.length_map]
  show pFor (rgD 0 ((ls.length : Nat) : Int).toNat) _ _ _ _ _ _
  rw [et]
  refine pFor_range (fun i env S => ∃ (v7 v9 : Option D) (gs : List (Str × Int)) (es : List Str), env = [some (.b (.list (ns.map .int))), some (.z (.int st)), some (.b (.list (ls.map .str))), some (.z (.int m)), some (.z (.bool full)), some (.r 0), some (.r 1), v7, v9] ∧ S = [.lst (gs.map zG), .lst (es.map zW)] ∧ (gs.map (·.1)).Sublist (ls.take i) ∧ (∀ g ∈ gs, 0 ≤ g.2 ∧ g.2 < (m : Int)) ∧ es.Sublist (ls.take i)) ⟨_, _, [], [], rfl, rfl, List.Sublist.slnil, fun _ h => (by cases h), List.Sublist.slnil⟩ ?_ ?_
  · rintro i _ _ Q hi ⟨v7, v9, gs, es, rfl, rfl, hg, hn, he⟩ hQ
    rw [Int.zero_add]
    have ha := List.getElem?_eq_getElem hi
    generalize ls[i] = a at ha
    have ta : ls.take (i + 1) = ls.take i ++ [a] := by rw [List.take_add_one, ha]; rfl
    have gl : gs.length ≤ 1000 := by have := hg.length_le; rw [List.length_map, List.length_take] at this; omega
    have el : es.length ≤ 1000 := by have := he.length_le; rw [List.length_take] at this; omega
    walk_at "go"
    refine fsp_call (ns, (st : Int) + (i : Int)) (.cons .b (.cons .z .nil)) (show (0 : Int) ≤ (st : Int) + i by omega) ?_
    dsimp only
    generalize cellAt ns ((st : Int) + (i : Int)) = c
    have hb := fmod_b (a := c.fdiv 3) (b := (m : Int)) (by omega)
    have kg : (gs.map (·.1)).Sublist (ls.take (i + 1)) := hg.trans (by rw [ta]; exact List.sublist_append_left _ _)
    have ke : es.Sublist (ls.take (i + 1)) := he.trans (by rw [ta]; exact List.sublist_append_left _ _)
    have ge : (es ++ [a]).Sublist (ls.take (i + 1)) := by rw [ta]; exact he.append (List.Sublist.refl _)
    have gg : ((gs ++ [(a, (c.fdiv 3).fmod m)]).map (·.1)).Sublist (ls.take (i + 1)) := by rw [ta, List.map_append]; exact hg.append (List.Sublist.refl _)
    have gn : ∀ g ∈ gs ++ [(a, (c.fdiv 3).fmod m)], 0 ≤ g.2 ∧ g.2 < (m : Int) := fun g h => by
      rcases List.mem_append.mp h with h | h
      · exact hn g h
      · rw [List.mem_singleton.mp h]; exact hb
    have e1 : gs.map zG ++ [D.z (eG (a, (c.fdiv 3).fmod m))] = (gs ++ [(a, (c.fdiv 3).fmod m)]).map zG := by rw [List.map_append]; rfl
    have e2 : es.map zW ++ [zW a] = (es ++ [a]).map zW := by rw [List.map_append]; rfl
    have fin4 : ∀ (v9 : Option D) (gs' : List (Str × Int)) (es' : List Str), (gs'.map (·.1)).Sublist (ls.take (i + 1)) → (∀ g ∈ gs', 0 ≤ g.2 ∧ g.2 < (m : Int)) → es'.Sublist (ls.take (i + 1)) → Q [some (.b (.list (ns.map .int))), some (.z (.int st)), some (.b (.list (ls.map .str))), some (.z (.int m)), some (.z (.bool full)), some (.r 0), some (.r 1), some (.z (.int i)), v9] [.lst (gs'.map zG), .lst (es'.map zW)] := fun v9 gs' es' h1 h2 h3 => hQ _ _ ⟨_, _, gs', es', rfl, rfl, h1, h2, h3⟩
    cases full with
    | true =>
      walk_at "go"
      refine pGet.mk (ixD_bL (f := PyData.str) (atD_nat ha)) ?_
      walk_at "go"
      refine pGet.mk (ixD_bL (f := PyData.str) (atD_nat ha)) ?_
      walk_at "go"
      have := fin4 (some (.z (.int c))) _ _ gg gn ge
      rw [← e1, ← e2] at this
      exact this
    | false =>
      walk_at "go"
      refine pIf.mk (fun q => ?_) (fun q => ?_)
      · walk_at "go"
        refine pGet.mk (ixD_bL (f := PyData.str) (atD_nat ha)) ?_
        walk_at "go"
        refine pIf.mk (fun q => ?_) (fun q => ?_)
        · walk_at "go"
          refine pGet.mk (ixD_bL (f := PyData.str) (atD_nat ha)) ?_
          walk_at "go"
          have := fin4 (some (.z (.int c))) _ _ gg gn ge
          rw [← e1, ← e2] at this
          exact this
        · walk_at "go"
          have := fin4 (some (.z (.int c))) _ _ gg gn ke
          rw [← e1] at this
          exact this
      · walk_at "go"
        refine pIf.mk (fun q => ?_) (fun q => ?_)
        · walk_at "go"
          refine pGet.mk (ixD_bL (f := PyData.str) (atD_nat ha)) ?_
          walk_at "go"
          have := fin4 (some (.z (.int c))) _ _ kg hn ge
          rw [← e2] at this
          exact this
        · walk_at "go"
          exact fin4 (some (.z (.int c))) _ _ kg hn ke
  · rintro _ _ ⟨v7, v9, gs, es, rfl, rfl, hg, hn, he⟩
    rw [List.take_length] at hg he
    have gl : gs.length ≤ 1000 := by have := hg.length_le; rw [List.length_map] at this; omega
    have el : es.length ≤ 1000 := by have := he.length_le; omega
    walk_at "go"
    refine hk _ _ (gs, es) (.t (.cons (.r rfl (Vzs.map eG gs)) (.cons (.r rfl (Vzs.map PyData.str es)) .nil))) ⟨?_, ?_, ?_, ?_⟩
    · exact hnd.sublist hg
    · intro g h
      exact ⟨hg.subset (List.mem_map.mpr ⟨g, h, rfl⟩), hn g h⟩
    · exact hnd.sublist he
    · exact fun w h => he.subset h
def Fore (ws : List Str) (p : OR.Pr) : Prop := ∃ i j : Nat, i < j ∧ ws[i]? = some p.1 ∧ ws[j]? = some p.2
theorem fore_reach {ws : List Str} (nd : ws.Nodup) {ps : List OR.Pr} (h : ∀ p ∈ ps, Fore ws p) {a b : Str} (hr : Reach ps a b) : Fore ws (a, b) := by
  induction hr with
  | one hp => exact h _ hp
  | @step y z _ hp ih =>
    obtain ⟨i, j, hij, h1, h2⟩ := ih
    obtain ⟨k, l, hkl, h3, h4⟩ := h _ hp
    have e : j = k := by
      have hj := (List.getElem?_eq_some_iff.mp h2).1
      exact (List.getElem?_inj hj nd).mp (h2.trans h3.symm)
    exact ⟨i, l, by omega, h1, h4⟩
theorem fore_acyc {ws : List Str} (nd : ws.Nodup) {ps : List OR.Pr} (h : ∀ p ∈ ps, Fore ws p) : Acyc ps := fun a hr => by
  obtain ⟨i, j, hij, h1, h2⟩ := fore_reach nd h hr
  have hi := (List.getElem?_eq_some_iff.mp h1).1
  have e : i = j := (List.getElem?_inj hi nd).mp (h1.trans h2.symm)
  omega
def F_pairs : Fsp := fsq (fun a : List Int × List Str => [.list (a.1.map .int), .list (a.2.map .str)]) (fun a => a.2.length ≤ 1000 ∧ a.1.length ≤ 1000) (fun a (ps : List OR.Pr) => ps.length ≤ a.1.length ∧ ∀ p ∈ ps, Fore a.2 p) fun ps => .list (ps.map eP)
theorem pu_pairs : ∀ ds S K KX, lent F_pairs ds S K KX → ws__law_pairs { nx := fun _ S1 => K (.z .none) S1, rt := K, ex := fun y _ S1 => KX y S1 } (startE nm__law_pairs ds) S := by
  refine fsq_ok fun ⟨cs, ws⟩ ⟨hl, hc⟩ K KX hk => ?_
  dsimp only at hl hc hk
  walk_at "go"
  rw [List.length_map]
  refine pIf.mk (fun q => ?_) (fun q => by
    walk_at "go"
    exact hk _ _ [] (.r rfl .nil) ⟨Nat.zero_le _, fun p h => (by cases h)⟩)
  have q : ((ws.length : Nat) : Int) > 1 := of_decide_eq_true q
  have h2 : 2 ≤ ws.length := by omega
  walk_at "go"
  refine pFor_xs cs (fun i => .z (.int i)) (bz_ints cs) (fun i env S => ∃ v4 v5 v6 ps, env = [some (.b (.list (cs.map .int))), some (.b (.list (ws.map .str))), some (.z (.int ws.length)), some (.r 0), v4, v5, v6] ∧ S[0]? = some (.lst (ps.map zP)) ∧ ps.length ≤ i ∧ ∀ p ∈ ps, Fore ws p) ⟨_, _, _, [], rfl, rfl, Nat.le_refl _, fun _ h => by cases h⟩ (fun _ _ _ _ _ => trivial) ?_ ?_
  · rintro i c _ S Q hci ⟨v4, v5, v6, ps, rfl, h0, hpl, hF⟩ hQ
    have hi := (List.getElem?_eq_some_iff.mp hci).1
    have hlt := (List.getElem?_eq_some_iff.mp h0).1
    have b1 := fmod_b (a := c) (b := (ws.length : Int) - 1) (by omega)
    obtain ⟨a, ha⟩ : ∃ a : Nat, c.fmod ((ws.length : Int) - 1) = (a : Int) := ⟨(c.fmod ((ws.length : Int) - 1)).toNat, by omega⟩
    rw [ha] at b1
    have b2 := fmod_b (a := c.fdiv 7) (b := (ws.length : Int) - 1 - a) (by omega)
    obtain ⟨b, hb⟩ : ∃ b : Nat, (a : Int) + 1 + (c.fdiv 7).fmod ((ws.length : Int) - 1 - a) = (b : Int) := ⟨((a : Int) + 1 + (c.fdiv 7).fmod ((ws.length : Int) - 1 - a)).toNat, by omega⟩
    walk_at "go"
    rw [ha]
    walk_at "go"
    rw [hb]
    have ea : ws[a]? = some (ws[a]'(by omega)) := List.getElem?_eq_getElem _
    have eb : ws[b]? = some (ws[b]'(by omega)) := List.getElem?_eq_getElem _
    generalize ws[a]'(by omega) = x at ea
    generalize ws[b]'(by omega) = y at eb
    walk_at "go"
    refine pGet.mk (ixD_bL (atD_nat ea)) ?_
    walk_at "go"
    refine pGet.mk (ixD_bL (atD_nat eb)) ?_
    walk_at "go"
    refine hQ _ _ ⟨_, _, _, ps ++ [(x, y)], rfl, ?_, by simp; omega, fun p hp => ?_⟩
    · rw [List.getElem?_set_self hlt, List.map_append]; rfl
    · rcases List.mem_append.mp hp with h | h
      · exact hF p h
      · rw [List.mem_singleton.mp h]; exact ⟨a, b, by omega, ea, eb⟩
  · rintro _ S ⟨v4, v5, v6, ps, rfl, h0, hpl, hF⟩
    walk_at "go"
    exact hk _ _ ps (.r h0 (Vzs.map _ _)) ⟨hpl, hF⟩
end K75

set_option Elab.async false
set_option linter.all false
set_option maxRecDepth 100000
set_option maxHeartbeats 1000000
namespace K75
open PySem L2 PL NE
open ND (cutL_map cutL_len cutL_mem bz_ints LwN isNm alpha alpha_eq alpha_at getA ixD_zA ixD_bA app_list one_len getI getI_at getI_mem)
local macro_rules | `(tactic| walk_at "st1") => `(tactic| first | assumption | exact sto_last | exact sto_r0 | exact sto_r1 | exact sto_r2 | exact sto_r3 | exact sto_r4)
local macro_rules | `(tactic| walk_at "sto") => `(tactic| first | walk_at "st1" | exact sto_app (by walk_at "st1") | exact sto_app (sto_app (by walk_at "st1")))
local macro_rules | `(tactic| walk_at "sz") => `(tactic| ((try simp only [List.length_map, List.length_range, List.length_append, List.length_cons, List.length_nil]); omega))
local macro_rules | `(tactic| walk_at "go") => `(tactic| ((try (conv => whnf)); repeat ((first | (show pIf _ _ _; first | refine pIf.tt rfl ?_ | refine pIf.ff rfl ?_) | (show pReq _ _; first | refine pReq.mk rfl ?_ | refine pReq.mk (sz_le rfl) ?_ | refine pReq.mk (sz_lt rfl) ?_ | refine pReq.mk (by decide) ?_ | refine pReq.mk (Or.inr (by decide)) ?_ | refine pReq.mk (Or.inl (by decide)) ?_ | refine pReq.mk (by assumption) ?_ | refine pReq.mk (isTy_l (by walk_at "sto")) ?_ | refine pReq.mk (by omega) ?_ | refine pReq.mk (sz_lt6 (by walk_at "sz")) ?_ | refine pReq.mk (sz_le6 (by walk_at "sz")) ?_ | refine pReq.mk (by walk_at "sz") ?_) | (show pGet _ _; first | refine pGet.mk rfl ?_ | refine pGet.mk (by walk_at "sto") ?_ | refine pGet.mk (lenD_at (by walk_at "sto")) ?_ | refine pGet.mk (sqD_at (by walk_at "sto")) ?_ | refine pGet.mk (lsD_at (by walk_at "sto")) ?_ | refine pGet.mk (lsR_at (by walk_at "sto")) ?_ | refine pGet.mk (srcD_at (by walk_at "sto")) ?_ | refine pGet.mk (tyD_l (by walk_at "sto")) ?_)); (try (conv => whnf)))))
open OR (eP nextsL Reach DInv DIn meas BInv BIn measB lastOf Wy Chn OIn Ord SLt)
open TB (XSt eG zG eSt XTab eTab rSt rTab bzSt)
open OR (Pr eP Reach Ord PLt)
open TT
def F_lbare : Fsp := fsp (fun os : List Pr => [.list (os.map eP)]) (fun os => os.length ≤ 10000 ∧ PsOk os) fun os => .list ((bareL os).map eP)
theorem pu_lbare : ∀ ds S K KX, lent F_lbare ds S K KX → ws__law_bare { nx := fun _ S1 => K (.z .none) S1, rt := K, ex := fun y _ S1 => KX y S1 } (startE nm__law_bare ds) S := by
  refine fsp_ok fun os ⟨hl, ho⟩ K KX hk => ?_
  walk_at "go"
  refine pFor_xs os (fun p => .z (eP p)) (bzsP2 os) (fun i env S => ∃ v2 v3, env = [some (.b (.list (os.map eP))), some (.r 0), v2, v3, none, none] ∧ S[0]? = some (.lst (((os.take i).filter fun p => decide (btw os p = [])).map zP))) ⟨_, _, rfl, rfl⟩ (fun _ _ _ _ _ => trivial) ?_ ?_
  · rintro i p _ S Q hp ⟨v2, v3, rfl, h0⟩ hQ
    have hpm := List.mem_of_getElem? hp
    have hpk := ho p hpm
    dsimp only [_law_bare_b1]
    walk_at "go"
    refine pLc_mapE os (fun p => .z (eP p)) (fun q => zW q.2) (fun q => decide (q.1 = p.1 ∧ (q.2, p.2) ∈ os)) (bzsP2 os) (by omega) (fun _ => trivial) (fun q hq => ⟨_, rfl, fun S1 K1 _ h => ?_, fun _ S1 K1 _ h => ?_⟩) ?_
    · have hqk := ho q hq
      dsimp only [_law_bare_c1]
      walk_at "go"
      refine pIf.mk (fun c1 => ?_) (fun c1 => ?_)
      · have c1 := of_decide_eq_true c1
        walk_at "go"
        refine bIn_p (p := (q.2, p.2)) .z .b ⟨hqk.2, hpk.2⟩ ho ?_
        rw [show decide (q.1 = p.1 ∧ (q.2, p.2) ∈ os) = decide ((q.2, p.2) ∈ os) from by simp [c1]] at h
        exact h
      · have c1 := of_decide_eq_false c1
        rw [show decide (q.1 = p.1 ∧ (q.2, p.2) ∈ os) = false from decide_eq_false fun z => c1 z.1] at h
        exact h
    · walk_at "go"
      exact h
    have eb : (os.filter fun q => decide (q.1 = p.1 ∧ (q.2, p.2) ∈ os)) = btw os p := rfl
    rw [eb]
    have hbl : (btw os p).length ≤ 10000 := Nat.le_trans (List.length_filter_le _ _) hl
    have emm : (btw os p).map (fun q => zW q.2) = ((btw os p).map (·.2)).map zW := by rw [List.map_map]; rfl
    rw [emm]
    walk_at "go"
    refine bNe_nilG (n := 0) (a := (btw os p).map (·.2)) (f := PyData.str) (.r (sto_app sto_last) (Vws.map _ _)) (fun x hx => by
      obtain ⟨q, hq, rfl⟩ := List.mem_map.mp hx
      exact .str (ho q (List.mem_filter.mp hq).1).2) (by decide) (.r sto_last .nil) ?_
    have hlt := (List.getElem?_eq_some_iff.mp h0).1
    have hfl : ((os.take i).filter fun p => decide (btw os p = [])).length ≤ 10000 := Nat.le_trans (List.length_filter_le _ _) (by rw [List.length_take]; omega)
    have h0' : (S ++ [Ob.lst (((btw os p).map (·.2)).map zW)] ++ [Ob.lst []])[0]? = some (.lst (((os.take i).filter fun p => decide (btw os p = [])).map zP)) := sto_app (sto_app h0)
    walk_at "go"
    refine pIf.mk (fun c => ?_) (fun c => ?_)
    · have c : btw os p = [] := by have := of_decide_eq_true c; rwa [List.map_eq_nil_iff] at this
      have hfl2 : (((os.take i).filter fun p => decide (btw os p = [])).map zP).length < sizeLine := Nat.lt_of_le_of_lt (m := 10000) (by rw [List.length_map]; exact hfl) (by decide)
      walk_at "go"
      refine hQ _ _ ⟨_, _, rfl, ?_⟩
      rw [List.getElem?_set_self (by rw [List.length_append, List.length_append]; omega), bare_take hp, if_pos c, List.map_append]
      rfl
    · have c : btw os p ≠ [] := fun z => of_decide_eq_false c (by rw [List.map_eq_nil_iff]; exact z)
      walk_at "go"
      refine hQ _ _ ⟨_, _, rfl, ?_⟩
      rw [bare_take hp, if_neg c, List.append_nil]
      exact h0'
  · rintro _ S ⟨v2, v3, rfl, h0⟩
    rw [List.take_of_length_le (Nat.le_refl _)] at h0
    walk_at "go"
    exact hk _ _ (.r h0 (Vzs.map _ _))
theorem ne_pos {α : Type} {W : List α} {h : Decidable (W = [])} (c : (!(@decide (W = []) h)) = true) : W ≠ [] := fun z => by subst z; simp at c
theorem ne_neg {α : Type} {W : List α} {h : Decidable (W = [])} (c : (!(@decide (W = []) h)) = false) : W = [] := by
  rcases Classical.em (W = []) with z | z
  · exact z
  · rw [decide_eq_false z] at c; exact absurd c (by decide)
def F_comma : Fsp := fsp (fun rows : List Pr => [.list (rows.map eP)]) (fun rows => rows.length ≤ 3000 ∧ ∀ p ∈ rows, WdOk p.1 ∧ WdOk p.2) fun rows => .list ((inter (Str.ofString ",") (rows.map wPr)).map .str)
theorem pu_comma : ∀ ds S K KX, lent F_comma ds S K KX → ws__law_comma { nx := fun _ S1 => K (.z .none) S1, rt := K, ex := fun y _ S1 => KX y S1 } (startE nm__law_comma ds) S := by
  refine fsp_ok fun rows ⟨hl, hw⟩ K KX hk => ?_
  have hkm : PyData.strOk (Str.ofString ",") = true := by decide +kernel
  walk_at "go"
  refine pFor_xs rows (fun p => .z (eP p)) (bzsP2 rows) (fun i env S => ∃ n v2, env = [some (.b (.list (rows.map eP))), some (.r n), v2] ∧ S[n]? = some (.lst ((inter (Str.ofString ",") ((rows.take i).map wPr)).map zW))) ⟨_, _, rfl, rfl⟩ (fun _ _ _ _ _ => trivial) ?_ ?_
  · rintro i p _ S Q hp ⟨n, v2, rfl, h0⟩ hQ
    have hpm := List.mem_of_getElem? hp
    have hlt := (List.getElem?_eq_some_iff.mp h0).1
    have hgi : (rows.map wPr)[i]? = some (wPr p) := by rw [List.getElem?_map, hp]; rfl
    have ht := take_inter (s := Str.ofString ",") hgi (fun g hg => by obtain ⟨q, _, rfl⟩ := List.mem_map.mp hg; exact wPr_ne q)
    have hil := inter_take_len (s := Str.ofString ",") (rows.map wPr) i
    rw [← List.map_take, ← List.map_take] at ht
    rw [← List.map_take, sum3] at hil
    have hsh : ∀ x ∈ inter (Str.ofString ",") ((rows.take i).map wPr), Shp 0 (PyData.str x) := fun x hx => by
      rcases rows_wd (fun q hq => hw q (List.mem_of_mem_take hq)) hx with rfl | h
      · exact .str hkm
      · exact .str h.k
    generalize inter (Str.ofString ",") ((rows.take i).map wPr) = W at h0 hil ht hsh
    have h0' : (S ++ [Ob.lst []])[n]? = some (.lst (W.map zW)) := sto_app h0
    have hWl : (W.map zW).length < sizeLine := Nat.lt_of_le_of_lt (m := 10000) (by rw [List.length_map]; omega) (by decide)
    dsimp only [_law_comma_b1]
    walk_at "go"
    refine bNe_nilG (a := W) (f := PyData.str) (.r h0' (Vws.map _ _)) hsh (by decide) (.r sto_last .nil) ?_
    walk_at "go"
    refine pIf.mk (fun c => ?_) (fun c => ?_)
    · have c := ne_pos c
      rw [if_neg c] at ht
      walk_at "go"
      have h1 : ((S ++ [Ob.lst []]).set n (.lst (W.map zW ++ [D.z (.str (Str.ofString ","))])))[n]? = some (.lst ((W ++ [Str.ofString ","]).map zW)) := by
        rw [List.getElem?_set_self (by rw [List.length_append]; omega), List.map_append]; rfl
      have h1a := sto_app (T := [Ob.lst [zW p.1, zW p.2]]) h1
      have hz : ((W ++ [Str.ofString ","]).map zW).length + 2 ≤ sizeLine := Nat.le_trans (m := 20000) (by rw [List.length_map, List.length_append]; simp; omega) (by decide)
      walk_at "go"
      refine hQ _ _ ⟨_, _, rfl, ?_⟩
      rw [ht]
      refine sto_last.trans ?_
      simp [wPr]
    · have c := ne_neg c
      rw [if_pos c] at ht
      have h1a := sto_app (T := [Ob.lst [zW p.1, zW p.2]]) h0'
      have hz : (W.map zW).length + 2 ≤ sizeLine := Nat.le_trans (m := 20000) (by rw [List.length_map]; omega) (by decide)
      walk_at "go"
      refine hQ _ _ ⟨_, _, rfl, ?_⟩
      rw [ht]
      refine sto_last.trans ?_
      rw [c]
      simp [wPr]
  · rintro _ S ⟨n, v2, rfl, h0⟩
    rw [List.take_of_length_le (Nat.le_refl _)] at h0
    walk_at "go"
    exact hk _ _ (.r h0 (Vzs.map _ _))
end K75

set_option Elab.async false
set_option linter.all false
set_option maxRecDepth 100000
set_option maxHeartbeats 1000000
namespace K75
open PySem L2 PL NE
open ND (cutL_map cutL_len cutL_mem bz_ints LwN isNm alpha alpha_eq alpha_at getA ixD_zA ixD_bA app_list one_len getI getI_at getI_mem)
local macro_rules | `(tactic| walk_at "st1") => `(tactic| first | assumption | exact sto_last | exact sto_r0 | exact sto_r1 | exact sto_r2 | exact sto_r3 | exact sto_r4)
local macro_rules | `(tactic| walk_at "sto") => `(tactic| first | walk_at "st1" | exact sto_app (by walk_at "st1") | exact sto_app (sto_app (by walk_at "st1")))
local macro_rules | `(tactic| walk_at "sz") => `(tactic| ((try simp only [List.length_map, List.length_range, List.length_append, List.length_cons, List.length_nil]); omega))
local macro_rules | `(tactic| walk_at "go") => `(tactic| ((try (conv => whnf)); repeat ((first | (show pIf _ _ _; first | refine pIf.tt rfl ?_ | refine pIf.ff rfl ?_) | (show pReq _ _; first | refine pReq.mk rfl ?_ | refine pReq.mk (sz_le rfl) ?_ | refine pReq.mk (sz_lt rfl) ?_ | refine pReq.mk (by decide) ?_ | refine pReq.mk (Or.inr (by decide)) ?_ | refine pReq.mk (Or.inl (by decide)) ?_ | refine pReq.mk (by assumption) ?_ | refine pReq.mk (isTy_l (by walk_at "sto")) ?_ | refine pReq.mk (by omega) ?_ | refine pReq.mk (sz_lt6 (by walk_at "sz")) ?_ | refine pReq.mk (sz_le6 (by walk_at "sz")) ?_ | refine pReq.mk (by walk_at "sz") ?_) | (show pGet _ _; first | refine pGet.mk rfl ?_ | refine pGet.mk (by walk_at "sto") ?_ | refine pGet.mk (lenD_at (by walk_at "sto")) ?_ | refine pGet.mk (sqD_at (by walk_at "sto")) ?_ | refine pGet.mk (lsD_at (by walk_at "sto")) ?_ | refine pGet.mk (lsR_at (by walk_at "sto")) ?_ | refine pGet.mk (srcD_at (by walk_at "sto")) ?_ | refine pGet.mk (tyD_l (by walk_at "sto")) ?_)); (try (conv => whnf)))))
open OR (eP nextsL Reach DInv DIn meas BInv BIn measB lastOf Wy Chn OIn Ord SLt)
open TB (XSt eG zG eSt XTab eTab rSt rTab bzSt)
open OR (Pr eP Reach Ord PLt)
open TT
structure WPre (a : List XSt × Int × List Pr) : Prop where
  s : ∀ s ∈ a.1, SPar s
  n : a.1.length ≤ 8
  i : ∃ k : Nat, a.2.1 = (k : Int) ∧ k < 10
  o : ∀ p ∈ a.2.2, WdOk p.1 ∧ WdOk p.2
  l : a.2.2.length ≤ 3000
def F_words : Fsp := fsp (fun a : List XSt × Int × List Pr => [.list (a.1.map eSt), .int a.2.1, .list (a.2.2.map eP)]) WPre fun a => .list ((wTb a.1 a.2.1 a.2.2).map .str)
theorem pu_words : ∀ ds S K KX, lent F_words ds S K KX → ws__law_words (frz F_comma) { nx := fun _ S1 => K (.z .none) S1, rt := K, ex := fun y _ S1 => KX y S1 } (startE nm__law_words ds) S := by
  refine fsp_ok fun ⟨ss, n, os⟩ ⟨hs, hn8, ⟨k, hk0, hk10⟩, ho, hol⟩ K KX hk => ?_
  dsimp only at hs hn8 hk0 ho hol hk
  subst hk0
  have hsl := sts_len hs
  have ebz : ∀ ws : List Str, (ws.map PyData.str).map D.z = ws.map zW := fun ws => by rw [List.map_map]; rfl
  have ebz2 : ∀ ws : List Str, (ws.map PyData.str).map bz = ws.map zW := fun ws => by rw [List.map_map]; rfl
  walk_at "go"
  refine pFor_xs ss (fun s => .b (eSt s)) (by show (ss.map eSt).map bz = _; rw [List.map_map]; exact List.map_congr_left fun s _ => bzSt s) (fun i env S => ∃ m v4 v5, env = [some (.b (.list (ss.map eSt))), some (.z (.int (k : Int))), some (.b (.list (os.map eP))), some (.r m), v4, v5, none, none] ∧ S[m]? = some (.lst ((inter cSl ((ss.take i).map wSt)).map zW))) ⟨_, _, _, rfl, rfl⟩ (fun _ _ _ _ _ => trivial) ?_ ?_
  · rintro i s _ S Q hi ⟨m, v4, v5, rfl, h0⟩ hQ
    have hsm := List.mem_of_getElem? hi
    have hsp := hs s hsm
    have hlt := (List.getElem?_eq_some_iff.mp h0).1
    have hgi : (ss.map wSt)[i]? = some (wSt s) := by rw [List.getElem?_map, hi]; rfl
    have ht := take_inter (s := cSl) hgi (fun g hg => by obtain ⟨s, _, rfl⟩ := List.mem_map.mp hg; exact wSt_ne s)
    have hil := inter_take_len (s := cSl) (ss.map wSt) i
    rw [← List.map_take, ← List.map_take] at ht
    rw [← List.map_take] at hil
    have hsh0 : ∀ x ∈ inter cSl ((ss.take i).map wSt), Shp 0 (PyData.str x) := fun x hx => by
      have hkm : PyData.strOk cSl = true ∧ PyData.strOk (Str.ofString ",") = true ∧ PyData.strOk (Str.ofString ":") = true := by decide +kernel
      rcases sts_mem (fun s h => hs s (List.mem_of_mem_take h)) hx with rfl | rfl | rfl | h
      · exact .str hkm.1
      · exact .str hkm.2.1
      · exact .str hkm.2.2
      · exact .str h.k
    generalize inter cSl ((ss.take i).map wSt) = W at h0 hil ht hsh0
    have hlS := hsp.l
    have h0' : (S ++ [Ob.lst []])[m]? = some (.lst (W.map zW)) := sto_app h0
    have hWl : (W.map zW).length < sizeLine := Nat.lt_of_le_of_lt (m := 10000) (by rw [List.length_map]; omega) (by decide)
    have rest : ∀ (W2 : List Str) (S2 : Sto) (k2 : KS), k2.nx = Q → W2.length ≤ 5000 → S2[m]? = some (.lst (W2.map zW)) → W2 ++ wSt s = inter cSl ((ss.take (i + 1)).map wSt) →
        (wAsg (w2 pAdd (w2 pAdd (w2 pAdd (wVar 3) (wFn (frz F_comma) [] (wCons (wLc (wIt (wVar 4)) (tgT [6, 7]) wYes _law_words_e1 [6, 7]) wNil))) (wLst (wCons (wC (.str (PySem.Str.ofString ":"))) wNil))) (wVar 5)) (gN 3)) k2 [some (.b (.list (ss.map eSt))), some (.z (.int (k : Int))), some (.b (.list (os.map eP))), some (.r m), some (.b (.list (s.1.map eG))), some (.b (.list (s.2.map .str))), none, none] S2 := by
      intro W2 S2 k2 hk2 hWl2 h02 he
      have hlt2 := (List.getElem?_eq_some_iff.mp h02).1
      walk_at "go"
      refine pLc_allE s.1 zG (fun g => .z (eP (gPr g))) (zsG s.1) (by omega) (fun _ => trivial) (fun g hg => ⟨_, rfl, fun S3 K3 _ h3 => ?_⟩) ?_
      · have hlg := log_small (hsp.g g hg).2
        dsimp only [_law_words_e1]
        walk_at "go"
        exact h3
      have e0 : (s.1.map fun g => D.z (eP (gPr g))) = (s.1.map gPr).map fun p => D.z (eP p) := by rw [List.map_map]; rfl
      rw [e0]
      have h03 := sto_app (T := [Ob.lst ((s.1.map gPr).map fun p => D.z (eP p))]) h02
      have hrl := rows_len (s.1.map gPr)
      rw [List.length_map] at hrl
      walk_at "go"
      refine fsp_call (s.1.map gPr) (.cons (.r sto_last (Vws.map _ _)) .nil) ⟨by rw [List.length_map]; omega, hsp.wd⟩ ?_
      generalize S2 ++ [Ob.lst ((s.1.map gPr).map fun p => D.z (eP p))] = S3 at h03 ⊢
      have hz1 : (W2.map zW).length + (((inter (Str.ofString ",") ((s.1.map gPr).map wPr)).map PyData.str).map D.z).length ≤ sizeLine := Nat.le_trans (m := 20000) (by rw [List.length_map, List.length_map, List.length_map]; omega) (by decide)
      walk_at "go"
      rw [ebz, ebz2]
      show k2.nx _ _
      rw [hk2]
      refine hQ _ _ ⟨_, _, _, rfl, sto_last.trans ?_⟩
      rw [← he]
      unfold wSt
      rw [rowsG]
      simp
    dsimp only [_law_words_b1]
    generalize (wAsg (w2 pAdd (w2 pAdd (w2 pAdd (wVar 3) (wFn (frz F_comma) [] (wCons (wLc (wIt (wVar 4)) (tgT [6, 7]) wYes _law_words_e1 [6, 7]) wNil))) (wLst (wCons (wC (.str (PySem.Str.ofString ":"))) wNil))) (wVar 5)) (gN 3)) = B at rest ⊢
    walk_at "go"
    refine bNe_nilG (a := W) (f := PyData.str) (.r h0' (Vws.map _ _)) hsh0 (by decide) (.r sto_last .nil) ?_
    walk_at "go"
    refine pIf.mk (fun c => ?_) (fun c => ?_)
    · have c := ne_pos c
      rw [if_neg c] at ht
      walk_at "go"
      have h1 : ((S ++ [Ob.lst []]).set m (.lst (W.map zW ++ [D.z (.str cSl)])))[m]? = some (.lst ((W ++ [cSl]).map zW)) := by
        rw [List.getElem?_set_self (by rw [List.length_append]; omega), List.map_append]; rfl
      refine rest (W ++ [cSl]) _ _ ?_ (by rw [List.length_append]; simp; omega) h1 (by rw [ht]; simp)
      rfl
    · have c := ne_neg c
      rw [if_pos c] at ht
      walk_at "go"
      refine rest W _ _ ?_ (by omega) h0' (by rw [ht, c]; rfl)
      rfl
  · rintro _ S ⟨m, v4, v5, rfl, h0⟩
    rw [List.take_of_length_le (Nat.le_refl _)] at h0
    have hil := inter_len (s := cSl) (ss.map wSt)
    have hlk := log_small (i := (k : Int)) (by omega)
    have hrl := rows_len os
    have ewt : wTb ss (k : Int) os = (inter cSl (ss.map wSt) ++ [cBar, (toString ((k : Nat) : Int) : Str), cBar]) ++ inter (Str.ofString ",") (os.map wPr) := rfl
    generalize inter cSl (ss.map wSt) = W at h0 hil ewt
    have h0a := sto_app (T := [Ob.lst [zW cBar, zW (toString ((k : Nat) : Int)), zW cBar]]) h0
    have hz : (W.map zW).length + 3 ≤ sizeLine := Nat.le_trans (m := 20000) (by rw [List.length_map]; omega) (by decide)
    have hz2 : (W.map zW ++ [zW cBar, zW (toString ((k : Nat) : Int)), zW cBar]).length + (((inter (Str.ofString ",") (os.map wPr)).map PyData.str).map D.z).length ≤ sizeLine := Nat.le_trans (m := 20000) (by
      rw [List.length_append, List.length_map, List.length_map, List.length_map]
      show W.length + 3 + _ ≤ _
      omega) (by decide)
    dsimp only [_law_words_r1]
    walk_at "go"
    refine fsp_call os (.cons .b .nil) ⟨hol, ho⟩ ?_
    walk_at "go"
    rw [ebz]
    refine hk _ _ (.r (sto_last.trans ?_) (Vzs.map PyData.str (wTb ss (k : Int) os)))
    rw [ewt]
    simp
end K75

set_option Elab.async false
set_option linter.all false
set_option maxRecDepth 100000
set_option maxHeartbeats 1000000
namespace K75
open PySem L2 PL NE
open ND (cutL_map cutL_len cutL_mem bz_ints LwN isNm alpha alpha_eq alpha_at getA ixD_zA ixD_bA app_list one_len getI getI_at getI_mem)
local macro_rules | `(tactic| walk_at "st1") => `(tactic| first | assumption | exact sto_last | exact sto_r0 | exact sto_r1 | exact sto_r2 | exact sto_r3 | exact sto_r4)
local macro_rules | `(tactic| walk_at "sto") => `(tactic| first | walk_at "st1" | exact sto_app (by walk_at "st1") | exact sto_app (sto_app (by walk_at "st1")))
local macro_rules | `(tactic| walk_at "sz") => `(tactic| ((try simp only [List.length_map, List.length_range, List.length_append, List.length_cons, List.length_nil]); omega))
local macro_rules | `(tactic| walk_at "go") => `(tactic| ((try (conv => whnf)); repeat ((first | (show pIf _ _ _; first | refine pIf.tt rfl ?_ | refine pIf.ff rfl ?_) | (show pReq _ _; first | refine pReq.mk rfl ?_ | refine pReq.mk (sz_le rfl) ?_ | refine pReq.mk (sz_lt rfl) ?_ | refine pReq.mk (by decide) ?_ | refine pReq.mk (Or.inr (by decide)) ?_ | refine pReq.mk (Or.inl (by decide)) ?_ | refine pReq.mk (by assumption) ?_ | refine pReq.mk (isTy_l (by walk_at "sto")) ?_ | refine pReq.mk (by omega) ?_ | refine pReq.mk (sz_lt6 (by walk_at "sz")) ?_ | refine pReq.mk (sz_le6 (by walk_at "sz")) ?_ | refine pReq.mk (by walk_at "sz") ?_) | (show pGet _ _; first | refine pGet.mk rfl ?_ | refine pGet.mk (by walk_at "sto") ?_ | refine pGet.mk (lenD_at (by walk_at "sto")) ?_ | refine pGet.mk (sqD_at (by walk_at "sto")) ?_ | refine pGet.mk (lsD_at (by walk_at "sto")) ?_ | refine pGet.mk (lsR_at (by walk_at "sto")) ?_ | refine pGet.mk (srcD_at (by walk_at "sto")) ?_ | refine pGet.mk (tyD_l (by walk_at "sto")) ?_)); (try (conv => whnf)))))
open OR (eP nextsL Reach DInv DIn meas BInv BIn measB lastOf Wy Chn OIn Ord SLt)
open TB (XSt eG zG eSt XTab eTab rSt rTab bzSt)
open OR (Pr eP Reach Ord PLt)
open TT
def F_kinds : Fsp := fsp (fun t : XTab => [eTab t]) (fun t => t.states.length ≤ 100) fun _ => .bool true
theorem pu_kinds : ∀ ds S K KX, lent F_kinds ds S K KX → ws__law_kinds { nx := fun _ S1 => K (.z .none) S1, rt := K, ex := fun y _ S1 => KX y S1 } (startE nm__law_kinds ds) S := by
  refine fsp_ok fun t _ K KX hk => ?_
  have hb := bzTab t
  simp only [List.map_cons, List.map_nil, hb]
  walk_at "go"
  refine pFor_xs t.states (fun s => .b (eSt s)) (by show (t.states.map eSt).map bz = _; rw [List.map_map]; exact List.map_congr_left fun s _ => bzSt s) (fun i env S => ∃ v1 v2, env = [some (.b (eTab t)), v1, v2]) ⟨_, _, rfl⟩ (fun _ _ _ _ _ => trivial) ?_ ?_
  · rintro i s _ S Q hi ⟨v1, v2, rfl⟩ hQ
    dsimp only [_law_kinds_b2]
    walk_at "go"
    refine pFor_xs s.1 zG (zsG s.1) (fun i env S => ∃ v2, env = [some (.b (eTab t)), some (.b (eSt s)), v2]) ⟨_, rfl⟩ (fun _ _ _ _ _ => trivial) ?_ ?_
    · rintro j g _ S1 Q2 hj ⟨v2, rfl⟩ hQ2
      dsimp only [_law_kinds_b1]
      walk_at "go"
      exact hQ2 _ _ ⟨_, rfl⟩
    · rintro _ S1 ⟨v2, rfl⟩
      walk_at "go"
      exact hQ _ _ ⟨_, _, rfl⟩
  · rintro _ S ⟨v1, v2, rfl⟩
    walk_at "go"
    exact hk _ _ .z
theorem upG {gs : List (Str × Int)} (h : gs.Nodup) : OD.Up eG (sortG gs) := OD.up_sort h (fun a _ b _ => by simp [eG, PySem.W.alike, PySem.W.alikeAll]) fun a _ b _ e => by
  obtain ⟨a1, a2⟩ := a
  obtain ⟨b1, b2⟩ := b
  simp [eG, PyData.eqv, PyData.eqvAll] at e
  rw [e.1, e.2]
theorem upW {ws : List Str} (h : ws.Nodup) : OD.Up PyData.str (sortW ws) := OD.up_sort h (fun a _ b _ => by simp [PySem.W.alike]) fun a _ b _ e => by simpa [PyData.eqv] using e
theorem sortG_perm {gs hs : List (Str × Int)} (h : gs.Nodup) (p : hs.Perm gs) : sortG hs = sortG gs := OD.sort_up (upG h) ((List.mergeSort_perm gs _).trans p.symm)
theorem sortW_perm {gs hs : List Str} (h : gs.Nodup) (p : hs.Perm gs) : sortW hs = sortW gs := OD.sort_up (upW h) ((List.mergeSort_perm gs _).trans p.symm)
def PermSt (s' s : XSt) : Prop := s'.1.Perm s.1 ∧ s'.2.Perm s.2
theorem PermSt.sort {ls : List Str} {m : Nat} {s' s : XSt} (h : PermSt s' s) (hs : StOk ls m s) : sortSt s' = sortSt s := by
  have h1 : s.1.Nodup := by
    have := hs.nd
    exact (List.pairwise_map.mp this).imp fun h e => h (by rw [e])
  unfold sortSt
  rw [sortG_perm h1 h.1, sortW_perm hs.ne h.2]
theorem PermSt.ok {ls : List Str} {m : Nat} {s' s : XSt} (h : PermSt s' s) (hs : StOk ls m s) : StOk ls m s' := ⟨(h.1.map _).nodup_iff.mpr hs.nd, fun g hg => hs.go g (h.1.mem_iff.mp hg), h.2.nodup_iff.mpr hs.ne, fun w hw => hs.en w (h.2.mem_iff.mp hw)⟩
theorem perm_sort (s : XSt) : PermSt (sortSt s) s := ⟨List.mergeSort_perm _ _, List.mergeSort_perm _ _⟩
def rotSt (c : Int) (s : XSt) : XSt := (rotL s.1 c, rotL s.2 (c.fdiv 8))
theorem perm_rot (c : Int) (s : XSt) : PermSt (rotSt c s) s := ⟨rot_perm _ _, rot_perm _ _⟩
theorem tabok_of {ls : List Str} {m : Nat} {ss : List XSt} {ps : List Pr} {inn : Int} (hl : ls.length ≤ 8) (hn : ∀ l ∈ ls, isNameB l = true) (hss : ∀ s ∈ ss, StOk ls m s) (hsl : ss.length = m) (hm : m ≤ 8) (hi : 0 ≤ inn ∧ inn < m) (hpl : ps.length ≤ 40) (hpm : ∀ p ∈ ps, p.1 ∈ ls ∧ p.2 ∈ ls) (hac : Acyc ps) : TabOk (ss, inn, ps) := by
  refine ⟨⟨show ss.length ≤ 8 by omega, show ps.length ≤ 40 by omega, fun s hs => ?_⟩, fun l hl => ?_, fun n hn => ?_, fun s hs => ⟨(hss s hs).nd, (hss s hs).ne⟩, hac⟩
  · have := (hss s hs).l1
    have := (hss s hs).l2
    omega
  · rcases List.mem_append.mp hl with hl | hl
    · obtain ⟨s, hs, hl⟩ := List.mem_flatMap.mp hl
      rcases List.mem_append.mp hl with hl | hl
      · obtain ⟨g, hg, rfl⟩ := List.mem_map.mp hl
        exact hn _ ((hss s hs).go g hg).1
      · exact hn _ ((hss s hs).en l hl)
    · obtain ⟨p, hp, hl⟩ := List.mem_flatMap.mp hl
      rcases List.mem_cons.mp hl with rfl | hl
      · exact hn _ (hpm p hp).1
      · rw [List.mem_singleton.mp hl]; exact hn _ (hpm p hp).2
  · dsimp only at hn ⊢
    rw [hsl]
    rcases List.mem_cons.mp hn with rfl | hn
    · exact hi
    · obtain ⟨s, hs, hl⟩ := List.mem_flatMap.mp hn
      obtain ⟨g, hg, rfl⟩ := List.mem_map.mp hl
      exact ((hss s hs).go g hg).2
def foreL (ls : List Str) : List Pr := (List.range ls.length).flatMap fun j => (List.range j).map fun i => (ls.getD i (Str.ofString ""), ls.getD j (Str.ofString ""))
theorem fore_len {ls : List Str} (h : ls.length ≤ 8) : (foreL ls).length ≤ 28 := by
  have e : (foreL ls).length = ((List.range ls.length).map fun j => j).sum := by
    unfold foreL
    rw [List.length_flatMap]
    congr 1
    exact List.map_congr_left fun j _ => by simp
  rw [e]
  have k : ∀ n : Fin 9, ((List.range n.val).map fun j => j).sum ≤ 28 := by decide
  exact k ⟨ls.length, by omega⟩
theorem fore_in {ls : List Str} {p : Pr} (h : Fore ls p) : p ∈ foreL ls := by
  obtain ⟨i, j, hij, h1, h2⟩ := h
  have hj := (List.getElem?_eq_some_iff.mp h2).1
  refine List.mem_flatMap.mpr ⟨j, List.mem_range.mpr hj, List.mem_map.mpr ⟨i, List.mem_range.mpr hij, ?_⟩⟩
  rw [List.getD_eq_getElem?_getD, List.getD_eq_getElem?_getD, h1, h2]; rfl
theorem ord_few {ls : List Str} {ps os : List Pr} (hl : ls.length ≤ 8) (nd : ls.Nodup) (hf : ∀ p ∈ ps, Fore ls p) (h : Ord ps os) : os.length ≤ 28 := by
  have hnd : os.Nodup := h.so.imp fun {a b} k e => by subst e; exact PLt.irr _ k
  refine Nat.le_trans (OR.nodup_le hnd fun p hp => fore_in (fore_reach nd hf ((h.me p.1 p.2).mp hp))) (fore_len hl)
end K75

set_option Elab.async false
set_option linter.all false
set_option maxRecDepth 100000
set_option maxHeartbeats 1000000
namespace K75
open PySem L2 PL NE
open ND (cutL_map cutL_len cutL_mem bz_ints LwN isNm alpha alpha_eq alpha_at getA ixD_zA ixD_bA app_list one_len getI getI_at getI_mem)
local macro_rules | `(tactic| walk_at "st1") => `(tactic| first | assumption | exact sto_last | exact sto_r0 | exact sto_r1 | exact sto_r2 | exact sto_r3 | exact sto_r4)
local macro_rules | `(tactic| walk_at "sto") => `(tactic| first | walk_at "st1" | exact sto_app (by walk_at "st1") | exact sto_app (sto_app (by walk_at "st1")))
local macro_rules | `(tactic| walk_at "sz") => `(tactic| ((try simp only [List.length_map, List.length_range, List.length_append, List.length_cons, List.length_nil]); omega))
local macro_rules | `(tactic| walk_at "go") => `(tactic| ((try (conv => whnf)); repeat ((first | (show pIf _ _ _; first | refine pIf.tt rfl ?_ | refine pIf.ff rfl ?_) | (show pReq _ _; first | refine pReq.mk rfl ?_ | refine pReq.mk (sz_le rfl) ?_ | refine pReq.mk (sz_lt rfl) ?_ | refine pReq.mk (by decide) ?_ | refine pReq.mk (Or.inr (by decide)) ?_ | refine pReq.mk (Or.inl (by decide)) ?_ | refine pReq.mk (by assumption) ?_ | refine pReq.mk (isTy_l (by walk_at "sto")) ?_ | refine pReq.mk (by omega) ?_ | refine pReq.mk (sz_lt6 (by walk_at "sz")) ?_ | refine pReq.mk (sz_le6 (by walk_at "sz")) ?_ | refine pReq.mk (by walk_at "sz") ?_) | (show pGet _ _; first | refine pGet.mk rfl ?_ | refine pGet.mk (by walk_at "sto") ?_ | refine pGet.mk (lenD_at (by walk_at "sto")) ?_ | refine pGet.mk (sqD_at (by walk_at "sto")) ?_ | refine pGet.mk (lsD_at (by walk_at "sto")) ?_ | refine pGet.mk (lsR_at (by walk_at "sto")) ?_ | refine pGet.mk (srcD_at (by walk_at "sto")) ?_ | refine pGet.mk (tyD_l (by walk_at "sto")) ?_)); (try (conv => whnf)))))
open OR (eP nextsL Reach DInv DIn meas BInv BIn measB lastOf Wy Chn OIn Ord SLt)
open TB (XSt eG zG eSt XTab eTab rSt rTab bzSt)
open OR (Pr eP Reach Ord PLt)
open TT
theorem rtD_tab (t : TB.XTab) : rtD (TB.rTab t) = TB.eTab t := by
  have e1 : rtDs (t.states.map TB.rSt) = t.states.map TB.eSt := by
    rw [rtDs_map]
    refine List.map_congr_left fun s _ => ?_
    show PyData.tuple [rtD (lz TB.eG s.1), rtD (lz PyData.str s.2)] = _
    rw [rtD_lz, rtD_lz]; rfl
  show PyData.tuple [.list (rtDs (t.states.map TB.rSt)), .int t.inner, rtD (lz OR.eP t.order)] = _
  rw [e1, rtD_lz]; rfl
def F_tableZ : Fsp := fsq (fun a : List TB.XSt × Int × List OR.Pr => [.list (a.1.map TB.eSt), .int a.2.1, .list (a.2.2.map OR.eP)]) TabOk (fun a (t : TB.XTab) => t.states = a.1.map sortSt ∧ t.inner = a.2.1 ∧ OR.Ord a.2.2 t.order) TB.eTab
theorem pu_tableZ : ∀ ds S K KX, lent F_tableZ ds S K KX → ws_table_of (frz F_too_great) (frz F_labels_in) (frz F_is_name) (frz F_numbers_in) (frz F_has_double) (frr F_order_of) { nx := fun _ S1 => K (.z .none) S1, rt := K, ex := fun y _ S1 => KX y S1 } (startE nm_table_of ds) S :=
  fun ds S K KX h => pu_table_of ds S K KX (lentR_lent rtD_tab h)
theorem kset {V : List Nat} {S S2 : Sto} {n : Nat} {o : Ob} (k : Keep V S S2) (h : S.length ≤ n) : Keep V S (S2.set n o) := fun a b h0 e => by
  have := (List.getElem?_eq_some_iff.mp e).1
  rw [List.getElem?_set_ne (by omega)]
  exact k a b h0 e
open TB (ScsIn cps cps_len cps_app cps_in al_tab)
open NE (scD plcs emp emp_len emp_snoc emp_plcs mem_plcs)
theorem shTab {t : XTab} (h1 : ∀ s ∈ t.states, (∀ g ∈ s.1, PyData.strOk g.1 = true) ∧ ∀ w ∈ s.2, PyData.strOk w = true) (h2 : PsOk t.order) : Shp 6 (eTab t) := .tup3 (.lists fun s hs => .tup2 (.lists fun g hg => TB.shG ((h1 s hs).1 g hg)) (.mono (.lists (n := 1) (f := PyData.str) fun w hw => .str ((h1 s hs).2 w hw)) (by decide))) .int (.mono (.lists (n := 1) (f := eP) fun p hp => .tup2 (.str (h2 p hp).1) (.str (h2 p hp).2)) (by decide))
theorem tab_at {S T : Sto} {t : XTab} : ∃ a b qs, (al (rTab t) S.length).1 = .t [.r a, .z (.int t.inner), .r b] ∧ a ≠ b ∧ S.length ≤ a ∧ S.length ≤ b ∧ (S ++ (al (rTab t) S.length).2)[a]? = some (.lst (qs.map scD)) ∧ (S ++ (al (rTab t) S.length).2)[b]? = some (.lst (t.order.map fun p => .z (eP p))) ∧ ScsIn (S ++ (al (rTab t) S.length).2) qs t.states ∧ qs.length = t.states.length := by
  rw [al_tab]
  have hc := TB.cps_in (S := S) (T := [Ob.lst ((emp S.length t.states.length).map scD), Ob.lst (t.order.map fun p => D.z (eP p))]) rfl t.states
  have lc : (S ++ TB.cps t.states).length = S.length + 2 * t.states.length := by rw [List.length_append, TB.cps_len]
  refine ⟨_, _, emp S.length t.states.length, rfl, by omega, by omega, by omega, ?_, ?_, hc, NE.emp_len _ _⟩
  · rw [← List.append_assoc, ← lc]; exact sto_r0
  · rw [← List.append_assoc, ← lc]; exact sto_r1
def E75 (ns : List Int) (full : Bool) (m z : Nat) (v4 v5 v6 v8 v9 v10 v11 v12 v13 v14 v15 v16 v17 v18 : Option D) (inn : Int) : PL.Env := [some (.b (.list (ns.map .int))), some (.z (.bool full)), some (.z (.int m)), some (.z (.int z)), v4, v5, v6, some (.z (.int inn)), v8, v9, v10, v11, v12, v13, v14, v15, v16, v17, v18]
theorem b1_ok {S : Sto} {ns : List Int} {full : Bool} {m z : Nat} {inn : Int} {ss : List XSt} {ps : List Pr} {sides : List XSt} {os : List Pr} {n9 : Nat} {v4 v5 v6 v10 v11 v12 v13 v15 v16 v17 v18 : Option D} {k : KS} (ht : TabOk (ss, inn, ps)) (hs : ss.map sortSt = sides) (ho : Ord ps os) (hd : Vu S [] (.r n9) (.list (sides.map eSt))) (hsh : Shp 6 (eTab ⟨sides, inn, os⟩)) (hos : os.length ≤ 10000)
    (hk : ∀ S' v15, Keep [] S S' → S.length ≤ S'.length → k.nx (E75 ns full m z v4 v5 v6 (some (.z (.list (os.map eP)))) (some (.r n9)) v10 v11 v12 v13 (some (.z (.str (txt (wTb ss inn ps))))) v15 v16 v17 v18 inn) S') :
    law_b1 (frr F_read) (frz F_kinds) k (E75 ns full m z v4 v5 v6 (some (.z (.list (os.map eP)))) (some (.r n9)) v10 v11 v12 v13 (some (.z (.str (txt (wTb ss inn ps))))) v15 v16 v17 v18 inn) S := by
  have hsl : sides.length ≤ 8 := by rw [← hs, List.length_map]; exact ht.sm.1
  have tq : ∀ t : XTab, t.states = ss.map sortSt ∧ t.inner = inn ∧ Ord ps t.order → t = ⟨sides, inn, os⟩ := fun t ⟨h1, h2, h3⟩ => by
    cases t
    dsimp only at h1 h2 h3
    rw [h1, h2, hs, h3.uniq ho]
  unfold E75 at hk ⊢
  dsimp only [law_b1]
  walk_at "go"
  refine fsrq_call (ss, inn, ps) (.cons .z .nil) ht fun t htq => ?_
  have et := tq t htq
  subst et
  obtain ⟨a, b, qs, e1, hab, ha, hb, ga, gb, gi, hql⟩ := tab_at (S := S) (T := []) (t := ⟨sides, inn, os⟩)
  rw [e1]
  dsimp only at gb gi hql
  have hkp : Keep [] S (S ++ (al (rTab ⟨sides, inn, os⟩) S.length).2) := Keep.app
  have hle : S.length ≤ (S ++ (al (rTab ⟨sides, inn, os⟩) S.length).2).length := by rw [List.length_append]; omega
  generalize S ++ (al (rTab ⟨sides, inn, os⟩) S.length).2 = S2 at ga gb gi hkp hle ⊢
  have vt : Vw S2 (.t [.r a, .z (.int inn), .r b]) (eTab ⟨sides, inn, os⟩) := .t (.cons (.r ga gi.vws) (.cons .z (.cons (.r gb (Vws.map _ _)) .nil)))
  walk_at "go"
  refine fsp_call (⟨sides, inn, os⟩ : XTab) (.cons vt .nil) (show sides.length ≤ 100 by omega) ?_
  have v2 : Vw S2 (.t [.r n9, .z (.int inn), .z (.list (os.map eP))]) (eTab ⟨sides, inn, os⟩) := .t (.cons (Vu.vw _ _ (Vu.keep hkp _ _ hd)) (.cons .z (.cons .z .nil)))
  walk_at "go"
  refine eq_same vt v2 hsh (by decide) ?_
  have hla := (List.getElem?_eq_some_iff.mp ga).1
  have hlb := (List.getElem?_eq_some_iff.mp gb).1
  walk_at "go"
  have gb2 : (S2.set a (.lst []))[b]? = some (.lst (os.map fun p => .z (eP p))) := by rw [List.getElem?_set_ne hab]; exact gb
  have hol : (os.map fun p => D.z (eP p)).length < sizeLine := Nat.lt_of_le_of_lt (m := 10000) (by rw [List.length_map]; exact hos) (by decide)
  walk_at "go"
  have kp3 : Keep [] S ((S2.set a (.lst [])).set b (.lst ((os.map fun p => D.z (eP p)) ++ [D.z (.tuple [.str (Str.ofString "a"), .str (Str.ofString "b")])]))) := kset (kset hkp ha) hb
  have le3 : S.length ≤ ((S2.set a (.lst [])).set b (.lst ((os.map fun p => D.z (eP p)) ++ [D.z (.tuple [.str (Str.ofString "a"), .str (Str.ofString "b")])]))).length := by rw [List.length_set, List.length_set]; exact hle
  have e3 : mkT [D.z (.str (Str.ofString "a")), D.z (.str (Str.ofString "b"))] = .z (.tuple [.str (Str.ofString "a"), .str (Str.ofString "b")]) := rfl
  try rw [e3]
  generalize (S2.set a (.lst [])).set b (.lst ((os.map fun p => D.z (eP p)) ++ [D.z (.tuple [.str (Str.ofString "a"), .str (Str.ofString "b")])])) = S3 at kp3 le3 ⊢
  refine fsrq_call (ss, inn, ps) (.cons .z .nil) ht fun t htq => ?_
  have et := tq t htq
  subst et
  obtain ⟨a3, b3, qs3, e4, hab3, ha3, hb3, ga3, gb3, gi3, hql3⟩ := tab_at (S := S3) (T := []) (t := ⟨sides, inn, os⟩)
  rw [e4]
  dsimp only at gb3 gi3 hql3
  have kp4 : Keep [] S (S3 ++ (al (rTab ⟨sides, inn, os⟩) S3.length).2) := kp3.trans Keep.app
  have le4 : S.length ≤ (S3 ++ (al (rTab ⟨sides, inn, os⟩) S3.length).2).length := by rw [List.length_append]; omega
  generalize S3 ++ (al (rTab ⟨sides, inn, os⟩) S3.length).2 = S4 at ga3 gb3 gi3 kp4 le4 ⊢
  have vt4 : Vw S4 (.t [.r a3, .z (.int inn), .r b3]) (eTab ⟨sides, inn, os⟩) := .t (.cons (.r ga3 gi3.vws) (.cons .z (.cons (.r gb3 (Vws.map _ _)) .nil)))
  walk_at "go"
  refine fsp_call (⟨sides, inn, os⟩ : XTab) (.cons vt4 .nil) (show sides.length ≤ 100 by omega) ?_
  have v4 : Vw S4 (.t [.r n9, .z (.int inn), .z (.list (os.map eP))]) (eTab ⟨sides, inn, os⟩) := .t (.cons (Vu.vw _ _ (Vu.keep kp4 _ _ hd)) (.cons .z (.cons .z .nil)))
  walk_at "go"
  refine eq_same vt4 v4 hsh (by decide) ?_
  walk_at "go"
  exact hk _ _ kp4 le4
end K75

set_option Elab.async false
set_option linter.all false
set_option maxRecDepth 100000
set_option maxHeartbeats 1000000
namespace K75
open PySem L2 PL NE
open ND (cutL_map cutL_len cutL_mem bz_ints LwN isNm alpha alpha_eq alpha_at getA ixD_zA ixD_bA app_list one_len getI getI_at getI_mem)
local macro_rules | `(tactic| walk_at "st1") => `(tactic| first | assumption | exact sto_last | exact sto_r0 | exact sto_r1 | exact sto_r2 | exact sto_r3 | exact sto_r4)
local macro_rules | `(tactic| walk_at "sto") => `(tactic| first | walk_at "st1" | exact sto_app (by walk_at "st1") | exact sto_app (sto_app (by walk_at "st1")))
local macro_rules | `(tactic| walk_at "sz") => `(tactic| ((try simp only [List.length_map, List.length_range, List.length_append, List.length_cons, List.length_nil]); omega))
local macro_rules | `(tactic| walk_at "go") => `(tactic| ((try (conv => whnf)); repeat ((first | (show pIf _ _ _; first | refine pIf.tt rfl ?_ | refine pIf.ff rfl ?_) | (show pReq _ _; first | refine pReq.mk rfl ?_ | refine pReq.mk (sz_le rfl) ?_ | refine pReq.mk (sz_lt rfl) ?_ | refine pReq.mk (by decide) ?_ | refine pReq.mk (Or.inr (by decide)) ?_ | refine pReq.mk (Or.inl (by decide)) ?_ | refine pReq.mk (by assumption) ?_ | refine pReq.mk (isTy_l (by walk_at "sto")) ?_ | refine pReq.mk (by omega) ?_ | refine pReq.mk (sz_lt6 (by walk_at "sz")) ?_ | refine pReq.mk (sz_le6 (by walk_at "sz")) ?_ | refine pReq.mk (by walk_at "sz") ?_) | (show pGet _ _; first | refine pGet.mk rfl ?_ | refine pGet.mk (by walk_at "sto") ?_ | refine pGet.mk (lenD_at (by walk_at "sto")) ?_ | refine pGet.mk (sqD_at (by walk_at "sto")) ?_ | refine pGet.mk (lsD_at (by walk_at "sto")) ?_ | refine pGet.mk (lsR_at (by walk_at "sto")) ?_ | refine pGet.mk (srcD_at (by walk_at "sto")) ?_ | refine pGet.mk (tyD_l (by walk_at "sto")) ?_)); (try (conv => whnf)))))
open OR (eP nextsL Reach DInv DIn meas BInv BIn measB lastOf Wy Chn OIn Ord SLt)
open TB (XSt eG zG eSt XTab eTab rSt rTab bzSt)
open OR (Pr eP Reach Ord PLt)
open TT
theorem pLc_ex {α : Type} {items : List D} {src : Src} {tg : D → PL.Env → Option PL.Env} {we : WE} {env : PL.Env} {fin : Sto → Prop} {S : Sto} (P : Nat → α → Prop) (g : α → D) (hz : items.length ≤ 1000) (hsrc : ∀ S2, Keep [] S S2 → src.ok S2)
    (he : ∀ i d, items[i]? = some d → ∃ env2, tg d env = some env2 ∧ ∀ (S1 : Sto) (K : K1), (∃ acc, S1 = S ++ [.lst acc]) → (∀ x, P i x → K (g x) S1) → we env2 S1 K X0)
    (hf : ∀ xs : List α, xs.length = items.length → (∀ i x, xs[i]? = some x → P i x) → fin (S ++ [.lst (xs.map g)])) : pLc src tg wYes we S.length env fin items (S ++ [.lst []]) := by
  refine pLc_each (fun j S' => ∃ xs : List α, xs.length = j ∧ (∀ i x, xs[i]? = some x → P i x) ∧ S' = S ++ [.lst (xs.map g)]) ⟨[], rfl, fun i x h => by simp at h, rfl⟩ (fun _ S2 _ ⟨_, _, _, e⟩ => hsrc S2 (by rw [e]; exact Keep.app)) ?_ ?_
  · rintro j d _ Q hj ⟨xs, hx1, hx2, rfl⟩ hQ
    have hlt := (List.getElem?_eq_some_iff.mp hj).1
    obtain ⟨env2, h1, h2⟩ := he j d hj
    refine pGet.mk h1 (pIf.tt rfl (h2 _ _ ⟨_, rfl⟩ fun x hx => ?_))
    refine pGet.mk (lsR_at sto_last) (pReq.mk (by rw [List.length_map]; exact sz_lt6 (by omega)) ?_)
    refine hQ _ ⟨xs ++ [x], by rw [List.length_append, hx1]; rfl, fun i y hy => ?_, ?_⟩
    · by_cases hi : i < j
      · rw [List.getElem?_append_left (by omega)] at hy
        exact hx2 i y hy
      · have hl := (List.getElem?_eq_some_iff.mp hy).1
        rw [List.length_append] at hl
        have hl : i < xs.length + 1 := hl
        have e : i = j := by omega
        subst e
        rw [List.getElem?_append_right (by omega), hx1, Nat.sub_self] at hy
        cases hy
        exact hx
    · rw [List.map_append]; simp
  · rintro _ ⟨xs, hx1, hx2, rfl⟩
    exact hf xs hx1 hx2
theorem pLc_layT {items : List D} {src : Src} {tg : D → PL.Env → Option PL.Env} {we : WE} {env : PL.Env} {fin : Sto → Prop} {S : Sto} (xs : List TB.XSt) (hz : items.length ≤ 1000) (hl : items.length = xs.length) (hsrc : ∀ S2, Keep [] S S2 → src.ok S2)
    (he : ∀ (i : Nat) (d : D) (s : TB.XSt), items[i]? = some d → xs[i]? = some s → ∃ env2, tg d env = some env2 ∧ ∀ (S1 : Sto) (K : K1), K (NE.scD (S1.length, S1.length + 1)) (S1 ++ [.lst (s.1.map TB.zG), .lst (s.2.map zW)]) → we env2 S1 K X0)
    (hf : fin (S ++ .lst ((NE.emp (S.length + 1) xs.length).map NE.scD) :: TB.cps xs)) : pLc src tg wYes we S.length env fin items (S ++ [.lst []]) := by
  refine pLc_each (fun j S' => j ≤ xs.length ∧ S' = S ++ .lst ((NE.emp (S.length + 1) j).map NE.scD) :: TB.cps (xs.take j)) ⟨Nat.zero_le _, rfl⟩ (fun _ S' _ h => hsrc S' (by rw [h.2]; exact Keep.app)) ?_ ?_
  · rintro j d _ Q hj ⟨_, rfl⟩ hQ
    have hlt : j < xs.length := by
      rw [← hl]
      exact (List.getElem?_eq_some_iff.mp hj).1
    have hs : xs[j]? = some (xs[j]'hlt) := List.getElem?_eq_getElem _
    obtain ⟨env2, h1, h2⟩ := he j d _ hj hs
    have hcl := TB.cps_len (xs.take j)
    have htl : (xs.take j).length = j := by rw [List.length_take]; omega
    have e3 : (S ++ Ob.lst ((NE.emp (S.length + 1) j).map NE.scD) :: TB.cps (xs.take j)).length = S.length + 1 + 2 * j := by rw [List.length_append, List.length_cons, hcl, htl]; omega
    refine pGet.mk h1 (pIf.tt rfl (h2 _ _ ?_))
    refine pGet.mk (x := (NE.emp (S.length + 1) j).map NE.scD) ?_ (pReq.mk ?_ ?_)
    · rw [List.append_assoc]
      exact lsR_at (List.getElem?_append_right (Nat.le_refl _) |>.trans (by rw [Nat.sub_self]; rfl))
    · rw [List.length_map, NE.emp_len]
      exact sz_lt6 (by omega)
    · refine hQ _ ⟨hlt, ?_⟩
      have ecp : TB.cps (xs.take (j + 1)) = TB.cps (xs.take j) ++ [Ob.lst ((xs[j]'hlt).1.map TB.zG), Ob.lst ((xs[j]'hlt).2.map zW)] := by
        rw [List.take_add_one, hs, TB.cps_app]; rfl
      rw [List.append_assoc, List.set_append_right _ _ (Nat.le_refl _), Nat.sub_self, e3, NE.emp_snoc, List.map_append, ecp]
      rfl
  · rintro S' ⟨_, rfl⟩
    rw [hl, List.take_of_length_le (Nat.le_refl _)]
    exact hf
theorem vus_map {S : Sto} {U : List Nat} {α : Type} (f : α → PyData) : ∀ xs : List α, Vus S U (xs.map fun x => .z (f x)) (xs.map f)
  | [] => .nil
  | _ :: xs => .cons .z (vus_map f xs)
theorem ScsIn.vus {S : Sto} : ∀ {ps : List (Nat × Nat)} {ss : List XSt}, TB.ScsIn S ps ss → Vus S [] (ps.map NE.scD) (ss.map eSt)
  | [], _, h => by cases h; exact .nil
  | p :: ps, _, h => by
    cases h with
    | cons a b => exact .cons (.t (.cons (.r (by simp) a.a (vus_map _ _)) (.cons (.r (by simp) a.b (vus_map _ _)) .nil))) (ScsIn.vus b)
theorem wpre_of {ss : List XSt} {inn : Int} {ps : List Pr} (h : TabOk (ss, inn, ps)) : WPre (ss, inn, ps) := by
  obtain ⟨h1, h2, h3, h4⟩ := tab_wd h
  exact ⟨h1, h.sm.1, h3, pr_wd h, Nat.le_trans h.sm.2.1 (by decide)⟩
theorem sum_le10 : ∀ {ws : List Str}, (∀ x ∈ ws, x.length ≤ 10) → (ws.map (·.length)).sum ≤ 10 * ws.length := by
  intro ws
  induction ws with
  | nil => intro _; simp
  | cons w ws ih =>
    intro h
    rw [List.map_cons, List.sum_cons, List.length_cons]
    have := ih fun x hx => h x (List.mem_cons_of_mem _ hx)
    have := h w (by simp)
    omega
theorem txt_sum {a : List XSt × Int × List Pr} (ht : TabOk a) : ((wTb a.1 a.2.1 a.2.2).map (fun x => x.length)).sum + (wTb a.1 a.2.1 a.2.2).length * (Str.ofString " ").length ≤ 16777216 := by
  have h1 := sum_le10 fun x hx => (wTb_mem ht (x := x) hx).2
  have h2 := wTb_len ht
  have hb1 : (Str.ofString " ").length = 1 := by decide +kernel
  rw [hb1]
  omega
theorem tail75 {S : Sto} {ns : List Int} {full : Bool} {m z : Nat} {inn : Int} {ss : List XSt} {ps os : List Pr} {ls : List Str} {n5 n9 : Nat} {v4 v11 : Option D} {k : KS}
    (hk : ∀ S1, k.rt (.z (.bool true)) S1) (g5 : S[n5]? = some (.lst (ss.map fun s => D.z (eSt s)))) (hvu : Vu S [] (.r n9) (.list ((ss.map sortSt).map eSt))) (hsl : ss.length = m) (hll : ls.length ≤ 8) (hl3 : ∀ l ∈ ls, isNameB l = true) (hss : ∀ s ∈ ss, StOk ls m s) (hm8 : m ≤ 8) (hbm : 0 ≤ inn ∧ inn < m) (hpl : ps.length ≤ 40) (hpm : ∀ p ∈ ps, p.1 ∈ ls ∧ p.2 ∈ ls) (hac : Acyc ps) (hos : Ord ps os) (hos28 : os.length ≤ 28) (hom : ∀ p ∈ os, p.1 ∈ ls ∧ p.2 ∈ ls) :
    law_r2 (frz F_cell) (frz F_words) (frz F_turned) (frr F_read) (frz F_kinds) k (E75 ns full m z v4 (some (.r n5)) (some (.z (.list (ps.map eP)))) (some (.z (.list (os.map eP)))) (some (.r n9)) (some (.z (.str (txt (wTb (ss.map sortSt) inn (bareL os)))))) v11 none none none none none none none inn) S := by
  have hsd : ∀ s ∈ ss.map sortSt, StOk ls m s := fun s hs => by
    obtain ⟨s0, h0, rfl⟩ := List.mem_map.mp hs
    exact (perm_sort s0).ok (hss s0 h0)
  have hlo : ∀ l ∈ ls, PyData.strOk l = true := fun l hl => (is_ok (hl3 l hl)).1
  have hac2 := bare_ac hos hac
  have hbl : (bareL os).length ≤ 28 := Nat.le_trans (List.length_filter_le _ _) hos28
  have ht2 : TabOk (ss.map sortSt, inn, bareL os) := tabok_of (by omega) hl3 hsd (by rw [List.length_map]; exact hsl) hm8 hbm (by omega) (fun p hp => hom p (bare_sub hp)) hac2
  have hshT : Shp 6 (eTab ⟨ss.map sortSt, inn, os⟩) := shTab (fun s hs => ⟨fun g hg => hlo _ ((hsd s hs).go g hg).1, fun w hw => hlo _ ((hsd s hs).en w hw)⟩) fun p hp => ⟨hlo _ (hom p hp).1, hlo _ (hom p hp).2⟩
  unfold E75 law_r2
  walk_at "go"
  refine fsp_call (ns, 2) (.cons .b (.cons .z .nil)) (show (0 : Int) ≤ 2 by decide) ?_
  dsimp only
  have main : ∀ c : Int, TabOk (ss.map (rotSt c), inn, ps) ∧ (ss.map (rotSt c)).map sortSt = ss.map sortSt := fun c => by
    refine ⟨tabok_of hll hl3 (fun s hs => ?_) (by rw [List.length_map]; exact hsl) hm8 hbm hpl hpm hac, ?_⟩
    · obtain ⟨s0, h0, rfl⟩ := List.mem_map.mp hs
      exact (perm_rot c s0).ok (hss s0 h0)
    · rw [List.map_map]
      exact List.map_congr_left fun s hs => (perm_rot c s).sort (hss s hs)
  have hs2 : (ss.map sortSt).map sortSt = ss.map sortSt := by
    rw [List.map_map]
    exact List.map_congr_left fun s hs => (perm_sort s).sort (hss s hs)
  walk_at "go"
  generalize (cellAt ns 2).fmod 72 = c
  obtain ⟨hto, hso⟩ := main c
  have g5l := (List.getElem?_eq_some_iff.mp g5).1
  have hdv : Vu S [] (.r n9) (.list ((ss.map sortSt).map eSt)) := hvu
  refine pLc_ex (α := TB.XSt) (fun i x => ∃ s, ss[i]? = some s ∧ x = rotSt c s) (fun s => D.z (eSt s)) (by show (ss.map fun s => D.z (eSt s)).length ≤ 1000; rw [List.length_map]; omega) (fun S2 kp => kp _ _ (by simp) g5) (fun i d hd => ?_) fun xs hxl hxs => ?_
  · have hd : (ss.map fun s => D.z (eSt s))[i]? = some d := hd
    obtain ⟨s0, hs0⟩ : ∃ s0, ss[i]? = some s0 := by
      have := (List.getElem?_eq_some_iff.mp hd).1
      rw [List.length_map] at this
      exact ⟨_, List.getElem?_eq_getElem this⟩
    have ed : d = .z (eSt s0) := by
      rw [List.getElem?_map, hs0] at hd
      exact (Option.some.inj hd).symm
    subst ed
    have so := hss s0 (List.mem_of_getElem? hs0)
    have q1 := so.l1
    have q2 := so.l2
    refine ⟨_, rfl, fun S2 K _ h => ?_⟩
    have h := h _ ⟨s0, hs0, rfl⟩
    dsimp only [law_e3]
    walk_at "go"
    refine fsp_call (s0.1.map eG, c) (.cons .z (.cons .z .nil)) ⟨fun d hd => ?_, show (s0.1.map eG).length ≤ 1000 by rw [List.length_map]; omega⟩ ?_
    · obtain ⟨g, _, rfl⟩ := List.mem_map.mp hd
      rfl
    walk_at "go"
    refine fsp_call (s0.2.map PyData.str, c.fdiv 8) (.cons .z (.cons .z .nil)) ⟨fun d hd => ?_, show (s0.2.map PyData.str).length ≤ 1000 by rw [List.length_map]; omega⟩ ?_
    · obtain ⟨g, _, rfl⟩ := List.mem_map.mp hd
      rfl
    walk_at "go"
    dsimp only
    rw [rot_map, rot_map]
    exact h
  have exs : xs = ss.map (rotSt c) := by
    have hxl : xs.length = (ss.map fun s => D.z (eSt s)).length := hxl
    rw [List.length_map] at hxl
    refine List.ext_getElem? fun i => ?_
    by_cases hi : i < xs.length
    · obtain ⟨s, h1, h2⟩ := hxs i _ (List.getElem?_eq_getElem hi)
      rw [List.getElem?_eq_getElem hi, List.getElem?_map, h1, h2]; rfl
    · rw [List.getElem?_eq_none (by omega), List.getElem?_eq_none (by rw [List.length_map]; omega)]
  subst exs
  have hdv2 := Vu.keep (Keep.app (T := [Ob.lst ((ss.map (rotSt c)).map fun s => D.z (eSt s))])) _ _ hdv
  have gr : (S ++ [Ob.lst ((ss.map (rotSt c)).map fun s => D.z (eSt s))])[S.length]? = some (.lst ((ss.map (rotSt c)).map fun s => D.z (eSt s))) := sto_last
  generalize S ++ [Ob.lst ((ss.map (rotSt c)).map fun s => D.z (eSt s))] = S2 at hdv2 gr ⊢
  generalize S.length = n13 at gr ⊢
  walk_at "go"
  refine fsp_call (ss.map (rotSt c), inn, ps) (.cons (.r gr (Vws.map eSt _)) (.cons .z (.cons .z .nil))) (wpre_of hto) ?_
  walk_at "go"
  refine ⟨wTb (ss.map (rotSt c)) inn ps, by rw [List.map_map]; rfl, pReq.mk (txt_sum hto) ?_⟩
  walk_at "go"
  have hdv3 := Vu.keep (Keep.app (T := [Ob.lst [D.z (PyData.str (txt (wTb (ss.map sortSt) inn (bareL os)))), D.z (PyData.str (txt (wTb (ss.map (rotSt c)) inn ps)))]])) _ _ hdv2
  have gl : (S2 ++ [Ob.lst [D.z (PyData.str (txt (wTb (ss.map sortSt) inn (bareL os)))), D.z (PyData.str (txt (wTb (ss.map (rotSt c)) inn ps)))]])[S2.length]? = some (Ob.lst [D.z (PyData.str (txt (wTb (ss.map sortSt) inn (bareL os)))), D.z (PyData.str (txt (wTb (ss.map (rotSt c)) inn ps)))]) := sto_last
  refine pFor_xs [(ss.map sortSt, bareL os), (ss.map (rotSt c), ps)] (fun a => .z (.str (txt (wTb a.1 inn a.2)))) rfl (fun _ env S => (∃ v14 v15, env = E75 ns full m z v4 (some (.r n5)) (some (.z (.list (ps.map eP)))) (some (.z (.list (os.map eP)))) (some (.r n9)) (some (.z (.str (txt (wTb (ss.map sortSt) inn (bareL os)))))) v11 (some (.z (.int c))) (some (.r n13)) v14 v15 none none none inn) ∧ Keep [] (S2 ++ [Ob.lst [D.z (PyData.str (txt (wTb (ss.map sortSt) inn (bareL os)))), D.z (PyData.str (txt (wTb (ss.map (rotSt c)) inn ps)))]]) S) ⟨⟨_, _, rfl⟩, Keep.refl⟩ (fun _ _ S _ h => h.2 _ _ (by simp) gl) ?_ ?_
  · rintro i a _ S3 Q hi ⟨⟨v14, v15, rfl⟩, kp⟩ hQ
    have hdv4 := Vu.keep kp _ _ hdv3
    have hcase : TabOk (a.1, inn, a.2) ∧ a.1.map sortSt = ss.map sortSt ∧ Ord a.2 os := by
      rcases List.mem_cons.mp (List.mem_of_getElem? hi) with rfl | h
      · exact ⟨ht2, hs2, Ord.bare hos hac⟩
      · rw [List.mem_singleton.mp h]; exact ⟨hto, hso, hos⟩
    obtain ⟨ha1, ha2, ha3⟩ := hcase
    exact b1_ok ha1 ha2 ha3 hdv4 hshT (by omega) fun S' v15 kp2 _ => hQ _ _ ⟨⟨_, _, rfl⟩, kp.trans kp2⟩
  · rintro _ S3 ⟨⟨v14, v15, rfl⟩, kp⟩
    dsimp only [law_r1]
    unfold E75
    walk_at "go"
    exact hk _
theorem pu_law : ∀ ds S K KX, lawSp ds S K KX → ws_law (frz F_cell) (frz F_names) (frz F_state) (frz F_pairs) (frz F_joined) (frz F_lbare) (frz F_words) (frz F_tableZ) (frz F_show) (frz F_turned) (frr F_read) (frz F_kinds) { nx := fun _ S1 => K (.z .none) S1, rt := K, ex := fun y _ S1 => KX y S1 } (startE nm_law ds) S := by
  rintro ds S K KX ⟨ns, rfl, rfl, hn, hk⟩
  have main : ∀ (full : Bool) (m z : Nat), 0 < m → m ≤ 8 → 0 < z → z ≤ 8 → law_r3 (frz F_cell) (frz F_names) (frz F_state) (frz F_pairs) (frz F_joined) (frz F_lbare) (frz F_words) (frz F_tableZ) (frz F_show) (frz F_turned) (frr F_read) (frz F_kinds) { nx := fun _ S1 => K (.z .none) S1, rt := K, ex := fun y _ S1 => KX y S1 } [some (.b (.list (ns.map .int))), some (.z (.bool full)), some (.z (.int m)), some (.z (.int z)), none, none, none, none, none, none, none, none, none, none, none, none, none, none, none] [] := by
    intro full m z hm0 hm8 hz0 hz8
    unfold law_r3
    generalize hr2 : law_r2 (frz F_cell) (frz F_words) (frz F_turned) (frr F_read) (frz F_kinds) = r2
    walk_at "go"
    refine fsp_call (ns, 0) (.cons .b (.cons .z .nil)) (Int.le_refl _) ?_
    dsimp only
    generalize cellAt ns 0 = c0
    walk_at "go"
    refine fsq_call (c0, z) (.cons .z (.cons .z .nil)) hz8 fun ls ⟨hl1, hl2, hl3⟩ => ?_
    dsimp only at hl1 hl2 hl3
    have em : ((m : Nat) : Int).toNat = m := by omega
    walk_at "go"
    rw [em]
    refine pLc_ex (α := TB.XSt) (fun _ s => StOk ls m s) (fun s => D.z (eSt s)) (by simp [rgD]; omega) (fun _ _ => trivial) (fun i d hd => ?_) fun ss hsl hss => ?_
    · have hi : i < m := by
        have := (List.getElem?_eq_some_iff.mp hd).1
        simpa [rgD] using this
      have ed : d = .z (.int (0 + (i : Int))) := by
        have e : (rgD 0 m).items = (List.range m).map fun (i : Nat) => D.z (.int (0 + (i : Int))) := rfl
        rw [e, List.getElem?_map, List.getElem?_range hi] at hd
        exact (Option.some.inj hd).symm
      subst ed
      refine ⟨_, rfl, fun S1 K _ h => ?_⟩
      have cm : CMul (0 + (i : Int)) (z : Int) := .inl (by omega)
      have hst : (2 : Int) + (0 + (i : Int)) * (z : Int) = ((2 + i * z : Nat) : Int) := by simp
      dsimp only [law_e1]
      walk_at "go"
      rw [hst]
      refine fsq_call (⟨ns, 2 + i * z, ls, m, full⟩ : Arg) (.cons .b (.cons .z (.cons .z (.cons .z (.cons .z .nil))))) ⟨hm0, hl2, show ls.length ≤ 1000 by omega⟩ fun s hs => ?_
      exact h s hs
    have hsl : ss.length = m := by rw [hsl]; simp [rgD]
    have hss : ∀ s ∈ ss, StOk ls m s := fun s hs => by
      obtain ⟨i, hi⟩ := List.getElem?_of_mem hs
      exact hss i s hi
    have h0 : ([Ob.lst (ss.map fun s => D.z (eSt s))] : Sto)[0]? = some (.lst (ss.map fun s => D.z (eSt s))) := rfl
    rw [List.nil_append]
    generalize [Ob.lst (ss.map fun s => D.z (eSt s))] = S0 at h0 ⊢
    have cm2 : CMul (m : Int) (z : Int) := .inl (by omega)
    walk_at "go"
    rw [bz_ints, cutL_map]
    have hcl := cutL_len ns (some (2 + ((m : Int) * (z : Int)).fdiv 2)) none
    generalize cutL ns (some (2 + ((m : Int) * (z : Int)).fdiv 2)) none = xs at hcl ⊢
    rw [cutL_map, show (some (40 : Int)) = some ((40 : Nat) : Int) from rfl, cut_to]
    have hxl : (xs.take 40).length ≤ 40 := by rw [List.length_take]; omega
    generalize xs.take 40 = cs at hxl
    have g0 := sto_app (T := [Ob.lst (xs.map fun i => D.z (.int i))] ++ [Ob.lst (cs.map fun i => D.z (.int i))]) h0
    have gc : (S0 ++ ([Ob.lst (xs.map fun i => D.z (.int i))] ++ [Ob.lst (cs.map fun i => D.z (.int i))]))[S0.length + 1]? = some (Ob.lst (cs.map fun i => D.z (.int i))) := by
      rw [← List.append_assoc]
      have : (S0 ++ [Ob.lst (xs.map fun i => D.z (.int i))]).length = S0.length + 1 := by rw [List.length_append]; rfl
      rw [← this]; exact sto_last
    rw [List.append_assoc]
    have e9 : (S0 ++ [Ob.lst (xs.map fun i => D.z (PyData.int i))]).length = S0.length + 1 := by rw [List.length_append]; rfl
    rw [e9]
    generalize S0 ++ ([Ob.lst (xs.map fun i => D.z (.int i))] ++ [Ob.lst (cs.map fun i => D.z (.int i))]) = S1 at g0 gc ⊢
    refine fsq_call (cs, ls) (.cons (.r gc (Vws.map PyData.int cs)) (.cons .z .nil)) ⟨show ls.length ≤ 1000 by omega, show cs.length ≤ 1000 by omega⟩ fun ps ⟨hpl, hpf⟩ => ?_
    dsimp only at hpl hpf
    have hac := fore_acyc hl2 hpf
    have hpm : ∀ p ∈ ps, p.1 ∈ ls ∧ p.2 ∈ ls := fun p hp => by
      obtain ⟨i, j, _, q1, q2⟩ := hpf p hp
      exact ⟨List.mem_of_getElem? q1, List.mem_of_getElem? q2⟩
    have hlo : ∀ l ∈ ls, PyData.strOk l = true := fun l hl => (is_ok (hl3 l hl)).1
    have hpo : PsOk ps := fun p hp => ⟨hlo _ (hpm p hp).1, hlo _ (hpm p hp).2⟩
    walk_at "go"
    refine fsp_call (ns, 0) (.cons .b (.cons .z .nil)) (Int.le_refl _) ?_
    dsimp only
    have hbm := fmod_b (a := (cellAt ns 0).fdiv 7) (b := (m : Int)) (by omega)
    walk_at "go"
    generalize ((cellAt ns 0).fdiv 7).fmod (m : Int) = inn at hbm ⊢
    refine fsq_call (ps, ls) (.cons .z (.cons .z .nil)) ⟨⟨hpo, hlo, show ls.length ≤ 1000 by omega, hpm, hl2⟩, show ls.length ≤ 20 by omega⟩ fun os hos => ?_
    dsimp only at hos
    have hos28 := ord_few (by omega) hl2 hpf hos
    have hom : ∀ p ∈ os, p.1 ∈ ls ∧ p.2 ∈ ls := fun p hp => by
      obtain ⟨i, j, _, q1, q2⟩ := fore_reach hl2 hpf ((hos.me p.1 p.2).mp hp)
      exact ⟨List.mem_of_getElem? q1, List.mem_of_getElem? q2⟩
    have hoo : PsOk os := fun p hp => ⟨hlo _ (hom p hp).1, hlo _ (hom p hp).2⟩
    walk_at "go"
    refine pLc_layT (ss.map sortSt) (by rw [List.length_map]; omega) (by simp) (fun S2 k => ?_) (fun i d s hd hs => ?_) ?_
    · exact k 0 _ (by simp) g0
    · obtain ⟨s0, hs0, rfl⟩ : ∃ s0, ss[i]? = some s0 ∧ sortSt s0 = s := by
        rw [List.getElem?_map] at hs
        cases e : ss[i]? with
        | none => rw [e] at hs; cases hs
        | some s0 => rw [e] at hs; exact ⟨s0, rfl, Option.some.inj hs⟩
      have ed : d = .z (eSt s0) := by
        have hd : (ss.map fun s => D.z (eSt s))[i]? = some d := hd
        rw [List.getElem?_map, hs0] at hd
        exact (Option.some.inj hd).symm
      subst ed
      have so := hss s0 (List.mem_of_getElem? hs0)
      have q1 := so.l1
      have q2 := so.l2
      refine ⟨_, rfl, fun S2 K h => ?_⟩
      dsimp only [law_e2]
      walk_at "go"
      refine sort_g (gs := s0.1) ?_ (by omega) ?_
      · show some _ = _
        rw [List.map_map]; rfl
      walk_at "go"
      refine sort_w (ws := s0.2) ?_ (by omega) ?_
      · show some _ = _
        rw [List.map_map]; rfl
      walk_at "go"
      rw [show (S2 ++ [Ob.lst ((sortG s0.1).map zG)]).length = S2.length + 1 by rw [List.length_append]; rfl, List.append_assoc]
      exact h
    have hin := TB.cps_in (S := S1 ++ [Ob.lst ((NE.emp (S1.length + 1) (ss.map sortSt).length).map NE.scD)]) (T := []) rfl (ss.map sortSt)
    have e8 : (S1 ++ [Ob.lst ((NE.emp (S1.length + 1) (ss.map sortSt).length).map NE.scD)]).length = S1.length + 1 := by rw [List.length_append]; rfl
    rw [e8, List.append_nil, List.append_assoc] at hin
    have g9 : (S1 ++ Ob.lst ((NE.emp (S1.length + 1) (ss.map sortSt).length).map NE.scD) :: TB.cps (ss.map sortSt))[S1.length]? = some (Ob.lst ((NE.emp (S1.length + 1) (ss.map sortSt).length).map NE.scD)) := sto_r0
    have hvu : Vu (S1 ++ Ob.lst ((NE.emp (S1.length + 1) (ss.map sortSt).length).map NE.scD) :: TB.cps (ss.map sortSt)) [] (.r S1.length) (.list ((ss.map sortSt).map eSt)) := .r (by simp) g9 (ScsIn.vus hin)
    have g5 := sto_app (T := Ob.lst ((NE.emp (S1.length + 1) (ss.map sortSt).length).map NE.scD) :: TB.cps (ss.map sortSt)) g0
    generalize S1 ++ Ob.lst ((NE.emp (S1.length + 1) (ss.map sortSt).length).map NE.scD) :: TB.cps (ss.map sortSt) = S2 at hvu g5 ⊢
    generalize S1.length = n9 at hvu ⊢
    have hsd : ∀ s ∈ ss.map sortSt, StOk ls m s := fun s hs => by
      obtain ⟨s0, h0, rfl⟩ := List.mem_map.mp hs
      exact (perm_sort s0).ok (hss s0 h0)
    have hac2 := bare_ac hos hac
    have ht : TabOk (ss, inn, ps) := tabok_of (by omega) hl3 hss hsl hm8 hbm (by omega) hpm hac
    have hbl : (bareL os).length ≤ 28 := Nat.le_trans (List.length_filter_le _ _) hos28
    have ht2 : TabOk (ss.map sortSt, inn, bareL os) := tabok_of (by omega) hl3 hsd (by rw [List.length_map]; exact hsl) hm8 hbm (by omega) (fun p hp => hom p (bare_sub hp)) hac2
    walk_at "go"
    refine fsp_call os (.cons .z .nil) ⟨by omega, hoo⟩ ?_
    walk_at "go"
    refine fsp_call (ss.map sortSt, inn, bareL os) (.cons (Vu.vw _ _ hvu) (.cons .z (.cons .z .nil))) (wpre_of ht2) ?_
    walk_at "go"
    refine ⟨wTb (ss.map sortSt) inn (bareL os), by rw [List.map_map]; rfl, pReq.mk (txt_sum ht2) ?_⟩
    walk_at "go"
    refine fsq_call (ss, inn, ps) (.cons (.r g5 (Vws.map eSt ss)) (.cons .z (.cons .z .nil))) ht fun t ⟨t1, t2, t3⟩ => ?_
    dsimp only at t1 t2 t3
    have et : t = ⟨ss.map sortSt, inn, os⟩ := by
      cases t
      dsimp only at t1 t2 t3
      rw [t1, t2, t3.uniq hos]
    subst et
    walk_at "go"
    refine fsp_call (⟨ss.map sortSt, inn, os⟩ : XTab) (.cons .z .nil) ⟨(wpre_of ht2).s, (wpre_of ht2).n, (wpre_of ht2).i, fun p hp => ⟨hl3 _ (hom p hp).1, hl3 _ (hom p hp).2⟩, show os.length ≤ 3000 by omega⟩ ?_
    walk_at "go"
    refine pIf.mk (fun q => absurd q (by simp [txt])) (fun _ => ?_)
    walk_at "go"
    rw [← hr2]
    have hl8 : ls.length ≤ 8 := by have : ls.length = z := hl1; omega
    have hp40 : ps.length ≤ 40 := by have : ps.length ≤ cs.length := hpl; omega
    exact tail75 hk g5 hvu hsl hl8 hl3 hss hm8 hbm hp40 hpm hac hos hos28 hom
  generalize hr3 : law_r3 (frz F_cell) (frz F_names) (frz F_state) (frz F_pairs) (frz F_joined) (frz F_lbare) (frz F_words) (frz F_tableZ) (frz F_show) (frz F_turned) (frr F_read) (frz F_kinds) = r3 at main
  unfold ws_law
  rw [hr3]
  walk_at "go"
  refine fsp_call (ns, 1) (.cons .b (.cons .z .nil)) (show (0 : Int) ≤ 1 by decide) ?_
  walk_at "go"
  refine fsp_call (ns, 1) (.cons .b (.cons .z .nil)) (show (0 : Int) ≤ 1 by decide) ?_
  walk_at "go"
  refine fsp_call (ns, 1) (.cons .b (.cons .z .nil)) (show (0 : Int) ≤ 1 by decide) ?_
  dsimp only
  generalize cellAt ns 1 = c1
  have b4 := fmod_b (a := c1.fdiv 5) (b := 4) (by decide)
  have b5 := fmod_b (a := c1.fdiv 20) (b := 5) (by decide)
  obtain ⟨m, hm⟩ : ∃ m : Nat, 1 + (c1.fdiv 5).fmod 4 = (m : Int) := ⟨(1 + (c1.fdiv 5).fmod 4).toNat, by omega⟩
  obtain ⟨z, hz⟩ : ∃ m : Nat, 1 + (c1.fdiv 20).fmod 5 = (m : Int) := ⟨(1 + (c1.fdiv 20).fmod 5).toNat, by omega⟩
  walk_at "go"
  rw [hm, hz]
  cases decide (c1.fmod 5 = 1) with
  | true =>
    walk_at "go"
    exact main true 8 8 (by decide) (by decide) (by decide) (by decide)
  | false =>
    walk_at "go"
    exact main false m z (by omega) (by omega) (by omega) (by omega)
end K75

set_option Elab.async false
set_option linter.all false
set_option maxHeartbeats 4000000
set_option maxRecDepth 100000
namespace K75
open PySem PySem.Spec PyProof.Rows L2 PL
theorem facts {P : Program} {w : World} {K : PySem.W.Frag} {h : Heap} {mg : Str → Option Value} (X : K.In h) (G : h.Ns mainGlobals mg) (c0 : SaysP fa fn K) :
    ∃ fd, FunD K "law" "law" (defArgs st_law) (defBody st_law) (defScope st_law) [] [] (He.fAd K ("law", none)) fd ∧ mg ("law" : Str) = some (.ref (He.fAd K ("law", none))) ∧ ∀ base : Heap, FnOk P w K mg base (L2N.CX P w) 6 (He.fAd K ("law", none)) fd ["_law_script"] (spOf lawSp) := by
  have c := c0.sd
  have T : Txt mg := ⟨He.free_ok X G (c.fact 31 (f := .free "str") rfl), He.free_ok X G (c.fact 32 (f := .free "isinstance") rfl), He.free_ok X G (c.fact 33 (f := .free "len") rfl), He.free_ok X G (c.fact 34 (f := .free "sorted") rfl), He.free_ok X G (c.fact 35 (f := .free "set") rfl), He.free_ok X G (c.fact 36 (f := .free "int") rfl), He.free_ok X G (c.fact 37 (f := .free "range") rfl), He.free_ok X G (c.fact 38 (f := .free "list") rfl), He.free_ok X G (c.fact 39 (f := .free "tuple") rfl), He.free_ok X G (c.fact 40 (f := .free "bool") rfl), He.str_ok X G (c.fact 41 (f := .str "LETTERS" "abcdefghijklmnopqrstuvwxyz") rfl), He.int_ok X G (c.fact 42 (f := .int "MOST_STATES" 8) rfl), He.int_ok X G (c.fact 43 (f := .int "MOST_PAIRS" 40) rfl), He.int_ok X G (c.fact 44 (f := .int "MOST_LABELS" 8) rfl), He.str_ok X G (c.fact 45 (f := .str "FIGURES" "0123456789") rfl), He.str_ok X G (c.fact 46 (f := .str "SIGNS" "/:|,") rfl)⟩
  obtain ⟨fd_is_name, D_is_name⟩ := c.def_ 0 (d := dd "is_name" st_is_name) rfl
  obtain ⟨fd_nexts, D_nexts⟩ := c.def_ 1 (d := dd "nexts" st_nexts) rfl
  obtain ⟨fd_below, D_below⟩ := c.def_ 2 (d := dd "below" st_below) rfl
  obtain ⟨fd_chain, D_chain⟩ := c.def_ 3 (d := dd "chain" st_chain) rfl
  obtain ⟨fd_labels_ahead, D_labels_ahead⟩ := c.def_ 4 (d := dd "labels_ahead" st_labels_ahead) rfl
  obtain ⟨fd_order_of, D_order_of⟩ := c.def_ 5 (d := dd "order_of" st_order_of) rfl
  obtain ⟨fd_too_great, D_too_great⟩ := c.def_ 6 (d := dd "too_great" st_too_great) rfl
  obtain ⟨fd_labels_in, D_labels_in⟩ := c.def_ 7 (d := dd "labels_in" st_labels_in) rfl
  obtain ⟨fd_numbers_in, D_numbers_in⟩ := c.def_ 8 (d := dd "numbers_in" st_numbers_in) rfl
  obtain ⟨fd_has_double, D_has_double⟩ := c.def_ 9 (d := dd "has_double" st_has_double) rfl
  obtain ⟨fd_table_of, D_table_of⟩ := c.def_ 10 (d := dd "table_of" st_table_of) rfl
  obtain ⟨fd_number_in, D_number_in⟩ := c.def_ 11 (d := dd "number_in" st_number_in) rfl
  obtain ⟨fd_parted, D_parted⟩ := c.def_ 12 (d := dd "parted" st_parted) rfl
  obtain ⟨fd_twos, D_twos⟩ := c.def_ 13 (d := dd "twos" st_twos) rfl
  obtain ⟨fd_plain_words, D_plain_words⟩ := c.def_ 14 (d := dd "plain_words" st_plain_words) rfl
  obtain ⟨fd_state_in, D_state_in⟩ := c.def_ 15 (d := dd "state_in" st_state_in) rfl
  obtain ⟨fd_read_table, D_read_table⟩ := c.def_ 16 (d := dd "read_table" st_read_table) rfl
  obtain ⟨fd_bare_pairs, D_bare_pairs⟩ := c.def_ 17 (d := dd "bare_pairs" st_bare_pairs) rfl
  obtain ⟨fd_joined_words, D_joined_words⟩ := c.def_ 18 (d := dd "joined_words" st_joined_words) rfl
  obtain ⟨fd_show_table, D_show_table⟩ := c.def_ 19 (d := dd "show_table" st_show_table) rfl
  obtain ⟨fd__law_cell_at, D__law_cell_at⟩ := c.def_ 20 (d := dd "_law_cell_at" st__law_cell_at) rfl
  obtain ⟨fd__law_names, D__law_names⟩ := c.def_ 21 (d := dd "_law_names" st__law_names) rfl
  obtain ⟨fd__law_turned, D__law_turned⟩ := c.def_ 22 (d := dd "_law_turned" st__law_turned) rfl
  obtain ⟨fd__law_joined, D__law_joined⟩ := c.def_ 23 (d := dd "_law_joined" st__law_joined) rfl
  obtain ⟨fd__law_state, D__law_state⟩ := c.def_ 24 (d := dd "_law_state" st__law_state) rfl
  obtain ⟨fd__law_pairs, D__law_pairs⟩ := c.def_ 25 (d := dd "_law_pairs" st__law_pairs) rfl
  obtain ⟨fd__law_bare, D__law_bare⟩ := c.def_ 26 (d := dd "_law_bare" st__law_bare) rfl
  obtain ⟨fd__law_comma, D__law_comma⟩ := c.def_ 27 (d := dd "_law_comma" st__law_comma) rfl
  obtain ⟨fd__law_words, D__law_words⟩ := c.def_ 28 (d := dd "_law_words" st__law_words) rfl
  obtain ⟨fd__law_kinds, D__law_kinds⟩ := c.def_ 29 (d := dd "_law_kinds" st__law_kinds) rfl
  obtain ⟨fd_law, D_law⟩ := c.def_ 30 (d := dd "law" st_law) rfl
  refine ⟨fd_law, D_law, He.glo_ok X G (c.fact 30 (f := .glo "law") rfl), fun base => ?_⟩
  have c_is_name : Fc P w K mg base "is_name" 1 ["thing"] (frz F_is_name) := Fc.frz (fc_mk (st := st_is_name) X G D_is_name (ok_is_name (fun_of D_is_name) T (by first | exact fsp_len fun _ => rfl | exact fsq_len fun _ => rfl) pu_is_name) (c.fact 0 (f := .glo "is_name") rfl) fun _ _ _ _ _ _ us hl => match us, hl with | [_], _ => rfl)
  have c_nexts : Fc P w K mg base "nexts" 1 ["pairs", "label"] (frz F_nexts) := Fc.frz (fc_mk (st := st_nexts) X G D_nexts (ok_nexts (fun_of D_nexts) T (by first | exact fsp_len fun _ => rfl | exact fsq_len fun _ => rfl) pu_nexts) (c.fact 1 (f := .glo "nexts") rfl) fun _ _ _ _ _ _ us hl => match us, hl with | [_, _], _ => rfl)
  have c_labels_ahead : Fc P w K mg base "labels_ahead" 1 ["pairs"] (frz F_labels_ahead) := Fc.frz (fc_mk (st := st_labels_ahead) X G D_labels_ahead (ok_labels_ahead (fun_of D_labels_ahead) T (by first | exact fsp_len fun _ => rfl | exact fsq_len fun _ => rfl) pu_labels_ahead) (c.fact 4 (f := .glo "labels_ahead") rfl) fun _ _ _ _ _ _ us hl => match us, hl with | [_], _ => rfl)
  have c_too_great : Fc P w K mg base "too_great" 1 ["states", "pairs"] (frz F_too_great) := Fc.frz (fc_mk (st := st_too_great) X G D_too_great (ok_too_great (fun_of D_too_great) T (by first | exact fsp_len fun _ => rfl | exact fsq_len fun _ => rfl) pu_too_great) (c.fact 6 (f := .glo "too_great") rfl) fun _ _ _ _ _ _ us hl => match us, hl with | [_, _], _ => rfl)
  have c_labels_in : Fc P w K mg base "labels_in" 1 ["states", "pairs"] (frz F_labels_in) := Fc.frz (fc_mk (st := st_labels_in) X G D_labels_in (ok_labels_in (fun_of D_labels_in) T (by first | exact fsp_len fun _ => rfl | exact fsq_len fun _ => rfl) pu_labels_in) (c.fact 7 (f := .glo "labels_in") rfl) fun _ _ _ _ _ _ us hl => match us, hl with | [_, _], _ => rfl)
  have c_numbers_in : Fc P w K mg base "numbers_in" 1 ["states", "inner"] (frz F_numbers_in) := Fc.frz (fc_mk (st := st_numbers_in) X G D_numbers_in (ok_numbers_in (fun_of D_numbers_in) T (by first | exact fsp_len fun _ => rfl | exact fsq_len fun _ => rfl) pu_numbers_in) (c.fact 8 (f := .glo "numbers_in") rfl) fun _ _ _ _ _ _ us hl => match us, hl with | [_, _], _ => rfl)
  have c_has_double : Fc P w K mg base "has_double" 1 ["labels"] (frz F_has_double) := Fc.frz (fc_mk (st := st_has_double) X G D_has_double (ok_has_double (fun_of D_has_double) T (by first | exact fsp_len fun _ => rfl | exact fsq_len fun _ => rfl) pu_has_double) (c.fact 9 (f := .glo "has_double") rfl) fun _ _ _ _ _ _ us hl => match us, hl with | [_], _ => rfl)
  have c_number_in : Fc P w K mg base "number_in" 1 ["word"] (frz F_number) := Fc.frz (fc_mk (st := st_number_in) X G D_number_in (ok_number_in (fun_of D_number_in) T (by first | exact fsp_len fun _ => rfl | exact fsq_len fun _ => rfl) pu_number) (c.fact 11 (f := .glo "number_in") rfl) fun _ _ _ _ _ _ us hl => match us, hl with | [_], _ => rfl)
  have c_parted : Fc P w K mg base "parted" 1 ["words", "sign"] (frz F_parted) := Fc.frz (fc_mk (st := st_parted) X G D_parted (ok_parted (fun_of D_parted) T (by first | exact fsp_len fun _ => rfl | exact fsq_len fun _ => rfl) pu_parted) (c.fact 12 (f := .glo "parted") rfl) fun _ _ _ _ _ _ us hl => match us, hl with | [_, _], _ => rfl)
  have c_plain_words : Fc P w K mg base "plain_words" 1 ["words"] (F_plain) := (fc_mk (st := st_plain_words) X G D_plain_words (ok_plain_words (fun_of D_plain_words) T (fsm_len fun a ds S h => by rw [h.ds]; rfl) pu_plain) (c.fact 14 (f := .glo "plain_words") rfl) fun _ _ _ _ _ _ us hl => match us, hl with | [_], _ => rfl)
  have c_bare_pairs : Fc P w K mg base "bare_pairs" 1 ["order"] (frz F_bare) := Fc.frz (fc_mk (st := st_bare_pairs) X G D_bare_pairs (ok_bare_pairs (fun_of D_bare_pairs) T (by first | exact fsp_len fun _ => rfl | exact fsq_len fun _ => rfl) pu_bare) (c.fact 17 (f := .glo "bare_pairs") rfl) fun _ _ _ _ _ _ us hl => match us, hl with | [_], _ => rfl)
  have c_joined_words : Fc P w K mg base "joined_words" 1 ["rows"] (frz F_words_of) := Fc.frz (fc_mk (st := st_joined_words) X G D_joined_words (ok_joined_words (fun_of D_joined_words) T (by first | exact fsp_len fun _ => rfl | exact fsq_len fun _ => rfl) pu_joined_words) (c.fact 18 (f := .glo "joined_words") rfl) fun _ _ _ _ _ _ us hl => match us, hl with | [_], _ => rfl)
  have c__law_cell_at : Fc P w K mg base "_law_cell_at" 1 ["_law_script", "_law_k"] (frz F_cell) := Fc.frz (fc_mk (st := st__law_cell_at) X G D__law_cell_at (ok__law_cell_at (fun_of D__law_cell_at) T (by first | exact fsp_len fun _ => rfl | exact fsq_len fun _ => rfl) pu_cell) (c.fact 20 (f := .glo "_law_cell_at") rfl) fun _ _ _ _ _ _ us hl => match us, hl with | [_, _], _ => rfl)
  have c__law_names : Fc P w K mg base "_law_names" 1 ["_law_cell", "_law_many"] (frz F_names) := Fc.frz (fc_mk (st := st__law_names) X G D__law_names (ok__law_names (fun_of D__law_names) T (by first | exact fsp_len fun _ => rfl | exact fsq_len fun _ => rfl) pu_names) (c.fact 21 (f := .glo "_law_names") rfl) fun _ _ _ _ _ _ us hl => match us, hl with | [_, _], _ => rfl)
  have c__law_turned : Fc P w K mg base "_law_turned" 1 ["_law_some", "_law_cell"] (frz F_turned) := Fc.frz (fc_mk (st := st__law_turned) X G D__law_turned (ok__law_turned (fun_of D__law_turned) T (by first | exact fsp_len fun _ => rfl | exact fsq_len fun _ => rfl) pu_turned) (c.fact 22 (f := .glo "_law_turned") rfl) fun _ _ _ _ _ _ us hl => match us, hl with | [_, _], _ => rfl)
  have c__law_joined : Fc P w K mg base "_law_joined" 1 ["_law_pairs_here", "_law_labels"] (frz F_joined) := Fc.frz (fc_mk (st := st__law_joined) X G D__law_joined (ok__law_joined (fun_of D__law_joined) T (by first | exact fsp_len fun _ => rfl | exact fsq_len fun _ => rfl) pu_joined) (c.fact 23 (f := .glo "_law_joined") rfl) fun _ _ _ _ _ _ us hl => match us, hl with | [_, _], _ => rfl)
  have c__law_pairs : Fc P w K mg base "_law_pairs" 1 ["_law_cells", "_law_labels"] (frz F_pairs) := Fc.frz (fc_mk (st := st__law_pairs) X G D__law_pairs (ok__law_pairs (fun_of D__law_pairs) T (by first | exact fsp_len fun _ => rfl | exact fsq_len fun _ => rfl) pu_pairs) (c.fact 25 (f := .glo "_law_pairs") rfl) fun _ _ _ _ _ _ us hl => match us, hl with | [_, _], _ => rfl)
  have c__law_bare : Fc P w K mg base "_law_bare" 1 ["_law_order"] (frz F_lbare) := Fc.frz (fc_mk (st := st__law_bare) X G D__law_bare (ok__law_bare (fun_of D__law_bare) T (by first | exact fsp_len fun _ => rfl | exact fsq_len fun _ => rfl) pu_lbare) (c.fact 26 (f := .glo "_law_bare") rfl) fun _ _ _ _ _ _ us hl => match us, hl with | [_], _ => rfl)
  have c__law_comma : Fc P w K mg base "_law_comma" 1 ["_law_rows"] (frz F_comma) := Fc.frz (fc_mk (st := st__law_comma) X G D__law_comma (ok__law_comma (fun_of D__law_comma) T (by first | exact fsp_len fun _ => rfl | exact fsq_len fun _ => rfl) pu_comma) (c.fact 27 (f := .glo "_law_comma") rfl) fun _ _ _ _ _ _ us hl => match us, hl with | [_], _ => rfl)
  have c__law_kinds : Fc P w K mg base "_law_kinds" 1 ["_law_table"] (frz F_kinds) := Fc.frz (fc_mk (st := st__law_kinds) X G D__law_kinds (ok__law_kinds (fun_of D__law_kinds) T (by first | exact fsp_len fun _ => rfl | exact fsq_len fun _ => rfl) pu_kinds) (c.fact 29 (f := .glo "_law_kinds") rfl) fun _ _ _ _ _ _ us hl => match us, hl with | [_], _ => rfl)
  have c_below : Fc P w K mg base "below" 2 ["pairs", "label"] (frz F_below) := Fc.frz (fc_mk (st := st_below) X G D_below (ok_below (fun_of D_below) T c_nexts (by first | exact fsp_len fun _ => rfl | exact fsq_len fun _ => rfl) pu_below) (c.fact 2 (f := .glo "below") rfl) fun _ _ _ _ _ _ us hl => match us, hl with | [_, _], _ => rfl)
  have c_chain : Fc P w K mg base "chain" 2 ["pairs", "one", "other"] (frz F_chain) := Fc.frz (fc_mk (st := st_chain) X G D_chain (ok_chain (fun_of D_chain) T c_nexts (by first | exact fsp_len fun _ => rfl | exact fsq_len fun _ => rfl) pu_chain) (c.fact 3 (f := .glo "chain") rfl) fun _ _ _ _ _ _ us hl => match us, hl with | [_, _, _], _ => rfl)
  have c_twos : Fc P w K mg base "twos" 2 ["words"] (frz F_twos) := Fc.frz (fc_mk (st := st_twos) X G D_twos (ok_twos (fun_of D_twos) T c_parted (by first | exact fsp_len fun _ => rfl | exact fsq_len fun _ => rfl) pu_twos) (c.fact 13 (f := .glo "twos") rfl) fun _ _ _ _ _ _ us hl => match us, hl with | [_], _ => rfl)
  have c_show_table : Fc P w K mg base "show_table" 2 ["table"] (frz F_show) := Fc.frz (fc_mk (st := st_show_table) X G D_show_table (ok_show_table (fun_of D_show_table) T c_joined_words c_bare_pairs (by first | exact fsp_len fun _ => rfl | exact fsq_len fun _ => rfl) pu_show) (c.fact 19 (f := .glo "show_table") rfl) fun _ _ _ _ _ _ us hl => match us, hl with | [_], _ => rfl)
  have c__law_state : Fc P w K mg base "_law_state" 2 ["_law_script", "_law_start", "_law_labels", "_law_many", "_law_full"] (frz F_state) := Fc.frz (fc_mk (st := st__law_state) X G D__law_state (ok__law_state (fun_of D__law_state) T c__law_cell_at (by first | exact fsp_len fun _ => rfl | exact fsq_len fun _ => rfl) pu_state) (c.fact 24 (f := .glo "_law_state") rfl) fun _ _ _ _ _ _ us hl => match us, hl with | [_, _, _, _, _], _ => rfl)
  have c__law_words : Fc P w K mg base "_law_words" 2 ["_law_states", "_law_inner", "_law_pairs_here"] (frz F_words) := Fc.frz (fc_mk (st := st__law_words) X G D__law_words (ok__law_words (fun_of D__law_words) T c__law_comma (by first | exact fsp_len fun _ => rfl | exact fsq_len fun _ => rfl) pu_words) (c.fact 28 (f := .glo "_law_words") rfl) fun _ _ _ _ _ _ us hl => match us, hl with | [_, _, _], _ => rfl)
  have c_order_of : Fc P w K mg base "order_of" 3 ["pairs"] (frr F_order_of) := Fc.frr (fc_mk (st := st_order_of) X G D_order_of (ok_order_of (fun_of D_order_of) T c_labels_ahead c_below c_chain (by first | exact fsr_len fun _ => rfl | exact fsrq_len fun _ => rfl | exact fsrX_len fun _ => rfl | exact fsrE_len fun _ => rfl) pu_order_of) (c.fact 5 (f := .glo "order_of") rfl) fun _ _ _ _ _ _ us hl => match us, hl with | [_], _ => rfl)
  have c_state_in : Fc P w K mg base "state_in" 3 ["words"] (frz F_state_in) := Fc.frz (fc_mk (st := st_state_in) X G D_state_in (ok_state_in (fun_of D_state_in) T c_parted c_twos c_number_in c_plain_words (by first | exact fsp_len fun _ => rfl | exact fsq_len fun _ => rfl) pu_state_in) (c.fact 15 (f := .glo "state_in") rfl) fun _ _ _ _ _ _ us hl => match us, hl with | [_], _ => rfl)
  have c_table_of : Fc P w K mg base "table_of" 4 ["states", "inner", "pairs"] (frr F_table_of) := Fc.frr (fc_mk (st := st_table_of) X G D_table_of (ok_table_of (fun_of D_table_of) T c_too_great c_labels_in c_is_name c_numbers_in c_has_double c_order_of (by first | exact fsr_len fun _ => rfl | exact fsrq_len fun _ => rfl | exact fsrX_len fun _ => rfl | exact fsrE_len fun _ => rfl) pu_table_of) (c.fact 10 (f := .glo "table_of") rfl) fun _ _ _ _ _ _ us hl => match us, hl with | [_, _, _], _ => rfl)
  have c_table_of__law : Fc P w K mg base "table_of" 4 ["states", "inner", "pairs"] (frz F_tableZ) := Fc.frz (fc_mk (st := st_table_of) X G D_table_of (ok_table_of (fun_of D_table_of) T c_too_great c_labels_in c_is_name c_numbers_in c_has_double c_order_of (by first | exact fsp_len fun _ => rfl | exact fsq_len fun _ => rfl) pu_tableZ) (c.fact 10 (f := .glo "table_of") rfl) fun _ _ _ _ _ _ us hl => match us, hl with | [_, _, _], _ => rfl)
  have c_read_table : Fc P w K mg base "read_table" 5 ["text"] (frr F_read) := Fc.frr (fc_mk (st := st_read_table) X G D_read_table (ok_read_table (fun_of D_read_table) T c_parted c_state_in c_number_in c_twos c_plain_words c_table_of (by first | exact fsr_len fun _ => rfl | exact fsrq_len fun _ => rfl | exact fsrX_len fun _ => rfl | exact fsrE_len fun _ => rfl) pu_read) (c.fact 16 (f := .glo "read_table") rfl) fun _ _ _ _ _ _ us hl => match us, hl with | [_], _ => rfl)
  exact ok_law (fun_of D_law) T c__law_cell_at c__law_names c__law_state c__law_pairs c__law_joined c__law_bare c__law_words c_table_of__law c_show_table c__law_turned c_read_table c__law_kinds (by rintro ds S K KX ⟨ns, rfl, _⟩; rfl) pu_law
end K75
open PySem PySem.W PySem.Calls PyProof.Rows
set_option maxRecDepth 100000 in
set_option maxHeartbeats 0 in
theorem PySem.Challenge.cw_namepaths_k75_tables_written_holds : PySem.Challenge.rw_namepaths_k75_tables_written.Holds := by
  w_on; o_law
  refine HandSHeadRun.head_any (r := OpenLaw.row PySem.Challenge.rw_namepaths_k75_tables_written) (q := view (OpenLaw.row PySem.Challenge.rw_namepaths_k75_tables_written).prog [49]) (H := K75.hk) (ob := K75.ob) (M := 8000) (loose := K75.loose) (d := HandSHeadRun.topDef (OpenLaw.row PySem.Challenge.rw_namepaths_k75_tables_written).prog 49) (kwd := []) K75.ob_eq
    (by kernel_rfl) (fun s => by kernel_rfl) K75.run (by kernel_rfl) (by kernel_rfl) (by kernel_rfl) (by rfl) (by first | assumption | decide +kernel) (by decide +kernel) ⟨rfl, rfl, rfl, rfl, rfl, by decide +kernel⟩ ?hw ?hc
  case hw => w_witness2
  case hc =>
    refine PL.pl_end (l := PySem.Challenge.rw_namepaths_k75_tables_written) (k := 6) (x := "_law_script") (st := K75.st_law) rfl (by kernel_rfl) (by kernel_rfl) ⟨rfl, by decide, by decide⟩ (fun _ _ _ _ _ _ us hl => match us, hl with | [_], _ => rfl) ?_
    intro w K h mg KX G c
    exact K75.facts KX G c
#print axioms PySem.Challenge.cw_namepaths_k75_tables_written_holds

