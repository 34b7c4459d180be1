import PyProof.Rows.All
import Wide.All
import OpenK.AllK
import Wide.FinOn
import HandS.ForMost
import HandS.ForExc
import HandS.Walk
import HandS.CallSlots
import HandS.Deep
import HandS.Flow
import KE.KDictKeyed
import HandS.TupAny
import HandS.IsInst
import HandS.More
import HandS.Small
import HandS.List
import HandS.TupLe
import HandS.Text
import HandS.Zip
import HandS.ExcCtx
import HandS.Head0
import HandS.Head1
import HandS.Head2
import HandS.Defaults
import HandS.HeadEnd
import HandS.HeadHook1
import HandS.HeadHook2
import HandS.Exc
import HandS.ExcOwn
import HandS.ExcIs
import HandS.TryOnly
import HandS.WordsExc
import HandS.Rev
import HandS.Set
import HandS.SetFor
import HandS.Strs
import KE.SortData
import KE.DataCmp
import HandS.Style
import PySem.Challenge.RW_namepaths_k70_one_item_laid
import HandS.Conv
import HandS.ExcInit
import HandS.ExcField
import HandS.TryMany
import HandS.TupMul
import HandS.HotCalls
import HandS.Call
import KE.KStateDown
set_option Elab.async false
set_option linter.all false
set_option maxHeartbeats 4000000
set_option maxRecDepth 100000
namespace K70H
open PySem PySem.Spec PyProof.Rows L2
def noLs (K : PySem.W.Frag) : Bool := K.all fun p => match p.2.cls with
  | .type n => n != "list"
  | _ => true
abbrev dd (x : Str) (st : Stmt) : He.DefD := ⟨(x, none), x, x, defArgs st, defBody st, defScope st, [], []⟩
def clsSt (s : Stmt) (j : Nat) : Stmt := match s with
  | .ClassDef _ _ _ b _ _ _ _ _ _ _ => b.getD j (.Pass ⟨0, 0, 0, 0⟩)
  | _ => .Pass ⟨0, 0, 0, 0⟩
abbrev dm (c m q : Str) (st : Stmt) (dfl : List He.Dv) : He.DefD := ⟨(c, some m), m, q, defArgs st, defBody st, defScope st, dfl, []⟩
def obsP (fa : List He.Fa) (fn : List He.DefD) (K : PySem.W.Frag) : Bool × He.AlD := (noLs K, He.obsD fa fn K)
def SaysP (fa : List He.Fa) (fn : List He.DefD) (K : PySem.W.Frag) : Prop := obsP fa fn K = (true, He.valD fn)
def obsPG (n : Nat) (fa : List He.Fa) (fn : List He.DefD) (g : Addr → Option Obj) : Bool × He.AlD := obsP fa fn (He.frG g (He.asD g n))
def hookP (n : Nat) (fa : List He.Fa) (fn : List He.DefD) : PySem.W.Hook where
  α := Bool × He.AlD
  obs := fun s => obsPG n fa fn s.heap.get?
  val := fun _ => (true, He.valD fn)
  says := fun _ h => ∃ K : PySem.W.Frag, K.In h ∧ SaysP fa fn K
  of := fun _ _ e => ⟨_, He.frG_in, e⟩
  keeps := fun _ _ _ ⟨K, hK, c⟩ k => ⟨K, PySem.W.Frag.In.keeps hK k, c⟩
def top (i : Nat) : Stmt := PySem.Challenge.pw_namepaths_k70_one_item_laid.main.body.getD i (.Pass ⟨0, 0, 0, 0⟩)
abbrev st_is_name : Stmt := top 8
abbrev st_small_enough : Stmt := top 16
abbrev st_all_named : Stmt := top 17
abbrev st_step_there : Stmt := top 18
abbrev st_telling_there : Stmt := top 19
abbrev st_thing_there : Stmt := top 20
abbrev st_all_there : Stmt := top 21
abbrev st_net_of : Stmt := top 22
abbrev st_counted : Stmt := top 27
abbrev st_net_by : Stmt := top 28
abbrev st__law_cell_at : Stmt := top 39
abbrev st__law_name : Stmt := top 40
abbrev st__law_path : Stmt := top 41
abbrev st__law_item : Stmt := top 42
abbrev st__law_due : Stmt := top 43
abbrev st__law_whole : Stmt := top 44
abbrev st__law_kinds : Stmt := top 45
abbrev st_law : Stmt := top 46
abbrev st_Draft___init__ : Stmt := clsSt (top 26) 0
abbrev st_Draft_new_scope : Stmt := clsSt (top 26) 1
abbrev st_Draft_new_thing : Stmt := clsSt (top 26) 2
abbrev st_Draft_new_question : Stmt := clsSt (top 26) 3
abbrev st_Draft_sorted_thing : Stmt := clsSt (top 26) 4
abbrev st_Draft_put_step : Stmt := clsSt (top 26) 5
abbrev st_Draft_put_telling : Stmt := clsSt (top 26) 6
abbrev st_Part___init__ : Stmt := clsSt (top 31) 0
abbrev st_Part_within : Stmt := clsSt (top 31) 1
abbrev st_Part_laid : Stmt := clsSt (top 31) 3
abbrev st_Thing_within : Stmt := clsSt (top 30) 0
abbrev st_Thing___init__ : Stmt := clsSt (top 32) 0
abbrev st_Thing_laid : Stmt := clsSt (top 32) 2
abbrev st_Let_within : Stmt := clsSt (top 30) 0
abbrev st_Let___init__ : Stmt := clsSt (top 33) 0
abbrev st_Let_laid : Stmt := clsSt (top 33) 2
abbrev st_Elder_within : Stmt := clsSt (top 30) 0
abbrev st_Elder___init__ : Stmt := clsSt (top 34) 0
abbrev st_Elder_laid : Stmt := clsSt (top 34) 2
abbrev st_All_within : Stmt := clsSt (top 30) 0
abbrev st_All___init__ : Stmt := clsSt (top 35) 0
abbrev st_All_laid : Stmt := clsSt (top 35) 2
abbrev st_One_within : Stmt := clsSt (top 30) 0
abbrev st_One___init__ : Stmt := clsSt (top 36) 0
abbrev st_One_laid : Stmt := clsSt (top 36) 2
abbrev st_Ask_within : Stmt := clsSt (top 30) 0
abbrev st_Ask___init__ : Stmt := clsSt (top 37) 0
abbrev st_Ask_laid : Stmt := clsSt (top 37) 2
def fn : List He.DefD := [dd "is_name" st_is_name, dd "small_enough" st_small_enough, dd "all_named" st_all_named, dd "step_there" st_step_there, dd "telling_there" st_telling_there, dd "thing_there" st_thing_there, dd "all_there" st_all_there, dd "net_of" st_net_of, dd "counted" st_counted, dd "net_by" st_net_by, dd "_law_cell_at" st__law_cell_at, dd "_law_name" st__law_name, dd "_law_path" st__law_path, dd "_law_item" st__law_item, dd "_law_due" st__law_due, dd "_law_whole" st__law_whole, dd "_law_kinds" st__law_kinds, dd "law" st_law, dm "Draft" "__init__" "Draft.__init__" st_Draft___init__ [], dm "Draft" "new_scope" "Draft.new_scope" st_Draft_new_scope [], dm "Draft" "new_thing" "Draft.new_thing" st_Draft_new_thing [], dm "Draft" "new_question" "Draft.new_question" st_Draft_new_question [], dm "Draft" "sorted_thing" "Draft.sorted_thing" st_Draft_sorted_thing [], dm "Draft" "put_step" "Draft.put_step" st_Draft_put_step [], dm "Draft" "put_telling" "Draft.put_telling" st_Draft_put_telling [], dm "Part" "__init__" "Part.__init__" st_Part___init__ [], dm "Part" "within" "Part.within" st_Part_within [], dm "Part" "laid" "Part.laid" st_Part_laid [], dm "Thing" "within" "Item.within" st_Thing_within [], dm "Thing" "__init__" "Thing.__init__" st_Thing___init__ [.non], dm "Thing" "laid" "Thing.laid" st_Thing_laid [], dm "Let" "within" "Item.within" st_Let_within [], dm "Let" "__init__" "Let.__init__" st_Let___init__ [.non], dm "Let" "laid" "Let.laid" st_Let_laid [], dm "Elder" "within" "Item.within" st_Elder_within [], dm "Elder" "__init__" "Elder.__init__" st_Elder___init__ [], dm "Elder" "laid" "Elder.laid" st_Elder_laid [], dm "All" "within" "Item.within" st_All_within [], dm "All" "__init__" "All.__init__" st_All___init__ [.bl false], dm "All" "laid" "All.laid" st_All_laid [], dm "One" "within" "Item.within" st_One_within [], dm "One" "__init__" "One.__init__" st_One___init__ [], dm "One" "laid" "One.laid" st_One_laid [], dm "Ask" "within" "Item.within" st_Ask_within [], dm "Ask" "__init__" "Ask.__init__" st_Ask___init__ [], dm "Ask" "laid" "Ask.laid" st_Ask_laid []]
def fa0 : List He.Fa := [.glo "is_name", .glo "small_enough", .glo "all_named", .glo "step_there", .glo "telling_there", .glo "thing_there", .glo "all_there", .glo "net_of", .glo "counted", .glo "net_by", .glo "_law_cell_at", .glo "_law_name", .glo "_law_path", .glo "_law_item", .glo "_law_due", .glo "_law_whole", .glo "_law_kinds", .glo "law", .free "str", .free "isinstance", .free "len", .free "list", .free "range", .free "tuple", .free "int", .free "bool", .str "LETTERS" "abcdefghijklmnopqrstuvwxyz", .int "MOST_SCOPES" 40, .int "MOST_THINGS" 80, .int "MOST_QUESTIONS" 60]
def fa1 : List He.Fa := [.int "MOST_STEPS" 8, .int "MOST_TELLINGS" 12, .int "MOST_NAMES" 6, .int "MOST_WITHIN" 30, .int "MOST_ITEMS" 200, .cls "Part", .cls "Thing", .cls "Let", .cls "Elder", .cls "All", .cls "One", .cls "Ask", .cls "Draft", .noat "Draft" "questions", .noat "Draft" "things", .noat "Draft" "scopes", .noat "Part" "reach", .noat "Part" "name", .noat "Part" "inner", .noat "Thing" "reach", .noat "Thing" "name", .noat "Thing" "of", .noat "Let" "name", .noat "Let" "of", .noat "Elder" "path", .noat "All" "path", .noat "All" "on", .noat "One" "reach", .noat "One" "name", .noat "One" "path"]
def fa2 : List He.Fa := [.noat "Ask" "path", .meth "Part" "within", .meth "Thing" "within", .meth "Let" "within", .meth "Elder" "within", .meth "All" "within", .meth "One" "within", .meth "Ask" "within", .meth "Draft" "new_scope", .meth "Part" "laid", .meth "Thing" "laid", .meth "Let" "laid", .meth "Elder" "laid", .meth "All" "laid", .meth "One" "laid", .meth "Ask" "laid", .meth "Draft" "new_thing", .meth "Draft" "new_question", .meth "Draft" "put_telling", .meth "Draft" "sorted_thing", .meth "Draft" "put_step", .mkr "Draft", .mkr "Part", .mkr "Thing", .mkr "Let", .mkr "Elder", .mkr "All", .mkr "One", .mkr "Ask", .glo "Draft"]
def fa3 : List He.Fa := [.glo "Part", .glo "Thing", .glo "Let", .glo "Elder", .glo "All", .glo "One", .glo "Ask"]
def fa : List He.Fa := fa0 ++ fa1 ++ fa2 ++ fa3
def loose : List PySem.Str := ("_wall" : PySem.Str) :: ("PathError" : PySem.Str) :: ("TooGreat" : PySem.Str) :: ("NoName" : PySem.Str) :: ("NoPlace" : PySem.Str) :: ("LETTERS" : PySem.Str) :: ("is_name" : PySem.Str) :: ("MOST_SCOPES" : PySem.Str) :: ("MOST_THINGS" : PySem.Str) :: ("MOST_QUESTIONS" : PySem.Str) :: ("MOST_STEPS" : PySem.Str) :: ("MOST_TELLINGS" : PySem.Str) :: ("MOST_NAMES" : PySem.Str) :: ("small_enough" : PySem.Str) :: ("all_named" : PySem.Str) :: ("step_there" : PySem.Str) :: ("telling_there" : PySem.Str) :: ("thing_there" : PySem.Str) :: ("all_there" : PySem.Str) :: ("net_of" : PySem.Str) :: ("MOST_WITHIN" : PySem.Str) :: ("MOST_ITEMS" : PySem.Str) :: ("Draft" : PySem.Str) :: ("counted" : PySem.Str) :: ("net_by" : PySem.Str) :: ("Item" : PySem.Str) :: ("Part" : PySem.Str) :: ("Thing" : PySem.Str) :: ("Let" : PySem.Str) :: ("Elder" : PySem.Str) :: ("All" : PySem.Str) :: ("One" : PySem.Str) :: ("Ask" : PySem.Str) :: ("_law_cell_at" : PySem.Str) :: ("_law_name" : PySem.Str) :: ("_law_path" : PySem.Str) :: ("_law_item" : PySem.Str) :: ("_law_due" : PySem.Str) :: ("_law_whole" : PySem.Str) :: ("_law_kinds" : PySem.Str) :: []
abbrev R : PySem.W.OpenRow := PySem.W.OpenLaw.row PySem.Challenge.rw_namepaths_k70_one_item_laid
abbrev hk : PySem.W.Hook := hookP 4 fa fn
def ob (s : PySem.W.SharedT) : Bool × He.AlD := obsPG 4 fa fn (HandSHeadRun.getT s)
section
open PySem.W PySem.Calls PyProof.Rows HandSHeadRun
theorem run1 (w : World) (os : OsState) : (endF (stepQ (denQ tabQ) R.prog w) 8000 R.prog w os).map (fun s => looksF R.prog (boot_heap w.params) s.abs) = some true := by kernel_rfl
theorem run2 (w : World) (os : OsState) : (endF (stepQ (denQ tabQ) R.prog w) 8000 R.prog w os).map (fun s => seenQ (PySem.W.view R.prog [46]) loose (importedModules R.prog.main.body) (fun s => xlAt (PySem.W.view R.prog [46]) [] s && recOk R.toRowW.records s) s.abs) = some (openGood (PySem.W.view R.prog [46]) loose) := by kernel_rfl
theorem run3 (w : World) (os : OsState) : (endF (stepQ (denQ tabQ) R.prog w) 8000 R.prog w os).map (fun s => ob s) = some (hk.val w) := by kernel_rfl
theorem run_all {α β γ δ : Type} {o : Option α} {f : α → β} {g : α → γ} {h : α → δ} {x : β} {y : γ} {z : δ} (h1 : o.map (fun s => f s) = some x) (h2 : o.map (fun s => g s) = some y) (h3 : o.map (fun s => h s) = some z) : o.map (fun s => (f s, g s, h s)) = some (x, y, z) := by
  cases o with
  | none => cases h1
  | some a =>
    have h1 : some (f a) = some x := h1
    have h2 : some (g a) = some y := h2
    have h3 : some (h a) = some z := h3
    cases h1; cases h2; cases h3; rfl
theorem run (w : World) : HandSHeadRun.RunEq R (PySem.W.view R.prog [46]) hk ob 8000 loose w := fun os => run_all (run1 w os) (run2 w os) (run3 w os)
end
end K70H

set_option Elab.async false
set_option linter.all false
set_option maxRecDepth 100000
namespace PL
open PySem L2

inductive Ty where
  | int | bool | str | list | tuple | dict | none
def Ty.s : Ty → String
  | .int => "int" | .bool => "bool" | .str => "str" | .list => "list" | .tuple => "tuple" | .dict => "dict" | .none => "NoneType"
inductive D where
  | z (d : PyData) | b (d : PyData) | r (n : Nat) | t (ds : List D) | o (a : Addr) | y (T : Ty) | x (c : Value) (fs : List (Str × PyData))
inductive Ob where
  | lst (ds : List D)
  | dic (kvs : List (Key × D))
  | kd (hs : NestedKey → Int) (kvs : List (NestedKey × D))
  | ins (C : Addr) (fs : List (Str × D))
abbrev Env := List (Option D)
abbrev Sto := List Ob
structure Ex where
  c : Value
  fs : Option (List (Str × D))

def Sub (H H' : Hp) : Prop := ∀ a o, H a = some o → H' a = some o
theorem Sub.refl (H : Hp) : Sub H H := fun _ _ h => h
theorem Sub.trans {H H1 H2 : Hp} (a : Sub H H1) (b : Sub H1 H2) : Sub H H2 := fun c o h => b c o (a c o h)
theorem Sub.non {H H' : Hp} (e : Sub H H') {a : Addr} (h : H' a = none) : H a = none := by
  cases q : H a with
  | none => rfl
  | some o => rw [e a o q] at h; cases h
theorem Sub.new {H : Hp} {p : Addr} {o : HO} (h : H p = none) : Sub H (upd H p o) := fun a u e => by
  rw [upd_ne (ne_of_none e h)]; exact e
theorem Sub.up {H H' : Hp} {p : Addr} {o : HO} (e : Sub H H') (h : H p = none) : Sub H (upd H' p o) := fun a u ha => by
  rw [upd_ne (ne_of_none ha h)]; exact e a u ha
theorem Sub.up2 {F H : Hp} {p : Addr} {o : HO} (e : Sub F H) : Sub (upd F p o) (upd H p o) := fun a u ha => by
  by_cases h : a = p
  · subst h; rw [upd_same] at ha ⊢; exact ha
  · rw [upd_ne h] at ha ⊢; exact e a u ha
theorem Sub.rd {H H' : Hp} {a : Addr} {u : HO} (e : Sub H H') (h : Rd H a u) : Rd H' a u := by
  rcases h with h | ⟨o, h⟩
  · exact .inl (e a _ h)
  · exact .inr ⟨o, e a _ h⟩

abbrev Lk := Addr → List V → Prop
mutual
inductive RpT (L T : Lk) : PyData → V → Prop
  | non : RpT L T .none .non
  | bl (b : Bool) : RpT L T (.bool b) (.bl b)
  | int (i : Int) : RpT L T (.int i) (.int i)
  | str (x : Str) : RpT L T (.str x) (.str x)
  | lst {a : Addr} {vs : List V} {ds : List PyData} : L a vs → RpTs L T ds vs → RpT L T (.list ds) (.ref a)
  | tup {a : Addr} {vs : List V} {ds : List PyData} : T a vs → RpTs L T ds vs → RpT L T (.tuple ds) (.ref a)
inductive RpTs (L T : Lk) : List PyData → List V → Prop
  | nil : RpTs L T [] []
  | cons {d : PyData} {ds : List PyData} {v : V} {vs : List V} : RpT L T d v → RpTs L T ds vs → RpTs L T (d :: ds) (v :: vs)
end
section
variable {L T L' T' : Lk}
mutual
theorem RpT.mono (hl : ∀ a vs, L a vs → L' a vs) (ht : ∀ a vs, T a vs → T' a vs) : ∀ (d : PyData) (v : V), RpT L T d v → RpT L' T' d v
  | .none, _, h => by cases h; exact .non
  | .bool _, _, h => by cases h; exact .bl _
  | .int _, _, h => by cases h; exact .int _
  | .str _, _, h => by cases h; exact .str _
  | .list ds, _, h => by cases h with | lst a b => exact .lst (hl _ _ a) (RpTs.mono hl ht ds _ b)
  | .tuple ds, _, h => by cases h with | tup a b => exact .tup (ht _ _ a) (RpTs.mono hl ht ds _ b)
  | .dict _, _, h => by cases h
theorem RpTs.mono (hl : ∀ a vs, L a vs → L' a vs) (ht : ∀ a vs, T a vs → T' a vs) : ∀ (ds : List PyData) (vs : List V), RpTs L T ds vs → RpTs L' T' ds vs
  | [], _, h => by cases h; exact .nil
  | d :: ds, _, h => by cases h with | cons a b => exact .cons (RpT.mono hl ht d _ a) (RpTs.mono hl ht ds _ b)
end
mutual
def flatT : PyData → Bool
  | .list _ => false
  | .tuple ds => flatTs ds
  | .dict _ => false
  | _ => true
def flatTs : List PyData → Bool
  | [] => true
  | d :: ds => flatT d && flatTs ds
end
mutual
theorem RpT.flat (ht : ∀ a vs, T a vs → T' a vs) : ∀ (d : PyData) (v : V), flatT d = true → RpT L T d v → RpT L' T' d v
  | .none, _, _, h => by cases h; exact .non
  | .bool _, _, _, h => by cases h; exact .bl _
  | .int _, _, _, h => by cases h; exact .int _
  | .str _, _, _, h => by cases h; exact .str _
  | .list ds, _, f, _ => by simp [flatT] at f
  | .tuple ds, _, f, h => by cases h with | tup a b => exact .tup (ht _ _ a) (RpTs.flat ht ds _ (by simpa [flatT] using f) b)
  | .dict _, _, _, h => by cases h
theorem RpTs.flat (ht : ∀ a vs, T a vs → T' a vs) : ∀ (ds : List PyData) (vs : List V), flatTs ds = true → RpTs L T ds vs → RpTs L' T' ds vs
  | [], _, _, h => by cases h; exact .nil
  | d :: ds, _, f, h => by
    simp only [flatTs, Bool.and_eq_true] at f
    cases h with | cons a b => exact .cons (RpT.flat ht d _ f.1 a) (RpTs.flat ht ds _ f.2 b)
end
theorem RpTs.length : ∀ {ds : List PyData} {vs : List V}, RpTs L T ds vs → ds.length = vs.length
  | [], _, h => by cases h; rfl
  | d :: ds, _, h => by cases h with | cons a b => simp [RpTs.length b]
theorem RpTs.get : ∀ {ds : List PyData} {vs : List V} {i : Nat} {d : PyData}, RpTs L T ds vs → ds[i]? = some d → ∃ v, vs[i]? = some v ∧ RpT L T d v
  | [], _, _, _, _, e => by simp at e
  | d :: ds, _, 0, _, h, e => by cases h with | cons a b => simp at e; subst e; exact ⟨_, rfl, a⟩
  | d :: ds, _, i + 1, x, h, e => by
    cases h with
    | cons a b =>
      obtain ⟨v, h1, h2⟩ := RpTs.get (i := i) (d := x) b (by simpa using e)
      exact ⟨v, by simpa using h1, h2⟩
end

def ExK (cls : Value) (d : Option Addr) (a : Addr) : HO := .ext fun h => ∃ (oe : Obj) (vs : Array Value), h.get? a = some oe ∧ Zc cls d oe ∧ oe.data = .fields vs
def LF (F : Hp) : Lk := fun a vs => F a = some (.lst vs)
def TF (F : Hp) : Lk := fun a vs => F a = some (.tup vs)
def LB (B F : Hp) : Lk := fun a vs => Rd F a (.lst vs) ∨ Rd B a (.lst vs)
def ExAt (F : Hp) (a : Addr) (c : Value) (fs : List (Str × PyData)) : Prop := ∃ d : Option Addr, F a = some (ExK c d a) ∧ (d = none ∧ fs = [] ∨ ∃ dd ws, d = some dd ∧ F dd = some (.xd ws) ∧ Paired (fun (p : Str × PyData) (q : Str × V) => p.1 = q.1 ∧ RpT (LF F) (TF F) p.2 q.2) fs ws)
theorem fsP_mono {F F' : Hp} (hF : Sub F F') : ∀ {fs : List (Str × PyData)} {ws : List (Str × V)}, Paired (fun (p : Str × PyData) (q : Str × V) => p.1 = q.1 ∧ RpT (LF F) (TF F) p.2 q.2) fs ws → Paired (fun (p : Str × PyData) (q : Str × V) => p.1 = q.1 ∧ RpT (LF F') (TF F') p.2 q.2) fs ws
  | _, _, .nil => .nil
  | _, _, .cons a b => .cons ⟨a.1, RpT.mono (fun _ _ q => hF _ _ q) (fun _ _ q => hF _ _ q) _ _ a.2⟩ (fsP_mono hF b)
theorem ExAt.mono {F F' : Hp} (hF : Sub F F') {a : Addr} {c : Value} {fs : List (Str × PyData)} (h : ExAt F a c fs) : ExAt F' a c fs := by
  obtain ⟨d, h1, h2⟩ := h
  refine ⟨d, hF _ _ h1, h2.imp id ?_⟩
  rintro ⟨dd, ws, e1, e2, e3⟩
  exact ⟨dd, ws, e1, hF _ _ e2, fsP_mono hF e3⟩
mutual
inductive RpD (B F : Hp) (μ : Nat → Addr) (n : Nat) : D → V → Prop
  | z {d : PyData} {v : V} : RpT (LF F) (TF F) d v → RpD B F μ n (.z d) v
  | b {d : PyData} {v : V} : RpT (LB B F) (TF F) d v → RpD B F μ n (.b d) v
  | r {i : Nat} : i < n → RpD B F μ n (.r i) (.ref (μ i))
  | t {a : Addr} {ds : List D} {vs : List V} : F a = some (.tup vs) → RpDs B F μ n ds vs → RpD B F μ n (.t ds) (.ref a)
  | o {a : Addr} : RpD B F μ n (.o a) (.ref a)
  | y {T : Ty} : RpD B F μ n (.y T) (.ty T.s)
  | x {c : Value} {fs : List (Str × PyData)} {a : Addr} : ExAt F a c fs → RpD B F μ n (.x c fs) (.ref a)
inductive RpDs (B F : Hp) (μ : Nat → Addr) (n : Nat) : List D → List V → Prop
  | nil : RpDs B F μ n [] []
  | cons {d : D} {ds : List D} {v : V} {vs : List V} : RpD B F μ n d v → RpDs B F μ n ds vs → RpDs B F μ n (d :: ds) (v :: vs)
end
section
variable {B F F' : Hp} {μ μ' : Nat → Addr} {n n' : Nat}
mutual
theorem RpD.mono (hF : Sub F F') (hn : n ≤ n') (hm : ∀ i, i < n → μ' i = μ i) : ∀ (d : D) (v : V), RpD B F μ n d v → RpD B F' μ' n' d v
  | .z d, _, h => by cases h with | z a => exact .z (RpT.mono (fun _ _ q => hF _ _ q) (fun _ _ q => hF _ _ q) _ _ a)
  | .b d, _, h => by
    cases h with
    | b a =>
      refine .b (RpT.mono (fun _ _ q => ?_) (fun _ _ q => hF _ _ q) _ _ a)
      rcases q with q | q
      · exact .inl (hF.rd q)
      · exact .inr q
  | .r i, _, h => by cases h with | r a => rw [← hm i a]; exact .r (Nat.lt_of_lt_of_le a hn)
  | .t ds, _, h => by cases h with | t a b => exact .t (hF _ _ a) (RpDs.mono hF hn hm ds _ b)
  | .o a, _, h => by cases h; exact .o
  | .y a, _, h => by cases h; exact .y
  | .x c fs, _, h => by cases h with | x a => exact .x (ExAt.mono hF a)
theorem RpDs.mono (hF : Sub F F') (hn : n ≤ n') (hm : ∀ i, i < n → μ' i = μ i) : ∀ (ds : List D) (vs : List V), RpDs B F μ n ds vs → RpDs B F' μ' n' ds vs
  | [], _, h => by cases h; exact .nil
  | d :: ds, _, h => by cases h with | cons a b => exact .cons (RpD.mono hF hn hm d _ a) (RpDs.mono hF hn hm ds _ b)
end
theorem RpDs.length : ∀ {ds : List D} {vs : List V}, RpDs B F μ n ds vs → ds.length = vs.length
  | [], _, h => by cases h; rfl
  | d :: ds, _, h => by cases h with | cons a b => simp [RpDs.length b]
theorem RpDs.get : ∀ {ds : List D} {vs : List V} {i : Nat} {d : D}, RpDs B F μ n ds vs → ds[i]? = some d → ∃ v, vs[i]? = some v ∧ RpD B F μ n d v
  | [], _, _, _, _, e => by simp at e
  | d :: ds, _, 0, _, h, e => by cases h with | cons a b => simp at e; subst e; exact ⟨_, rfl, a⟩
  | d :: ds, _, i + 1, x, h, e => by
    cases h with
    | cons a b =>
      obtain ⟨v, h1, h2⟩ := RpDs.get (i := i) (d := x) b (by simpa using e)
      exact ⟨v, by simpa using h1, h2⟩
theorem RpDs.getV : ∀ {ds : List D} {vs : List V} {i : Nat} {v : V}, RpDs B F μ n ds vs → vs[i]? = some v → ∃ d, ds[i]? = some d ∧ RpD B F μ n d v
  | [], _, _, _, h, e => by cases h; simp at e
  | d :: ds, _, 0, _, h, e => by cases h with | cons a b => simp at e; subst e; exact ⟨_, rfl, a⟩
  | d :: ds, _, i + 1, x, h, e => by
    cases h with
    | cons a b =>
      obtain ⟨v, h1, h2⟩ := RpDs.getV (i := i) (v := x) b (by simpa using e)
      exact ⟨v, by simpa using h1, h2⟩
theorem RpDs.append : ∀ {ds es : List D} {vs us : List V}, RpDs B F μ n ds vs → RpDs B F μ n es us → RpDs B F μ n (ds ++ es) (vs ++ us)
  | [], _, _, _, h, k => by cases h; exact k
  | d :: ds, _, _, _, h, k => by cases h with | cons a b => exact .cons a (RpDs.append b k)
theorem RpDs.take : ∀ {ds : List D} {vs : List V} (k : Nat), RpDs B F μ n ds vs → RpDs B F μ n (ds.take k) (vs.take k)
  | _, _, 0, _ => .nil
  | [], _, _ + 1, h => by cases h; exact .nil
  | d :: ds, _, k + 1, h => by cases h with | cons a b => exact .cons a (RpDs.take k b)
theorem RpDs.drop : ∀ {ds : List D} {vs : List V} (k : Nat), RpDs B F μ n ds vs → RpDs B F μ n (ds.drop k) (vs.drop k)
  | _, _, 0, h => h
  | [], _, _ + 1, h => by cases h; exact .nil
  | d :: ds, _, k + 1, h => by cases h with | cons a b => exact RpDs.drop k b
theorem RpDs.set {d : D} {v : V} (hd : RpD B F μ n d v) : ∀ {ds : List D} {vs : List V} (k : Nat), RpDs B F μ n ds vs → RpDs B F μ n (ds.set k d) (vs.set k v)
  | [], _, _, h => by cases h; exact .nil
  | e :: ds, _, 0, h => by cases h with | cons a b => exact .cons hd b
  | e :: ds, _, k + 1, h => by cases h with | cons a b => exact .cons a (RpDs.set hd k b)
theorem RpDs.erase : ∀ {ds : List D} {vs : List V} (k : Nat), RpDs B F μ n ds vs → RpDs B F μ n (ds.eraseIdx k) (vs.eraseIdx k)
  | [], _, _, h => by cases h; exact .nil
  | e :: ds, _, 0, h => by cases h with | cons a b => exact b
  | e :: ds, _, k + 1, h => by cases h with | cons a b => exact .cons a (RpDs.erase k b)
theorem RpDs.dropLast {ds : List D} {vs : List V} (h : RpDs B F μ n ds vs) : RpDs B F μ n ds.dropLast vs.dropLast := by
  rw [List.dropLast_eq_take, List.dropLast_eq_take, h.length]
  exact h.take _
theorem RpDs.zs : ∀ {ds : List PyData} {vs : List V}, RpTs (LF F) (TF F) ds vs → RpDs B F μ n (ds.map .z) vs
  | [], _, h => by cases h; exact .nil
  | d :: ds, _, h => by cases h with | cons a b => exact .cons (.z a) (RpDs.zs b)
def bz (d : PyData) : D := if flatT d = true then .z d else .b d
theorem RpD.bz {d : PyData} {v : V} (h : RpT (LB B F) (TF F) d v) : RpD B F μ n (bz d) v := by
  unfold PL.bz
  split
  · rename_i f
    exact .z (RpT.flat (fun _ _ q => q) d v f h)
  · exact .b h
theorem RpDs.bzs : ∀ {ds : List PyData} {vs : List V}, RpTs (LB B F) (TF F) ds vs → RpDs B F μ n (ds.map PL.bz) vs
  | [], _, h => by cases h; exact .nil
  | d :: ds, _, h => by cases h with | cons a b => exact .cons (RpD.bz a) (RpDs.bzs b)
end

def kdP (hs : NestedKey → Int) (a : Addr) (xs : List (NestedKey × Addr × Value)) (h : Heap) : Prop :=
  xs.length ≤ sizeLine ∧ (a == sysModules) = false ∧ ∃ o es ep, h.get? a = some o ∧ o.ExactDict ∧ o.data = .dict es ep ∧ es.toList = xs.map (fun x => (⟨hs x.1, .ref x.2.1, x.2.2⟩ : DictEntry)) ∧ (xs.map (·.1)).Nodup
def kdO (hs : NestedKey → Int) (a : Addr) (xs : List (NestedKey × Addr × Value)) : HO := .ext (kdP hs a xs)
def KvN (B F : Hp) (μ : Nat → Addr) (n : Nat) : List (NestedKey × D) → List (NestedKey × Addr × Value) → Prop :=
  Paired fun (p : NestedKey × D) (x : NestedKey × Addr × Value) => p.1 = x.1 ∧ (RpT (LF F) (TF F) p.1.data (.ref x.2.1) ∧ p.1.depth ≤ 8) ∧ ∃ v, RpD B F μ n p.2 v ∧ RelV v x.2.2
def ObRp (B F : Hp) (μ : Nat → Addr) (n : Nat) (H : Hp) (a : Addr) : Ob → Prop
  | .lst ds => ∃ vs, H a = some (.lst vs) ∧ RpDs B F μ n ds vs
  | .dic kvs => ∃ ws, H a = some (.dK ws) ∧ Paired (fun (p : Key × D) (q : Key × V) => p.1 = q.1 ∧ RpD B F μ n p.2 q.2) kvs ws
  | .kd hs kvs => ∃ xs, H a = some (kdO hs a xs) ∧ KvN B F μ n kvs xs
  | .ins C fs => ∃ dx vs, H a = some (.ins C dx vs) ∧ Paired (fun (p : Str × D) (q : Str × V) => p.1 = q.1 ∧ RpD B F μ n p.2 q.2) fs vs
theorem ObRp.there {B F H : Hp} {μ : Nat → Addr} {n : Nat} {a : Addr} {o : Ob} (h : ObRp B F μ n H a o) : ∃ u, H a = some u ∧ Mut (some u) := by
  cases o with
  | lst ds => obtain ⟨vs, e, _⟩ := h; exact ⟨_, e, trivial⟩
  | dic kvs => obtain ⟨vs, e, _⟩ := h; exact ⟨_, e, trivial⟩
  | kd hs kvs => obtain ⟨vs, e, _⟩ := h; exact ⟨_, e, trivial⟩
  | ins C fs => obtain ⟨dx, vs, e, _⟩ := h; exact ⟨_, e, trivial⟩
theorem ObRp.mono {B F F' H H' : Hp} {μ μ' : Nat → Addr} {n n' : Nat} {a : Addr} {o : Ob} (hF : Sub F F') (hn : n ≤ n') (hm : ∀ i, i < n → μ' i = μ i) (ha : H' a = H a) (h : ObRp B F μ n H a o) : ObRp B F' μ' n' H' a o := by
  cases o with
  | lst ds => obtain ⟨vs, e, r⟩ := h; exact ⟨vs, ha.trans e, RpDs.mono hF hn hm _ _ r⟩
  | dic kvs => obtain ⟨ws, e, r⟩ := h; exact ⟨ws, ha.trans e, Paired.mapP r fun p q z => ⟨z.1, RpD.mono hF hn hm _ _ z.2⟩⟩
  | kd hs kvs => obtain ⟨ws, e, r⟩ := h; exact ⟨ws, ha.trans e, Paired.mapP r fun p q ⟨z1, z2, v, z3, z4⟩ => ⟨z1, ⟨RpT.mono (fun _ _ q => hF _ _ q) (fun _ _ q => hF _ _ q) _ _ z2.1, z2.2⟩, v, RpD.mono hF hn hm _ _ z3, z4⟩⟩
  | ins C fs => obtain ⟨dx, vs, e, r⟩ := h; exact ⟨dx, vs, ha.trans e, Paired.mapP r fun p q z => ⟨z.1, RpD.mono hF hn hm _ _ z.2⟩⟩

structure Rl (B F0 : Hp) (μ : Nat → Addr) (S : Sto) (F H : Hp) : Prop where
  bh : Sub B H
  fh : Sub F H
  f0 : Sub F0 F
  fn : ∀ a o, F a = some o → F0 a = some o ∨ B a = none
  inj : ∀ i j, i < S.length → j < S.length → μ i = μ j → i = j
  nb : ∀ i, i < S.length → B (μ i) = none
  nf : ∀ i, i < S.length → F (μ i) = none
  ob : ∀ i o, S[i]? = some o → ObRp B F μ S.length H (μ i) o
structure Xt (μ : Nat → Addr) (S : Sto) (F : Hp) (μ' : Nat → Addr) (S' : Sto) (F' : Hp) : Prop where
  f : Sub F F'
  n : S.length ≤ S'.length
  m : ∀ i, i < S.length → μ' i = μ i
section
variable {B F0 F F' F'' H H' : Hp} {μ μ' μ'' : Nat → Addr} {S S' S'' : Sto}
theorem Xt.refl : Xt μ S F μ S F := ⟨Sub.refl _, Nat.le_refl _, fun _ _ => rfl⟩
theorem Xt.trans (a : Xt μ S F μ' S' F') (b : Xt μ' S' F' μ'' S'' F'') : Xt μ S F μ'' S'' F'' :=
  ⟨a.f.trans b.f, Nat.le_trans a.n b.n, fun i h => (b.m i (Nat.lt_of_lt_of_le h a.n)).trans (a.m i h)⟩
theorem RpD.xt {d : D} {v : V} (h : RpD B F μ S.length d v) (x : Xt μ S F μ' S' F') : RpD B F' μ' S'.length d v := RpD.mono x.f x.n x.m d v h
theorem RpDs.xt {d : List D} {v : List V} (h : RpDs B F μ S.length d v) (x : Xt μ S F μ' S' F') : RpDs B F' μ' S'.length d v := RpDs.mono x.f x.n x.m d v h
theorem Rl.there (R : Rl B F0 μ S F H) {i : Nat} {o : Ob} (h : S[i]? = some o) : ∃ u, H (μ i) = some u ∧ Mut (some u) := (R.ob i o h).there
theorem Rl.lt {i : Nat} {o : Ob} (h : S[i]? = some o) : i < S.length := (List.getElem?_eq_some_iff.mp h).1
theorem Rl.has (R : Rl B F0 μ S F H) {i : Nat} (h : i < S.length) : ∃ u, H (μ i) = some u := by
  obtain ⟨u, e, _⟩ := R.there (List.getElem?_eq_getElem h)
  exact ⟨u, e⟩
theorem Rl.froze (R : Rl B F0 μ S F H) {p : Addr} (u : HO) (hp : H p = none) : Rl B F0 μ S (upd F p u) (upd H p u) ∧ Xt μ S F μ S (upd F p u) := by
  have hF : F p = none := R.fh.non hp
  have hB : B p = none := R.bh.non hp
  have ne : ∀ i, i < S.length → μ i ≠ p := fun i hi e => by
    obtain ⟨o, ho⟩ := R.has hi
    rw [e, hp] at ho; cases ho
  refine ⟨⟨R.bh.trans (Sub.new hp), R.fh.up2, R.f0.trans (Sub.new hF), fun a o e => ?_, R.inj, R.nb, fun i hi => by rw [upd_ne (ne i hi)]; exact R.nf i hi, fun i o h => ?_⟩, ⟨Sub.new hF, Nat.le_refl _, fun _ _ => rfl⟩⟩
  · by_cases h : a = p
    · subst h; exact .inr hB
    · rw [upd_ne h] at e; exact R.fn a o e
  · exact (R.ob i o h).mono (Sub.new hF) (Nat.le_refl _) (fun _ _ => rfl) (by rw [upd_ne (ne i (Rl.lt h))])
theorem Rl.junk (R : Rl B F0 μ S F H) {p : Addr} (u : HO) (hp : H p = none) : Rl B F0 μ S F (upd H p u) := by
  have ne : ∀ i, i < S.length → μ i ≠ p := fun i hi e => by
    obtain ⟨o, ho⟩ := R.has hi
    rw [e, hp] at ho; cases ho
  exact ⟨R.bh.trans (Sub.new hp), R.fh.trans (Sub.new hp), R.f0, R.fn, R.inj, R.nb, R.nf, fun i o h => (R.ob i o h).mono (Sub.refl _) (Nat.le_refl _) (fun _ _ => rfl) (by rw [upd_ne (ne i (Rl.lt h))])⟩
def muX (μ : Nat → Addr) (n : Nat) (p : Addr) : Nat → Addr := fun i => if i = n then p else μ i
theorem Rl.grow (R : Rl B F0 μ S F H) {p : Addr} {u : HO} {o : Ob} (hp : H p = none) (ho : ∀ G : Hp, G p = some u → ObRp B F μ S.length G p o) : Rl B F0 (muX μ S.length p) (S ++ [o]) F (upd H p u) ∧ Xt μ S F (muX μ S.length p) (S ++ [o]) F := by
  have hF : F p = none := R.fh.non hp
  have hB : B p = none := R.bh.non hp
  have mo : ∀ i, i < S.length → muX μ S.length p i = μ i := fun i hi => by unfold muX; rw [if_neg (Nat.ne_of_lt hi)]
  have mn : muX μ S.length p S.length = p := by unfold muX; rw [if_pos rfl]
  have ne : ∀ i, i < S.length → μ i ≠ p := fun i hi e => by
    obtain ⟨o, ho⟩ := R.has hi
    rw [e, hp] at ho; cases ho
  have hl : (S ++ [o]).length = S.length + 1 := by simp
  have sp : ∀ i, i < S.length + 1 → i < S.length ∨ i = S.length := fun i h => by omega
  refine ⟨⟨R.bh.trans (Sub.new hp), R.fh.trans (Sub.new hp), R.f0, R.fn, fun i j hi hj e => ?_, fun i hi => ?_, fun i hi => ?_, fun i o' h => ?_⟩, ⟨Sub.refl _, by rw [hl]; omega, mo⟩⟩
  · rw [hl] at hi hj
    rcases sp i hi with hi | rfl
    · rcases sp j hj with hj | rfl
      · rw [mo i hi, mo j hj] at e; exact R.inj i j hi hj e
      · rw [mo i hi, mn] at e; exact absurd e (ne i hi)
    · rcases sp j hj with hj | rfl
      · rw [mo j hj, mn] at e; exact absurd e.symm (ne j hj)
      · rfl
  · rw [hl] at hi
    rcases sp i hi with hi | rfl
    · rw [mo i hi]; exact R.nb i hi
    · rw [mn]; exact hB
  · rw [hl] at hi
    rcases sp i hi with hi | rfl
    · rw [mo i hi]; exact R.nf i hi
    · rw [mn]; exact hF
  · rw [hl]
    by_cases hi : i < S.length
    · rw [List.getElem?_append_left hi] at h
      rw [mo i hi]
      exact (R.ob i o' h).mono (Sub.refl _) (Nat.le_succ _) mo (by rw [upd_ne (ne i hi)])
    · have e : i = S.length := by
        have := Rl.lt h
        rw [hl] at this; omega
      subst e
      rw [List.getElem?_append_right (Nat.le_refl _), Nat.sub_self] at h
      cases h
      rw [mn]
      exact (ho (upd H p u) upd_same).mono (Sub.refl _) (Nat.le_succ _) mo rfl
theorem Rl.write (R : Rl B F0 μ S F H) {n : Nat} {u : HO} {o : Ob} (hn : n < S.length) (ho : ∀ G : Hp, G (μ n) = some u → ObRp B F μ S.length G (μ n) o) : Rl B F0 μ (S.set n o) F (upd H (μ n) u) ∧ Xt μ S F μ (S.set n o) F := by
  have hl : (S.set n o).length = S.length := by simp
  refine ⟨⟨R.bh.up (R.nb n hn), R.fh.up (R.nf n hn), R.f0, R.fn, fun i j hi hj e => R.inj i j (hl ▸ hi) (hl ▸ hj) e, fun i hi => R.nb i (hl ▸ hi), fun i hi => R.nf i (hl ▸ hi), fun i o' h => ?_⟩, ⟨Sub.refl _, by rw [hl]; exact Nat.le_refl _, fun _ _ => rfl⟩⟩
  rw [hl]
  by_cases hi : i = n
  · subst hi
    rw [List.getElem?_set_self hn] at h
    cases h
    exact ho _ upd_same
  · rw [List.getElem?_set_ne (Ne.symm hi)] at h
    exact (R.ob i o' h).mono (Sub.refl _) (Nat.le_refl _) (fun _ _ => rfl) (by rw [upd_ne fun e => hi (R.inj i n (Rl.lt h) hn e)])
end

def EnvR (B F : Hp) (μ : Nat → Addr) (n : Nat) : Env → St → Prop := Paired fun e s => ∀ d, e = some d → ∃ v, s = some v ∧ RpD B F μ n d v
section
variable {B F0 F F' H : Hp} {μ μ' : Nat → Addr} {S S' : Sto} {env : Env} {σ : St}
theorem EnvR.xt (h : EnvR B F μ S.length env σ) (x : Xt μ S F μ' S' F') : EnvR B F' μ' S'.length env σ := Paired.mapP h fun e s q d hd => by
  obtain ⟨v, h1, h2⟩ := q d hd
  exact ⟨v, h1, h2.xt x⟩
theorem EnvR.get {n : Nat} : ∀ {env : Env} {σ : St} {i : Nat} {d : D}, EnvR B F μ n env σ → env[i]? = some (some d) → ∃ v, σ[i]? = some (some v) ∧ RpD B F μ n d v
  | _, _, _, _, .nil, e => by simp at e
  | _, _, 0, _, .cons r _, e => by
    simp at e
    obtain ⟨v, h1, h2⟩ := r _ e
    exact ⟨v, by simp [h1], h2⟩
  | _, _, i + 1, d, .cons _ t, e => by
    obtain ⟨v, h1, h2⟩ := EnvR.get (i := i) (d := d) t (by simpa using e)
    exact ⟨v, by simpa using h1, h2⟩
theorem EnvR.set {n : Nat} {d : D} {v : V} (hd : RpD B F μ n d v) : ∀ {env : Env} {σ : St} (i : Nat), EnvR B F μ n env σ → EnvR B F μ n (env.set i (some d)) (σ.set i (some v))
  | _, _, _, .nil => .nil
  | _, _, 0, .cons r t => .cons (fun e he => by cases he; exact ⟨v, rfl, hd⟩) t
  | _, _, i + 1, .cons q t => .cons q (EnvR.set hd i t)
theorem EnvR.unset {n : Nat} {w : Option V} : ∀ {env : Env} {σ : St} (i : Nat), EnvR B F μ n env σ → EnvR B F μ n (env.set i none) (σ.set i w)
  | _, _, _, .nil => .nil
  | _, _, 0, .cons r t => .cons (fun e he => by cases he) t
  | _, _, i + 1, .cons q t => .cons q (EnvR.unset i t)
end

mutual
inductive Vw (S : Sto) : D → PyData → Prop
  | z {d : PyData} : Vw S (.z d) d
  | b {d : PyData} : Vw S (.b d) d
  | r {n : Nat} {ds : List D} {es : List PyData} : S[n]? = some (.lst ds) → Vws S ds es → Vw S (.r n) (.list es)
  | t {ds : List D} {es : List PyData} : Vws S ds es → Vw S (.t ds) (.tuple es)
inductive Vws (S : Sto) : List D → List PyData → Prop
  | nil : Vws S [] []
  | cons {d : D} {ds : List D} {e : PyData} {es : List PyData} : Vw S d e → Vws S ds es → Vws S (d :: ds) (e :: es)
end
section
variable {B F0 F H : Hp} {μ : Nat → Addr} {S : Sto}
theorem RpT.lent {d : PyData} {v : V} (hb : Sub B H) (h : RpT (LB B F) (TF F) d v) : RpT (LB H F) (TF F) d v :=
  RpT.mono (fun _ _ q => q.imp id fun q => hb.rd q) (fun _ _ q => q) d v h
mutual
theorem Vw.rp (R : Rl B F0 μ S F H) : ∀ (e : PyData) (d : D) (v : V), Vw S d e → RpD B F μ S.length d v → RpT (LB H F) (TF F) e v
  | .none, _, _, w, h => by
    cases w with
    | z => cases h with | z a => cases a; exact .non
    | b => cases h with | b a => cases a; exact .non
  | .bool _, _, _, w, h => by
    cases w with
    | z => cases h with | z a => cases a; exact .bl _
    | b => cases h with | b a => cases a; exact .bl _
  | .int _, _, _, w, h => by
    cases w with
    | z => cases h with | z a => cases a; exact .int _
    | b => cases h with | b a => cases a; exact .int _
  | .str _, _, _, w, h => by
    cases w with
    | z => cases h with | z a => cases a; exact .str _
    | b => cases h with | b a => cases a; exact .str _
  | .dict _, _, _, w, h => by
    cases w with
    | z => cases h with | z a => cases a
    | b => cases h with | b a => cases a
  | .list es, _, _, w, h => by
    cases w with
    | z => cases h with | z a => exact RpT.mono (fun _ _ q => .inl (.inl q)) (fun _ _ q => q) _ _ a
    | b => cases h with | b a => exact a.lent R.bh
    | r e ws =>
      cases h with
      | r hi =>
        obtain ⟨vs, hv, rv⟩ := R.ob _ _ e
        exact .lst (.inr (.inl hv)) (Vws.rp R es _ vs ws rv)
  | .tuple es, _, _, w, h => by
    cases w with
    | z => cases h with | z a => exact RpT.mono (fun _ _ q => .inl (.inl q)) (fun _ _ q => q) _ _ a
    | b => cases h with | b a => exact a.lent R.bh
    | t ws => cases h with | t e rv => exact .tup e (Vws.rp R es _ _ ws rv)
theorem Vws.rp (R : Rl B F0 μ S F H) : ∀ (es : List PyData) (ds : List D) (vs : List V), Vws S ds es → RpDs B F μ S.length ds vs → RpTs (LB H F) (TF F) es vs
  | [], _, _, w, h => by cases w; cases h; exact .nil
  | e :: es, _, _, w, h => by
    cases w with | cons a b => cases h with | cons r s => exact .cons (Vw.rp R e _ _ a r) (Vws.rp R es _ _ b s)
end
mutual
theorem RpT.dp {K : PySem.W.Frag} (hf : Sub F H) : ∀ (d : PyData) (v : V), RpT (LB H F) (TF F) d v → Dp K H v d
  | .none, _, h => by cases h; exact .non
  | .bool _, _, h => by cases h; exact .bl _
  | .int _, _, h => by cases h; exact .int _
  | .str _, _, h => by cases h; exact .str _
  | .list ds, _, h => by cases h with | lst a b => exact .lst (.inl (a.elim (fun q => hf.rd q) id)) (RpTs.dp hf ds _ b)
  | .tuple ds, _, h => by cases h with | tup a b => exact .tup (.inl (.inl (hf _ _ a))) (RpTs.dp hf ds _ b)
  | .dict _, _, h => by cases h
theorem RpTs.dp {K : PySem.W.Frag} (hf : Sub F H) : ∀ (ds : List PyData) (vs : List V), RpTs (LB H F) (TF F) ds vs → DpAll K H vs ds
  | [], _, h => by cases h; exact .nil
  | d :: ds, _, h => by cases h with | cons a b => exact .cons (RpT.dp hf d _ a) (RpTs.dp hf ds _ b)
end
theorem Vws.append : ∀ {ds es : List D} {fs gs : List PyData}, Vws S ds fs → Vws S es gs → Vws S (ds ++ es) (fs ++ gs)
  | [], _, _, _, h, k => by cases h; exact k
  | d :: ds, _, _, _, h, k => by cases h with | cons a b => exact .cons a (Vws.append b k)
theorem Vws.zs : ∀ (ds : List PyData), Vws S (ds.map .z) ds
  | [] => .nil
  | d :: ds => .cons .z (Vws.zs ds)
theorem Vw.bz {d : PyData} : Vw S (PL.bz d) d := by
  unfold PL.bz
  split
  · exact .z
  · exact .b
theorem Vws.bzs : ∀ (ds : List PyData), Vws S (ds.map PL.bz) ds
  | [] => .nil
  | d :: ds => .cons Vw.bz (Vws.bzs ds)
end
end PL

set_option Elab.async false
set_option linter.all false
set_option maxRecDepth 100000
namespace PL
open PySem L2

abbrev K1 := D → Sto → Prop
abbrev KX := Ex → Env → Sto → Prop
abbrev WE := Env → Sto → K1 → KX → Prop
abbrev WT := Env → Sto → (Bool → Sto → Prop) → KX → Prop
abbrev WA := Env → Sto → (List D → Sto → Prop) → KX → Prop
structure KS where
  nx : Env → Sto → Prop
  rt : K1
  ex : KX
  bk : Env → Sto → Prop := fun _ _ => False
  ct : Env → Sto → Prop := fun _ _ => False
abbrev WS := KS → Env → Sto → Prop

structure pReq (c : Prop) (k : Prop) : Prop where
  mk' ::
  out : c ∧ k
structure pGet {α : Type} (o : Option α) (k : α → Prop) : Prop where
  mk' ::
  out : ∃ x, o = some x ∧ k x
structure pIf (b : Bool) (x y : Prop) : Prop where
  mk' ::
  out : if b = true then x else y
theorem pReq.mk {c k : Prop} (h : c) (q : k) : pReq c k := ⟨⟨h, q⟩⟩
theorem pGet.mk {α : Type} {o : Option α} {k : α → Prop} {x : α} (h : o = some x) (q : k x) : pGet o k := ⟨⟨x, h, q⟩⟩
theorem pIf.mk {b : Bool} {x y : Prop} (h1 : b = true → x) (h2 : b = false → y) : pIf b x y := by
  refine ⟨?_⟩
  cases b with
  | true => rw [if_pos rfl]; exact h1 rfl
  | false => rw [if_neg Bool.false_ne_true]; exact h2 rfl
theorem pIf.tt {b : Bool} {x y : Prop} (h : b = true) (q : x) : pIf b x y := pIf.mk (fun _ => q) fun e => by rw [h] at e; cases e
theorem pIf.ff {b : Bool} {x y : Prop} (h : b = false) (q : y) : pIf b x y := pIf.mk (fun e => by rw [h] at e; cases e) fun _ => q

def ExR (B F : Hp) (μ : Nat → Addr) (n : Nat) (H : Hp) (x : Ex) (cls : Value) (dd : Option Addr) : Prop :=
  cls = x.c ∧ match x.fs with
    | none => dd = none
    | some fs => ∃ a ws, dd = some a ∧ F a = some (.xd ws) ∧ Paired (fun (p : Str × D) (q : Str × V) => p.1 = q.1 ∧ RpD B F μ n p.2 q.2) fs ws
structure Wd where
  μ : Nat → Addr
  S : Sto
  F : Hp
def Fi (B F0 : Hp) (w : Wd) (K : K1) (Q : VK) : Prop := ∀ d S' v H' μ' F', Rl B F0 μ' S' F' H' → Xt w.μ w.S w.F μ' S' F' → RpD B F' μ' S'.length d v → K d S' → Q v H'
def FiT (B F0 : Hp) (w : Wd) (K : Bool → Sto → Prop) (Q : Bool → Hp → Prop) : Prop := ∀ b S' H' μ' F', Rl B F0 μ' S' F' H' → Xt w.μ w.S w.F μ' S' F' → K b S' → Q b H'
def FiA (B F0 : Hp) (w : Wd) (K : List D → Sto → Prop) (Q : List V → Hp → Prop) : Prop := ∀ ds S' vs H' μ' F', Rl B F0 μ' S' F' H' → Xt w.μ w.S w.F μ' S' F' → RpDs B F' μ' S'.length ds vs → K ds S' → Q vs H'
def FiX (B F0 : Hp) (W : WX) (w : Wd) (env : Env) (σ : St) (K : KX) : Prop := ∀ x S' H' μ' F' cls dd, Rl B F0 μ' S' F' H' → Xt w.μ w.S w.F μ' S' F' → ExR B F' μ' S'.length H' x cls dd → K x env S' → W cls dd σ H'
section
variable {B F0 H : Hp} {w w' : Wd} {W : WX} {env : Env} {σ : St}
theorem Fi.xt {K : K1} {Q : VK} (h : Fi B F0 w K Q) (x : Xt w.μ w.S w.F w'.μ w'.S w'.F) : Fi B F0 w' K Q := fun d S v H μ F R X r k => h d S v H μ F R (x.trans X) r k
theorem FiT.xt {K : Bool → Sto → Prop} {Q : Bool → Hp → Prop} (h : FiT B F0 w K Q) (x : Xt w.μ w.S w.F w'.μ w'.S w'.F) : FiT B F0 w' K Q := fun b S H μ F R X k => h b S H μ F R (x.trans X) k
theorem FiA.xt {K : List D → Sto → Prop} {Q : List V → Hp → Prop} (h : FiA B F0 w K Q) (x : Xt w.μ w.S w.F w'.μ w'.S w'.F) : FiA B F0 w' K Q := fun d S v H μ F R X r k => h d S v H μ F R (x.trans X) r k
theorem FiX.xt {K : KX} (h : FiX B F0 W w env σ K) (x : Xt w.μ w.S w.F w'.μ w'.S w'.F) : FiX B F0 W w' env σ K := fun e S H μ F c dd R X r k => h e S H μ F c dd R (x.trans X) r k
end
abbrev RlW (B F0 : Hp) (w : Wd) (H : Hp) : Prop := Rl B F0 w.μ w.S w.F H
abbrev RpW (B : Hp) (w : Wd) (d : D) (v : V) : Prop := RpD B w.F w.μ w.S.length d v
abbrev RpsW (B : Hp) (w : Wd) (d : List D) (v : List V) : Prop := RpDs B w.F w.μ w.S.length d v
def tE (B F0 : Hp) (W : WX) (we : WE) : TE := fun σ H Q => ∃ (w : Wd) (env : Env) (K : K1) (KX : KX), RlW B F0 w H ∧ EnvR B w.F w.μ w.S.length env σ ∧ we env w.S K KX ∧ Fi B F0 w K Q ∧ FiX B F0 W w env σ KX
def tT (B F0 : Hp) (W : WX) (wt : WT) : TT := fun σ H Q => ∃ (w : Wd) (env : Env) (K : Bool → Sto → Prop) (KX : KX), RlW B F0 w H ∧ EnvR B w.F w.μ w.S.length env σ ∧ wt env w.S K KX ∧ FiT B F0 w K Q ∧ FiX B F0 W w env σ KX
def tA (B F0 : Hp) (W : WX) (wa : WA) : TA := fun σ H Q => ∃ (w : Wd) (env : Env) (K : List D → Sto → Prop) (KX : KX), RlW B F0 w H ∧ EnvR B w.F w.μ w.S.length env σ ∧ wa env w.S K KX ∧ FiA B F0 w K Q ∧ FiX B F0 W w env σ KX
structure FiS (B F0 : Hp) (W : WX) (w : Wd) (k : KS) (D : Ends) : Prop where
  nx : ∀ env S σ H μ F, Rl B F0 μ S F H → Xt w.μ w.S w.F μ S F → EnvR B F μ S.length env σ → k.nx env S → D.nx σ H
  rt : Fi B F0 w k.rt D.rt
  bk : ∀ env S σ H μ F, Rl B F0 μ S F H → Xt w.μ w.S w.F μ S F → EnvR B F μ S.length env σ → k.bk env S → D.bk σ H
  ct : ∀ env S σ H μ F, Rl B F0 μ S F H → Xt w.μ w.S w.F μ S F → EnvR B F μ S.length env σ → k.ct env S → D.ct σ H
  ex : ∀ x env S σ H μ F cls dd, Rl B F0 μ S F H → Xt w.μ w.S w.F μ S F → EnvR B F μ S.length env σ → ExR B F μ S.length H x cls dd → k.ex x env S → W cls dd σ H
theorem FiS.xt {B F0 : Hp} {W : WX} {w w' : Wd} {k : KS} {D : Ends} (h : FiS B F0 W w k D) (x : Xt w.μ w.S w.F w'.μ w'.S w'.F) : FiS B F0 W w' k D :=
  ⟨fun e S s H μ F R X r q => h.nx e S s H μ F R (x.trans X) r q, h.rt.xt x, fun e S s H μ F R X r q => h.bk e S s H μ F R (x.trans X) r q, fun e S s H μ F R X r q => h.ct e S s H μ F R (x.trans X) r q,
   fun y e S s H μ F c d R X r q z => h.ex y e S s H μ F c d R (x.trans X) r q z⟩
theorem FiS.toX {B F0 : Hp} {W : WX} {w : Wd} {k : KS} {D : Ends} {env : Env} {σ : St} (h : FiS B F0 W w k D) (e : EnvR B w.F w.μ w.S.length env σ) : FiX B F0 W w env σ k.ex :=
  fun x S H μ F c d R X r q => h.ex x env S σ H μ F c d R X (e.xt X) r q
def tS (B F0 : Hp) (W : WX) (ws : WS) : TS := fun D σ H => ∃ (w : Wd) (env : Env) (k : KS), RlW B F0 w H ∧ EnvR B w.F w.μ w.S.length env σ ∧ ws k env w.S ∧ FiS B F0 W w k D

def PX (X : Cx) (B F0 : Hp) (W : WX) (e : Expr) (we : WE) : Prop := PE X e (tE B F0 W we)
def PXT (X : Cx) (B F0 : Hp) (W : WX) (e : Expr) (wt : WT) : Prop := PT X e (tT B F0 W wt)
def PXW (X : Cx) (B F0 : Hp) (W : WX) (e : Expr) (wt : WT) : Prop := PW X e (tT B F0 W wt)
def PXA (X : Cx) (B F0 : Hp) (W : WX) (es : List Expr) (wa : WA) : Prop := PA X es (tA B F0 W wa)
def PXS (X : Cx) (B F0 : Hp) (W : WX) (st : Stmt) (ws : WS) : Prop := PS X st (tS B F0 W ws)
def PXB (X : Cx) (B F0 : Hp) (W : WX) (st : List Stmt) (ws : WS) : Prop := PSs X st (tS B F0 W ws)
section
variable {X : Cx}
theorem wkE {e : Expr} {t t' : TE} (h : PE X e t) (k : ∀ σ H Q, t' σ H Q → t σ H Q) : PE X e t' := ⟨fun p s σ H Q I q => h.run p s σ H Q I (k σ H Q q)⟩
theorem wkT {e : Expr} {t t' : TT} (h : PT X e t) (k : ∀ σ H Q, t' σ H Q → t σ H Q) : PT X e t' := ⟨fun p s σ H Q I q => h.run p s σ H Q I (k σ H Q q)⟩
theorem wkW {e : Expr} {t t' : TT} (h : PW X e t) (k : ∀ σ H Q, t' σ H Q → t σ H Q) : PW X e t' := ⟨fun wh p s σ H Q I q => h.run wh p s σ H Q I (k σ H Q q)⟩
theorem wkA {e : List Expr} {t t' : TA} (h : PA X e t) (k : ∀ σ H Q, t' σ H Q → t σ H Q) : PA X e t' := ⟨fun pos p s σ H Q I q => h.run pos p s σ H Q I (k σ H Q q)⟩
theorem wkS {e : Stmt} {t t' : TS} (h : PS X e t) (k : ∀ D σ H, t' D σ H → t D σ H) : PS X e t' := ⟨fun p s σ H D I q => h.run p s σ H D I (k D σ H q)⟩
theorem wkB {e : List Stmt} {t t' : TS} (h : PSs X e t) (k : ∀ D σ H, t' D σ H → t D σ H) : PSs X e t' := ⟨fun p s σ H D I q => h.run p s σ H D I (k D σ H q)⟩
end

def wVar (i : Nat) : WE := fun env S K _ => match env[i]? with
  | some (some d) => K d S
  | _ => False
def wC (d : PyData) : WE := fun _ S K _ => K (.z d) S
section
variable {X : Cx} {B F0 : Hp} {W : WX} {pos : Pos}
theorem xv (i : Nat) {x : Str} (hN : X.N[i]? = some x := by rfl) (hv : Vis X.env.scope x := by first | exact Or.inl rfl | exact Or.inr (Or.inl rfl) | exact Or.inr (Or.inr rfl)) (hd : (x == ("__debug__" : Str)) = false := by decide)
    (hcd : (x == ("__classdict__" : Str)) = false := by decide) : PX X B F0 W (.Name x pos) (wVar i) := wkE (pe_var hN hv hd hcd) fun σ H Q h => by
  obtain ⟨w, env, K, KX, R, E, h, k, _⟩ := h
  unfold wVar at h
  split at h
  · rename_i d e
    obtain ⟨v, h1, h2⟩ := EnvR.get E e
    exact ⟨v, h1, k d w.S v H w.μ w.F R .refl h2 h⟩
  · exact h.elim
theorem xc {e : Expr} {c : V} {d : PyData} (h : PE X e (tC c)) (r : ∀ L T, RpT L T d c) : PX X B F0 W e (wC d) := wkE h fun σ H Q h => by
  obtain ⟨w, env, K, KX, R, E, h, k, _⟩ := h
  exact k _ w.S c H w.μ w.F R .refl (.z (r _ _)) h
theorem xint {i : Int} {j : Nat} : PX X B F0 W (.Constant (.int i) j pos) (wC (.int i)) := xc pe_int fun _ _ => .int i
theorem xbl {b : Bool} {j : Nat} : PX X B F0 W (.Constant (.bool b) j pos) (wC (.bool b)) := xc pe_bl fun _ _ => .bl b
theorem xnon {j : Nat} : PX X B F0 W (.Constant .none j pos) (wC .none) := xc pe_non fun _ _ => .non
theorem xstr {x : Str} {j : Nat} : PX X B F0 W (.Constant (.str x) j pos) (wC (.str x)) := xc pe_str fun _ _ => .str x
theorem xglob {x : Str} {v : V} {u : Value} {d : PyData} (hg : Gl X x) (hm : X.mg x = some u) (r : RelV v u) (hd : ∀ L T, RpT L T d v) (hdb : (x == ("__debug__" : Str)) = false := by decide) : PX X B F0 W (.Name x pos) (wC d) :=
  xc (pe_glob hg hm r hdb) hd
end

abbrev P2 := D → D → Sto → K1 → Prop
abbrev P1 := D → Sto → K1 → Prop
abbrev PL := List D → Sto → K1 → Prop
def r2 (B F0 : Hp) (p : P2) : R2 := fun a b H Q => ∃ (w : Wd) (x y : D) (K : K1), RlW B F0 w H ∧ RpW B w x a ∧ RpW B w y b ∧ p x y w.S K ∧ Fi B F0 w K Q
def r1 (B F0 : Hp) (p : P1) : V → Hp → VK → Prop := fun a H Q => ∃ (w : Wd) (x : D) (K : K1), RlW B F0 w H ∧ RpW B w x a ∧ p x w.S K ∧ Fi B F0 w K Q
def rL (B F0 : Hp) (p : PL) : List V → Hp → VK → Prop := fun vs H Q => ∃ (w : Wd) (xs : List D) (K : K1), RlW B F0 w H ∧ RpsW B w xs vs ∧ p xs w.S K ∧ Fi B F0 w K Q
def rM (B F0 : Hp) (p : D → PL) : V → List V → Hp → VK → Prop := fun v vs H Q => ∃ (w : Wd) (x : D) (xs : List D) (K : K1), RlW B F0 w H ∧ RpW B w x v ∧ RpsW B w xs vs ∧ p x xs w.S K ∧ Fi B F0 w K Q
def w2 (p : P2) (wa wb : WE) : WE := fun env S K KX => wa env S (fun x S1 => wb env S1 (fun y S2 => p x y S2 K) KX) KX
def w1 (p : P1) (wa : WE) : WE := fun env S K KX => wa env S (fun x S1 => p x S1 K) KX
def asB (k : Bool → Sto → Prop) : K1 := fun d S => match d with
  | .z (.bool b) => k b S
  | _ => False
def wB (wa : WE) : WT := fun env S K KX => wa env S (asB K) KX
section
variable {X : Cx} {B F0 : Hp} {W : WX} {a b c : Expr} {wa wb wc : WE} {pos : Pos} {p p' : P2}
theorem two {r : R2} (hr : ∀ x y H Q, r2 B F0 p x y H Q → r x y H Q) (σ : St) (H : Hp) (Q : VK) (h : tE B F0 W (w2 p wa wb) σ H Q) : tOp r (tE B F0 W wa) (tE B F0 W wb) σ H Q := by
  obtain ⟨w, env, K, KX, R, E, h, k, kx⟩ := h
  refine ⟨w, env, _, KX, R, E, h, fun x S1 v H1 μ1 F1 R1 X1 r1 h1 => ?_, kx⟩
  refine ⟨⟨μ1, S1, F1⟩, env, _, KX, R1, E.xt X1, h1, fun y S2 u H2 μ2 F2 R2 X2 r2 h2 => ?_, kx.xt X1⟩
  exact hr v u H2 Q ⟨⟨μ2, S2, F2⟩, x, y, K, R2, r1.xt X2, r2, h2, k.xt (X1.trans X2)⟩
theorem xop {op : Operator} (ho : OpR X (binaryOp op) (r2 B F0 p)) (ha : PX X B F0 W a wa) (hb : PX X B F0 W b wb) : PX X B F0 W (.BinOp a op b pos) (w2 p wa wb) := wkE (pe_op ho ha hb) (two fun _ _ _ _ h => h)
theorem xcmp {op : CmpOp} (ho : OpR X (compareOp op) (r2 B F0 p)) (ha : PX X B F0 W a wa) (hb : PX X B F0 W b wb) (hm : behindInMarks op b = false := by rfl) : PX X B F0 W (.Compare a [op] [b] pos) (w2 p wa wb) :=
  wkE (pe_cmpR ho ha hb hm) (two fun _ _ _ _ h => h)
theorem xix (ho : IxR X (r2 B F0 p)) (ha : PX X B F0 W a wa) (hb : PX X B F0 W b wb) (hs : PlainIx b := by exact fun _ _ => rfl) : PX X B F0 W (.Subscript a b pos) (w2 p wa wb) := wkE (pe_ix ho ha hb hs) (two fun _ _ _ _ h => h)
theorem testOf (σ : St) (H : Hp) (Q : Bool → Hp → Prop) (h : tT B F0 W (wB wa) σ H Q) : tTest (tE B F0 W wa) σ H Q := by
  obtain ⟨w, env, K, KX, R, E, h, k, kx⟩ := h
  refine ⟨w, env, _, KX, R, E, h, fun x S1 v H1 μ1 F1 R1 X1 r1 h1 => ?_, kx⟩
  unfold asB at h1
  split at h1
  · cases r1 with | z q => cases q; exact ⟨_, rfl, k _ S1 H1 μ1 F1 R1 X1 h1⟩
  · exact h1.elim
theorem xtv (h : PX X B F0 W a wa) (he : ∀ whole, isTrue a X.env whole = (do let v ← whole; standAt a.pos; holding [v] (truthy v)) := by intro _; rfl) : PXT X B F0 W a (wB wa) := wkT (pt_val h he) fun σ H Q q => testOf σ H Q q
theorem xtcmp {op : CmpOp} (ho : OpR X (compareOp op) (r2 B F0 p)) (ha : PX X B F0 W a wa) (hb : PX X B F0 W b wb) (hm : behindInMarks op b = false := by rfl) : PXT X B F0 W (.Compare a [op] [b] pos) (wB (w2 p wa wb)) :=
  wkT (pt_cmpR ho ha hb hm) fun σ H Q h => by
    obtain ⟨w, env, K, KX, R, E, h, k, kx⟩ := h
    refine two (fun _ _ _ _ h => h) σ H _ ⟨w, env, asB K, KX, R, E, h, fun x S1 v H1 μ1 F1 R1 X1 r1 h1 => ?_, kx⟩
    unfold asB at h1
    split at h1
    · cases r1 with | z q => cases q; exact ⟨_, rfl, k _ S1 H1 μ1 F1 R1 X1 h1⟩
    · exact h1.elim
def w3 (p p' : P2) (wa wb wc : WE) : WE := fun env S K KX => wa env S (fun x S1 => wb env S1 (fun y S2 => p x y S2 (asB fun k S3 => pIf k (wc env S3 (fun z S4 => p' y z S4 K) KX) (K (.z (.bool false)) S3))) KX) KX
theorem asB.out {w : Wd} {d : D} {v : V} {K : Bool → Sto → Prop} {S : Sto} (h : asB K d S) (r : RpW B w d v) : ∃ k, v = .bl k ∧ K k S := by
  unfold asB at h
  split at h
  · cases r with | z q => cases q; exact ⟨_, rfl, h⟩
  · exact h.elim
theorem three {r r' : R2} (hr : ∀ x y H Q, r2 B F0 p x y H Q → r x y H Q) (hr' : ∀ x y H Q, r2 B F0 p' x y H Q → r' x y H Q) (σ : St) (H : Hp) (Q : VK) (h : tE B F0 W (w3 p p' wa wb wc) σ H Q) : tChain r r' (tE B F0 W wa) (tE B F0 W wb) (tE B F0 W wc) σ H Q := by
  obtain ⟨w, env, K, KX, R, E, h, k, kx⟩ := h
  refine ⟨w, env, _, KX, R, E, h, fun x S1 v H1 μ1 F1 R1 X1 r1 h1 => ?_, kx⟩
  refine ⟨⟨μ1, S1, F1⟩, env, _, KX, R1, E.xt X1, h1, fun y S2 u H2 μ2 F2 R2 X2 r2 h2 => ?_, kx.xt X1⟩
  refine hr v u H2 _ ⟨⟨μ2, S2, F2⟩, x, y, _, R2, r1.xt X2, r2, h2, fun z S3 t H3 μ3 F3 R3 X3 r3 h3 => ?_⟩
  obtain ⟨kb, rfl, h3⟩ := asB.out (w := ⟨μ3, S3, F3⟩) h3 r3
  refine ⟨kb, rfl, ?_⟩
  have h3 := h3.out
  cases kb with
  | true =>
    rw [if_pos rfl] at h3 ⊢
    refine ⟨⟨μ3, S3, F3⟩, env, _, KX, R3, E.xt ((X1.trans X2).trans X3), h3, fun z S4 t H4 μ4 F4 R4 X4 r4 h4 => ?_, kx.xt ((X1.trans X2).trans X3)⟩
    exact hr' u t H4 Q ⟨⟨μ4, S4, F4⟩, y, z, K, R4, r2.xt (X3.trans X4), r4, h4, k.xt (((X1.trans X2).trans X3).trans X4)⟩
  | false =>
    rw [if_neg Bool.false_ne_true] at h3 ⊢
    exact k _ S3 _ H3 μ3 F3 R3 ((X1.trans X2).trans X3) (.z (.bl _)) h3
theorem xch {op op' : CmpOp} (ho : OpR X (compareOp op) (r2 B F0 p)) (ho' : OpR X (compareOp op') (r2 B F0 p')) (ha : PX X B F0 W a wa) (hb : PX X B F0 W b wb) (hc : PX X B F0 W c wc)
    (hm : lastMarks [op, op'] [b, c] = false := by rfl) : PX X B F0 W (.Compare a [op, op'] [b, c] pos) (w3 p p' wa wb wc) :=
  wkE (pe_chain ho ho' ha hb hc hm) (three (fun _ _ _ _ h => h) fun _ _ _ _ h => h)
end

def wAnd (t u : WT) : WT := fun env S K KX => t env S (fun c S1 => pIf c (u env S1 K KX) (K false S1)) KX
def wOr (t u : WT) : WT := fun env S K KX => t env S (fun c S1 => pIf c (K true S1) (u env S1 K KX)) KX
def wNot (t : WT) : WT := fun env S K KX => t env S (fun c S1 => K (!c) S1) KX
def wAndV (wa wb : WE) : WE := fun env S K KX => wa env S (asB fun c S1 => pIf c (wb env S1 K KX) (K (.z (.bool false)) S1)) KX
def wNotV (wa : WE) : WE := fun env S K KX => wa env S (asB fun c S1 => K (.z (.bool (!c))) S1) KX
def wIfE (t : WT) (wa wb : WE) : WE := fun env S K KX => t env S (fun c S1 => pIf c (wa env S1 K KX) (wb env S1 K KX)) KX
section
variable {X : Cx} {B F0 : Hp} {W : WX} {a b c : Expr} {wa wb : WE} {t u : WT} {pos : Pos} {rest : List Expr}
theorem yand1 (ha : PXT X B F0 W a t) : PXW X B F0 W (.BoolOp .And [a] pos) t := pw_and1 ha
theorem yor1 (ha : PXT X B F0 W a t) : PXW X B F0 W (.BoolOp .Or [a] pos) t := pw_or1 ha
theorem yand (ha : PXT X B F0 W a t) (hb : PXW X B F0 W (.BoolOp .And (b :: rest) pos) u) : PXW X B F0 W (.BoolOp .And (a :: b :: rest) pos) (wAnd t u) := wkW (pw_and ha hb) fun σ H Q h => by
  obtain ⟨w, env, K, KX, R, E, h, k, kx⟩ := h
  refine ⟨w, env, _, KX, R, E, h, fun x S1 H1 μ1 F1 R1 X1 h1 => ?_, kx⟩
  have h1 := h1.out
  dsimp only
  cases x with
  | true => rw [if_pos rfl] at h1 ⊢; exact ⟨⟨μ1, S1, F1⟩, env, K, KX, R1, E.xt X1, h1, k.xt X1, kx.xt X1⟩
  | false => rw [if_neg Bool.false_ne_true] at h1 ⊢; exact k _ S1 H1 μ1 F1 R1 X1 h1
theorem yor (ha : PXT X B F0 W a t) (hb : PXW X B F0 W (.BoolOp .Or (b :: rest) pos) u) : PXW X B F0 W (.BoolOp .Or (a :: b :: rest) pos) (wOr t u) := wkW (pw_or ha hb) fun σ H Q h => by
  obtain ⟨w, env, K, KX, R, E, h, k, kx⟩ := h
  refine ⟨w, env, _, KX, R, E, h, fun x S1 H1 μ1 F1 R1 X1 h1 => ?_, kx⟩
  have h1 := h1.out
  dsimp only
  cases x with
  | false => rw [if_neg Bool.false_ne_true] at h1 ⊢; exact ⟨⟨μ1, S1, F1⟩, env, K, KX, R1, E.xt X1, h1, k.xt X1, kx.xt X1⟩
  | true => rw [if_pos rfl] at h1 ⊢; exact k _ S1 H1 μ1 F1 R1 X1 h1
theorem xtw (h : PXW X B F0 W a t) : PXT X B F0 W a t := h.pt
theorem xtnot (h : PXT X B F0 W a t) : PXT X B F0 W (.UnaryOp .Not a pos) (wNot t) := wkT (pt_not h) fun σ H Q h => by
  obtain ⟨w, env, K, KX, R, E, h, k, kx⟩ := h
  exact ⟨w, env, _, KX, R, E, h, fun x S1 H1 μ1 F1 R1 X1 h1 => k _ S1 H1 μ1 F1 R1 X1 h1, kx⟩
theorem xone {op : BoolOp} (h : PX X B F0 W a wa) : PX X B F0 W (.BoolOp op [a] pos) wa := pe_one h
theorem xand (ha : PX X B F0 W a wa) (hb : PX X B F0 W (.BoolOp .And (b :: rest) pos) wb) : PX X B F0 W (.BoolOp .And (a :: b :: rest) pos) (wAndV wa wb) := wkE (pe_and ha hb) fun σ H Q h => by
  obtain ⟨w, env, K, KX, R, E, h, k, kx⟩ := h
  refine ⟨w, env, _, KX, R, E, h, fun x S1 v H1 μ1 F1 R1 X1 r1 h1 => ?_, kx⟩
  obtain ⟨kb, rfl, h2⟩ := asB.out (w := ⟨μ1, S1, F1⟩) h1 r1
  refine ⟨kb, rfl, ?_⟩
  have h2 := h2.out
  cases kb with
  | true => rw [if_pos rfl] at h2 ⊢; exact ⟨⟨μ1, S1, F1⟩, env, K, KX, R1, E.xt X1, h2, k.xt X1, kx.xt X1⟩
  | false => rw [if_neg Bool.false_ne_true] at h2 ⊢; exact k _ S1 _ H1 μ1 F1 R1 X1 (.z (.bl _)) h2
theorem xnot (ha : PX X B F0 W a wa) : PX X B F0 W (.UnaryOp .Not a pos) (wNotV wa) := wkE (pe_not ha) fun σ H Q h => by
  obtain ⟨w, env, K, KX, R, E, h, k, kx⟩ := h
  refine ⟨w, env, _, KX, R, E, h, fun x S1 v H1 μ1 F1 R1 X1 r1 h1 => ?_, kx⟩
  obtain ⟨kb, rfl, h2⟩ := asB.out (w := ⟨μ1, S1, F1⟩) h1 r1
  exact ⟨kb, rfl, k _ S1 _ H1 μ1 F1 R1 X1 (.z (.bl _)) h2⟩
theorem xife (hc : PXT X B F0 W c t) (ha : PX X B F0 W a wa) (hb : PX X B F0 W b wb) : PX X B F0 W (.IfExp c a b pos) (wIfE t wa wb) := wkE (pe_ifExp hc ha hb) fun σ H Q h => by
  obtain ⟨w, env, K, KX, R, E, h, k, kx⟩ := h
  refine ⟨w, env, _, KX, R, E, h, fun x S1 H1 μ1 F1 R1 X1 h1 => ?_, kx⟩
  have h1 := h1.out
  dsimp only
  cases x with
  | true => rw [if_pos rfl] at h1 ⊢; exact ⟨⟨μ1, S1, F1⟩, env, K, KX, R1, E.xt X1, h1, k.xt X1, kx.xt X1⟩
  | false => rw [if_neg Bool.false_ne_true] at h1 ⊢; exact ⟨⟨μ1, S1, F1⟩, env, K, KX, R1, E.xt X1, h1, k.xt X1, kx.xt X1⟩
end

def wNil : WA := fun _ S K _ => K [] S
def wCons (wa : WE) (wr : WA) : WA := fun env S K KX => wa env S (fun x S1 => wr env S1 (fun xs S2 => K (x :: xs) S2) KX) KX
def allZ : List D → Option (List PyData)
  | [] => some []
  | .z d :: ds => (allZ ds).map (d :: ·)
  | _ :: _ => none
def mkT (ds : List D) : D := match allZ ds with
  | some es => .z (.tuple es)
  | none => .t ds
def wTup (wa : WA) : WE := fun env S K KX => wa env S (fun ds S1 => pReq (ds.length ≤ sizeLine) (K (mkT ds) S1)) KX
def wLst (wa : WA) : WE := fun env S K KX => wa env S (fun ds S1 => pReq (ds.length ≤ sizeLine) (K (.r S1.length) (S1 ++ [.lst ds]))) KX
def wCall (p : PL) (wa : WA) : WE := fun env S K KX => wa env S (fun ds S1 => p ds S1 K) KX
theorem allZ_rp {B F : Hp} {μ : Nat → Addr} {n : Nat} : ∀ {ds : List D} {es : List PyData} {vs : List V}, allZ ds = some es → RpDs B F μ n ds vs → RpTs (LF F) (TF F) es vs
  | [], _, _, e, h => by cases h; simp [allZ] at e; subst e; exact .nil
  | .z d :: ds, _, _, e, h => by
    cases h with
    | cons a b =>
      simp only [allZ, Option.map_eq_some_iff] at e
      obtain ⟨es, h1, rfl⟩ := e
      cases a with | z q => exact .cons q (allZ_rp h1 b)
  | .b d :: ds, _, _, e, h => by simp [allZ] at e
  | .r d :: ds, _, _, e, h => by simp [allZ] at e
  | .t d :: ds, _, _, e, h => by simp [allZ] at e
  | .o d :: ds, _, _, e, h => by simp [allZ] at e
  | .y d :: ds, _, _, e, h => by simp [allZ] at e
  | .x c fs :: ds, _, _, e, h => by simp [allZ] at e
theorem mkT_rp {B F : Hp} {μ : Nat → Addr} {n : Nat} {ds : List D} {vs : List V} {p : Addr} (hp : F p = some (.tup vs)) (h : RpDs B F μ n ds vs) : RpD B F μ n (mkT ds) (.ref p) := by
  unfold mkT
  split
  · rename_i es e
    exact .z (.tup hp (allZ_rp e h))
  · exact .t hp h
section
variable {X : Cx} {B F0 : Hp} {W : WX} {e o : Expr} {es : List Expr} {we wo : WE} {wa : WA} {pos cpos apos : Pos} {x : Str} {id T : String}
theorem anil : PXA X B F0 W [] wNil := wkA pa_nil fun σ H Q h => by
  obtain ⟨w, env, K, KX, R, E, h, k, kx⟩ := h
  exact k [] w.S [] H w.μ w.F R .refl .nil h
theorem acons (h1 : PX X B F0 W e we) (h2 : PXA X B F0 W es wa) (hs : starEach (e :: es) X.env = (false, eval e X.env) :: starEach es X.env := by rfl) : PXA X B F0 W (e :: es) (wCons we wa) := wkA (pa_cons h1 h2 hs) fun σ H Q h => by
  obtain ⟨w, env, K, KX, R, E, h, k, kx⟩ := h
  refine ⟨w, env, _, KX, R, E, h, fun x S1 v H1 μ1 F1 R1 X1 r1 h1 => ?_, kx⟩
  exact ⟨⟨μ1, S1, F1⟩, env, _, KX, R1, E.xt X1, h1, fun xs S2 vs H2 μ2 F2 R2 X2 r2 h2 => k _ S2 _ H2 μ2 F2 R2 (X1.trans X2) (.cons (r1.xt X2) r2) h2, kx.xt X1⟩
theorem xtup {j : Nat} (h : PXA X B F0 W es wa) : PX X B F0 W (.Tuple es j pos) (wTup wa) := wkE (pe_tup h) fun σ H Q h => by
  obtain ⟨w, env, K, KX, R, E, h, k, kx⟩ := h
  refine ⟨w, env, _, KX, R, E, h, fun xs S1 vs H1 μ1 F1 R1 X1 r1 h1 => ?_, kx⟩
  obtain ⟨z, h1⟩ := h1.out
  refine ⟨by rw [← r1.length]; exact z, fun p hp => ?_⟩
  obtain ⟨R2, X2⟩ := R1.froze (.tup vs) hp
  exact k _ S1 _ _ μ1 _ R2 (X1.trans X2) (mkT_rp upd_same (r1.xt X2)) h1
theorem xlst (h : PXA X B F0 W es wa) : PX X B F0 W (.List es pos) (wLst wa) := wkE (pe_lst h) fun σ H Q h => by
  obtain ⟨w, env, K, KX, R, E, h, k, kx⟩ := h
  refine ⟨w, env, _, KX, R, E, h, fun xs S1 vs H1 μ1 F1 R1 X1 r1 h1 => ?_, kx⟩
  obtain ⟨z, h1⟩ := h1.out
  refine ⟨by rw [← r1.length]; exact z, fun p hp => ?_⟩
  obtain ⟨R2, X2⟩ := R1.grow (u := .lst vs) (o := .lst xs) hp fun G hG => ⟨vs, hG, r1⟩
  have e : muX μ1 S1.length p S1.length = p := by unfold muX; rw [if_pos rfl]
  have r : RpD B F1 (muX μ1 S1.length p) (S1 ++ [Ob.lst xs]).length (.r S1.length) (.ref p) := by
    have q : RpD B F1 (muX μ1 S1.length p) (S1 ++ [Ob.lst xs]).length (.r S1.length) (.ref (muX μ1 S1.length p S1.length)) := .r (by simp)
    rw [e] at q
    exact q
  exact k _ _ _ _ _ _ R2 (X1.trans X2) r h1
theorem args {p : PL} {r : List V → Hp → VK → Prop} (hr : ∀ vs H Q, rL B F0 p vs H Q → r vs H Q) (σ : St) (H : Hp) (Q : VK) (h : tE B F0 W (wCall p wa) σ H Q) : tCB r (tA B F0 W wa) σ H Q := by
  obtain ⟨w, env, K, KX, R, E, h, k, kx⟩ := h
  exact ⟨w, env, _, KX, R, E, h, fun xs S1 vs H1 μ1 F1 R1 X1 r1 h1 => hr vs H1 Q ⟨⟨μ1, S1, F1⟩, xs, K, R1, r1, h1, k.xt X1⟩, kx⟩
theorem xcallB {p : PL} {q : Pos} (hc : CallR X (.builtin id) (rL B F0 p)) (hg : Gl X x) (hm : X.mg x = none) (hv : bootBuiltins x = some (.builtin id)) (ha : PXA X B F0 W (e :: es) wa) (hn : x ≠ "__name__" := by decide) (hdb : (x == ("__debug__" : Str)) = false := by decide)
    (he : starEach (e :: es) X.env = (false, eval e X.env) :: starEach es X.env := by rfl) (hpl : (backTo pos (starEach es X.env)).any (·.1) = false := by rfl) : PX X B F0 W (.Call (.Name x q) (e :: es) [] pos) (wCall p wa) :=
  wkE (pe_callB hc hg hm hv ha hn hdb he hpl) (args fun _ _ _ h => h)
theorem xcallT {p : PL} {q : Pos} (hc : CallR X (.type T) (rL B F0 p)) (hg : Gl X x) (hm : X.mg x = none) (hv : bootBuiltins x = some (.type T)) (ha : PXA X B F0 W (e :: es) wa) (hn : x ≠ "__name__" := by decide) (hdb : (x == ("__debug__" : Str)) = false := by decide)
    (he : starEach (e :: es) X.env = (false, eval e X.env) :: starEach es X.env := by rfl) (hpl : (backTo pos (starEach es X.env)).any (·.1) = false := by rfl) : PX X B F0 W (.Call (.Name x q) (e :: es) [] pos) (wCall p wa) :=
  wkE (pe_callTy hc hg hm hv ha hn hdb he hpl) (args fun _ _ _ h => h)
end

abbrev WO := Env → Sto → (Option Int → Sto → Prop) → KX → Prop
def FiO (B F0 : Hp) (w : Wd) (K : Option Int → Sto → Prop) (Q : Option Int → Hp → Prop) : Prop := ∀ b S' H' μ' F', Rl B F0 μ' S' F' H' → Xt w.μ w.S w.F μ' S' F' → K b S' → Q b H'
theorem FiO.xt {B F0 : Hp} {w w' : Wd} {K : Option Int → Sto → Prop} {Q : Option Int → Hp → Prop} (h : FiO B F0 w K Q) (x : Xt w.μ w.S w.F w'.μ w'.S w'.F) : FiO B F0 w' K Q := fun b S H μ F R X k => h b S H μ F R (x.trans X) k
section
variable {X : Cx} {B F0 : Hp} {W : WX} {e o : Expr} {we : WE} {wl wh : WO} {lo hi : Option Expr} {pos p2 : Pos}
end

def isTy (T : Ty) (S : Sto) (x : D) : Bool := match T, x with
  | .str, .z (.str _) => true
  | .list, .r n => match S[n]? with
    | some (.lst _) => true
    | _ => false
  | .dict, .r n => match S[n]? with
    | some (.dic _) => true
    | _ => false
  | .list, .z (.list _) => true
  | .list, .b (.list _) => true
  | _, _ => false
def wMth (T : Ty) (p : D → PL) (wo : WE) (wa : WA) : WE := fun env S K KX => wo env S (fun x S1 => pReq (isTy T S1 x = true) (wa env S1 (fun ds S2 => p x ds S2 K) KX)) KX
theorem isTy_ok {K : PySem.W.Frag} {T : Ty} {B F0 H : Hp} {w : Wd} {x : D} {v : V} (R : RlW B F0 w H) (r : RpW B w x v) (h : isTy T w.S x = true) : tyV K T.s v H := by
  unfold isTy at h
  split at h
  · cases r with | z q => cases q; exact rfl
  · cases r with
    | r hi =>
      split at h
      · rename_i ds e
        obtain ⟨vs, hv, _⟩ := R.ob _ _ e
        exact .inl ⟨rfl, vs, SqL.of hv⟩
      · cases h
  · cases r with
    | r hi =>
      split at h
      · rename_i ds e
        obtain ⟨vs, hv, _⟩ := R.ob _ _ e
        exact .inr (.inr (.inl ⟨rfl, .inl ⟨_, hv⟩⟩))
      · cases h
  · cases r with | z q => cases q with | lst a b => exact .inl ⟨rfl, _, SqL.of (R.fh _ _ a)⟩
  · cases r with
    | b q =>
      cases q with
      | lst a b => exact .inl ⟨rfl, _, .inl (a.elim (fun z => R.fh.rd z) fun z => R.bh.rd z)⟩
  · cases h
section
variable {X : Cx} {B F0 : Hp} {W : WX} {o e : Expr} {es : List Expr} {wo : WE} {wa : WA} {name : Str} {apos cpos : Pos} {T : Ty} {id : String} {p : D → PL}
theorem xm0 (pa : PlainAttrs T.s) (slot : Slot T.s name id) (hty : typeOf (.builtin id) = pure (.type "method_descriptor")) (hm : MtR X id (rM B F0 p)) (ho : PX X B F0 W o wo)
    (hbase : attributeBase o name X.env (eval o X.env) = eval o X.env := by rfl) (hline : (apos.endLine == cpos.line) = true := by rfl) : PX X B F0 W (.Call (.Attribute o name apos) [] [] cpos) (wMth T p wo wNil) :=
  wkE (pe_bm0 pa slot hty hm ho hbase hline) fun σ H Q h => by
    obtain ⟨w, env, K, KX, R, E, h, k, kx⟩ := h
    refine ⟨w, env, _, KX, R, E, h, fun x S1 v H1 μ1 F1 R1 X1 r1 h1 => ?_, kx⟩
    obtain ⟨ty, h1⟩ := h1.out
    exact ⟨isTy_ok (w := ⟨μ1, S1, F1⟩) R1 r1 ty, ⟨μ1, S1, F1⟩, x, [], K, R1, r1, .nil, h1, k.xt X1⟩
theorem xm1 (pa : PlainAttrs T.s) (slot : Slot T.s name id) (hty : typeOf (.builtin id) = pure (.type "method_descriptor")) (hm : MtR X id (rM B F0 p)) (ho : PX X B F0 W o wo) (ha : PXA X B F0 W (e :: es) wa)
    (hbase : attributeBase o name X.env (eval o X.env) = eval o X.env := by rfl)
    (hfew : ((backTo cpos (starEach (e :: es) X.env)).all (fun x => !x.1) && (backToKw cpos (keywordEach [] X.env)).all (fun x => x.1.isSome)
      && decide ((e :: es).length + ([] : List Keyword).length + (if ([] : List Keyword).isEmpty then 0 else 1) < 30)) = true := by rfl)
    (hline : (apos.endLine == cpos.line) = true := by rfl) (hs : starEach (e :: es) X.env = (false, eval e X.env) :: starEach es X.env := by rfl) (hplain : (backTo cpos (starEach es X.env)).any (·.1) = false := by rfl) :
    PX X B F0 W (.Call (.Attribute o name apos) (e :: es) [] cpos) (wMth T p wo wa) :=
  wkE (pe_bm pa slot hty hm ho ha hbase hfew hline hs hplain) fun σ H Q h => by
    obtain ⟨w, env, K, KX, R, E, h, k, kx⟩ := h
    refine ⟨w, env, _, KX, R, E, h, fun x S1 v H1 μ1 F1 R1 X1 r1 h1 => ?_, kx⟩
    obtain ⟨ty, h1⟩ := h1.out
    refine ⟨isTy_ok (w := ⟨μ1, S1, F1⟩) R1 r1 ty, ⟨μ1, S1, F1⟩, env, _, KX, R1, E.xt X1, h1, fun xs S2 vs H2 μ2 F2 R2 X2 r2 h2 => ?_, kx.xt X1⟩
    exact ⟨⟨μ2, S2, F2⟩, x, xs, K, R2, r1.xt X2, r2, h2, k.xt (X1.trans X2)⟩
end
end PL

set_option Elab.async false
set_option linter.all false
set_option maxRecDepth 100000
namespace PL
open PySem L2

def lsD (S : Sto) : D → Option (List D)
  | .z (.list ds) => some (ds.map .z)
  | .b (.list ds) => some (ds.map bz)
  | .r n => match S[n]? with
    | some (.lst ds) => some ds
    | _ => none
  | _ => none
def tpD : D → Option (List D)
  | .z (.tuple ds) => some (ds.map .z)
  | .b (.tuple ds) => some (ds.map bz)
  | .t ds => some ds
  | _ => none
def sqD (S : Sto) : D → Option (List D)
  | .z (.tuple ds) => some (ds.map .z)
  | .b (.tuple ds) => some (ds.map bz)
  | .t ds => some ds
  | x => lsD S x
def lenD (S : Sto) : D → Option Nat
  | .z (.list ds) => some ds.length
  | .b (.list ds) => some ds.length
  | .z (.tuple ds) => some ds.length
  | .b (.tuple ds) => some ds.length
  | .t ds => some ds.length
  | .r n => match S[n]? with
    | some (.lst ds) => some ds.length
    | some (.dic kvs) => some kvs.length
    | _ => none
  | _ => none
def atD {α : Type} (xs : List α) : Int → Option α
  | .ofNat k => xs[k]?
  | .negSucc k => if k < xs.length then xs[xs.length - (k + 1)]? else none
def ixD (S : Sto) : D → Int → Option D
  | .z (.list ds), i => (atD ds i).map .z
  | .b (.list ds), i => (atD ds i).map bz
  | .z (.tuple ds), i => (atD ds i).map .z
  | .b (.tuple ds), i => (atD ds i).map bz
  | .t ds, i => atD ds i
  | .r n, i => match S[n]? with
    | some (.lst ds) => atD ds i
    | _ => none
  | _, _ => none
theorem atD_neg {α : Type} (xs : List α) (k : Nat) : atD xs (Int.negSucc k) = if k < xs.length then xs[xs.length - (k + 1)]? else none := rfl
theorem atD_atI {α : Type} {xs : List α} {i : Int} {x : α} (h : atD xs i = some x) : atI xs i = some x := by
  cases i with
  | ofNat k => exact atI_nat h
  | negSucc k =>
    rw [atD_neg] at h
    split at h
    · rename_i hk
      have e : ixN xs.length (Int.negSucc k) = some (xs.length - (k + 1)) := by
        unfold ixN
        rw [if_neg (by omega), if_pos (by omega)]
        congr 1
        omega
      unfold atI
      rw [e]
      exact h
    · cases h
section
variable {K : PySem.W.Frag} {B F0 H : Hp} {w : Wd}
theorem lsD_ok {x : D} {v : V} {ds : List D} (R : RlW B F0 w H) (r : RpW B w x v) (h : lsD w.S x = some ds) : ∃ a vs, v = .ref a ∧ Rd H a (.lst vs) ∧ RpsW B w ds vs := by
  unfold lsD at h
  split at h
  · cases h; cases r with | z q => cases q with | lst a b => exact ⟨_, _, rfl, .inl (R.fh _ _ a), RpDs.zs b⟩
  · cases h; cases r with | b q => cases q with | lst a b => exact ⟨_, _, rfl, a.elim (fun z => R.fh.rd z) fun z => R.bh.rd z, RpDs.bzs b⟩
  · split at h
    · rename_i e
      cases h; cases r with | r hi => obtain ⟨vs, hv, rv⟩ := R.ob _ _ e; exact ⟨_, vs, rfl, .inl hv, rv⟩
    · cases h
  · cases h
theorem tpD_ok {x : D} {v : V} {ds : List D} (R : RlW B F0 w H) (r : RpW B w x v) (h : tpD x = some ds) : ∃ a vs, v = .ref a ∧ H a = some (.tup vs) ∧ RpsW B w ds vs := by
  unfold tpD at h
  split at h
  · cases h; cases r with | z q => cases q with | tup a b => exact ⟨_, _, rfl, R.fh _ _ a, RpDs.zs b⟩
  · cases h; cases r with | b q => cases q with | tup a b => exact ⟨_, _, rfl, R.fh _ _ a, RpDs.bzs b⟩
  · cases h; cases r with | t a b => exact ⟨_, _, rfl, R.fh _ _ a, b⟩
  · cases h
theorem tpD_okF {x : D} {v : V} {ds : List D} (R : RlW B F0 w H) (r : RpW B w x v) (h : tpD x = some ds) : ∃ a vs, v = .ref a ∧ H a = some (.tup vs) ∧ w.F a = some (.tup vs) ∧ RpsW B w ds vs := by
  unfold tpD at h
  split at h
  · cases h; cases r with | z q => cases q with | tup a b => exact ⟨_, _, rfl, R.fh _ _ a, a, RpDs.zs b⟩
  · cases h; cases r with | b q => cases q with | tup a b => exact ⟨_, _, rfl, R.fh _ _ a, a, RpDs.bzs b⟩
  · cases h; cases r with | t a b => exact ⟨_, _, rfl, R.fh _ _ a, a, b⟩
  · cases h
theorem sqD_ok {x : D} {v : V} {ds : List D} (R : RlW B F0 w H) (r : RpW B w x v) (h : sqD w.S x = some ds) : ∃ a vs, v = .ref a ∧ (SqL K H a vs ∨ SqT K H a vs) ∧ RpsW B w ds vs := by
  unfold sqD at h
  split at h
  · cases h; cases r with | z q => cases q with | tup a b => exact ⟨_, _, rfl, .inr (.inl (.inl (R.fh _ _ a))), RpDs.zs b⟩
  · cases h; cases r with | b q => cases q with | tup a b => exact ⟨_, _, rfl, .inr (.inl (.inl (R.fh _ _ a))), RpDs.bzs b⟩
  · cases h; cases r with | t a b => exact ⟨_, _, rfl, .inr (.inl (.inl (R.fh _ _ a))), b⟩
  · obtain ⟨a, vs, e, h1, h2⟩ := lsD_ok R r h
    exact ⟨a, vs, e, .inl (.inl h1), h2⟩
theorem ixD_ok {x d : D} {v : V} {i : Int} (R : RlW B F0 w H) (r : RpW B w x v) (h : ixD w.S x i = some d) : ∃ a vs u, v = .ref a ∧ (SqL K H a vs ∨ SqT K H a vs) ∧ atI vs i = some u ∧ RpW B w d u := by
  have key : ∀ {ds : List D} {vs : List V}, RpsW B w ds vs → atD ds i = some d → ∃ u, atI vs i = some u ∧ RpW B w d u := fun {ds vs} rv e => by
    cases i with
    | ofNat k =>
      obtain ⟨u, h1, h2⟩ := RpDs.get rv e
      exact ⟨u, atI_nat h1, h2⟩
    | negSucc k =>
      have e2 : atD ds (Int.negSucc k) = some d := e
      rw [atD_neg] at e
      split at e
      · rename_i hk
        obtain ⟨u, h1, h2⟩ := RpDs.get rv e
        refine ⟨u, atD_atI ?_, h2⟩
        have hl : vs.length = ds.length := rv.length.symm
        rw [atD_neg, hl, if_pos hk]
        exact h1
      · cases e
  have mp : ∀ {f : PyData → D} {ds : List PyData}, (atD ds i).map f = some d → atD (ds.map f) i = some d := fun {f ds} e => by
    cases i with
    | ofNat k => show (ds.map f)[k]? = _; rw [List.getElem?_map]; exact e
    | negSucc k =>
      rw [atD_neg] at e ⊢
      rw [List.length_map]
      split at e
      · rename_i hk
        rw [if_pos hk, List.getElem?_map]; exact e
      · simp at e
  unfold ixD at h
  split at h
  · cases r with | z q => cases q with | lst a b => obtain ⟨u, h1, h2⟩ := key (RpDs.zs b) (mp h); exact ⟨_, _, u, rfl, .inl (.inl (.inl (R.fh _ _ a))), h1, h2⟩
  · cases r with | b q => cases q with | lst a b => obtain ⟨u, h1, h2⟩ := key (RpDs.bzs b) (mp h); exact ⟨_, _, u, rfl, .inl (.inl (a.elim (fun z => R.fh.rd z) fun z => R.bh.rd z)), h1, h2⟩
  · cases r with | z q => cases q with | tup a b => obtain ⟨u, h1, h2⟩ := key (RpDs.zs b) (mp h); exact ⟨_, _, u, rfl, .inr (.inl (.inl (R.fh _ _ a))), h1, h2⟩
  · cases r with | b q => cases q with | tup a b => obtain ⟨u, h1, h2⟩ := key (RpDs.bzs b) (mp h); exact ⟨_, _, u, rfl, .inr (.inl (.inl (R.fh _ _ a))), h1, h2⟩
  · cases r with | t a b => obtain ⟨u, h1, h2⟩ := key b h; exact ⟨_, _, u, rfl, .inr (.inl (.inl (R.fh _ _ a))), h1, h2⟩
  · split at h
    · rename_i e
      cases r with | r hi => obtain ⟨vs, hv, rv⟩ := R.ob _ _ e; obtain ⟨u, h1, h2⟩ := key rv h; exact ⟨_, _, u, rfl, .inl (.inl (.inl hv)), h1, h2⟩
    · cases h
  · cases h
end

section
variable {B F0 H : Hp} {w : Wd} {K : K1} {Q : VK}
theorem Fi.data {d : PyData} {v : V} (k : Fi B F0 w K Q) (R : RlW B F0 w H) (r : ∀ L T, RpT L T d v) (h : K (.z d) w.S) : Q v H := k _ w.S v H w.μ w.F R .refl (.z (r _ _)) h
theorem Fi.int {i : Int} (k : Fi B F0 w K Q) (R : RlW B F0 w H) (h : K (.z (.int i)) w.S) : Q (.int i) H := k.data R (fun _ _ => .int i) h
theorem Fi.bl {i : Bool} (k : Fi B F0 w K Q) (R : RlW B F0 w H) (h : K (.z (.bool i)) w.S) : Q (.bl i) H := k.data R (fun _ _ => .bl i) h
theorem Fi.str {i : Str} (k : Fi B F0 w K Q) (R : RlW B F0 w H) (h : K (.z (.str i)) w.S) : Q (.str i) H := k.data R (fun _ _ => .str i) h
theorem Fi.non (k : Fi B F0 w K Q) (R : RlW B F0 w H) (h : K (.z .none) w.S) : Q .non H := k.data R (fun _ _ => .non) h
theorem Fi.newL {ds : List D} {vs : List V} (k : Fi B F0 w K Q) (R : RlW B F0 w H) (r : RpsW B w ds vs) (h : K (.r w.S.length) (w.S ++ [.lst ds])) {p : Addr} (hp : H p = none) : Q (.ref p) (upd H p (.lst vs)) := by
  obtain ⟨R2, X2⟩ := R.grow (u := .lst vs) (o := .lst ds) hp fun G hG => ⟨vs, hG, r⟩
  have e : muX w.μ w.S.length p w.S.length = p := by unfold muX; rw [if_pos rfl]
  have q : RpD B w.F (muX w.μ w.S.length p) (w.S ++ [Ob.lst ds]).length (.r w.S.length) (.ref (muX w.μ w.S.length p w.S.length)) := .r (by simp)
  rw [e] at q
  exact k _ _ _ _ _ _ R2 X2 q h
theorem Fi.newT {ds : List D} {vs : List V} (k : Fi B F0 w K Q) (R : RlW B F0 w H) (r : RpsW B w ds vs) (h : K (mkT ds) w.S) {p : Addr} (hp : H p = none) : Q (.ref p) (upd H p (.tup vs)) := by
  obtain ⟨R2, X2⟩ := R.froze (.tup vs) hp
  exact k _ _ _ _ _ _ R2 X2 (mkT_rp upd_same (r.xt X2)) h
theorem Fi.setL {n : Nat} {ds : List D} {vs : List V} {d : D} {v : V} (k : Fi B F0 w K Q) (R : RlW B F0 w H) (hn : n < w.S.length) (r : RpsW B w ds vs) (rd : RpW B w d v) (h : K d (w.S.set n (.lst ds))) : Q v (upd H (w.μ n) (.lst vs)) := by
  obtain ⟨R2, X2⟩ := R.write (u := .lst vs) (o := .lst ds) hn fun G hG => ⟨vs, hG, r⟩
  exact k _ _ _ _ _ _ R2 X2 (rd.xt X2) h
end
def lsR (S : Sto) (n : Nat) : Option (List D) := match S[n]? with
  | some (.lst ds) => some ds
  | _ => none
theorem lsR_ok {B F0 H : Hp} {w : Wd} {n : Nat} {ds : List D} (R : RlW B F0 w H) (h : lsR w.S n = some ds) : n < w.S.length ∧ ∃ vs, H (w.μ n) = some (.lst vs) ∧ RpsW B w ds vs := by
  unfold lsR at h
  split at h
  · rename_i e
    cases h
    obtain ⟨vs, hv, rv⟩ := R.ob _ _ e
    exact ⟨Rl.lt e, vs, hv, rv⟩
  · cases h

def pCat : P2 := fun x y S K => pGet (lsD S x) fun xs => pGet (lsD S y) fun ys => pReq (xs.length + ys.length ≤ sizeLine) (K (.r S.length) (S ++ [.lst (xs ++ ys)]))
def pAdd : P2 := fun x y S K => match x, y with
  | .z (.int i), .z (.int j) => K (.z (.int (i + j))) S
  | .z (.str a), .z (.str b) => pReq (a.length + b.length ≤ sizeLine) (K (.z (.str (a ++ b))) S)
  | x, y => match tpD x, tpD y with
    | some xs, some ys => pReq (xs.length + ys.length ≤ sizeLine) (K (mkT (xs ++ ys)) S)
    | _, _ => pCat x y S K
def pSub : P2 := fun x y S K => match x, y with
  | .z (.int i), .z (.int j) => K (.z (.int (i - j))) S
  | _, _ => False
def strRep (x : Str) (k : Nat) : Str := ⟨(List.replicate k x.cps.toList).flatten.toArray⟩
def pMul : P2 := fun x y S K => match x, y with
  | .z (.int i), .z (.int j) => pReq (CMul i j) (K (.z (.int (i * j))) S)
  | .z (.str a), .z (.int j) => pReq (0 ≤ j ∧ j ≤ 1000 ∧ a.length ≤ 1000) (K (.z (.str (strRep a j.toNat))) S)
  | .r n, .z (.int j) => pGet (lsR S n) fun xs => pReq (-(2 ^ 63) ≤ j ∧ j < 2 ^ 63 ∧ xs.length * j.toNat ≤ sizeLine) (K (.r S.length) (S ++ [.lst (List.replicate j.toNat xs).flatten]))
  | _, _ => False
def pDiv : P2 := fun x y S K => match x, y with
  | .z (.int i), .z (.int j) => pReq (j ≠ 0 ∧ j.natAbs < 1073741824) (K (.z (.int (i.fdiv j))) S)
  | _, _ => False
def pMod : P2 := fun x y S K => match x, y with
  | .z (.int i), .z (.int j) => pReq (j ≠ 0) (K (.z (.int (i.fmod j))) S)
  | _, _ => False
def pPow : P2 := fun x y S K => match x, y with
  | .z (.int i), .z (.int j) => pReq (0 ≤ j ∧ j ≤ 1000000 ∧ i.natAbs < 2 ^ 64) (K (.z (.int (i ^ j.toNat))) S)
  | _, _ => False
theorem rpInt {B : Hp} {w : Wd} {i : Int} {v : V} (r : RpW B w (.z (.int i)) v) : v = .int i := by cases r with | z q => cases q; rfl
theorem rpStr {B : Hp} {w : Wd} {i : Str} {v : V} (r : RpW B w (.z (.str i)) v) : v = .str i := by cases r with | z q => cases q; rfl
theorem rpBl {B : Hp} {w : Wd} {i : Bool} {v : V} (r : RpW B w (.z (.bool i)) v) : v = .bl i := by cases r with | z q => cases q; rfl
theorem strRep_ok (x : Str) : ∀ k : Nat, (List.replicate k x.cps).foldl (· ++ ·) #[] = (strRep x k).cps := by
  have h : ∀ (k : Nat) (acc : Array Nat), (List.replicate k x.cps).foldl (· ++ ·) acc = acc ++ (List.replicate k x.cps.toList).flatten.toArray := by
    intro k
    induction k with
    | zero => intro acc; simp
    | succ k ih => intro acc; rw [List.replicate_succ, List.foldl_cons, ih, List.replicate_succ, List.flatten_cons]; apply Array.ext'; simp
  intro k
  rw [h]; simp [strRep]
section
variable {X : Cx} {B F0 : Hp}
theorem catR {f : Value → Value → Sem Value} (hf : ∀ {pins : List (Addr × Obj)} {s : Shared} {σ : St} {H : Hp} {l b : Addr} {xs zs : List V} {Q : VK}, Inv X pins σ H s → Rd H l (.lst xs) → Rd H b (.lst zs) → xs.length + zs.length ≤ sizeLine → (∀ p, H p = none → Q (.ref p) (upd H p (.lst (xs ++ zs)))) →
    wpAny (model X.prog X.w) X.A (f (.ref l) (.ref b)) (EP X pins σ Q) X.xe s) : OpR X f (r2 B F0 pCat) := by
  intro pins s σ H x y v u Q I rx ry h
  obtain ⟨w, dx, dy, K, R, r1, r2, h, k⟩ := h
  obtain ⟨xs, e1, h⟩ := h.out
  obtain ⟨ys, e2, h⟩ := h.out
  obtain ⟨hz, h⟩ := h.out
  obtain ⟨a, vs, rfl, d1, q1⟩ := lsD_ok R r1 e1
  obtain ⟨b, us, rfl, d2, q2⟩ := lsD_ok R r2 e2
  cases rx; cases ry
  exact hf I d1 d2 (by rw [← q1.length, ← q2.length]; exact hz) fun p hp => k.newL R (q1.append q2) h hp
theorem cat_lists {pins : List (Addr × Obj)} {s : Shared} {σ : St} {H : Hp} {l b : Addr} {xs zs : List V} {Q : VK} (I : Inv X pins σ H s) (h1 : Rd H l (.lst xs)) (h2 : Rd H b (.lst zs)) (hz : xs.length + zs.length ≤ sizeLine)
    (q : ∀ p, H p = none → Q (.ref p) (upd H p (.lst (xs ++ zs)))) : wpAny (model X.prog X.w) X.A (binaryOp .Add (.ref l) (.ref b)) (EP X pins σ Q) X.xe s := by
  obtain ⟨z1, its, n, v1, e1⟩ := h1.ok I.hok
  obtain ⟨z2, jts, m, v2, e2⟩ := h2.ok I.hok
  have l1 := v1.length
  have l2 := v2.length
  refine PySem.P.add_list e1 e2 ?_ ?_
  · have ea : its.toArray ++ jts.toArray = (its ++ jts).toArray := by simp
    rw [ea]
    exact ⟨.ref _, _, I.lnew (t' := s.toks) (v1.append v2) (by simp; omega), rfl, q _ I.fresh⟩
  · simp; omega
theorem oAdd : OpR X (binaryOp .Add) (r2 B F0 pAdd) := by
  intro pins s σ H x y v u Q I rx ry h
  obtain ⟨w, dx, dy, K, R, q1, q2, h, k⟩ := h
  unfold pAdd at h
  split at h
  · rw [rpInt q1] at rx; rw [rpInt q2] at ry
    exact op_add pins s σ H _ _ v u Q I rx ry ⟨_, _, rfl, rfl, k.int R h⟩
  · obtain ⟨hz, h⟩ := h.out
    rw [rpStr q1] at rx; rw [rpStr q2] at ry
    exact op_add_str pins s σ H _ _ v u Q I rx ry ⟨_, _, rfl, rfl, hz, k.str R h⟩
  split at h
  · rename_i xs ys e1 e2
    obtain ⟨hz, h⟩ := h.out
    obtain ⟨a, vs, rfl, ha, fa, ra⟩ := tpD_okF R q1 e1
    obtain ⟨b, us, rfl, hb, fb, rb⟩ := tpD_okF R q2 e2
    refine op_catA pins s σ H _ _ v u Q I rx ry ⟨a, b, vs, us, rfl, rfl, .inl (.inl ha), .inl (.inl hb), by rw [← ra.length, ← rb.length]; exact hz, fun z => ?_, fun _ z => ?_, fun _ _ p hp => k.newT R (ra.append rb) h hp⟩
    · subst z
      cases ra
      exact k _ w.S _ H w.μ w.F R .refl (mkT_rp fb rb) h
    · subst z
      cases rb
      rw [List.append_nil] at h
      exact k _ w.S _ H w.μ w.F R .refl (mkT_rp fa ra) h
  · exact catR (B := B) (F0 := F0) (fun {_ _ _ _ _ _ _ _ _} I a b c d => cat_lists I a b c d) pins s σ H _ _ v u Q I rx ry ⟨w, _, _, K, R, q1, q2, h, k⟩
theorem intOp {op : Operator} {g : Int → Int → Int} {C : Int → Int → Prop} {p : P2} (ho : OpR X (binaryOp op) (rI C fun i j => .int (g i j))) (hp : ∀ x y S K, p x y S K → ∃ i j, x = .z (.int i) ∧ y = .z (.int j) ∧ C i j ∧ K (.z (.int (g i j))) S) : OpR X (binaryOp op) (r2 B F0 p) := by
  intro pins s σ H x y v u Q I rx ry h
  obtain ⟨w, dx, dy, K, R, q1, q2, h, k⟩ := h
  obtain ⟨i, j, rfl, rfl, hc, h5⟩ := hp _ _ _ _ h
  rw [rpInt q1] at rx; rw [rpInt q2] at ry
  exact ho pins s σ H _ _ v u Q I rx ry ⟨_, _, rfl, rfl, hc, k.int R h5⟩
theorem intOp0 {op : Operator} {g : Int → Int → Int} {p : P2} (ho : OpR X (binaryOp op) (rI0 fun i j => .int (g i j))) (hp : ∀ x y S K, p x y S K → ∃ i j, x = .z (.int i) ∧ y = .z (.int j) ∧ K (.z (.int (g i j))) S) : OpR X (binaryOp op) (r2 B F0 p) := by
  intro pins s σ H x y v u Q I rx ry h
  obtain ⟨w, dx, dy, K, R, q1, q2, h, k⟩ := h
  obtain ⟨i, j, rfl, rfl, h5⟩ := hp _ _ _ _ h
  rw [rpInt q1] at rx; rw [rpInt q2] at ry
  exact ho pins s σ H _ _ v u Q I rx ry ⟨_, _, rfl, rfl, k.int R h5⟩
theorem oSub : OpR X (binaryOp .Sub) (r2 B F0 pSub) := intOp0 op_sub fun x y S K h => by
  unfold pSub at h; split at h
  · exact ⟨_, _, rfl, rfl, h⟩
  · exact h.elim
theorem RpDs.rep {B : Hp} {w : Wd} {ds : List D} {vs : List V} (h : RpsW B w ds vs) : ∀ k : Nat, RpsW B w (List.replicate k ds).flatten (List.replicate k vs).flatten
  | 0 => .nil
  | k + 1 => by
    rw [List.replicate_succ, List.replicate_succ, List.flatten_cons, List.flatten_cons]
    exact h.append (RpDs.rep h k)
theorem oMul : OpR X (binaryOp .Mult) (r2 B F0 pMul) := by
  intro pins s σ H x y v u Q I rx ry h
  obtain ⟨w, dx, dy, K, R, q1, q2, h, k⟩ := h
  unfold pMul at h
  split at h
  · obtain ⟨hc, h⟩ := h.out
    rw [rpInt q1] at rx; rw [rpInt q2] at ry
    exact op_mul pins s σ H _ _ v u Q I rx ry ⟨_, _, rfl, rfl, hc, k.int R h⟩
  · rename_i a j
    obtain ⟨⟨h0, h1, h2⟩, h⟩ := h.out
    rw [rpStr q1] at rx; rw [rpInt q2] at ry
    obtain ⟨t, rfl⟩ := rx
    obtain ⟨t', rfl⟩ := ry
    have hm : a.length * j.toNat ≤ 1000000 := Nat.le_trans (Nat.mul_le_mul h2 (show j.toNat ≤ 1000 by omega)) (by decide)
    refine PySem.P.mul_str (by rw [decide_eq_false (by omega), decide_eq_false (by omega)]; rfl) (fun hn _ => ?_) (fun _ _ => ?_) ?_
    · have e : (1000 : Int) ≤ (2 ^ 63 - 1) / j := (Int.le_ediv_iff_mul_le (by omega)).mpr (by omega)
      omega
    · unfold Builtin.Str.tooLong
      exact decide_eq_false (by rw [sizeLine_eq]; omega)
    · have fin : ∀ t, EP X pins σ Q (.str (strRep a j.toNat) t) s := fun t => ⟨.str _, H, I, ⟨t, rfl⟩, k.str R h⟩
      have fin' : ∀ t n, EP X pins σ Q (.str (strRep a j.toNat) t) { s with toks := n } := fun t n => ⟨.str _, H, I.tok n, ⟨t, rfl⟩, k.str R h⟩
      by_cases c1 : j < 1
      · rw [if_pos c1]
        have e : strRep a j.toNat = Str.empty := by
          have : j.toNat = 0 := by omega
          rw [this]; rfl
        rw [e] at fin'
        exact ⟨by decide, fin' _ _⟩
      · rw [if_neg c1]
        by_cases c2 : (j == 1 || a.length == 0) = true
        · rw [if_pos c2]
          have e : strRep a j.toNat = a := by
            rcases Bool.or_eq_true_iff.mp c2 with c | c
            · have : j.toNat = 1 := by have := eq_of_beq c; omega
              rw [this]
              simp [strRep]
            · have hl : a.cps.toList = [] := by
                have := eq_of_beq c
                exact List.eq_nil_of_length_eq_zero this
              have ha : a = ⟨#[]⟩ := by
                cases a with | mk cps => simp at hl; rw [hl]
              rw [ha]; simp [strRep]
          rw [e] at fin
          exact fin t
        · rw [if_neg c2, strRep_ok]
          have e : (⟨(strRep a j.toNat).cps⟩ : Str) = strRep a j.toNat := rfl
          rw [e]
          refine ⟨?_, fin' _ _⟩
          show (strRep a j.toNat).length ≤ _
          have : (strRep a j.toNat).length = j.toNat * a.length := by
            show (strRep a j.toNat).cps.size = _
            simp [strRep, Str.length]
          rw [this, Nat.mul_comm, sizeLine_eq]; omega
  · rename_i n j
    obtain ⟨xs, e1, h⟩ := h.out
    obtain ⟨⟨h1, h2, hz⟩, h⟩ := h.out
    rw [rpInt q2] at ry
    obtain ⟨hn, vs, hv, rv⟩ := lsR_ok R e1
    cases q1
    exact op_rep pins s σ H _ _ v u Q I rx ry ⟨w.μ n, _, vs, rfl, rfl, hv, h1, h2, by rw [← rv.length]; exact hz, fun p hp => k.newL R (RpDs.rep rv j.toNat) h hp⟩
  · exact h.elim
theorem oDiv : OpR X (binaryOp .FloorDiv) (r2 B F0 pDiv) := intOp op_fdivN fun x y S K h => by
  unfold pDiv at h; split at h
  · obtain ⟨hc, h⟩ := h.out; exact ⟨_, _, rfl, rfl, hc, h⟩
  · exact h.elim
theorem oMod : OpR X (binaryOp .Mod) (r2 B F0 pMod) := intOp op_modN fun x y S K h => by
  unfold pMod at h; split at h
  · obtain ⟨hc, h⟩ := h.out; exact ⟨_, _, rfl, rfl, hc, h⟩
  · exact h.elim
theorem oPow : OpR X (binaryOp .Pow) (r2 B F0 pPow) := intOp op_pow fun x y S K h => by
  unfold pPow at h; split at h
  · obtain ⟨hc, h⟩ := h.out; exact ⟨_, _, rfl, rfl, hc, h⟩
  · exact h.elim
end
end PL

set_option Elab.async false
set_option linter.all false
set_option maxRecDepth 100000
namespace PL
open PySem L2

abbrev B2 := D → D → Sto → (Bool → Prop) → Prop
def cB (p : B2) : P2 := fun x y S K => p x y S fun b => K (.z (.bool b)) S
structure bEqG (x y : D) (S : Sto) (k : Bool → Prop) : Prop where
  out : ∃ d e, Vw S x d ∧ Vw S y e ∧ SeqAt.shaped d = true ∧ SeqAt.shaped e = true ∧ k (PyData.eqv d e)
def bEq : B2 := fun x y S k => match x, y with
  | .z (.int i), .z (.int j) => k (decide (i = j))
  | .z (.str i), .z (.str j) => k (decide (i = j))
  | .z (.bool i), .z (.bool j) => k (decide (i = j))
  | x, y => bEqG x y S k
def bNe : B2 := fun x y S k => bEq x y S fun b => k (!b)
def bI (g : Int → Int → Bool) : B2 := fun x y _ k => match x, y with
  | .z (.int i), .z (.int j) => k (g i j)
  | _, _ => False
abbrev bLe : B2 := bI fun i j => decide (i ≤ j)
abbrev bGt : B2 := bI fun i j => decide (j < i)
abbrev bGe : B2 := bI fun i j => decide (j ≤ i)
def isN : D → Bool
  | .z .none => true
  | .b .none => true
  | _ => false
def bIs : B2 := fun x y _ k => match x, y with
  | x, .z .none => k (isN x)
  | .z (.bool a), .z (.bool b) => k (decide (a = b))
  | _, _ => False
def keyD : D → Option Key
  | .z (.int i) => some (.inl i)
  | .z (.str s) => some (.inr s)
  | _ => none
def hasD (kvs : List (Key × D)) (k : Key) : Bool := kvs.any fun p => decide (p.1 = k)
structure bInG (x y : D) (S : Sto) (k : Bool → Prop) : Prop where
  out : (∃ d ds, Vw S x d ∧ Vw S y (.list ds) ∧ SeqAt.shaped d = true ∧ SeqAt.shaped (.list ds) = true ∧ k (ds.any fun z => PyData.eqv z d)) ∨
  (∃ (s : Str) (ss : List Str), x = .z (.str s) ∧ Vw S y (.tuple (ss.map .str)) ∧ k (decide (s ∈ ss)))
def bIn : B2 := fun x y S k => match y with
  | .z (.str s) => match x with
    | .z (.str ⟨⟨[c]⟩⟩) => k (decide (c ∈ s.cps.toList))
    | x => bInG x (.z (.str s)) S k
  | .r n => pGet S[n]? fun o => match o with
    | .dic kvs => pGet (keyD x) fun κ => k (hasD kvs κ)
    | .lst _ => bInG x (.r n) S k
    | .kd _ _ => False
    | .ins _ _ => False
  | y => bInG x y S k
def bNotIn : B2 := fun x y S k => bIn x y S fun b => k (!b)

section
variable {X : Cx} {B F0 : Hp}
theorem cmpR {f : Value → Value → Sem Value} {p : B2}
    (hf : ∀ {pins : List (Addr × Obj)} {s : Shared} {σ : St} {H : Hp} {x y : V} {v u : Value} {w : Wd} {dx dy : D} {k : Bool → Prop} {Q : VK}, Inv X pins σ H s → RelV x v → RelV y u → RlW B F0 w H → RpW B w dx x → RpW B w dy y → p dx dy w.S k → (∀ b, k b → Q (.bl b) H) →
      wpAny (model X.prog X.w) X.A (f v u) (EP X pins σ Q) X.xe s) : OpR X f (r2 B F0 (cB p)) := by
  intro pins s σ H x y v u Q I rx ry h
  obtain ⟨w, dx, dy, K, R, q1, q2, h, k⟩ := h
  exact hf I rx ry R q1 q2 h fun b hb => k.bl R hb
theorem eq_int_dec (i j : Int) : decide (V.int i = V.int j) = decide (i = j) := by rw [dec_int]; exact Bool.beq_eq_decide_eq i j
theorem eq_str_dec (i j : Str) : decide (V.str i = V.str j) = decide (i = j) := by rw [dec_str]; by_cases h : i = j <;> simp [h]
theorem eq_bl_dec (i j : Bool) : decide (V.bl i = V.bl j) = decide (i = j) := by rw [dec_bl]; by_cases h : i = j <;> simp [h]
theorem oEq (hu : X.A.units + 100 < cLine) : OpR X (compareOp .Eq) (r2 B F0 (cB bEq)) := cmpR fun {pins s σ H x y v u w dx dy k Q} I rx ry R q1 q2 h kb => by
  unfold bEq at h
  split at h
  · rw [rpInt q1] at rx; rw [rpInt q2] at ry
    exact op_eq pins s σ H _ _ v u Q I rx ry ⟨rfl, by rw [eq_int_dec]; exact kb _ h⟩
  · rw [rpStr q1] at rx; rw [rpStr q2] at ry
    exact op_eq pins s σ H _ _ v u Q I rx ry ⟨rfl, by rw [eq_str_dec]; exact kb _ h⟩
  · rw [rpBl q1] at rx; rw [rpBl q2] at ry
    exact op_eq pins s σ H _ _ v u Q I rx ry ⟨rfl, by rw [eq_bl_dec]; exact kb _ h⟩
  · have h := h.out
    obtain ⟨d, e, w1, w2, s1, s2, h⟩ := h
    exact op_eqD (by omega) pins s σ H x y v u Q I rx ry ⟨d, e, RpT.dp R.fh _ _ (Vw.rp R _ _ _ w1 q1), RpT.dp R.fh _ _ (Vw.rp R _ _ _ w2 q2), s1, s2, kb _ h⟩
theorem oNe (hu : X.A.units + 100 < cLine) : OpR X (compareOp .NotEq) (r2 B F0 (cB bNe)) := cmpR fun {pins s σ H x y v u w dx dy k Q} I rx ry R q1 q2 h kb => by
  unfold bNe bEq at h
  split at h
  · rw [rpInt q1] at rx; rw [rpInt q2] at ry
    exact op_ne pins s σ H _ _ v u Q I rx ry ⟨rfl, by rw [eq_int_dec]; exact kb _ h⟩
  · rw [rpStr q1] at rx; rw [rpStr q2] at ry
    exact op_ne pins s σ H _ _ v u Q I rx ry ⟨rfl, by rw [eq_str_dec]; exact kb _ h⟩
  · rw [rpBl q1] at rx; rw [rpBl q2] at ry
    exact op_ne pins s σ H _ _ v u Q I rx ry ⟨rfl, by rw [eq_bl_dec]; exact kb _ h⟩
  · have h := h.out
    obtain ⟨d, e, w1, w2, s1, s2, h⟩ := h
    exact op_neD (by omega) pins s σ H x y v u Q I rx ry ⟨d, e, RpT.dp R.fh _ _ (Vw.rp R _ _ _ w1 q1), RpT.dp R.fh _ _ (Vw.rp R _ _ _ w2 q2), s1, s2, kb _ h⟩
theorem cmpI {op : CmpOp} {g : Int → Int → Bool} (ho : OpR X (compareOp op) (rI0 fun i j => .bl (g i j))) : OpR X (compareOp op) (r2 B F0 (cB (bI g))) := cmpR fun {pins s σ H x y v u w dx dy k Q} I rx ry R q1 q2 h kb => by
  unfold bI at h
  split at h
  · rw [rpInt q1] at rx; rw [rpInt q2] at ry
    exact ho pins s σ H _ _ v u Q I rx ry ⟨_, _, rfl, rfl, kb _ h⟩
  · exact h.elim
theorem oLe : OpR X (compareOp .LtE) (r2 B F0 (cB bLe)) := cmpI op_le
theorem oGt : OpR X (compareOp .Gt) (r2 B F0 (cB bGt)) := cmpI op_gt
theorem oGe : OpR X (compareOp .GtE) (r2 B F0 (cB bGe)) := cmpI op_ge
theorem isN_ok {w : Wd} {d : D} {v : V} (r : RpW B w d v) : decide (v = .non) = isN d := by
  cases d with
  | z d => cases r with | z q => cases q <;> rfl
  | b d => cases r with | b q => cases q <;> rfl
  | r n => cases r; rfl
  | t ds => cases r; rfl
  | o a => cases r; rfl
  | y T => cases r; rfl
  | x c fs => cases r; rfl
theorem oIs : OpR X (compareOp .Is) (r2 B F0 (cB bIs)) := cmpR fun {pins s σ H x y v u w dx dy k Q} I rx ry R q1 q2 h kb => by
  unfold bIs at h
  split at h
  · have e : y = .non := by cases q2 with | z q => cases q; rfl
    exact op_isN pins s σ H x y v u Q I rx ry ⟨e, by rw [isN_ok q1]; exact kb _ h⟩
  · exact op_is_bl pins s σ H x y v u Q I rx ry ⟨_, _, rpBl q1, rpBl q2, kb _ h⟩
  · exact h.elim
theorem keyD_ok {w : Wd} {d : D} {v : V} {κ : Key} (r : RpW B w d v) (h : keyD d = some κ) : v = kV κ := by
  unfold keyD at h
  split at h
  · cases h; exact rpInt r
  · cases h; exact rpStr r
  · cases h
end

def getD' (kvs : List (Key × D)) (k : Key) : Option D := (kvs.find? fun p => decide (p.1 = k)).map (·.2)
def putD (kvs : List (Key × D)) (k : Key) (v : D) : List (Key × D) := if hasD kvs k = true then kvs.map (fun p => if p.1 = k then (p.1, v) else p) else kvs ++ [(k, v)]
def KvR (B F : Hp) (μ : Nat → Addr) (n : Nat) : List (Key × D) → List (Key × V) → Prop := Paired fun (p : Key × D) (q : Key × V) => p.1 = q.1 ∧ RpD B F μ n p.2 q.2
section
variable {B F0 H : Hp} {w : Wd}
abbrev KvW (B : Hp) (w : Wd) (kvs : List (Key × D)) (ws : List (Key × V)) : Prop := KvR B w.F w.μ w.S.length kvs ws
theorem KvR.get {kvs : List (Key × D)} {ws : List (Key × V)} (h : KvW B w kvs ws) (k : Key) : (getD' kvs k = none ∧ valV ws k = none) ∨ ∃ d v, getD' kvs k = some d ∧ valV ws k = some v ∧ RpW B w d v := by
  induction h with
  | nil => exact .inl ⟨rfl, rfl⟩
  | @cons p q ps qs r t ih =>
    by_cases e : p.1 = k
    · refine .inr ⟨p.2, q.2, ?_, ?_, r.2⟩
      · unfold getD'; rw [List.find?_cons_of_pos (by simp [e])]; rfl
      · exact valV_pos (r.1 ▸ e)
    · have e' : ¬ q.1 = k := r.1 ▸ e
      have h1 : getD' (p :: ps) k = getD' ps k := by unfold getD'; rw [List.find?_cons_of_neg (by simp [e])]
      rw [h1, valV_neg e']
      exact ih
theorem hasD_get {kvs : List (Key × D)} {k : Key} : hasD kvs k = (getD' kvs k).isSome := by
  induction kvs with
  | nil => rfl
  | cons p ps ih =>
    by_cases e : p.1 = k
    · simp [hasD, getD', List.find?_cons, e]
    · unfold hasD getD' at *
      rw [List.any_cons, List.find?_cons_of_neg (by simp [e]), ih]
      simp [e]
theorem KvR.has {kvs : List (Key × D)} {ws : List (Key × V)} (h : KvW B w kvs ws) (k : Key) : (ws.any fun kv => decide (kv.1 = k)) = hasD kvs k := by
  induction h with
  | nil => rfl
  | @cons p q ps qs r t ih => unfold hasD at *; rw [List.any_cons, List.any_cons, ih, r.1]
theorem KvR.put {kvs : List (Key × D)} {ws : List (Key × V)} {d : D} {v : V} (h : KvW B w kvs ws) (k : Key) (rd : RpW B w d v) : KvW B w (putD kvs k d) (putK ws k v) := by
  have hh := h.has k
  unfold putD putK
  by_cases c : hasD kvs k = true
  · rw [if_pos c, if_pos (by rw [hh]; exact c)]
    clear hh c
    induction h with
    | nil => exact .nil
    | @cons p q ps qs r t ih =>
      refine .cons ?_ ih
      show (if p.1 = k then (p.1, d) else p).1 = (if q.1 = k then (q.1, v) else q).1 ∧ RpD B w.F w.μ w.S.length (if p.1 = k then (p.1, d) else p).2 (if q.1 = k then (q.1, v) else q).2
      rw [← r.1]
      by_cases e : p.1 = k
      · rw [if_pos e, if_pos e]; exact ⟨rfl, rd⟩
      · rw [if_neg e, if_neg e]; exact r
  · rw [if_neg c, if_neg (by rw [hh]; exact c)]
    exact Paired.snoc h ⟨rfl, rd⟩
def dcR (S : Sto) (n : Nat) : Option (List (Key × D)) := match S[n]? with
  | some (.dic kvs) => some kvs
  | _ => none
theorem dcR_ok {n : Nat} {kvs : List (Key × D)} (R : RlW B F0 w H) (h : dcR w.S n = some kvs) : n < w.S.length ∧ ∃ ws, H (w.μ n) = some (.dK ws) ∧ KvW B w kvs ws := by
  unfold dcR at h
  split at h
  · rename_i e
    cases h
    obtain ⟨ws, hv, rv⟩ := R.ob _ _ e
    exact ⟨Rl.lt e, ws, hv, rv⟩
  · cases h
end

section
variable {X : Cx} {B F0 : Hp}
theorem inV_strs (z : Str) : ∀ zs : List Str, inV (.str z) (zs.map V.str) = decide (z ∈ zs)
  | [] => rfl
  | c :: cs => by
    have h : inV (.str z) ((c :: cs).map V.str) = (eqV (V.str c) (V.str z) || inV (.str z) (cs.map V.str)) := rfl
    have e : eqV (V.str c) (V.str z) = decide (c = z) := by
      show (c == z) = decide (c = z)
      by_cases hc : c = z <;> simp [hc]
    rw [h, e, inV_strs z cs]
    by_cases hc : c = z
    · simp [hc]
    · have hz : ¬ z = c := fun e => hc e.symm
      simp [hc, hz]
theorem inG {neg : Bool} (hu : X.A.units + 100 < cLine) {pins : List (Addr × Obj)} {s : Shared} {σ : St} {H : Hp} {x y : V} {v u : Value} {w : Wd} {dx dy : D} {k : Bool → Prop} {Q : VK} (I : Inv X pins σ H s) (rx : RelV x v) (ry : RelV y u) (R : RlW B F0 w H) (q1 : RpW B w dx x) (q2 : RpW B w dy y) (h : bInG dx dy w.S k) (kb : ∀ b, k b → Q (.bl (if neg then !b else b)) H) :
    wpAny (model X.prog X.w) X.A (compareOp (if neg then .NotIn else .In) v u) (EP X pins σ Q) X.xe s := by
  have h := h.out
  rcases h with ⟨d, ds, w1, w2, s1, s2, h⟩ | ⟨z, zs, rfl, w2, h⟩
  · have a := RpT.dp (K := X.K) R.fh _ _ (Vw.rp R _ _ _ w1 q1)
    have b := RpT.dp (K := X.K) R.fh _ _ (Vw.rp R _ _ _ w2 q2)
    cases neg with
    | true => exact op_notInD (by omega) pins s σ H x y v u Q I rx ry ⟨d, ds, a, b, s1, s2, kb _ h⟩
    | false => exact op_inD (by omega) pins s σ H x y v u Q I rx ry ⟨d, ds, a, b, s1, s2, kb _ h⟩
  · cases rpStr q1
    have a := Vw.rp R _ _ _ w2 q2
    cases a with
    | tup h1 h2 =>
      have hv : ∀ (ss : List Str) (vs : List V), RpTs (LB H w.F) (TF w.F) (ss.map .str) vs → vs = ss.map V.str := fun ss => by
        induction ss with
        | nil => intro vs q; cases q; rfl
        | cons c cs ih => intro vs q; cases q with | cons q1 q2 => cases q1; rw [ih _ q2]; rfl
      have e := hv zs _ h2
      subst e
      have hin := inV_strs z zs
      have hq : (TF w.F) _ (zs.map V.str) := h1
      have hfl : (zs.map V.str).all flatV = true := by simp [flatV]
      cases neg with
      | true => exact op_notIn_seq pins s σ H _ _ v u Q I rx ry ⟨_, _, rfl, .inr (.inl (.inl (R.fh _ _ hq))), rfl, hfl, by rw [hin]; exact kb _ h⟩
      | false => exact op_in_seq pins s σ H _ _ v u Q I rx ry ⟨_, _, rfl, .inr (.inl (.inl (R.fh _ _ hq))), rfl, hfl, by rw [hin]; exact kb _ h⟩
theorem inR {neg : Bool} (hu : X.A.units + 100 < cLine) {pins : List (Addr × Obj)} {s : Shared} {σ : St} {H : Hp} {x y : V} {v u : Value} {w : Wd} {dx dy : D} {k : Bool → Prop} {Q : VK} (I : Inv X pins σ H s) (rx : RelV x v) (ry : RelV y u) (R : RlW B F0 w H) (q1 : RpW B w dx x) (q2 : RpW B w dy y) (h : bIn dx dy w.S k) (kb : ∀ b, k b → Q (.bl (if neg then !b else b)) H) :
    wpAny (model X.prog X.w) X.A (compareOp (if neg then .NotIn else .In) v u) (EP X pins σ Q) X.xe s := by
  unfold bIn at h
  split at h
  · split at h
    · rw [rpStr q1] at rx; rw [rpStr q2] at ry
      cases neg with
      | true => exact op_notIn_sign pins s σ H _ _ v u Q I rx ry ⟨_, _, rfl, rfl, kb _ h⟩
      | false => exact op_in_sign pins s σ H _ _ v u Q I rx ry ⟨_, _, rfl, rfl, kb _ h⟩
    · exact inG hu I rx ry R q1 q2 h kb
  · rename_i n
    obtain ⟨o, e, h⟩ := h.out
    cases o with
    | kd _ _ => exact h.elim
    | ins _ _ => exact h.elim
    | dic kvs =>
      dsimp only at h
      obtain ⟨κ, hκ, h⟩ := h.out
      obtain ⟨hn, ws, hv, rv⟩ := dcR_ok (n := n) R (show dcR w.S n = some kvs by unfold dcR; rw [e])
      have ey := keyD_ok q1 hκ
      subst ey
      cases q2 with
      | r hi =>
        cases ry
        have g : DGet H (w.μ n) (kV κ) (valV ws κ) := DGet.k hv
        have eb : (valV ws κ).isSome = hasD kvs κ := by
          rw [hasD_get]
          rcases rv.get κ with ⟨a, b⟩ | ⟨d, v, a, b, _⟩ <;> rw [a, b] <;> rfl
        cases neg with
        | true => exact d_notIn (by omega) I g rx fun s3 I3 => ⟨.bl _, H, I3, rfl, by rw [eb]; exact kb _ h⟩
        | false => exact d_in (by omega) I g rx fun s3 I3 => ⟨.bl _, H, I3, rfl, by rw [eb]; exact kb _ h⟩
    | lst _ => exact inG hu I rx ry R q1 q2 h kb
  · exact inG hu I rx ry R q1 q2 h kb
theorem oNotIn (hu : X.A.units + 100 < cLine) : OpR X (compareOp .NotIn) (r2 B F0 (cB bNotIn)) := cmpR fun {_ _ _ _ _ _ _ _ _ _ _ k _} I rx ry R q1 q2 h kb => inR (neg := true) (k := fun b => k (!b)) hu I rx ry R q1 q2 h fun b hb => kb _ hb

def pIx : P2 := fun x y S K => match x, y with
  | .z (.str s), .z (.int i) => pReq (s.length ≤ sizeLine) (pGet (atD s.cps.toList i) fun c => K (.z (.str ⟨⟨[c]⟩⟩)) S)
  | .r n, y => pGet S[n]? fun o => match o with
    | .dic kvs => pGet (keyD y) fun κ => pGet (getD' kvs κ) fun d => K d S
    | .lst ds => match y with
      | .z (.int i) => pGet (atD ds i) fun d => K d S
      | _ => False
    | .kd _ _ => False
    | .ins _ _ => False
  | x, .z (.int i) => pGet (ixD S x i) fun d => K d S
  | _, _ => False
theorem ixD_r {S : Sto} {n : Nat} {ds : List D} {i : Int} {d : D} (e : S[n]? = some (.lst ds)) (h : atD ds i = some d) : ixD S (.r n) i = some d := by
  show (match S[n]? with | some (.lst ds) => atD ds i | _ => none) = some d
  rw [e]; exact h
theorem ixSeq {value slice : Expr} {pins : List (Addr × Obj)} {s : Shared} {σ : St} {H : Hp} {v u : Value} {a : Addr} {vs : List V} {i : Int} {z : V} {Q : VK} (I : Inv X pins σ H s) (rx : RelV (.ref a) v) (ry : RelV (.int i) u) (hs : SqL X.K H a vs ∨ SqT X.K H a vs) (ha : atI vs i = some z) (q : Q z H)
    (e : subscripted slice false v u = operate [v, u] (getItem v u)) : wpAny (model X.prog X.w) X.A (PyProof.Rows.subscriptTail value slice v u) (EP X pins σ Q) X.xe s := by
  rcases hs with hs | hs
  · exact ix_list value slice pins s σ H _ _ v u Q I rx ry ⟨_, _, _, _, rfl, rfl, hs, ha, q⟩ e
  · exact ix_tup value slice pins s σ H _ _ v u Q I rx ry ⟨_, _, _, _, rfl, rfl, hs, ha, q⟩ e
theorem oIx (hu : X.A.units + 100 < cLine) : IxR X (r2 B F0 pIx) := by
  intro value slice pins s σ H x y v u Q I rx ry h es
  obtain ⟨w, dx, dy, K, R, q1, q2, h, k⟩ := h
  unfold pIx at h
  split at h
  · obtain ⟨hz, h⟩ := h.out
    obtain ⟨c, hc, h⟩ := h.out
    rw [rpStr q1] at rx; rw [rpInt q2] at ry
    exact ix_str value slice pins s σ H _ _ v u Q I rx ry ⟨_, _, _, rfl, rfl, hz, atD_atI hc, k.str R h⟩ es
  · rename_i n
    obtain ⟨o, e, h⟩ := h.out
    cases o with
    | kd _ _ => exact h.elim
    | ins _ _ => exact h.elim
    | dic kvs =>
      dsimp only at h
      obtain ⟨κ, hκ, h⟩ := h.out
      obtain ⟨d, hd, h⟩ := h.out
      obtain ⟨hn, ws, hv, rv⟩ := dcR_ok (n := n) R (show dcR w.S n = some kvs by unfold dcR; rw [e])
      have ey := keyD_ok q2 hκ
      subst ey
      cases q1 with
      | r hi =>
        cases rx
        rcases rv.get κ with ⟨a, b⟩ | ⟨d', z, a, b, rd⟩
        · rw [hd] at a; cases a
        · rw [hd] at a; cases a
          have g : DGet H (w.μ n) (kV κ) (some z) := by rw [← b]; exact DGet.k hv
          unfold PyProof.Rows.subscriptTail
          have hT := dict_typeIs I g
          refine wpAny_bind ?_
          rw [getitemInPython_of_ne hT.not_modules]
          refine wpAny_bind (wpAny_specialOf hT PySem.F.slot_dict_getitem.lookup ?_)
          have fin : wpAny (model X.prog X.w) X.A (subscripted slice false (.ref (w.μ n)) u) (fun r s₃ => wpAny (model X.prog X.w) X.A (letTemporaryGo value (.ref (w.μ n)) r >>= fun _ => pure r) (EP X pins σ Q) X.xe s₃) X.xe s := by
            rw [es]
            exact wpAny_operating (d_getItem (by omega) I g ry fun w' s3 I3 rw' => wpAny_bind (wpAny_letTemporaryGo (wpAny_pure ⟨z, H, I3, rw', k d w.S z H w.μ w.F R .refl rd h⟩)))
          first
            | exact wpAny_pure (wpAny_bind fin)
            | exact wpAny_bind fin
            | exact fin
    | lst ds =>
      dsimp only at h
      split at h
      · obtain ⟨d, hd, h⟩ := h.out
        rw [rpInt q2] at ry
        obtain ⟨a, vs, z, rfl, hs, ha, rd⟩ := ixD_ok (K := X.K) R q1 (ixD_r e hd)
        exact ixSeq I rx ry hs ha (k d w.S z H w.μ w.F R .refl rd h) es
      · exact h.elim
  · obtain ⟨d, hd, h⟩ := h.out
    rw [rpInt q2] at ry
    obtain ⟨a, vs, z, rfl, hs, ha, rd⟩ := ixD_ok (K := X.K) R q1 hd
    exact ixSeq I rx ry hs ha (k d w.S z H w.μ w.F R .refl rd h) es
  · exact h.elim
end

def cutL {α : Type} (xs : List α) (lo hi : Option Int) : List α := (xs.drop (HT.sIx xs.length 0 lo)).take (HT.sIx xs.length xs.length hi - HT.sIx xs.length 0 lo)
section
variable {X : Cx} {B F0 : Hp}
end
end PL

set_option Elab.async false
set_option linter.all false
set_option maxRecDepth 100000
namespace PL
open PySem L2

def tyD (S : Sto) : D → Option Ty
  | .z .none => some .none
  | .z (.bool _) => some .bool
  | .z (.int _) => some .int
  | .z (.str _) => some .str
  | .z (.list _) => some .list
  | .z (.tuple _) => some .tuple
  | .b (.list _) => some .list
  | .b (.tuple _) => some .tuple
  | .t _ => some .tuple
  | .r n => match S[n]? with
    | some (.lst _) => some .list
    | some (.dic _) => some .dict
    | _ => none
  | _ => none
def isT : Ty → Ty → Bool
  | .int, .int => true | .bool, .bool => true | .bool, .int => true | .str, .str => true | .list, .list => true | .tuple, .tuple => true | .dict, .dict => true | _, _ => false
theorem isT_kit (a b : Ty) (hb : b ≠ .none) : kitB a.s b.s = some (isT a b) := by
  cases a <;> cases b <;> first | exact absurd rfl hb | decide +kernel
def pIsi : PL := fun xs S K => match xs with
  | [x, .y T] => match T with
    | .none => False
    | T => pGet (tyD S x) fun t => K (.z (.bool (isT t T))) S
  | _ => False
theorem tyD_ok {K : PySem.W.Frag} {B F0 H : Hp} {w : Wd} {x : D} {v : V} {t : Ty} (R : RlW B F0 w H) (r : RpW B w x v) (h : tyD w.S x = some t) : TyX K H v (.type t.s) := by
  have rd : ∀ {a : Addr} {vs : List V}, Rd H a (.lst vs) → TyX K H (.ref a) (.type "list") := fun q => q.elim (fun q => .base (.lst q)) fun ⟨_, q⟩ => .base (.frz q)
  unfold tyD at h
  split at h
  · cases h; cases r with | z q => cases q; exact .base .non
  · cases h; cases r with | z q => cases q; exact .base (.bl _)
  · cases h; cases r with | z q => cases q; exact .base (.int _)
  · cases h; cases r with | z q => cases q; exact .base (.str _)
  · cases h; cases r with | z q => cases q with | lst a b => exact .base (.lst (R.fh _ _ a))
  · cases h; cases r with | z q => cases q with | tup a b => exact .base (.tup (R.fh _ _ a))
  · cases h; cases r with | b q => cases q with | lst a b => exact rd (a.elim (fun z => R.fh.rd z) fun z => R.bh.rd z)
  · cases h; cases r with | b q => cases q with | tup a b => exact .base (.tup (R.fh _ _ a))
  · cases h; cases r with | t a b => exact .base (.tup (R.fh _ _ a))
  · cases r with
    | r hi =>
      split at h
      · rename_i e; cases h; obtain ⟨vs, hv, _⟩ := R.ob _ _ e; exact .base (.lst hv)
      · rename_i e; cases h; obtain ⟨vs, hv, _⟩ := R.ob _ _ e; exact .base (.dK hv)
      · cases h
  · cases h
section
variable {X : Cx} {B F0 : Hp}
theorem callR {f : Value} {p : PL} (hf : ∀ {pins : List (Addr × Obj)} {s : Shared} {σ : St} {H : Hp} {vs : List V} {us : List Value} {w : Wd} {ds : List D} {K : K1} {Q : VK}, Inv X pins σ H s → Vals vs us → RlW B F0 w H → RpsW B w ds vs → p ds w.S K → Fi B F0 w K Q →
    wpAny (model X.prog X.w) X.A (call f us) (EP X pins σ Q) X.xe s) : CallR X f (rL B F0 p) := by
  intro pins s σ H vs us Q I r h
  obtain ⟨w, ds, K, R, q, h, k⟩ := h
  exact hf I r R q h k
theorem methR {id : String} {p : D → PL} (hf : ∀ {pins : List (Addr × Obj)} {s : Shared} {σ : St} {H : Hp} {x : V} {v : Value} {vs : List V} {us : List Value} {w : Wd} {d : D} {ds : List D} {K : K1} {Q : VK}, Inv X pins σ H s → RelV x v → Vals vs us → RlW B F0 w H → RpW B w d x → RpsW B w ds vs → p d ds w.S K → Fi B F0 w K Q →
    wpAny (model X.prog X.w) X.A (call (.builtin id) (v :: us)) (EP X pins σ Q) X.xe s) : MtR X id (rM B F0 p) := by
  intro pins s σ H x vs v us Q I rx r h
  obtain ⟨w, d, ds, K, R, q, qs, h, k⟩ := h
  exact hf I rx r R q qs h k
theorem oIsi : CallR X (.builtin "isinstance") (rL B F0 pIsi) := callR fun {pins s σ H vs us w ds K Q} I r R q h k => by
  unfold pIsi at h
  split at h
  · rename_i x T
    cases q with
    | cons q1 q2 =>
      cases q2 with
      | cons q2 q3 =>
        cases q3
        cases q2
        have key : T ≠ .none → (pGet (tyD w.S x) fun t => K (.z (.bool (isT t T))) w.S) → wpAny (model X.prog X.w) X.A (call (.builtin "isinstance") us) (EP X pins σ Q) X.xe s := fun hT h => by
          obtain ⟨t, e, h⟩ := h.out
          exact call_isi pins s σ H _ us Q I r ⟨_, _, _, _, _, rfl, .ty _, tyD_ok (K := X.K) R q1 e, kit_ty (isT_kit t T hT), k.bl R h⟩
        cases T with
        | none => exact False.elim h
        | _ => exact key (by intro z; cases z) h
  · exact h.elim

def pLen : PL := fun xs S K => match xs with
  | [.z (.str s)] => pReq (s.length ≤ sizeLine) (K (.z (.int s.length)) S)
  | [x] => pGet (lenD S x) fun n => K (.z (.int n)) S
  | _ => False
def pList : PL := fun xs S K => match xs with
  | [x] => pGet (sqD S x) fun ds => K (.r S.length) (S ++ [.lst ds])
  | _ => False
def pTuple : PL := fun xs S K => match xs with
  | [x] => pGet (lsD S x) fun ds => K (mkT ds) S
  | _ => False
theorem RpDs.one {B : Hp} {w : Wd} {d : D} {vs : List V} (h : RpsW B w [d] vs) : ∃ v, vs = [v] ∧ RpW B w d v := by
  cases h with | cons a b => cases b; exact ⟨_, rfl, a⟩
theorem RpDs.two {B : Hp} {w : Wd} {d e : D} {vs : List V} (h : RpsW B w [d, e] vs) : ∃ v u, vs = [v, u] ∧ RpW B w d v ∧ RpW B w e u := by
  cases h with | cons a b => cases b with | cons b c => cases c; exact ⟨_, _, rfl, a, b⟩
theorem RpDs.ints {B : Hp} {w : Wd} : ∀ {bs : List Int} {vs : List V}, RpsW B w (bs.map fun b => .z (.int b)) vs → vs = bs.map V.int
  | [], _, h => by cases h; rfl
  | b :: bs, _, h => by cases h with | cons a t => rw [rpInt a, RpDs.ints t]; rfl
theorem RpDs.strs {B : Hp} {w : Wd} : ∀ {bs : List Str} {vs : List V}, RpsW B w (bs.map fun b => .z (.str b)) vs → vs = bs.map V.str
  | [], _, h => by cases h; rfl
  | b :: bs, _, h => by cases h with | cons a t => rw [rpStr a, RpDs.strs t]; rfl
theorem lenD_ok {K : PySem.W.Frag} {H : Hp} {w : Wd} {x : D} {v : V} {n : Nat} (R : RlW B F0 w H) (r : RpW B w x v) (h : lenD w.S x = some n) : (∃ a vs, v = .ref a ∧ vs.length = n ∧ (SqL K H a vs ∨ SqT K H a vs)) ∨ ∃ a kvs, v = .ref a ∧ H a = some (.dK kvs) ∧ kvs.length = n := by
  unfold lenD at h
  split at h
  · cases h; cases r with | z q => cases q with | lst a b => exact .inl ⟨_, _, rfl, b.length.symm, .inl (.inl (.inl (R.fh _ _ a)))⟩
  · cases h; cases r with | b q => cases q with | lst a b => exact .inl ⟨_, _, rfl, b.length.symm, .inl (.inl (a.elim (fun z => R.fh.rd z) fun z => R.bh.rd z))⟩
  · cases h; cases r with | z q => cases q with | tup a b => exact .inl ⟨_, _, rfl, b.length.symm, .inr (.inl (.inl (R.fh _ _ a)))⟩
  · cases h; cases r with | b q => cases q with | tup a b => exact .inl ⟨_, _, rfl, b.length.symm, .inr (.inl (.inl (R.fh _ _ a)))⟩
  · cases h; cases r with | t a b => exact .inl ⟨_, _, rfl, b.length.symm, .inr (.inl (.inl (R.fh _ _ a)))⟩
  · cases r with
    | r hi =>
      split at h
      · rename_i e; cases h; obtain ⟨vs, hv, rv⟩ := R.ob _ _ e; exact .inl ⟨_, _, rfl, rv.length.symm, .inl (.inl (.inl hv))⟩
      · rename_i e; cases h; obtain ⟨vs, hv, rv⟩ := R.ob _ _ e; exact .inr ⟨_, _, rfl, hv, (Paired.length rv).symm⟩
      · cases h
  · cases h
theorem oLen : CallR X (.builtin "len") (rL B F0 pLen) := callR fun {pins s σ H vs us w ds K Q} I r R q h k => by
  unfold pLen at h
  split at h
  · obtain ⟨hz, h⟩ := h.out
    obtain ⟨v, rfl, q9⟩ := q.one
    rw [rpStr q9] at r
    exact call_len_str pins s σ H _ us Q I r ⟨_, rfl, hz, k.int R h⟩
  · obtain ⟨n, e, h⟩ := h.out
    obtain ⟨v, rfl, q9⟩ := q.one
    rcases lenD_ok (K := X.K) R q9 e with ⟨a, vs, rfl, rfl, hs⟩ | ⟨a, kvs, rfl, hd, rfl⟩
    · exact call_len_seq pins s σ H _ us Q I r ⟨a, vs, rfl, hs, k.int R h⟩
    · exact call_lenD pins s σ H _ us Q I r ⟨a, kvs, rfl, hd, k.int R h⟩
  · exact h.elim
theorem oList : CallR X (.type "list") (rL B F0 pList) := callR fun {pins s σ H vs us w ds K Q} I r R q h k => by
  unfold pList at h
  split at h
  · obtain ⟨ds, e, h⟩ := h.out
    obtain ⟨v, rfl, q9⟩ := q.one
    obtain ⟨a, vs, rfl, hs, rv⟩ := sqD_ok (K := X.K) R q9 e
    exact call_list_of pins s σ H _ us Q I r ⟨a, vs, rfl, hs, fun p hp => k.newL R rv h hp⟩
  · exact h.elim
theorem oTuple : CallR X (.type "tuple") (rL B F0 pTuple) := callR fun {pins s σ H vs us w ds K Q} I r R q h k => by
  unfold pTuple at h
  split at h
  · obtain ⟨ds, e, h⟩ := h.out
    obtain ⟨v, rfl, q9⟩ := q.one
    obtain ⟨a, vs, rfl, hs, rv⟩ := lsD_ok R q9 e
    exact call_tuple_of pins s σ H _ us Q I r ⟨a, vs, rfl, .inl ⟨.inl hs, fun p hp => k.newT R rv h hp⟩⟩
  · exact h.elim
def pApp : D → PL := fun x xs S K => match x, xs with
  | .r n, [y] => pGet (lsR S n) fun ds => pReq (ds.length < sizeLine) (K (.z .none) (S.set n (.lst (ds ++ [y]))))
  | _, _ => False
def pClear : D → PL := fun x xs S K => match x, xs with
  | .r n, [] => pGet (lsR S n) fun _ => K (.z .none) (S.set n (.lst []))
  | _, _ => False
theorem oApp : MtR X "list.append" (rM B F0 pApp) := methR fun {pins s σ H x v vs us w d ds K Q} I rx r R q qs h k => by
  unfold pApp at h
  split at h
  · rename_i n y
    obtain ⟨ds, e, h⟩ := h.out
    obtain ⟨hz, h⟩ := h.out
    obtain ⟨hn, ws, hv, rv⟩ := lsR_ok R e
    obtain ⟨u, rfl, q1⟩ := qs.one
    cases q
    exact mt_append pins s σ H _ _ v us Q I rx r ⟨w.μ n, ws, u, rfl, rfl, hv, by rw [← rv.length]; exact hz, k.setL R hn (rv.append (.cons q1 .nil)) (.z .non) h⟩
  · exact h.elim
theorem oClear : MtR X "list.clear" (rM B F0 pClear) := methR fun {pins s σ H x v vs us w d ds K Q} I rx r R q qs h k => by
  unfold pClear at h
  split at h
  · rename_i n
    obtain ⟨ds, e, h⟩ := h.out
    obtain ⟨hn, ws, hv, rv⟩ := lsR_ok R e
    cases qs
    cases q
    exact mt_clear pins s σ H _ _ v us Q I rx r ⟨w.μ n, ws, rfl, rfl, hv, k.setL R hn .nil (.z .non) h⟩
  · exact h.elim
end
end PL

set_option Elab.async false
set_option linter.all false
set_option maxRecDepth 100000
namespace PL
open PySem L2

abbrev WG := D → Env → Sto → (Env → Sto → Prop) → Prop
abbrev WGs := List D → Env → Sto → (Env → Sto → Prop) → Prop
def FiG (B F0 : Hp) (w : Wd) (K : Env → Sto → Prop) (Q : St → Hp → Prop) : Prop := ∀ env S σ H μ F, Rl B F0 μ S F H → Xt w.μ w.S w.F μ S F → EnvR B F μ S.length env σ → K env S → Q σ H
theorem FiG.xt {B F0 : Hp} {w w' : Wd} {K : Env → Sto → Prop} {Q : St → Hp → Prop} (h : FiG B F0 w K Q) (x : Xt w.μ w.S w.F w'.μ w'.S w'.F) : FiG B F0 w' K Q := fun e S s H μ F R X r q => h e S s H μ F R (x.trans X) r q
def tG (B F0 : Hp) (g : WG) : TG := fun v σ H Q => ∃ (w : Wd) (env : Env) (d : D) (K : Env → Sto → Prop), RlW B F0 w H ∧ EnvR B w.F w.μ w.S.length env σ ∧ RpW B w d v ∧ g d env w.S K ∧ FiG B F0 w K Q
def tGs (B F0 : Hp) (g : WGs) : TGs := fun vs σ H Q => ∃ (w : Wd) (env : Env) (ds : List D) (K : Env → Sto → Prop), RlW B F0 w H ∧ EnvR B w.F w.μ w.S.length env σ ∧ RpsW B w ds vs ∧ g ds env w.S K ∧ FiG B F0 w K Q
def PXG (X : Cx) (B F0 : Hp) (e : Expr) (g : WG) : Prop := PG X e (tG B F0 g)
def PXGs (X : Cx) (B F0 : Hp) (es : List Expr) (g : WGs) : Prop := PGs X es (tGs B F0 g)
def gN (i : Nat) : WG := fun d env S K => K (env.set i (some d)) S
def gE : WGs := fun ds env S K => match ds with
  | [] => K env S
  | _ => False
def gC (g : WG) (gs : WGs) : WGs := fun ds env S K => match ds with
  | d :: r => g d env S fun env1 S1 => gs r env1 S1 K
  | [] => False
def tpN (n : Nat) (d : D) : Option (List D) := match tpD d with
  | some ds => if ds.length = n then some ds else none
  | none => none
def gT (n : Nat) (gs : WGs) : WG := fun d env S K => pGet (tpN n d) fun ds => gs ds env S K
section
variable {X : Cx} {B F0 : Hp} {W : WX} {pos : Pos}
theorem wkG {e : Expr} {t t' : TG} (h : PG X e t) (k : ∀ v σ H Q, t' v σ H Q → t v σ H Q) : PG X e t' := ⟨fun p s σ H v u Q I r q => h.run p s σ H v u Q I r (k v σ H Q q)⟩
theorem wkGs {e : List Expr} {t t' : TGs} (h : PGs X e t) (k : ∀ v σ H Q, t' v σ H Q → t v σ H Q) : PGs X e t' := ⟨fun p s σ H v u Q I r q => h.run p s σ H v u Q I r (k v σ H Q q)⟩
theorem xgn (i : Nat) {x : Str} (hN : X.N.Nodup) (hi : X.N[i]? = some x := by rfl) (hx : Loc X.env.scope x := by first | exact Or.inl rfl | exact Or.inr rfl) (hf : X.fn x = true ∨ X.env.scope.names.lookup x = some .local := by first | exact .inl rfl | exact .inr rfl | assumption) : PXG X B F0 (.Name x pos) (gN i) :=
  wkG (pg_name hN hi hx hf) fun v σ H Q h => by
    obtain ⟨w, env, d, K, R, E, r, h, k⟩ := h
    exact k _ _ _ _ _ _ R .refl (EnvR.set r i E) h
theorem xge : PXGs X B F0 [] gE := wkGs pgs_nil fun vs σ H Q h => by
  obtain ⟨w, env, ds, K, R, E, r, h, k⟩ := h
  unfold gE at h
  split at h
  · cases r; exact ⟨rfl, k _ _ _ _ _ _ R .refl E h⟩
  · exact h.elim
theorem xgc {e : Expr} {es : List Expr} {g : WG} {gs : WGs} (h1 : PXG X B F0 e g) (h2 : PXGs X B F0 es gs) (hs : (assignEach (e :: es) X.env).map (·.2) = assign e X.env :: (assignEach es X.env).map (·.2) := by rfl) : PXGs X B F0 (e :: es) (gC g gs) :=
  wkGs (pgs_cons h1 h2 hs) fun vs σ H Q h => by
    obtain ⟨w, env, ds, K, R, E, r, h, k⟩ := h
    unfold gC at h
    split at h
    · cases r with
      | cons r1 r2 =>
        refine ⟨_, _, rfl, w, env, _, _, R, E, r1, h, fun env1 S1 σ1 H1 μ1 F1 R1 X1 E1 h1 => ?_⟩
        exact ⟨⟨μ1, S1, F1⟩, env1, _, K, R1, E1, r2.xt X1, h1, k.xt X1⟩
    · exact h.elim
theorem xgt {es : List Expr} {j n : Nat} {gs : WGs} (hc : X.calm = true) (h : PXGs X B F0 es gs) (hn : (assignEach es X.env).length = n := by rfl) (hst : (assignEach es X.env).findIdx? (·.1) = none := by rfl) : PXG X B F0 (.Tuple es j pos) (gT n gs) :=
  wkG (pg_tup hc h hn hst) fun v σ H Q h => by
    obtain ⟨w, env, d, K, R, E, r, h, k⟩ := h
    obtain ⟨ds, e, h⟩ := h.out
    unfold tpN at e
    split at e
    · rename_i ds' e1
      split at e
      · rename_i hl
        cases e
        obtain ⟨a, vs, rfl, ha, rv⟩ := tpD_ok R r e1
        exact ⟨a, vs, rfl, .inl (.inl ha), by rw [← rv.length]; exact hl, w, env, _, K, R, E, rv, h, k⟩
      · cases e
    · cases e
end

def wNext : WS := fun k env S => k.nx env S
def wSeq (a b : WS) : WS := fun k env S => a { k with nx := fun env1 S1 => b k env1 S1 } env S
def wDrop (we : WE) : WS := fun k env S => we env S (fun _ S1 => k.nx env S1) k.ex
def wRet (we : WE) : WS := fun k env S => we env S k.rt k.ex
def wAsg (we : WE) (g : WG) : WS := fun k env S => we env S (fun d S1 => g d env S1 k.nx) k.ex
def wIf (t : WT) (a b : WS) : WS := fun k env S => t env S (fun c S1 => pIf c (a k env S1) (b k env S1)) k.ex
section
variable {X : Cx} {B F0 : Hp} {W : WX} {e c : Expr} {we : WE} {st : Stmt} {rest body orelse : List Stmt} {a b : WS} {t : WT} {pos : Pos}
theorem bnil : PXB X B F0 W [] wNext := wkB pss_nil fun D σ H h => by
  obtain ⟨w, env, k, R, E, h, f⟩ := h
  exact f.nx _ _ _ _ _ _ R .refl E h
theorem bone (h : PXS X B F0 W st a) : PXB X B F0 W [st] a := pss_one h
theorem bcons (h1 : PXS X B F0 W st a) (h2 : PXB X B F0 W rest b) : PXB X B F0 W (st :: rest) (wSeq a b) := wkB (pss_cons h1 h2) fun D σ H h => by
  obtain ⟨w, env, k, R, E, h, f⟩ := h
  refine ⟨w, env, _, R, E, h, ⟨fun env1 S1 σ1 H1 μ1 F1 R1 X1 E1 h1 => ?_, f.rt, f.bk, f.ct, f.ex⟩⟩
  exact ⟨⟨μ1, S1, F1⟩, env1, k, R1, E1, h1, f.xt X1⟩
theorem xexpr (he : PX X B F0 W e we) (hs : swapsWith e none pos.line X.env = pure false := by rfl) : PXS X B F0 W (.Expr e pos) (wDrop we) := wkS (ps_expr he hs) fun D σ H h => by
  obtain ⟨w, env, k, R, E, h, f⟩ := h
  exact ⟨w, env, _, _, R, E, h, fun d S1 v H1 μ1 F1 R1 X1 r1 h1 => f.nx _ _ _ _ _ _ R1 X1 (E.xt X1) h1, f.toX E⟩
theorem xret (he : PX X B F0 W e we) : PXS X B F0 W (.Return (some e) pos) (wRet we) := wkS (ps_ret he) fun D σ H h => by
  obtain ⟨w, env, k, R, E, h, f⟩ := h
  exact ⟨w, env, _, _, R, E, h, f.rt, f.toX E⟩
theorem xif (hc : PXT X B F0 W c t) (h1 : PXB X B F0 W body a) (h2 : PXB X B F0 W orelse b) : PXS X B F0 W (.If c body orelse pos) (wIf t a b) := wkS (ps_if hc h1 h2) fun D σ H h => by
  obtain ⟨w, env, k, R, E, h, f⟩ := h
  refine ⟨w, env, _, _, R, E, h, fun x S1 H1 μ1 F1 R1 X1 h1 => ?_, f.toX E⟩
  have h1 := h1.out
  dsimp only
  cases x with
  | true => rw [if_pos rfl] at h1 ⊢; exact ⟨⟨μ1, S1, F1⟩, env, k, R1, E.xt X1, h1, f.xt X1⟩
  | false => rw [if_neg Bool.false_ne_true] at h1 ⊢; exact ⟨⟨μ1, S1, F1⟩, env, k, R1, E.xt X1, h1, f.xt X1⟩
theorem xasg {tg : Expr} {g : WG} (he : PX X B F0 W e we) (hg : PXG X B F0 tg g) (hs : swapsWithSole [tg] e pos.line X.env = pure false := by rfl) (hw : swappedStores [tg] e X.env = pure none := by rfl)
    (h1 : (assignEach [tg] X.env).map (·.2) = [assign tg X.env] := by rfl) : PXS X B F0 W (.Assign [tg] e pos) (wAsg we g) := wkS (ps_asg he hg hs hw h1) fun D σ H h => by
  obtain ⟨w, env, k, R, E, h, f⟩ := h
  refine ⟨w, env, _, _, R, E, h, fun d S1 v H1 μ1 F1 R1 X1 r1 h1 => ?_, f.toX E⟩
  exact ⟨⟨μ1, S1, F1⟩, env, d, k.nx, R1, E.xt X1, r1, h1, fun env2 S2 σ2 H2 μ2 F2 R2 X2 E2 h2 => f.nx _ _ _ _ _ _ R2 (X1.trans X2) E2 h2⟩
end
section
variable {X : Cx} {B F0 : Hp}
end
end PL

set_option Elab.async false
set_option linter.all false
set_option maxRecDepth 100000
namespace PL
open PySem L2

structure Src where
  items : List D
  ok : Sto → Prop
abbrev WI := Env → Sto → (Src → Sto → Prop) → KX → Prop
structure SrcOk (B F0 : Hp) (w0 : Wd) (src : Src) (J : It) (G : Hp → Prop) (Y : Nat → Hp → V → Hp → Prop) : Prop where
  walk : Walk J src.items.length G Y
  good : ∀ (w : Wd) H, RlW B F0 w H → Xt w0.μ w0.S w0.F w.μ w.S w.F → src.ok w.S → G H
  item : ∀ (w : Wd) H i x H', i < src.items.length → RlW B F0 w H → Xt w0.μ w0.S w0.F w.μ w.S w.F → src.ok w.S → Y i H x H' → ∃ (w' : Wd) (d : D), src.items[i]? = some d ∧ w'.S = w.S ∧ RlW B F0 w' H' ∧ Xt w.μ w.S w.F w'.μ w'.S w'.F ∧ RpW B w' d x
def tI (B F0 : Hp) (W : WX) (wi : WI) : TI := fun σ H R => ∃ (w : Wd) (env : Env) (K : Src → Sto → Prop) (KX : KX), RlW B F0 w H ∧ EnvR B w.F w.μ w.S.length env σ ∧ wi env w.S K KX ∧ FiX B F0 W w env σ KX ∧
  ∀ src S' H' μ' F' J G Y, Rl B F0 μ' S' F' H' → Xt w.μ w.S w.F μ' S' F' → K src S' → SrcOk B F0 ⟨μ', S', F'⟩ src J G Y → R J H'
def PXI (X : Cx) (B F0 : Hp) (W : WX) (tg iter : Expr) (wi : WI) : Prop := PI X tg iter (tI B F0 W wi)
section
variable {X : Cx} {B F0 : Hp} {W : WX} {tg e : Expr} {we : WE} {wa : WA} {pos p : Pos}
theorem wkI {iter : Expr} {t t' : TI} (h : PI X tg iter t) (k : ∀ σ H Q, t' σ H Q → t σ H Q) : PI X tg iter t' := ⟨fun p s σ H R I q => h.run p s σ H R I (k σ H R q)⟩
theorem SrcOk.at {w0 : Wd} {src : Src} {J : It} {G : Hp → Prop} {vs : List V} (hw : Walk J vs.length G (YAt vs)) (hl : src.items.length = vs.length) (hg : ∀ (w : Wd) H, RlW B F0 w H → Xt w0.μ w0.S w0.F w.μ w.S w.F → src.ok w.S → G H)
    (hr : RpsW B w0 src.items vs) : SrcOk B F0 w0 src J G (YAt vs) := ⟨by rw [hl]; exact hw, hg, fun w H i x H' _ R X1 ho y => by
  obtain ⟨rfl, hx⟩ := y
  obtain ⟨d, hd, rd⟩ := RpDs.getV hr hx
  exact ⟨w, d, hd, rfl, R, .refl, rd.xt X1⟩⟩
def srcD (S : Sto) : D → Option Src
  | .z (.list ds) => some ⟨ds.map .z, fun _ => True⟩
  | .b (.list ds) => some ⟨ds.map bz, fun _ => True⟩
  | .r n => match S[n]? with
    | some (.lst ds) => some ⟨ds, fun S => S[n]? = some (.lst ds)⟩
    | _ => none
  | .z (.tuple ds) => some ⟨ds.map .z, fun _ => True⟩
  | .b (.tuple ds) => some ⟨ds.map bz, fun _ => True⟩
  | .t ds => some ⟨ds, fun _ => True⟩
  | .z (.str s) => some ⟨s.cps.toList.map fun c => .z (.str ⟨⟨[c]⟩⟩), fun _ => True⟩
  | _ => none
def wIt (we : WE) : WI := fun env S K KX => we env S (fun x S1 => pGet (srcD S1 x) fun src => K src S1) KX
def iAny (K : PySem.W.Frag) (tl : TE) : TI := fun σ H R => tl σ H fun x H1 => (∃ a vs, x = .ref a ∧ SqL K H1 a vs ∧ R (Itl K a) H1) ∨ (∃ a vs, x = .ref a ∧ SqT K H1 a vs ∧ R (Itt K a) H1) ∨ ∃ z, x = .str z ∧ R (Its z) H1
theorem pi_any {tl : TE} (he : PE X e tl) : PI X tg e (iAny X.K tl) := by
  refine ⟨fun pins s σ H R I hw => thn (he.run pins s σ H _ I hw) fun v s1 ⟨x, H1, J, rx, qx⟩ => ?_⟩
  have one : ∀ {o : Obj} {tn : Nat → Heap → Prop} {Jt : It}, Turn X.prog X.w X.K tg Jt [s1.heap.objs.size] s1.heap.objs.size tn → tn 0 (s1.heap.push o) → R Jt H1 → PIE X pins σ tg R (.ref s1.heap.objs.size) { s1 with heap := s1.heap.push o } := fun {o tn Jt} T t0 q =>
    ⟨s1.heap.objs.size, [s1.heap.objs.size], tn, Jt, H1, rfl, J.kept (t' := s1.toks) fun b o e => Heap.get?_push_of_some _ e, T, t0, fun b hb => by
      have e : b = s1.heap.objs.size := by simpa using hb
      rw [e]
      exact J.fpOk (Nat.le_refl _) (J.hok.fresh (Nat.le_refl _)), q⟩
  rcases qx with ⟨a, vs, rfl, hq, q⟩ | ⟨a, vs, rfl, hq, q⟩ | ⟨z, rfl, q⟩
  · cases rx
    obtain ⟨its, rv, pl, _⟩ := J.list hq
    exact wpAny_pyIter_list pl.isList (one (turn_list a _) ⟨_, Heap.get?_push_size _ rfl, rfl, rfl⟩ q)
  · cases rx
    obtain ⟨its, rv, pl, _⟩ := J.tuple hq
    exact wpAny_pyIter_tuple (show s1.heap.IsTuple a its.toArray from pl) (one (turn_tuple a _) ⟨_, Heap.get?_push_size _ rfl, rfl, rfl⟩ q)
  · obtain ⟨t, rfl⟩ := rx
    cases hc : z.cps.all (· < 128)
    · exact wpAny_pyIter_wide hc (one (turn_str _ z t "str_iterator" (.inr rfl)) ⟨_, Heap.get?_push_size _ rfl, rfl, rfl⟩ q)
    · exact wpAny_pyIter_ascii hc (one (turn_str _ z t "str_ascii_iterator" (.inl rfl)) ⟨_, Heap.get?_push_size _ rfl, rfl, rfl⟩ q)
theorem rd_sq {K : PySem.W.Frag} {H : Hp} {a : Addr} {vs : List V} (h : Rd H a (.lst vs)) : SqL K H a vs := .inl h
theorem srcD_ok {K : PySem.W.Frag} {w : Wd} {H : Hp} {x : D} {v : V} {src : Src} {R : It → Hp → Prop} (r : RpW B w x v) (R1 : RlW B F0 w H) (e : srcD w.S x = some src) (k : ∀ J G Y, SrcOk B F0 w src J G Y → R J H) :
    (∃ a vs, v = .ref a ∧ SqL K H a vs ∧ R (Itl K a) H) ∨ (∃ a vs, v = .ref a ∧ SqT K H a vs ∧ R (Itt K a) H) ∨ ∃ z, v = .str z ∧ R (Its z) H := by
  unfold srcD at e
  split at e
  · cases e
    cases r with
    | z q => cases q with | lst a b => exact .inl ⟨_, _, rfl, rd_sq (.inl (R1.fh _ _ a)), k _ _ _ (.at walk_list (by simp [b.length]) (fun w' H' R' X' _ => rd_sq (.inl (R'.fh _ _ (X'.f _ _ a)))) (RpDs.zs b))⟩
  · cases e
    cases r with
    | b q =>
      cases q with
      | lst a b =>
        have all : ∀ (w' : Wd) (H' : Hp), RlW B F0 w' H' → Xt w.μ w.S w.F w'.μ w'.S w'.F → Rd H' _ (.lst _) := fun w' H' R' X' => a.elim (fun z => R'.fh.rd (X'.f.rd z)) fun z => R'.bh.rd z
        exact .inl ⟨_, _, rfl, rd_sq (all w H R1 .refl), k _ _ _ (.at walk_list (by simp [b.length]) (fun w' H' R' X' _ => rd_sq (all w' H' R' X')) (RpDs.bzs b))⟩
  · rename_i n
    split at e
    · rename_i ds e1
      cases e
      cases r with
      | r hi =>
        obtain ⟨vs, hv, rv⟩ := R1.ob _ _ e1
        have em : ∀ (w' : Wd), Xt w.μ w.S w.F w'.μ w'.S w'.F → w'.μ n = w.μ n := fun w' X' => X'.m n (Rl.lt e1)
        have there : ∀ (w' : Wd) (H' : Hp), RlW B F0 w' H' → Xt w.μ w.S w.F w'.μ w'.S w'.F → w'.S[n]? = some (.lst ds) → ∃ us, SqL K H' (w.μ n) us ∧ RpsW B w' ds us := fun w' H' R' X' ho => by
          obtain ⟨us, hu, ru⟩ := R'.ob _ _ ho
          rw [em w' X'] at hu
          exact ⟨us, rd_sq (.inl hu), ru⟩
        refine .inl ⟨_, _, rfl, rd_sq (.inl hv), k _ (fun H => ∃ us, SqL K H (w.μ n) us ∧ us.length = ds.length) (fun i H x H' => H' = H ∧ ∀ us, SqL K H (w.μ n) us → us[i]? = some x) ⟨⟨?_, ?_, ?_⟩, ?_, ?_⟩⟩
        · rintro i H2 hi2 ⟨us, hu, hl⟩
          have hi3 : i < us.length := by rw [hl]; exact hi2
          exact ⟨us, us[i], hu, List.getElem?_eq_getElem hi3⟩
        · rintro H2 ⟨us, hu, hl⟩
          exact ⟨us, hu, by rw [hl]; exact Nat.le_refl _⟩
        · exact fun i H x H' _ _ y => y
        · intro w' H' R' X' ho
          obtain ⟨us, h1, h2⟩ := there w' H' R' X' ho
          exact ⟨us, h1, h2.length.symm⟩
        · intro w' H' i x H2 _ R' X' ho y
          obtain ⟨rfl, y⟩ := y
          obtain ⟨us, h1, h2⟩ := there w' _ R' X' ho
          obtain ⟨d, hd, rd⟩ := RpDs.getV h2 (y us h1)
          exact ⟨w', d, hd, rfl, R', .refl, rd⟩
    · cases e
  · cases e
    cases r with
    | z q => cases q with | tup a b => exact .inr (.inl ⟨_, _, rfl, .inl (.inl (R1.fh _ _ a)), k _ _ _ (.at walk_tup (by simp [b.length]) (fun w' H' R' X' _ => .inl (.inl (R'.fh _ _ (X'.f _ _ a)))) (RpDs.zs b))⟩)
  · cases e
    cases r with
    | b q => cases q with | tup a b => exact .inr (.inl ⟨_, _, rfl, .inl (.inl (R1.fh _ _ a)), k _ _ _ (.at walk_tup (by simp [b.length]) (fun w' H' R' X' _ => .inl (.inl (R'.fh _ _ (X'.f _ _ a)))) (RpDs.bzs b))⟩)
  · cases e
    cases r with
    | t a b => exact .inr (.inl ⟨_, _, rfl, .inl (.inl (R1.fh _ _ a)), k _ _ _ (.at walk_tup b.length (fun w' H' R' X' _ => .inl (.inl (R'.fh _ _ (X'.f _ _ a)))) b)⟩)
  · rename_i z
    cases e
    have := rpStr r
    subst this
    refine .inr (.inr ⟨z, rfl, k (Its z) (fun _ => True) (fun i H v H' => H' = H ∧ ∃ c, z.cps[i]? = some c ∧ v = .str ⟨#[c]⟩) ⟨?_, fun _ _ _ _ _ => trivial, fun w' H' i x H2 _ R' X' _ y => ?_⟩⟩)
    · simpa using walk_str (z := z)
    · obtain ⟨rfl, c, hc, rfl⟩ := y
      refine ⟨w', .z (.str ⟨⟨[c]⟩⟩), ?_, rfl, R', .refl, .z (.str _)⟩
      have hc' : z.cps.toList[i]? = some c := by rw [Array.getElem?_toList]; exact hc
      simp [hc']
  · cases e
theorem xit (he : PX X B F0 W e we) : PXI X B F0 W tg e (wIt we) := wkI (pi_any he) fun σ H Q h => by
  obtain ⟨w, env, K, KX, R, E, h, kx, q⟩ := h
  refine ⟨w, env, _, KX, R, E, h, fun x S1 v H1 μ1 F1 R1 X1 r1 h1 => ?_, kx⟩
  obtain ⟨src, e, h1⟩ := h1.out
  exact srcD_ok (w := ⟨μ1, S1, F1⟩) (R := Q) r1 R1 e fun J G Y ok => q src S1 H1 μ1 F1 J G Y R1 X1 h1 ok
def rgD (lo : Int) (n : Nat) : Src := ⟨(List.range n).map fun (i : Nat) => .z (.int (lo + (i : Int))), fun _ => True⟩
def wRg1 (wa : WA) : WI := fun env S K KX => wa env S (fun xs S1 => match xs with
  | [.z (.int j)] => pReq (-1000000 < j ∧ j < 1000000) (K (rgD 0 j.toNat) S1)
  | _ => False) KX
theorem rgD_ok {w : Wd} {lo : Int} {n : Nat} : SrcOk B F0 w (rgD lo n) (Itr lo n) (fun _ => True) (YFn fun i => .int (lo + (i : Int))) := ⟨by simpa [rgD] using walk_range (lo := lo) (n := n), fun _ _ _ _ _ => trivial, fun w' H i x H' hi R X1 _ y => by
  obtain ⟨rfl, rfl⟩ := y
  have hi2 : i < n := by simpa [rgD] using hi
  refine ⟨w', .z (.int (lo + (i : Int))), ?_, rfl, R, .refl, .z (.int _)⟩
  show ((List.range n).map _)[i]? = _
  rw [List.getElem?_map, List.getElem?_range hi2]
  rfl⟩
theorem xrg1 {a : Expr} (hg : Gl X "range") (hm : X.mg "range" = none) (ha : PXA X B F0 W [a] wa) (hs : starEach [a] X.env = [(false, eval a X.env)] := by rfl) : PXI X B F0 W tg (.Call (.Name "range" p) [a] [] pos) (wRg1 wa) := wkI (pi_range1 hg hm ha hs) fun σ H Q h => by
  obtain ⟨w, env, K, KX, R, E, h, kx, q⟩ := h
  refine ⟨w, env, _, KX, R, E, h, fun xs S1 vs H1 μ1 F1 R1 X1 r1 h1 => ?_, kx⟩
  dsimp only at h1
  split at h1
  · obtain ⟨hz, h1⟩ := h1.out
    obtain ⟨v, rfl, r2⟩ := RpDs.one (w := ⟨μ1, S1, F1⟩) r1
    have := rpInt (w := ⟨μ1, S1, F1⟩) r2
    subst this
    exact ⟨_, rfl, by omega, by omega, q _ S1 H1 μ1 F1 _ _ _ R1 X1 h1 rgD_ok⟩
  · exact h1.elim
structure Lsd (K : PySem.W.Frag) (B F0 : Hp) (w0 : Wd) (src : Src) (a : Addr) : Prop where
  at_ : ∀ (w : Wd) H, RlW B F0 w H → Xt w0.μ w0.S w0.F w.μ w.S w.F → src.ok w.S → ∃ vs, SqL K H a vs ∧ RpsW B w src.items vs
end

def pForGo (src : Src) (g : WG) (body : WS) (k : KS) : List D → Env → Sto → Prop
  | [] => fun env S => src.ok S ∧ k.nx env S
  | d :: ds => fun env S => src.ok S ∧ g d env S fun env1 S1 => body { k with nx := pForGo src g body k ds, ct := pForGo src g body k ds, bk := k.nx } env1 S1
structure pFor (src : Src) (g : WG) (body : WS) (k : KS) (ds : List D) (env : Env) (S : Sto) : Prop where
  go : pForGo src g body k ds env S
theorem pFor.nil {src : Src} {g : WG} {body : WS} {k : KS} {env : Env} {S : Sto} : pFor src g body k [] env S = (src.ok S ∧ k.nx env S) := propext ⟨fun h => h.go, fun h => ⟨h⟩⟩
theorem pFor.cons {src : Src} {g : WG} {body : WS} {k : KS} {d : D} {ds : List D} {env : Env} {S : Sto} : pFor src g body k (d :: ds) env S = (src.ok S ∧ g d env S fun env1 S1 => body { k with nx := pFor src g body k ds, ct := pFor src g body k ds, bk := k.nx } env1 S1) := by
  have e : pFor src g body k ds = pForGo src g body k ds := by funext e s; exact propext ⟨fun h => h.go, fun h => ⟨h⟩⟩
  rw [e]; exact propext ⟨fun h => h.go, fun h => ⟨h⟩⟩
def wFor (wi : WI) (g : WG) (body : WS) : WS := fun k env S => wi env S (fun src S1 => pFor src g body k src.items env S1) k.ex
structure pWhile (t : WT) (body : WS) (k : KS) (env : Env) (S : Sto) : Prop where
  ex : ∃ P : Nat → Env → Sto → Prop, (∃ m, P m env S) ∧ ∀ m env S, P m env S →
  t env S (fun b S1 => pIf b (body { k with nx := fun env2 S2 => ∃ m', m' < m ∧ P m' env2 S2, ct := fun env2 S2 => ∃ m', m' < m ∧ P m' env2 S2, bk := k.nx } env S1) (k.nx env S1)) k.ex
section
variable {X : Cx} {B F0 : Hp} {W : WX} {tg iter c : Expr} {body : List Stmt} {wi : WI} {g : WG} {b : WS} {t : WT} {pos : Pos}
theorem xfor (hp : PassesOwn (model X.prog X.w) X.A X.env X.xe) (hc : X.calm = true) (hi : PXI X B F0 W tg iter wi) (hg : PXG X B F0 tg g) (hb : PXB X B F0 W body b) (hs : ∀ x, foldedSetIterable iter X.env x = pure x := by intro _; rfl) : PXS X B F0 W (.For tg iter body [] pos) (wFor wi g b) :=
  wkS (ps_for hp hc hi hg hb hs) fun D σ H h => by
    obtain ⟨w, env, k, R, E, h, f⟩ := h
    refine ⟨w, env, _, _, R, E, h, f.toX E, fun src S1 H1 μ1 F1 J G Y R1 X1 h1 ok => ?_⟩
    refine for_it ok.walk (fun i σ2 H2 => ∃ (w2 : Wd) (env2 : Env), RlW B F0 w2 H2 ∧ Xt μ1 S1 F1 w2.μ w2.S w2.F ∧ EnvR B w2.F w2.μ w2.S.length env2 σ2 ∧ pFor src g b k (src.items.drop i) env2 w2.S) ?_ ?_ ?_ ?_
    · exact ⟨⟨μ1, S1, F1⟩, env, R1, .refl, E.xt X1, h1⟩
    · rintro i σ2 H2 _ ⟨w2, env2, R2, X2, E2, h2⟩
      refine ok.good w2 H2 R2 X2 ?_
      cases hd : src.items.drop i with
      | nil => rw [hd, pFor.nil] at h2; exact h2.1
      | cons d ds => rw [hd, pFor.cons] at h2; exact h2.1
    · rintro i x σ2 H2 H3 hi ⟨w2, env2, R2, X2, E2, h2⟩ y
      rw [List.drop_eq_getElem_cons hi, pFor.cons] at h2
      obtain ⟨ho, h2⟩ := h2
      obtain ⟨w3, d, hd, eS, R3, X3, rd⟩ := ok.item w2 H2 i x H3 hi R2 X2 ho y
      have ed : src.items[i] = d := Option.some.inj ((List.getElem?_eq_getElem hi).symm.trans hd)
      rw [ed, ← eS] at h2
      refine ⟨w3, env2, d, _, R3, E2.xt X3, rd, h2, fun env4 S4 σ4 H4 μ4 F4 R4 X4 E4 h4 => ?_⟩
      have X24 := X2.trans (X3.trans X4)
      refine ⟨⟨μ4, S4, F4⟩, env4, _, R4, E4, h4, ⟨fun env5 S5 σ5 H5 μ5 F5 R5 X5 E5 h5 => ?_, f.rt.xt (X1.trans X24), fun env5 S5 σ5 H5 μ5 F5 R5 X5 E5 h5 => ?_, fun env5 S5 σ5 H5 μ5 F5 R5 X5 E5 h5 => ?_, fun y5 env5 S5 σ5 H5 μ5 F5 c5 d5 R5 X5 E5 r5 h5 => ?_⟩⟩
      · exact ⟨⟨μ5, S5, F5⟩, env5, R5, X24.trans X5, E5, h5⟩
      · exact f.nx _ _ _ _ _ _ R5 ((X1.trans X24).trans X5) E5 h5
      · exact ⟨⟨μ5, S5, F5⟩, env5, R5, X24.trans X5, E5, h5⟩
      · exact f.ex _ _ _ _ _ _ _ _ _ R5 ((X1.trans X24).trans X5) E5 r5 h5
    · rintro σ2 H2 ⟨w2, env2, R2, X2, E2, h2⟩
      rw [List.drop_length, pFor.nil] at h2
      exact f.nx _ _ _ _ _ _ R2 (X1.trans X2) E2 h2.2
end
end PL

set_option Elab.async false
set_option linter.all false
set_option maxRecDepth 100000
namespace PL
open PySem L2

def W0 : WX := fun _ _ _ _ => False
def X0 : KX := fun _ _ _ => False
theorem fix0 {B F0 : Hp} {w : Wd} {env : Env} {σ : St} {W : WX} : FiX B F0 W w env σ X0 := fun _ _ _ _ _ _ _ _ _ _ h => h.elim
def wipeE (env : Env) : List Nat → Env
  | [] => env
  | v :: vs => (wipeE env vs).set v none
theorem EnvR.wipe {B F : Hp} {μ : Nat → Addr} {n : Nat} {env : Env} {σ : St} (E : EnvR B F μ n env σ) : ∀ vs : List Nat, EnvR B F μ n (wipeE env vs) (L2.wipe σ vs)
  | [] => E
  | v :: vs => EnvR.unset v (EnvR.wipe E vs)
theorem wipe_set {σ : St} {i : Nat} {x : Option V} : ∀ {vs : List Nat}, i ∈ vs → L2.wipe (σ.set i x) vs = L2.wipe σ vs
  | [], h => by cases h
  | v :: vs, h => by
    show (L2.wipe (σ.set i x) vs).set v none = (L2.wipe σ vs).set v none
    by_cases hm : i ∈ vs
    · rw [wipe_set hm]
    · have e : i = v := (List.mem_cons.mp h).resolve_right hm
      subst e
      have comm : ∀ (us : List Nat) (τ : St), i ∉ us → L2.wipe (τ.set i x) us = (L2.wipe τ us).set i x := by
        intro us
        induction us with
        | nil => intro τ _; rfl
        | cons u us ih =>
          intro τ hu
          have h1 : i ∉ us := fun z => hu (List.mem_cons_of_mem _ z)
          have h2 : i ≠ u := fun z => hu (by rw [z]; exact List.mem_cons_self)
          show (L2.wipe (τ.set i x) us).set u none = ((L2.wipe τ us).set u none).set i x
          rw [ih τ h1, List.set_comm _ _ h2]
      rw [comm vs σ hm, List.set_set]
theorem wipe_idem {σ : St} : ∀ (vs : List Nat), L2.wipe (L2.wipe σ vs) vs = L2.wipe σ vs
  | [] => rfl
  | v :: vs => by
    have h : L2.wipe ((L2.wipe σ vs).set v none) (v :: vs) = L2.wipe (L2.wipe σ vs) (v :: vs) := wipe_set List.mem_cons_self
    show L2.wipe ((L2.wipe σ vs).set v none) (v :: vs) = (L2.wipe σ vs).set v none
    rw [h]
    show (L2.wipe (L2.wipe σ vs) vs).set v none = _
    rw [wipe_idem vs]
structure TgOk (K : PySem.W.Frag) (B F0 : Hp) (g : TG) (tg : D → Env → Option Env) (vs : List Nat) : Prop where
  run : ∀ (w : Wd) (H : Hp) (d : D) (v : V) (env env2 : Env) (σ : St) (Q : St → Hp → Prop), RlW B F0 w H → RpW B w d v → EnvR B w.F w.μ w.S.length env σ → tg d env = some env2 →
    (∀ σ2, EnvR B w.F w.μ w.S.length env2 σ2 → L2.wipe σ2 vs = L2.wipe σ vs → Q σ2 H) → g v σ H Q
def tgN (i : Nat) : D → Env → Option Env := fun d env => some (env.set i (some d))
def setE : Env → List Nat → List D → Option Env
  | env, [], [] => some env
  | env, i :: is, d :: ds => setE (env.set i (some d)) is ds
  | _, _, _ => none
def tgT (is : List Nat) : D → Env → Option Env := fun d env => match tpD d with
  | some ds => setE env is ds
  | none => none
section
variable {K : PySem.W.Frag} {B F0 : Hp}
theorem tgok_name {i : Nat} {vs : List Nat} (hi : i ∈ vs := by simp) : TgOk K B F0 (gName i) (tgN i) vs := ⟨fun w H d v env env2 σ Q R r E e k => by
  cases e
  exact k _ (EnvR.set r i E) (wipe_set hi)⟩
def gNames : List Nat → TGs
  | [] => gNil
  | i :: is => gCons (gName i) (gNames is)
theorem gNames_ok {w : Wd} {H : Hp} {vs : List Nat} {Q : St → Hp → Prop} : ∀ {is : List Nat} {ds : List D} {us : List V} {env env2 : Env} {σ σ0 : St}, (∀ i ∈ is, i ∈ vs) → RpsW B w ds us → EnvR B w.F w.μ w.S.length env σ → setE env is ds = some env2 → L2.wipe σ vs = L2.wipe σ0 vs →
    (∀ σ2, EnvR B w.F w.μ w.S.length env2 σ2 → L2.wipe σ2 vs = L2.wipe σ0 vs → Q σ2 H) → gNames is us σ H Q ∧ us.length = is.length
  | [], [], _, _, _, _, _, _, r, E, e, hw, k => by
    cases r
    cases e
    exact ⟨⟨rfl, k _ E hw⟩, rfl⟩
  | [], _ :: _, _, _, _, _, _, _, _, _, e, _, _ => by cases e
  | _ :: _, [], _, _, _, _, _, _, _, _, e, _, _ => by cases e
  | i :: is, d :: ds, _, env, env2, σ, σ0, hv, r, E, e, hw, k => by
    cases r with
    | cons r1 r2 =>
      obtain ⟨h1, h2⟩ := gNames_ok (is := is) (fun j hj => hv j (List.mem_cons_of_mem _ hj)) r2 (EnvR.set r1 i E) e ((wipe_set (hv i List.mem_cons_self)).trans hw) k
      exact ⟨⟨_, _, rfl, h1⟩, by simp [h2]⟩
theorem tgok_tup {is : List Nat} {vs : List Nat} {n : Nat} (hn : is.length = n := by rfl) (hi : ∀ i ∈ is, i ∈ vs := by decide) : TgOk K B F0 (gTup K n (gNames is)) (tgT is) vs := ⟨fun w H d v env env2 σ Q R r E e k => by
  unfold tgT at e
  split at e
  · rename_i ds e1
    obtain ⟨a, us, rfl, ha, ru⟩ := tpD_ok R r e1
    obtain ⟨h1, h2⟩ := gNames_ok hi ru E e rfl k
    exact ⟨a, us, rfl, .inl (.inl ha), h2.trans hn, h1⟩
  · cases e⟩
end

def pLcGo (src : Src) (tg : D → Env → Option Env) (wt : WT) (we : WE) (L : Nat) (env : Env) (fin : Sto → Prop) : List D → Sto → Prop
  | [] => fun S => src.ok S ∧ fin S
  | d :: ds => fun S => src.ok S ∧ pGet (tg d env) fun env2 => wt env2 S (fun b S1 => pIf b (we env2 S1 (fun y S2 => pGet (lsR S2 L) fun acc => pReq (acc.length < sizeLine) (pLcGo src tg wt we L env fin ds (S2.set L (.lst (acc ++ [y]))))) X0) (pLcGo src tg wt we L env fin ds S1)) X0
structure pLc (src : Src) (tg : D → Env → Option Env) (wt : WT) (we : WE) (L : Nat) (env : Env) (fin : Sto → Prop) (ds : List D) (S : Sto) : Prop where
  go : pLcGo src tg wt we L env fin ds S
theorem pLc.nil {src : Src} {tg : D → Env → Option Env} {wt : WT} {we : WE} {L : Nat} {env : Env} {fin : Sto → Prop} {S : Sto} : pLc src tg wt we L env fin [] S = (src.ok S ∧ fin S) := propext ⟨fun h => h.go, fun h => ⟨h⟩⟩
theorem pLc.cons {src : Src} {tg : D → Env → Option Env} {wt : WT} {we : WE} {L : Nat} {env : Env} {fin : Sto → Prop} {d : D} {ds : List D} {S : Sto} : pLc src tg wt we L env fin (d :: ds) S = (src.ok S ∧ pGet (tg d env) fun env2 => wt env2 S (fun b S1 => pIf b (we env2 S1 (fun y S2 => pGet (lsR S2 L) fun acc => pReq (acc.length < sizeLine) (pLc src tg wt we L env fin ds (S2.set L (.lst (acc ++ [y]))))) X0) (pLc src tg wt we L env fin ds S1)) X0) := by
  have e : pLc src tg wt we L env fin ds = pLcGo src tg wt we L env fin ds := by funext s; exact propext ⟨fun h => h.go, fun h => ⟨h⟩⟩
  rw [e]; exact propext ⟨fun h => h.go, fun h => ⟨h⟩⟩
def wLc (wi : WI) (tg : D → Env → Option Env) (wt : WT) (we : WE) (vs : List Nat) : WE := fun env S K KX => wi env S (fun src S1 => pLc src tg wt we S1.length (wipeE env vs) (fun S2 => K (.r S1.length) S2) src.items (S1 ++ [.lst []])) KX
def wYes : WT := fun _ S K _ => K true S
section
variable {X : Cx} {B F0 : Hp} {W : WX}
theorem lc_wk {wi : WI} {g : TG} {tg : D → Env → Option Env} {wt : WT} {we : WE} {vs : List Nat} (hg : TgOk X.K B F0 g tg vs) {σ : St} {H : Hp} {Q : VK} (h : tE B F0 W (wLc wi tg wt we vs) σ H Q) : tLc (tI B F0 W wi) g (tT B F0 W0 wt) (tE B F0 W0 we) vs σ H Q := by
  obtain ⟨w, env, K, KX, R, E, h, k, kx⟩ := h
  refine ⟨w, env, _, KX, R, E, h, kx, fun src S1 H1 μ1 F1 J G Y R1 X1 h1 ok => fun Dl hD => ?_⟩
  obtain ⟨Rg, Xg⟩ := R1.grow (u := .lst []) (o := .lst []) hD fun G hG => ⟨[], hG, .nil⟩
  refine lc_it ok.walk (fun i H2 => ∃ (w2 : Wd), RlW B F0 w2 H2 ∧ Xt (muX μ1 S1.length Dl) (S1 ++ [.lst []]) F1 w2.μ w2.S w2.F ∧ pLc src tg wt we S1.length (wipeE env vs) (fun S2 => K (.r S1.length) S2) (src.items.drop i) w2.S) ?_ ?_ ?_ ?_
  · exact ⟨⟨_, _, _⟩, Rg, .refl, h1⟩
  · rintro i H2 _ ⟨w2, R2, X2, h2⟩
    refine ok.good w2 H2 R2 (Xg.trans X2) ?_
    cases hd : src.items.drop i with
    | nil => rw [hd, pLc.nil] at h2; exact h2.1
    | cons d ds => rw [hd, pLc.cons] at h2; exact h2.1
  · rintro i x H2 H3 hi ⟨w2, R2, X2, h2⟩ y
    rw [List.drop_eq_getElem_cons hi, pLc.cons] at h2
    obtain ⟨ho, h2⟩ := h2
    obtain ⟨env2, he2, h2⟩ := h2.out
    obtain ⟨w3, d, hd, eS, R3, X3, rd⟩ := ok.item w2 H2 i x H3 hi R2 (Xg.trans X2) ho y
    have ed : src.items[i] = d := Option.some.inj ((List.getElem?_eq_getElem hi).symm.trans hd)
    rw [ed] at he2
    rw [← eS] at h2
    have X13 : Xt w.μ w.S w.F w3.μ w3.S w3.F := (X1.trans Xg).trans (X2.trans X3)
    refine hg.run w3 H3 d x (wipeE env vs) env2 (L2.wipe σ vs) _ R3 rd ((E.xt X13).wipe vs) he2 fun σ2 E2 hw2 => ⟨hw2.trans (wipe_idem vs), ?_⟩
    refine ⟨w3, env2, _, X0, R3, E2, h2, fun b S4 H4 μ4 F4 R4 X4 h4 => ?_, fix0⟩
    have h4 := h4.out
    dsimp only
    cases b with
    | false =>
      rw [if_neg Bool.false_ne_true] at h4 ⊢
      exact ⟨⟨μ4, S4, F4⟩, R4, X2.trans (X3.trans X4), h4⟩
    | true =>
      rw [if_pos rfl] at h4 ⊢
      refine ⟨⟨μ4, S4, F4⟩, env2, _, X0, R4, E2.xt X4, h4, fun yd S5 yv H5 μ5 F5 R5 X5 r5 h5 => ?_, fix0⟩
      obtain ⟨acc, ea, h5⟩ := h5.out
      obtain ⟨hz, h5⟩ := h5.out
      obtain ⟨hn, as, hv, ra⟩ := lsR_ok (w := ⟨μ5, S5, F5⟩) R5 ea
      have X25 := X2.trans (X3.trans (X4.trans X5))
      have eD : μ5 S1.length = Dl := by
        have := X25.m S1.length (by simp)
        rw [this]
        unfold muX
        rw [if_pos rfl]
      have hv : H5 (μ5 S1.length) = some (.lst as) := hv
      rw [eD] at hv
      refine ⟨as, hv, by rw [← ra.length]; exact hz, ?_⟩
      obtain ⟨R6, X6⟩ := R5.write (u := .lst (as ++ [yv])) (o := .lst (acc ++ [yd])) hn fun G hG => ⟨_, hG, ra.append (.cons r5 .nil)⟩
      rw [eD] at R6
      exact ⟨⟨μ5, _, F5⟩, R6, X25.trans X6, h5⟩
  · rintro H2 ⟨w2, R2, X2, h2⟩
    rw [List.drop_length, pLc.nil] at h2
    have eD : w2.μ S1.length = Dl := by
      have := X2.m S1.length (by simp)
      rw [this]
      unfold muX
      rw [if_pos rfl]
    have hlt : S1.length < w2.S.length := Nat.lt_of_lt_of_le (by simp) X2.n
    have r : RpD B w2.F w2.μ w2.S.length (.r S1.length) (.ref (w2.μ S1.length)) := .r hlt
    rw [eD] at r
    exact k _ _ _ _ _ _ R2 ((X1.trans Xg).trans X2) r h2.2
variable {elt tg iter : Expr} {ifs : List Expr} {scope : Scope} {own : List (Str × Nat)} {pos spos : Pos} {wi : WI} {g : TG} {tgd : D → Env → Option Env} {wt : WT} {we : WE}
def PXTs (X : Cx) (B F0 : Hp) (ifs : List Expr) (wt : WT) : Prop := PTs X ifs (tT B F0 W0 wt)
theorem tsNil : PXTs X B F0 [] wYes := ⟨fun pins s σ H Q I h => by
  obtain ⟨w, env, K, KX, R, E, h, k, _⟩ := h
  exact pts_nil.run pins s σ H Q I (k true w.S H w.μ w.F R .refl h)⟩
theorem xlc (hc : X.calm = true) (hN : X.N.Nodup) (hi : PXI X B F0 W tg iter wi) (ok : BlkOk X.N X.env.scope scope own)
    (hg : ∀ (s : Shared) (H : Hp) (C : Addr) (cl : List (Str × Addr)) (fp : List Addr), PG (X.blk s H scope (compEnvC scope cl C X.env) fp) tg g) (hk : TgOk X.K B F0 g tgd (own.map (·.2)))
    (ht : ∀ (s : Shared) (H : Hp) (C : Addr) (cl : List (Str × Addr)) (fp : List Addr), PXTs (X.blk s H scope (compEnvC scope cl C X.env) fp) B F0 ifs wt)
    (he : ∀ (s : Shared) (H : Hp) (C : Addr) (cl : List (Str × Addr)) (fp : List Addr), PX (X.blk s H scope (compEnvC scope cl C X.env) fp) B F0 W0 elt we) (hs : ∀ x, foldedSetIterable iter X.env x = pure x := by intro _; rfl) :
    PX X B F0 W (.ListComp elt [⟨tg, iter, ifs, 0⟩] scope pos) (wLc wi tgd wt we (own.map (·.2))) := wkE (pe_lc hc hN hi ok hg ht he hs) fun σ H Q h => lc_wk hk h
end
end PL

set_option Elab.async false
set_option linter.all false
set_option maxRecDepth 100000
namespace PL
open PySem L2

abbrev KF := Ex → Sto → Prop
abbrev Spc := List D → Sto → K1 → KF → Prop
def spOf (sp : Spc) : Sp := fun vs H Q E => ∃ (B F0 : Hp) (w : Wd) (ds : List D) (K : K1) (KX : KF), RlW B F0 w H ∧ RpsW B w ds vs ∧ sp ds w.S K KX ∧ Fi B F0 w K Q ∧
  ∀ x S' H' μ' F' cls dd, Rl B F0 μ' S' F' H' → Xt w.μ w.S w.F μ' S' F' → ExR B F' μ' S'.length H' x cls dd → KX x S' → E cls dd H'
structure pCall (sp : Spc) (ds : List D) (S : Sto) (K : K1) (KX : KF) : Prop where
  mk' ::
  out : sp ds S K KX
theorem pCall.mk {sp : Spc} {ds : List D} {S : Sto} {K : K1} {KX : KF} (h : sp ds S K KX) : pCall sp ds S K KX := ⟨h⟩
def wFn (sp : Spc) (dvs : List D) (wa : WA) : WE := fun env S K KX => wa env S (fun ds S1 => pCall sp (ds ++ dvs) S1 K fun x S2 => KX x env S2) KX
structure Dft (dvs : List D) (ds : List Value) : Prop where
  ok : ∃ vs : List V, Vals vs ds ∧ ∀ B w, RpsW B w dvs vs
theorem dft0 : Dft [] [] := ⟨[], .nil, fun _ _ => .nil⟩
section
variable {X : Cx} {B F0 : Hp} {W : WX} {e : Expr} {es : List Expr} {wa : WA} {x : Str} {p pos : Pos} {k : Nat} {f : Addr} {fd : FuncData} {ps : List Str} {sp : Spc} {dvs : List D} {dd : List Value}
theorem xcall (G : FnOk X.prog X.w X.K X.mg X.base (L2N.CX X.prog X.w) k f fd ps (spOf sp)) (hr : Room k X.A) (hg : Gl X x) (hm : X.mg x = some (.ref f)) (hk : PySem.W.keepIn X.K (.ref f) = true) (hb : Binds X.K fd ps dd) (hd : Dft dvs dd) (tk : L2N.Takes X W) (ha : PXA X B F0 W (e :: es) wa)
    (hdb : (x == ("__debug__" : Str)) = false := by decide) (he : starEach (e :: es) X.env = (false, eval e X.env) :: starEach es X.env := by rfl) (hpl : (backTo pos (starEach es X.env)).any (·.1) = false := by rfl) : PX X B F0 W (.Call (.Name x p) (e :: es) [] pos) (wFn sp dvs wa) := by
  obtain ⟨vsd, hv, hrp⟩ := hd.ok
  refine wkE (pe_callSD (E := fun σ cls d H => W cls d σ H) G hr hg hm hk hb hv (fun σ => L2N.passAt tk σ) ha hdb he hpl) fun σ H Q h => ?_
  obtain ⟨w, env, K, KX, R, E, h, k, kx⟩ := h
  refine ⟨w, env, _, _, R, E, h, fun ds S1 vs H1 μ1 F1 R1 X1 r1 h1 => ?_, kx⟩
  have happ : ∀ {a b : List D} {u v : List V}, RpDs B F1 μ1 S1.length a u → RpDs B F1 μ1 S1.length b v → RpDs B F1 μ1 S1.length (a ++ b) (u ++ v) := fun a b => a.append b
  exact ⟨B, F0, ⟨μ1, S1, F1⟩, ds ++ dvs, K, _, R1, happ r1 (hrp B ⟨μ1, S1, F1⟩), h1.out, k.xt X1, fun y S2 H2 μ2 F2 cls dd R2 X2 r2 h2 => kx y S2 H2 μ2 F2 cls dd R2 (X1.trans X2) r2 h2⟩
end

def startE (N : List Str) (ds : List D) : Env := ds.map some ++ List.replicate (N.length - ds.length) none
theorem startE_ok {B F : Hp} {μ : Nat → Addr} {n : Nat} {N : List Str} : ∀ {ds : List D} {vs : List V}, RpDs B F μ n ds vs → EnvR B F μ n (startE N ds) (L2.start N vs) := by
  intro ds vs r
  unfold startE L2.start
  rw [r.length]
  generalize N.length - vs.length = j
  have h2 : ∀ j : Nat, EnvR B F μ n (List.replicate j none) (List.replicate j none) := by
    intro j
    induction j with
    | zero => exact .nil
    | succ j ih => exact .cons (fun d hd => by cases hd) ih
  clear N
  induction ds generalizing vs with
  | nil => cases r; exact h2 j
  | cons d ds ih => cases r with | cons a b => exact .cons (fun e he => by cases he; exact ⟨_, rfl, a⟩) (ih b)
theorem okXN {P : Program} {w : World} {K : PySem.W.Frag} {mg : Str → Option Value} {base : Heap} {x qual : Str} {st : Stmt} {f : Addr} {fd : FuncData} {N ps : List Str} {k : Nat} {sp : L2.Sp} (F : Fun K x qual st f fd) (S : FnScope N ps (defScope st)) (hl : ∀ vs H Q E, sp vs H Q E → vs.length = ps.length)
    (hb : ∀ (cdv : Value) (A : Around) (outer : List PySem.Env) (s : Shared) (H : Hp) (vs : List V) (Q : VK) (E : XK), Room k (A.deeper (PyProof.Rows.envOfC qual (defScope st) s.heap.objs.size f cdv)) → sp vs H Q E →
      ∃ t, PSs (cxOf (L2N.CX P w) P w K mg base N qual (defScope st) f cdv A outer s H E) (defBody st) t ∧ t { nx := fun _ H' => Q .non H', rt := Q } (L2.start N vs) H) : FnOk P w K mg base (L2N.CX P w) (k + 1) f fd ps sp := by
  obtain ⟨oc, od, kV, doc, pm, an, cdv, ct, osl, rfl, lk, hcd⟩ := F.ex
  exact fn_of lk hcd S hl fun A outer s H vs Q E hr h => hb cdv A outer s H vs Q E hr h
def wE (E : XK) : WX := fun cls d _ H => E cls d H
theorem hu_px {A : Around} {k : Nat} (hr : Room k A) : A.units + 100 < cLine := by have := hr.un; omega
theorem fnpx {P : Program} {w : World} {K : PySem.W.Frag} {mg : Str → Option Value} {base : Heap} {x qual : Str} {st : Stmt} {f : Addr} {fd : FuncData} {N ps : List Str} {k : Nat} {sp : Spc} {ws : WS} (F : Fun K x qual st f fd) (S : FnScope N ps (defScope st))
    (hl : ∀ ds S K KX, sp ds S K KX → ds.length = ps.length)
    (hb : ∀ (cdv : Value) (A : Around) (outer : List PySem.Env) (s : Shared) (H : Hp) (E : XK) (B F0 : Hp), Room k (A.deeper (PyProof.Rows.envOfC qual (defScope st) s.heap.objs.size f cdv)) → L2N.Takes (cxOf (L2N.CX P w) P w K mg base N qual (defScope st) f cdv A outer s H E) (wE E) →
      PassesOwn (model P w) (cxOf (L2N.CX P w) P w K mg base N qual (defScope st) f cdv A outer s H E).A (cxOf (L2N.CX P w) P w K mg base N qual (defScope st) f cdv A outer s H E).env (cxOf (L2N.CX P w) P w K mg base N qual (defScope st) f cdv A outer s H E).xe →
      PXB (cxOf (L2N.CX P w) P w K mg base N qual (defScope st) f cdv A outer s H E) B F0 (wE E) (defBody st) ws)
    (hs : ∀ ds S K KX, sp ds S K KX → ws { nx := fun _ S1 => K (.z .none) S1, rt := K, ex := fun y _ S1 => KX y S1 } (startE N ds) S) : FnOk P w K mg base (L2N.CX P w) (k + 1) f fd ps (spOf sp) := by
  refine okXN F S (fun vs H Q E h => ?_) (fun cdv A outer s H vs Q E hr h => ?_)
  · obtain ⟨B, F0, w', ds, K', KX, _, r, h, _⟩ := h
    rw [← r.length]
    exact hl _ _ _ _ h
  · obtain ⟨B, F0, w', ds, K', KX, R, r, h, k', kx⟩ := h
    refine ⟨_, hb cdv A outer s H E B F0 hr (L2N.takes_of rfl rfl rfl rfl) (passes_of rfl), w', _, _, R, startE_ok r, hs _ _ _ _ h, ⟨fun env S σ H μ F R X _ q => ?_, k', fun _ _ _ _ _ _ _ _ _ q => q.elim, fun _ _ _ _ _ _ _ _ _ q => q.elim, fun y env S σ H μ F cls dd R X _ r q => ?_⟩⟩
    · exact k' _ _ _ _ _ _ R X (.z .non) q
    · exact kx y S H μ F cls dd R X r q

mutual
inductive Vz (S : Sto) : D → PyData → Prop
  | z {d : PyData} : Vz S (.z d) d
  | r {n : Nat} {ds : List D} {es : List PyData} : S[n]? = some (.lst ds) → Vzs S ds es → Vz S (.r n) (.list es)
  | t {ds : List D} {es : List PyData} : Vzs S ds es → Vz S (.t ds) (.tuple es)
inductive Vzs (S : Sto) : List D → List PyData → Prop
  | nil : Vzs S [] []
  | cons {d : D} {ds : List D} {e : PyData} {es : List PyData} : Vz S d e → Vzs S ds es → Vzs S (d :: ds) (e :: es)
end
theorem Vzs.zs {S : Sto} : ∀ (ds : List PyData), Vzs S (ds.map .z) ds
  | [] => .nil
  | d :: ds => .cons .z (Vzs.zs ds)
open Classical in
noncomputable def fz (μ : Nat → Addr) (n : Nat) (F H : Hp) : Hp := fun a => match F a with
  | some o => some o
  | none => if ∃ i, i < n ∧ μ i = a then H a else none
section
variable {B F0 F F' H H' : Hp} {μ μ' : Nat → Addr} {S S' : Sto}
theorem fz_sub : Sub F (fz μ S.length F H) := fun a o h => by unfold fz; rw [h]
theorem fz_at {i : Nat} (hi : i < S.length) (hF : F (μ i) = none) : fz μ S.length F H (μ i) = H (μ i) := by
  unfold fz; rw [hF]; exact if_pos ⟨i, hi, rfl⟩
theorem fz_cases {a : Addr} {o : HO} (h : fz μ S.length F H a = some o) : F a = some o ∨ (F a = none ∧ (∃ i, i < S.length ∧ μ i = a) ∧ H a = some o) := by
  unfold fz at h
  split at h
  · rename_i e; cases h; exact .inl e
  · rename_i e
    by_cases c : ∃ i, i < S.length ∧ μ i = a
    · exact .inr ⟨e, c, (if_pos c).symm.trans h⟩
    · rw [if_neg c] at h; cases h
mutual
theorem Vz.rp (R : Rl B F0 μ S F H) : ∀ (e : PyData) (d : D) (v : V), Vz S d e → RpD B F μ S.length d v → RpT (LF (fz μ S.length F H)) (TF (fz μ S.length F H)) e v
  | .none, _, _, w, h => by cases w with | z => cases h with | z a => cases a; exact .non
  | .bool _, _, _, w, h => by cases w with | z => cases h with | z a => cases a; exact .bl _
  | .int _, _, _, w, h => by cases w with | z => cases h with | z a => cases a; exact .int _
  | .str _, _, _, w, h => by cases w with | z => cases h with | z a => cases a; exact .str _
  | .dict _, _, _, w, h => by cases w with | z => cases h with | z a => cases a
  | .list es, _, _, w, h => by
    cases w with
    | z => cases h with | z a => exact RpT.mono (fun _ _ q => fz_sub _ _ q) (fun _ _ q => fz_sub _ _ q) _ _ a
    | r e ws =>
      cases h with
      | r hi =>
        obtain ⟨vs, hv, rv⟩ := R.ob _ _ e
        exact .lst (show fz μ S.length F H _ = _ by rw [fz_at hi (R.nf _ hi)]; exact hv) (Vzs.rp R es _ vs ws rv)
  | .tuple es, _, _, w, h => by
    cases w with
    | z => cases h with | z a => exact RpT.mono (fun _ _ q => fz_sub _ _ q) (fun _ _ q => fz_sub _ _ q) _ _ a
    | t ws => cases h with | t e rv => exact .tup (fz_sub _ _ e) (Vzs.rp R es _ _ ws rv)
theorem Vzs.rp (R : Rl B F0 μ S F H) : ∀ (es : List PyData) (ds : List D) (vs : List V), Vzs S ds es → RpDs B F μ S.length ds vs → RpTs (LF (fz μ S.length F H)) (TF (fz μ S.length F H)) es vs
  | [], _, _, w, h => by cases w; cases h; exact .nil
  | e :: es, _, _, w, h => by
    cases w with | cons a b => cases h with | cons r s => exact .cons (Vz.rp R e _ _ a r) (Vzs.rp R es _ _ b s)
end
theorem Rl.back (R : Rl B F0 μ S F H) (R' : Rl H F μ' S' F' H') (x : Sub F F') : Rl B F0 μ S (fz μ' S'.length F' H') H' ∧ Xt μ S F μ S (fz μ' S'.length F' H') := by
  have s1 : Sub F (fz μ' S'.length F' H') := x.trans fz_sub
  refine ⟨⟨R.bh.trans R'.bh, fun a o h => ?_, R.f0.trans s1, fun a o h => ?_, R.inj, R.nb, fun i hi => ?_, fun i o h => ?_⟩, ⟨s1, Nat.le_refl _, fun _ _ => rfl⟩⟩
  · rcases fz_cases h with h | ⟨_, _, h⟩
    · exact R'.fh a o h
    · exact h
  · rcases fz_cases h with h | ⟨_, ⟨i, hi, rfl⟩, _⟩
    · rcases R'.fn a o h with q | q
      · exact R.fn a o q
      · exact .inr (R.bh.non q)
    · exact .inr (R.bh.non (R'.nb i hi))
  · obtain ⟨u, hu⟩ := R.has hi
    cases q : fz μ' S'.length F' H' (μ i) with
    | none => rfl
    | some o =>
      rcases fz_cases q with h | ⟨_, ⟨j, hj, e⟩, _⟩
      · rcases R'.fn _ o h with q | q
        · rw [R.nf i hi] at q; cases q
        · rw [hu] at q; cases q
      · have := R'.nb j hj
        rw [e, hu] at this; cases this
  · obtain ⟨u, hu⟩ := R.has (Rl.lt h)
    exact (R.ob i o h).mono s1 (Nat.le_refl _) (fun _ _ => rfl) ((R'.bh _ _ hu).trans hu.symm)
end
def ExV (S : Sto) (x x' : Ex) : Prop := x'.c = x.c ∧ match x.fs, x'.fs with
  | none, none => True
  | some fs, some gs => Paired (fun (p q : Str × D) => p.1 = q.1 ∧ ∃ e, Vz S p.2 e ∧ q.2 = .z e) fs gs
  | _, _ => False
abbrev Fsp := List PyData → (PyData → Prop) → (Ex → Prop) → Prop
def frz (p : Fsp) : Spc := fun ds S K KX => ∃ es, Vws S ds es ∧ p es (fun d => K (.z d) S) fun x => KX x S
def lent (p : Fsp) : Spc := fun ds S K KX => ∃ es kd kx, ds = es.map bz ∧ S = [] ∧ p es kd kx ∧ (∀ d S' e, Vz S' d e → kd e → K d S') ∧ ∀ x S' x', ExV S' x x' → kx x' → KX x S'
theorem FnOk.frz {P : Program} {w : World} {K : PySem.W.Frag} {mg : Str → Option Value} {base : Heap} {CX : CXT} {k : Nat} {f : Addr} {fd : FuncData} {ps : List Str} {p : Fsp} (h : FnOk P w K mg base CX k f fd ps (spOf (lent p))) : FnOk P w K mg base CX k f fd ps (spOf (PL.frz p)) := by
  refine h.imp fun vs H Q E q => ?_
  obtain ⟨B, F0, w, ds, K, KX, R, r, ⟨es, vw, q⟩, k, kx⟩ := q
  have R0 : Rl H w.F w.μ [] w.F H := ⟨Sub.refl _, R.fh, Sub.refl _, fun a o e => .inl e, fun i j hi => absurd hi (Nat.not_lt_zero _), fun i hi => absurd hi (Nat.not_lt_zero _), fun i hi => absurd hi (Nat.not_lt_zero _), fun i o e => by simp at e⟩
  refine ⟨H, w.F, ⟨w.μ, [], w.F⟩, es.map bz, fun d S' => ∃ e, Vz S' d e ∧ K (.z e) w.S, fun x S' => ∃ x', ExV S' x x' ∧ KX x' w.S, R0, RpDs.bzs (Vws.rp R _ _ _ vw r), ⟨es, _, _, rfl, rfl, q, fun d S' e a b => ⟨e, a, b⟩, fun x S' x' a b => ⟨x', a, b⟩⟩, ?_, ?_⟩
  · rintro d S' v H' μ' F' R' X' r' ⟨e, he, hk⟩
    obtain ⟨R2, X2⟩ := R.back R' X'.f
    exact k _ _ _ _ _ _ R2 X2 (.z (Vz.rp R' e d v he r')) hk
  · rintro x S' H' μ' F' cls dd R' X' r' ⟨x', ⟨hc, hf⟩, hk⟩
    obtain ⟨R2, X2⟩ := R.back R' X'.f
    refine kx x' _ _ _ _ cls dd R2 X2 ⟨by rw [hc]; exact r'.1, ?_⟩ hk
    obtain ⟨_, r2⟩ := r'
    cases h1 : x.fs with
    | none =>
      cases h2 : x'.fs with
      | none => rw [h1] at r2; exact r2
      | some gs => rw [h1, h2] at hf; exact hf.elim
    | some fs =>
      cases h2 : x'.fs with
      | none => rw [h1, h2] at hf; exact hf.elim
      | some gs =>
        rw [h1] at r2
        rw [h1, h2] at hf
        obtain ⟨a, ws, e1, e2, e3⟩ := r2
        refine ⟨a, ws, e1, fz_sub _ _ e2, ?_⟩
        clear e2 h1 h2
        induction hf generalizing ws with
        | nil => cases e3; exact .nil
        | cons q t ih =>
          cases e3 with
          | cons r1 r2 =>
            obtain ⟨n1, e, ve, q2⟩ := q
            refine .cons ⟨n1.symm.trans r1.1, ?_⟩ (ih _ r2)
            rw [q2]
            exact .z (Vz.rp R' e _ _ ve r1.2)
end PL

set_option Elab.async false
set_option linter.all false
set_option maxRecDepth 100000
namespace PL
open PySem L2

structure Fc (P : Program) (w : World) (K : PySem.W.Frag) (mg : Str → Option Value) (base : Heap) (x : Str) (k : Nat) (ps : List Str) (sp : Spc) : Prop where
  ex : ∃ (f : Addr) (fd : FuncData), FnOk P w K mg base (L2N.CX P w) k f fd ps (spOf sp) ∧ mg x = some (.ref f) ∧ PySem.W.keepIn K (.ref f) = true ∧ Binds K fd ps []
theorem Fc.frz {P : Program} {w : World} {K : PySem.W.Frag} {mg : Str → Option Value} {base : Heap} {x : Str} {k : Nat} {ps : List Str} {p : Fsp} (c : Fc P w K mg base x k ps (lent p)) : Fc P w K mg base x k ps (PL.frz p) := by
  obtain ⟨f, fd, h, r⟩ := c.ex
  exact ⟨f, fd, FnOk.frz h, r⟩
section
variable {X : Cx} {B F0 : Hp} {W : WX} {e : Expr} {es : List Expr} {wa : WA} {x : Str} {p pos : Pos} {k : Nat} {ps : List Str} {sp : Spc}
theorem xfc (c : Fc X.prog X.w X.K X.mg X.base x k ps sp) (hr : Room k X.A) (tk : L2N.Takes X W) (hg : Gl X x) (ha : PXA X B F0 W (e :: es) wa)
    (hdb : (x == ("__debug__" : Str)) = false := by decide) (he : starEach (e :: es) X.env = (false, eval e X.env) :: starEach es X.env := by rfl) (hpl : (backTo pos (starEach es X.env)).any (·.1) = false := by rfl) : PX X B F0 W (.Call (.Name x p) (e :: es) [] pos) (wFn sp [] wa) := by
  obtain ⟨f, fd, h, hm, hk, hb⟩ := c.ex
  exact xcall h hr hg hm hk hb dft0 tk ha hdb he hpl
def wTy (T : Ty) : WE := fun _ S K _ => K (.y T) S
theorem xty {T : Ty} (hg : Gl X x) (hm : X.mg x = none) (hv : bootBuiltins x = some (.type T.s)) (hn : x ≠ "__name__" := by decide) (hd : (x == ("__debug__" : Str)) = false := by decide) : PX X B F0 W (.Name x pos) (wTy T) :=
  wkE (pe_bltn (v := .ty T.s) hg hm hv rfl hn hd) fun σ H Q h => by
    obtain ⟨w, env, K, KX, R, E, h, k, _⟩ := h
    exact k _ w.S _ H w.μ w.F R .refl .y h
end
theorem bb_len : bootBuiltins "len" = some (.builtin "len") := by decide +kernel
theorem bb_isinstance : bootBuiltins "isinstance" = some (.builtin "isinstance") := by decide +kernel
theorem bb_list : bootBuiltins "list" = some (.type "list") := by decide +kernel
theorem bb_tuple : bootBuiltins "tuple" = some (.type "tuple") := by decide +kernel
theorem bb_int : bootBuiltins "int" = some (.type "int") := by decide +kernel
theorem bb_str : bootBuiltins "str" = some (.type "str") := by decide +kernel
theorem bb_bool : bootBuiltins "bool" = some (.type "bool") := by decide +kernel
section
variable {X : Cx} {B F0 : Hp} {W : WX} {pos : Pos}
end
def noLs (K : PySem.W.Frag) : Bool := K.all fun p => match p.2.cls with
  | .type n => n != "list"
  | _ => true
theorem lk_mem {β : Type} {a : Nat} {b : β} : ∀ {l : List (Nat × β)}, l.lookup a = some b → (a, b) ∈ l
  | [], h => by simp at h
  | (k, v) :: l, h => by
    by_cases e : a = k
    · subst e; simp at h; subst h; exact List.mem_cons_self
    · have : (a == k) = false := beq_eq_false_iff_ne.mpr e
      simp only [List.lookup_cons, this] at h
      exact List.mem_cons_of_mem _ (lk_mem h)
theorem noLs_ok {K : PySem.W.Frag} (h : noLs K = true) {a : Addr} {o : Obj} (e : K.lookup a = some o) : o.cls ≠ .type "list" := by
  unfold noLs at h
  have hm : (a, o) ∈ K := lk_mem e
  have q := List.all_eq_true.mp h _ hm
  intro z
  simp only [z] at q
  exact absurd q (by decide)
def lawSp : Spc := fun ds S K _ => ∃ ns : List Int, ds = [.b (.list (ns.map .int))] ∧ S = [] ∧ ns.length ≤ 63 ∧ ∀ S', K (.z (.bool true)) S'
def spLawP (K : PySem.W.Frag) : Sp := fun vs H Q _ => ∃ (a : Addr) (ns : List Int), vs = [.ref a] ∧ SqL K H a (ns.map V.int) ∧ ns.length ≤ 63 ∧ ∀ H', Q (.bl true) H'
theorem law_imp {P : Program} {w : World} {K : PySem.W.Frag} {mg : Str → Option Value} {base : Heap} {CX : CXT} {k : Nat} {f : Addr} {fd : FuncData} {ps : List Str} (hK : noLs K = true) (h : FnOk P w K mg base CX k f fd ps (spOf lawSp)) : FnOk P w K mg base CX k f fd ps (spLawP K) := by
  refine h.imp fun vs H Q E q => ?_
  obtain ⟨a, ns, rfl, hs, hl, q⟩ := q
  have hr : Rd H a (.lst (ns.map V.int)) := by
    rcases hs with hs | ⟨o, its, n, e, hc, _⟩
    · exact hs
    · exact absurd hc (noLs_ok hK e)
  have R0 : Rl H (fun _ => none) (fun i => i) [] (fun _ => none) H := ⟨Sub.refl _, fun a o e => (by cases e), Sub.refl _, fun a o e => (by cases e), fun i j hi => absurd hi (Nat.not_lt_zero _), fun i hi => absurd hi (Nat.not_lt_zero _), fun i hi => absurd hi (Nat.not_lt_zero _), fun i o e => (by simp at e)⟩
  have allI : ∀ ns : List Int, RpTs (LB H fun _ => none) (TF fun _ => none) (ns.map .int) (ns.map V.int) := fun ns => by
    induction ns with
    | nil => exact .nil
    | cons n ns ih => exact .cons (.int n) ih
  refine ⟨H, _, ⟨fun i => i, [], fun _ => none⟩, _, fun d _ => d = .z (.bool true), fun _ _ => False, R0, .cons (.b (.lst (.inr hr) (allI ns))) .nil, ⟨ns, rfl, rfl, hl, fun _ => rfl⟩, fun d S v H' μ F R X r e => ?_, fun _ _ _ _ _ _ _ _ _ _ h => h.elim⟩
  subst e
  cases r with | z q1 => cases q1; exact q _
def pNeg : P1 := fun x S K => match x with
  | .z (.int i) => K (.z (.int (-i))) S
  | _ => False
section
variable {X : Cx} {B F0 : Hp} {W : WX} {a : Expr} {wa : WE} {pos : Pos} {p : P1} {x : Str}
theorem xun {op : UnaryOp} (ho : UnR X (unaryOp op) (r1 B F0 p)) (ha : PX X B F0 W a wa) : PX X B F0 W (.UnaryOp op a pos) (w1 p wa) := wkE (pe_un ho ha) fun σ H Q h => by
  obtain ⟨w, env, K, KX, R, E, h, k, kx⟩ := h
  exact ⟨w, env, _, KX, R, E, h, fun d S1 v H1 μ1 F1 R1 X1 q1 h1 => ⟨⟨μ1, S1, F1⟩, d, K, R1, q1, h1, k.xt X1⟩, kx⟩
theorem oNeg : UnR X (unaryOp .USub) (r1 B F0 pNeg) := by
  intro pins s σ H v u Q I rx h
  obtain ⟨w, d, K, R, q, h, k⟩ := h
  unfold pNeg at h
  split at h
  · rw [rpInt q] at rx
    exact un_neg pins s σ H _ u Q I rx ⟨_, rfl, k.int R h⟩
  · exact h.elim
theorem xgS {z : Str} (hg : Gl X x) (h : ∃ t, X.mg x = some (.str z t)) (hdb : (x == ("__debug__" : Str)) = false := by decide) : PX X B F0 W (.Name x pos) (wC (.str z)) := by
  obtain ⟨t, e⟩ := h
  exact xglob (v := .str z) hg e ⟨t, rfl⟩ (fun _ _ => .str z) hdb
theorem xgI {z : Int} (hg : Gl X x) (h : ∃ t, X.mg x = some (.int z t)) (hdb : (x == ("__debug__" : Str)) = false := by decide) : PX X B F0 W (.Name x pos) (wC (.int z)) := by
  obtain ⟨t, e⟩ := h
  exact xglob (v := .int z) hg e ⟨t, rfl⟩ (fun _ _ => .int z) hdb
end
end PL

set_option Elab.async false
set_option linter.all false
set_option maxRecDepth 100000
namespace PL
open PySem L2

def fsp {α : Type} (enc : α → List PyData) (pre : α → Prop) (out : α → PyData) : Fsp := fun es k _ => ∃ a, es = enc a ∧ pre a ∧ k (out a)
theorem fsp_len {α : Type} {enc : α → List PyData} {pre : α → Prop} {out : α → PyData} {n : Nat} (h : ∀ a, (enc a).length = n) : ∀ ds S K KX, lent (fsp enc pre out) ds S K KX → ds.length = n := by
  rintro ds S K KX ⟨es, kd, kx, rfl, rfl, ⟨a, rfl, _, _⟩, _⟩
  rw [List.length_map]; exact h a
abbrev ends (K : K1) (KX : KF) : KS := { nx := fun _ S1 => K (.z .none) S1, rt := K, ex := fun y _ S1 => KX y S1 }
theorem fsp_ok {α : Type} {enc : α → List PyData} {pre : α → Prop} {out : α → PyData} {ws : WS} {N : List Str} (h : ∀ a, pre a → ∀ K KX, (∀ d S', Vz S' d (out a) → K d S') → ws (ends K KX) (startE N ((enc a).map bz)) []) :
    ∀ ds S K KX, lent (fsp enc pre out) ds S K KX → ws { nx := fun _ S1 => K (.z .none) S1, rt := K, ex := fun y _ S1 => KX y S1 } (startE N ds) S := by
  rintro ds S K KX ⟨es, kd, kx, rfl, rfl, ⟨a, rfl, hp, hk⟩, hK, _⟩
  exact h a hp K KX fun d S' v => hK d S' _ v hk
theorem fsp_call {α : Type} {enc : α → List PyData} {pre : α → Prop} {out : α → PyData} {ds : List D} {S : Sto} {K : K1} {KX : KF} (a : α) (v : Vws S ds (enc a)) (hp : pre a) (h : K (.z (out a)) S) : pCall (frz (fsp enc pre out)) ds S K KX := pCall.mk ⟨_, v, a, rfl, hp, h⟩
theorem sz_le {n : Nat} (h : Nat.ble n 1000 = true) : n ≤ sizeLine := Nat.le_trans (Nat.le_of_ble_eq_true h) (by decide)
theorem sz_lt {n : Nat} (h : Nat.ble n 1000 = true) : n < sizeLine := Nat.lt_of_le_of_lt (Nat.le_of_ble_eq_true h) (by decide)
theorem sz_le6 {n : Nat} (h : n ≤ 1000000) : n ≤ sizeLine := Nat.le_trans h (by decide)
theorem sz_lt6 {n : Nat} (h : n ≤ 1000000) : n < sizeLine := Nat.lt_of_le_of_lt h (by decide)
theorem atD_in {α : Type} {xs : List α} {i : Int} (h0 : 0 ≤ i) (h1 : i < xs.length) : atD xs i = some (xs[i.toNat]'(by omega)) := by
  obtain ⟨j, rfl⟩ : ∃ j : Nat, i = (j : Int) := ⟨i.toNat, by omega⟩
  show xs[j]? = _
  have hj : j < xs.length := by omega
  rw [List.getElem?_eq_getElem hj]
  rfl
theorem atD_map {α β : Type} (f : α → β) (xs : List α) (i : Int) : atD (xs.map f) i = (atD xs i).map f := by
  cases i with
  | ofNat k => show (xs.map f)[k]? = (xs[k]?).map f; rw [List.getElem?_map]
  | negSucc k =>
    rw [atD_neg, atD_neg, List.length_map]
    split
    · rw [List.getElem?_map]
    · rfl
theorem ixD_bL {α : Type} {S : Sto} {f : α → PyData} {xs : List α} {i : Int} {x : α} (h : atD xs i = some x) : ixD S (.b (.list (xs.map f))) i = some (bz (f x)) := by
  show (atD (xs.map f) i).map bz = _
  rw [atD_map, h]; rfl
theorem ixD_zL {α : Type} {S : Sto} {f : α → PyData} {xs : List α} {i : Int} {x : α} (h : atD xs i = some x) : ixD S (.z (.list (xs.map f))) i = some (.z (f x)) := by
  show (atD (xs.map f) i).map D.z = _
  rw [atD_map, h]; rfl
theorem bz_flat {d : PyData} (h : flatT d = true) : bz d = .z d := by unfold bz; rw [if_pos h]
theorem bz_list {ds : List PyData} : bz (.list ds) = .b (.list ds) := by unfold bz; rw [if_neg (by simp [flatT])]

theorem pLc_map {α : Type} {src : Src} {tg : D → Env → Option Env} {wt : WT} {we : WE} {env : Env} {fin : Sto → Prop} {S : Sto} {xs : List α} (it f : α → D) (t : α → Bool) (hz : xs.length < 1000000) (hok : ∀ acc, src.ok (S ++ [.lst acc]))
    (ht : ∀ x ∈ xs, ∃ env2, tg (it x) env = some env2 ∧ (∀ (S1 : Sto) (K : Bool → Sto → Prop), (∃ acc, S1 = S ++ [.lst acc]) → K (t x) S1 → wt env2 S1 K X0) ∧ (t x = true → ∀ (S1 : Sto) (K : K1), (∃ acc, S1 = S ++ [.lst acc]) → K (f x) S1 → we env2 S1 K X0))
    (hf : fin (S ++ [.lst ((xs.filter t).map f)])) : pLc src tg wt we S.length env fin (xs.map it) (S ++ [.lst []]) := by
  have go : ∀ (done rest : List α), xs = done ++ rest → pLc src tg wt we S.length env fin (rest.map it) (S ++ [.lst ((done.filter t).map f)]) := by
    intro done rest
    induction rest generalizing done with
    | nil =>
      intro e
      rw [List.append_nil] at e
      subst e
      rw [List.map_nil, pLc.nil]
      exact ⟨hok _, hf⟩
    | cons d ds ih =>
      intro e
      rw [List.map_cons, pLc.cons]
      have hm : d ∈ xs := by rw [e]; simp
      obtain ⟨env2, h1, h2, h3⟩ := ht d hm
      refine ⟨hok _, pGet.mk h1 (h2 _ _ ⟨_, rfl⟩ (pIf.mk (fun c => ?_) fun c => ?_))⟩
      · refine h3 c _ _ ⟨_, rfl⟩ (pGet.mk (x := (done.filter t).map f) ?_ (pReq.mk ?_ ?_))
        · unfold lsR; simp
        · have h4 := List.length_filter_le t done
          have h5 : xs.length = done.length + (ds.length + 1) := by rw [e]; simp
          have h6 : ((done.filter t).map f).length < 1000000 := by rw [List.length_map]; omega
          exact Nat.lt_of_lt_of_le h6 (by rw [sizeLine_eq]; decide)
        · have ih2 := ih (done ++ [d]) (by rw [e]; simp)
          have es : (S ++ [Ob.lst ((done.filter t).map f)]).set S.length (.lst ((done.filter t).map f ++ [f d])) = S ++ [.lst (((done ++ [d]).filter t).map f)] := by
            simp [List.filter_append, c]
          rw [es]; exact ih2
      · have ih2 := ih (done ++ [d]) (by rw [e]; simp)
        have es : (done ++ [d]).filter t = done.filter t := by simp [List.filter_append, c]
        rw [es] at ih2
        exact ih2
  exact go [] xs rfl
theorem pLc_all {α : Type} {src : Src} {tg : D → Env → Option Env} {we : WE} {env : Env} {fin : Sto → Prop} {S : Sto} {xs : List α} (it f : α → D) (hz : xs.length < 1000000) (hok : ∀ acc, src.ok (S ++ [.lst acc]))
    (he : ∀ x ∈ xs, ∃ env2, tg (it x) env = some env2 ∧ ∀ (S1 : Sto) (K : K1), (∃ acc, S1 = S ++ [.lst acc]) → K (f x) S1 → we env2 S1 K X0)
    (hf : fin (S ++ [.lst (xs.map f)])) : pLc src tg wYes we S.length env fin (xs.map it) (S ++ [.lst []]) := by
  refine pLc_map it f (fun _ => true) hz hok (fun d hd => ?_) (by rw [List.filter_eq_self.mpr fun _ _ => rfl]; exact hf)
  obtain ⟨env2, h1, h2⟩ := he d hd
  exact ⟨env2, h1, fun S1 K _ h => h, fun _ => h2⟩
theorem pLc_rg {lo : Int} {n : Nat} {tg : D → Env → Option Env} {we : WE} {env : Env} {fin : Sto → Prop} {S : Sto} (f : Nat → D) (hz : n < 1000000)
    (he : ∀ i, i < n → ∃ env2, tg (.z (.int (lo + (i : Int)))) env = some env2 ∧ ∀ (S1 : Sto) (K : K1), (∃ acc, S1 = S ++ [.lst acc]) → K (f i) S1 → we env2 S1 K X0)
    (hf : fin (S ++ [.lst ((List.range n).map f)])) : pLc (rgD lo n) tg wYes we S.length env fin (rgD lo n).items (S ++ [.lst []]) :=
  pLc_all (xs := List.range n) (fun i => .z (.int (lo + (i : Int)))) f (by rw [List.length_range]; exact hz) (fun _ => trivial) (fun i hi => he i (List.mem_range.mp hi)) hf
theorem pFor_each {src : Src} {g : WG} {body : WS} {k : KS} {items : List D} {env : Env} {S : Sto} (I : Nat → Env → Sto → Prop) (h0 : I 0 env S) (hok : ∀ i env S, i ≤ items.length → I i env S → src.ok S)
    (hs : ∀ i d env S (Q : Env → Sto → Prop), items[i]? = some d → I i env S → (∀ env' S', I (i + 1) env' S' → Q env' S') → g d env S fun env1 S1 => body { k with nx := Q, ct := Q, bk := k.nx } env1 S1)
    (hd : ∀ env S, I items.length env S → k.nx env S) : pFor src g body k items env S := by
  have go : ∀ (rest : List D) (i : Nat) env S, items.drop i = rest → i ≤ items.length → I i env S → pFor src g body k rest env S := by
    intro rest
    induction rest with
    | nil =>
      intro i env S e hi h
      rw [pFor.nil]
      have : i = items.length := by
        have := congrArg List.length e
        rw [List.length_drop] at this
        simp at this
        omega
      subst this
      exact ⟨hok _ _ _ (Nat.le_refl _) h, hd _ _ h⟩
    | cons d ds ih =>
      intro i env S e hi h
      rw [pFor.cons]
      have hlt : i < items.length := by
        have := congrArg List.length e
        rw [List.length_drop] at this
        simp at this
        omega
      have hget : items[i]? = some d := by
        have := congrArg (fun l => l[0]?) e
        simpa using this
      exact ⟨hok _ _ _ hi h, hs i d env S _ hget h fun env' S' h' => ih (i + 1) env' S' (by rw [← List.drop_drop, e]; rfl) hlt h'⟩
  exact go _ 0 env S rfl (Nat.zero_le _) h0
theorem sto_last {S : Sto} {o : Ob} : (S ++ [o])[S.length]? = some o := by simp
theorem sto_app {S T : Sto} {n : Nat} {o : Ob} (h : S[n]? = some o) : (S ++ T)[n]? = some o := by
  rw [List.getElem?_append_left (List.getElem?_eq_some_iff.mp h).1]; exact h
theorem lsD_at {S : Sto} {n : Nat} {ds : List D} (h : S[n]? = some (.lst ds)) : lsD S (.r n) = some ds := by
  show (match S[n]? with | some (.lst ds) => some ds | _ => none) = some ds
  rw [h]
theorem lsR_at {S : Sto} {n : Nat} {ds : List D} (h : S[n]? = some (.lst ds)) : lsR S n = some ds := by unfold lsR; rw [h]
theorem lenD_at {S : Sto} {n : Nat} {ds : List D} (h : S[n]? = some (.lst ds)) : lenD S (.r n) = some ds.length := by
  show (match S[n]? with | some (.lst ds) => some ds.length | some (.dic kvs) => some kvs.length | _ => none) = some ds.length
  rw [h]
theorem allZ_map {α : Type} (f : α → PyData) : ∀ xs : List α, allZ (xs.map fun x => .z (f x)) = some (xs.map f)
  | [] => rfl
  | x :: xs => by simp [allZ, allZ_map f xs]
theorem mkT_map {α : Type} (f : α → PyData) (xs : List α) : mkT (xs.map fun x => .z (f x)) = .z (.tuple (xs.map f)) := by unfold mkT; rw [allZ_map]
theorem Vzs.map {S : Sto} {α : Type} (f : α → PyData) : ∀ xs : List α, Vzs S (xs.map fun x => .z (f x)) (xs.map f)
  | [] => .nil
  | x :: xs => .cons .z (Vzs.map f xs)
theorem Vws.map {S : Sto} {α : Type} (f : α → PyData) : ∀ xs : List α, Vws S (xs.map fun x => .z (f x)) (xs.map f)
  | [] => .nil
  | x :: xs => .cons .z (Vws.map f xs)
theorem range_snoc {α : Type} (f : Nat → α) (n : Nat) : (List.range (n + 1)).map f = (List.range n).map f ++ [f n] := by rw [List.range_succ, List.map_append]; rfl
end PL

set_option Elab.async false
set_option linter.all false
set_option maxRecDepth 100000
namespace PL
open PySem L2

def Shp (n : Nat) (d : PyData) : Prop := d.canLay0 = true ∧ d.depth ≤ n
theorem Shp.ok {n : Nat} {d : PyData} (h : Shp n d) (hn : n ≤ 64 := by decide) : SeqAt.shaped d = true := by
  unfold SeqAt.shaped
  rw [h.1, decide_eq_true (Nat.le_trans h.2 hn)]; rfl
theorem Shp.refl {n : Nat} {d : PyData} (h : Shp n d) : PyData.eqv d d = true := SeqAt.eqv_refl d h.1
theorem Shp.mono {n m : Nat} {d : PyData} (h : Shp n d) (hm : n ≤ m) : Shp m d := ⟨h.1, Nat.le_trans h.2 hm⟩
theorem Shp.int {n : Nat} {i : Int} : Shp n (.int i) := ⟨by simp [PyData.canLay0], by simp [PyData.depth]⟩
theorem Shp.bool {n : Nat} {i : Bool} : Shp n (.bool i) := ⟨by simp [PyData.canLay0], by simp [PyData.depth]⟩
theorem Shp.none {n : Nat} : Shp n .none := ⟨by simp [PyData.canLay0], by simp [PyData.depth]⟩
theorem Shp.str {n : Nat} {x : Str} (h : PyData.strOk x = true) : Shp n (.str x) := ⟨by simpa [PyData.canLay0] using h, by simp [PyData.depth]⟩
theorem shpAll {n : Nat} : ∀ {ds : List PyData}, (∀ d ∈ ds, Shp n d) → PyData.canLayAll0 ds = true ∧ PyData.depthAll ds ≤ n
  | [], _ => ⟨by simp [PyData.canLayAll0], by simp [PyData.depthAll]⟩
  | d :: ds, h => by
    obtain ⟨h1, h2⟩ := shpAll fun e he => h e (List.mem_cons_of_mem _ he)
    have h3 := h d List.mem_cons_self
    refine ⟨by simp [PyData.canLayAll0, h1, h3.1], ?_⟩
    simp only [PyData.depthAll]
    exact Nat.max_le.mpr ⟨h3.2, h2⟩
theorem Shp.list {n : Nat} {ds : List PyData} (h : ∀ d ∈ ds, Shp n d) : Shp (n + 1) (.list ds) := by
  obtain ⟨h1, h2⟩ := shpAll h
  refine ⟨by simpa [PyData.canLay0] using h1, ?_⟩
  simp only [PyData.depth]; omega
theorem Shp.tuple {n : Nat} {ds : List PyData} (h : ∀ d ∈ ds, Shp n d) : Shp (n + 1) (.tuple ds) := by
  obtain ⟨h1, h2⟩ := shpAll h
  refine ⟨by simpa [PyData.canLay0] using h1, ?_⟩
  simp only [PyData.depth]; omega
theorem Shp.lists {α : Type} {n : Nat} {f : α → PyData} {xs : List α} (h : ∀ x ∈ xs, Shp n (f x)) : Shp (n + 1) (.list (xs.map f)) := .list fun d hd => by
  obtain ⟨x, hx, rfl⟩ := List.mem_map.mp hd
  exact h x hx
theorem Shp.tup2 {n : Nat} {a b : PyData} (h1 : Shp n a) (h2 : Shp n b) : Shp (n + 1) (.tuple [a, b]) := .tuple fun d hd => by
  simp only [List.mem_cons, List.not_mem_nil, or_false] at hd
  rcases hd with rfl | rfl <;> assumption
theorem Shp.tup3 {n : Nat} {a b c : PyData} (h1 : Shp n a) (h2 : Shp n b) (h3 : Shp n c) : Shp (n + 1) (.tuple [a, b, c]) := .tuple fun d hd => by
  simp only [List.mem_cons, List.not_mem_nil, or_false] at hd
  rcases hd with rfl | rfl | rfl <;> assumption
theorem Shp.tup4 {n : Nat} {a b c e : PyData} (h1 : Shp n a) (h2 : Shp n b) (h3 : Shp n c) (h4 : Shp n e) : Shp (n + 1) (.tuple [a, b, c, e]) := .tuple fun d hd => by
  simp only [List.mem_cons, List.not_mem_nil, or_false] at hd
  rcases hd with rfl | rfl | rfl | rfl <;> assumption
theorem eq_same {n : Nat} {S : Sto} {x y : D} {d : PyData} {k : Bool → Prop} (h1 : Vw S x d) (h2 : Vw S y d) (hs : Shp n d) (hn : n ≤ 64) (hk : k true) : bEqG x y S k := by
  exact ⟨⟨d, d, h1, h2, hs.ok hn, hs.ok hn, by rw [hs.refl]; exact hk⟩⟩
end PL

set_option Elab.async false
set_option linter.all false
set_option maxRecDepth 100000
namespace PL
open PySem L2

inductive RT where
  | z (d : PyData)
  | l (rs : List RT)
  | t (rs : List RT)
mutual
def al : RT → Nat → D × Sto
  | .z d, _ => (.z d, [])
  | .l rs, n => (.r (n + (als rs n).2.length), (als rs n).2 ++ [.lst (als rs n).1])
  | .t rs, n => (.t (als rs n).1, (als rs n).2)
def als : List RT → Nat → List D × Sto
  | [], _ => ([], [])
  | r :: rs, n => ((al r n).1 :: (als rs (n + (al r n).2.length)).1, (al r n).2 ++ (als rs (n + (al r n).2.length)).2)
end
mutual
inductive Vu (S : Sto) (U : List Nat) : D → PyData → Prop
  | z {d : PyData} : Vu S U (.z d) d
  | r {n : Nat} {ds : List D} {es : List PyData} : n ∉ U → S[n]? = some (.lst ds) → Vus S U ds es → Vu S U (.r n) (.list es)
  | t {ds : List D} {es : List PyData} : Vus S U ds es → Vu S U (.t ds) (.tuple es)
inductive Vus (S : Sto) (U : List Nat) : List D → List PyData → Prop
  | nil : Vus S U [] []
  | cons {d : D} {ds : List D} {e : PyData} {es : List PyData} : Vu S U d e → Vus S U ds es → Vus S U (d :: ds) (e :: es)
end
mutual
inductive VR (S : Sto) (U : List Nat) : D → RT → List Nat → Prop
  | z {d : D} {e : PyData} : Vu S U d e → VR S U d (.z e) []
  | l {n : Nat} {ds : List D} {rs : List RT} {ns : List Nat} : S[n]? = some (.lst ds) → VRs S U ds rs ns → VR S U (.r n) (.l rs) (ns ++ [n])
  | t {ds : List D} {rs : List RT} {ns : List Nat} : VRs S U ds rs ns → VR S U (.t ds) (.t rs) ns
inductive VRs (S : Sto) (U : List Nat) : List D → List RT → List Nat → Prop
  | nil : VRs S U [] [] []
  | cons {d : D} {ds : List D} {r : RT} {rs : List RT} {ns ms : List Nat} : VR S U d r ns → VRs S U ds rs ms → VRs S U (d :: ds) (r :: rs) (ns ++ ms)
end
theorem VRs.zs {S : Sto} {U : List Nat} {α : Type} (f : α → PyData) : ∀ xs : List α, VRs S U (xs.map fun x => .z (f x)) (xs.map fun x => .z (f x)) []
  | [] => .nil
  | x :: xs => .cons (ns := []) (.z .z) (VRs.zs f xs)
open Classical in
noncomputable def fu (μ : Nat → Addr) (n : Nat) (U : List Nat) (F H : Hp) : Hp := fun a => match F a with
  | some o => some o
  | none => if ∃ i, i < n ∧ i ∉ U ∧ μ i = a then H a else none
section
variable {B F0 F F' H H' : Hp} {μ μ' μ2 : Nat → Addr} {S S' : Sto} {U : List Nat}
theorem fu_sub : Sub F (fu μ S.length U F H) := fun a o h => by unfold fu; rw [h]
theorem fu_at {i : Nat} (hi : i < S.length) (hu : i ∉ U) (hF : F (μ i) = none) : fu μ S.length U F H (μ i) = H (μ i) := by
  unfold fu; rw [hF]; exact if_pos ⟨i, hi, hu, rfl⟩
theorem fu_cases {a : Addr} {o : HO} (h : fu μ S.length U F H a = some o) : F a = some o ∨ (F a = none ∧ (∃ i, i < S.length ∧ i ∉ U ∧ μ i = a) ∧ H a = some o) := by
  unfold fu at h
  split at h
  · rename_i e; cases h; exact .inl e
  · rename_i e
    by_cases c : ∃ i, i < S.length ∧ i ∉ U ∧ μ i = a
    · exact .inr ⟨e, c, (if_pos c).symm.trans h⟩
    · rw [if_neg c] at h; cases h
mutual
theorem Vu.rp (R : Rl B F0 μ S F H) : ∀ (e : PyData) (d : D) (v : V), Vu S U d e → RpD B F μ S.length d v → RpT (LF (fu μ S.length U F H)) (TF (fu μ S.length U F H)) e v
  | .none, _, _, w, h => by cases w with | z => cases h with | z a => cases a; exact .non
  | .bool _, _, _, w, h => by cases w with | z => cases h with | z a => cases a; exact .bl _
  | .int _, _, _, w, h => by cases w with | z => cases h with | z a => cases a; exact .int _
  | .str _, _, _, w, h => by cases w with | z => cases h with | z a => cases a; exact .str _
  | .dict _, _, _, w, h => by cases w with | z => cases h with | z a => cases a
  | .list es, _, _, w, h => by
    cases w with
    | z => cases h with | z a => exact RpT.mono (fun _ _ q => fu_sub _ _ q) (fun _ _ q => fu_sub _ _ q) _ _ a
    | r nu e ws =>
      cases h with
      | r hi =>
        obtain ⟨vs, hv, rv⟩ := R.ob _ _ e
        exact .lst (show fu μ S.length U F H _ = _ by rw [fu_at hi nu (R.nf _ hi)]; exact hv) (Vus.rp R es _ vs ws rv)
  | .tuple es, _, _, w, h => by
    cases w with
    | z => cases h with | z a => exact RpT.mono (fun _ _ q => fu_sub _ _ q) (fun _ _ q => fu_sub _ _ q) _ _ a
    | t ws => cases h with | t e rv => exact .tup (fu_sub _ _ e) (Vus.rp R es _ _ ws rv)
theorem Vus.rp (R : Rl B F0 μ S F H) : ∀ (es : List PyData) (ds : List D) (vs : List V), Vus S U ds es → RpDs B F μ S.length ds vs → RpTs (LF (fu μ S.length U F H)) (TF (fu μ S.length U F H)) es vs
  | [], _, _, w, h => by cases w; cases h; exact .nil
  | e :: es, _, _, w, h => by
    cases w with | cons a b => cases h with | cons r s => exact .cons (Vu.rp R e _ _ a r) (Vus.rp R es _ _ b s)
end
end
section
variable {B F0 F H H' A : Hp} {μ μ2 : Nat → Addr} {S : Sto} {U : List Nat} {N : Nat}
def Got (B : Hp) (F2 : Hp) (μ μ2 : Nat → Addr) (N : Nat) (H : Hp) (ns : List Nat) (T : Sto) : Prop := T.length = ns.length ∧ ∀ (j n : Nat) (o : Ob), ns[j]? = some n → T[j]? = some o → ObRp B F2 μ2 N H (μ n) o
theorem Got.app {F2 : Hp} {ns ms : List Nat} {T T2 : Sto} (h1 : Got A F2 μ μ2 N H ns T) (h2 : Got A F2 μ μ2 N H ms T2) : Got A F2 μ μ2 N H (ns ++ ms) (T ++ T2) := by
  refine ⟨by simp [h1.1, h2.1], fun j n o hn ho => ?_⟩
  by_cases hj : j < ns.length
  · rw [List.getElem?_append_left hj] at hn
    rw [List.getElem?_append_left (by rw [h1.1]; exact hj)] at ho
    exact h1.2 j n o hn ho
  · rw [List.getElem?_append_right (by omega)] at hn
    rw [List.getElem?_append_right (by rw [h1.1]; omega), h1.1] at ho
    exact h2.2 _ n o hn ho
mutual
theorem VR.rp (R : Rl B F0 μ S F H) : ∀ (rt : RT) (d : D) (v : V) (ns : List Nat) (m : Nat), VR S U d rt ns → RpD B F μ S.length d v → (∀ j n, ns[j]? = some n → μ2 (m + j) = μ n) → m + ns.length ≤ N →
    RpD A (fu μ S.length U F H) μ2 N (al rt m).1 v ∧ Got A (fu μ S.length U F H) μ μ2 N H ns (al rt m).2
  | .z e, d, v, ns, m, w, h, hm, hN => by
    cases w with
    | z w => exact ⟨by unfold al; exact .z (Vu.rp R e d v w h), by unfold al; exact ⟨rfl, fun j n o a b => by simp at a⟩⟩
  | .t rs, d, v, ns, m, w, h, hm, hN => by
    cases w with
    | t w =>
      cases h with
      | t e rv =>
        obtain ⟨r1, g1⟩ := VRs.rp R rs _ _ ns m w rv hm hN
        unfold al
        exact ⟨.t (fu_sub _ _ e) r1, g1⟩
  | .l rs, d, v, ns, m, w, h, hm, hN => by
    cases w with
    | @l n ds _ ns e w =>
      cases h with
      | r hi =>
        obtain ⟨vs, hv, rv⟩ := R.ob _ _ e
        rw [List.length_append, List.length_singleton] at hN
        obtain ⟨r1, g1⟩ := VRs.rp R rs ds vs ns m w rv (fun j k hk => hm j k (by rw [List.getElem?_append_left (List.getElem?_eq_some_iff.mp hk).1]; exact hk)) (by omega)
        have e1 : μ2 (m + ns.length) = μ n := hm _ _ (by simp)
        unfold al
        refine ⟨?_, g1.app ⟨rfl, fun j k o a b => ?_⟩⟩
        · rw [g1.1, ← e1]; exact .r (by omega)
        · have hj : j = 0 := by
            have := (List.getElem?_eq_some_iff.mp a).1
            simp at this; exact this
          subst hj
          cases a; cases b
          exact ⟨vs, hv, r1⟩
theorem VRs.rp (R : Rl B F0 μ S F H) : ∀ (rs : List RT) (ds : List D) (vs : List V) (ns : List Nat) (m : Nat), VRs S U ds rs ns → RpDs B F μ S.length ds vs → (∀ j n, ns[j]? = some n → μ2 (m + j) = μ n) → m + ns.length ≤ N →
    RpDs A (fu μ S.length U F H) μ2 N (als rs m).1 vs ∧ Got A (fu μ S.length U F H) μ μ2 N H ns (als rs m).2
  | [], _, _, ns, m, w, h, hm, hN => by
    cases w; cases h
    unfold als
    exact ⟨.nil, rfl, fun j n o a b => by simp at a⟩
  | r :: rs, _, _, ns, m, w, h, hm, hN => by
    cases w with
    | @cons d ds _ _ ns ms w1 w2 =>
      cases h with
      | cons h1 h2 =>
        rw [List.length_append] at hN
        obtain ⟨r1, g1⟩ := VR.rp R r d _ ns m w1 h1 (fun j k hk => hm j k (by rw [List.getElem?_append_left (List.getElem?_eq_some_iff.mp hk).1]; exact hk)) (by omega)
        obtain ⟨r2, g2⟩ := VRs.rp R rs ds _ ms (m + (al r m).2.length) w2 h2 (fun j k hk => by
          rw [g1.1, Nat.add_assoc]
          refine hm _ k ?_
          rw [List.getElem?_append_right (by omega), Nat.add_sub_cancel_left]
          exact hk) (by rw [g1.1]; omega)
        unfold als
        exact ⟨.cons r1 r2, g1.app g2⟩
end
end
section
variable {B F0 F F' H H' : Hp} {μ μ' : Nat → Addr} {S S' : Sto} {U : List Nat}
def muU (μ μ' : Nat → Addr) (n : Nat) (U : List Nat) : Nat → Addr := fun i => if i < n then μ i else μ' (U.getD (i - n) 0)
theorem Rl.backU (R : Rl B F0 μ S F H) (R' : Rl H F μ' S' F' H') (x : Sub F F') {T : Sto} (hU : ∀ n ∈ U, n < S'.length) (nd : U.Nodup) (g : Got B (fu μ' S'.length U F' H') μ' (muU μ μ' S.length U) (S.length + U.length) H' U T) :
    Rl B F0 (muU μ μ' S.length U) (S ++ T) (fu μ' S'.length U F' H') H' ∧ Xt μ S F (muU μ μ' S.length U) (S ++ T) (fu μ' S'.length U F' H') := by
  have s1 : Sub F (fu μ' S'.length U F' H') := x.trans fu_sub
  have m1 : ∀ i, i < S.length → muU μ μ' S.length U i = μ i := fun i hi => if_pos hi
  have hl : (S ++ T).length = S.length + U.length := by rw [List.length_append, g.1]
  have m2 : ∀ i, i < S.length + U.length → i < S.length ∨ ∃ j n, i = S.length + j ∧ U[j]? = some n ∧ n ∈ U ∧ muU μ μ' S.length U i = μ' n := by
    intro i hi
    by_cases h : i < S.length
    · exact .inl h
    · have hj : i - S.length < U.length := by omega
      refine .inr ⟨i - S.length, U[i - S.length], by omega, List.getElem?_eq_getElem hj, List.getElem_mem hj, ?_⟩
      unfold muU
      rw [if_neg h, List.getD_eq_getElem?_getD, List.getElem?_eq_getElem hj]
      rfl
  have ne : ∀ i n, i < S.length → n ∈ U → μ i ≠ μ' n := fun i n hi hn e => by
    obtain ⟨u, hu⟩ := R.has hi
    have := R'.nb n (hU n hn)
    rw [← e, hu] at this; cases this
  refine ⟨⟨R.bh.trans R'.bh, fun a o h => ?_, R.f0.trans s1, fun a o h => ?_, fun i j hi hj e => ?_, fun i hi => ?_, fun i hi => ?_, fun i o h => ?_⟩, ⟨s1, by rw [hl]; omega, m1⟩⟩
  · rcases fu_cases h with h | ⟨_, _, h⟩
    · exact R'.fh a o h
    · exact h
  · rcases fu_cases h with h | ⟨_, ⟨i, hi, _, rfl⟩, _⟩
    · rcases R'.fn a o h with q | q
      · exact R.fn a o q
      · exact .inr (R.bh.non q)
    · exact .inr (R.bh.non (R'.nb i hi))
  · rw [hl] at hi hj
    rcases m2 i hi with hi | ⟨a, n, rfl, ha, hn, e1⟩
    · rcases m2 j hj with hj | ⟨b, m, rfl, hb, hm, e2⟩
      · rw [m1 i hi, m1 j hj] at e; exact R.inj i j hi hj e
      · rw [m1 i hi, e2] at e; exact absurd e (ne i m hi hm)
    · rcases m2 j hj with hj | ⟨b, m, rfl, hb, hm, e2⟩
      · rw [e1, m1 j hj] at e; exact absurd e.symm (ne j n hj hn)
      · rw [e1, e2] at e
        have := R'.inj n m (hU n hn) (hU m hm) e
        subst this
        have h1 := (List.getElem?_eq_some_iff.mp ha).1
        have := (List.getElem?_inj h1 nd).mp (ha.trans hb.symm)
        rw [this]
  · rw [hl] at hi
    rcases m2 i hi with hi | ⟨a, n, rfl, ha, hn, e1⟩
    · rw [m1 i hi]; exact R.nb i hi
    · rw [e1]; exact R.bh.non (R'.nb n (hU n hn))
  · rw [hl] at hi
    rcases m2 i hi with hi | ⟨a, n, rfl, ha, hn, e1⟩
    · rw [m1 i hi]
      obtain ⟨u, hu⟩ := R.has hi
      cases q : fu μ' S'.length U F' H' (μ i) with
      | none => rfl
      | some o =>
        rcases fu_cases q with h | ⟨_, ⟨j, hj, _, e⟩, _⟩
        · rcases R'.fn _ o h with q | q
          · rw [R.nf i hi] at q; cases q
          · rw [hu] at q; cases q
        · have := R'.nb j hj
          rw [e, hu] at this; cases this
    · rw [e1]
      cases q : fu μ' S'.length U F' H' (μ' n) with
      | none => rfl
      | some o =>
        rcases fu_cases q with h | ⟨_, ⟨j, hj, hjU, e⟩, _⟩
        · rw [R'.nf n (hU n hn)] at h; cases h
        · have := R'.inj j n hj (hU n hn) e
          subst this
          exact absurd hn hjU
  · have hi := Rl.lt h
    rw [hl] at hi ⊢
    rcases m2 i hi with hi | ⟨a, n, rfl, ha, hn, e1⟩
    · rw [List.getElem?_append_left hi] at h
      rw [m1 i hi]
      obtain ⟨u, hu⟩ := R.has hi
      exact (R.ob i o h).mono s1 (Nat.le_add_right _ _) m1 ((R'.bh _ _ hu).trans hu.symm)
    · rw [List.getElem?_append_right (by omega), Nat.add_sub_cancel_left] at h
      rw [e1]
      exact g.2 a n o ha h
end
mutual
theorem VR.lt {S : Sto} {U : List Nat} : ∀ (rt : RT) (d : D) (ns : List Nat), VR S U d rt ns → ∀ n ∈ ns, n < S.length
  | .z _, _, _, w, n, hn => by cases w; simp at hn
  | .t rs, _, _, w, n, hn => by cases w with | t w => exact VRs.lt rs _ _ w n hn
  | .l rs, _, _, w, n, hn => by
    cases w with
    | l e w =>
      simp only [List.mem_append, List.mem_singleton] at hn
      rcases hn with hn | rfl
      · exact VRs.lt rs _ _ w n hn
      · exact (List.getElem?_eq_some_iff.mp e).1
theorem VRs.lt {S : Sto} {U : List Nat} : ∀ (rs : List RT) (ds : List D) (ns : List Nat), VRs S U ds rs ns → ∀ n ∈ ns, n < S.length
  | [], _, _, w, n, hn => by cases w; simp at hn
  | r :: rs, _, _, w, n, hn => by
    cases w with
    | cons w1 w2 =>
      rcases List.mem_append.mp hn with hn | hn
      · exact VR.lt r _ _ w1 n hn
      · exact VRs.lt rs _ _ w2 n hn
end
abbrev Fsr := List PyData → (RT → Prop) → (Ex → Prop) → Prop
def frr (p : Fsr) : Spc := fun ds S K KX => ∃ es, Vws S ds es ∧ p es (fun rt => K (al rt S.length).1 (S ++ (al rt S.length).2)) fun x => KX x S
def lentR (p : Fsr) : Spc := fun ds S K KX => ∃ es kd kx, ds = es.map bz ∧ S = [] ∧ p es kd kx ∧ (∀ d S' rt U, VR S' U d rt U → U.Nodup → kd rt → K d S') ∧ ∀ x S' x', ExV S' x x' → kx x' → KX x S'
theorem FnOk.frr {P : Program} {w : World} {K : PySem.W.Frag} {mg : Str → Option Value} {base : Heap} {CX : CXT} {k : Nat} {f : Addr} {fd : FuncData} {ps : List Str} {p : Fsr} (h : FnOk P w K mg base CX k f fd ps (spOf (lentR p))) : FnOk P w K mg base CX k f fd ps (spOf (PL.frr p)) := by
  refine h.imp fun vs H Q E q => ?_
  obtain ⟨B, F0, w, ds, K, KX, R, r, ⟨es, vw, q⟩, k, kx⟩ := q
  have R0 : Rl H w.F w.μ [] w.F H := ⟨Sub.refl _, R.fh, Sub.refl _, fun a o e => .inl e, fun i j hi => absurd hi (Nat.not_lt_zero _), fun i hi => absurd hi (Nat.not_lt_zero _), fun i hi => absurd hi (Nat.not_lt_zero _), fun i o e => by simp at e⟩
  refine ⟨H, w.F, ⟨w.μ, [], w.F⟩, es.map bz, fun d S' => ∃ rt U, VR S' U d rt U ∧ U.Nodup ∧ K (al rt w.S.length).1 (w.S ++ (al rt w.S.length).2), fun x S' => ∃ x', ExV S' x x' ∧ KX x' w.S, R0, RpDs.bzs (Vws.rp R _ _ _ vw r), ⟨es, _, _, rfl, rfl, q, fun d S' rt U a nd b => ⟨rt, U, a, nd, b⟩, fun x S' x' a b => ⟨x', a, b⟩⟩, ?_, ?_⟩
  · rintro d S' v H' μ' F' R' X' r' ⟨rt, U, hv, nd, hk⟩
    have hm : ∀ j n, U[j]? = some n → muU w.μ μ' w.S.length U (w.S.length + j) = μ' n := fun j n h => by
      unfold muU
      rw [if_neg (by omega), Nat.add_sub_cancel_left, List.getD_eq_getElem?_getD, h]; rfl
    obtain ⟨r2, g2⟩ := VR.rp (A := B) (N := w.S.length + U.length) R' rt d v U w.S.length hv r' hm (Nat.le_refl _)
    obtain ⟨R2, X2⟩ := R.backU R' X'.f (VR.lt rt d U hv) nd g2
    refine k _ _ _ _ _ _ R2 X2 ?_ hk
    rw [List.length_append, g2.1]
    exact r2
  · rintro x S' H' μ' F' cls dd R' X' r' ⟨x', ⟨hc, hf⟩, hk⟩
    obtain ⟨R2, X2⟩ := R.back R' X'.f
    refine kx x' _ _ _ _ cls dd R2 X2 ⟨by rw [hc]; exact r'.1, ?_⟩ hk
    obtain ⟨_, r2⟩ := r'
    cases h1 : x.fs with
    | none =>
      cases h2 : x'.fs with
      | none => rw [h1] at r2; exact r2
      | some gs => rw [h1, h2] at hf; exact hf.elim
    | some fs =>
      cases h2 : x'.fs with
      | none => rw [h1, h2] at hf; exact hf.elim
      | some gs =>
        rw [h1] at r2
        rw [h1, h2] at hf
        obtain ⟨a, ws, e1, e2, e3⟩ := r2
        refine ⟨a, ws, e1, fz_sub _ _ e2, ?_⟩
        clear e2 h1 h2
        induction hf generalizing ws with
        | nil => cases e3; exact .nil
        | cons q t ih =>
          cases e3 with
          | cons r1 r2 =>
            obtain ⟨n1, e, ve, q2⟩ := q
            refine .cons ⟨n1.symm.trans r1.1, ?_⟩ (ih _ r2)
            rw [q2]
            exact .z (Vz.rp R' e _ _ ve r1.2)
theorem Fc.frr {P : Program} {w : World} {K : PySem.W.Frag} {mg : Str → Option Value} {base : Heap} {x : Str} {k : Nat} {ps : List Str} {p : Fsr} (c : Fc P w K mg base x k ps (lentR p)) : Fc P w K mg base x k ps (PL.frr p) := by
  obtain ⟨f, fd, h, r⟩ := c.ex
  exact ⟨f, fd, FnOk.frr h, r⟩
def fsr {α : Type} (enc : α → List PyData) (pre : α → Prop) (out : α → RT) : Fsr := fun es k _ => ∃ a, es = enc a ∧ pre a ∧ k (out a)
theorem fsr_len {α : Type} {enc : α → List PyData} {pre : α → Prop} {out : α → RT} {n : Nat} (h : ∀ a, (enc a).length = n) : ∀ ds S K KX, lentR (fsr enc pre out) ds S K KX → ds.length = n := by
  rintro ds S K KX ⟨es, kd, kx, rfl, rfl, ⟨a, rfl, _, _⟩, _⟩
  rw [List.length_map]; exact h a
theorem fsr_ok {α : Type} {enc : α → List PyData} {pre : α → Prop} {out : α → RT} {ws : WS} {N : List Str} (h : ∀ a, pre a → ∀ K KX, (∀ d S' U, VR S' U d (out a) U → U.Nodup → K d S') → ws (ends K KX) (startE N ((enc a).map bz)) []) :
    ∀ ds S K KX, lentR (fsr enc pre out) ds S K KX → ws { nx := fun _ S1 => K (.z .none) S1, rt := K, ex := fun y _ S1 => KX y S1 } (startE N ds) S := by
  rintro ds S K KX ⟨es, kd, kx, rfl, rfl, ⟨a, rfl, hp, hk⟩, hK, _⟩
  exact h a hp K KX fun d S' U v nd => hK d S' _ U v nd hk
theorem fsr_call {α : Type} {enc : α → List PyData} {pre : α → Prop} {out : α → RT} {ds : List D} {S : Sto} {K : K1} {KX : KF} (a : α) (v : Vws S ds (enc a)) (hp : pre a) (h : K (al (out a) S.length).1 (S ++ (al (out a) S.length).2)) : pCall (frr (fsr enc pre out)) ds S K KX := pCall.mk ⟨_, v, a, rfl, hp, h⟩
def lz {α : Type} (f : α → PyData) (xs : List α) : RT := .l (xs.map fun x => .z (f x))
theorem als_lz {α : Type} (f : α → PyData) (n : Nat) : ∀ xs : List α, als (xs.map fun x => RT.z (f x)) n = (xs.map fun x => .z (f x), [])
  | [] => by simp [als]
  | e :: es => by simp [als, al, als_lz f n es]
theorem al_lz {α : Type} (f : α → PyData) (xs : List α) (n : Nat) : al (lz f xs) n = (.r n, [.lst (xs.map fun x => .z (f x))]) := by
  unfold lz al
  rw [als_lz]
  rfl
theorem VR.lz {S : Sto} {n : Nat} {α : Type} {f : α → PyData} {xs : List α} (h : S[n]? = some (.lst (xs.map fun x => .z (f x)))) : VR S [n] (.r n) (PL.lz f xs) [n] := .l (ns := []) h (VRs.zs f xs)
mutual
theorem Vw.sub {S S' : Sto} (h : ∀ (n : Nat) (o : Ob), S[n]? = some o → S'[n]? = some o) : ∀ (e : PyData) (d : D), Vw S d e → Vw S' d e
  | .none, _, w => by cases w <;> constructor
  | .bool _, _, w => by cases w <;> constructor
  | .int _, _, w => by cases w <;> constructor
  | .str _, _, w => by cases w <;> constructor
  | .dict _, _, w => by cases w <;> constructor
  | .list es, _, w => by
    cases w with
    | z => exact .z
    | b => exact .b
    | r e ws => exact .r (h _ _ e) (Vws.sub h es _ ws)
  | .tuple es, _, w => by
    cases w with
    | z => exact .z
    | b => exact .b
    | t ws => exact .t (Vws.sub h es _ ws)
theorem Vws.sub {S S' : Sto} (h : ∀ (n : Nat) (o : Ob), S[n]? = some o → S'[n]? = some o) : ∀ (es : List PyData) (ds : List D), Vws S ds es → Vws S' ds es
  | [], _, w => by cases w; exact .nil
  | e :: es, _, w => by cases w with | cons a b => exact .cons (Vw.sub h e _ a) (Vws.sub h es _ b)
end
theorem Vw.app {S T : Sto} {d : D} {e : PyData} (h : Vw S d e) : Vw (S ++ T) d e := Vw.sub (fun _ _ => sto_app) e d h
theorem Vws.app {S T : Sto} {d : List D} {e : List PyData} (h : Vws S d e) : Vws (S ++ T) d e := Vws.sub (fun _ _ => sto_app) e d h
theorem pLc_each {src : Src} {tg : D → Env → Option Env} {wt : WT} {we : WE} {L : Nat} {env : Env} {fin : Sto → Prop} {items : List D} {S : Sto} (I : Nat → Sto → Prop) (h0 : I 0 S) (hok : ∀ i S, i ≤ items.length → I i S → src.ok S)
    (hs : ∀ i d S (Q : Sto → Prop), items[i]? = some d → I i S → (∀ S', I (i + 1) S' → Q S') → pGet (tg d env) fun env2 => wt env2 S (fun c S1 => pIf c (we env2 S1 (fun x S2 => pGet (lsR S2 L) fun xs => pReq (xs.length < sizeLine) (Q (S2.set L (.lst (xs ++ [x]))))) X0) (Q S1)) X0)
    (hd : ∀ S, I items.length S → fin S) : pLc src tg wt we L env fin items S := by
  have go : ∀ (rest : List D) (i : Nat) S, items.drop i = rest → i ≤ items.length → I i S → pLc src tg wt we L env fin rest S := by
    intro rest
    induction rest with
    | nil =>
      intro i S e hi h
      rw [pLc.nil]
      have : i = items.length := by
        have := congrArg List.length e
        rw [List.length_drop] at this
        simp at this
        omega
      subst this
      exact ⟨hok _ _ (Nat.le_refl _) h, hd _ h⟩
    | cons d ds ih =>
      intro i S e hi h
      rw [pLc.cons]
      have hlt : i < items.length := by
        have := congrArg List.length e
        rw [List.length_drop] at this
        simp at this
        omega
      have hget : items[i]? = some d := by
        have := congrArg (fun l => l[0]?) e
        simpa using this
      exact ⟨hok _ _ hi h, hs i d S _ hget h fun S' h' => ih (i + 1) S' (by rw [← List.drop_drop, e]; rfl) hlt h'⟩
  exact go _ 0 S rfl (Nat.zero_le _) h0
end PL

set_option Elab.async false
set_option linter.all false
set_option maxRecDepth 100000
namespace PL
open PySem PySem.Spec PyProof.Rows L2

theorem fun_of {K : PySem.W.Frag} {x q : Str} {st : Stmt} {f : Addr} {fd : FuncData} (F : FunD K x q (defArgs st) (defBody st) (defScope st) [] [] f fd) : Fun K x q st f fd := by
  obtain ⟨oc, od, dV, kV, doc, pm, an, cdv, ct, osl, h1, h2, h3, h4, h5⟩ := F.ex
  have e : dV = .none := h4.elim (fun z => z.2) fun z => absurd rfl z.1
  subst e
  exact ⟨⟨oc, od, kV, doc, pm, an, cdv, ct, osl, h1, h2, h3⟩, F.kp⟩
abbrev dd (x : Str) (st : Stmt) : He.DefD := ⟨(x, none), x, x, defArgs st, defBody st, defScope st, [], []⟩
def obsP (fa : List He.Fa) (fn : List He.DefD) (K : PySem.W.Frag) : Bool × He.AlD := (noLs K, He.obsD fa fn K)
def SaysP (fa : List He.Fa) (fn : List He.DefD) (K : PySem.W.Frag) : Prop := obsP fa fn K = (true, He.valD fn)
theorem SaysP.ls {fa : List He.Fa} {fn : List He.DefD} {K : PySem.W.Frag} (h : SaysP fa fn K) : noLs K = true := congrArg (fun z : Bool × He.AlD => z.1) h
theorem SaysP.sd {fa : List He.Fa} {fn : List He.DefD} {K : PySem.W.Frag} (h : SaysP fa fn K) : He.SaysD fa fn K := congrArg (fun z : Bool × He.AlD => z.2) h
def obsPG (n : Nat) (fa : List He.Fa) (fn : List He.DefD) (g : Addr → Option Obj) : Bool × He.AlD := obsP fa fn (He.frG g (He.asD g n))
def hookP (n : Nat) (fa : List He.Fa) (fn : List He.DefD) : PySem.W.Hook where
  α := Bool × He.AlD
  obs := fun s => obsPG n fa fn s.heap.get?
  val := fun _ => (true, He.valD fn)
  says := fun _ h => ∃ K : PySem.W.Frag, K.In h ∧ SaysP fa fn K
  of := fun _ _ e => ⟨_, He.frG_in, e⟩
  keeps := fun _ _ _ ⟨K, hK, c⟩ k => ⟨K, PySem.W.Frag.In.keeps hK k, c⟩
theorem obsPG_eq {n : Nat} {fa : List He.Fa} {fn : List He.DefD} {g : Addr → Option Obj} {s : Shared} (h : ∀ a, g a = s.heap.get? a) : obsPG n fa fn g = (hookP n fa fn).obs s := by
  have e : g = s.heap.get? := funext h
  rw [e] <;> rfl
theorem fc_mk {P : Program} {w : World} {K : PySem.W.Frag} {mg : Str → Option Value} {base h : Heap} {x : Str} {k : Nat} {ps : List Str} {sp : Spc} {st : Stmt} {fd : FuncData} (X : K.In h) (G : h.Ns mainGlobals mg) (FD : FunD K x x (defArgs st) (defBody st) (defScope st) [] [] (He.fAd K (x, none)) fd)
    (ok : FnOk P w K mg base (L2N.CX P w) k (He.fAd K (x, none)) fd ps (spOf sp)) (g : (He.Fa.glo x).ok K = true)
    (hb : ∀ (kV doc pm : Value) (an : Option Addr) (cdv ct : Value) (us : List Value), us.length = ps.length → bindArgs (PySem.W.fnOf x x (defArgs st) (defBody st) (defScope st) .none kV doc pm an cdv ct) ⟨us, []⟩ = pure (ps.zip us)) : Fc P w K mg base x k ps sp :=
  ⟨_, fd, ok, He.glo_ok X G g, FD.kp, (fun_of FD).binds hb⟩
theorem pl_end {l : PySem.W.OpenLaw} {q : Program} {loose : List Str} {XP : (Str → Option Value) → Heap → Prop} {d : DefRec} {x : Str} {k n : Nat} {fa : List He.Fa} {fn : List He.DefD} {st : Stmt}
    (hn : l.most = some 63) (hd : d.name = ("law" : Str)) (hdf : d.params.defaults = []) (hr : Room k callerA)
    (hb : ∀ (kV doc pm : Value) (an : Option Addr) (cdv ct : Value) (us : List Value), us.length = [x].length → bindArgs (PySem.W.fnOf "law" "law" (defArgs st) (defBody st) (defScope st) .none kV doc pm an cdv ct) ⟨us, []⟩ = pure ([x].zip us))
    (F : ∀ (w : World) (K : PySem.W.Frag) (h : Heap) (mg : Str → Option Value), K.In h → h.Ns mainGlobals mg → SaysP fa fn K → ∃ fd, FunD K "law" "law" (defArgs st) (defBody st) (defScope st) [] [] (He.fAd K ("law", none)) fd ∧ mg ("law" : Str) = some (.ref (He.fAd K ("law", none))) ∧ ∀ base : Heap, FnOk l.prog w K mg base (L2N.CX l.prog w) k (He.fAd K ("law", none)) fd [x] (spOf lawSp)) :
    PySem.W.WalkO q loose XP (hookP n fa fn).says l.row.toRowW d [] (fun f vs => PySem.call f vs) := by
  refine Att.attach_call hn hdf fun w s₀ s₁ mg mb fa' o pm cd doc a vs ns G Y ho hd' hcd hmg hobj hints hlen hg => ?_
  obtain ⟨K, KX, c⟩ := Y
  obtain ⟨fd, FD, e, hF⟩ := F w K _ mg KX G.T.g c
  have hmg2 : mg ("law" : Str) = some (.ref fa') := by rw [← hd]; exact hmg
  rw [e] at hmg2
  cases hmg2
  exact law_call KX G.T.g G.T.b G.T.builtins G.T.nolimit hg hobj hints (Nat.le_trans hlen (by decide)) hr (fun base _ _ => law_imp c.ls (hF base)) (fun s u => FD.bindsA (ps := [x]) hb s [u] rfl) (fun H hO hS => ⟨a, ns, rfl, hS, hlen, fun _ => rfl⟩) fun H e s' ⟨_, _, _, _, _, _, _, _, _, _, _, _, z⟩ => z
end PL

set_option Elab.async false
set_option linter.all false
set_option maxRecDepth 100000
namespace PL
open PySem L2

def fsq {α β : Type} (enc : α → List PyData) (pre : α → Prop) (post : α → β → Prop) (out : β → PyData) : Fsp := fun es k _ => ∃ a, es = enc a ∧ pre a ∧ ∀ b, post a b → k (out b)
theorem fsq_len {α β : Type} {enc : α → List PyData} {pre : α → Prop} {post : α → β → Prop} {out : β → PyData} {n : Nat} (h : ∀ a, (enc a).length = n) : ∀ ds S K KX, lent (fsq enc pre post out) ds S K KX → ds.length = n := by
  rintro ds S K KX ⟨es, kd, kx, rfl, rfl, ⟨a, rfl, _, _⟩, _⟩
  rw [List.length_map]; exact h a
theorem fsq_ok {α β : Type} {enc : α → List PyData} {pre : α → Prop} {post : α → β → Prop} {out : β → PyData} {ws : WS} {N : List Str} (h : ∀ a, pre a → ∀ K KX, (∀ d S' b, Vz S' d (out b) → post a b → K d S') → ws (ends K KX) (startE N ((enc a).map bz)) []) :
    ∀ ds S K KX, lent (fsq enc pre post out) ds S K KX → ws { nx := fun _ S1 => K (.z .none) S1, rt := K, ex := fun y _ S1 => KX y S1 } (startE N ds) S := by
  rintro ds S K KX ⟨es, kd, kx, rfl, rfl, ⟨a, rfl, hp, hk⟩, hK, _⟩
  exact h a hp K KX fun d S' b v q => hK d S' _ v (hk b q)
theorem fsq_call {α β : Type} {enc : α → List PyData} {pre : α → Prop} {post : α → β → Prop} {out : β → PyData} {ds : List D} {S : Sto} {K : K1} {KX : KF} (a : α) (v : Vws S ds (enc a)) (hp : pre a) (h : ∀ b, post a b → K (.z (out b)) S) : pCall (frz (fsq enc pre post out)) ds S K KX :=
  pCall.mk ⟨_, v, a, rfl, hp, h⟩
def fsrq {α β : Type} (enc : α → List PyData) (pre : α → Prop) (post : α → β → Prop) (out : β → RT) : Fsr := fun es k _ => ∃ a, es = enc a ∧ pre a ∧ ∀ b, post a b → k (out b)
theorem fsrq_len {α β : Type} {enc : α → List PyData} {pre : α → Prop} {post : α → β → Prop} {out : β → RT} {n : Nat} (h : ∀ a, (enc a).length = n) : ∀ ds S K KX, lentR (fsrq enc pre post out) ds S K KX → ds.length = n := by
  rintro ds S K KX ⟨es, kd, kx, rfl, rfl, ⟨a, rfl, _, _⟩, _⟩
  rw [List.length_map]; exact h a
def fsm {α : Type} (pre : α → List D → Sto → Prop) (post : α → D → Sto → Sto → Prop) : Spc := fun ds S K _ => ∃ a, pre a ds S ∧ ∀ d S', post a d S S' → K d S'
theorem fsm_len {α : Type} {pre : α → List D → Sto → Prop} {post : α → D → Sto → Sto → Prop} {n : Nat} (h : ∀ a ds S, pre a ds S → ds.length = n) : ∀ ds S K KX, fsm pre post ds S K KX → ds.length = n := by
  rintro ds S K KX ⟨a, hp, _⟩
  exact h a ds S hp
theorem fsm_ok {α : Type} {pre : α → List D → Sto → Prop} {post : α → D → Sto → Sto → Prop} {ws : WS} {N : List Str} (h : ∀ a ds S, pre a ds S → ∀ K KX, (∀ d S', post a d S S' → K d S') → ws (ends K KX) (startE N ds) S) :
    ∀ ds S K KX, fsm pre post ds S K KX → ws { nx := fun _ S1 => K (.z .none) S1, rt := K, ex := fun y _ S1 => KX y S1 } (startE N ds) S := by
  rintro ds S K KX ⟨a, hp, hk⟩
  exact h a ds S hp K KX hk
theorem fsm_call {α : Type} {pre : α → List D → Sto → Prop} {post : α → D → Sto → Sto → Prop} {ds : List D} {S : Sto} {K : K1} {KX : KF} (a : α) (hp : pre a ds S) (h : ∀ d S', post a d S S' → K d S') : pCall (fsm pre post) ds S K KX := pCall.mk ⟨a, hp, h⟩
def Keep (U : List Nat) (S S' : Sto) : Prop := ∀ (n : Nat) (o : Ob), n ∉ U → S[n]? = some o → S'[n]? = some o
theorem Keep.refl {U : List Nat} {S : Sto} : Keep U S S := fun _ _ _ h => h
theorem Keep.trans {U : List Nat} {S T R : Sto} (a : Keep U S T) (b : Keep U T R) : Keep U S R := fun n o h e => b n o h (a n o h e)
theorem Keep.app {U : List Nat} {S T : Sto} : Keep U S (S ++ T) := fun _ _ _ h => sto_app h
theorem Keep.set {U : List Nat} {S : Sto} {n : Nat} {o : Ob} (h : n ∈ U) : Keep U S (S.set n o) := fun m _ hm e => by
  rw [List.getElem?_set_ne (fun z : n = m => hm (by rw [← z]; exact h))]; exact e
theorem Keep.mono {U V : List Nat} {S T : Sto} (h : ∀ n ∈ U, n ∈ V) (k : Keep U S T) : Keep V S T := fun n o hn e => k n o (fun z => hn (h n z)) e
theorem pGet.ex {α : Type} {o : Option α} {k : α → Prop} {P : α → Prop} (h : ∃ x, o = some x ∧ P x) (q : ∀ x, P x → k x) : pGet o k := by
  obtain ⟨x, e, hp⟩ := h
  exact pGet.mk e (q x hp)
theorem isTy_l {S : Sto} {n : Nat} {ds : List D} (h : S[n]? = some (.lst ds)) : isTy .list S (.r n) = true := by
  show (match S[n]? with | some (.lst _) => true | _ => false) = true
  rw [h]
theorem sqD_at {S : Sto} {n : Nat} {ds : List D} (h : S[n]? = some (.lst ds)) : sqD S (.r n) = some ds := lsD_at h
theorem srcD_at {S : Sto} {n : Nat} {ds : List D} (h : S[n]? = some (.lst ds)) : srcD S (.r n) = some ⟨ds, fun S => S[n]? = some (.lst ds)⟩ := by
  show (match S[n]? with | some (.lst ds) => _ | _ => _) = _
  rw [h]
theorem tyD_l {S : Sto} {n : Nat} {ds : List D} (h : S[n]? = some (.lst ds)) : tyD S (.r n) = some .list := by
  show (match S[n]? with | some (.lst _) => _ | some (.dic _) => _ | _ => _) = _
  rw [h]
theorem sto_r {A T : Sto} {k : Nat} {o : Ob} (h : T[k]? = some o) : (A ++ T)[A.length + k]? = some o := by
  rw [List.getElem?_append_right (Nat.le_add_right _ _), Nat.add_sub_cancel_left]; exact h
theorem sto_r0 {A T : Sto} {a : Ob} : (A ++ a :: T)[A.length]? = some a := by simp
theorem sto_r1 {A T : Sto} {a b : Ob} : (A ++ a :: b :: T)[A.length + 1]? = some b := sto_r rfl
theorem sto_r2 {A T : Sto} {a b c : Ob} : (A ++ a :: b :: c :: T)[A.length + 2]? = some c := sto_r rfl
theorem sto_r3 {A T : Sto} {a b c d : Ob} : (A ++ a :: b :: c :: d :: T)[A.length + 3]? = some d := sto_r rfl
theorem sto_r4 {A T : Sto} {a b c d e : Ob} : (A ++ a :: b :: c :: d :: e :: T)[A.length + 4]? = some e := sto_r rfl
theorem pFor_xs {α : Type} {src : Src} {g : WG} {body : WS} {k : KS} {env : Env} {S : Sto} (xs : List α) (f : α → D) (e : src.items = xs.map f) (I : Nat → Env → Sto → Prop) (h0 : I 0 env S) (hok : ∀ i env S, i ≤ xs.length → I i env S → src.ok S)
    (hs : ∀ i x env S (Q : Env → Sto → Prop), xs[i]? = some x → I i env S → (∀ env' S', I (i + 1) env' S' → Q env' S') → g (f x) env S fun env1 S1 => body { k with nx := Q, ct := Q, bk := k.nx } env1 S1)
    (hd : ∀ env S, I xs.length env S → k.nx env S) : pFor src g body k src.items env S := by
  have hl : src.items.length = xs.length := by rw [e, List.length_map]
  refine pFor_each I h0 (fun i env S hi h => hok i env S (by omega) h) (fun i d env S Q hi h hQ => ?_) (fun env S h => hd env S (by rw [← hl]; exact h))
  rw [e, List.getElem?_map] at hi
  cases hx : xs[i]? with
  | none => rw [hx] at hi; simp at hi
  | some x =>
    rw [hx] at hi
    simp at hi
    subst hi
    exact hs i x env S Q hx h hQ
theorem fmod_b {a b : Int} (h : 0 < b) : 0 ≤ a.fmod b ∧ a.fmod b < b := ⟨Int.fmod_nonneg_of_pos a h, Int.fmod_lt_of_pos a h⟩
end PL

set_option Elab.async false
set_option linter.all false
set_option maxRecDepth 100000
namespace PL
open PySem L2

def wNever : WS := fun _ _ _ => False
theorem xnever {X : Cx} {B F0 : Hp} {W : WX} {st : Stmt} : PXS X B F0 W st wNever := ⟨fun pins s σ H D I h => by
  obtain ⟨w, env, k, _, _, h, _⟩ := h
  exact h.elim⟩
theorem pFor_allB {α : Type} {src : Src} {g : WG} {body : WS} {k : KS} {env : Env} {S : Sto} (xs : List α) (f : α → D) (p : α → Bool) (J : Env → Prop) (e : src.items = xs.map f) (hok : src.ok S) (h0 : J env)
    (hs : ∀ x env (Q : Env → Sto → Prop), x ∈ xs → J env → (p x = true → ∀ env', J env' → Q env' S) → (p x = false → k.rt (.z (.bool false)) S) → g (f x) env S fun env1 S1 => body { k with nx := Q, ct := Q, bk := k.nx } env1 S1)
    (hd : xs.all p = true → ∀ env, J env → k.nx env S) (hf : xs.all p = false → k.rt (.z (.bool false)) S) : pFor src g body k src.items env S := by
  refine pFor_xs xs f e (fun i env S1 => S1 = S ∧ J env ∧ (xs.take i).all p = true) ⟨rfl, h0, by simp⟩ (fun i env S1 _ h => by rw [h.1]; exact hok) ?_ ?_
  · rintro i x env S1 Q hx ⟨rfl, hj, ha⟩ hQ
    refine hs x env Q (List.mem_of_getElem? hx) hj (fun hp env' hj' => hQ env' _ ⟨rfl, hj', ?_⟩) (fun hp => hf ?_)
    · rw [List.take_add_one, hx, List.all_append, ha, Option.toList_some]
      simp [hp]
    · cases h : xs.all p with
      | false => rfl
      | true =>
        have := List.all_eq_true.mp h x (List.mem_of_getElem? hx)
        rw [hp] at this; cases this
  · rintro env S1 ⟨rfl, hj, ha⟩
    rw [List.take_length] at ha
    exact hd ha env hj
end PL

set_option Elab.async false
set_option linter.all false
set_option maxRecDepth 100000
namespace PL
open PySem L2

structure ExcF (K : PySem.W.Frag) (mg : Str → Option Value) (x : Str) (C : Addr) : Prop where
  q : PySem.W.excIn K C He.veBase "ValueError.__new__" = true
  k : PySem.W.keepIn K (.ref C) = true
  s : PySem.W.subIn K (.ref C) (.type "BaseException") = some true
  t : PySem.W.typeIn K (.ref C) = some (.type "type")
  g : mg x = some (.ref C)
section
variable {X : Cx} {B F0 : Hp} {W : WX} {x m : Str} {C : Addr} {p p2 p3 pos : Pos} {j : Nat}
end
section
variable {X : Cx} {B F0 : Hp} {W : WX} {x n : Str} {c : Value} {i : Nat} {body suite : List Stmt} {b₀ : Stmt} {np pos pos' : Pos} {b : WS} {h : Addr → Value → WS} {kn : Value → Prop} {mt : Value → Bool}
end
section
variable {X : Cx} {B F0 : Hp} {W : WX} {x y n : Str} {C D : Addr} {i : Nat} {a : Addr} {b : Bool} {oe : Obj} {pn : List (Addr × Obj)} {p p2 p3 pos : Pos}
end
structure EcK where
  cl : Str → Addr
  kn : Value → Prop
  mt : Str → Value → Bool
  kd : Value → Str → Bool
def tabE (x y : Str) : Bool := decide (x = y) || (decide (y = "PathError") || decide (y = "ValueError"))
structure EcOk (ec : EcK) (raised checked : List Str) : Prop where
  kn : ∀ x ∈ raised, ec.kn (.ref (ec.cl x))
  mt : ∀ x ∈ raised, ∀ y ∈ checked, ec.mt y (.ref (ec.cl x)) = tabE x y
  kd : ∀ x ∈ raised, ∀ y ∈ checked, ec.kd (.ref (ec.cl x)) y = tabE x y
def fsrX {α : Type} (enc : α → List PyData) (pre : α → Prop) (out : α → Except Value RT) : Fsr := fun es k kx => ∃ a, es = enc a ∧ pre a ∧ (∀ r, out a = .ok r → k r) ∧ ∀ v, out a = .error v → kx ⟨v, none⟩
theorem fsrX_len {α : Type} {enc : α → List PyData} {pre : α → Prop} {out : α → Except Value RT} {n : Nat} (h : ∀ a, (enc a).length = n) : ∀ ds S K KX, lentR (fsrX enc pre out) ds S K KX → ds.length = n := by
  rintro ds S K KX ⟨es, kd, kx, rfl, rfl, ⟨a, rfl, _, _⟩, _⟩
  rw [List.length_map]; exact h a
end PL

set_option Elab.async false
set_option linter.all false
set_option maxRecDepth 100000
namespace PL
open PySem PySem.Spec PyProof.Rows L2

def obsQ (bf : PySem.W.Frag → Bool) (fa : List He.Fa) (fn : List He.DefD) (K : PySem.W.Frag) : Bool × He.AlD := (noLs K && bf K, He.obsD fa fn K)
def SaysQ (bf : PySem.W.Frag → Bool) (fa : List He.Fa) (fn : List He.DefD) (K : PySem.W.Frag) : Prop := obsQ bf fa fn K = (true, He.valD fn)
theorem SaysQ.ls {bf : PySem.W.Frag → Bool} {fa : List He.Fa} {fn : List He.DefD} {K : PySem.W.Frag} (h : SaysQ bf fa fn K) : noLs K = true := (Bool.and_eq_true_iff.mp (congrArg (fun z : Bool × He.AlD => z.1) h)).1
theorem SaysQ.bf {bf : PySem.W.Frag → Bool} {fa : List He.Fa} {fn : List He.DefD} {K : PySem.W.Frag} (h : SaysQ bf fa fn K) : bf K = true := (Bool.and_eq_true_iff.mp (congrArg (fun z : Bool × He.AlD => z.1) h)).2
theorem SaysQ.sd {bf : PySem.W.Frag → Bool} {fa : List He.Fa} {fn : List He.DefD} {K : PySem.W.Frag} (h : SaysQ bf fa fn K) : He.SaysD fa fn K := congrArg (fun z : Bool × He.AlD => z.2) h
section
variable {raised handled checked : List Str} {K : PySem.W.Frag} {mg : Str → Option Value}
end
structure EcP (ec : EcK) (raised handled checked : List Str) : Prop where
  kn : ∀ x ∈ raised, ec.kn (.ref (ec.cl x))
  mt : ∀ x ∈ raised, ∀ y ∈ handled, ec.mt y (.ref (ec.cl x)) = tabE x y
  kd : ∀ x ∈ raised, ∀ y ∈ checked, ec.kd (.ref (ec.cl x)) y = tabE x y
end PL

set_option Elab.async false
set_option linter.all false
set_option maxRecDepth 100000
namespace PL
open PySem L2

def pJoin : D → PL := fun x xs S K => match x, xs with
  | .z (.str a), [y] => pGet (sqD S y) fun ds => ∃ ys : List Str, ds = ys.map (fun s => .z (.str s)) ∧ pReq ((ys.map (·.length)).sum + ys.length * a.length ≤ 16777216) (K (.z (.str (Txt.join a ys))) S)
  | _, _ => False
section
variable {X : Cx} {B F0 : Hp}
theorem oJoin : MtR X "str.join" (rM B F0 pJoin) := methR fun {pins s σ H x v vs us w d ds K Q} I rx r R q qs h k => by
  unfold pJoin at h
  split at h
  · rename_i a y
    obtain ⟨ds, e, h⟩ := h.out
    obtain ⟨ys, rfl, h⟩ := h
    obtain ⟨hz, h⟩ := h.out
    obtain ⟨u, rfl, q1⟩ := qs.one
    obtain ⟨p, ws, rfl, hs, rw'⟩ := sqD_ok (K := X.K) R q1 e
    have ev := RpDs.strs rw'
    subst ev
    exact mt_join pins s σ H _ _ v us Q I rx r ⟨a, p, ys, rpStr q, rfl, hs, hz, k.str R h⟩
  · exact h.elim
end
end PL

set_option Elab.async false
set_option linter.all false
set_option maxRecDepth 100000
namespace PL
open PySem L2

end PL

set_option Elab.async false
set_option linter.all false
set_option maxRecDepth 100000
set_option maxHeartbeats 1000000
namespace PL
open PySem PySem.Spec PyProof.Rows L2
section
variable {prog : Program} {w : World} {A : Around} {E : Value → Shared → Prop} {s : Shared} {it l : Addr} {items : Array Value}
end
section
variable {X : Cx}
end
end PL

set_option Elab.async false
set_option linter.all false
set_option maxRecDepth 100000
set_option maxHeartbeats 2000000
namespace PL
open PySem PySem.Spec PyProof.Rows L2

def txtOf (e : Int × Value) : Str := match e.2 with
  | .str k _ => k
  | _ => Str.ofString ""
def IsTxt (w : World) (e : Int × Value) : Prop := ∃ k tk, e.2 = Value.str k tk ∧ e.1 = hashStr w k
structure TxtSet (w : World) (h : Heap) (a : Addr) (ks : List Str) : Prop where
  out : ∃ o es ep t, h.get? a = some o ∧ o.ExactSet ∧ o.data = .set es ep t ∧ (∀ e ∈ es.toList, IsTxt w e) ∧ es.toList.map txtOf = ks ∧ ks.Nodup ∧
    es.size < scanBound ∧ t.fits es.size = true ∧ Ris t.place.toList ∧ (w.params.followText "set-order" = true ∨ t.led = true)
section
variable {P : Program} {w : World} {h h' : Heap} {a : Addr} {ks : List Str}
theorem TxtSet.at (R : TxtSet w h a ks) (k : ∀ o, h.get? a = some o → h'.get? a = some o) : TxtSet w h' a ks := by
  obtain ⟨o, es, ep, t, ho, r⟩ := R.out
  exact ⟨o, es, ep, t, k o ho, r⟩
end
section
variable {P : Program} {w : World} {A : Around} {E : Value → Shared → Prop} {s : Shared} {a : Addr} {ks : List Str}
end
section
variable {P : Program} {w : World} {A : Around} {E : Value → Shared → Prop} {s : Shared}
end
end PL

set_option Elab.async false
set_option linter.all false
set_option maxRecDepth 100000
set_option maxHeartbeats 3200000
namespace PL
open PySem PySem.Spec PyProof.Rows L2
section
variable {P : Program} {w : World} {A : Around} {E : Value → Shared → Prop} {s : Shared}
end
end PL

set_option Elab.async false
set_option linter.all false
set_option maxRecDepth 100000
set_option maxHeartbeats 3200000
namespace PL
open PySem PySem.Spec PyProof.Rows L2
section
variable {P : Program} {w : World} {A : Around} {E : Value → Shared → Prop} {s : Shared} {a : Addr} {ks : List Str}
end
section
variable {X : Cx}
theorem TxtSet.nodup {w : World} {h : Heap} {a : Addr} {ks : List Str} (R : TxtSet w h a ks) : ks.Nodup := by
  obtain ⟨o, es, ep, t, ho, hex, hd, g, hk, nd, _⟩ := R.out
  exact nd
end
section
variable {X : Cx} {B F0 : Hp} {W : WX} {e : Expr} {we : WE} {p p2 pos pos2 : Pos}
end
structure pAny' {α : Type} (p : α → Prop) (k : α → Prop) : Prop where
  mk' ::
  out : ∃ x, p x ∧ k x
theorem pAny'.mk {α : Type} {p : α → Prop} {k : α → Prop} (x : α) (h : p x) (q : k x) : pAny' p k := ⟨⟨x, h, q⟩⟩
end PL

set_option Elab.async false
set_option linter.all false
set_option maxRecDepth 100000
set_option maxHeartbeats 1000000
namespace PL
open PySem L2

structure bLtG (x y : D) (S : Sto) (k : Bool → Prop) : Prop where
  out : ∃ d e, Vw S x d ∧ Vw S y e ∧ PySem.W.alike d e = true ∧ d ≠ .none ∧ d.depth ≤ 64 ∧ k (PySem.W.dataLt d e)
def bLtD : B2 := fun x y S k => match x, y with
  | .z (.int i), .z (.int j) => k (decide (i < j))
  | x, y => bLtG x y S k
section
variable {X : Cx} {B F0 : Hp}
theorem oLtD (hu : X.A.units + 100 < cLine) : OpR X (compareOp .Lt) (r2 B F0 (cB bLtD)) := cmpR fun {pins s σ H x y v u w dx dy k Q} I rx ry R q1 q2 h kb => by
  unfold bLtD at h
  split at h
  · rw [rpInt q1] at rx; rw [rpInt q2] at ry
    exact op_lt pins s σ H _ _ v u Q I rx ry ⟨_, _, rfl, rfl, kb _ h⟩
  · obtain ⟨d, e, w1, w2, ha, hn, hd, h⟩ := h.out
    obtain ⟨as, r1⟩ := Dp.reads I d x v (RpT.dp R.fh _ _ (Vw.rp R _ _ _ w1 q1)) rx
    obtain ⟨bs, r2⟩ := Dp.reads I e y u (RpT.dp R.fh _ _ (Vw.rp R _ _ _ w2 q2)) ry
    have hm : min d.depth e.depth ≤ d.depth := Nat.min_le_left _ _
    exact PySem.W.lt_data r1 r2 ha hn (by omega) ⟨.bl _, H, I, rfl, kb _ h⟩
structure SortIn (S : Sto) (x : D) (bs : List (D × PyData)) : Prop where
  ls : lsD S x = some (bs.map (·.1))
  vw : ∀ b ∈ bs, Vw S b.1 b.2
  al : PySem.W.AllAlike (bs.map (·.2))
  so : PySem.W.Sortable (bs.map (·.2))
  dp : ∀ b ∈ bs, b.2.depth ≤ 64
  sz : bs.length ≤ sizeLine
abbrev sortB (bs : List (D × PyData)) : List (D × PyData) := bs.mergeSort (PySem.W.dataLe false (·.2))
structure SortOk (S : Sto) (x : D) (K : K1) : Prop where
  out : (∃ bs, SortIn S x bs ∧ K (.r S.length) (S ++ [.lst ((sortB bs).map (·.1))])) ∨
    ∃ n kvs ks, x = .r n ∧ dcR S n = some kvs ∧ kvs.map (·.1) = ks.map Sum.inr ∧ ks.length < 64 ∧ ∀ ys, ys.Perm ks → PyProof.Rows.sortedS ys = true → K (.r S.length) (S ++ [.lst (ys.map fun s => .z (.str s))])
end
end PL

set_option Elab.async false
set_option linter.all false
set_option maxRecDepth 100000
namespace PL
open PySem L2
section
variable {X : Cx} {B F0 : Hp} {W : WX} {x : Str} {p pos : Pos} {k : Nat} {ps : List Str} {sp : Spc}
end
section
variable {X : Cx} {B F0 : Hp} {W : WX} {e : Expr} {we : WE} {p1 p2 p3 pos : Pos} {k : Nat}
end
end PL

set_option Elab.async false
set_option linter.all false
set_option maxRecDepth 100000
namespace PL
open PySem L2
mutual
theorem al_vr : ∀ (r : RT) (S T : Sto), ∃ ns, (∀ U, VR (S ++ ((al r S.length).2 ++ T)) U (al r S.length).1 r ns) ∧ ns.Nodup ∧ ∀ m ∈ ns, S.length ≤ m ∧ m < S.length + (al r S.length).2.length
  | .z d, S, T => ⟨[], fun U => by unfold al; exact .z .z, List.nodup_nil, fun _ h => by cases h⟩
  | .l rs, S, T => by
    obtain ⟨ns, h1, h2, h3⟩ := als_vr rs S ([.lst (als rs S.length).1] ++ T)
    unfold al
    refine ⟨ns ++ [S.length + (als rs S.length).2.length], fun U => .l ?_ (by rw [List.append_assoc]; exact h1 U), List.nodup_append.mpr ⟨h2, by simp, fun a ha b hb e => ?_⟩, fun m hm => ?_⟩
    · rw [List.getElem?_append_right (by omega), List.append_assoc, List.getElem?_append_right (by omega), show S.length + (als rs S.length).2.length - S.length - (als rs S.length).2.length = 0 by omega]
      rfl
    · have := h3 a ha
      simp at hb
      omega
    · rw [List.length_append, List.length_singleton]
      rcases List.mem_append.mp hm with hm | hm
      · have := h3 m hm; omega
      · simp at hm; omega
  | .t rs, S, T => by
    obtain ⟨ns, h1, h2, h3⟩ := als_vr rs S T
    unfold al
    exact ⟨ns, fun U => .t (h1 U), h2, h3⟩
theorem als_vr : ∀ (rs : List RT) (S T : Sto), ∃ ns, (∀ U, VRs (S ++ ((als rs S.length).2 ++ T)) U (als rs S.length).1 rs ns) ∧ ns.Nodup ∧ ∀ m ∈ ns, S.length ≤ m ∧ m < S.length + (als rs S.length).2.length
  | [], S, T => ⟨[], fun U => by unfold als; exact .nil, List.nodup_nil, fun _ h => by cases h⟩
  | r :: rs, S, T => by
    obtain ⟨ns, h1, h2, h3⟩ := al_vr r S ((als rs (S.length + (al r S.length).2.length)).2 ++ T)
    obtain ⟨ms, k1, k2, k3⟩ := als_vr rs (S ++ (al r S.length).2) T
    rw [List.length_append] at k1 k3
    unfold als
    refine ⟨ns ++ ms, fun U => .cons (by rw [List.append_assoc]; exact h1 U) (by rw [List.append_assoc, ← List.append_assoc]; exact k1 U), List.nodup_append.mpr ⟨h2, k2, fun a ha b hb e => ?_⟩, fun m hm => ?_⟩
    · have := h3 a ha
      have := k3 b hb
      omega
    · rw [List.length_append]
      rcases List.mem_append.mp hm with hm | hm
      · have := h3 m hm; omega
      · have := k3 m hm; omega
end
end PL

set_option Elab.async false
set_option linter.all false
set_option maxRecDepth 100000
namespace PL
open PySem L2
abbrev HX := NestedKey → Int
mutual
def nkOf : PyData → Option NestedKey
  | .none => some .none
  | .int i => some (.num i)
  | .str x => some (.text x)
  | .tuple ds => (nksOf ds).map .tup
  | _ => none
def nksOf : List PyData → Option (List NestedKey)
  | [] => some []
  | d :: ds => match nkOf d, nksOf ds with
    | some k, some ks => some (k :: ks)
    | _, _ => none
end
mutual
theorem nkOf_data : ∀ (d : PyData) (k : NestedKey), nkOf d = some k → k.data = d
  | .none, _, h => by simp [nkOf] at h; subst h; simp [NestedKey.data]
  | .int i, _, h => by simp [nkOf] at h; subst h; simp [NestedKey.data]
  | .str x, _, h => by simp [nkOf] at h; subst h; simp [NestedKey.data]
  | .tuple ds, k, h => by
    rw [nkOf] at h
    cases e : nksOf ds with
    | none => rw [e] at h; cases h
    | some ks => rw [e] at h; cases h; rw [NestedKey.data, nksOf_data ds ks e]
  | .bool _, _, h => by simp [nkOf] at h
  | .list _, _, h => by simp [nkOf] at h
  | .dict _, _, h => by simp [nkOf] at h
theorem nksOf_data : ∀ (ds : List PyData) (ks : List NestedKey), nksOf ds = some ks → NestedKey.datas ks = ds
  | [], _, h => by simp [nksOf] at h; subst h; simp [NestedKey.datas]
  | d :: ds, ks, h => by
    rw [nksOf] at h
    cases e1 : nkOf d with
    | none => rw [e1] at h; cases h
    | some k =>
      cases e2 : nksOf ds with
      | none => rw [e1, e2] at h; cases h
      | some ks2 =>
        rw [e1, e2] at h
        cases h
        rw [NestedKey.datas, nkOf_data d k e1, nksOf_data ds ks2 e2]
end
def keyN : D → Option NestedKey
  | .z (.tuple ds) => (nksOf ds).bind fun ks => if (NestedKey.tup ks).depth ≤ 8 then some (.tup ks) else none
  | _ => none
section
variable {P : Program} {w : World} {F H : Hp} {h : Heap}
mutual
theorem nk_is (ok : HOk P w H h) (hF : Sub F H) : ∀ (k : NestedKey) (v : V) (u : Value), RpT (LF F) (TF F) k.data v → RelV v u → NestedIs h k u
  | .none, v, u, r, q => by
    rw [NestedKey.data] at r
    cases r
    cases (show u = Value.none from q)
    exact .none
  | .num i, v, u, r, q => by
    rw [NestedKey.data] at r
    cases r
    obtain ⟨t, rfl⟩ := (show ∃ t, u = Value.int i t from q)
    exact .int i t
  | .text x, v, u, r, q => by
    rw [NestedKey.data] at r
    cases r
    obtain ⟨t, rfl⟩ := (show ∃ t, u = Value.str x t from q)
    exact .text x t
  | .tup ks, v, u, r, q => by
    rw [NestedKey.data] at r
    cases r with
    | tup e rs =>
      rename_i a vs
      cases (show u = Value.ref a from q)
      obtain ⟨_, its, rv, o, h1, h2, n, h3⟩ := (show ObjOk P w H h a (.tup vs) from ok a _ (hF _ _ e))
      exact .tup h1 h2 h3 (by simpa using nks_is ok hF ks vs its rs rv)
theorem nks_is (ok : HOk P w H h) (hF : Sub F H) : ∀ (ks : List NestedKey) (vs : List V) (us : List Value), RpTs (LF F) (TF F) (NestedKey.datas ks) vs → Vals vs us → NestedAll h ks us
  | [], vs, us, r, q => by
    rw [NestedKey.datas] at r
    cases r; cases q
    exact .nil
  | k :: ks, vs, us, r, q => by
    rw [NestedKey.datas] at r
    cases r with
    | cons r1 r2 =>
      cases q with
      | cons q1 q2 => exact .cons (nk_is ok hF k _ _ r1 q1) (nks_is ok hF ks _ _ r2 q2)
end
end
def kAt (kvs : List (NestedKey × D)) (k : NestedKey) : Option D := (kvs.find? fun p => decide (p.1 = k)).map (·.2)
inductive KdAt (hx : HX) (S : Sto) (n : Nat) : List (NestedKey × D) → Prop
  | kd {kvs : List (NestedKey × D)} : S[n]? = some (.kd hx kvs) → KdAt hx S n kvs
  | nil : S[n]? = some (.dic []) → KdAt hx S n []
section
variable {B F0 F H : Hp} {μ : Nat → Addr} {S : Sto} {n : Nat} {kvs : List (NestedKey × D)}
end
section
variable {X : Cx} {pins : List (Addr × Obj)} {σ : St} {H : Hp} {s : Shared} {B F0 : Hp} {w : Wd} {n : Nat} {kvs : List (NestedKey × D)}
end
structure KSetd (hx : HX) (x y z : D) (S : Sto) (K : K1) : Prop where
  out : ∃ n k kvs, x = .r n ∧ keyN y = some k ∧ KdAt hx S n kvs ∧ kvs.length < sizeLine ∧ (∀ d, kAt kvs k = some d → K d S) ∧ (kAt kvs k = none → K z (S.set n (.kd hx (kvs ++ [(k, z)]))))
structure KGet (hx : HX) (x y z : D) (S : Sto) (K : K1) : Prop where
  out : ∃ n k kvs, x = .r n ∧ keyN y = some k ∧ KdAt hx S n kvs ∧ K ((kAt kvs k).getD z) S
structure KTy (hx : HX) (x : D) (S : Sto) : Prop where
  out : ∃ n kvs, x = .r n ∧ KdAt hx S n kvs
section
variable {X : Cx} {B F0 : Hp} {W : WX} {o e : Expr} {es : List Expr} {wo : WE} {wa : WA} {name : Str} {apos cpos : Pos} {id : String} {f : D → D → D → Sto → K1 → Prop}
end
section
variable {X : Cx} {B F0 : Hp} {W : WX} {pins : List (Addr × Obj)} {s : Shared} {σ : St} {H : Hp} {w : Wd} {x y z : D} {vx vy vz : V} {ux uy uz : Value} {K : K1} {Q : VK}
end
section
variable {X : Cx} {B F0 : Hp} {W : WX} {o e : Expr} {es : List Expr} {wo : WE} {wa : WA} {apos cpos : Pos}
end
end PL

set_option Elab.async false
set_option linter.all false
set_option maxRecDepth 100000
namespace PL
open PySem L2
mutual
def rtD : RT → PyData
  | .z d => d
  | .l rs => .list (rtDs rs)
  | .t rs => .tuple (rtDs rs)
def rtDs : List RT → List PyData
  | [] => []
  | r :: rs => rtD r :: rtDs rs
end
mutual
theorem Vu.vz {S : Sto} {U : List Nat} : ∀ (e : PyData) (d : D), Vu S U d e → Vz S d e
  | .none, _, h => by cases h with | z => exact .z
  | .bool _, _, h => by cases h with | z => exact .z
  | .int _, _, h => by cases h with | z => exact .z
  | .str _, _, h => by cases h with | z => exact .z
  | .dict _, _, h => by cases h with | z => exact .z
  | .list es, _, h => by
    cases h with
    | z => exact .z
    | r _ e ws => exact .r e (Vus.vz es _ ws)
  | .tuple es, _, h => by
    cases h with
    | z => exact .z
    | t ws => exact .t (Vus.vz es _ ws)
theorem Vus.vz {S : Sto} {U : List Nat} : ∀ (es : List PyData) (ds : List D), Vus S U ds es → Vzs S ds es
  | [], _, h => by cases h; exact .nil
  | e :: es, _, h => by cases h with | cons a b => exact .cons (Vu.vz e _ a) (Vus.vz es _ b)
end
mutual
theorem VR.vz {S : Sto} {U : List Nat} : ∀ (r : RT) (d : D) (ns : List Nat), VR S U d r ns → Vz S d (rtD r)
  | .z e, _, _, h => by cases h with | z w => rw [rtD]; exact Vu.vz e _ w
  | .l rs, _, _, h => by cases h with | l e w => rw [rtD]; exact .r e (VRs.vz rs _ _ w)
  | .t rs, _, _, h => by cases h with | t w => rw [rtD]; exact .t (VRs.vz rs _ _ w)
theorem VRs.vz {S : Sto} {U : List Nat} : ∀ (rs : List RT) (ds : List D) (ns : List Nat), VRs S U ds rs ns → Vzs S ds (rtDs rs)
  | [], _, _, h => by cases h; rw [rtDs]; exact .nil
  | r :: rs, _, _, h => by cases h with | cons a b => rw [rtDs]; exact .cons (VR.vz r _ _ a) (VRs.vz rs _ _ b)
end
section
variable {X : Cx} {B F0 : Hp}
end
end PL

set_option Elab.async false
set_option linter.all false
set_option maxRecDepth 100000
set_option maxHeartbeats 3200000
namespace PL
open PySem PySem.Spec PyProof.Rows L2
section
variable {P : Program} {w : World} {A : Around} {E : Value → Shared → Prop} {s : Shared}
end
section
variable {X : Cx}
end
section
variable {X : Cx} {B F0 : Hp} {W : WX} {e : Expr} {we : WE} {p p2 pos pos2 : Pos}
end
end PL

set_option Elab.async false
set_option linter.all false
set_option maxRecDepth 100000
namespace PL
open PySem PySem.Spec PyProof.Rows L2
open RZ (ItzT iZipA pi_zipA)
section
variable {X : Cx} {B F0 : Hp} {W : WX} {e e2 : Expr} {wa : WA} {pos p tpos : Pos} {elts : List Expr} {kk : Nat}
end
theorem fn_none {P : Program} {w : World} {K : PySem.W.Frag} {mg : Str → Option Value} {base : Heap} {CX : CXT} {k : Nat} {f : Addr} {fd : FuncData} {ps : List Str} {sp : Spc} (h : ∀ ds S K KX, ¬ sp ds S K KX) : FnOk P w K mg base CX k f fd ps (spOf sp) :=
  ⟨fun vs H Q E q => by
    obtain ⟨B, F0, w', ds, K', KX, _, _, q, _⟩ := q
    exact absurd q (h _ _ _ _), fun A outer s H args us vs Q E _ _ _ _ q => by
    obtain ⟨B, F0, w', ds, K', KX, _, _, q, _⟩ := q
    exact absurd q (h _ _ _ _)⟩
end PL

set_option Elab.async false
set_option linter.all false
set_option maxRecDepth 100000
namespace PL
open PySem L2
def argM : List Bool → List PyData → List D
  | _, [] => []
  | [], d :: ds => bz d :: argM [] ds
  | z :: zs, d :: ds => (if z = true then .z d else bz d) :: argM zs ds
inductive VwM (S : Sto) : List Bool → List D → List PyData → Prop
  | nil {zs : List Bool} : VwM S zs [] []
  | end_ {d : D} {ds : List D} {e : PyData} {es : List PyData} : Vw S d e → VwM S [] ds es → VwM S [] (d :: ds) (e :: es)
  | z {zs : List Bool} {ds : List D} {e : PyData} {es : List PyData} : VwM S zs ds es → VwM S (true :: zs) (.z e :: ds) (e :: es)
  | b {zs : List Bool} {d : D} {ds : List D} {e : PyData} {es : List PyData} : Vw S d e → VwM S zs ds es → VwM S (false :: zs) (d :: ds) (e :: es)
def frzM (zs : List Bool) (p : Fsp) : Spc := fun ds S K KX => ∃ es, VwM S zs ds es ∧ p es (fun d => K (.z d) S) fun x => KX x S
def lentM (zs : List Bool) (p : Fsp) : Spc := fun ds S K KX => ∃ es kd kx, ds = argM zs es ∧ S = [] ∧ p es kd kx ∧ (∀ d S' e, Vz S' d e → kd e → K d S') ∧ ∀ x S' x', ExV S' x x' → kx x' → KX x S'
def frrM (zs : List Bool) (p : Fsr) : Spc := fun ds S K KX => ∃ es, VwM S zs ds es ∧ p es (fun rt => K (al rt S.length).1 (S ++ (al rt S.length).2)) fun x => KX x S
def lentRM (zs : List Bool) (p : Fsr) : Spc := fun ds S K KX => ∃ es kd kx, ds = argM zs es ∧ S = [] ∧ p es kd kx ∧ (∀ d S' rt U, VR S' U d rt U → U.Nodup → kd rt → K d S') ∧ ∀ x S' x', ExV S' x x' → kx x' → KX x S'
theorem VwM.arg {B F0 F H : Hp} {μ μ2 : Nat → Addr} {S : Sto} {n : Nat} (R : Rl B F0 μ S F H) : ∀ {zs : List Bool} {ds : List D} {es : List PyData} {vs : List V}, VwM S zs ds es → RpDs B F μ S.length ds vs → RpDs H F μ2 n (argM zs es) vs
  | _, _, _, _, .nil, h => by cases h; unfold argM; exact .nil
  | _, _, _, _, .end_ w t, h => by
    cases h with
    | cons a b => unfold argM; exact .cons (RpD.bz (Vw.rp R _ _ _ w a)) (VwM.arg R t b)
  | _, _, _, _, .z t, h => by
    cases h with
    | cons a b => unfold argM; rw [if_pos rfl]; cases a with | z q => exact .cons (.z q) (VwM.arg R t b)
  | _, _, _, _, .b w t, h => by
    cases h with
    | cons a b => unfold argM; rw [if_neg (by decide)]; exact .cons (RpD.bz (Vw.rp R _ _ _ w a)) (VwM.arg R t b)
theorem ex_back {B F0 F F' H H' : Hp} {μ μ' : Nat → Addr} {S S' : Sto} {x x' : Ex} {cls : Value} {dd : Option Addr} (R' : Rl H F μ' S' F' H') (r' : ExR H F' μ' S'.length H' x cls dd) (h : ExV S' x x') : ExR B (fz μ' S'.length F' H') μ S.length H' x' cls dd := by
  obtain ⟨hc, hf⟩ := h
  refine ⟨by rw [hc]; exact r'.1, ?_⟩
  obtain ⟨_, r2⟩ := r'
  cases h1 : x.fs with
  | none =>
    cases h2 : x'.fs with
    | none => rw [h1] at r2; exact r2
    | some gs => rw [h1, h2] at hf; exact hf.elim
  | some fs =>
    cases h2 : x'.fs with
    | none => rw [h1, h2] at hf; exact hf.elim
    | some gs =>
      rw [h1] at r2
      rw [h1, h2] at hf
      obtain ⟨a, ws, e1, e2, e3⟩ := r2
      refine ⟨a, ws, e1, fz_sub _ _ e2, ?_⟩
      clear e2 h1 h2
      induction hf generalizing ws with
      | nil => cases e3; exact .nil
      | cons q t ih =>
        cases e3 with
        | cons r1 r2 =>
          obtain ⟨n1, e, ve, q2⟩ := q
          refine .cons ⟨n1.symm.trans r1.1, ?_⟩ (ih _ r2)
          rw [q2]
          exact .z (Vz.rp R' e _ _ ve r1.2)
theorem FnOk.frzM {P : Program} {w : World} {K : PySem.W.Frag} {mg : Str → Option Value} {base : Heap} {CX : CXT} {k : Nat} {f : Addr} {fd : FuncData} {ps : List Str} {zs : List Bool} {p : Fsp} (h : FnOk P w K mg base CX k f fd ps (spOf (lentM zs p))) : FnOk P w K mg base CX k f fd ps (spOf (PL.frzM zs p)) := by
  refine h.imp fun vs H Q E q => ?_
  obtain ⟨B, F0, w, ds, K, KX, R, r, ⟨es, vw, q⟩, k, kx⟩ := q
  have R0 : Rl H w.F w.μ [] w.F H := ⟨Sub.refl _, R.fh, Sub.refl _, fun a o e => .inl e, fun i j hi => absurd hi (Nat.not_lt_zero _), fun i hi => absurd hi (Nat.not_lt_zero _), fun i hi => absurd hi (Nat.not_lt_zero _), fun i o e => by simp at e⟩
  refine ⟨H, w.F, ⟨w.μ, [], w.F⟩, argM zs es, fun d S' => ∃ e, Vz S' d e ∧ K (.z e) w.S, fun x S' => ∃ x', ExV S' x x' ∧ KX x' w.S, R0, VwM.arg R vw r, ⟨es, _, _, rfl, rfl, q, fun d S' e a b => ⟨e, a, b⟩, fun x S' x' a b => ⟨x', a, b⟩⟩, ?_, ?_⟩
  · rintro d S' v H' μ' F' R' X' r' ⟨e, he, hk⟩
    obtain ⟨R2, X2⟩ := R.back R' X'.f
    exact k _ _ _ _ _ _ R2 X2 (.z (Vz.rp R' e d v he r')) hk
  · rintro x S' H' μ' F' cls dd R' X' r' ⟨x', he, hk⟩
    obtain ⟨R2, X2⟩ := R.back R' X'.f
    exact kx x' _ _ _ _ cls dd R2 X2 (ex_back (F0 := F0) (F := w.F) (H := H) R' r' he) hk
theorem FnOk.frrM {P : Program} {w : World} {K : PySem.W.Frag} {mg : Str → Option Value} {base : Heap} {CX : CXT} {k : Nat} {f : Addr} {fd : FuncData} {ps : List Str} {zs : List Bool} {p : Fsr} (h : FnOk P w K mg base CX k f fd ps (spOf (lentRM zs p))) : FnOk P w K mg base CX k f fd ps (spOf (PL.frrM zs p)) := by
  refine h.imp fun vs H Q E q => ?_
  obtain ⟨B, F0, w, ds, K, KX, R, r, ⟨es, vw, q⟩, k, kx⟩ := q
  have R0 : Rl H w.F w.μ [] w.F H := ⟨Sub.refl _, R.fh, Sub.refl _, fun a o e => .inl e, fun i j hi => absurd hi (Nat.not_lt_zero _), fun i hi => absurd hi (Nat.not_lt_zero _), fun i hi => absurd hi (Nat.not_lt_zero _), fun i o e => by simp at e⟩
  refine ⟨H, w.F, ⟨w.μ, [], w.F⟩, argM zs es, fun d S' => ∃ rt U, VR S' U d rt U ∧ U.Nodup ∧ K (al rt w.S.length).1 (w.S ++ (al rt w.S.length).2), fun x S' => ∃ x', ExV S' x x' ∧ KX x' w.S, R0, VwM.arg R vw r, ⟨es, _, _, rfl, rfl, q, fun d S' rt U a nd b => ⟨rt, U, a, nd, b⟩, fun x S' x' a b => ⟨x', a, b⟩⟩, ?_, ?_⟩
  · rintro d S' v H' μ' F' R' X' r' ⟨rt, U, hv, nd, hk⟩
    have hm : ∀ j n, U[j]? = some n → muU w.μ μ' w.S.length U (w.S.length + j) = μ' n := fun j n h => by
      unfold muU
      rw [if_neg (by omega), Nat.add_sub_cancel_left, List.getD_eq_getElem?_getD, h]; rfl
    obtain ⟨r2, g2⟩ := VR.rp (A := B) (N := w.S.length + U.length) R' rt d v U w.S.length hv r' hm (Nat.le_refl _)
    obtain ⟨R2, X2⟩ := R.backU R' X'.f (VR.lt rt d U hv) nd g2
    refine k _ _ _ _ _ _ R2 X2 ?_ hk
    rw [List.length_append, g2.1]
    exact r2
  · rintro x S' H' μ' F' cls dd R' X' r' ⟨x', he, hk⟩
    obtain ⟨R2, X2⟩ := R.back R' X'.f
    exact kx x' _ _ _ _ cls dd R2 X2 (ex_back (F0 := F0) (F := w.F) (H := H) R' r' he) hk
section
variable {P : Program} {w : World} {K : PySem.W.Frag} {mg : Str → Option Value} {base : Heap} {x : Str} {k : Nat} {ps : List Str} {zs : List Bool}
theorem Fc.frzM {p : Fsp} (c : Fc P w K mg base x k ps (lentM zs p)) : Fc P w K mg base x k ps (PL.frzM zs p) := by
  obtain ⟨f, fd, h, r⟩ := c.ex
  exact ⟨f, fd, FnOk.frzM h, r⟩
theorem Fc.frrM {p : Fsr} (c : Fc P w K mg base x k ps (lentRM zs p)) : Fc P w K mg base x k ps (PL.frrM zs p) := by
  obtain ⟨f, fd, h, r⟩ := c.ex
  exact ⟨f, fd, FnOk.frrM h, r⟩
end
section
variable {α β : Type} {enc : α → List PyData} {pre : α → Prop} {zs : List Bool}
end
end PL

set_option Elab.async false
set_option linter.all false
set_option maxRecDepth 100000
set_option maxHeartbeats 3200000
namespace PL
open PySem PySem.Spec PyProof.Rows L2
section
variable {X : Cx}
end
section
variable {X : Cx} {B F0 : Hp} {W : WX} {e : Expr} {we : WE} {wa : WA} {p p2 pos pos2 : Pos} {tg : Expr}
structure pRg3 (i j c : Int) (k : Nat → Prop) : Prop where
  mk' ::
  out : ∃ n, RgC i j c n ∧ k n
theorem pRg3.mk {i j c : Int} {k : Nat → Prop} (n : Nat) (h : RgC i j c n) (q : k n) : pRg3 i j c k := ⟨⟨n, h, q⟩⟩
theorem RpDs.three {B : Hp} {w : Wd} {d e f : D} {vs : List V} (h : RpsW B w [d, e, f] vs) : ∃ v u t, vs = [v, u, t] ∧ RpW B w d v ∧ RpW B w e u ∧ RpW B w f t := by
  cases h with | cons a b => cases b with | cons c d => cases d with | cons e f => cases f; exact ⟨_, _, _, rfl, a, c, e⟩
end
end PL

set_option Elab.async false
set_option linter.all false
set_option maxRecDepth 100000
set_option maxHeartbeats 3200000
namespace PL
open PySem L2
section
variable {X : Cx} {B F0 : Hp} {W : WX} {scope : Scope} {pos pos2 pos3 p1 p2 p3 : Pos} {x y : Str} {jj : Option Nat}
end
end PL

set_option Elab.async false
set_option linter.all false
set_option maxRecDepth 100000
namespace PL
open PySem L2
end PL

set_option Elab.async false
set_option linter.all false
set_option maxRecDepth 100000
namespace PL
open PySem PySem.Spec L2

section
variable {X : Cx} {CX : CXT} {k : Nat} {f C : Addr} {fd : FuncData} {ps : List Str} {sp : Sp} {dvs : List V} {ds : List Value} {E : St → XK} {x m : Str} {p pos apos : Pos} {e o : Expr} {es : List Expr} {ta : TE} {t : TA}
def tMethSD (C : Addr) (m : Str) (sp : Sp) (dvs : List V) (E : St → XK) (ta : TE) (t : TA) : TE := fun σ H Q => ta σ H fun x H1 => ∃ a dx fs, x = .ref a ∧ H1 a = some (.ins C dx fs) ∧ fs.lookup m = none ∧ t σ H1 fun vs H2 => sp (x :: (vs ++ dvs)) H2 Q (E σ)
theorem pe_methSD {pl : Sem Bool} (he : PE X o ta) (c : Cls X.K C) (hm : Meth X.K C m f) (F : FnOk X.prog X.w X.K X.mg X.base CX k f fd ps sp) (hr : Room k X.A) (hb : Binds X.K fd ps ds) (hd : Vals dvs ds) (hx : ∀ σ, PassesAt CX X σ (E σ)) (ha : PA X (e :: es) t)
    (hst : starEach (e :: es) X.env = (false, eval e X.env) :: starEach es X.env := by rfl) (hpl : (backTo pos (starEach es X.env)).any (·.1) = false := by rfl)
    (ht : eval (.Call (.Attribute o m apos) (e :: es) [] pos) X.env = (do
      let ov ← eval o X.env
      standAt apos.atName
      let (f, first) ← holding [ov] (getMethod ov m pl)
      callWith pos f first (backTo pos (starEach (e :: es) X.env)) (backToKw pos (keywordEach [] X.env))) := by rfl) :
    PE X (.Call (.Attribute o m apos) (e :: es) [] pos) (tMethSD C m sp dvs E ta t) := by
  refine ⟨fun pins s σ H Q I h => ?_⟩
  refine PySem.W.methodCall_KW (pl := pl) (thn (he.run pins s σ H _ I h) fun u s1 ⟨x, H1, I1, rx, a, dx, fs, ex, ea, l, q⟩ => ?_) ht
  subst ex
  obtain rfl : u = Value.ref a := rx
  refine getmeth_ok I1 ea c hm l ?_
  refine PySem.W.callWith_K (first := [.ref a]) (h₀ := X.base) I.ok.mod.kin hm.kp (thn (ha.run pos pins s1 σ H1 _ I1 q) fun us s2 ⟨vs, H2, I2, r, q2⟩ => ⟨I2.kIn, ?_⟩) hst hpl
  exact run_fnSD (us := .ref a :: us) (vs := .ref a :: vs) F hr hb hd (hx σ) I2 (.cons rfl r) q2
theorem pe_methSD0 {pl : Sem Bool} (he : PE X o ta) (c : Cls X.K C) (hm : Meth X.K C m f) (F : FnOk X.prog X.w X.K X.mg X.base CX k f fd ps sp) (hr : Room k X.A) (hb : Binds X.K fd ps ds) (hd : Vals dvs ds) (hx : ∀ σ, PassesAt CX X σ (E σ))
    (ht : eval (.Call (.Attribute o m apos) [] [] pos) X.env = (do
      let ov ← eval o X.env
      standAt apos.atName
      let (f, first) ← holding [ov] (getMethod ov m pl)
      callWith pos f first (backTo pos (starEach [] X.env)) (backToKw pos (keywordEach [] X.env))) := by rfl) :
    PE X (.Call (.Attribute o m apos) [] [] pos) (tMethSD C m sp dvs E ta tNil) := by
  refine ⟨fun pins s σ H Q I h => ?_⟩
  refine PySem.W.methodCall_KW (pl := pl) (thn (he.run pins s σ H _ I h) fun u s1 ⟨x, H1, I1, rx, a, dx, fs, ex, ea, l, q⟩ => ?_) ht
  subst ex
  obtain rfl : u = Value.ref a := rx
  refine getmeth_ok I1 ea c hm l ?_
  exact PySem.W.callWith_K0 (first := [.ref a]) I1.kIn hm.kp (run_fnSD (us := [.ref a]) (vs := [.ref a]) F hr hb hd (hx σ) I1 (.cons rfl .nil) q)
def tMakeSD (C : Addr) (sp : Sp) (dvs : List V) (E : St → XK) (t : TA) : TE := fun σ H Q => t σ H fun vs H1 => ∀ x dx, H1 x = none → H1 dx = none → dx ≠ x →
  sp (.ref x :: (vs ++ dvs)) (upd (upd H1 dx (.own x)) x (.ins C dx [])) (fun v H2 => v = .non ∧ Q (.ref x) H2) (E σ)
theorem run_makeSD {pins : List (Addr × Obj)} {σ : St} {H : Hp} {s : Shared} {Q : VK} {us : List Value} {vs : List V} {E : XK} (M : Mk X.K C f) (F : FnOk X.prog X.w X.K X.mg X.base CX k f fd ps sp) (hr : Room (k + 1) X.A) (hb : Binds X.K fd ps ds) (hd : Vals dvs ds)
    (hx : PassesAt CX X σ E) (I : Inv X pins σ H s) (r : Vals vs us)
    (h : ∀ x dx, H x = none → H dx = none → dx ≠ x → sp (.ref x :: (vs ++ dvs)) (upd (upd H dx (.own x)) x (.ins C dx [])) (fun v H2 => v = .non ∧ Q (.ref x) H2) E) :
    wpAny (model X.prog X.w) X.A (call (.ref C) us) (EP X pins σ Q) X.xe s := by
  have hq := h (s.heap.objs.size + 1) s.heap.objs.size (I.hok.fresh (Nat.le_succ _)) (I.hok.fresh (Nat.le_refl _)) (Nat.ne_of_lt (Nat.lt_succ_self _))
  have I2 := Inv.made (C := C) I
  have r2 : Vals (V.ref (s.heap.objs.size + 1) :: (vs ++ dvs)) (Value.ref (s.heap.objs.size + 1) :: (us ++ ds)) := .cons rfl (r.append hd)
  have hl : (Value.ref (s.heap.objs.size + 1) :: us ++ ds).length = ps.length := by
    have e := r2.length
    rw [F.len _ _ _ _ hq] at e
    exact e.symm
  refine wpAny_call (make_map (f := f) I.kIn M.makes M.init (beq_iff_eq.mp M.fn) (codeAny_mono (F.run _ X.stack _ _ ⟨Value.ref (s.heap.objs.size + 1) :: us, []⟩ (Value.ref (s.heap.objs.size + 1) :: (us ++ ds)) _ _ E (hr.make C us [])
    (I2.env0.make C us []) (hb _ (Value.ref (s.heap.objs.size + 1) :: us) I2.kIn hl) r2 hq) fun r s' hq' => ?_))
  cases r with
  | error e => exact hx pins _ _ e s' I2 hq'
  | ok fl =>
    cases fl with
    | ret u =>
      obtain ⟨v, H', I3, rv, ev, q3⟩ := I2.after hq'
      subst ev
      exact ⟨rv, ⟨V.ref (s.heap.objs.size + 1), H', I3, rfl, q3⟩⟩
    | next => exact False.elim hq'
    | brk => exact False.elim hq'
    | cont => exact False.elim hq'
theorem pe_makeSD (M : Mk X.K C f) (F : FnOk X.prog X.w X.K X.mg X.base CX k f fd ps sp) (hr : Room (k + 1) X.A) (hg : Gl X x) (hm : X.mg x = some (.ref C)) (hb : Binds X.K fd ps ds) (hd : Vals dvs ds) (hx : ∀ σ, PassesAt CX X σ (E σ))
    (ha : PA X (e :: es) t) (hdb : (x == ("__debug__" : Str)) = false := by decide) (he : starEach (e :: es) X.env = (false, eval e X.env) :: starEach es X.env := by rfl) (hpl : (backTo pos (starEach es X.env)).any (·.1) = false := by rfl) :
    PE X (.Call (.Name x p) (e :: es) [] pos) (tMakeSD C sp dvs E t) := by
  refine ⟨fun pins s σ H Q I h => ?_⟩
  refine wpAny_Call_Name_kw (ld_glob I hg hm ?_ hdb)
  refine PySem.W.callWith_K (h₀ := X.base) I.ok.mod.kin M.kp (thn (ha.run pos pins s σ H _ I h) fun us s1 ⟨vs, H1, I1, r, q⟩ => ⟨I1.kIn, ?_⟩) he hpl
  exact run_makeSD M F hr hb hd (hx σ) I1 r q
end

def pObj (C : Addr) (x : D) (S : Sto) (k : Nat → List (Str × D) → Prop) : Prop := match x with
  | .r n => pGet S[n]? fun o => match o with
    | .ins C' fs => pReq (C' = C) (k n fs)
    | _ => False
  | _ => False
theorem pObj.get {C : Addr} {x : D} {S : Sto} {k : Nat → List (Str × D) → Prop} (h : pObj C x S k) : ∃ n fs, x = .r n ∧ S[n]? = some (.ins C fs) ∧ k n fs := by
  unfold pObj at h
  split at h
  · rename_i n
    obtain ⟨o, e, h⟩ := h.out
    cases o with
    | lst _ => exact h.elim
    | dic _ => exact h.elim
    | kd _ _ => exact h.elim
    | ins C' fs =>
      obtain ⟨ec, h2⟩ := pReq.out h
      subst ec
      exact ⟨n, fs, rfl, e, h2⟩
  · exact h.elim
theorem pObj.mk {C : Addr} {n : Nat} {S : Sto} {fs : List (Str × D)} {k : Nat → List (Str × D) → Prop} (h : S[n]? = some (.ins C fs)) (q : k n fs) : pObj C (.r n) S k := pGet.mk h (pReq.mk rfl q)
def putFD (f : Str) (d : D) : List (Str × D) → List (Str × D)
  | [] => [(f, d)]
  | (g, x) :: r => if g = f then (g, d) :: r else (g, x) :: putFD f d r
def pFld (C : Addr) (f : Str) : P1 := fun x S K => pObj C x S fun _ fs => pGet (fs.lookup f) fun d => K d S
def wFldS (C : Addr) (f : Str) (wo we : WE) : WS := fun k env S => we env S (fun d S1 => wo env S1 (fun x S2 => pObj C x S2 fun n fs => pReq (fs.length < 1000) (k.nx env (S2.set n (.ins C (putFD f d fs))))) k.ex) k.ex
def wOMth (C : Addr) (m : Str) (sp : Spc) (wo : WE) (wa : WA) : WE := fun env S K KX => wo env S (fun x S1 => pObj C x S1 fun _ fs => pReq (fs.lookup m = none) (wa env S1 (fun ds S2 => pCall sp (x :: ds) S2 K fun y S3 => KX y env S3) KX)) KX
def wONew (C : Addr) (sp : Spc) (wa : WA) : WE := fun env S K KX => wa env S (fun ds S1 => pCall sp (.r S1.length :: ds) (S1 ++ [.ins C []]) (fun d S2 => pReq (d = .z .none) (K (.r S1.length) S2)) fun y S2 => KX y env S2) KX
section
variable {B F : Hp} {μ : Nat → Addr} {n : Nat}
abbrev FsR (B F : Hp) (μ : Nat → Addr) (n : Nat) : List (Str × D) → List (Str × V) → Prop := Paired fun (p : Str × D) (q : Str × V) => p.1 = q.1 ∧ RpD B F μ n p.2 q.2
theorem FsR.look {f : Str} : ∀ {fs : List (Str × D)} {vs : List (Str × V)}, FsR B F μ n fs vs → (fs.lookup f = none ∧ vs.lookup f = none) ∨ ∃ d v, fs.lookup f = some d ∧ vs.lookup f = some v ∧ RpD B F μ n d v
  | _, _, .nil => .inl ⟨rfl, rfl⟩
  | (g, d) :: fs, (g', v) :: vs, .cons ⟨e, r⟩ t => by
    dsimp only at e r
    subst e
    by_cases h : f = g
    · subst h
      exact .inr ⟨d, v, by simp, by simp, r⟩
    · have hb : (f == g) = false := beq_eq_false_iff_ne.mpr h
      rw [List.lookup_cons, List.lookup_cons, hb]
      exact FsR.look t
theorem FsR.put {f : Str} {d : D} {v : V} (r : RpD B F μ n d v) : ∀ {fs : List (Str × D)} {vs : List (Str × V)}, FsR B F μ n fs vs → FsR B F μ n (putFD f d fs) (putF f v vs)
  | _, _, .nil => .cons ⟨rfl, r⟩ .nil
  | (g, x) :: fs, (g', y) :: vs, .cons ⟨e, q⟩ t => by
    dsimp only at e q
    subst e
    unfold putFD putF
    by_cases h : g = f
    · rw [if_pos h, if_pos h]; exact .cons ⟨rfl, r⟩ t
    · rw [if_neg h, if_neg h]; exact .cons ⟨rfl, q⟩ (FsR.put r t)
end
structure Fm (P : Program) (w : World) (K : PySem.W.Frag) (mg : Str → Option Value) (base : Heap) (C : Addr) (m : Str) (k : Nat) (ps : List Str) (sp : Spc) : Prop where
  ex : ∃ (f : Addr) (fd : FuncData), FnOk P w K mg base (L2N.CX P w) k f fd ps (spOf sp) ∧ Meth K C m f ∧ Binds K fd ps []
structure Fk (P : Program) (w : World) (K : PySem.W.Frag) (mg : Str → Option Value) (base : Heap) (x : Str) (C : Addr) (k : Nat) (ps : List Str) (sp : Spc) : Prop where
  ex : ∃ (f : Addr) (fd : FuncData), FnOk P w K mg base (L2N.CX P w) k f fd ps (spOf sp) ∧ Mk K C f ∧ mg x = some (.ref C) ∧ Binds K fd ps []
section
variable {X : Cx} {B F0 : Hp} {W : WX} {e o value : Expr} {es : List Expr} {wa : WA} {we wo : WE} {x m f : Str} {p pos pos' apos : Pos} {k : Nat} {ps : List Str} {sp : Spc} {C : Addr}
theorem xfld (c : Cls X.K C) (na : NoAttr X.K C f) (he : PX X B F0 W e we) (hb : attributeBase e f X.env (eval e X.env) = eval e X.env := by rfl) : PX X B F0 W (.Attribute e f pos) (w1 (pFld C f) we) := wkE (pe_fld he hb) fun σ H Q h => by
  obtain ⟨w, env, K, KX, R, E, h, k, kx⟩ := h
  refine ⟨w, env, _, KX, R, E, h, fun x S1 v H1 μ1 F1 R1 X1 r1 h1 => ?_, kx⟩
  obtain ⟨n, fs, rfl, e1, h1⟩ := pObj.get h1
  obtain ⟨d, hd, h1⟩ := h1.out
  obtain ⟨dx, vs, hv, rv⟩ := R1.ob _ _ e1
  cases r1 with
  | r hi =>
    rcases FsR.look (f := f) rv with ⟨a, _⟩ | ⟨d', z, a, hz, rz⟩
    · rw [hd] at a; cases a
    · rw [hd] at a; cases a
      exact ⟨_, C, dx, vs, z, rfl, hv, c, na, hz, k _ _ _ _ _ _ R1 X1 rz h1⟩
theorem xfldS (c : Cls X.K C) (na : NoAttr X.K C f) (ho : PX X B F0 W o wo) (hv : PX X B F0 W value we) (hs : swapsWith value (some (.Attribute o f pos')) pos.line X.env = pure false := by rfl) : PXS X B F0 W (.Assign [.Attribute o f pos'] value pos) (wFldS C f wo we) := wkS (ps_fld ho hv hs) fun D σ H h => by
  obtain ⟨w, env, k, R, E, h, fi⟩ := h
  refine ⟨w, env, _, _, R, E, h, fun d S1 v H1 μ1 F1 R1 X1 r1 h1 => ?_, fi.toX E⟩
  refine ⟨⟨μ1, S1, F1⟩, env, _, _, R1, E.xt X1, h1, fun x S2 u H2 μ2 F2 R2 X2 r2 h2 => ?_, (fi.xt X1).toX (E.xt X1)⟩
  obtain ⟨n, fs, rfl, e1, h2⟩ := pObj.get h2
  obtain ⟨hl, h2⟩ := pReq.out h2
  obtain ⟨dx, vs, hv, rv⟩ := R2.ob _ _ e1
  cases r2 with
  | r hi =>
    refine ⟨_, C, dx, vs, rfl, hv, c, na, by rw [← Paired.length rv]; exact hl, ?_⟩
    obtain ⟨R3, X3⟩ := R2.write (n := n) (u := .ins C dx (putF f v vs)) (o := .ins C (putFD f d fs)) hi fun G hG => ⟨dx, _, hG, FsR.put (r1.xt X2) rv⟩
    exact fi.nx _ _ _ _ _ _ R3 ((X1.trans X2).trans X3) (((E.xt X1).xt X2).xt X3) h2
theorem xmeth {pl : Sem Bool} (c : Cls X.K C) (cm : Fm X.prog X.w X.K X.mg X.base C m k ps sp) (hr : Room k X.A) (tk : L2N.Takes X W) (he : PX X B F0 W o wo) (ha : PXA X B F0 W (e :: es) wa)
    (hst : starEach (e :: es) X.env = (false, eval e X.env) :: starEach es X.env := by rfl) (hpl : (backTo pos (starEach es X.env)).any (·.1) = false := by rfl)
    (ht : eval (.Call (.Attribute o m apos) (e :: es) [] pos) X.env = (do
      let ov ← eval o X.env
      standAt apos.atName
      let (f, first) ← holding [ov] (getMethod ov m pl)
      callWith pos f first (backTo pos (starEach (e :: es) X.env)) (backToKw pos (keywordEach [] X.env))) := by rfl) :
    PX X B F0 W (.Call (.Attribute o m apos) (e :: es) [] pos) (wOMth C m sp wo wa) := by
  obtain ⟨f, fd, F, hm, hb⟩ := cm.ex
  refine wkE (pe_methSD (E := fun σ cls d H => W cls d σ H) (dvs := []) he c hm F hr hb .nil (fun σ => L2N.passAt tk σ) ha hst hpl ht) fun σ H Q h => ?_
  obtain ⟨w, env, K, KX, R, E, h, k, kx⟩ := h
  refine ⟨w, env, _, KX, R, E, h, fun x S1 v H1 μ1 F1 R1 X1 r1 h1 => ?_, kx⟩
  obtain ⟨n, fs, rfl, e1, h1⟩ := pObj.get h1
  obtain ⟨hl, h1⟩ := pReq.out h1
  obtain ⟨dx, vs, hv, rv⟩ := R1.ob _ _ e1
  cases r1 with
  | r hi =>
    refine ⟨_, dx, vs, rfl, hv, ?_, ⟨μ1, S1, F1⟩, env, _, KX, R1, E.xt X1, h1, fun ds S2 us H2 μ2 F2 R2 X2 r2 h2 => ?_, kx.xt X1⟩
    · rcases FsR.look (f := m) rv with ⟨_, a⟩ | ⟨d', z, a, hz, rz⟩
      · exact a
      · rw [hl] at a; cases a
    · show spOf sp (V.ref (μ1 n) :: (us ++ [])) H2 Q _
      rw [List.append_nil]
      have q0 : RpD B F2 μ2 S2.length (.r n) (.ref (μ1 n)) := (RpD.r (B := B) (F := F1) hi).xt X2
      exact ⟨B, F0, ⟨μ2, S2, F2⟩, .r n :: ds, K, _, R2, .cons q0 r2, h2.out, k.xt (X1.trans X2), fun y S3 H3 μ3 F3 cls dd R3 X3 r3 h4 => kx y S3 H3 μ3 F3 cls dd R3 ((X1.trans X2).trans X3) r3 h4⟩
theorem xmeth0 {pl : Sem Bool} (c : Cls X.K C) (cm : Fm X.prog X.w X.K X.mg X.base C m k ps sp) (hr : Room k X.A) (tk : L2N.Takes X W) (he : PX X B F0 W o wo)
    (ht : eval (.Call (.Attribute o m apos) [] [] pos) X.env = (do
      let ov ← eval o X.env
      standAt apos.atName
      let (f, first) ← holding [ov] (getMethod ov m pl)
      callWith pos f first (backTo pos (starEach [] X.env)) (backToKw pos (keywordEach [] X.env))) := by rfl) :
    PX X B F0 W (.Call (.Attribute o m apos) [] [] pos) (wOMth C m sp wo wNil) := by
  obtain ⟨f, fd, F, hm, hb⟩ := cm.ex
  refine wkE (pe_methSD0 (E := fun σ cls d H => W cls d σ H) (dvs := []) he c hm F hr hb .nil (fun σ => L2N.passAt tk σ) ht) fun σ H Q h => ?_
  obtain ⟨w, env, K, KX, R, E, h, k, kx⟩ := h
  refine ⟨w, env, _, KX, R, E, h, fun x S1 v H1 μ1 F1 R1 X1 r1 h1 => ?_, kx⟩
  obtain ⟨n, fs, rfl, e1, h1⟩ := pObj.get h1
  obtain ⟨hl, h1⟩ := pReq.out h1
  obtain ⟨dx, vs, hv, rv⟩ := R1.ob _ _ e1
  cases r1 with
  | r hi =>
    refine ⟨_, dx, vs, rfl, hv, ?_, ?_⟩
    · rcases FsR.look (f := m) rv with ⟨_, a⟩ | ⟨d', z, a, hz, rz⟩
      · exact a
      · rw [hl] at a; cases a
    · exact ⟨B, F0, ⟨μ1, S1, F1⟩, [.r n], K, _, R1, .cons (.r hi) .nil, h1.out, k.xt X1, fun y S3 H3 μ3 F3 cls dd R3 X3 r3 h4 => kx y S3 H3 μ3 F3 cls dd R3 (X1.trans X3) r3 h4⟩
theorem xmake (ck : Fk X.prog X.w X.K X.mg X.base x C k ps sp) (hr : Room (k + 1) X.A) (tk : L2N.Takes X W) (hg : Gl X x) (ha : PXA X B F0 W (e :: es) wa)
    (hdb : (x == ("__debug__" : Str)) = false := by decide) (he : starEach (e :: es) X.env = (false, eval e X.env) :: starEach es X.env := by rfl) (hpl : (backTo pos (starEach es X.env)).any (·.1) = false := by rfl) : PX X B F0 W (.Call (.Name x p) (e :: es) [] pos) (wONew C sp wa) := by
  obtain ⟨f, fd, F, M, hm, hb⟩ := ck.ex
  refine wkE (pe_makeSD (E := fun σ cls d H => W cls d σ H) (dvs := []) M F hr hg hm hb .nil (fun σ => L2N.passAt tk σ) ha hdb he hpl) fun σ H Q h => ?_
  obtain ⟨w, env, K, KX, R, E, h, k, kx⟩ := h
  refine ⟨w, env, _, KX, R, E, h, fun ds S1 vs H1 μ1 F1 R1 X1 r1 h1 => fun a dx ha hdx hne => ?_, kx⟩
  have hx2 : (upd H1 dx (.own a)) a = none := by rw [upd_ne (Ne.symm hne)]; exact ha
  obtain ⟨R2, X2⟩ := (R1.junk (.own a) hdx).grow (p := a) (u := .ins C dx []) (o := .ins C []) hx2 fun G hG => ⟨dx, [], hG, .nil⟩
  have em : muX μ1 S1.length a S1.length = a := by unfold muX; rw [if_pos rfl]
  have q0 : RpD B F1 (muX μ1 S1.length a) (S1 ++ [Ob.ins C []]).length (.r S1.length) (.ref a) := by
    have := RpD.r (B := B) (F := F1) (μ := muX μ1 S1.length a) (n := (S1 ++ [Ob.ins C []]).length) (i := S1.length) (by simp)
    rw [em] at this; exact this
  rw [List.append_nil]
  refine ⟨B, F0, ⟨muX μ1 S1.length a, S1 ++ [.ins C []], F1⟩, .r S1.length :: ds, _, _, R2, .cons q0 (r1.xt X2), h1.out, fun d S3 v H3 μ3 F3 R3 X3 r3 h3 => ?_, fun y S3 H3 μ3 F3 cls dd R3 X3 r3 h4 => kx y S3 H3 μ3 F3 cls dd R3 ((X1.trans X2).trans X3) r3 h4⟩
  obtain ⟨ed, h4⟩ := pReq.out h3
  subst ed
  refine ⟨by cases r3 with | z q => cases q; rfl, ?_⟩
  exact k _ _ _ _ _ _ R3 ((X1.trans X2).trans X3) (q0.xt X3) h4
end
end PL

set_option Elab.async false
set_option linter.all false
set_option maxRecDepth 100000
namespace PL
open PySem PySem.Spec PyProof.Rows L2
def clsSt (s : Stmt) (j : Nat) : Stmt := match s with
  | .ClassDef _ _ _ b _ _ _ _ _ _ _ => b.getD j (.Pass ⟨0, 0, 0, 0⟩)
  | _ => .Pass ⟨0, 0, 0, 0⟩
abbrev dm (c m q : Str) (st : Stmt) (dfl : List He.Dv) : He.DefD := ⟨(c, some m), m, q, defArgs st, defBody st, defScope st, dfl, []⟩
theorem fnpxD {P : Program} {w : World} {K : PySem.W.Frag} {mg : Str → Option Value} {base : Heap} {x qual : Str} {st : Stmt} {dvs : List V} {kws : List (Str × V)} {f : Addr} {fd : FuncData} {N ps : List Str} {k : Nat} {sp : Spc} {ws : WS} (F : FunD K x qual (defArgs st) (defBody st) (defScope st) dvs kws f fd) (S : FnScope N ps (defScope st))
    (hl : ∀ ds S K KX, sp ds S K KX → ds.length = ps.length)
    (hb : ∀ (cdv : Value) (A : Around) (outer : List PySem.Env) (s : Shared) (H : Hp) (E : XK) (B F0 : Hp), Room k (A.deeper (PyProof.Rows.envOfC qual (defScope st) s.heap.objs.size f cdv)) → L2N.Takes (cxOf (L2N.CX P w) P w K mg base N qual (defScope st) f cdv A outer s H E) (wE E) →
      PassesOwn (model P w) (cxOf (L2N.CX P w) P w K mg base N qual (defScope st) f cdv A outer s H E).A (cxOf (L2N.CX P w) P w K mg base N qual (defScope st) f cdv A outer s H E).env (cxOf (L2N.CX P w) P w K mg base N qual (defScope st) f cdv A outer s H E).xe →
      PXB (cxOf (L2N.CX P w) P w K mg base N qual (defScope st) f cdv A outer s H E) B F0 (wE E) (defBody st) ws)
    (hs : ∀ ds S K KX, sp ds S K KX → ws { nx := fun _ S1 => K (.z .none) S1, rt := K, ex := fun y _ S1 => KX y S1 } (startE N ds) S) : FnOk P w K mg base (L2N.CX P w) (k + 1) f fd ps (spOf sp) := by
  refine F.ok S (fun vs H Q E h => ?_) (fun cdv A outer s H vs Q E hr h => ?_)
  · obtain ⟨B, F0, w', ds, K', KX, _, r, h, _⟩ := h
    rw [← r.length]
    exact hl _ _ _ _ h
  · obtain ⟨B, F0, w', ds, K', KX, R, r, h, k', kx⟩ := h
    refine ⟨_, hb cdv A outer s H E B F0 hr (L2N.takes_of rfl rfl rfl rfl) (passes_of rfl), w', _, _, R, startE_ok r, hs _ _ _ _ h, ⟨fun env S σ H μ F R X _ q => ?_, k', fun _ _ _ _ _ _ _ _ _ q => q.elim, fun _ _ _ _ _ _ _ _ _ q => q.elim, fun y env S σ H μ F cls dd R X _ r q => ?_⟩⟩
    · exact k' _ _ _ _ _ _ R X (.z .non) q
    · exact kx y S H μ F cls dd R X r q
section
variable {P : Program} {w : World} {K : PySem.W.Frag} {mg : Str → Option Value} {base : Heap} {c m q : Str} {k : Nat} {ps : List Str} {sp : Spc} {st : Stmt} {fd : FuncData}
theorem fm_mk (FD : FunD K m q (defArgs st) (defBody st) (defScope st) [] [] (He.fAd K (c, some m)) fd) (ok : FnOk P w K mg base (L2N.CX P w) k (He.fAd K (c, some m)) fd ps (spOf sp)) (hm : (He.Fa.meth c m).ok K = true)
    (hb : ∀ (kV doc pm : Value) (an : Option Addr) (cdv ct : Value) (us : List Value), us.length = ps.length → bindArgs (PySem.W.fnOf m q (defArgs st) (defBody st) (defScope st) .none kV doc pm an cdv ct) ⟨us, []⟩ = pure (ps.zip us)) : Fm P w K mg base (He.ga K c) m k ps sp :=
  ⟨_, fd, ok, He.meth_ok hm, (fun_of FD).binds hb⟩
theorem fk_mk {h : Heap} (X : K.In h) (G : h.Ns mainGlobals mg) (FD : FunD K "__init__" q (defArgs st) (defBody st) (defScope st) [] [] (He.fAd K (c, some "__init__")) fd) (ok : FnOk P w K mg base (L2N.CX P w) k (He.fAd K (c, some "__init__")) fd ps (spOf sp)) (hm : (He.Fa.mkr c).ok K = true) (g : (He.Fa.glo c).ok K = true)
    (hb : ∀ (kV doc pm : Value) (an : Option Addr) (cdv ct : Value) (us : List Value), us.length = ps.length → bindArgs (PySem.W.fnOf "__init__" q (defArgs st) (defBody st) (defScope st) .none kV doc pm an cdv ct) ⟨us, []⟩ = pure (ps.zip us)) : Fk P w K mg base c (He.ga K c) k ps sp :=
  ⟨_, fd, ok, He.mkr_ok hm, He.glo_ok X G g, (fun_of FD).binds hb⟩
end
end PL

set_option Elab.async false
set_option linter.all false
set_option maxRecDepth 100000
namespace PL
open PySem PySem.Spec PyProof.Rows L2
end PL

set_option Elab.async false
set_option linter.all false
set_option maxRecDepth 100000
namespace PL
open PySem PySem.Spec PyProof.Rows L2
structure FmI (P : Program) (w : World) (K : PySem.W.Frag) (mg : Str → Option Value) (base : Heap) (C : Addr) (m : Str) (k : Nat) (ps : List Str) (i : Int) (sp : Spc) : Prop where
  ex : ∃ (f : Addr) (fd : FuncData) (ds : List Value), FnOk P w K mg base (L2N.CX P w) k f fd ps (spOf sp) ∧ Meth K C m f ∧ Vals [V.int i] ds ∧ Binds K fd ps ds
theorem RpDs.app {B F : Hp} {μ : Nat → Addr} {n : Nat} : ∀ {ds es : List D} {vs us : List V}, RpDs B F μ n ds vs → RpDs B F μ n es us → RpDs B F μ n (ds ++ es) (vs ++ us)
  | [], _, _, _, h, k => by cases h; exact k
  | d :: ds, _, _, _, h, k => by cases h with | cons a b => exact .cons a (RpDs.app b k)
section
variable {X : Cx} {B F0 : Hp} {W : WX} {e o value : Expr} {es : List Expr} {wa : WA} {we wo : WE} {x m f : Str} {p pos pos' apos : Pos} {k : Nat} {ps : List Str} {sp : Spc} {C : Addr} {i : Int}
end
section
variable {P : Program} {w : World} {K : PySem.W.Frag} {mg : Str → Option Value} {base : Heap} {k : Nat} {ps : List Str} {sp : Spc} {c m q : Str} {st : Stmt} {fd : FuncData}
end
end PL

set_option Elab.async false
set_option linter.all false
set_option maxRecDepth 100000
namespace PL
open PySem PySem.Spec PyProof.Rows L2
structure FcI (P : Program) (w : World) (K : PySem.W.Frag) (mg : Str → Option Value) (base : Heap) (x : Str) (k : Nat) (ps : List Str) (i : Int) (sp : Spc) : Prop where
  ex : ∃ (f : Addr) (fd : FuncData) (ds : List Value), FnOk P w K mg base (L2N.CX P w) k f fd ps (spOf sp) ∧ mg x = some (.ref f) ∧ PySem.W.keepIn K (.ref f) = true ∧ Vals [V.int i] ds ∧ Binds K fd ps ds
theorem FcI.frz {P : Program} {w : World} {K : PySem.W.Frag} {mg : Str → Option Value} {base : Heap} {x : Str} {k : Nat} {ps : List Str} {i : Int} {p : Fsp} (c : FcI P w K mg base x k ps i (lent p)) : FcI P w K mg base x k ps i (PL.frz p) := by
  obtain ⟨f, fd, ds, h, r⟩ := c.ex
  exact ⟨f, fd, ds, FnOk.frz h, r⟩
theorem FcI.frr {P : Program} {w : World} {K : PySem.W.Frag} {mg : Str → Option Value} {base : Heap} {x : Str} {k : Nat} {ps : List Str} {i : Int} {p : Fsr} (c : FcI P w K mg base x k ps i (lentR p)) : FcI P w K mg base x k ps i (PL.frr p) := by
  obtain ⟨f, fd, ds, h, r⟩ := c.ex
  exact ⟨f, fd, ds, FnOk.frr h, r⟩
section
variable {X : Cx} {B F0 : Hp} {W : WX} {e : Expr} {es : List Expr} {wa : WA} {x : Str} {p pos : Pos} {k : Nat} {ps : List Str} {sp : Spc} {i : Int}
end
section
variable {P : Program} {w : World} {K : PySem.W.Frag} {mg : Str → Option Value} {base h : Heap} {x : Str} {k : Nat} {ps : List Str} {sp : Spc} {st : Stmt} {fd : FuncData}
end
end PL

set_option Elab.async false
set_option linter.all false
set_option maxRecDepth 100000
namespace PL
open PySem PySem.Spec PyProof.Rows L2
section
variable {X : Cx} {e : Expr} {es : List Expr} {ta : TA} {p pos : Pos}
end
section
variable {X : Cx} {x : Str} {c : Value} {body suite : List Stmt} {b₀ : Stmt} {np pos pos' : Pos} {tb : WX → TS} {ts : Addr → Value → Option Addr → TS} {Wout : WX}
end
end PL

set_option Elab.async false
set_option linter.all false
set_option maxRecDepth 100000
namespace PL
open PySem PySem.Spec PyProof.Rows L2

def spXI (C : Addr) (ns : List Str) : L2.Sp := fun vs H Q _ => ∃ (a : Addr) (ws : List V), vs = .ref a :: ws ∧ ws.length = ns.length ∧ H a = some (exo a C none) ∧
  ∀ (d : Addr) (H' : Hp), H d = none → d ≠ a → (∀ b, b ≠ d → b ≠ a → H' b = H b) → H' a = some (exo a C (some d)) → H' d = some (exd d (ns.zip ws).reverse) → Q .non H'
structure Fx (P : Program) (w : World) (K : PySem.W.Frag) (mg : Str → Option Value) (base : Heap) (x : Str) (C : Addr) (k : Nat) (ps ns : List Str) : Prop where
  ex : ∃ (f : Addr) (fd : FuncData), FnOk P w K mg base (L2N.CX P w) k f fd ps (spXI C ns) ∧ OexC K C ∧ PySem.W.findIn K (.ref C) "__init__" = some (some (.ref f)) ∧ PySem.W.typeIn K (.ref f) = some (.type "function") ∧ Binds K fd ps [] ∧ mg x = some (.ref C)
section
variable {X : Cx} {B F0 : Hp} {W : WX} {e : Expr} {es : List Expr} {wa : WA} {x : Str} {p pos pos2 : Pos} {k : Nat} {ps ns : List Str} {C : Addr}
end
theorem Rl.all {B F0 F H : Hp} {μ : Nat → Addr} {S : Sto} (R : Rl B F0 μ S F H) : Rl B F μ S F H := ⟨R.bh, R.fh, Sub.refl _, fun _ _ e => .inl e, R.inj, R.nb, R.nf, R.ob⟩
theorem Rl.less {B F0 F1 F H : Hp} {μ : Nat → Addr} {S : Sto} (R : Rl B F1 μ S F H) (h0 : Sub F0 F1) (hn : ∀ a o, F1 a = some o → F0 a = some o ∨ B a = none) : Rl B F0 μ S F H := ⟨R.bh, R.fh, h0.trans R.f0, fun a o e => (R.fn a o e).elim (hn a o) .inr, R.inj, R.nb, R.nf, R.ob⟩
section
variable {X : Cx} {B F0 : Hp} {W : WX} {x n : Str} {c : Value} {i : Nat} {body suite : List Stmt} {b₀ : Stmt} {np pos pos' : Pos} {b : WS} {h : Addr → Value → List (Str × PyData) → WS} {kn : Value → Prop} {mt : Value → Bool}
end
section
variable {X : Cx} {B F0 : Hp} {W : WX} {n f : Str} {C : Addr} {i : Nat} {a : Addr} {v : Value} {d : Option Addr} {oe : Obj} {fs : List (Str × PyData)} {pn : List (Addr × Obj)} {p pos : Pos}
end
section
variable {X : Cx} {B F0 : Hp} {W : WX} {x : Str} {c : Value} {body suite : List Stmt} {b₀ : Stmt} {np pos pos' : Pos} {b h : WS} {kn : Value → Prop} {mt : Value → Bool}
end
end PL
namespace PL
open PySem L2
def fsrE {α : Type} (enc : α → List PyData) (pre : α → Prop) (out : α → Except Ex RT) : Fsr := fun es k kx => ∃ a, es = enc a ∧ pre a ∧ (∀ r, out a = .ok r → k r) ∧ ∀ x, out a = .error x → kx x
theorem fsrE_len {α : Type} {enc : α → List PyData} {pre : α → Prop} {out : α → Except Ex RT} {n : Nat} (h : ∀ a, (enc a).length = n) : ∀ ds S K KX, lentR (fsrE enc pre out) ds S K KX → ds.length = n := by
  rintro ds S K KX ⟨es, kd, kx, rfl, rfl, ⟨a, rfl, _, _⟩, _⟩
  rw [List.length_map]; exact h a
end PL

set_option Elab.async false
set_option linter.all false
set_option maxRecDepth 100000
namespace PL
open PySem PySem.Spec PyProof.Rows L2

section
variable {rp rf handled checked : List Str} {K : PySem.W.Frag} {mg : Str → Option Value}
end
end PL

set_option Elab.async false
set_option linter.all false
set_option maxRecDepth 100000
set_option maxHeartbeats 1000000
namespace PL
open PySem PySem.Spec PyProof.Rows L2
section
variable {X : Cx} {B F0 : Hp}
end
end PL

set_option Elab.async false
set_option linter.all false
set_option maxRecDepth 100000
set_option maxHeartbeats 1000000
namespace PL
open PySem L2
section
variable {X : Cx} {B F0 : Hp}
end
end PL

set_option Elab.async false
set_option linter.all false
set_option maxRecDepth 100000
set_option maxHeartbeats 1000000
namespace PL
open PySem L2
open PyProof.Rows (IsTup)
section
variable {X : Cx} {B F0 : Hp}
variable {o e : Expr} {es : List Expr} {to : TE} {t : TA} {name : Str} {apos cpos : Pos} {id : String} {r : V → List V → Hp → VK → Prop}
end
section
variable {X : Cx} {B F0 : Hp} {W : WX} {e a : Expr} {es : List Expr} {we : WE} {wl wh : WO} {wa : WA} {lo hi : Option Expr} {pos p2 apos cpos : Pos}
end
end PL

set_option Elab.async false
set_option linter.all false
set_option maxRecDepth 100000
namespace PL
open PySem PySem.Spec PyProof.Rows L2 L2H HotX

section
open PySem.W PySem.Calls
variable {prog : Program} {w : World} {A : Around} {E : Value → Shared → Prop} {s : Shared} {K : PySem.W.Frag} {e1 D1 : Addr} {oy : Obj} {dy : Option Obj}
end
def XdIn (H : Hp) (d : Option Addr) : Prop := ∀ dd, d = some dd → ∃ ws, H dd = some (.xd ws)
theorem XdIn.mono {H H' : Hp} {d : Option Addr} (h : XdIn H d) (s : Sub H H') : XdIn H' d := fun dd e => by
  obtain ⟨ws, q⟩ := h dd e
  exact ⟨ws, s _ _ q⟩
section
variable {X : Cx} {B F0 : Hp} {W : WX} {y n : Str} {C D : Addr} {i : Nat} {a : Addr} {b : Bool} {oe : Obj} {d : Option Addr} {p p2 p3 pos : Pos}
end
end PL

set_option Elab.async false
set_option linter.all false
set_option maxRecDepth 100000
namespace PL
open PySem PySem.Spec PyProof.Rows L2 L2H HotX
def RgAt (it : Addr) (lo : Int) (n i : Nat) (h : Heap) : Prop := IsRangeIter h it (lo + (i : Nat) * 1) ((n : Int) - (i : Nat)) 1
structure PRg (X : Cx) (tg iter : Expr) (wi : L2.St → Hp → (Int → Nat → Hp → Prop) → Prop) : Prop where
  run : ∀ (pins : List (Addr × Obj)) (s : Shared) (σ : L2.St) (H : Hp) (R : Int → Nat → Hp → Prop), Inv X pins σ H s → wi σ H R →
    wpAny (model X.prog X.w) X.A (eval iter X.env) (fun v s1 => wpAny (model X.prog X.w) X.A (pyIter v) (fun itv s2 => ∃ it lo n H', itv = .ref it ∧ Inv X pins σ H' s2 ∧ RgAt it lo n 0 s2.heap ∧ FpOk X pins H' it ∧ R lo n H') X.xe s1) X.xe s
end PL

set_option Elab.async false
set_option linter.all false
set_option maxRecDepth 100000
namespace PL
open PySem PySem.Spec PyProof.Rows L2 L2H HotX

section
variable {X : Cx} {B F0 : Hp} {W : WX}
end

structure FnHX (P : Program) (w : World) (K : PySem.W.Frag) (mg : Str → Option Value) (base : Heap) (CX : CXT) (k : Nat) (f : Addr) (fd : FuncData) (ps : List Str) (sp : Addr × Obj → Sp) : Prop where
  len : ∀ q vs H Q E, sp q vs H Q E → vs.length = ps.length
  run : ∀ (A : Around) (outer : List PySem.Env) (s : Shared) (H : Hp) (args : Args) (us : List Value) (vs : List V) (Q : VK) (E : XK) (q : Addr × Obj), RoomH k A → Hot1 A q → PinOk outer H s q → Env0 P w K mg base A outer s H → BindsTo s fd args (ps.zip us) → Vals vs us → sp q vs H Q E →
    codeAny (model P w) A (.call (.ref f) args) (CR CX outer P w H s Q E) s
abbrev SpcE := Value → List D → Sto → K1 → Prop
def spOfE (kn : Value → Prop) (sp : SpcE) (q : Addr × Obj) : Sp := fun vs H Q _ => ∃ (B F0 : Hp) (w : Wd) (cls : Value) (d : Option Addr) (K : K1), kn cls ∧ Zc cls d q.2 ∧ (∃ fv, q.2.data = .fields fv) ∧ XdIn F0 d ∧ vs = [.ref q.1] ∧ RlW B F0 w H ∧ sp cls [.o q.1] w.S K ∧ Fi B F0 w K Q
structure FcE (P : Program) (w : World) (K : PySem.W.Frag) (mg : Str → Option Value) (base : Heap) (x : Str) (k : Nat) (y : Str) (kn : Value → Prop) (sp : SpcE) : Prop where
  ex : ∃ (f : Addr) (fd : FuncData), FnHX P w K mg base (L2N.CX P w) k f fd [y] (spOfE kn sp) ∧ mg x = some (.ref f) ∧ PySem.W.keepIn K (.ref f) = true ∧ Binds K fd [y] []
theorem takes0N {X : Cx} : L2N.Takes X (fun _ _ _ _ => False) := fun _ _ ⟨_, _, _, _, _, _, _, _, _, _, _, _, _, _, _, _, w⟩ => w.elim
section
variable {X : Cx} {B F0 : Hp} {W : WX} {x y n : Str} {i k : Nat} {a : Addr} {cls : Value} {oe : Obj} {d : Option Addr} {kn : Value → Prop} {sp : SpcE} {p p2 pos : Pos}
end

section
variable {X : Cx} {B F0 : Hp} {W : WX} {x n : Str} {c : Value} {i : Nat} {body suite : List Stmt} {b₀ : Stmt} {np pos pos' : Pos} {b : WS} {h : Addr → Value → List (Str × PyData) → WS} {kn : Value → Prop} {mt : Value → Bool}
end
end PL

set_option Elab.async false
set_option linter.all false
set_option maxRecDepth 100000
namespace PL
open PySem PySem.Spec PyProof.Rows L2 L2N
section
variable {X : Cx} {x n : Str} {c : Value} {i : Nat} {body suite : List Stmt} {b₀ : Stmt} {np pos pos' : Pos} {tb : WX → TS} {ts : Addr → Value → Option Addr → TS} {Wout : WX}
end
end PL

set_option Elab.async false
set_option linter.all false
set_option maxRecDepth 100000
namespace PL
open PySem PySem.Spec PyProof.Rows L2 L2N L2H HotX
section
variable {X : Cx} {B F0 : Hp} {W : WX} {x n : Str} {c : Value} {i j : Nat} {body suite : List Stmt} {b₀ : Stmt} {np pos pos' : Pos} {b : WS} {h : Addr → Value → List (Str × PyData) → WS} {kn : Value → Prop} {mt : Value → Bool}
end
section
variable {X : Cx} {B F0 : Hp} {W : WX} {y : Str} {C : Addr} {e : Expr} {we : WE} {kn : Value → Prop} {kd : Value → Bool} {p p2 p3 pos : Pos}
end
section
variable {X : Cx} {B F0 : Hp} {W : WX} {C : Addr} {e : Expr} {we : WE} {f : Str} {pos : Pos}
end
end PL

set_option Elab.async false
set_option linter.all false
set_option maxRecDepth 100000
namespace PL
open PySem PySem.Spec PyProof.Rows L2 L2N
def spXIL (K : PySem.W.Frag) (C : Addr) (f : Str) : L2.Sp := fun vs H Q _ => ∃ (a l : Addr) (xs : List V), vs = [.ref a, .ref l] ∧ SqL K H l xs ∧ H a = some (exo a C none) ∧
  ∀ (p d : Addr) (H' : Hp), H p = none → H d = none → p ≠ a → d ≠ a → d ≠ p → (∀ b, b ≠ d → b ≠ a → b ≠ p → H' b = H b) → H' a = some (exo a C (some d)) → H' d = some (exd d [(f, .ref p)]) → H' p = some (.lst xs) → Q .non H'
structure FxL (P : Program) (w : World) (K : PySem.W.Frag) (mg : Str → Option Value) (base : Heap) (x : Str) (C : Addr) (k : Nat) (ps : List Str) (n : Str) : Prop where
  ex : ∃ (f : Addr) (fd : FuncData), FnOk P w K mg base (L2N.CX P w) k f fd ps (spXIL K C n) ∧ OexC K C ∧ PySem.W.findIn K (.ref C) "__init__" = some (some (.ref f)) ∧ PySem.W.typeIn K (.ref f) = some (.type "function") ∧ Binds K fd ps [] ∧ mg x = some (.ref C)
section
variable {X : Cx} {B F0 : Hp} {W : WX} {e : Expr} {wa : WE} {x n : Str} {p pos pos2 : Pos} {k : Nat} {ps : List Str} {C : Addr}
end
end PL
namespace PL
open PySem PySem.Spec PyProof.Rows L2
end PL

set_option Elab.async false
set_option linter.all false
set_option maxRecDepth 100000
namespace PL
open PySem L2
section
variable {α β : Type} {enc : α → List PyData} {pre : α → Prop} {bad : α → Prop} {xpost : α → Ex → Prop} {post : α → β → Prop} {n : Nat} {ds : List D} {S : Sto} {K : K1} {KX : KF} {ws : WS} {N : List Str}
end
end PL

set_option Elab.async false
set_option linter.all false
set_option maxRecDepth 100000
namespace PL
open PySem L2
section
variable {X : Cx} {B F0 : Hp}
end
end PL

set_option Elab.async false
set_option linter.all false
set_option maxRecDepth 100000
namespace PL
open PySem L2
section
variable {X : Cx} {B F0 : Hp}
end
end PL

set_option Elab.async false
set_option linter.all false
set_option maxRecDepth 100000
namespace PL
open PySem PySem.Spec PyProof.Rows L2
structure pAlt (a b : Prop) : Prop where
  out : a ∨ b
theorem pAlt.l {a b : Prop} (h : a) : pAlt a b := ⟨.inl h⟩
theorem pAlt.r {a b : Prop} (h : b) : pAlt a b := ⟨.inr h⟩
def wAlt (w1 w2 : WE) : WE := fun env S K KX => pAlt (w1 env S K KX) (w2 env S K KX)
def wONewD (C : Addr) (sp : Spc) (d : PyData) (wa : WA) : WE := fun env S K KX => wa env S (fun ds S1 => pCall sp (.r S1.length :: (ds ++ [.z d])) (S1 ++ [.ins C []]) (fun d S2 => pReq (d = .z .none) (K (.r S1.length) S2)) fun y S2 => KX y env S2) KX
structure FkD (P : Program) (w : World) (K : PySem.W.Frag) (mg : Str → Option Value) (base : Heap) (x : Str) (C : Addr) (k : Nat) (ps : List Str) (d : PyData) (sp : Spc) : Prop where
  ex : ∃ (f : Addr) (fd : FuncData) (v : V) (ds : List Value), FnOk P w K mg base (L2N.CX P w) k f fd ps (spOf sp) ∧ Mk K C f ∧ mg x = some (.ref C) ∧ (∀ (B F : Hp) (μ : Nat → Addr) (n : Nat), RpD B F μ n (.z d) v) ∧ Vals [v] ds ∧ Binds K fd ps ds
section
variable {X : Cx} {B F0 : Hp} {W : WX} {e o value : Expr} {es : List Expr} {wa : WA} {we wo w1 w2 : WE} {x m f : Str} {p pos pos' apos : Pos} {k : Nat} {ps : List Str} {sp : Spc} {C : Addr} {d : PyData}
theorem xalt (h1 : PX X B F0 W e w1) (h2 : PX X B F0 W e w2) : PX X B F0 W e (wAlt w1 w2) := ⟨fun pins s σ H Q I h => by
  obtain ⟨w, env, K, KX, R, E, h, k, kx⟩ := h
  rcases h.out with h | h
  · exact h1.run pins s σ H Q I ⟨w, env, K, KX, R, E, h, k, kx⟩
  · exact h2.run pins s σ H Q I ⟨w, env, K, KX, R, E, h, k, kx⟩⟩
theorem xmake0 (ck : Fk X.prog X.w X.K X.mg X.base x C k ps sp) (hr : Room (k + 1) X.A) (tk : L2N.Takes X W) (hg : Gl X x)
    (hdb : (x == ("__debug__" : Str)) = false := by decide) : PX X B F0 W (.Call (.Name x p) [] [] pos) (wONew C sp wNil) := by
  obtain ⟨f, fd, F, M, hm, hb⟩ := ck.ex
  have pe0 : PE X (.Call (.Name x p) [] [] pos) (tMakeSD C (spOf sp) [] (fun σ cls d H => W cls d σ H) tNil) := by
    refine ⟨fun pins s σ H Q I h => ?_⟩
    refine wpAny_Call_Name_kw (ld_glob I hg hm ?_ hdb)
    exact PySem.W.callWith_K0 I.kIn M.kp (run_makeSD (us := []) M F hr hb .nil (L2N.passAt tk σ) I .nil h)
  refine wkE pe0 fun σ H Q h => ?_
  obtain ⟨w, env, K, KX, R, E, h, k, kx⟩ := h
  intro a dx ha hdx hne
  have hx2 : (upd H dx (.own a)) a = none := by rw [upd_ne (Ne.symm hne)]; exact ha
  obtain ⟨R2, X2⟩ := (R.junk (.own a) hdx).grow (p := a) (u := .ins C dx []) (o := .ins C []) hx2 fun G hG => ⟨dx, [], hG, .nil⟩
  have em : muX w.μ w.S.length a w.S.length = a := by unfold muX; rw [if_pos rfl]
  have q0 : RpD B w.F (muX w.μ w.S.length a) (w.S ++ [Ob.ins C []]).length (.r w.S.length) (.ref a) := by
    have := RpD.r (B := B) (F := w.F) (μ := muX w.μ w.S.length a) (n := (w.S ++ [Ob.ins C []]).length) (i := w.S.length) (by simp)
    rw [em] at this; exact this
  refine ⟨B, F0, ⟨muX w.μ w.S.length a, w.S ++ [.ins C []], w.F⟩, [.r w.S.length], _, _, R2, .cons q0 .nil, h.out, fun d S3 v H3 μ3 F3 R3 X3 r3 h3 => ?_, fun y S3 H3 μ3 F3 cls dd R3 X3 r3 h4 => kx y S3 H3 μ3 F3 cls dd R3 (X2.trans X3) r3 h4⟩
  obtain ⟨ed, h4⟩ := pReq.out h3
  subst ed
  refine ⟨by cases r3 with | z q => cases q; rfl, ?_⟩
  exact k _ _ _ _ _ _ R3 (X2.trans X3) (q0.xt X3) h4
theorem xmakeD (ck : FkD X.prog X.w X.K X.mg X.base x C k ps d sp) (hr : Room (k + 1) X.A) (tk : L2N.Takes X W) (hg : Gl X x) (ha : PXA X B F0 W (e :: es) wa)
    (hdb : (x == ("__debug__" : Str)) = false := by decide) (he : starEach (e :: es) X.env = (false, eval e X.env) :: starEach es X.env := by rfl) (hpl : (backTo pos (starEach es X.env)).any (·.1) = false := by rfl) : PX X B F0 W (.Call (.Name x p) (e :: es) [] pos) (wONewD C sp d wa) := by
  obtain ⟨f, fd, dv, dsv, F, M, hm, hz, hd, hb⟩ := ck.ex
  refine wkE (pe_makeSD (E := fun σ cls d H => W cls d σ H) (dvs := [dv]) M F hr hg hm hb hd (fun σ => L2N.passAt tk σ) ha hdb he hpl) fun σ H Q h => ?_
  obtain ⟨w, env, K, KX, R, E, h, k, kx⟩ := h
  refine ⟨w, env, _, KX, R, E, h, fun ds S1 vs H1 μ1 F1 R1 X1 r1 h1 => fun a dx ha hdx hne => ?_, kx⟩
  have hx2 : (upd H1 dx (.own a)) a = none := by rw [upd_ne (Ne.symm hne)]; exact ha
  obtain ⟨R2, X2⟩ := (R1.junk (.own a) hdx).grow (p := a) (u := .ins C dx []) (o := .ins C []) hx2 fun G hG => ⟨dx, [], hG, .nil⟩
  have em : muX μ1 S1.length a S1.length = a := by unfold muX; rw [if_pos rfl]
  have q0 : RpD B F1 (muX μ1 S1.length a) (S1 ++ [Ob.ins C []]).length (.r S1.length) (.ref a) := by
    have := RpD.r (B := B) (F := F1) (μ := muX μ1 S1.length a) (n := (S1 ++ [Ob.ins C []]).length) (i := S1.length) (by simp)
    rw [em] at this; exact this
  refine ⟨B, F0, ⟨muX μ1 S1.length a, S1 ++ [.ins C []], F1⟩, .r S1.length :: (ds ++ [.z d]), _, _, R2, .cons q0 (RpDs.app (r1.xt X2) (.cons (hz _ _ _ _) .nil)), h1.out, fun d S3 v H3 μ3 F3 R3 X3 r3 h3 => ?_, fun y S3 H3 μ3 F3 cls dd R3 X3 r3 h4 => kx y S3 H3 μ3 F3 cls dd R3 ((X1.trans X2).trans X3) r3 h4⟩
  obtain ⟨ed, h4⟩ := pReq.out h3
  subst ed
  refine ⟨by cases r3 with | z q => cases q; rfl, ?_⟩
  exact k _ _ _ _ _ _ R3 ((X1.trans X2).trans X3) (q0.xt X3) h4
end
section
variable {P : Program} {w : World} {K : PySem.W.Frag} {mg : Str → Option Value} {base : Heap} {c m q : Str} {k : Nat} {ps : List Str} {sp : Spc} {st : Stmt} {fd : FuncData} {h : Heap}
theorem fk_mk1 {v : V} (X : K.In h) (G : h.Ns mainGlobals mg) (FD : FunD K "__init__" q (defArgs st) (defBody st) (defScope st) [v] [] (He.fAd K (c, some "__init__")) fd) (ok : FnOk P w K mg base (L2N.CX P w) k (He.fAd K (c, some "__init__")) fd ps (spOf sp)) (hm : (He.Fa.mkr c).ok K = true) (g : (He.Fa.glo c).ok K = true)
    (hb : ∀ (T : Addr) (kV doc pm : Value) (an : Option Addr) (cdv ct : Value) (us its : List Value), us.length = ps.length → its.length = 1 → ∃ k, bindArgs (PySem.W.fnOf "__init__" q (defArgs st) (defBody st) (defScope st) (.ref T) kV doc pm an cdv ct) ⟨us, []⟩ = seqItems? (.ref T) >>= k ∧ k (some its.toArray) = pure (ps.zip (us ++ its.drop 1))) : Fk P w K mg base c (He.ga K c) k ps sp := by
  obtain ⟨ds, hv, hbi⟩ := FunD.binds1 (ps := ps) FD ps.length 1 (by simp) (by simp) hb
  cases hv
  exact ⟨_, fd, ok, He.mkr_ok hm, He.glo_ok X G g, hbi⟩
theorem fk_mkD {v : V} {d : PyData} (hz : ∀ (B F : Hp) (μ : Nat → Addr) (n : Nat), RpD B F μ n (.z d) v) (X : K.In h) (G : h.Ns mainGlobals mg) (FD : FunD K "__init__" q (defArgs st) (defBody st) (defScope st) [v] [] (He.fAd K (c, some "__init__")) fd) (ok : FnOk P w K mg base (L2N.CX P w) k (He.fAd K (c, some "__init__")) fd ps (spOf sp)) (hm : (He.Fa.mkr c).ok K = true) (g : (He.Fa.glo c).ok K = true) (h1 : 1 ≤ ps.length)
    (hb : ∀ (T : Addr) (kV doc pm : Value) (an : Option Addr) (cdv ct : Value) (us its : List Value), us.length = ps.length - 1 → its.length = 1 → ∃ k, bindArgs (PySem.W.fnOf "__init__" q (defArgs st) (defBody st) (defScope st) (.ref T) kV doc pm an cdv ct) ⟨us, []⟩ = seqItems? (.ref T) >>= k ∧ k (some its.toArray) = pure (ps.zip (us ++ its.drop 0))) : FkD P w K mg base c (He.ga K c) k ps d sp := by
  obtain ⟨ds, hv, hbi⟩ := FunD.binds1 (ps := ps) FD (ps.length - 1) 0 (by simp) (by simp; omega) hb
  exact ⟨_, fd, v, ds, ok, He.mkr_ok hm, He.glo_ok X G g, hz, hv, hbi⟩
theorem rz_none (B F : Hp) (μ : Nat → Addr) (n : Nat) : RpD B F μ n (.z .none) .non := .z .non
theorem rz_bool (b : Bool) (B F : Hp) (μ : Nat → Addr) (n : Nat) : RpD B F μ n (.z (.bool b)) (.bl b) := .z (.bl b)
end
end PL

set_option Elab.async false
set_option linter.all false
set_option maxRecDepth 100000
set_option maxHeartbeats 4000000
namespace K70
open PySem L2 PL
def top (i : Nat) : Stmt := PySem.Challenge.pw_namepaths_k70_one_item_laid.main.body.getD i (.Pass ⟨0, 0, 0, 0⟩)
structure Txt (K : PySem.W.Frag) (mg : Str → Option Value) (cl : Str → Addr) : Prop where
  c_Part : Cls K (cl "Part")
  c_Thing : Cls K (cl "Thing")
  c_Let : Cls K (cl "Let")
  c_Elder : Cls K (cl "Elder")
  c_All : Cls K (cl "All")
  c_One : Cls K (cl "One")
  c_Ask : Cls K (cl "Ask")
  c_Draft : Cls K (cl "Draft")
  na_Draft_questions : NoAttr K (cl "Draft") "questions"
  na_Draft_things : NoAttr K (cl "Draft") "things"
  na_Draft_scopes : NoAttr K (cl "Draft") "scopes"
  na_Part_reach : NoAttr K (cl "Part") "reach"
  na_Part_name : NoAttr K (cl "Part") "name"
  na_Part_inner : NoAttr K (cl "Part") "inner"
  na_Thing_reach : NoAttr K (cl "Thing") "reach"
  na_Thing_name : NoAttr K (cl "Thing") "name"
  na_Thing_of : NoAttr K (cl "Thing") "of"
  na_Let_name : NoAttr K (cl "Let") "name"
  na_Let_of : NoAttr K (cl "Let") "of"
  na_Elder_path : NoAttr K (cl "Elder") "path"
  na_All_path : NoAttr K (cl "All") "path"
  na_All_on : NoAttr K (cl "All") "on"
  na_One_reach : NoAttr K (cl "One") "reach"
  na_One_name : NoAttr K (cl "One") "name"
  na_One_path : NoAttr K (cl "One") "path"
  na_Ask_path : NoAttr K (cl "Ask") "path"
  n_str : mg "str" = none
  n_isinstance : mg "isinstance" = none
  n_len : mg "len" = none
  n_list : mg "list" = none
  n_range : mg "range" = none
  n_tuple : mg "tuple" = none
  n_int : mg "int" = none
  n_bool : mg "bool" = none
  c_LETTERS : ∃ t, mg "LETTERS" = some (.str (PySem.Str.ofString "abcdefghijklmnopqrstuvwxyz") t)
  c_MOST_SCOPES : ∃ t, mg "MOST_SCOPES" = some (.int 40 t)
  c_MOST_THINGS : ∃ t, mg "MOST_THINGS" = some (.int 80 t)
  c_MOST_QUESTIONS : ∃ t, mg "MOST_QUESTIONS" = some (.int 60 t)
  c_MOST_STEPS : ∃ t, mg "MOST_STEPS" = some (.int 8 t)
  c_MOST_TELLINGS : ∃ t, mg "MOST_TELLINGS" = some (.int 12 t)
  c_MOST_NAMES : ∃ t, mg "MOST_NAMES" = some (.int 6 t)
  c_MOST_WITHIN : ∃ t, mg "MOST_WITHIN" = some (.int 30 t)
  c_MOST_ITEMS : ∃ t, mg "MOST_ITEMS" = some (.int 200 t)
section
variable {P : Program} {w : World} {K : PySem.W.Frag} {mg : Str → Option Value} {base : Heap}
abbrev st_is_name : Stmt := top 8
abbrev nm_is_name : List Str := ["thing", "sign"]
theorem sc_is_name : FnScope nm_is_name ["thing"] (defScope st_is_name) := ⟨rfl, rfl, rfl, by decide +kernel, rfl, by decide +kernel, by decide +kernel⟩
def is_name_b1 : WS :=
  (wIf (wB (w2 (cB bNotIn) (wVar 1) (wC (.str (PySem.Str.ofString "abcdefghijklmnopqrstuvwxyz"))))) (wRet (wC (.bool false))) wNext)
def is_name_r1 : WS :=
  (wRet (wC (.bool true)))
def is_name_r2 : WS :=
  (wSeq (wFor (wIt (wVar 0)) (gN 1) is_name_b1)
    is_name_r1)
def ws_is_name : WS :=
  (wSeq (wIf (wOr (wNot (wB (wCall pIsi (wCons (wVar 0) (wCons (wTy .str) wNil))))) (wOr (wB (w2 (cB bLtD) (wCall pLen (wCons (wVar 0) wNil)) (wC (.int 1)))) (wB (w2 (cB bGt) (wCall pLen (wCons (wVar 0) wNil)) (wC (.int 8)))))) (wRet (wC (.bool false))) wNext)
    is_name_r2)
theorem ok_is_name {f : Addr} {fd : FuncData} {sp : Spc} {cl : Str → Addr} (F : Fun K "is_name" "is_name" st_is_name f fd) (T : Txt K mg cl) (hl : ∀ ds S K KX, sp ds S K KX → ds.length = 1)
    (hs : ∀ ds S K KX, sp ds S K KX → ws_is_name { nx := fun _ S1 => K (.z .none) S1, rt := K, ex := fun y _ S1 => KX y S1 } (startE nm_is_name ds) S) : FnOk P w K mg base (L2N.CX P w) 1 f fd ["thing"] (spOf sp) := by
  have nd := sc_is_name.nd
  refine fnpx F sc_is_name hl (ws := ws_is_name) (fun cdv A outer s H E B F0 hr tk hp => ?_) hs
  have hu := hu_px hr
  exact (bcons (xif (xtw (yor (xtnot (xtv (xcallB oIsi rfl T.n_isinstance bb_isinstance (acons (xv 0) (acons (xty (T := .str) rfl T.n_str bb_str) anil))))) (yor (xtcmp (oLtD hu) (xcallB oLen rfl T.n_len bb_len (acons (xv 0) anil)) xint) (yor1 (xtcmp oGt (xcallB oLen rfl T.n_len bb_len (acons (xv 0) anil)) xint))))) (bone (xret xbl)) bnil)
    (bcons (xfor hp rfl (xit (xv 0)) (xgn 1 nd) (bone (xif (xtcmp (oNotIn hu) (xv 1) (xgS rfl T.c_LETTERS)) (bone (xret xbl)) bnil)))
    (bone (xret xbl))))
abbrev st_small_enough : Stmt := top 16
abbrev nm_small_enough : List Str := ["scopes", "things", "questions", "steps", "tellings", "scope", "state", "path"]
theorem sc_small_enough : FnScope nm_small_enough ["scopes", "things", "questions"] (defScope st_small_enough) := ⟨rfl, rfl, rfl, by decide +kernel, rfl, by decide +kernel, by decide +kernel⟩
def small_enough_b1 : WS :=
  (wIf (wOr (wB (w2 (cB bGt) (wCall pLen (wCons (wVar 3) wNil)) (wC (.int 8)))) (wB (w2 (cB bGt) (wCall pLen (wCons (wVar 4) wNil)) (wC (.int 12))))) (wRet (wC (.bool false))) wNext)
def small_enough_b2 : WS :=
  (wIf (wB (w2 (cB bGt) (wCall pLen (wCons (wVar 7) wNil)) (wC (.int 6)))) (wRet (wC (.bool false))) wNext)
def small_enough_r1 : WS :=
  (wRet (wC (.bool true)))
def small_enough_r2 : WS :=
  (wSeq (wFor (wIt (wVar 2)) (gT 3 (gC (gN 5) (gC (gN 6) (gC (gN 7) gE)))) small_enough_b2)
    small_enough_r1)
def small_enough_r3 : WS :=
  (wSeq (wFor (wIt (wVar 0)) (gT 2 (gC (gN 3) (gC (gN 4) gE))) small_enough_b1)
    small_enough_r2)
def ws_small_enough : WS :=
  (wSeq (wIf (wOr (wB (w2 (cB bGt) (wCall pLen (wCons (wVar 0) wNil)) (wC (.int 40)))) (wOr (wB (w2 (cB bGt) (wCall pLen (wCons (wVar 1) wNil)) (wC (.int 80)))) (wB (w2 (cB bGt) (wCall pLen (wCons (wVar 2) wNil)) (wC (.int 60)))))) (wRet (wC (.bool false))) wNext)
    small_enough_r3)
theorem ok_small_enough {f : Addr} {fd : FuncData} {sp : Spc} {cl : Str → Addr} (F : Fun K "small_enough" "small_enough" st_small_enough f fd) (T : Txt K mg cl) (hl : ∀ ds S K KX, sp ds S K KX → ds.length = 3)
    (hs : ∀ ds S K KX, sp ds S K KX → ws_small_enough { nx := fun _ S1 => K (.z .none) S1, rt := K, ex := fun y _ S1 => KX y S1 } (startE nm_small_enough ds) S) : FnOk P w K mg base (L2N.CX P w) 1 f fd ["scopes", "things", "questions"] (spOf sp) := by
  have nd := sc_small_enough.nd
  refine fnpx F sc_small_enough hl (ws := ws_small_enough) (fun cdv A outer s H E B F0 hr tk hp => ?_) hs
  have hu := hu_px hr
  exact (bcons (xif (xtw (yor (xtcmp oGt (xcallB oLen rfl T.n_len bb_len (acons (xv 0) anil)) (xgI rfl T.c_MOST_SCOPES)) (yor (xtcmp oGt (xcallB oLen rfl T.n_len bb_len (acons (xv 1) anil)) (xgI rfl T.c_MOST_THINGS)) (yor1 (xtcmp oGt (xcallB oLen rfl T.n_len bb_len (acons (xv 2) anil)) (xgI rfl T.c_MOST_QUESTIONS)))))) (bone (xret xbl)) bnil)
    (bcons (xfor hp rfl (xit (xv 0)) (xgt rfl (xgc (xgn 3 nd) (xgc (xgn 4 nd) xge))) (bone (xif (xtw (yor (xtcmp oGt (xcallB oLen rfl T.n_len bb_len (acons (xv 3) anil)) (xgI rfl T.c_MOST_STEPS)) (yor1 (xtcmp oGt (xcallB oLen rfl T.n_len bb_len (acons (xv 4) anil)) (xgI rfl T.c_MOST_TELLINGS))))) (bone (xret xbl)) bnil)))
    (bcons (xfor hp rfl (xit (xv 2)) (xgt rfl (xgc (xgn 5 nd) (xgc (xgn 6 nd) (xgc (xgn 7 nd) xge)))) (bone (xif (xtcmp oGt (xcallB oLen rfl T.n_len bb_len (acons (xv 7) anil)) (xgI rfl T.c_MOST_NAMES)) (bone (xret xbl)) bnil)))
    (bone (xret xbl)))))
abbrev st_all_named : Stmt := top 17
abbrev nm_all_named : List Str := ["scopes", "questions", "steps", "tellings", "step", "telling", "scope", "state", "path", "name"]
theorem sc_all_named : FnScope nm_all_named ["scopes", "questions"] (defScope st_all_named) := ⟨rfl, rfl, rfl, by decide +kernel, rfl, by decide +kernel, by decide +kernel⟩
def all_named_b1 (sp_is_name : Spc) : WS :=
  (wIf (wNot (wB (wFn sp_is_name [] (wCons (w2 pIx (wVar 4) (wC (.int 0))) wNil)))) (wRet (wC (.bool false))) wNext)
def all_named_b2 (sp_is_name : Spc) : WS :=
  (wIf (wOr (wNot (wB (wFn sp_is_name [] (wCons (w2 pIx (wVar 5) (wC (.int 0))) wNil)))) (wNot (wB (wFn sp_is_name [] (wCons (w2 pIx (wVar 5) (wC (.int 1))) wNil))))) (wRet (wC (.bool false))) wNext)
def all_named_b3 (sp_is_name : Spc) : WS :=
  (wSeq (wFor (wIt (wVar 2)) (gN 4) (all_named_b1 sp_is_name))
    (wFor (wIt (wVar 3)) (gN 5) (all_named_b2 sp_is_name)))
def all_named_b4 (sp_is_name : Spc) : WS :=
  (wIf (wNot (wB (wFn sp_is_name [] (wCons (wVar 9) wNil)))) (wRet (wC (.bool false))) wNext)
def all_named_b5 (sp_is_name : Spc) : WS :=
  (wSeq (wIf (wB (w2 (cB bEq) (wCall pLen (wCons (wVar 8) wNil)) (wC (.int 0)))) (wRet (wC (.bool false))) wNext)
    (wFor (wIt (wVar 8)) (gN 9) (all_named_b4 sp_is_name)))
def all_named_r1 : WS :=
  (wRet (wC (.bool true)))
def all_named_r2 (sp_is_name : Spc) : WS :=
  (wSeq (wFor (wIt (wVar 1)) (gT 3 (gC (gN 6) (gC (gN 7) (gC (gN 8) gE)))) (all_named_b5 sp_is_name))
    all_named_r1)
def ws_all_named (sp_is_name : Spc) : WS :=
  (wSeq (wFor (wIt (wVar 0)) (gT 2 (gC (gN 2) (gC (gN 3) gE))) (all_named_b3 sp_is_name))
    (all_named_r2 sp_is_name))
theorem ok_all_named {f : Addr} {fd : FuncData} {sp : Spc} {cl : Str → Addr} {sp_is_name : Spc} (F : Fun K "all_named" "all_named" st_all_named f fd) (T : Txt K mg cl) (c_is_name : Fc P w K mg base "is_name" 1 ["thing"] sp_is_name) (hl : ∀ ds S K KX, sp ds S K KX → ds.length = 2)
    (hs : ∀ ds S K KX, sp ds S K KX → ws_all_named sp_is_name { nx := fun _ S1 => K (.z .none) S1, rt := K, ex := fun y _ S1 => KX y S1 } (startE nm_all_named ds) S) : FnOk P w K mg base (L2N.CX P w) 2 f fd ["scopes", "questions"] (spOf sp) := by
  have nd := sc_all_named.nd
  refine fnpx F sc_all_named hl (ws := ws_all_named sp_is_name) (fun cdv A outer s H E B F0 hr tk hp => ?_) hs
  have hu := hu_px hr
  exact (bcons (xfor hp rfl (xit (xv 0)) (xgt rfl (xgc (xgn 2 nd) (xgc (xgn 3 nd) xge))) (bcons (xfor hp rfl (xit (xv 2)) (xgn 4 nd) (bone (xif (xtnot (xtv (xfc c_is_name (hr.mono (by decide)) tk rfl (acons (xix (oIx hu) (xv 4) xint) anil)))) (bone (xret xbl)) bnil)))
    (bone (xfor hp rfl (xit (xv 3)) (xgn 5 nd) (bone (xif (xtw (yor (xtnot (xtv (xfc c_is_name (hr.mono (by decide)) tk rfl (acons (xix (oIx hu) (xv 5) xint) anil)))) (yor1 (xtnot (xtv (xfc c_is_name (hr.mono (by decide)) tk rfl (acons (xix (oIx hu) (xv 5) xint) anil))))))) (bone (xret xbl)) bnil))))))
    (bcons (xfor hp rfl (xit (xv 1)) (xgt rfl (xgc (xgn 6 nd) (xgc (xgn 7 nd) (xgc (xgn 8 nd) xge)))) (bcons (xif (xtcmp (oEq hu) (xcallB oLen rfl T.n_len bb_len (acons (xv 8) anil)) xint) (bone (xret xbl)) bnil)
    (bone (xfor hp rfl (xit (xv 8)) (xgn 9 nd) (bone (xif (xtnot (xtv (xfc c_is_name (hr.mono (by decide)) tk rfl (acons (xv 9) anil)))) (bone (xret xbl)) bnil))))))
    (bone (xret xbl))))
abbrev st_step_there : Stmt := top 18
abbrev nm_step_there : List Str := ["step", "scopes", "questions"]
theorem sc_step_there : FnScope nm_step_there ["step", "scopes", "questions"] (defScope st_step_there) := ⟨rfl, rfl, rfl, by decide +kernel, rfl, by decide +kernel, by decide +kernel⟩
def step_there_r1 : WS :=
  (wRet (wAndV (w2 (cB bEq) (w2 pIx (wVar 0) (wC (.int 1))) (wC (.str (PySem.Str.ofString "by")))) (w3 (cB bLe) (cB bLtD) (wC (.int 0)) (w2 pIx (wVar 0) (wC (.int 2))) (wCall pLen (wCons (wVar 2) wNil)))))
def ws_step_there : WS :=
  (wSeq (wIf (wB (w2 (cB bEq) (w2 pIx (wVar 0) (wC (.int 1))) (wC (.str (PySem.Str.ofString "to"))))) (wRet (w3 (cB bLe) (cB bLtD) (wC (.int 0)) (w2 pIx (wVar 0) (wC (.int 2))) (wCall pLen (wCons (wVar 1) wNil)))) wNext)
    step_there_r1)
theorem ok_step_there {f : Addr} {fd : FuncData} {sp : Spc} {cl : Str → Addr} (F : Fun K "step_there" "step_there" st_step_there f fd) (T : Txt K mg cl) (hl : ∀ ds S K KX, sp ds S K KX → ds.length = 3)
    (hs : ∀ ds S K KX, sp ds S K KX → ws_step_there { nx := fun _ S1 => K (.z .none) S1, rt := K, ex := fun y _ S1 => KX y S1 } (startE nm_step_there ds) S) : FnOk P w K mg base (L2N.CX P w) 1 f fd ["step", "scopes", "questions"] (spOf sp) := by
  have nd := sc_step_there.nd
  refine fnpx F sc_step_there hl (ws := ws_step_there) (fun cdv A outer s H E B F0 hr tk hp => ?_) hs
  have hu := hu_px hr
  exact (bcons (xif (xtcmp (oEq hu) (xix (oIx hu) (xv 0) xint) xstr) (bone (xret (xch oLe (oLtD hu) xint (xix (oIx hu) (xv 0) xint) (xcallB oLen rfl T.n_len bb_len (acons (xv 1) anil))))) bnil)
    (bone (xret (xand (xcmp (oEq hu) (xix (oIx hu) (xv 0) xint) xstr) (xone (xch oLe (oLtD hu) xint (xix (oIx hu) (xv 0) xint) (xcallB oLen rfl T.n_len bb_len (acons (xv 2) anil))))))))
abbrev st_telling_there : Stmt := top 19
abbrev nm_telling_there : List Str := ["telling", "things", "questions"]
theorem sc_telling_there : FnScope nm_telling_there ["telling", "things", "questions"] (defScope st_telling_there) := ⟨rfl, rfl, rfl, by decide +kernel, rfl, by decide +kernel, by decide +kernel⟩
def telling_there_r1 : WS :=
  (wRet (wAndV (w2 (cB bEq) (w2 pIx (wVar 0) (wC (.int 2))) (wC (.str (PySem.Str.ofString "by")))) (w3 (cB bLe) (cB bLtD) (wC (.int 0)) (w2 pIx (wVar 0) (wC (.int 3))) (wCall pLen (wCons (wVar 2) wNil)))))
def ws_telling_there : WS :=
  (wSeq (wIf (wB (w2 (cB bEq) (w2 pIx (wVar 0) (wC (.int 2))) (wC (.str (PySem.Str.ofString "thing"))))) (wRet (w3 (cB bLe) (cB bLtD) (wC (.int 0)) (w2 pIx (wVar 0) (wC (.int 3))) (wCall pLen (wCons (wVar 1) wNil)))) wNext)
    telling_there_r1)
theorem ok_telling_there {f : Addr} {fd : FuncData} {sp : Spc} {cl : Str → Addr} (F : Fun K "telling_there" "telling_there" st_telling_there f fd) (T : Txt K mg cl) (hl : ∀ ds S K KX, sp ds S K KX → ds.length = 3)
    (hs : ∀ ds S K KX, sp ds S K KX → ws_telling_there { nx := fun _ S1 => K (.z .none) S1, rt := K, ex := fun y _ S1 => KX y S1 } (startE nm_telling_there ds) S) : FnOk P w K mg base (L2N.CX P w) 1 f fd ["telling", "things", "questions"] (spOf sp) := by
  have nd := sc_telling_there.nd
  refine fnpx F sc_telling_there hl (ws := ws_telling_there) (fun cdv A outer s H E B F0 hr tk hp => ?_) hs
  have hu := hu_px hr
  exact (bcons (xif (xtcmp (oEq hu) (xix (oIx hu) (xv 0) xint) xstr) (bone (xret (xch oLe (oLtD hu) xint (xix (oIx hu) (xv 0) xint) (xcallB oLen rfl T.n_len bb_len (acons (xv 1) anil))))) bnil)
    (bone (xret (xand (xcmp (oEq hu) (xix (oIx hu) (xv 0) xint) xstr) (xone (xch oLe (oLtD hu) xint (xix (oIx hu) (xv 0) xint) (xcallB oLen rfl T.n_len bb_len (acons (xv 2) anil))))))))
abbrev st_thing_there : Stmt := top 20
abbrev nm_thing_there : List Str := ["thing", "scopes", "questions"]
theorem sc_thing_there : FnScope nm_thing_there ["thing", "scopes", "questions"] (defScope st_thing_there) := ⟨rfl, rfl, rfl, by decide +kernel, rfl, by decide +kernel, by decide +kernel⟩
def thing_there_r1 : WS :=
  (wRet (wAndV (w2 (cB bEq) (w2 pIx (wVar 0) (wC (.int 0))) (wC (.str (PySem.Str.ofString "sort")))) (w3 (cB bLe) (cB bLtD) (wC (.int 0)) (w2 pIx (wVar 0) (wC (.int 1))) (wCall pLen (wCons (wVar 2) wNil)))))
def thing_there_r2 : WS :=
  (wSeq (wIf (wB (w2 (cB bEq) (w2 pIx (wVar 0) (wC (.int 0))) (wC (.str (PySem.Str.ofString "part"))))) (wRet (w3 (cB bLe) (cB bLtD) (wC (.int 0)) (w2 pIx (wVar 0) (wC (.int 1))) (wCall pLen (wCons (wVar 1) wNil)))) wNext)
    thing_there_r1)
def ws_thing_there : WS :=
  (wSeq (wIf (wB (w2 (cB bEq) (w2 pIx (wVar 0) (wC (.int 0))) (wC (.str (PySem.Str.ofString "plain"))))) (wRet (w2 (cB bEq) (w2 pIx (wVar 0) (wC (.int 1))) (wC (.int 0)))) wNext)
    thing_there_r2)
theorem ok_thing_there {f : Addr} {fd : FuncData} {sp : Spc} {cl : Str → Addr} (F : Fun K "thing_there" "thing_there" st_thing_there f fd) (T : Txt K mg cl) (hl : ∀ ds S K KX, sp ds S K KX → ds.length = 3)
    (hs : ∀ ds S K KX, sp ds S K KX → ws_thing_there { nx := fun _ S1 => K (.z .none) S1, rt := K, ex := fun y _ S1 => KX y S1 } (startE nm_thing_there ds) S) : FnOk P w K mg base (L2N.CX P w) 1 f fd ["thing", "scopes", "questions"] (spOf sp) := by
  have nd := sc_thing_there.nd
  refine fnpx F sc_thing_there hl (ws := ws_thing_there) (fun cdv A outer s H E B F0 hr tk hp => ?_) hs
  have hu := hu_px hr
  exact (bcons (xif (xtcmp (oEq hu) (xix (oIx hu) (xv 0) xint) xstr) (bone (xret (xcmp (oEq hu) (xix (oIx hu) (xv 0) xint) xint))) bnil)
    (bcons (xif (xtcmp (oEq hu) (xix (oIx hu) (xv 0) xint) xstr) (bone (xret (xch oLe (oLtD hu) xint (xix (oIx hu) (xv 0) xint) (xcallB oLen rfl T.n_len bb_len (acons (xv 1) anil))))) bnil)
    (bone (xret (xand (xcmp (oEq hu) (xix (oIx hu) (xv 0) xint) xstr) (xone (xch oLe (oLtD hu) xint (xix (oIx hu) (xv 0) xint) (xcallB oLen rfl T.n_len bb_len (acons (xv 2) anil)))))))))
abbrev st_all_there : Stmt := top 21
abbrev nm_all_there : List Str := ["scopes", "things", "questions", "thing", "steps", "tellings", "step", "telling", "scope", "state", "path"]
theorem sc_all_there : FnScope nm_all_there ["scopes", "things", "questions"] (defScope st_all_there) := ⟨rfl, rfl, rfl, by decide +kernel, rfl, by decide +kernel, by decide +kernel⟩
def all_there_b1 (sp_step_there : Spc) : WS :=
  (wIf (wNot (wB (wFn sp_step_there [] (wCons (wVar 6) (wCons (wVar 0) (wCons (wVar 2) wNil)))))) (wRet (wC (.bool false))) wNext)
def all_there_b2 (sp_telling_there : Spc) : WS :=
  (wIf (wNot (wB (wFn sp_telling_there [] (wCons (wVar 7) (wCons (wVar 1) (wCons (wVar 2) wNil)))))) (wRet (wC (.bool false))) wNext)
def all_there_b3 (sp_step_there : Spc) (sp_telling_there : Spc) : WS :=
  (wSeq (wFor (wIt (wVar 4)) (gN 6) (all_there_b1 sp_step_there))
    (wFor (wIt (wVar 5)) (gN 7) (all_there_b2 sp_telling_there)))
def all_there_b4 (sp_thing_there : Spc) : WS :=
  (wIf (wNot (wB (wFn sp_thing_there [] (wCons (wVar 3) (wCons (wVar 0) (wCons (wVar 2) wNil)))))) (wRet (wC (.bool false))) wNext)
def all_there_b5 : WS :=
  (wIf (wOr (wB (w2 (cB bLtD) (wVar 8) (wC (.int 0)))) (wOr (wB (w2 (cB bGe) (wVar 8) (wCall pLen (wCons (wVar 0) wNil)))) (wB (w2 (cB bLtD) (wVar 9) (wC (.int 0)))))) (wRet (wC (.bool false))) wNext)
def all_there_r1 : WS :=
  (wRet (wC (.bool true)))
def all_there_r2 : WS :=
  (wSeq (wFor (wIt (wVar 2)) (gT 3 (gC (gN 8) (gC (gN 9) (gC (gN 10) gE)))) all_there_b5)
    all_there_r1)
def all_there_r3 (sp_thing_there : Spc) : WS :=
  (wSeq (wFor (wIt (wVar 1)) (gN 3) (all_there_b4 sp_thing_there))
    all_there_r2)
def ws_all_there (sp_step_there : Spc) (sp_telling_there : Spc) (sp_thing_there : Spc) : WS :=
  (wSeq (wFor (wIt (wVar 0)) (gT 2 (gC (gN 4) (gC (gN 5) gE))) (all_there_b3 sp_step_there sp_telling_there))
    (all_there_r3 sp_thing_there))
theorem ok_all_there {f : Addr} {fd : FuncData} {sp : Spc} {cl : Str → Addr} {sp_step_there : Spc} {sp_telling_there : Spc} {sp_thing_there : Spc} (F : Fun K "all_there" "all_there" st_all_there f fd) (T : Txt K mg cl) (c_step_there : Fc P w K mg base "step_there" 1 ["step", "scopes", "questions"] sp_step_there) (c_telling_there : Fc P w K mg base "telling_there" 1 ["telling", "things", "questions"] sp_telling_there) (c_thing_there : Fc P w K mg base "thing_there" 1 ["thing", "scopes", "questions"] sp_thing_there) (hl : ∀ ds S K KX, sp ds S K KX → ds.length = 3)
    (hs : ∀ ds S K KX, sp ds S K KX → ws_all_there sp_step_there sp_telling_there sp_thing_there { nx := fun _ S1 => K (.z .none) S1, rt := K, ex := fun y _ S1 => KX y S1 } (startE nm_all_there ds) S) : FnOk P w K mg base (L2N.CX P w) 2 f fd ["scopes", "things", "questions"] (spOf sp) := by
  have nd := sc_all_there.nd
  refine fnpx F sc_all_there hl (ws := ws_all_there sp_step_there sp_telling_there sp_thing_there) (fun cdv A outer s H E B F0 hr tk hp => ?_) hs
  have hu := hu_px hr
  exact (bcons (xfor hp rfl (xit (xv 0)) (xgt rfl (xgc (xgn 4 nd) (xgc (xgn 5 nd) xge))) (bcons (xfor hp rfl (xit (xv 4)) (xgn 6 nd) (bone (xif (xtnot (xtv (xfc c_step_there (hr.mono (by decide)) tk rfl (acons (xv 6) (acons (xv 0) (acons (xv 2) anil)))))) (bone (xret xbl)) bnil)))
    (bone (xfor hp rfl (xit (xv 5)) (xgn 7 nd) (bone (xif (xtnot (xtv (xfc c_telling_there (hr.mono (by decide)) tk rfl (acons (xv 7) (acons (xv 1) (acons (xv 2) anil)))))) (bone (xret xbl)) bnil))))))
    (bcons (xfor hp rfl (xit (xv 1)) (xgn 3 nd) (bone (xif (xtnot (xtv (xfc c_thing_there (hr.mono (by decide)) tk rfl (acons (xv 3) (acons (xv 0) (acons (xv 2) anil)))))) (bone (xret xbl)) bnil)))
    (bcons (xfor hp rfl (xit (xv 2)) (xgt rfl (xgc (xgn 8 nd) (xgc (xgn 9 nd) (xgc (xgn 10 nd) xge)))) (bone (xif (xtw (yor (xtcmp (oLtD hu) (xv 8) xint) (yor (xtcmp oGe (xv 8) (xcallB oLen rfl T.n_len bb_len (acons (xv 0) anil))) (yor1 (xtcmp (oLtD hu) (xv 9) xint))))) (bone (xret xbl)) bnil)))
    (bone (xret xbl)))))
abbrev st_net_of : Stmt := top 22
abbrev nm_net_of : List Str := ["scopes", "things", "questions", "steps", "tellings"]
theorem sc_net_of : FnScope nm_net_of ["scopes", "things", "questions"] (defScope st_net_of) := ⟨rfl, rfl, rfl, by decide +kernel, rfl, by decide +kernel, by decide +kernel⟩
def net_of_e1 : WE :=
  (wTup (wCons (wCall pList (wCons (wVar 3) wNil)) (wCons (wCall pList (wCons (wVar 4) wNil)) wNil)))
def net_of_r1 : WS :=
  (wRet (wTup (wCons (wLc (wIt (wVar 0)) (tgT [3, 4]) wYes net_of_e1 [3, 4]) (wCons (wCall pList (wCons (wVar 1) wNil)) (wCons (wCall pList (wCons (wVar 2) wNil)) wNil)))))
def net_of_r2 (sp_all_there : Spc) : WS :=
  (wSeq (wIf (wNot (wB (wFn sp_all_there [] (wCons (wVar 0) (wCons (wVar 1) (wCons (wVar 2) wNil)))))) wNever wNext)
    net_of_r1)
def net_of_r3 (sp_all_named : Spc) (sp_all_there : Spc) : WS :=
  (wSeq (wIf (wNot (wB (wFn sp_all_named [] (wCons (wVar 0) (wCons (wVar 2) wNil))))) wNever wNext)
    (net_of_r2 sp_all_there))
def ws_net_of (sp_small_enough : Spc) (sp_all_named : Spc) (sp_all_there : Spc) : WS :=
  (wSeq (wIf (wNot (wB (wFn sp_small_enough [] (wCons (wVar 0) (wCons (wVar 1) (wCons (wVar 2) wNil)))))) wNever wNext)
    (net_of_r3 sp_all_named sp_all_there))
theorem ok_net_of {f : Addr} {fd : FuncData} {sp : Spc} {cl : Str → Addr} {sp_small_enough : Spc} {sp_all_named : Spc} {sp_all_there : Spc} (F : Fun K "net_of" "net_of" st_net_of f fd) (T : Txt K mg cl) (c_small_enough : Fc P w K mg base "small_enough" 1 ["scopes", "things", "questions"] sp_small_enough) (c_all_named : Fc P w K mg base "all_named" 2 ["scopes", "questions"] sp_all_named) (c_all_there : Fc P w K mg base "all_there" 2 ["scopes", "things", "questions"] sp_all_there) (hl : ∀ ds S K KX, sp ds S K KX → ds.length = 3)
    (hs : ∀ ds S K KX, sp ds S K KX → ws_net_of sp_small_enough sp_all_named sp_all_there { nx := fun _ S1 => K (.z .none) S1, rt := K, ex := fun y _ S1 => KX y S1 } (startE nm_net_of ds) S) : FnOk P w K mg base (L2N.CX P w) 3 f fd ["scopes", "things", "questions"] (spOf sp) := by
  have nd := sc_net_of.nd
  refine fnpx F sc_net_of hl (ws := ws_net_of sp_small_enough sp_all_named sp_all_there) (fun cdv A outer s H E B F0 hr tk hp => ?_) hs
  have hu := hu_px hr
  exact (bcons (xif (xtnot (xtv (xfc c_small_enough (hr.mono (by decide)) tk rfl (acons (xv 0) (acons (xv 1) (acons (xv 2) anil)))))) (bone xnever) bnil)
    (bcons (xif (xtnot (xtv (xfc c_all_named (hr.mono (by decide)) tk rfl (acons (xv 0) (acons (xv 2) anil))))) (bone xnever) bnil)
    (bcons (xif (xtnot (xtv (xfc c_all_there (hr.mono (by decide)) tk rfl (acons (xv 0) (acons (xv 1) (acons (xv 2) anil)))))) (bone xnever) bnil)
    (bone (xret (xtup (acons (xlc (own := [("steps", 3), ("tellings", 4)]) rfl nd (xit (xv 0)) (blkOk_by (N := nm_net_of) (sc := defScope st_net_of) (by decide +kernel)) (fun _ _ _ _ _ => pg_tup (n := 2) rfl (pgs_cons (pg_name (i := 3) nd rfl (Or.inl rfl)) (pgs_cons (pg_name (i := 4) nd rfl (Or.inl rfl)) pgs_nil))) (tgok_tup (is := [3, 4])) (fun _ _ _ _ _ => tsNil) (fun _ _ _ _ _ => (xtup (acons (xcallT oList rfl T.n_list bb_list (acons (xv 3) anil)) (acons (xcallT oList rfl T.n_list bb_list (acons (xv 4) anil)) anil))))) (acons (xcallT oList rfl T.n_list bb_list (acons (xv 1) anil)) (acons (xcallT oList rfl T.n_list bb_list (acons (xv 2) anil)) anil)))))))))
abbrev st_counted : Stmt := top 27
abbrev nm_counted : List Str := ["some", "depth", "many", "item"]
theorem sc_counted : FnScope nm_counted ["some", "depth", "many"] (defScope st_counted) := ⟨rfl, rfl, rfl, by decide +kernel, rfl, by decide +kernel, by decide +kernel⟩
def counted_b1 (cl : Str → Addr) (sp_Part_within : Spc) (sp_Thing_within : Spc) (sp_Let_within : Spc) (sp_Elder_within : Spc) (sp_All_within : Spc) (sp_One_within : Spc) (sp_Ask_within : Spc) (sp_counted : Spc) : WS :=
  (wSeq (wAsg (wFn sp_counted [] (wCons (wAlt (wOMth (cl "Part") "within" sp_Part_within (wVar 3) wNil) (wAlt (wOMth (cl "Thing") "within" sp_Thing_within (wVar 3) wNil) (wAlt (wOMth (cl "Let") "within" sp_Let_within (wVar 3) wNil) (wAlt (wOMth (cl "Elder") "within" sp_Elder_within (wVar 3) wNil) (wAlt (wOMth (cl "All") "within" sp_All_within (wVar 3) wNil) (wAlt (wOMth (cl "One") "within" sp_One_within (wVar 3) wNil) (wOMth (cl "Ask") "within" sp_Ask_within (wVar 3) wNil))))))) (wCons (w2 pAdd (wVar 1) (wC (.int 1))) (wCons (w2 pAdd (wVar 2) (wC (.int 1))) wNil)))) (gN 2))
    (wIf (wB (w2 (cB bGt) (wVar 2) (wC (.int 200)))) wNever wNext))
def counted_r1 : WS :=
  (wRet (wVar 2))
def counted_r2 (cl : Str → Addr) (sp_Part_within : Spc) (sp_Thing_within : Spc) (sp_Let_within : Spc) (sp_Elder_within : Spc) (sp_All_within : Spc) (sp_One_within : Spc) (sp_Ask_within : Spc) (sp_counted : Spc) : WS :=
  (wSeq (wFor (wIt (wVar 0)) (gN 3) (counted_b1 cl sp_Part_within sp_Thing_within sp_Let_within sp_Elder_within sp_All_within sp_One_within sp_Ask_within sp_counted))
    counted_r1)
def ws_counted (cl : Str → Addr) (sp_Part_within : Spc) (sp_Thing_within : Spc) (sp_Let_within : Spc) (sp_Elder_within : Spc) (sp_All_within : Spc) (sp_One_within : Spc) (sp_Ask_within : Spc) (sp_counted : Spc) : WS :=
  (wSeq (wIf (wAnd (wB (w2 (cB bGt) (wVar 1) (wC (.int 30)))) (wB (w2 (cB bNe) (wVar 0) (wLst wNil)))) wNever wNext)
    (counted_r2 cl sp_Part_within sp_Thing_within sp_Let_within sp_Elder_within sp_All_within sp_One_within sp_Ask_within sp_counted))
theorem ok_counted {f : Addr} {fd : FuncData} {sp : Spc} {cl : Str → Addr} {sp_Part_within : Spc} {sp_Thing_within : Spc} {sp_Let_within : Spc} {sp_Elder_within : Spc} {sp_All_within : Spc} {sp_One_within : Spc} {sp_Ask_within : Spc} {sp_counted : Spc} (F : Fun K "counted" "counted" st_counted f fd) (T : Txt K mg cl) {kk : Nat} (hkk : 1 ≤ kk) (c_Part_within : Fm P w K mg base (cl "Part") "within" 1 ["self"] sp_Part_within) (c_Thing_within : Fm P w K mg base (cl "Thing") "within" 1 ["self"] sp_Thing_within) (c_Let_within : Fm P w K mg base (cl "Let") "within" 1 ["self"] sp_Let_within) (c_Elder_within : Fm P w K mg base (cl "Elder") "within" 1 ["self"] sp_Elder_within) (c_All_within : Fm P w K mg base (cl "All") "within" 1 ["self"] sp_All_within) (c_One_within : Fm P w K mg base (cl "One") "within" 1 ["self"] sp_One_within) (c_Ask_within : Fm P w K mg base (cl "Ask") "within" 1 ["self"] sp_Ask_within) (c_counted : Fc P w K mg base "counted" kk ["some", "depth", "many"] sp_counted) (hl : ∀ ds S K KX, sp ds S K KX → ds.length = 3)
    (hs : ∀ ds S K KX, sp ds S K KX → ws_counted cl sp_Part_within sp_Thing_within sp_Let_within sp_Elder_within sp_All_within sp_One_within sp_Ask_within sp_counted { nx := fun _ S1 => K (.z .none) S1, rt := K, ex := fun y _ S1 => KX y S1 } (startE nm_counted ds) S) : FnOk P w K mg base (L2N.CX P w) (kk + 1) f fd ["some", "depth", "many"] (spOf sp) := by
  have nd := sc_counted.nd
  refine fnpx F sc_counted hl (ws := ws_counted cl sp_Part_within sp_Thing_within sp_Let_within sp_Elder_within sp_All_within sp_One_within sp_Ask_within sp_counted) (fun cdv A outer s H E B F0 hr tk hp => ?_) hs
  have hu := hu_px hr
  exact (bcons (xif (xtw (yand (xtcmp oGt (xv 1) (xgI rfl T.c_MOST_WITHIN)) (yand1 (xtcmp (oNe hu) (xv 0) (xlst anil))))) (bone xnever) bnil)
    (bcons (xfor hp rfl (xit (xv 0)) (xgn 3 nd) (bcons (xasg (xfc c_counted (hr.mono (Nat.le_refl _)) tk rfl (acons (xalt (xmeth0 T.c_Part c_Part_within (hr.mono (Nat.le_trans (by decide) hkk)) tk (xv 3)) (xalt (xmeth0 T.c_Thing c_Thing_within (hr.mono (Nat.le_trans (by decide) hkk)) tk (xv 3)) (xalt (xmeth0 T.c_Let c_Let_within (hr.mono (Nat.le_trans (by decide) hkk)) tk (xv 3)) (xalt (xmeth0 T.c_Elder c_Elder_within (hr.mono (Nat.le_trans (by decide) hkk)) tk (xv 3)) (xalt (xmeth0 T.c_All c_All_within (hr.mono (Nat.le_trans (by decide) hkk)) tk (xv 3)) (xalt (xmeth0 T.c_One c_One_within (hr.mono (Nat.le_trans (by decide) hkk)) tk (xv 3)) (xmeth0 T.c_Ask c_Ask_within (hr.mono (Nat.le_trans (by decide) hkk)) tk (xv 3)))))))) (acons (xop oAdd (xv 1) xint) (acons (xop oAdd (xv 2) xint) anil)))) (xgn 2 nd))
    (bone (xif (xtcmp oGt (xv 2) (xgI rfl T.c_MOST_ITEMS)) (bone xnever) bnil))))
    (bone (xret (xv 2)))))
abbrev st_net_by : Stmt := top 28
abbrev nm_net_by : List Str := ["program", "draft", "home", "here", "item"]
theorem sc_net_by : FnScope nm_net_by ["program"] (defScope st_net_by) := ⟨rfl, rfl, rfl, by decide +kernel, rfl, by decide +kernel, by decide +kernel⟩
def net_by_b1 (cl : Str → Addr) (sp_Part_laid : Spc) (sp_Thing_laid : Spc) (sp_Let_laid : Spc) (sp_Elder_laid : Spc) (sp_All_laid : Spc) (sp_One_laid : Spc) (sp_Ask_laid : Spc) : WS :=
  (wAsg (wAlt (wOMth (cl "Part") "laid" sp_Part_laid (wVar 4) (wCons (wVar 1) (wCons (wVar 2) (wCons (wVar 3) wNil)))) (wAlt (wOMth (cl "Thing") "laid" sp_Thing_laid (wVar 4) (wCons (wVar 1) (wCons (wVar 2) (wCons (wVar 3) wNil)))) (wAlt (wOMth (cl "Let") "laid" sp_Let_laid (wVar 4) (wCons (wVar 1) (wCons (wVar 2) (wCons (wVar 3) wNil)))) (wAlt (wOMth (cl "Elder") "laid" sp_Elder_laid (wVar 4) (wCons (wVar 1) (wCons (wVar 2) (wCons (wVar 3) wNil)))) (wAlt (wOMth (cl "All") "laid" sp_All_laid (wVar 4) (wCons (wVar 1) (wCons (wVar 2) (wCons (wVar 3) wNil)))) (wAlt (wOMth (cl "One") "laid" sp_One_laid (wVar 4) (wCons (wVar 1) (wCons (wVar 2) (wCons (wVar 3) wNil)))) (wOMth (cl "Ask") "laid" sp_Ask_laid (wVar 4) (wCons (wVar 1) (wCons (wVar 2) (wCons (wVar 3) wNil)))))))))) (gN 3))
def net_by_r1 (cl : Str → Addr) (sp_net_of : Spc) : WS :=
  (wRet (wFn sp_net_of [] (wCons (w1 (pFld (cl "Draft") "scopes") (wVar 1)) (wCons (w1 (pFld (cl "Draft") "things") (wVar 1)) (wCons (w1 (pFld (cl "Draft") "questions") (wVar 1)) wNil)))))
def ws_net_by (cl : Str → Addr) (sp_counted : Spc) (sp_Draft___init__ : Spc) (sp_Draft_new_scope : Spc) (sp_Part_laid : Spc) (sp_Thing_laid : Spc) (sp_Let_laid : Spc) (sp_Elder_laid : Spc) (sp_All_laid : Spc) (sp_One_laid : Spc) (sp_Ask_laid : Spc) (sp_net_of : Spc) : WS :=
  (wSeq (wDrop (wFn sp_counted [] (wCons (wVar 0) (wCons (wC (.int 0)) (wCons (wC (.int 0)) wNil)))))
    (wSeq (wAsg (wONew (cl "Draft") sp_Draft___init__ wNil) (gN 1))
    (wSeq (wAsg (wOMth (cl "Draft") "new_scope" sp_Draft_new_scope (wVar 1) (wCons (wLst wNil) wNil)) (gN 2))
    (wSeq (wAsg (wVar 2) (gN 3))
    (wSeq (wFor (wIt (wVar 0)) (gN 4) (net_by_b1 cl sp_Part_laid sp_Thing_laid sp_Let_laid sp_Elder_laid sp_All_laid sp_One_laid sp_Ask_laid))
    (net_by_r1 cl sp_net_of))))))
theorem ok_net_by {f : Addr} {fd : FuncData} {sp : Spc} {cl : Str → Addr} {sp_counted : Spc} {sp_Draft___init__ : Spc} {sp_Draft_new_scope : Spc} {sp_Part_laid : Spc} {sp_Thing_laid : Spc} {sp_Let_laid : Spc} {sp_Elder_laid : Spc} {sp_All_laid : Spc} {sp_One_laid : Spc} {sp_Ask_laid : Spc} {sp_net_of : Spc} (F : Fun K "net_by" "net_by" st_net_by f fd) (T : Txt K mg cl) (c_counted : Fc P w K mg base "counted" 36 ["some", "depth", "many"] sp_counted) (c_Draft___init__ : Fk P w K mg base "Draft" (cl "Draft") 1 ["self"] sp_Draft___init__) (c_Draft_new_scope : Fm P w K mg base (cl "Draft") "new_scope" 1 ["self", "steps"] sp_Draft_new_scope) (c_Part_laid : Fm P w K mg base (cl "Part") "laid" 38 ["self", "draft", "home", "here"] sp_Part_laid) (c_Thing_laid : Fm P w K mg base (cl "Thing") "laid" 3 ["self", "draft", "home", "here"] sp_Thing_laid) (c_Let_laid : Fm P w K mg base (cl "Let") "laid" 3 ["self", "draft", "home", "here"] sp_Let_laid) (c_Elder_laid : Fm P w K mg base (cl "Elder") "laid" 2 ["self", "draft", "home", "here"] sp_Elder_laid) (c_All_laid : Fm P w K mg base (cl "All") "laid" 2 ["self", "draft", "home", "here"] sp_All_laid) (c_One_laid : Fm P w K mg base (cl "One") "laid" 2 ["self", "draft", "home", "here"] sp_One_laid) (c_Ask_laid : Fm P w K mg base (cl "Ask") "laid" 2 ["self", "draft", "home", "here"] sp_Ask_laid) (c_net_of : Fc P w K mg base "net_of" 3 ["scopes", "things", "questions"] sp_net_of) (hl : ∀ ds S K KX, sp ds S K KX → ds.length = 1)
    (hs : ∀ ds S K KX, sp ds S K KX → ws_net_by cl sp_counted sp_Draft___init__ sp_Draft_new_scope sp_Part_laid sp_Thing_laid sp_Let_laid sp_Elder_laid sp_All_laid sp_One_laid sp_Ask_laid sp_net_of { nx := fun _ S1 => K (.z .none) S1, rt := K, ex := fun y _ S1 => KX y S1 } (startE nm_net_by ds) S) : FnOk P w K mg base (L2N.CX P w) 39 f fd ["program"] (spOf sp) := by
  have nd := sc_net_by.nd
  refine fnpx F sc_net_by hl (ws := ws_net_by cl sp_counted sp_Draft___init__ sp_Draft_new_scope sp_Part_laid sp_Thing_laid sp_Let_laid sp_Elder_laid sp_All_laid sp_One_laid sp_Ask_laid sp_net_of) (fun cdv A outer s H E B F0 hr tk hp => ?_) hs
  have hu := hu_px hr
  exact (bcons (xexpr (xfc c_counted (hr.mono (by decide)) tk rfl (acons (xv 0) (acons xint (acons xint anil)))))
    (bcons (xasg (xmake0 c_Draft___init__ (hr.mono (by decide)) tk rfl) (xgn 1 nd))
    (bcons (xasg (xmeth T.c_Draft c_Draft_new_scope (hr.mono (by decide)) tk (xv 1) (acons (xlst anil) anil)) (xgn 2 nd))
    (bcons (xasg (xv 2) (xgn 3 nd))
    (bcons (xfor hp rfl (xit (xv 0)) (xgn 4 nd) (bone (xasg (xalt (xmeth T.c_Part c_Part_laid (hr.mono (by decide)) tk (xv 4) (acons (xv 1) (acons (xv 2) (acons (xv 3) anil)))) (xalt (xmeth T.c_Thing c_Thing_laid (hr.mono (by decide)) tk (xv 4) (acons (xv 1) (acons (xv 2) (acons (xv 3) anil)))) (xalt (xmeth T.c_Let c_Let_laid (hr.mono (by decide)) tk (xv 4) (acons (xv 1) (acons (xv 2) (acons (xv 3) anil)))) (xalt (xmeth T.c_Elder c_Elder_laid (hr.mono (by decide)) tk (xv 4) (acons (xv 1) (acons (xv 2) (acons (xv 3) anil)))) (xalt (xmeth T.c_All c_All_laid (hr.mono (by decide)) tk (xv 4) (acons (xv 1) (acons (xv 2) (acons (xv 3) anil)))) (xalt (xmeth T.c_One c_One_laid (hr.mono (by decide)) tk (xv 4) (acons (xv 1) (acons (xv 2) (acons (xv 3) anil)))) (xmeth T.c_Ask c_Ask_laid (hr.mono (by decide)) tk (xv 4) (acons (xv 1) (acons (xv 2) (acons (xv 3) anil)))))))))) (xgn 3 nd))))
    (bone (xret (xfc c_net_of (hr.mono (by decide)) tk rfl (acons (xfld T.c_Draft T.na_Draft_scopes (xv 1)) (acons (xfld T.c_Draft T.na_Draft_things (xv 1)) (acons (xfld T.c_Draft T.na_Draft_questions (xv 1)) anil)))))))))))
abbrev st__law_cell_at : Stmt := top 39
abbrev nm__law_cell_at : List Str := ["_law_script", "_law_k"]
theorem sc__law_cell_at : FnScope nm__law_cell_at ["_law_script", "_law_k"] (defScope st__law_cell_at) := ⟨rfl, rfl, rfl, by decide +kernel, rfl, by decide +kernel, by decide +kernel⟩
def _law_cell_at_r1 : WS :=
  (wRet (wC (.int 0)))
def ws__law_cell_at : WS :=
  (wSeq (wIf (wB (w2 (cB bLtD) (wVar 1) (wCall pLen (wCons (wVar 0) wNil)))) (wRet (w2 pIx (wVar 0) (wVar 1))) wNext)
    _law_cell_at_r1)
theorem ok__law_cell_at {f : Addr} {fd : FuncData} {sp : Spc} {cl : Str → Addr} (F : Fun K "_law_cell_at" "_law_cell_at" st__law_cell_at f fd) (T : Txt K mg cl) (hl : ∀ ds S K KX, sp ds S K KX → ds.length = 2)
    (hs : ∀ ds S K KX, sp ds S K KX → ws__law_cell_at { nx := fun _ S1 => K (.z .none) S1, rt := K, ex := fun y _ S1 => KX y S1 } (startE nm__law_cell_at ds) S) : FnOk P w K mg base (L2N.CX P w) 1 f fd ["_law_script", "_law_k"] (spOf sp) := by
  have nd := sc__law_cell_at.nd
  refine fnpx F sc__law_cell_at hl (ws := ws__law_cell_at) (fun cdv A outer s H E B F0 hr tk hp => ?_) hs
  have hu := hu_px hr
  exact (bcons (xif (xtcmp (oLtD hu) (xv 1) (xcallB oLen rfl T.n_len bb_len (acons (xv 0) anil))) (bone (xret (xix (oIx hu) (xv 0) (xv 1)))) bnil)
    (bone (xret xint)))
abbrev st__law_name : Stmt := top 40
abbrev nm__law_name : List Str := ["_law_cell", "_law_letters", "_law_number", "_law_k"]
theorem sc__law_name : FnScope nm__law_name ["_law_cell"] (defScope st__law_name) := ⟨rfl, rfl, rfl, by decide +kernel, rfl, by decide +kernel, by decide +kernel⟩
def _law_name_e1 : WE :=
  (w2 pIx (wVar 1) (w2 pMod (w2 pDiv (wVar 2) (w2 pAdd (w2 pMul (wC (.int 7)) (wVar 3)) (wC (.int 3)))) (wC (.int 26))))
def ws__law_name : WS :=
  (wSeq (wAsg (wC (.str (PySem.Str.ofString "abcdefghijklmnopqrstuvwxyz"))) (gN 1))
    (wSeq (wAsg (w2 pMod (w2 pMul (w2 pMod (wVar 0) (w2 pPow (wC (.int 10)) (wC (.int 9)))) (wC (.int 48271))) (wC (.int 2147483647))) (gN 2))
    (wRet (wMth .str pJoin (wC (.str (PySem.Str.ofString ""))) (wCons (wLc (wRg1 (wCons (w2 pAdd (wC (.int 1)) (w2 pMod (w2 pDiv (wVar 2) (wC (.int 1000))) (wC (.int 8)))) wNil)) (tgN 3) wYes _law_name_e1 [3]) wNil)))))
theorem ok__law_name {f : Addr} {fd : FuncData} {sp : Spc} {cl : Str → Addr} (F : Fun K "_law_name" "_law_name" st__law_name f fd) (T : Txt K mg cl) (hl : ∀ ds S K KX, sp ds S K KX → ds.length = 1)
    (hs : ∀ ds S K KX, sp ds S K KX → ws__law_name { nx := fun _ S1 => K (.z .none) S1, rt := K, ex := fun y _ S1 => KX y S1 } (startE nm__law_name ds) S) : FnOk P w K mg base (L2N.CX P w) 1 f fd ["_law_cell"] (spOf sp) := by
  have nd := sc__law_name.nd
  refine fnpx F sc__law_name hl (ws := ws__law_name) (fun cdv A outer s H E B F0 hr tk hp => ?_) hs
  have hu := hu_px hr
  exact (bcons (xasg xstr (xgn 1 nd))
    (bcons (xasg (xop oMod (xop oMul (xop oMod (xv 0) (xop oPow xint xint)) xint) xint) (xgn 2 nd))
    (bone (xret (xm1 (T := .str) PySem.F.plainAttrs_str PySem.F.slot_str_join PySem.F.type_str_join oJoin xstr (acons (xlc (own := [("_law_k", 3)]) rfl nd (xrg1 rfl T.n_range (acons (xop oAdd xint (xop oMod (xop oDiv (xv 2) xint) xint)) anil)) (blkOk_by (N := nm__law_name) (sc := defScope st__law_name) (by decide +kernel)) (fun _ _ _ _ _ => pg_name (i := 3) nd rfl (Or.inl rfl)) tgok_name (fun _ _ _ _ _ => tsNil) (fun _ _ _ _ _ => (xix (oIx hu) (xv 1) (xop oMod (xop oDiv (xv 2) (xop oAdd (xop oMul xint (xv 3)) xint)) xint)))) anil))))))
abbrev st__law_path : Stmt := top 41
abbrev nm__law_path : List Str := ["_law_script", "_law_start", "_law_many", "_law_k"]
theorem sc__law_path : FnScope nm__law_path ["_law_script", "_law_start"] (defScope st__law_path) := ⟨rfl, rfl, rfl, by decide +kernel, rfl, by decide +kernel, by decide +kernel⟩
def _law_path_e1 (sp__law_cell_at : Spc) (sp__law_name : Spc) : WE :=
  (wFn sp__law_name [] (wCons (wFn sp__law_cell_at [] (wCons (wVar 0) (wCons (w2 pAdd (w2 pAdd (wVar 1) (wC (.int 1))) (wVar 3)) wNil))) wNil))
def ws__law_path (sp__law_cell_at : Spc) (sp__law_name : Spc) : WS :=
  (wSeq (wAsg (w2 pAdd (wC (.int 1)) (w2 pMod (wFn sp__law_cell_at [] (wCons (wVar 0) (wCons (wVar 1) wNil))) (wC (.int 6)))) (gN 2))
    (wRet (wCall pTuple (wCons (wLc (wRg1 (wCons (wVar 2) wNil)) (tgN 3) wYes (_law_path_e1 sp__law_cell_at sp__law_name) [3]) wNil))))
theorem ok__law_path {f : Addr} {fd : FuncData} {sp : Spc} {cl : Str → Addr} {sp__law_cell_at : Spc} {sp__law_name : Spc} (F : Fun K "_law_path" "_law_path" st__law_path f fd) (T : Txt K mg cl) (c__law_cell_at : Fc P w K mg base "_law_cell_at" 1 ["_law_script", "_law_k"] sp__law_cell_at) (c__law_name : Fc P w K mg base "_law_name" 1 ["_law_cell"] sp__law_name) (hl : ∀ ds S K KX, sp ds S K KX → ds.length = 2)
    (hs : ∀ ds S K KX, sp ds S K KX → ws__law_path sp__law_cell_at sp__law_name { nx := fun _ S1 => K (.z .none) S1, rt := K, ex := fun y _ S1 => KX y S1 } (startE nm__law_path ds) S) : FnOk P w K mg base (L2N.CX P w) 2 f fd ["_law_script", "_law_start"] (spOf sp) := by
  have nd := sc__law_path.nd
  refine fnpx F sc__law_path hl (ws := ws__law_path sp__law_cell_at sp__law_name) (fun cdv A outer s H E B F0 hr tk hp => ?_) hs
  have hu := hu_px hr
  exact (bcons (xasg (xop oAdd xint (xop oMod (xfc c__law_cell_at (hr.mono (by decide)) tk rfl (acons (xv 0) (acons (xv 1) anil))) xint)) (xgn 2 nd))
    (bone (xret (xcallT oTuple rfl T.n_tuple bb_tuple (acons (xlc (own := [("_law_k", 3)]) rfl nd (xrg1 rfl T.n_range (acons (xv 2) anil)) (blkOk_by (N := nm__law_path) (sc := defScope st__law_path) (by decide +kernel)) (fun _ _ _ _ _ => pg_name (i := 3) nd rfl (Or.inl rfl)) tgok_name (fun _ _ _ _ _ => tsNil) (fun _ _ _ _ _ => (xfc c__law_name (hr.mono (by decide)) takes0N rfl (acons (xfc c__law_cell_at (hr.mono (by decide)) takes0N rfl (acons (xv 0) (acons (xop oAdd (xop oAdd (xv 1) xint) (xv 3)) anil))) anil)))) anil)))))
abbrev st__law_item : Stmt := top 42
abbrev nm__law_item : List Str := ["_law_kind", "_law_reach", "_law_name_here", "_law_path_here"]
theorem sc__law_item : FnScope nm__law_item ["_law_kind", "_law_reach", "_law_name_here", "_law_path_here"] (defScope st__law_item) := ⟨rfl, rfl, rfl, by decide +kernel, rfl, by decide +kernel, by decide +kernel⟩
def _law_item_r1 (cl : Str → Addr) (sp_Ask___init__ : Spc) : WS :=
  (wRet (wONew (cl "Ask") sp_Ask___init__ (wCons (wVar 3) wNil)))
def _law_item_r2 (cl : Str → Addr) (sp_One___init__ : Spc) (sp_Ask___init__ : Spc) : WS :=
  (wSeq (wIf (wB (w2 (cB bEq) (wVar 0) (wC (.int 7)))) (wRet (wONew (cl "One") sp_One___init__ (wCons (wVar 1) (wCons (wVar 2) (wCons (wVar 3) wNil))))) wNext)
    (_law_item_r1 cl sp_Ask___init__))
def _law_item_r3 (cl : Str → Addr) (sp_All___init____d : Spc) (sp_One___init__ : Spc) (sp_Ask___init__ : Spc) : WS :=
  (wSeq (wIf (wB (w2 (cB bEq) (wVar 0) (wC (.int 6)))) (wRet (wONewD (cl "All") sp_All___init____d (.bool false) (wCons (wVar 3) wNil))) wNext)
    (_law_item_r2 cl sp_One___init__ sp_Ask___init__))
def _law_item_r4 (cl : Str → Addr) (sp_Elder___init__ : Spc) (sp_All___init____d : Spc) (sp_One___init__ : Spc) (sp_Ask___init__ : Spc) : WS :=
  (wSeq (wIf (wB (w2 (cB bEq) (wVar 0) (wC (.int 5)))) (wRet (wONew (cl "Elder") sp_Elder___init__ (wCons (wVar 3) wNil))) wNext)
    (_law_item_r3 cl sp_All___init____d sp_One___init__ sp_Ask___init__))
def _law_item_r5 (cl : Str → Addr) (sp_Let___init__ : Spc) (sp_Elder___init__ : Spc) (sp_All___init____d : Spc) (sp_One___init__ : Spc) (sp_Ask___init__ : Spc) : WS :=
  (wSeq (wIf (wB (w2 (cB bEq) (wVar 0) (wC (.int 4)))) (wRet (wONew (cl "Let") sp_Let___init__ (wCons (wVar 2) (wCons (wVar 3) wNil)))) wNext)
    (_law_item_r4 cl sp_Elder___init__ sp_All___init____d sp_One___init__ sp_Ask___init__))
def _law_item_r6 (cl : Str → Addr) (sp_Let___init____d : Spc) (sp_Let___init__ : Spc) (sp_Elder___init__ : Spc) (sp_All___init____d : Spc) (sp_One___init__ : Spc) (sp_Ask___init__ : Spc) : WS :=
  (wSeq (wIf (wB (w2 (cB bEq) (wVar 0) (wC (.int 3)))) (wRet (wONewD (cl "Let") sp_Let___init____d .none (wCons (wVar 2) wNil))) wNext)
    (_law_item_r5 cl sp_Let___init__ sp_Elder___init__ sp_All___init____d sp_One___init__ sp_Ask___init__))
def _law_item_r7 (cl : Str → Addr) (sp_Thing___init__ : Spc) (sp_Let___init____d : Spc) (sp_Let___init__ : Spc) (sp_Elder___init__ : Spc) (sp_All___init____d : Spc) (sp_One___init__ : Spc) (sp_Ask___init__ : Spc) : WS :=
  (wSeq (wIf (wB (w2 (cB bEq) (wVar 0) (wC (.int 2)))) (wRet (wONew (cl "Thing") sp_Thing___init__ (wCons (wVar 1) (wCons (wVar 2) (wCons (wVar 3) wNil))))) wNext)
    (_law_item_r6 cl sp_Let___init____d sp_Let___init__ sp_Elder___init__ sp_All___init____d sp_One___init__ sp_Ask___init__))
def _law_item_r8 (cl : Str → Addr) (sp_Thing___init____d : Spc) (sp_Thing___init__ : Spc) (sp_Let___init____d : Spc) (sp_Let___init__ : Spc) (sp_Elder___init__ : Spc) (sp_All___init____d : Spc) (sp_One___init__ : Spc) (sp_Ask___init__ : Spc) : WS :=
  (wSeq (wIf (wB (w2 (cB bEq) (wVar 0) (wC (.int 1)))) (wRet (wONewD (cl "Thing") sp_Thing___init____d .none (wCons (wVar 1) (wCons (wVar 2) wNil)))) wNext)
    (_law_item_r7 cl sp_Thing___init__ sp_Let___init____d sp_Let___init__ sp_Elder___init__ sp_All___init____d sp_One___init__ sp_Ask___init__))
def ws__law_item (cl : Str → Addr) (sp_Part___init__ : Spc) (sp_Thing___init____d : Spc) (sp_Thing___init__ : Spc) (sp_Let___init____d : Spc) (sp_Let___init__ : Spc) (sp_Elder___init__ : Spc) (sp_All___init____d : Spc) (sp_One___init__ : Spc) (sp_Ask___init__ : Spc) : WS :=
  (wSeq (wIf (wB (w2 (cB bEq) (wVar 0) (wC (.int 0)))) (wRet (wONew (cl "Part") sp_Part___init__ (wCons (wVar 1) (wCons (wVar 2) (wCons (wLst wNil) wNil))))) wNext)
    (_law_item_r8 cl sp_Thing___init____d sp_Thing___init__ sp_Let___init____d sp_Let___init__ sp_Elder___init__ sp_All___init____d sp_One___init__ sp_Ask___init__))
theorem ok__law_item {f : Addr} {fd : FuncData} {sp : Spc} {cl : Str → Addr} {sp_Part___init__ : Spc} {sp_Thing___init____d : Spc} {sp_Thing___init__ : Spc} {sp_Let___init____d : Spc} {sp_Let___init__ : Spc} {sp_Elder___init__ : Spc} {sp_All___init____d : Spc} {sp_One___init__ : Spc} {sp_Ask___init__ : Spc} (F : Fun K "_law_item" "_law_item" st__law_item f fd) (T : Txt K mg cl) (c_Part___init__ : Fk P w K mg base "Part" (cl "Part") 1 ["self", "reach", "name", "items"] sp_Part___init__) (c_Thing___init____d : FkD P w K mg base "Thing" (cl "Thing") 1 ["self", "reach", "name", "of"] .none sp_Thing___init____d) (c_Thing___init__ : Fk P w K mg base "Thing" (cl "Thing") 1 ["self", "reach", "name", "of"] sp_Thing___init__) (c_Let___init____d : FkD P w K mg base "Let" (cl "Let") 1 ["self", "name", "of"] .none sp_Let___init____d) (c_Let___init__ : Fk P w K mg base "Let" (cl "Let") 1 ["self", "name", "of"] sp_Let___init__) (c_Elder___init__ : Fk P w K mg base "Elder" (cl "Elder") 1 ["self", "path"] sp_Elder___init__) (c_All___init____d : FkD P w K mg base "All" (cl "All") 1 ["self", "path", "on"] (.bool false) sp_All___init____d) (c_One___init__ : Fk P w K mg base "One" (cl "One") 1 ["self", "reach", "name", "path"] sp_One___init__) (c_Ask___init__ : Fk P w K mg base "Ask" (cl "Ask") 1 ["self", "path"] sp_Ask___init__) (hl : ∀ ds S K KX, sp ds S K KX → ds.length = 4)
    (hs : ∀ ds S K KX, sp ds S K KX → ws__law_item cl sp_Part___init__ sp_Thing___init____d sp_Thing___init__ sp_Let___init____d sp_Let___init__ sp_Elder___init__ sp_All___init____d sp_One___init__ sp_Ask___init__ { nx := fun _ S1 => K (.z .none) S1, rt := K, ex := fun y _ S1 => KX y S1 } (startE nm__law_item ds) S) : FnOk P w K mg base (L2N.CX P w) 3 f fd ["_law_kind", "_law_reach", "_law_name_here", "_law_path_here"] (spOf sp) := by
  have nd := sc__law_item.nd
  refine fnpx F sc__law_item hl (ws := ws__law_item cl sp_Part___init__ sp_Thing___init____d sp_Thing___init__ sp_Let___init____d sp_Let___init__ sp_Elder___init__ sp_All___init____d sp_One___init__ sp_Ask___init__) (fun cdv A outer s H E B F0 hr tk hp => ?_) hs
  have hu := hu_px hr
  exact (bcons (xif (xtcmp (oEq hu) (xv 0) xint) (bone (xret (xmake c_Part___init__ (hr.mono (by decide)) tk rfl (acons (xv 1) (acons (xv 2) (acons (xlst anil) anil)))))) bnil)
    (bcons (xif (xtcmp (oEq hu) (xv 0) xint) (bone (xret (xmakeD c_Thing___init____d (hr.mono (by decide)) tk rfl (acons (xv 1) (acons (xv 2) anil))))) bnil)
    (bcons (xif (xtcmp (oEq hu) (xv 0) xint) (bone (xret (xmake c_Thing___init__ (hr.mono (by decide)) tk rfl (acons (xv 1) (acons (xv 2) (acons (xv 3) anil)))))) bnil)
    (bcons (xif (xtcmp (oEq hu) (xv 0) xint) (bone (xret (xmakeD c_Let___init____d (hr.mono (by decide)) tk rfl (acons (xv 2) anil)))) bnil)
    (bcons (xif (xtcmp (oEq hu) (xv 0) xint) (bone (xret (xmake c_Let___init__ (hr.mono (by decide)) tk rfl (acons (xv 2) (acons (xv 3) anil))))) bnil)
    (bcons (xif (xtcmp (oEq hu) (xv 0) xint) (bone (xret (xmake c_Elder___init__ (hr.mono (by decide)) tk rfl (acons (xv 3) anil)))) bnil)
    (bcons (xif (xtcmp (oEq hu) (xv 0) xint) (bone (xret (xmakeD c_All___init____d (hr.mono (by decide)) tk rfl (acons (xv 3) anil)))) bnil)
    (bcons (xif (xtcmp (oEq hu) (xv 0) xint) (bone (xret (xmake c_One___init__ (hr.mono (by decide)) tk rfl (acons (xv 1) (acons (xv 2) (acons (xv 3) anil)))))) bnil)
    (bone (xret (xmake c_Ask___init__ (hr.mono (by decide)) tk rfl (acons (xv 3) anil))))))))))))
abbrev st__law_due : Stmt := top 43
abbrev nm__law_due : List Str := ["_law_kind", "_law_reach", "_law_name_here", "_law_path_here", "_law_told", "_law_inner"]
theorem sc__law_due : FnScope nm__law_due ["_law_kind", "_law_reach", "_law_name_here", "_law_path_here"] (defScope st__law_due) := ⟨rfl, rfl, rfl, by decide +kernel, rfl, by decide +kernel, by decide +kernel⟩
def _law_due_r1 : WS :=
  (wRet (wTup (wCons (wLst (wCons (wTup (wCons (wLst wNil) (wCons (wLst wNil) wNil))) wNil)) (wCons (wLst wNil) (wCons (wLst (wCons (wTup (wCons (wC (.int 0)) (wCons (wC (.int 0)) (wCons (wVar 3) wNil)))) wNil)) wNil)))))
def _law_due_r2 : WS :=
  (wSeq (wIf (wB (w2 (cB bEq) (wVar 0) (wC (.int 7)))) (wRet (wTup (wCons (wLst (wCons (wTup (wCons (wLst wNil) (wCons (wLst (wCons (wTup (wCons (wVar 1) (wCons (wVar 2) (wCons (wC (.str (PySem.Str.ofString "by"))) (wCons (wC (.int 0)) wNil))))) wNil)) wNil))) wNil)) (wCons (wLst wNil) (wCons (wLst (wCons (wTup (wCons (wC (.int 0)) (wCons (wC (.int 2)) (wCons (wVar 3) wNil)))) wNil)) wNil))))) wNext)
    _law_due_r1)
def _law_due_r3 : WS :=
  (wSeq (wIf (wB (w2 (cB bEq) (wVar 0) (wC (.int 6)))) (wRet (wTup (wCons (wLst (wCons (wTup (wCons (wLst (wCons (wTup (wCons (wC (.str (PySem.Str.ofString "all"))) (wCons (wC (.str (PySem.Str.ofString "by"))) (wCons (wC (.int 0)) wNil)))) wNil)) (wCons (wLst wNil) wNil))) wNil)) (wCons (wLst wNil) (wCons (wLst (wCons (wTup (wCons (wC (.int 0)) (wCons (wC (.int 2)) (wCons (wVar 3) wNil)))) wNil)) wNil))))) wNext)
    _law_due_r2)
def _law_due_r4 : WS :=
  (wSeq (wIf (wB (w2 (cB bEq) (wVar 0) (wC (.int 5)))) (wRet (wTup (wCons (wLst (wCons (wTup (wCons (wLst (wCons (wTup (wCons (wC (.str (PySem.Str.ofString "elder"))) (wCons (wC (.str (PySem.Str.ofString "by"))) (wCons (wC (.int 0)) wNil)))) wNil)) (wCons (wLst wNil) wNil))) wNil)) (wCons (wLst wNil) (wCons (wLst (wCons (wTup (wCons (wC (.int 0)) (wCons (wC (.int 2)) (wCons (wVar 3) wNil)))) wNil)) wNil))))) wNext)
    _law_due_r3)
def _law_due_r5 : WS :=
  (wSeq (wIf (wB (w2 (cB bEq) (wVar 0) (wC (.int 4)))) (wRet (wTup (wCons (wLst (wCons (wTup (wCons (wLst wNil) (wCons (wLst wNil) wNil))) (wCons (wVar 5) wNil))) (wCons (wLst (wCons (wTup (wCons (wC (.str (PySem.Str.ofString "sort"))) (wCons (wC (.int 0)) wNil))) wNil)) (wCons (wLst (wCons (wTup (wCons (wC (.int 0)) (wCons (wC (.int 0)) (wCons (wVar 3) wNil)))) wNil)) wNil))))) wNext)
    _law_due_r4)
def _law_due_r6 : WS :=
  (wSeq (wAsg (wTup (wCons (wLst (wCons (wTup (wCons (wC (.str (PySem.Str.ofString "up"))) (wCons (wC (.str (PySem.Str.ofString "to"))) (wCons (wC (.int 0)) wNil)))) wNil)) (wCons (wLst (wCons (wTup (wCons (wC (.str (PySem.Str.ofString "let"))) (wCons (wVar 2) (wCons (wC (.str (PySem.Str.ofString "thing"))) (wCons (wC (.int 0)) wNil))))) wNil)) wNil))) (gN 5))
    (wSeq (wIf (wB (w2 (cB bEq) (wVar 0) (wC (.int 3)))) (wRet (wTup (wCons (wLst (wCons (wTup (wCons (wLst wNil) (wCons (wLst wNil) wNil))) (wCons (wVar 5) wNil))) (wCons (wLst (wCons (wTup (wCons (wC (.str (PySem.Str.ofString "plain"))) (wCons (wC (.int 0)) wNil))) wNil)) (wCons (wLst wNil) wNil))))) wNext)
    _law_due_r5))
def _law_due_r7 : WS :=
  (wSeq (wIf (wB (w2 (cB bEq) (wVar 0) (wC (.int 2)))) (wRet (wTup (wCons (wLst (wCons (wTup (wCons (wLst wNil) (wCons (wLst (wCons (wVar 4) wNil)) wNil))) wNil)) (wCons (wLst (wCons (wTup (wCons (wC (.str (PySem.Str.ofString "sort"))) (wCons (wC (.int 0)) wNil))) wNil)) (wCons (wLst (wCons (wTup (wCons (wC (.int 0)) (wCons (wC (.int 0)) (wCons (wVar 3) wNil)))) wNil)) wNil))))) wNext)
    _law_due_r6)
def _law_due_r8 : WS :=
  (wSeq (wIf (wB (w2 (cB bEq) (wVar 0) (wC (.int 1)))) (wRet (wTup (wCons (wLst (wCons (wTup (wCons (wLst wNil) (wCons (wLst (wCons (wVar 4) wNil)) wNil))) wNil)) (wCons (wLst (wCons (wTup (wCons (wC (.str (PySem.Str.ofString "plain"))) (wCons (wC (.int 0)) wNil))) wNil)) (wCons (wLst wNil) wNil))))) wNext)
    _law_due_r7)
def ws__law_due : WS :=
  (wSeq (wAsg (wTup (wCons (wVar 1) (wCons (wVar 2) (wCons (wC (.str (PySem.Str.ofString "thing"))) (wCons (wC (.int 0)) wNil))))) (gN 4))
    (wSeq (wIf (wB (w2 (cB bEq) (wVar 0) (wC (.int 0)))) (wRet (wTup (wCons (wLst (wCons (wTup (wCons (wLst wNil) (wCons (wLst (wCons (wVar 4) wNil)) wNil))) (wCons (wTup (wCons (wLst (wCons (wTup (wCons (wC (.str (PySem.Str.ofString "up"))) (wCons (wC (.str (PySem.Str.ofString "to"))) (wCons (wC (.int 0)) wNil)))) wNil)) (wCons (wLst wNil) wNil))) wNil))) (wCons (wLst (wCons (wTup (wCons (wC (.str (PySem.Str.ofString "part"))) (wCons (wC (.int 1)) wNil))) wNil)) (wCons (wLst wNil) wNil))))) wNext)
    _law_due_r8))
theorem ok__law_due {f : Addr} {fd : FuncData} {sp : Spc} {cl : Str → Addr} (F : Fun K "_law_due" "_law_due" st__law_due f fd) (T : Txt K mg cl) (hl : ∀ ds S K KX, sp ds S K KX → ds.length = 4)
    (hs : ∀ ds S K KX, sp ds S K KX → ws__law_due { nx := fun _ S1 => K (.z .none) S1, rt := K, ex := fun y _ S1 => KX y S1 } (startE nm__law_due ds) S) : FnOk P w K mg base (L2N.CX P w) 1 f fd ["_law_kind", "_law_reach", "_law_name_here", "_law_path_here"] (spOf sp) := by
  have nd := sc__law_due.nd
  refine fnpx F sc__law_due hl (ws := ws__law_due) (fun cdv A outer s H E B F0 hr tk hp => ?_) hs
  have hu := hu_px hr
  exact (bcons (xasg (xtup (acons (xv 1) (acons (xv 2) (acons xstr (acons xint anil))))) (xgn 4 nd))
    (bcons (xif (xtcmp (oEq hu) (xv 0) xint) (bone (xret (xtup (acons (xlst (acons (xtup (acons (xlst anil) (acons (xlst (acons (xv 4) anil)) anil))) (acons (xtup (acons (xlst (acons (xtup (acons xstr (acons xstr (acons xint anil)))) anil)) (acons (xlst anil) anil))) anil))) (acons (xlst (acons (xtup (acons xstr (acons xint anil))) anil)) (acons (xlst anil) anil)))))) bnil)
    (bcons (xif (xtcmp (oEq hu) (xv 0) xint) (bone (xret (xtup (acons (xlst (acons (xtup (acons (xlst anil) (acons (xlst (acons (xv 4) anil)) anil))) anil)) (acons (xlst (acons (xtup (acons xstr (acons xint anil))) anil)) (acons (xlst anil) anil)))))) bnil)
    (bcons (xif (xtcmp (oEq hu) (xv 0) xint) (bone (xret (xtup (acons (xlst (acons (xtup (acons (xlst anil) (acons (xlst (acons (xv 4) anil)) anil))) anil)) (acons (xlst (acons (xtup (acons xstr (acons xint anil))) anil)) (acons (xlst (acons (xtup (acons xint (acons xint (acons (xv 3) anil)))) anil)) anil)))))) bnil)
    (bcons (xasg (xtup (acons (xlst (acons (xtup (acons xstr (acons xstr (acons xint anil)))) anil)) (acons (xlst (acons (xtup (acons xstr (acons (xv 2) (acons xstr (acons xint anil))))) anil)) anil))) (xgn 5 nd))
    (bcons (xif (xtcmp (oEq hu) (xv 0) xint) (bone (xret (xtup (acons (xlst (acons (xtup (acons (xlst anil) (acons (xlst anil) anil))) (acons (xv 5) anil))) (acons (xlst (acons (xtup (acons xstr (acons xint anil))) anil)) (acons (xlst anil) anil)))))) bnil)
    (bcons (xif (xtcmp (oEq hu) (xv 0) xint) (bone (xret (xtup (acons (xlst (acons (xtup (acons (xlst anil) (acons (xlst anil) anil))) (acons (xv 5) anil))) (acons (xlst (acons (xtup (acons xstr (acons xint anil))) anil)) (acons (xlst (acons (xtup (acons xint (acons xint (acons (xv 3) anil)))) anil)) anil)))))) bnil)
    (bcons (xif (xtcmp (oEq hu) (xv 0) xint) (bone (xret (xtup (acons (xlst (acons (xtup (acons (xlst (acons (xtup (acons xstr (acons xstr (acons xint anil)))) anil)) (acons (xlst anil) anil))) anil)) (acons (xlst anil) (acons (xlst (acons (xtup (acons xint (acons xint (acons (xv 3) anil)))) anil)) anil)))))) bnil)
    (bcons (xif (xtcmp (oEq hu) (xv 0) xint) (bone (xret (xtup (acons (xlst (acons (xtup (acons (xlst (acons (xtup (acons xstr (acons xstr (acons xint anil)))) anil)) (acons (xlst anil) anil))) anil)) (acons (xlst anil) (acons (xlst (acons (xtup (acons xint (acons xint (acons (xv 3) anil)))) anil)) anil)))))) bnil)
    (bcons (xif (xtcmp (oEq hu) (xv 0) xint) (bone (xret (xtup (acons (xlst (acons (xtup (acons (xlst anil) (acons (xlst (acons (xtup (acons (xv 1) (acons (xv 2) (acons xstr (acons xint anil))))) anil)) anil))) anil)) (acons (xlst anil) (acons (xlst (acons (xtup (acons xint (acons xint (acons (xv 3) anil)))) anil)) anil)))))) bnil)
    (bone (xret (xtup (acons (xlst (acons (xtup (acons (xlst anil) (acons (xlst anil) anil))) anil)) (acons (xlst anil) (acons (xlst (acons (xtup (acons xint (acons xint (acons (xv 3) anil)))) anil)) anil))))))))))))))))
abbrev st__law_whole : Stmt := top 44
abbrev nm__law_whole : List Str := ["_law_number"]
theorem sc__law_whole : FnScope nm__law_whole ["_law_number"] (defScope st__law_whole) := ⟨rfl, rfl, rfl, by decide +kernel, rfl, by decide +kernel, by decide +kernel⟩
def ws__law_whole : WS :=
  (wRet (wAndV (wCall pIsi (wCons (wVar 0) (wCons (wTy .int) wNil))) (wNotV (wCall pIsi (wCons (wVar 0) (wCons (wTy .bool) wNil))))))
theorem ok__law_whole {f : Addr} {fd : FuncData} {sp : Spc} {cl : Str → Addr} (F : Fun K "_law_whole" "_law_whole" st__law_whole f fd) (T : Txt K mg cl) (hl : ∀ ds S K KX, sp ds S K KX → ds.length = 1)
    (hs : ∀ ds S K KX, sp ds S K KX → ws__law_whole { nx := fun _ S1 => K (.z .none) S1, rt := K, ex := fun y _ S1 => KX y S1 } (startE nm__law_whole ds) S) : FnOk P w K mg base (L2N.CX P w) 1 f fd ["_law_number"] (spOf sp) := by
  have nd := sc__law_whole.nd
  refine fnpx F sc__law_whole hl (ws := ws__law_whole) (fun cdv A outer s H E B F0 hr tk hp => ?_) hs
  have hu := hu_px hr
  exact (bone (xret (xand (xcallB oIsi rfl T.n_isinstance bb_isinstance (acons (xv 0) (acons (xty (T := .int) rfl T.n_int bb_int) anil))) (xone (xnot (xcallB oIsi rfl T.n_isinstance bb_isinstance (acons (xv 0) (acons (xty (T := .bool) rfl T.n_bool bb_bool) anil))))))))
abbrev st__law_kinds : Stmt := top 45
abbrev nm__law_kinds : List Str := ["_law_net", "_law_some", "_law_row", "_law_steps", "_law_tellings"]
theorem sc__law_kinds : FnScope nm__law_kinds ["_law_net"] (defScope st__law_kinds) := ⟨rfl, rfl, rfl, by decide +kernel, rfl, by decide +kernel, by decide +kernel⟩
def _law_kinds_b1 : WS :=
  (wIf (wNot (wB (wCall pIsi (wCons (wVar 2) (wCons (wTy .tuple) wNil))))) (wRet (wC (.bool false))) wNext)
def _law_kinds_b2 : WS :=
  (wSeq (wIf (wNot (wB (wCall pIsi (wCons (wVar 1) (wCons (wTy .list) wNil))))) (wRet (wC (.bool false))) wNext)
    (wFor (wIt (wVar 1)) (gN 2) _law_kinds_b1))
def _law_kinds_b3 (sp__law_whole : Spc) : WS :=
  (wIf (wOr (wNot (wB (wCall pIsi (wCons (wVar 2) (wCons (wTy .tuple) wNil))))) (wNot (wB (wFn sp__law_whole [] (wCons (w2 pIx (wVar 2) (w1 pNeg (wC (.int 1)))) wNil))))) (wRet (wC (.bool false))) wNext)
def _law_kinds_b4 (sp__law_whole : Spc) : WS :=
  (wSeq (wIf (wOr (wNot (wB (wCall pIsi (wCons (wVar 3) (wCons (wTy .list) wNil))))) (wNot (wB (wCall pIsi (wCons (wVar 4) (wCons (wTy .list) wNil)))))) (wRet (wC (.bool false))) wNext)
    (wFor (wIt (w2 pAdd (wVar 3) (wVar 4))) (gN 2) (_law_kinds_b3 sp__law_whole)))
def _law_kinds_b5 (sp__law_whole : Spc) : WS :=
  (wIf (wNot (wB (wFn sp__law_whole [] (wCons (w2 pIx (wVar 2) (wC (.int 1))) wNil)))) (wRet (wC (.bool false))) wNext)
def _law_kinds_b6 (sp__law_whole : Spc) : WS :=
  (wIf (wOr (wNot (wB (wFn sp__law_whole [] (wCons (w2 pIx (wVar 2) (wC (.int 0))) wNil)))) (wOr (wNot (wB (wFn sp__law_whole [] (wCons (w2 pIx (wVar 2) (wC (.int 1))) wNil)))) (wNot (wB (wCall pIsi (wCons (w2 pIx (wVar 2) (wC (.int 2))) (wCons (wTy .tuple) wNil))))))) (wRet (wC (.bool false))) wNext)
def _law_kinds_r1 : WS :=
  (wRet (wC (.bool true)))
def _law_kinds_r2 (sp__law_whole : Spc) : WS :=
  (wSeq (wFor (wIt (w2 pIx (wVar 0) (wC (.int 2)))) (gN 2) (_law_kinds_b6 sp__law_whole))
    _law_kinds_r1)
def _law_kinds_r3 (sp__law_whole : Spc) : WS :=
  (wSeq (wFor (wIt (w2 pIx (wVar 0) (wC (.int 1)))) (gN 2) (_law_kinds_b5 sp__law_whole))
    (_law_kinds_r2 sp__law_whole))
def _law_kinds_r4 (sp__law_whole : Spc) : WS :=
  (wSeq (wFor (wIt (w2 pIx (wVar 0) (wC (.int 0)))) (gT 2 (gC (gN 3) (gC (gN 4) gE))) (_law_kinds_b4 sp__law_whole))
    (_law_kinds_r3 sp__law_whole))
def _law_kinds_r5 (sp__law_whole : Spc) : WS :=
  (wSeq (wFor (wIt (wVar 0)) (gN 1) _law_kinds_b2)
    (_law_kinds_r4 sp__law_whole))
def ws__law_kinds (sp__law_whole : Spc) : WS :=
  (wSeq (wIf (wOr (wNot (wB (wCall pIsi (wCons (wVar 0) (wCons (wTy .tuple) wNil))))) (wB (w2 (cB bNe) (wCall pLen (wCons (wVar 0) wNil)) (wC (.int 3))))) (wRet (wC (.bool false))) wNext)
    (_law_kinds_r5 sp__law_whole))
theorem ok__law_kinds {f : Addr} {fd : FuncData} {sp : Spc} {cl : Str → Addr} {sp__law_whole : Spc} (F : Fun K "_law_kinds" "_law_kinds" st__law_kinds f fd) (T : Txt K mg cl) (c__law_whole : Fc P w K mg base "_law_whole" 1 ["_law_number"] sp__law_whole) (hl : ∀ ds S K KX, sp ds S K KX → ds.length = 1)
    (hs : ∀ ds S K KX, sp ds S K KX → ws__law_kinds sp__law_whole { nx := fun _ S1 => K (.z .none) S1, rt := K, ex := fun y _ S1 => KX y S1 } (startE nm__law_kinds ds) S) : FnOk P w K mg base (L2N.CX P w) 2 f fd ["_law_net"] (spOf sp) := by
  have nd := sc__law_kinds.nd
  refine fnpx F sc__law_kinds hl (ws := ws__law_kinds sp__law_whole) (fun cdv A outer s H E B F0 hr tk hp => ?_) hs
  have hu := hu_px hr
  exact (bcons (xif (xtw (yor (xtnot (xtv (xcallB oIsi rfl T.n_isinstance bb_isinstance (acons (xv 0) (acons (xty (T := .tuple) rfl T.n_tuple bb_tuple) anil))))) (yor1 (xtcmp (oNe hu) (xcallB oLen rfl T.n_len bb_len (acons (xv 0) anil)) xint)))) (bone (xret xbl)) bnil)
    (bcons (xfor hp rfl (xit (xv 0)) (xgn 1 nd) (bcons (xif (xtnot (xtv (xcallB oIsi rfl T.n_isinstance bb_isinstance (acons (xv 1) (acons (xty (T := .list) rfl T.n_list bb_list) anil))))) (bone (xret xbl)) bnil)
    (bone (xfor hp rfl (xit (xv 1)) (xgn 2 nd) (bone (xif (xtnot (xtv (xcallB oIsi rfl T.n_isinstance bb_isinstance (acons (xv 2) (acons (xty (T := .tuple) rfl T.n_tuple bb_tuple) anil))))) (bone (xret xbl)) bnil))))))
    (bcons (xfor hp rfl (xit (xix (oIx hu) (xv 0) xint)) (xgt rfl (xgc (xgn 3 nd) (xgc (xgn 4 nd) xge))) (bcons (xif (xtw (yor (xtnot (xtv (xcallB oIsi rfl T.n_isinstance bb_isinstance (acons (xv 3) (acons (xty (T := .list) rfl T.n_list bb_list) anil))))) (yor1 (xtnot (xtv (xcallB oIsi rfl T.n_isinstance bb_isinstance (acons (xv 4) (acons (xty (T := .list) rfl T.n_list bb_list) anil)))))))) (bone (xret xbl)) bnil)
    (bone (xfor hp rfl (xit (xop oAdd (xv 3) (xv 4))) (xgn 2 nd) (bone (xif (xtw (yor (xtnot (xtv (xcallB oIsi rfl T.n_isinstance bb_isinstance (acons (xv 2) (acons (xty (T := .tuple) rfl T.n_tuple bb_tuple) anil))))) (yor1 (xtnot (xtv (xfc c__law_whole (hr.mono (by decide)) tk rfl (acons (xix (oIx hu) (xv 2) (xun oNeg xint)) anil))))))) (bone (xret xbl)) bnil))))))
    (bcons (xfor hp rfl (xit (xix (oIx hu) (xv 0) xint)) (xgn 2 nd) (bone (xif (xtnot (xtv (xfc c__law_whole (hr.mono (by decide)) tk rfl (acons (xix (oIx hu) (xv 2) xint) anil)))) (bone (xret xbl)) bnil)))
    (bcons (xfor hp rfl (xit (xix (oIx hu) (xv 0) xint)) (xgn 2 nd) (bone (xif (xtw (yor (xtnot (xtv (xfc c__law_whole (hr.mono (by decide)) tk rfl (acons (xix (oIx hu) (xv 2) xint) anil)))) (yor (xtnot (xtv (xfc c__law_whole (hr.mono (by decide)) tk rfl (acons (xix (oIx hu) (xv 2) xint) anil)))) (yor1 (xtnot (xtv (xcallB oIsi rfl T.n_isinstance bb_isinstance (acons (xix (oIx hu) (xv 2) xint) (acons (xty (T := .tuple) rfl T.n_tuple bb_tuple) anil))))))))) (bone (xret xbl)) bnil)))
    (bone (xret xbl)))))))
abbrev st_law : Stmt := top 46
abbrev nm_law : List Str := ["_law_script", "_law_kind", "_law_reach", "_law_name_here", "_law_path_here", "_law_due_here", "_law_program", "_law_net", "_law_again", "_law_item_here"]
theorem sc_law : FnScope nm_law ["_law_script"] (defScope st_law) := ⟨rfl, rfl, rfl, by decide +kernel, rfl, by decide +kernel, by decide +kernel⟩
def law_r1 (sp_net_by : Spc) (sp__law_kinds : Spc) : WS :=
  (wSeq (wDrop (wMth .list pApp (w2 pIx (w2 pIx (w2 pIx (wVar 7) (wC (.int 0))) (wC (.int 0))) (wC (.int 0))) (wCons (wTup (wCons (wC (.str (PySem.Str.ofString "up"))) (wCons (wC (.str (PySem.Str.ofString "to"))) (wCons (wC (.int 0)) wNil)))) wNil)))
    (wSeq (wDrop (wMth .list pClear (w2 pIx (w2 pIx (w2 pIx (wVar 7) (wC (.int 0))) (wC (.int 0))) (wC (.int 1))) wNil))
    (wSeq (wDrop (wMth .list pApp (w2 pIx (wVar 7) (wC (.int 1))) (wCons (wTup (wCons (wC (.str (PySem.Str.ofString "plain"))) (wCons (wC (.int 0)) wNil))) wNil)))
    (wSeq (wDrop (wMth .list pClear (w2 pIx (wVar 7) (wC (.int 2))) wNil))
    (wSeq (wAsg (wFn sp_net_by [] (wCons (wVar 6) wNil)) (gN 8))
    (wSeq (wDrop (wMth .list pApp (wVar 6) (wCons (wVar 9) wNil)))
    (wRet (wAndV (wFn sp__law_kinds [] (wCons (wVar 8) wNil)) (wAndV (w2 (cB bEq) (wVar 8) (wVar 5)) (w2 (cB bEq) (wFn sp_net_by [] (wCons (wLst wNil) wNil)) (wTup (wCons (wLst (wCons (wTup (wCons (wLst wNil) (wCons (wLst wNil) wNil))) wNil)) (wCons (wLst wNil) (wCons (wLst wNil) wNil))))))))))))))
def law_r2 (sp_net_by : Spc) (sp__law_kinds : Spc) : WS :=
  (wSeq (wAsg (wLst (wCons (wVar 9) wNil)) (gN 6))
    (wSeq (wAsg (wFn sp_net_by [] (wCons (wVar 6) wNil)) (gN 7))
    (wSeq (wIf (wOr (wNot (wB (wFn sp__law_kinds [] (wCons (wVar 7) wNil)))) (wOr (wB (w2 (cB bNe) (wVar 7) (wVar 5))) (wB (w2 (cB bNe) (wCall pLen (wCons (wVar 6) wNil)) (wC (.int 1)))))) (wRet (wC (.bool false))) wNext)
    (law_r1 sp_net_by sp__law_kinds))))
def ws_law (cl : Str → Addr) (sp__law_cell_at : Spc) (sp__law_name : Spc) (sp__law_path : Spc) (sp__law_due : Spc) (sp_All___init__ : Spc) (sp__law_item : Spc) (sp_net_by : Spc) (sp__law_kinds : Spc) : WS :=
  (wSeq (wAsg (w2 pMod (wFn sp__law_cell_at [] (wCons (wVar 0) (wCons (wC (.int 0)) wNil))) (wC (.int 10))) (gN 1))
    (wSeq (wAsg (w2 pIx (wLst (wCons (wC (.str (PySem.Str.ofString "open"))) (wCons (wC (.str (PySem.Str.ofString "own"))) wNil))) (w2 pMod (w2 pDiv (wFn sp__law_cell_at [] (wCons (wVar 0) (wCons (wC (.int 0)) wNil))) (wC (.int 10))) (wC (.int 2)))) (gN 2))
    (wSeq (wAsg (wFn sp__law_name [] (wCons (wFn sp__law_cell_at [] (wCons (wVar 0) (wCons (wC (.int 1)) wNil))) wNil)) (gN 3))
    (wSeq (wAsg (wFn sp__law_path [] (wCons (wVar 0) (wCons (wC (.int 2)) wNil))) (gN 4))
    (wSeq (wAsg (wFn sp__law_due [] (wCons (wVar 1) (wCons (wVar 2) (wCons (wVar 3) (wCons (wVar 4) wNil))))) (gN 5))
    (wSeq (wIf (wB (w2 (cB bEq) (wVar 1) (wC (.int 9)))) (wSeq (wAsg (wONew (cl "All") sp_All___init__ (wCons (wVar 4) (wCons (wC (.bool true)) wNil))) (gN 9))
    (wAsg (wTup (wCons (wLst (wCons (wTup (wCons (wLst (wCons (wTup (wCons (wC (.str (PySem.Str.ofString "allon"))) (wCons (wC (.str (PySem.Str.ofString "by"))) (wCons (wC (.int 0)) wNil)))) wNil)) (wCons (wLst wNil) wNil))) wNil)) (wCons (wLst wNil) (wCons (wLst (wCons (wTup (wCons (wC (.int 0)) (wCons (wC (.int 2)) (wCons (wVar 4) wNil)))) wNil)) wNil)))) (gN 5))) (wAsg (wFn sp__law_item [] (wCons (wVar 1) (wCons (wVar 2) (wCons (wVar 3) (wCons (wVar 4) wNil))))) (gN 9)))
    (law_r2 sp_net_by sp__law_kinds)))))))
theorem ok_law {f : Addr} {fd : FuncData} {sp : Spc} {cl : Str → Addr} {sp__law_cell_at : Spc} {sp__law_name : Spc} {sp__law_path : Spc} {sp__law_due : Spc} {sp_All___init__ : Spc} {sp__law_item : Spc} {sp_net_by : Spc} {sp__law_kinds : Spc} (F : Fun K "law" "law" st_law f fd) (T : Txt K mg cl) (c__law_cell_at : Fc P w K mg base "_law_cell_at" 1 ["_law_script", "_law_k"] sp__law_cell_at) (c__law_name : Fc P w K mg base "_law_name" 1 ["_law_cell"] sp__law_name) (c__law_path : Fc P w K mg base "_law_path" 2 ["_law_script", "_law_start"] sp__law_path) (c__law_due : Fc P w K mg base "_law_due" 1 ["_law_kind", "_law_reach", "_law_name_here", "_law_path_here"] sp__law_due) (c_All___init__ : Fk P w K mg base "All" (cl "All") 1 ["self", "path", "on"] sp_All___init__) (c__law_item : Fc P w K mg base "_law_item" 3 ["_law_kind", "_law_reach", "_law_name_here", "_law_path_here"] sp__law_item) (c_net_by : Fc P w K mg base "net_by" 39 ["program"] sp_net_by) (c__law_kinds : Fc P w K mg base "_law_kinds" 2 ["_law_net"] sp__law_kinds) (hl : ∀ ds S K KX, sp ds S K KX → ds.length = 1)
    (hs : ∀ ds S K KX, sp ds S K KX → ws_law cl sp__law_cell_at sp__law_name sp__law_path sp__law_due sp_All___init__ sp__law_item sp_net_by sp__law_kinds { nx := fun _ S1 => K (.z .none) S1, rt := K, ex := fun y _ S1 => KX y S1 } (startE nm_law ds) S) : FnOk P w K mg base (L2N.CX P w) 40 f fd ["_law_script"] (spOf sp) := by
  have nd := sc_law.nd
  refine fnpx F sc_law hl (ws := ws_law cl sp__law_cell_at sp__law_name sp__law_path sp__law_due sp_All___init__ sp__law_item sp_net_by sp__law_kinds) (fun cdv A outer s H E B F0 hr tk hp => ?_) hs
  have hu := hu_px hr
  exact (bcons (xasg (xop oMod (xfc c__law_cell_at (hr.mono (by decide)) tk rfl (acons (xv 0) (acons xint anil))) xint) (xgn 1 nd))
    (bcons (xasg (xix (oIx hu) (xlst (acons xstr (acons xstr anil))) (xop oMod (xop oDiv (xfc c__law_cell_at (hr.mono (by decide)) tk rfl (acons (xv 0) (acons xint anil))) xint) xint)) (xgn 2 nd))
    (bcons (xasg (xfc c__law_name (hr.mono (by decide)) tk rfl (acons (xfc c__law_cell_at (hr.mono (by decide)) tk rfl (acons (xv 0) (acons xint anil))) anil)) (xgn 3 nd))
    (bcons (xasg (xfc c__law_path (hr.mono (by decide)) tk rfl (acons (xv 0) (acons xint anil))) (xgn 4 nd))
    (bcons (xasg (xfc c__law_due (hr.mono (by decide)) tk rfl (acons (xv 1) (acons (xv 2) (acons (xv 3) (acons (xv 4) anil))))) (xgn 5 nd))
    (bcons (xif (xtcmp (oEq hu) (xv 1) xint) (bcons (xasg (xmake c_All___init__ (hr.mono (by decide)) tk rfl (acons (xv 4) (acons xbl anil))) (xgn 9 nd))
    (bone (xasg (xtup (acons (xlst (acons (xtup (acons (xlst (acons (xtup (acons xstr (acons xstr (acons xint anil)))) anil)) (acons (xlst anil) anil))) anil)) (acons (xlst anil) (acons (xlst (acons (xtup (acons xint (acons xint (acons (xv 4) anil)))) anil)) anil)))) (xgn 5 nd)))) (bone (xasg (xfc c__law_item (hr.mono (by decide)) tk rfl (acons (xv 1) (acons (xv 2) (acons (xv 3) (acons (xv 4) anil))))) (xgn 9 nd))))
    (bcons (xasg (xlst (acons (xv 9) anil)) (xgn 6 nd))
    (bcons (xasg (xfc c_net_by (hr.mono (by decide)) tk rfl (acons (xv 6) anil)) (xgn 7 nd))
    (bcons (xif (xtw (yor (xtnot (xtv (xfc c__law_kinds (hr.mono (by decide)) tk rfl (acons (xv 7) anil)))) (yor (xtcmp (oNe hu) (xv 7) (xv 5)) (yor1 (xtcmp (oNe hu) (xcallB oLen rfl T.n_len bb_len (acons (xv 6) anil)) xint))))) (bone (xret xbl)) bnil)
    (bcons (xexpr (xm1 (T := .list) PySem.F.plainAttrs_list PySem.F.slot_list_append PySem.F.type_list_append oApp (xix (oIx hu) (xix (oIx hu) (xix (oIx hu) (xv 7) xint) xint) xint) (acons (xtup (acons xstr (acons xstr (acons xint anil)))) anil)))
    (bcons (xexpr (xm0 (T := .list) PySem.F.plainAttrs_list PySem.F.slot_list_clear PySem.F.type_list_clear oClear (xix (oIx hu) (xix (oIx hu) (xix (oIx hu) (xv 7) xint) xint) xint)))
    (bcons (xexpr (xm1 (T := .list) PySem.F.plainAttrs_list PySem.F.slot_list_append PySem.F.type_list_append oApp (xix (oIx hu) (xv 7) xint) (acons (xtup (acons xstr (acons xint anil))) anil)))
    (bcons (xexpr (xm0 (T := .list) PySem.F.plainAttrs_list PySem.F.slot_list_clear PySem.F.type_list_clear oClear (xix (oIx hu) (xv 7) xint)))
    (bcons (xasg (xfc c_net_by (hr.mono (by decide)) tk rfl (acons (xv 6) anil)) (xgn 8 nd))
    (bcons (xexpr (xm1 (T := .list) PySem.F.plainAttrs_list PySem.F.slot_list_append PySem.F.type_list_append oApp (xv 6) (acons (xv 9) anil)))
    (bone (xret (xand (xfc c__law_kinds (hr.mono (by decide)) tk rfl (acons (xv 8) anil)) (xand (xcmp (oEq hu) (xv 8) (xv 5)) (xone (xcmp (oEq hu) (xfc c_net_by (hr.mono (by decide)) tk rfl (acons (xlst anil) anil)) (xtup (acons (xlst (acons (xtup (acons (xlst anil) (acons (xlst anil) anil))) anil)) (acons (xlst anil) (acons (xlst anil) anil)))))))))))))))))))))))))
abbrev st_Draft___init__ : Stmt := clsSt (top 26) 0
abbrev nm_Draft___init__ : List Str := ["self"]
theorem sc_Draft___init__ : FnScope nm_Draft___init__ ["self"] (defScope st_Draft___init__) := ⟨rfl, rfl, rfl, by decide +kernel, rfl, by decide +kernel, by decide +kernel⟩
def ws_Draft___init__ (cl : Str → Addr) : WS :=
  (wSeq (wFldS (cl "Draft") "scopes" (wVar 0) (wLst wNil))
    (wSeq (wFldS (cl "Draft") "things" (wVar 0) (wLst wNil))
    (wFldS (cl "Draft") "questions" (wVar 0) (wLst wNil))))
theorem ok_Draft___init__ {f : Addr} {fd : FuncData} {sp : Spc} {cl : Str → Addr} (F : FunD K "__init__" "Draft.__init__" (defArgs st_Draft___init__) (defBody st_Draft___init__) (defScope st_Draft___init__) [] [] f fd) (T : Txt K mg cl) (hl : ∀ ds S K KX, sp ds S K KX → ds.length = 1)
    (hs : ∀ ds S K KX, sp ds S K KX → ws_Draft___init__ cl { nx := fun _ S1 => K (.z .none) S1, rt := K, ex := fun y _ S1 => KX y S1 } (startE nm_Draft___init__ ds) S) : FnOk P w K mg base (L2N.CX P w) 1 f fd ["self"] (spOf sp) := by
  have nd := sc_Draft___init__.nd
  refine fnpxD F sc_Draft___init__ hl (ws := ws_Draft___init__ cl) (fun cdv A outer s H E B F0 hr tk hp => ?_) hs
  have hu := hu_px hr
  exact (bcons (xfldS T.c_Draft T.na_Draft_scopes (xv 0) (xlst anil))
    (bcons (xfldS T.c_Draft T.na_Draft_things (xv 0) (xlst anil))
    (bone (xfldS T.c_Draft T.na_Draft_questions (xv 0) (xlst anil)))))
abbrev st_Draft_new_scope : Stmt := clsSt (top 26) 1
abbrev nm_Draft_new_scope : List Str := ["self", "steps"]
theorem sc_Draft_new_scope : FnScope nm_Draft_new_scope ["self", "steps"] (defScope st_Draft_new_scope) := ⟨rfl, rfl, rfl, by decide +kernel, rfl, by decide +kernel, by decide +kernel⟩
def ws_Draft_new_scope (cl : Str → Addr) : WS :=
  (wSeq (wDrop (wMth .list pApp (w1 (pFld (cl "Draft") "scopes") (wVar 0)) (wCons (wTup (wCons (wCall pList (wCons (wVar 1) wNil)) (wCons (wLst wNil) wNil))) wNil)))
    (wRet (w2 pSub (wCall pLen (wCons (w1 (pFld (cl "Draft") "scopes") (wVar 0)) wNil)) (wC (.int 1)))))
theorem ok_Draft_new_scope {f : Addr} {fd : FuncData} {sp : Spc} {cl : Str → Addr} (F : FunD K "new_scope" "Draft.new_scope" (defArgs st_Draft_new_scope) (defBody st_Draft_new_scope) (defScope st_Draft_new_scope) [] [] f fd) (T : Txt K mg cl) (hl : ∀ ds S K KX, sp ds S K KX → ds.length = 2)
    (hs : ∀ ds S K KX, sp ds S K KX → ws_Draft_new_scope cl { nx := fun _ S1 => K (.z .none) S1, rt := K, ex := fun y _ S1 => KX y S1 } (startE nm_Draft_new_scope ds) S) : FnOk P w K mg base (L2N.CX P w) 1 f fd ["self", "steps"] (spOf sp) := by
  have nd := sc_Draft_new_scope.nd
  refine fnpxD F sc_Draft_new_scope hl (ws := ws_Draft_new_scope cl) (fun cdv A outer s H E B F0 hr tk hp => ?_) hs
  have hu := hu_px hr
  exact (bcons (xexpr (xm1 (T := .list) PySem.F.plainAttrs_list PySem.F.slot_list_append PySem.F.type_list_append oApp (xfld T.c_Draft T.na_Draft_scopes (xv 0)) (acons (xtup (acons (xcallT oList rfl T.n_list bb_list (acons (xv 1) anil)) (acons (xlst anil) anil))) anil)))
    (bone (xret (xop oSub (xcallB oLen rfl T.n_len bb_len (acons (xfld T.c_Draft T.na_Draft_scopes (xv 0)) anil)) xint))))
abbrev st_Draft_new_thing : Stmt := clsSt (top 26) 2
abbrev nm_Draft_new_thing : List Str := ["self", "kind", "number"]
theorem sc_Draft_new_thing : FnScope nm_Draft_new_thing ["self", "kind", "number"] (defScope st_Draft_new_thing) := ⟨rfl, rfl, rfl, by decide +kernel, rfl, by decide +kernel, by decide +kernel⟩
def ws_Draft_new_thing (cl : Str → Addr) : WS :=
  (wSeq (wDrop (wMth .list pApp (w1 (pFld (cl "Draft") "things") (wVar 0)) (wCons (wTup (wCons (wVar 1) (wCons (wVar 2) wNil))) wNil)))
    (wRet (w2 pSub (wCall pLen (wCons (w1 (pFld (cl "Draft") "things") (wVar 0)) wNil)) (wC (.int 1)))))
theorem ok_Draft_new_thing {f : Addr} {fd : FuncData} {sp : Spc} {cl : Str → Addr} (F : FunD K "new_thing" "Draft.new_thing" (defArgs st_Draft_new_thing) (defBody st_Draft_new_thing) (defScope st_Draft_new_thing) [] [] f fd) (T : Txt K mg cl) (hl : ∀ ds S K KX, sp ds S K KX → ds.length = 3)
    (hs : ∀ ds S K KX, sp ds S K KX → ws_Draft_new_thing cl { nx := fun _ S1 => K (.z .none) S1, rt := K, ex := fun y _ S1 => KX y S1 } (startE nm_Draft_new_thing ds) S) : FnOk P w K mg base (L2N.CX P w) 1 f fd ["self", "kind", "number"] (spOf sp) := by
  have nd := sc_Draft_new_thing.nd
  refine fnpxD F sc_Draft_new_thing hl (ws := ws_Draft_new_thing cl) (fun cdv A outer s H E B F0 hr tk hp => ?_) hs
  have hu := hu_px hr
  exact (bcons (xexpr (xm1 (T := .list) PySem.F.plainAttrs_list PySem.F.slot_list_append PySem.F.type_list_append oApp (xfld T.c_Draft T.na_Draft_things (xv 0)) (acons (xtup (acons (xv 1) (acons (xv 2) anil))) anil)))
    (bone (xret (xop oSub (xcallB oLen rfl T.n_len bb_len (acons (xfld T.c_Draft T.na_Draft_things (xv 0)) anil)) xint))))
abbrev st_Draft_new_question : Stmt := clsSt (top 26) 3
abbrev nm_Draft_new_question : List Str := ["self", "scope", "state", "path"]
theorem sc_Draft_new_question : FnScope nm_Draft_new_question ["self", "scope", "state", "path"] (defScope st_Draft_new_question) := ⟨rfl, rfl, rfl, by decide +kernel, rfl, by decide +kernel, by decide +kernel⟩
def ws_Draft_new_question (cl : Str → Addr) : WS :=
  (wSeq (wDrop (wMth .list pApp (w1 (pFld (cl "Draft") "questions") (wVar 0)) (wCons (wTup (wCons (wVar 1) (wCons (wVar 2) (wCons (wVar 3) wNil)))) wNil)))
    (wRet (w2 pSub (wCall pLen (wCons (w1 (pFld (cl "Draft") "questions") (wVar 0)) wNil)) (wC (.int 1)))))
theorem ok_Draft_new_question {f : Addr} {fd : FuncData} {sp : Spc} {cl : Str → Addr} (F : FunD K "new_question" "Draft.new_question" (defArgs st_Draft_new_question) (defBody st_Draft_new_question) (defScope st_Draft_new_question) [] [] f fd) (T : Txt K mg cl) (hl : ∀ ds S K KX, sp ds S K KX → ds.length = 4)
    (hs : ∀ ds S K KX, sp ds S K KX → ws_Draft_new_question cl { nx := fun _ S1 => K (.z .none) S1, rt := K, ex := fun y _ S1 => KX y S1 } (startE nm_Draft_new_question ds) S) : FnOk P w K mg base (L2N.CX P w) 1 f fd ["self", "scope", "state", "path"] (spOf sp) := by
  have nd := sc_Draft_new_question.nd
  refine fnpxD F sc_Draft_new_question hl (ws := ws_Draft_new_question cl) (fun cdv A outer s H E B F0 hr tk hp => ?_) hs
  have hu := hu_px hr
  exact (bcons (xexpr (xm1 (T := .list) PySem.F.plainAttrs_list PySem.F.slot_list_append PySem.F.type_list_append oApp (xfld T.c_Draft T.na_Draft_questions (xv 0)) (acons (xtup (acons (xv 1) (acons (xv 2) (acons (xv 3) anil)))) anil)))
    (bone (xret (xop oSub (xcallB oLen rfl T.n_len bb_len (acons (xfld T.c_Draft T.na_Draft_questions (xv 0)) anil)) xint))))
abbrev st_Draft_sorted_thing : Stmt := clsSt (top 26) 4
abbrev nm_Draft_sorted_thing : List Str := ["self", "here", "of"]
theorem sc_Draft_sorted_thing : FnScope nm_Draft_sorted_thing ["self", "here", "of"] (defScope st_Draft_sorted_thing) := ⟨rfl, rfl, rfl, by decide +kernel, rfl, by decide +kernel, by decide +kernel⟩
def Draft_sorted_thing_r1 (cl : Str → Addr) (sp_Draft_new_thing : Spc) (sp_Draft_new_question : Spc) : WS :=
  (wRet (wOMth (cl "Draft") "new_thing" sp_Draft_new_thing (wVar 0) (wCons (wC (.str (PySem.Str.ofString "sort"))) (wCons (wOMth (cl "Draft") "new_question" sp_Draft_new_question (wVar 0) (wCons (wVar 1) (wCons (wC (.int 0)) (wCons (wVar 2) wNil)))) wNil))))
def ws_Draft_sorted_thing (cl : Str → Addr) (sp_Draft_new_thing : Spc) (sp_Draft_new_question : Spc) : WS :=
  (wSeq (wIf (wB (w2 (cB bIs) (wVar 2) (wC .none))) (wRet (wOMth (cl "Draft") "new_thing" sp_Draft_new_thing (wVar 0) (wCons (wC (.str (PySem.Str.ofString "plain"))) (wCons (wC (.int 0)) wNil)))) wNext)
    (Draft_sorted_thing_r1 cl sp_Draft_new_thing sp_Draft_new_question))
theorem ok_Draft_sorted_thing {f : Addr} {fd : FuncData} {sp : Spc} {cl : Str → Addr} {sp_Draft_new_thing : Spc} {sp_Draft_new_question : Spc} (F : FunD K "sorted_thing" "Draft.sorted_thing" (defArgs st_Draft_sorted_thing) (defBody st_Draft_sorted_thing) (defScope st_Draft_sorted_thing) [] [] f fd) (T : Txt K mg cl) (c_Draft_new_thing : Fm P w K mg base (cl "Draft") "new_thing" 1 ["self", "kind", "number"] sp_Draft_new_thing) (c_Draft_new_question : Fm P w K mg base (cl "Draft") "new_question" 1 ["self", "scope", "state", "path"] sp_Draft_new_question) (hl : ∀ ds S K KX, sp ds S K KX → ds.length = 3)
    (hs : ∀ ds S K KX, sp ds S K KX → ws_Draft_sorted_thing cl sp_Draft_new_thing sp_Draft_new_question { nx := fun _ S1 => K (.z .none) S1, rt := K, ex := fun y _ S1 => KX y S1 } (startE nm_Draft_sorted_thing ds) S) : FnOk P w K mg base (L2N.CX P w) 2 f fd ["self", "here", "of"] (spOf sp) := by
  have nd := sc_Draft_sorted_thing.nd
  refine fnpxD F sc_Draft_sorted_thing hl (ws := ws_Draft_sorted_thing cl sp_Draft_new_thing sp_Draft_new_question) (fun cdv A outer s H E B F0 hr tk hp => ?_) hs
  have hu := hu_px hr
  exact (bcons (xif (xtcmp oIs (xv 2) xnon) (bone (xret (xmeth T.c_Draft c_Draft_new_thing (hr.mono (by decide)) tk (xv 0) (acons xstr (acons xint anil))))) bnil)
    (bone (xret (xmeth T.c_Draft c_Draft_new_thing (hr.mono (by decide)) tk (xv 0) (acons xstr (acons (xmeth T.c_Draft c_Draft_new_question (hr.mono (by decide)) tk (xv 0) (acons (xv 1) (acons xint (acons (xv 2) anil)))) anil))))))
abbrev st_Draft_put_step : Stmt := clsSt (top 26) 5
abbrev nm_Draft_put_step : List Str := ["self", "scope", "step"]
theorem sc_Draft_put_step : FnScope nm_Draft_put_step ["self", "scope", "step"] (defScope st_Draft_put_step) := ⟨rfl, rfl, rfl, by decide +kernel, rfl, by decide +kernel, by decide +kernel⟩
def ws_Draft_put_step (cl : Str → Addr) : WS :=
  (wDrop (wMth .list pApp (w2 pIx (w2 pIx (w1 (pFld (cl "Draft") "scopes") (wVar 0)) (wVar 1)) (wC (.int 0))) (wCons (wVar 2) wNil)))
theorem ok_Draft_put_step {f : Addr} {fd : FuncData} {sp : Spc} {cl : Str → Addr} (F : FunD K "put_step" "Draft.put_step" (defArgs st_Draft_put_step) (defBody st_Draft_put_step) (defScope st_Draft_put_step) [] [] f fd) (T : Txt K mg cl) (hl : ∀ ds S K KX, sp ds S K KX → ds.length = 3)
    (hs : ∀ ds S K KX, sp ds S K KX → ws_Draft_put_step cl { nx := fun _ S1 => K (.z .none) S1, rt := K, ex := fun y _ S1 => KX y S1 } (startE nm_Draft_put_step ds) S) : FnOk P w K mg base (L2N.CX P w) 1 f fd ["self", "scope", "step"] (spOf sp) := by
  have nd := sc_Draft_put_step.nd
  refine fnpxD F sc_Draft_put_step hl (ws := ws_Draft_put_step cl) (fun cdv A outer s H E B F0 hr tk hp => ?_) hs
  have hu := hu_px hr
  exact (bone (xexpr (xm1 (T := .list) PySem.F.plainAttrs_list PySem.F.slot_list_append PySem.F.type_list_append oApp (xix (oIx hu) (xix (oIx hu) (xfld T.c_Draft T.na_Draft_scopes (xv 0)) (xv 1)) xint) (acons (xv 2) anil))))
abbrev st_Draft_put_telling : Stmt := clsSt (top 26) 6
abbrev nm_Draft_put_telling : List Str := ["self", "scope", "telling"]
theorem sc_Draft_put_telling : FnScope nm_Draft_put_telling ["self", "scope", "telling"] (defScope st_Draft_put_telling) := ⟨rfl, rfl, rfl, by decide +kernel, rfl, by decide +kernel, by decide +kernel⟩
def ws_Draft_put_telling (cl : Str → Addr) : WS :=
  (wDrop (wMth .list pApp (w2 pIx (w2 pIx (w1 (pFld (cl "Draft") "scopes") (wVar 0)) (wVar 1)) (wC (.int 1))) (wCons (wVar 2) wNil)))
theorem ok_Draft_put_telling {f : Addr} {fd : FuncData} {sp : Spc} {cl : Str → Addr} (F : FunD K "put_telling" "Draft.put_telling" (defArgs st_Draft_put_telling) (defBody st_Draft_put_telling) (defScope st_Draft_put_telling) [] [] f fd) (T : Txt K mg cl) (hl : ∀ ds S K KX, sp ds S K KX → ds.length = 3)
    (hs : ∀ ds S K KX, sp ds S K KX → ws_Draft_put_telling cl { nx := fun _ S1 => K (.z .none) S1, rt := K, ex := fun y _ S1 => KX y S1 } (startE nm_Draft_put_telling ds) S) : FnOk P w K mg base (L2N.CX P w) 1 f fd ["self", "scope", "telling"] (spOf sp) := by
  have nd := sc_Draft_put_telling.nd
  refine fnpxD F sc_Draft_put_telling hl (ws := ws_Draft_put_telling cl) (fun cdv A outer s H E B F0 hr tk hp => ?_) hs
  have hu := hu_px hr
  exact (bone (xexpr (xm1 (T := .list) PySem.F.plainAttrs_list PySem.F.slot_list_append PySem.F.type_list_append oApp (xix (oIx hu) (xix (oIx hu) (xfld T.c_Draft T.na_Draft_scopes (xv 0)) (xv 1)) xint) (acons (xv 2) anil))))
abbrev st_Part___init__ : Stmt := clsSt (top 31) 0
abbrev nm_Part___init__ : List Str := ["self", "reach", "name", "items"]
theorem sc_Part___init__ : FnScope nm_Part___init__ ["self", "reach", "name", "items"] (defScope st_Part___init__) := ⟨rfl, rfl, rfl, by decide +kernel, rfl, by decide +kernel, by decide +kernel⟩
def ws_Part___init__ (cl : Str → Addr) : WS :=
  (wSeq (wFldS (cl "Part") "reach" (wVar 0) (wVar 1))
    (wSeq (wFldS (cl "Part") "name" (wVar 0) (wVar 2))
    (wFldS (cl "Part") "inner" (wVar 0) (wCall pList (wCons (wVar 3) wNil)))))
theorem ok_Part___init__ {f : Addr} {fd : FuncData} {sp : Spc} {cl : Str → Addr} (F : FunD K "__init__" "Part.__init__" (defArgs st_Part___init__) (defBody st_Part___init__) (defScope st_Part___init__) [] [] f fd) (T : Txt K mg cl) (hl : ∀ ds S K KX, sp ds S K KX → ds.length = 4)
    (hs : ∀ ds S K KX, sp ds S K KX → ws_Part___init__ cl { nx := fun _ S1 => K (.z .none) S1, rt := K, ex := fun y _ S1 => KX y S1 } (startE nm_Part___init__ ds) S) : FnOk P w K mg base (L2N.CX P w) 1 f fd ["self", "reach", "name", "items"] (spOf sp) := by
  have nd := sc_Part___init__.nd
  refine fnpxD F sc_Part___init__ hl (ws := ws_Part___init__ cl) (fun cdv A outer s H E B F0 hr tk hp => ?_) hs
  have hu := hu_px hr
  exact (bcons (xfldS T.c_Part T.na_Part_reach (xv 0) (xv 1))
    (bcons (xfldS T.c_Part T.na_Part_name (xv 0) (xv 2))
    (bone (xfldS T.c_Part T.na_Part_inner (xv 0) (xcallT oList rfl T.n_list bb_list (acons (xv 3) anil))))))
abbrev st_Part_within : Stmt := clsSt (top 31) 1
abbrev nm_Part_within : List Str := ["self"]
theorem sc_Part_within : FnScope nm_Part_within ["self"] (defScope st_Part_within) := ⟨rfl, rfl, rfl, by decide +kernel, rfl, by decide +kernel, by decide +kernel⟩
def ws_Part_within (cl : Str → Addr) : WS :=
  (wRet (wCall pList (wCons (w1 (pFld (cl "Part") "inner") (wVar 0)) wNil)))
theorem ok_Part_within {f : Addr} {fd : FuncData} {sp : Spc} {cl : Str → Addr} (F : FunD K "within" "Part.within" (defArgs st_Part_within) (defBody st_Part_within) (defScope st_Part_within) [] [] f fd) (T : Txt K mg cl) (hl : ∀ ds S K KX, sp ds S K KX → ds.length = 1)
    (hs : ∀ ds S K KX, sp ds S K KX → ws_Part_within cl { nx := fun _ S1 => K (.z .none) S1, rt := K, ex := fun y _ S1 => KX y S1 } (startE nm_Part_within ds) S) : FnOk P w K mg base (L2N.CX P w) 1 f fd ["self"] (spOf sp) := by
  have nd := sc_Part_within.nd
  refine fnpxD F sc_Part_within hl (ws := ws_Part_within cl) (fun cdv A outer s H E B F0 hr tk hp => ?_) hs
  have hu := hu_px hr
  exact (bone (xret (xcallT oList rfl T.n_list bb_list (acons (xfld T.c_Part T.na_Part_inner (xv 0)) anil))))
abbrev st_Part_laid : Stmt := clsSt (top 31) 3
abbrev nm_Part_laid : List Str := ["self", "draft", "home", "here", "scope", "thing", "there", "item"]
theorem sc_Part_laid : FnScope nm_Part_laid ["self", "draft", "home", "here"] (defScope st_Part_laid) := ⟨rfl, rfl, rfl, by decide +kernel, rfl, by decide +kernel, by decide +kernel⟩
def Part_laid_b1 (cl : Str → Addr) (sp_Part_laid : Spc) (sp_Thing_laid : Spc) (sp_Let_laid : Spc) (sp_Elder_laid : Spc) (sp_All_laid : Spc) (sp_One_laid : Spc) (sp_Ask_laid : Spc) : WS :=
  (wAsg (wAlt (wOMth (cl "Part") "laid" sp_Part_laid (wVar 7) (wCons (wVar 1) (wCons (wVar 4) (wCons (wVar 6) wNil)))) (wAlt (wOMth (cl "Thing") "laid" sp_Thing_laid (wVar 7) (wCons (wVar 1) (wCons (wVar 4) (wCons (wVar 6) wNil)))) (wAlt (wOMth (cl "Let") "laid" sp_Let_laid (wVar 7) (wCons (wVar 1) (wCons (wVar 4) (wCons (wVar 6) wNil)))) (wAlt (wOMth (cl "Elder") "laid" sp_Elder_laid (wVar 7) (wCons (wVar 1) (wCons (wVar 4) (wCons (wVar 6) wNil)))) (wAlt (wOMth (cl "All") "laid" sp_All_laid (wVar 7) (wCons (wVar 1) (wCons (wVar 4) (wCons (wVar 6) wNil)))) (wAlt (wOMth (cl "One") "laid" sp_One_laid (wVar 7) (wCons (wVar 1) (wCons (wVar 4) (wCons (wVar 6) wNil)))) (wOMth (cl "Ask") "laid" sp_Ask_laid (wVar 7) (wCons (wVar 1) (wCons (wVar 4) (wCons (wVar 6) wNil)))))))))) (gN 6))
def Part_laid_r1 : WS :=
  (wRet (wVar 3))
def ws_Part_laid (cl : Str → Addr) (sp_Draft_new_scope : Spc) (sp_Draft_new_thing : Spc) (sp_Draft_put_telling : Spc) (sp_Part_laid : Spc) (sp_Thing_laid : Spc) (sp_Let_laid : Spc) (sp_Elder_laid : Spc) (sp_All_laid : Spc) (sp_One_laid : Spc) (sp_Ask_laid : Spc) : WS :=
  (wSeq (wAsg (wOMth (cl "Draft") "new_scope" sp_Draft_new_scope (wVar 1) (wCons (wLst (wCons (wTup (wCons (wC (.str (PySem.Str.ofString "up"))) (wCons (wC (.str (PySem.Str.ofString "to"))) (wCons (wVar 3) wNil)))) wNil)) wNil)) (gN 4))
    (wSeq (wAsg (wOMth (cl "Draft") "new_thing" sp_Draft_new_thing (wVar 1) (wCons (wC (.str (PySem.Str.ofString "part"))) (wCons (wVar 4) wNil))) (gN 5))
    (wSeq (wDrop (wOMth (cl "Draft") "put_telling" sp_Draft_put_telling (wVar 1) (wCons (wVar 2) (wCons (wTup (wCons (w1 (pFld (cl "Part") "reach") (wVar 0)) (wCons (w1 (pFld (cl "Part") "name") (wVar 0)) (wCons (wC (.str (PySem.Str.ofString "thing"))) (wCons (wVar 5) wNil))))) wNil))))
    (wSeq (wAsg (wVar 4) (gN 6))
    (wSeq (wFor (wIt (w1 (pFld (cl "Part") "inner") (wVar 0))) (gN 7) (Part_laid_b1 cl sp_Part_laid sp_Thing_laid sp_Let_laid sp_Elder_laid sp_All_laid sp_One_laid sp_Ask_laid))
    Part_laid_r1)))))
theorem ok_Part_laid {f : Addr} {fd : FuncData} {sp : Spc} {cl : Str → Addr} {sp_Draft_new_scope : Spc} {sp_Draft_new_thing : Spc} {sp_Draft_put_telling : Spc} {sp_Part_laid : Spc} {sp_Thing_laid : Spc} {sp_Let_laid : Spc} {sp_Elder_laid : Spc} {sp_All_laid : Spc} {sp_One_laid : Spc} {sp_Ask_laid : Spc} (F : FunD K "laid" "Part.laid" (defArgs st_Part_laid) (defBody st_Part_laid) (defScope st_Part_laid) [] [] f fd) (T : Txt K mg cl) {kk : Nat} (hkk : 3 ≤ kk) (c_Draft_new_scope : Fm P w K mg base (cl "Draft") "new_scope" 1 ["self", "steps"] sp_Draft_new_scope) (c_Draft_new_thing : Fm P w K mg base (cl "Draft") "new_thing" 1 ["self", "kind", "number"] sp_Draft_new_thing) (c_Draft_put_telling : Fm P w K mg base (cl "Draft") "put_telling" 1 ["self", "scope", "telling"] sp_Draft_put_telling) (c_Part_laid : Fm P w K mg base (cl "Part") "laid" kk ["self", "draft", "home", "here"] sp_Part_laid) (c_Thing_laid : Fm P w K mg base (cl "Thing") "laid" 3 ["self", "draft", "home", "here"] sp_Thing_laid) (c_Let_laid : Fm P w K mg base (cl "Let") "laid" 3 ["self", "draft", "home", "here"] sp_Let_laid) (c_Elder_laid : Fm P w K mg base (cl "Elder") "laid" 2 ["self", "draft", "home", "here"] sp_Elder_laid) (c_All_laid : Fm P w K mg base (cl "All") "laid" 2 ["self", "draft", "home", "here"] sp_All_laid) (c_One_laid : Fm P w K mg base (cl "One") "laid" 2 ["self", "draft", "home", "here"] sp_One_laid) (c_Ask_laid : Fm P w K mg base (cl "Ask") "laid" 2 ["self", "draft", "home", "here"] sp_Ask_laid) (hl : ∀ ds S K KX, sp ds S K KX → ds.length = 4)
    (hs : ∀ ds S K KX, sp ds S K KX → ws_Part_laid cl sp_Draft_new_scope sp_Draft_new_thing sp_Draft_put_telling sp_Part_laid sp_Thing_laid sp_Let_laid sp_Elder_laid sp_All_laid sp_One_laid sp_Ask_laid { nx := fun _ S1 => K (.z .none) S1, rt := K, ex := fun y _ S1 => KX y S1 } (startE nm_Part_laid ds) S) : FnOk P w K mg base (L2N.CX P w) (kk + 1) f fd ["self", "draft", "home", "here"] (spOf sp) := by
  have nd := sc_Part_laid.nd
  refine fnpxD F sc_Part_laid hl (ws := ws_Part_laid cl sp_Draft_new_scope sp_Draft_new_thing sp_Draft_put_telling sp_Part_laid sp_Thing_laid sp_Let_laid sp_Elder_laid sp_All_laid sp_One_laid sp_Ask_laid) (fun cdv A outer s H E B F0 hr tk hp => ?_) hs
  have hu := hu_px hr
  exact (bcons (xasg (xmeth T.c_Draft c_Draft_new_scope (hr.mono (Nat.le_trans (by decide) hkk)) tk (xv 1) (acons (xlst (acons (xtup (acons xstr (acons xstr (acons (xv 3) anil)))) anil)) anil)) (xgn 4 nd))
    (bcons (xasg (xmeth T.c_Draft c_Draft_new_thing (hr.mono (Nat.le_trans (by decide) hkk)) tk (xv 1) (acons xstr (acons (xv 4) anil))) (xgn 5 nd))
    (bcons (xexpr (xmeth T.c_Draft c_Draft_put_telling (hr.mono (Nat.le_trans (by decide) hkk)) tk (xv 1) (acons (xv 2) (acons (xtup (acons (xfld T.c_Part T.na_Part_reach (xv 0)) (acons (xfld T.c_Part T.na_Part_name (xv 0)) (acons xstr (acons (xv 5) anil))))) anil))))
    (bcons (xasg (xv 4) (xgn 6 nd))
    (bcons (xfor hp rfl (xit (xfld T.c_Part T.na_Part_inner (xv 0))) (xgn 7 nd) (bone (xasg (xalt (xmeth T.c_Part c_Part_laid (hr.mono (Nat.le_refl _)) tk (xv 7) (acons (xv 1) (acons (xv 4) (acons (xv 6) anil)))) (xalt (xmeth T.c_Thing c_Thing_laid (hr.mono (Nat.le_trans (by decide) hkk)) tk (xv 7) (acons (xv 1) (acons (xv 4) (acons (xv 6) anil)))) (xalt (xmeth T.c_Let c_Let_laid (hr.mono (Nat.le_trans (by decide) hkk)) tk (xv 7) (acons (xv 1) (acons (xv 4) (acons (xv 6) anil)))) (xalt (xmeth T.c_Elder c_Elder_laid (hr.mono (Nat.le_trans (by decide) hkk)) tk (xv 7) (acons (xv 1) (acons (xv 4) (acons (xv 6) anil)))) (xalt (xmeth T.c_All c_All_laid (hr.mono (Nat.le_trans (by decide) hkk)) tk (xv 7) (acons (xv 1) (acons (xv 4) (acons (xv 6) anil)))) (xalt (xmeth T.c_One c_One_laid (hr.mono (Nat.le_trans (by decide) hkk)) tk (xv 7) (acons (xv 1) (acons (xv 4) (acons (xv 6) anil)))) (xmeth T.c_Ask c_Ask_laid (hr.mono (Nat.le_trans (by decide) hkk)) tk (xv 7) (acons (xv 1) (acons (xv 4) (acons (xv 6) anil)))))))))) (xgn 6 nd))))
    (bone (xret (xv 3))))))))
abbrev st_Thing_within : Stmt := clsSt (top 30) 0
abbrev nm_Thing_within : List Str := ["self"]
theorem sc_Thing_within : FnScope nm_Thing_within ["self"] (defScope st_Thing_within) := ⟨rfl, rfl, rfl, by decide +kernel, rfl, by decide +kernel, by decide +kernel⟩
def ws_Thing_within : WS :=
  (wRet (wLst wNil))
theorem ok_Thing_within {f : Addr} {fd : FuncData} {sp : Spc} {cl : Str → Addr} (F : FunD K "within" "Item.within" (defArgs st_Thing_within) (defBody st_Thing_within) (defScope st_Thing_within) [] [] f fd) (T : Txt K mg cl) (hl : ∀ ds S K KX, sp ds S K KX → ds.length = 1)
    (hs : ∀ ds S K KX, sp ds S K KX → ws_Thing_within { nx := fun _ S1 => K (.z .none) S1, rt := K, ex := fun y _ S1 => KX y S1 } (startE nm_Thing_within ds) S) : FnOk P w K mg base (L2N.CX P w) 1 f fd ["self"] (spOf sp) := by
  have nd := sc_Thing_within.nd
  refine fnpxD F sc_Thing_within hl (ws := ws_Thing_within) (fun cdv A outer s H E B F0 hr tk hp => ?_) hs
  have hu := hu_px hr
  exact (bone (xret (xlst anil)))
abbrev st_Thing___init__ : Stmt := clsSt (top 32) 0
abbrev nm_Thing___init__ : List Str := ["self", "reach", "name", "of"]
theorem sc_Thing___init__ : FnScope nm_Thing___init__ ["self", "reach", "name", "of"] (defScope st_Thing___init__) := ⟨rfl, rfl, rfl, by decide +kernel, rfl, by decide +kernel, by decide +kernel⟩
def ws_Thing___init__ (cl : Str → Addr) : WS :=
  (wSeq (wFldS (cl "Thing") "reach" (wVar 0) (wVar 1))
    (wSeq (wFldS (cl "Thing") "name" (wVar 0) (wVar 2))
    (wFldS (cl "Thing") "of" (wVar 0) (wVar 3))))
theorem ok_Thing___init__ {f : Addr} {fd : FuncData} {sp : Spc} {cl : Str → Addr} (F : FunD K "__init__" "Thing.__init__" (defArgs st_Thing___init__) (defBody st_Thing___init__) (defScope st_Thing___init__) [V.non] [] f fd) (T : Txt K mg cl) (hl : ∀ ds S K KX, sp ds S K KX → ds.length = 4)
    (hs : ∀ ds S K KX, sp ds S K KX → ws_Thing___init__ cl { nx := fun _ S1 => K (.z .none) S1, rt := K, ex := fun y _ S1 => KX y S1 } (startE nm_Thing___init__ ds) S) : FnOk P w K mg base (L2N.CX P w) 1 f fd ["self", "reach", "name", "of"] (spOf sp) := by
  have nd := sc_Thing___init__.nd
  refine fnpxD F sc_Thing___init__ hl (ws := ws_Thing___init__ cl) (fun cdv A outer s H E B F0 hr tk hp => ?_) hs
  have hu := hu_px hr
  exact (bcons (xfldS T.c_Thing T.na_Thing_reach (xv 0) (xv 1))
    (bcons (xfldS T.c_Thing T.na_Thing_name (xv 0) (xv 2))
    (bone (xfldS T.c_Thing T.na_Thing_of (xv 0) (xv 3)))))
abbrev st_Thing_laid : Stmt := clsSt (top 32) 2
abbrev nm_Thing_laid : List Str := ["self", "draft", "home", "here", "thing"]
theorem sc_Thing_laid : FnScope nm_Thing_laid ["self", "draft", "home", "here"] (defScope st_Thing_laid) := ⟨rfl, rfl, rfl, by decide +kernel, rfl, by decide +kernel, by decide +kernel⟩
def ws_Thing_laid (cl : Str → Addr) (sp_Draft_sorted_thing : Spc) (sp_Draft_put_telling : Spc) : WS :=
  (wSeq (wAsg (wOMth (cl "Draft") "sorted_thing" sp_Draft_sorted_thing (wVar 1) (wCons (wVar 3) (wCons (w1 (pFld (cl "Thing") "of") (wVar 0)) wNil))) (gN 4))
    (wSeq (wDrop (wOMth (cl "Draft") "put_telling" sp_Draft_put_telling (wVar 1) (wCons (wVar 2) (wCons (wTup (wCons (w1 (pFld (cl "Thing") "reach") (wVar 0)) (wCons (w1 (pFld (cl "Thing") "name") (wVar 0)) (wCons (wC (.str (PySem.Str.ofString "thing"))) (wCons (wVar 4) wNil))))) wNil))))
    (wRet (wVar 3))))
theorem ok_Thing_laid {f : Addr} {fd : FuncData} {sp : Spc} {cl : Str → Addr} {sp_Draft_sorted_thing : Spc} {sp_Draft_put_telling : Spc} (F : FunD K "laid" "Thing.laid" (defArgs st_Thing_laid) (defBody st_Thing_laid) (defScope st_Thing_laid) [] [] f fd) (T : Txt K mg cl) (c_Draft_sorted_thing : Fm P w K mg base (cl "Draft") "sorted_thing" 2 ["self", "here", "of"] sp_Draft_sorted_thing) (c_Draft_put_telling : Fm P w K mg base (cl "Draft") "put_telling" 1 ["self", "scope", "telling"] sp_Draft_put_telling) (hl : ∀ ds S K KX, sp ds S K KX → ds.length = 4)
    (hs : ∀ ds S K KX, sp ds S K KX → ws_Thing_laid cl sp_Draft_sorted_thing sp_Draft_put_telling { nx := fun _ S1 => K (.z .none) S1, rt := K, ex := fun y _ S1 => KX y S1 } (startE nm_Thing_laid ds) S) : FnOk P w K mg base (L2N.CX P w) 3 f fd ["self", "draft", "home", "here"] (spOf sp) := by
  have nd := sc_Thing_laid.nd
  refine fnpxD F sc_Thing_laid hl (ws := ws_Thing_laid cl sp_Draft_sorted_thing sp_Draft_put_telling) (fun cdv A outer s H E B F0 hr tk hp => ?_) hs
  have hu := hu_px hr
  exact (bcons (xasg (xmeth T.c_Draft c_Draft_sorted_thing (hr.mono (by decide)) tk (xv 1) (acons (xv 3) (acons (xfld T.c_Thing T.na_Thing_of (xv 0)) anil))) (xgn 4 nd))
    (bcons (xexpr (xmeth T.c_Draft c_Draft_put_telling (hr.mono (by decide)) tk (xv 1) (acons (xv 2) (acons (xtup (acons (xfld T.c_Thing T.na_Thing_reach (xv 0)) (acons (xfld T.c_Thing T.na_Thing_name (xv 0)) (acons xstr (acons (xv 4) anil))))) anil))))
    (bone (xret (xv 3)))))
abbrev st_Let_within : Stmt := clsSt (top 30) 0
abbrev nm_Let_within : List Str := ["self"]
theorem sc_Let_within : FnScope nm_Let_within ["self"] (defScope st_Let_within) := ⟨rfl, rfl, rfl, by decide +kernel, rfl, by decide +kernel, by decide +kernel⟩
def ws_Let_within : WS :=
  (wRet (wLst wNil))
theorem ok_Let_within {f : Addr} {fd : FuncData} {sp : Spc} {cl : Str → Addr} (F : FunD K "within" "Item.within" (defArgs st_Let_within) (defBody st_Let_within) (defScope st_Let_within) [] [] f fd) (T : Txt K mg cl) (hl : ∀ ds S K KX, sp ds S K KX → ds.length = 1)
    (hs : ∀ ds S K KX, sp ds S K KX → ws_Let_within { nx := fun _ S1 => K (.z .none) S1, rt := K, ex := fun y _ S1 => KX y S1 } (startE nm_Let_within ds) S) : FnOk P w K mg base (L2N.CX P w) 1 f fd ["self"] (spOf sp) := by
  have nd := sc_Let_within.nd
  refine fnpxD F sc_Let_within hl (ws := ws_Let_within) (fun cdv A outer s H E B F0 hr tk hp => ?_) hs
  have hu := hu_px hr
  exact (bone (xret (xlst anil)))
abbrev st_Let___init__ : Stmt := clsSt (top 33) 0
abbrev nm_Let___init__ : List Str := ["self", "name", "of"]
theorem sc_Let___init__ : FnScope nm_Let___init__ ["self", "name", "of"] (defScope st_Let___init__) := ⟨rfl, rfl, rfl, by decide +kernel, rfl, by decide +kernel, by decide +kernel⟩
def ws_Let___init__ (cl : Str → Addr) : WS :=
  (wSeq (wFldS (cl "Let") "name" (wVar 0) (wVar 1))
    (wFldS (cl "Let") "of" (wVar 0) (wVar 2)))
theorem ok_Let___init__ {f : Addr} {fd : FuncData} {sp : Spc} {cl : Str → Addr} (F : FunD K "__init__" "Let.__init__" (defArgs st_Let___init__) (defBody st_Let___init__) (defScope st_Let___init__) [V.non] [] f fd) (T : Txt K mg cl) (hl : ∀ ds S K KX, sp ds S K KX → ds.length = 3)
    (hs : ∀ ds S K KX, sp ds S K KX → ws_Let___init__ cl { nx := fun _ S1 => K (.z .none) S1, rt := K, ex := fun y _ S1 => KX y S1 } (startE nm_Let___init__ ds) S) : FnOk P w K mg base (L2N.CX P w) 1 f fd ["self", "name", "of"] (spOf sp) := by
  have nd := sc_Let___init__.nd
  refine fnpxD F sc_Let___init__ hl (ws := ws_Let___init__ cl) (fun cdv A outer s H E B F0 hr tk hp => ?_) hs
  have hu := hu_px hr
  exact (bcons (xfldS T.c_Let T.na_Let_name (xv 0) (xv 1))
    (bone (xfldS T.c_Let T.na_Let_of (xv 0) (xv 2))))
abbrev st_Let_laid : Stmt := clsSt (top 33) 2
abbrev nm_Let_laid : List Str := ["self", "draft", "home", "here", "thing", "scope"]
theorem sc_Let_laid : FnScope nm_Let_laid ["self", "draft", "home", "here"] (defScope st_Let_laid) := ⟨rfl, rfl, rfl, by decide +kernel, rfl, by decide +kernel, by decide +kernel⟩
def ws_Let_laid (cl : Str → Addr) (sp_Draft_sorted_thing : Spc) (sp_Draft_new_scope : Spc) (sp_Draft_put_telling : Spc) : WS :=
  (wSeq (wAsg (wOMth (cl "Draft") "sorted_thing" sp_Draft_sorted_thing (wVar 1) (wCons (wVar 3) (wCons (w1 (pFld (cl "Let") "of") (wVar 0)) wNil))) (gN 4))
    (wSeq (wAsg (wOMth (cl "Draft") "new_scope" sp_Draft_new_scope (wVar 1) (wCons (wLst (wCons (wTup (wCons (wC (.str (PySem.Str.ofString "up"))) (wCons (wC (.str (PySem.Str.ofString "to"))) (wCons (wVar 3) wNil)))) wNil)) wNil)) (gN 5))
    (wSeq (wDrop (wOMth (cl "Draft") "put_telling" sp_Draft_put_telling (wVar 1) (wCons (wVar 5) (wCons (wTup (wCons (wC (.str (PySem.Str.ofString "let"))) (wCons (w1 (pFld (cl "Let") "name") (wVar 0)) (wCons (wC (.str (PySem.Str.ofString "thing"))) (wCons (wVar 4) wNil))))) wNil))))
    (wRet (wVar 5)))))
theorem ok_Let_laid {f : Addr} {fd : FuncData} {sp : Spc} {cl : Str → Addr} {sp_Draft_sorted_thing : Spc} {sp_Draft_new_scope : Spc} {sp_Draft_put_telling : Spc} (F : FunD K "laid" "Let.laid" (defArgs st_Let_laid) (defBody st_Let_laid) (defScope st_Let_laid) [] [] f fd) (T : Txt K mg cl) (c_Draft_sorted_thing : Fm P w K mg base (cl "Draft") "sorted_thing" 2 ["self", "here", "of"] sp_Draft_sorted_thing) (c_Draft_new_scope : Fm P w K mg base (cl "Draft") "new_scope" 1 ["self", "steps"] sp_Draft_new_scope) (c_Draft_put_telling : Fm P w K mg base (cl "Draft") "put_telling" 1 ["self", "scope", "telling"] sp_Draft_put_telling) (hl : ∀ ds S K KX, sp ds S K KX → ds.length = 4)
    (hs : ∀ ds S K KX, sp ds S K KX → ws_Let_laid cl sp_Draft_sorted_thing sp_Draft_new_scope sp_Draft_put_telling { nx := fun _ S1 => K (.z .none) S1, rt := K, ex := fun y _ S1 => KX y S1 } (startE nm_Let_laid ds) S) : FnOk P w K mg base (L2N.CX P w) 3 f fd ["self", "draft", "home", "here"] (spOf sp) := by
  have nd := sc_Let_laid.nd
  refine fnpxD F sc_Let_laid hl (ws := ws_Let_laid cl sp_Draft_sorted_thing sp_Draft_new_scope sp_Draft_put_telling) (fun cdv A outer s H E B F0 hr tk hp => ?_) hs
  have hu := hu_px hr
  exact (bcons (xasg (xmeth T.c_Draft c_Draft_sorted_thing (hr.mono (by decide)) tk (xv 1) (acons (xv 3) (acons (xfld T.c_Let T.na_Let_of (xv 0)) anil))) (xgn 4 nd))
    (bcons (xasg (xmeth T.c_Draft c_Draft_new_scope (hr.mono (by decide)) tk (xv 1) (acons (xlst (acons (xtup (acons xstr (acons xstr (acons (xv 3) anil)))) anil)) anil)) (xgn 5 nd))
    (bcons (xexpr (xmeth T.c_Draft c_Draft_put_telling (hr.mono (by decide)) tk (xv 1) (acons (xv 5) (acons (xtup (acons xstr (acons (xfld T.c_Let T.na_Let_name (xv 0)) (acons xstr (acons (xv 4) anil))))) anil))))
    (bone (xret (xv 5))))))
abbrev st_Elder_within : Stmt := clsSt (top 30) 0
abbrev nm_Elder_within : List Str := ["self"]
theorem sc_Elder_within : FnScope nm_Elder_within ["self"] (defScope st_Elder_within) := ⟨rfl, rfl, rfl, by decide +kernel, rfl, by decide +kernel, by decide +kernel⟩
def ws_Elder_within : WS :=
  (wRet (wLst wNil))
theorem ok_Elder_within {f : Addr} {fd : FuncData} {sp : Spc} {cl : Str → Addr} (F : FunD K "within" "Item.within" (defArgs st_Elder_within) (defBody st_Elder_within) (defScope st_Elder_within) [] [] f fd) (T : Txt K mg cl) (hl : ∀ ds S K KX, sp ds S K KX → ds.length = 1)
    (hs : ∀ ds S K KX, sp ds S K KX → ws_Elder_within { nx := fun _ S1 => K (.z .none) S1, rt := K, ex := fun y _ S1 => KX y S1 } (startE nm_Elder_within ds) S) : FnOk P w K mg base (L2N.CX P w) 1 f fd ["self"] (spOf sp) := by
  have nd := sc_Elder_within.nd
  refine fnpxD F sc_Elder_within hl (ws := ws_Elder_within) (fun cdv A outer s H E B F0 hr tk hp => ?_) hs
  have hu := hu_px hr
  exact (bone (xret (xlst anil)))
abbrev st_Elder___init__ : Stmt := clsSt (top 34) 0
abbrev nm_Elder___init__ : List Str := ["self", "path"]
theorem sc_Elder___init__ : FnScope nm_Elder___init__ ["self", "path"] (defScope st_Elder___init__) := ⟨rfl, rfl, rfl, by decide +kernel, rfl, by decide +kernel, by decide +kernel⟩
def ws_Elder___init__ (cl : Str → Addr) : WS :=
  (wFldS (cl "Elder") "path" (wVar 0) (wVar 1))
theorem ok_Elder___init__ {f : Addr} {fd : FuncData} {sp : Spc} {cl : Str → Addr} (F : FunD K "__init__" "Elder.__init__" (defArgs st_Elder___init__) (defBody st_Elder___init__) (defScope st_Elder___init__) [] [] f fd) (T : Txt K mg cl) (hl : ∀ ds S K KX, sp ds S K KX → ds.length = 2)
    (hs : ∀ ds S K KX, sp ds S K KX → ws_Elder___init__ cl { nx := fun _ S1 => K (.z .none) S1, rt := K, ex := fun y _ S1 => KX y S1 } (startE nm_Elder___init__ ds) S) : FnOk P w K mg base (L2N.CX P w) 1 f fd ["self", "path"] (spOf sp) := by
  have nd := sc_Elder___init__.nd
  refine fnpxD F sc_Elder___init__ hl (ws := ws_Elder___init__ cl) (fun cdv A outer s H E B F0 hr tk hp => ?_) hs
  have hu := hu_px hr
  exact (bone (xfldS T.c_Elder T.na_Elder_path (xv 0) (xv 1)))
abbrev st_Elder_laid : Stmt := clsSt (top 34) 2
abbrev nm_Elder_laid : List Str := ["self", "draft", "home", "here"]
theorem sc_Elder_laid : FnScope nm_Elder_laid ["self", "draft", "home", "here"] (defScope st_Elder_laid) := ⟨rfl, rfl, rfl, by decide +kernel, rfl, by decide +kernel, by decide +kernel⟩
def ws_Elder_laid (cl : Str → Addr) (sp_Draft_new_question : Spc) (sp_Draft_put_step : Spc) : WS :=
  (wSeq (wDrop (wOMth (cl "Draft") "put_step" sp_Draft_put_step (wVar 1) (wCons (wVar 2) (wCons (wTup (wCons (wC (.str (PySem.Str.ofString "elder"))) (wCons (wC (.str (PySem.Str.ofString "by"))) (wCons (wOMth (cl "Draft") "new_question" sp_Draft_new_question (wVar 1) (wCons (wVar 2) (wCons (wC (.int 2)) (wCons (w1 (pFld (cl "Elder") "path") (wVar 0)) wNil)))) wNil)))) wNil))))
    (wRet (wVar 3)))
theorem ok_Elder_laid {f : Addr} {fd : FuncData} {sp : Spc} {cl : Str → Addr} {sp_Draft_new_question : Spc} {sp_Draft_put_step : Spc} (F : FunD K "laid" "Elder.laid" (defArgs st_Elder_laid) (defBody st_Elder_laid) (defScope st_Elder_laid) [] [] f fd) (T : Txt K mg cl) (c_Draft_new_question : Fm P w K mg base (cl "Draft") "new_question" 1 ["self", "scope", "state", "path"] sp_Draft_new_question) (c_Draft_put_step : Fm P w K mg base (cl "Draft") "put_step" 1 ["self", "scope", "step"] sp_Draft_put_step) (hl : ∀ ds S K KX, sp ds S K KX → ds.length = 4)
    (hs : ∀ ds S K KX, sp ds S K KX → ws_Elder_laid cl sp_Draft_new_question sp_Draft_put_step { nx := fun _ S1 => K (.z .none) S1, rt := K, ex := fun y _ S1 => KX y S1 } (startE nm_Elder_laid ds) S) : FnOk P w K mg base (L2N.CX P w) 2 f fd ["self", "draft", "home", "here"] (spOf sp) := by
  have nd := sc_Elder_laid.nd
  refine fnpxD F sc_Elder_laid hl (ws := ws_Elder_laid cl sp_Draft_new_question sp_Draft_put_step) (fun cdv A outer s H E B F0 hr tk hp => ?_) hs
  have hu := hu_px hr
  exact (bcons (xexpr (xmeth T.c_Draft c_Draft_put_step (hr.mono (by decide)) tk (xv 1) (acons (xv 2) (acons (xtup (acons xstr (acons xstr (acons (xmeth T.c_Draft c_Draft_new_question (hr.mono (by decide)) tk (xv 1) (acons (xv 2) (acons xint (acons (xfld T.c_Elder T.na_Elder_path (xv 0)) anil)))) anil)))) anil))))
    (bone (xret (xv 3))))
abbrev st_All_within : Stmt := clsSt (top 30) 0
abbrev nm_All_within : List Str := ["self"]
theorem sc_All_within : FnScope nm_All_within ["self"] (defScope st_All_within) := ⟨rfl, rfl, rfl, by decide +kernel, rfl, by decide +kernel, by decide +kernel⟩
def ws_All_within : WS :=
  (wRet (wLst wNil))
theorem ok_All_within {f : Addr} {fd : FuncData} {sp : Spc} {cl : Str → Addr} (F : FunD K "within" "Item.within" (defArgs st_All_within) (defBody st_All_within) (defScope st_All_within) [] [] f fd) (T : Txt K mg cl) (hl : ∀ ds S K KX, sp ds S K KX → ds.length = 1)
    (hs : ∀ ds S K KX, sp ds S K KX → ws_All_within { nx := fun _ S1 => K (.z .none) S1, rt := K, ex := fun y _ S1 => KX y S1 } (startE nm_All_within ds) S) : FnOk P w K mg base (L2N.CX P w) 1 f fd ["self"] (spOf sp) := by
  have nd := sc_All_within.nd
  refine fnpxD F sc_All_within hl (ws := ws_All_within) (fun cdv A outer s H E B F0 hr tk hp => ?_) hs
  have hu := hu_px hr
  exact (bone (xret (xlst anil)))
abbrev st_All___init__ : Stmt := clsSt (top 35) 0
abbrev nm_All___init__ : List Str := ["self", "path", "on"]
theorem sc_All___init__ : FnScope nm_All___init__ ["self", "path", "on"] (defScope st_All___init__) := ⟨rfl, rfl, rfl, by decide +kernel, rfl, by decide +kernel, by decide +kernel⟩
def ws_All___init__ (cl : Str → Addr) : WS :=
  (wSeq (wFldS (cl "All") "path" (wVar 0) (wVar 1))
    (wFldS (cl "All") "on" (wVar 0) (wVar 2)))
theorem ok_All___init__ {f : Addr} {fd : FuncData} {sp : Spc} {cl : Str → Addr} (F : FunD K "__init__" "All.__init__" (defArgs st_All___init__) (defBody st_All___init__) (defScope st_All___init__) [V.bl false] [] f fd) (T : Txt K mg cl) (hl : ∀ ds S K KX, sp ds S K KX → ds.length = 3)
    (hs : ∀ ds S K KX, sp ds S K KX → ws_All___init__ cl { nx := fun _ S1 => K (.z .none) S1, rt := K, ex := fun y _ S1 => KX y S1 } (startE nm_All___init__ ds) S) : FnOk P w K mg base (L2N.CX P w) 1 f fd ["self", "path", "on"] (spOf sp) := by
  have nd := sc_All___init__.nd
  refine fnpxD F sc_All___init__ hl (ws := ws_All___init__ cl) (fun cdv A outer s H E B F0 hr tk hp => ?_) hs
  have hu := hu_px hr
  exact (bcons (xfldS T.c_All T.na_All_path (xv 0) (xv 1))
    (bone (xfldS T.c_All T.na_All_on (xv 0) (xv 2))))
abbrev st_All_laid : Stmt := clsSt (top 35) 2
abbrev nm_All_laid : List Str := ["self", "draft", "home", "here", "label"]
theorem sc_All_laid : FnScope nm_All_laid ["self", "draft", "home", "here"] (defScope st_All_laid) := ⟨rfl, rfl, rfl, by decide +kernel, rfl, by decide +kernel, by decide +kernel⟩
def ws_All_laid (cl : Str → Addr) (sp_Draft_new_question : Spc) (sp_Draft_put_step : Spc) : WS :=
  (wSeq (wAsg (wIfE (wB (w1 (pFld (cl "All") "on") (wVar 0))) (wC (.str (PySem.Str.ofString "allon"))) (wC (.str (PySem.Str.ofString "all")))) (gN 4))
    (wSeq (wDrop (wOMth (cl "Draft") "put_step" sp_Draft_put_step (wVar 1) (wCons (wVar 2) (wCons (wTup (wCons (wVar 4) (wCons (wC (.str (PySem.Str.ofString "by"))) (wCons (wOMth (cl "Draft") "new_question" sp_Draft_new_question (wVar 1) (wCons (wVar 2) (wCons (wC (.int 2)) (wCons (w1 (pFld (cl "All") "path") (wVar 0)) wNil)))) wNil)))) wNil))))
    (wRet (wVar 3))))
theorem ok_All_laid {f : Addr} {fd : FuncData} {sp : Spc} {cl : Str → Addr} {sp_Draft_new_question : Spc} {sp_Draft_put_step : Spc} (F : FunD K "laid" "All.laid" (defArgs st_All_laid) (defBody st_All_laid) (defScope st_All_laid) [] [] f fd) (T : Txt K mg cl) (c_Draft_new_question : Fm P w K mg base (cl "Draft") "new_question" 1 ["self", "scope", "state", "path"] sp_Draft_new_question) (c_Draft_put_step : Fm P w K mg base (cl "Draft") "put_step" 1 ["self", "scope", "step"] sp_Draft_put_step) (hl : ∀ ds S K KX, sp ds S K KX → ds.length = 4)
    (hs : ∀ ds S K KX, sp ds S K KX → ws_All_laid cl sp_Draft_new_question sp_Draft_put_step { nx := fun _ S1 => K (.z .none) S1, rt := K, ex := fun y _ S1 => KX y S1 } (startE nm_All_laid ds) S) : FnOk P w K mg base (L2N.CX P w) 2 f fd ["self", "draft", "home", "here"] (spOf sp) := by
  have nd := sc_All_laid.nd
  refine fnpxD F sc_All_laid hl (ws := ws_All_laid cl sp_Draft_new_question sp_Draft_put_step) (fun cdv A outer s H E B F0 hr tk hp => ?_) hs
  have hu := hu_px hr
  exact (bcons (xasg (xife (xtv (xfld T.c_All T.na_All_on (xv 0))) xstr xstr) (xgn 4 nd))
    (bcons (xexpr (xmeth T.c_Draft c_Draft_put_step (hr.mono (by decide)) tk (xv 1) (acons (xv 2) (acons (xtup (acons (xv 4) (acons xstr (acons (xmeth T.c_Draft c_Draft_new_question (hr.mono (by decide)) tk (xv 1) (acons (xv 2) (acons xint (acons (xfld T.c_All T.na_All_path (xv 0)) anil)))) anil)))) anil))))
    (bone (xret (xv 3)))))
abbrev st_One_within : Stmt := clsSt (top 30) 0
abbrev nm_One_within : List Str := ["self"]
theorem sc_One_within : FnScope nm_One_within ["self"] (defScope st_One_within) := ⟨rfl, rfl, rfl, by decide +kernel, rfl, by decide +kernel, by decide +kernel⟩
def ws_One_within : WS :=
  (wRet (wLst wNil))
theorem ok_One_within {f : Addr} {fd : FuncData} {sp : Spc} {cl : Str → Addr} (F : FunD K "within" "Item.within" (defArgs st_One_within) (defBody st_One_within) (defScope st_One_within) [] [] f fd) (T : Txt K mg cl) (hl : ∀ ds S K KX, sp ds S K KX → ds.length = 1)
    (hs : ∀ ds S K KX, sp ds S K KX → ws_One_within { nx := fun _ S1 => K (.z .none) S1, rt := K, ex := fun y _ S1 => KX y S1 } (startE nm_One_within ds) S) : FnOk P w K mg base (L2N.CX P w) 1 f fd ["self"] (spOf sp) := by
  have nd := sc_One_within.nd
  refine fnpxD F sc_One_within hl (ws := ws_One_within) (fun cdv A outer s H E B F0 hr tk hp => ?_) hs
  have hu := hu_px hr
  exact (bone (xret (xlst anil)))
abbrev st_One___init__ : Stmt := clsSt (top 36) 0
abbrev nm_One___init__ : List Str := ["self", "reach", "name", "path"]
theorem sc_One___init__ : FnScope nm_One___init__ ["self", "reach", "name", "path"] (defScope st_One___init__) := ⟨rfl, rfl, rfl, by decide +kernel, rfl, by decide +kernel, by decide +kernel⟩
def ws_One___init__ (cl : Str → Addr) : WS :=
  (wSeq (wFldS (cl "One") "reach" (wVar 0) (wVar 1))
    (wSeq (wFldS (cl "One") "name" (wVar 0) (wVar 2))
    (wFldS (cl "One") "path" (wVar 0) (wVar 3))))
theorem ok_One___init__ {f : Addr} {fd : FuncData} {sp : Spc} {cl : Str → Addr} (F : FunD K "__init__" "One.__init__" (defArgs st_One___init__) (defBody st_One___init__) (defScope st_One___init__) [] [] f fd) (T : Txt K mg cl) (hl : ∀ ds S K KX, sp ds S K KX → ds.length = 4)
    (hs : ∀ ds S K KX, sp ds S K KX → ws_One___init__ cl { nx := fun _ S1 => K (.z .none) S1, rt := K, ex := fun y _ S1 => KX y S1 } (startE nm_One___init__ ds) S) : FnOk P w K mg base (L2N.CX P w) 1 f fd ["self", "reach", "name", "path"] (spOf sp) := by
  have nd := sc_One___init__.nd
  refine fnpxD F sc_One___init__ hl (ws := ws_One___init__ cl) (fun cdv A outer s H E B F0 hr tk hp => ?_) hs
  have hu := hu_px hr
  exact (bcons (xfldS T.c_One T.na_One_reach (xv 0) (xv 1))
    (bcons (xfldS T.c_One T.na_One_name (xv 0) (xv 2))
    (bone (xfldS T.c_One T.na_One_path (xv 0) (xv 3)))))
abbrev st_One_laid : Stmt := clsSt (top 36) 2
abbrev nm_One_laid : List Str := ["self", "draft", "home", "here", "number"]
theorem sc_One_laid : FnScope nm_One_laid ["self", "draft", "home", "here"] (defScope st_One_laid) := ⟨rfl, rfl, rfl, by decide +kernel, rfl, by decide +kernel, by decide +kernel⟩
def ws_One_laid (cl : Str → Addr) (sp_Draft_new_question : Spc) (sp_Draft_put_telling : Spc) : WS :=
  (wSeq (wAsg (wOMth (cl "Draft") "new_question" sp_Draft_new_question (wVar 1) (wCons (wVar 2) (wCons (wC (.int 2)) (wCons (w1 (pFld (cl "One") "path") (wVar 0)) wNil)))) (gN 4))
    (wSeq (wDrop (wOMth (cl "Draft") "put_telling" sp_Draft_put_telling (wVar 1) (wCons (wVar 2) (wCons (wTup (wCons (w1 (pFld (cl "One") "reach") (wVar 0)) (wCons (w1 (pFld (cl "One") "name") (wVar 0)) (wCons (wC (.str (PySem.Str.ofString "by"))) (wCons (wVar 4) wNil))))) wNil))))
    (wRet (wVar 3))))
theorem ok_One_laid {f : Addr} {fd : FuncData} {sp : Spc} {cl : Str → Addr} {sp_Draft_new_question : Spc} {sp_Draft_put_telling : Spc} (F : FunD K "laid" "One.laid" (defArgs st_One_laid) (defBody st_One_laid) (defScope st_One_laid) [] [] f fd) (T : Txt K mg cl) (c_Draft_new_question : Fm P w K mg base (cl "Draft") "new_question" 1 ["self", "scope", "state", "path"] sp_Draft_new_question) (c_Draft_put_telling : Fm P w K mg base (cl "Draft") "put_telling" 1 ["self", "scope", "telling"] sp_Draft_put_telling) (hl : ∀ ds S K KX, sp ds S K KX → ds.length = 4)
    (hs : ∀ ds S K KX, sp ds S K KX → ws_One_laid cl sp_Draft_new_question sp_Draft_put_telling { nx := fun _ S1 => K (.z .none) S1, rt := K, ex := fun y _ S1 => KX y S1 } (startE nm_One_laid ds) S) : FnOk P w K mg base (L2N.CX P w) 2 f fd ["self", "draft", "home", "here"] (spOf sp) := by
  have nd := sc_One_laid.nd
  refine fnpxD F sc_One_laid hl (ws := ws_One_laid cl sp_Draft_new_question sp_Draft_put_telling) (fun cdv A outer s H E B F0 hr tk hp => ?_) hs
  have hu := hu_px hr
  exact (bcons (xasg (xmeth T.c_Draft c_Draft_new_question (hr.mono (by decide)) tk (xv 1) (acons (xv 2) (acons xint (acons (xfld T.c_One T.na_One_path (xv 0)) anil)))) (xgn 4 nd))
    (bcons (xexpr (xmeth T.c_Draft c_Draft_put_telling (hr.mono (by decide)) tk (xv 1) (acons (xv 2) (acons (xtup (acons (xfld T.c_One T.na_One_reach (xv 0)) (acons (xfld T.c_One T.na_One_name (xv 0)) (acons xstr (acons (xv 4) anil))))) anil))))
    (bone (xret (xv 3)))))
abbrev st_Ask_within : Stmt := clsSt (top 30) 0
abbrev nm_Ask_within : List Str := ["self"]
theorem sc_Ask_within : FnScope nm_Ask_within ["self"] (defScope st_Ask_within) := ⟨rfl, rfl, rfl, by decide +kernel, rfl, by decide +kernel, by decide +kernel⟩
def ws_Ask_within : WS :=
  (wRet (wLst wNil))
theorem ok_Ask_within {f : Addr} {fd : FuncData} {sp : Spc} {cl : Str → Addr} (F : FunD K "within" "Item.within" (defArgs st_Ask_within) (defBody st_Ask_within) (defScope st_Ask_within) [] [] f fd) (T : Txt K mg cl) (hl : ∀ ds S K KX, sp ds S K KX → ds.length = 1)
    (hs : ∀ ds S K KX, sp ds S K KX → ws_Ask_within { nx := fun _ S1 => K (.z .none) S1, rt := K, ex := fun y _ S1 => KX y S1 } (startE nm_Ask_within ds) S) : FnOk P w K mg base (L2N.CX P w) 1 f fd ["self"] (spOf sp) := by
  have nd := sc_Ask_within.nd
  refine fnpxD F sc_Ask_within hl (ws := ws_Ask_within) (fun cdv A outer s H E B F0 hr tk hp => ?_) hs
  have hu := hu_px hr
  exact (bone (xret (xlst anil)))
abbrev st_Ask___init__ : Stmt := clsSt (top 37) 0
abbrev nm_Ask___init__ : List Str := ["self", "path"]
theorem sc_Ask___init__ : FnScope nm_Ask___init__ ["self", "path"] (defScope st_Ask___init__) := ⟨rfl, rfl, rfl, by decide +kernel, rfl, by decide +kernel, by decide +kernel⟩
def ws_Ask___init__ (cl : Str → Addr) : WS :=
  (wFldS (cl "Ask") "path" (wVar 0) (wVar 1))
theorem ok_Ask___init__ {f : Addr} {fd : FuncData} {sp : Spc} {cl : Str → Addr} (F : FunD K "__init__" "Ask.__init__" (defArgs st_Ask___init__) (defBody st_Ask___init__) (defScope st_Ask___init__) [] [] f fd) (T : Txt K mg cl) (hl : ∀ ds S K KX, sp ds S K KX → ds.length = 2)
    (hs : ∀ ds S K KX, sp ds S K KX → ws_Ask___init__ cl { nx := fun _ S1 => K (.z .none) S1, rt := K, ex := fun y _ S1 => KX y S1 } (startE nm_Ask___init__ ds) S) : FnOk P w K mg base (L2N.CX P w) 1 f fd ["self", "path"] (spOf sp) := by
  have nd := sc_Ask___init__.nd
  refine fnpxD F sc_Ask___init__ hl (ws := ws_Ask___init__ cl) (fun cdv A outer s H E B F0 hr tk hp => ?_) hs
  have hu := hu_px hr
  exact (bone (xfldS T.c_Ask T.na_Ask_path (xv 0) (xv 1)))
abbrev st_Ask_laid : Stmt := clsSt (top 37) 2
abbrev nm_Ask_laid : List Str := ["self", "draft", "home", "here"]
theorem sc_Ask_laid : FnScope nm_Ask_laid ["self", "draft", "home", "here"] (defScope st_Ask_laid) := ⟨rfl, rfl, rfl, by decide +kernel, rfl, by decide +kernel, by decide +kernel⟩
def ws_Ask_laid (cl : Str → Addr) (sp_Draft_new_question : Spc) : WS :=
  (wSeq (wDrop (wOMth (cl "Draft") "new_question" sp_Draft_new_question (wVar 1) (wCons (wVar 3) (wCons (wC (.int 0)) (wCons (w1 (pFld (cl "Ask") "path") (wVar 0)) wNil)))))
    (wRet (wVar 3)))
theorem ok_Ask_laid {f : Addr} {fd : FuncData} {sp : Spc} {cl : Str → Addr} {sp_Draft_new_question : Spc} (F : FunD K "laid" "Ask.laid" (defArgs st_Ask_laid) (defBody st_Ask_laid) (defScope st_Ask_laid) [] [] f fd) (T : Txt K mg cl) (c_Draft_new_question : Fm P w K mg base (cl "Draft") "new_question" 1 ["self", "scope", "state", "path"] sp_Draft_new_question) (hl : ∀ ds S K KX, sp ds S K KX → ds.length = 4)
    (hs : ∀ ds S K KX, sp ds S K KX → ws_Ask_laid cl sp_Draft_new_question { nx := fun _ S1 => K (.z .none) S1, rt := K, ex := fun y _ S1 => KX y S1 } (startE nm_Ask_laid ds) S) : FnOk P w K mg base (L2N.CX P w) 2 f fd ["self", "draft", "home", "here"] (spOf sp) := by
  have nd := sc_Ask_laid.nd
  refine fnpxD F sc_Ask_laid hl (ws := ws_Ask_laid cl sp_Draft_new_question) (fun cdv A outer s H E B F0 hr tk hp => ?_) hs
  have hu := hu_px hr
  exact (bcons (xexpr (xmeth T.c_Draft c_Draft_new_question (hr.mono (by decide)) tk (xv 1) (acons (xv 3) (acons xint (acons (xfld T.c_Ask T.na_Ask_path (xv 0)) anil)))))
    (bone (xret (xv 3))))
end
end K70

set_option Elab.async false
set_option linter.all false
set_option maxHeartbeats 4000000
set_option maxRecDepth 100000
namespace K70
open PySem PySem.Spec PyProof.Rows L2 PL
def fn : List He.DefD := [dd "is_name" st_is_name, dd "small_enough" st_small_enough, dd "all_named" st_all_named, dd "step_there" st_step_there, dd "telling_there" st_telling_there, dd "thing_there" st_thing_there, dd "all_there" st_all_there, dd "net_of" st_net_of, dd "counted" st_counted, dd "net_by" st_net_by, dd "_law_cell_at" st__law_cell_at, dd "_law_name" st__law_name, dd "_law_path" st__law_path, dd "_law_item" st__law_item, dd "_law_due" st__law_due, dd "_law_whole" st__law_whole, dd "_law_kinds" st__law_kinds, dd "law" st_law, dm "Draft" "__init__" "Draft.__init__" st_Draft___init__ [], dm "Draft" "new_scope" "Draft.new_scope" st_Draft_new_scope [], dm "Draft" "new_thing" "Draft.new_thing" st_Draft_new_thing [], dm "Draft" "new_question" "Draft.new_question" st_Draft_new_question [], dm "Draft" "sorted_thing" "Draft.sorted_thing" st_Draft_sorted_thing [], dm "Draft" "put_step" "Draft.put_step" st_Draft_put_step [], dm "Draft" "put_telling" "Draft.put_telling" st_Draft_put_telling [], dm "Part" "__init__" "Part.__init__" st_Part___init__ [], dm "Part" "within" "Part.within" st_Part_within [], dm "Part" "laid" "Part.laid" st_Part_laid [], dm "Thing" "within" "Item.within" st_Thing_within [], dm "Thing" "__init__" "Thing.__init__" st_Thing___init__ [.non], dm "Thing" "laid" "Thing.laid" st_Thing_laid [], dm "Let" "within" "Item.within" st_Let_within [], dm "Let" "__init__" "Let.__init__" st_Let___init__ [.non], dm "Let" "laid" "Let.laid" st_Let_laid [], dm "Elder" "within" "Item.within" st_Elder_within [], dm "Elder" "__init__" "Elder.__init__" st_Elder___init__ [], dm "Elder" "laid" "Elder.laid" st_Elder_laid [], dm "All" "within" "Item.within" st_All_within [], dm "All" "__init__" "All.__init__" st_All___init__ [.bl false], dm "All" "laid" "All.laid" st_All_laid [], dm "One" "within" "Item.within" st_One_within [], dm "One" "__init__" "One.__init__" st_One___init__ [], dm "One" "laid" "One.laid" st_One_laid [], dm "Ask" "within" "Item.within" st_Ask_within [], dm "Ask" "__init__" "Ask.__init__" st_Ask___init__ [], dm "Ask" "laid" "Ask.laid" st_Ask_laid []]
def fa0 : List He.Fa := [.glo "is_name", .glo "small_enough", .glo "all_named", .glo "step_there", .glo "telling_there", .glo "thing_there", .glo "all_there", .glo "net_of", .glo "counted", .glo "net_by", .glo "_law_cell_at", .glo "_law_name", .glo "_law_path", .glo "_law_item", .glo "_law_due", .glo "_law_whole", .glo "_law_kinds", .glo "law", .free "str", .free "isinstance", .free "len", .free "list", .free "range", .free "tuple", .free "int", .free "bool", .str "LETTERS" "abcdefghijklmnopqrstuvwxyz", .int "MOST_SCOPES" 40, .int "MOST_THINGS" 80, .int "MOST_QUESTIONS" 60]
def fa1 : List He.Fa := [.int "MOST_STEPS" 8, .int "MOST_TELLINGS" 12, .int "MOST_NAMES" 6, .int "MOST_WITHIN" 30, .int "MOST_ITEMS" 200, .cls "Part", .cls "Thing", .cls "Let", .cls "Elder", .cls "All", .cls "One", .cls "Ask", .cls "Draft", .noat "Draft" "questions", .noat "Draft" "things", .noat "Draft" "scopes", .noat "Part" "reach", .noat "Part" "name", .noat "Part" "inner", .noat "Thing" "reach", .noat "Thing" "name", .noat "Thing" "of", .noat "Let" "name", .noat "Let" "of", .noat "Elder" "path", .noat "All" "path", .noat "All" "on", .noat "One" "reach", .noat "One" "name", .noat "One" "path"]
def fa2 : List He.Fa := [.noat "Ask" "path", .meth "Part" "within", .meth "Thing" "within", .meth "Let" "within", .meth "Elder" "within", .meth "All" "within", .meth "One" "within", .meth "Ask" "within", .meth "Draft" "new_scope", .meth "Part" "laid", .meth "Thing" "laid", .meth "Let" "laid", .meth "Elder" "laid", .meth "All" "laid", .meth "One" "laid", .meth "Ask" "laid", .meth "Draft" "new_thing", .meth "Draft" "new_question", .meth "Draft" "put_telling", .meth "Draft" "sorted_thing", .meth "Draft" "put_step", .mkr "Draft", .mkr "Part", .mkr "Thing", .mkr "Let", .mkr "Elder", .mkr "All", .mkr "One", .mkr "Ask", .glo "Draft"]
def fa3 : List He.Fa := [.glo "Part", .glo "Thing", .glo "Let", .glo "Elder", .glo "All", .glo "One", .glo "Ask"]
def fa : List He.Fa := fa0 ++ fa1 ++ fa2 ++ fa3
def loose : List PySem.Str := ("_wall" : PySem.Str) :: ("PathError" : PySem.Str) :: ("TooGreat" : PySem.Str) :: ("NoName" : PySem.Str) :: ("NoPlace" : PySem.Str) :: ("LETTERS" : PySem.Str) :: ("is_name" : PySem.Str) :: ("MOST_SCOPES" : PySem.Str) :: ("MOST_THINGS" : PySem.Str) :: ("MOST_QUESTIONS" : PySem.Str) :: ("MOST_STEPS" : PySem.Str) :: ("MOST_TELLINGS" : PySem.Str) :: ("MOST_NAMES" : PySem.Str) :: ("small_enough" : PySem.Str) :: ("all_named" : PySem.Str) :: ("step_there" : PySem.Str) :: ("telling_there" : PySem.Str) :: ("thing_there" : PySem.Str) :: ("all_there" : PySem.Str) :: ("net_of" : PySem.Str) :: ("MOST_WITHIN" : PySem.Str) :: ("MOST_ITEMS" : PySem.Str) :: ("Draft" : PySem.Str) :: ("counted" : PySem.Str) :: ("net_by" : PySem.Str) :: ("Item" : PySem.Str) :: ("Part" : PySem.Str) :: ("Thing" : PySem.Str) :: ("Let" : PySem.Str) :: ("Elder" : PySem.Str) :: ("All" : PySem.Str) :: ("One" : PySem.Str) :: ("Ask" : PySem.Str) :: ("_law_cell_at" : PySem.Str) :: ("_law_name" : PySem.Str) :: ("_law_path" : PySem.Str) :: ("_law_item" : PySem.Str) :: ("_law_due" : PySem.Str) :: ("_law_whole" : PySem.Str) :: ("_law_kinds" : PySem.Str) :: []
abbrev R : PySem.W.OpenRow := PySem.W.OpenLaw.row PySem.Challenge.rw_namepaths_k70_one_item_laid
abbrev hk : PySem.W.Hook := hookP 4 fa fn
def ob (s : PySem.W.SharedT) : Bool × He.AlD := obsPG 4 fa fn (HandSHeadRun.getT s)
theorem ob_eq (s : PySem.W.SharedT) : ob s = hk.obs s.abs := obsPG_eq (HandSHeadRun.getT_eq s)
theorem run (w : World) : HandSHeadRun.RunEq R (PySem.W.view R.prog [46]) hk ob 8000 loose w := K70H.run w
end K70

set_option Elab.async false
set_option linter.all false
set_option maxRecDepth 100000
namespace ND
open PySem L2 PL

structure Step where
  lab : Str
  by_ : Bool
  num : Int
structure Tell where
  lab : Str
  name : Str
  by_ : Bool
  num : Int
inductive Thing where
  | plain | part (s : Int) | sort (q : Int)
inductive Ans where
  | opn | thing (t : Int) | none_ (at_ : Int) | torn (at_ : Int)
structure Quest where
  scope : Int
  state : Int
  path : List Str
abbrev Scope := List Step × List Tell
structure Net where
  scopes : List Scope
  things : List Thing
  quests : List Quest
inductive Goal where
  | to (s : Int) | opn (q : Int) | no
def eStep (s : Step) : PyData := .tuple [.str s.lab, .str (if s.by_ then "by" else "to"), .int s.num]
def eTell (s : Tell) : PyData := .tuple [.str s.lab, .str s.name, .str (if s.by_ then "by" else "thing"), .int s.num]
def eThing : Thing → PyData
  | .plain => .tuple [.str "plain", .int 0]
  | .part s => .tuple [.str "part", .int s]
  | .sort q => .tuple [.str "sort", .int q]
def eQuest (q : Quest) : PyData := .tuple [.int q.scope, .int q.state, .tuple (q.path.map .str)]
def eScope (s : Scope) : PyData := .tuple [.list (s.1.map eStep), .list (s.2.map eTell)]
def eNet (n : Net) : PyData := .tuple [.list (n.scopes.map eScope), .list (n.things.map eThing), .list (n.quests.map eQuest)]
structure InOk (net : Net) (ans : List Ans) : Prop where
  sort : ∀ (q : Int), Thing.sort q ∈ net.things → 0 ≤ q ∧ q < ans.length
  ans : ∀ (t : Int), Ans.thing t ∈ ans → 0 ≤ t ∧ t < net.things.length
def getI {α : Type} (xs : List α) (d : α) (i : Int) : α := xs.getD i.toNat d
def inside (net : Net) (ans : List Ans) (t : Int) : Goal := match getI net.things .plain t with
  | .part s => .to s
  | .plain => .no
  | .sort q => match getI ans .opn q with
    | .opn => .opn q
    | .thing t => match getI net.things .plain t with
      | .part s => .to s
      | _ => .no
    | _ => .no
theorem getI_at {α : Type} {xs : List α} {d : α} {i : Int} (h : 0 ≤ i ∧ i < xs.length) : atD xs i = some (getI xs d i) := by
  rw [atD_in h.1 h.2]
  unfold getI
  rw [List.getD_eq_getElem?_getD, List.getElem?_eq_getElem (by omega)]
  rfl
theorem getI_mem {α : Type} {xs : List α} {d : α} {i : Int} (h : 0 ≤ i ∧ i < xs.length) : getI xs d i ∈ xs := by
  have := getI_at (d := d) h
  rw [atD_in h.1 h.2] at this
  rw [← Option.some.inj this]
  exact List.getElem_mem _
theorem flat_strs : ∀ xs : List Str, flatTs (xs.map .str) = true
  | [] => rfl
  | x :: xs => by simp [flatTs, flatT, flat_strs xs]
theorem bzQ (q : Quest) : bz (eQuest q) = .z (eQuest q) := bz_flat (by simp [eQuest, flatT, flatTs, flat_strs])
theorem bzT (t : Thing) : bz (eThing t) = .z (eThing t) := by cases t <;> rfl
theorem bzS (s : Step) : bz (eStep s) = .z (eStep s) := rfl
theorem bzL (t : Tell) : bz (eTell t) = .z (eTell t) := rfl
end ND

set_option Elab.async false
set_option linter.all false
set_option maxRecDepth 100000
namespace ND
open PySem L2 PL

theorem cutL_map {α β : Type} (f : α → β) (xs : List α) (lo hi : Option Int) : cutL (xs.map f) lo hi = (cutL xs lo hi).map f := by
  unfold cutL; rw [List.length_map, List.map_take, List.map_drop]
theorem cutL_len {α : Type} (xs : List α) (lo hi : Option Int) : (cutL xs lo hi).length ≤ xs.length := by
  unfold cutL; rw [List.length_take, List.length_drop]; omega
theorem cutL_mem {α : Type} {xs : List α} {lo hi : Option Int} {x : α} (h : x ∈ cutL xs lo hi) : x ∈ xs := List.mem_of_mem_drop (List.mem_of_mem_take h)
theorem bz_ints (ns : List Int) : (ns.map PyData.int).map bz = ns.map fun i => .z (.int i) := by rw [List.map_map]; rfl

def scD (p : Nat × Nat) : D := .t [.r p.1, .r p.2]
structure ScIn (S : Sto) (p : Nat × Nat) (s : Scope) : Prop where
  a : S[p.1]? = some (.lst (s.1.map fun x => .z (eStep x)))
  b : S[p.2]? = some (.lst (s.2.map fun x => .z (eTell x)))
theorem ScIn.vw {S : Sto} {p : Nat × Nat} {s : Scope} (h : ScIn S p s) : Vw S (scD p) (eScope s) :=
  .t (.cons (.r h.a (Vws.map _ _)) (.cons (.r h.b (Vws.map _ _)) .nil))
theorem ScIn.sub {S S' : Sto} {p : Nat × Nat} {s : Scope} (h : ScIn S p s) (k : ∀ (n : Nat) (o : Ob), S[n]? = some o → S'[n]? = some o) : ScIn S' p s := ⟨k _ _ h.a, k _ _ h.b⟩
inductive ScsIn (S : Sto) : List (Nat × Nat) → List Scope → Prop
  | nil : ScsIn S [] []
  | cons {p : Nat × Nat} {s : Scope} {ps : List (Nat × Nat)} {ss : List Scope} : ScIn S p s → ScsIn S ps ss → ScsIn S (p :: ps) (s :: ss)
theorem ScsIn.vws {S : Sto} : ∀ {ps : List (Nat × Nat)} {ss : List Scope}, ScsIn S ps ss → Vws S (ps.map scD) (ss.map eScope)
  | [], _, h => by cases h; exact .nil
  | p :: ps, _, h => by cases h with | cons a b => exact .cons a.vw b.vws
theorem ScsIn.sub {S S' : Sto} (k : ∀ (n : Nat) (o : Ob), S[n]? = some o → S'[n]? = some o) : ∀ {ps : List (Nat × Nat)} {ss : List Scope}, ScsIn S ps ss → ScsIn S' ps ss
  | [], _, h => by cases h; exact .nil
  | p :: ps, _, h => by cases h with | cons a b => exact .cons (a.sub k) (b.sub k)
def emp (L n : Nat) : List (Nat × Nat) := (List.range n).map fun k => (L + 2 * k, L + 2 * k + 1)
def noSc : Scope := ([], [])
abbrev weEmp : WE := wTup (wCons (wLst wNil) (wCons (wLst wNil) wNil))
theorem pLc_emp {lo : Int} {n : Nat} {i : Nat} {env : PL.Env} {fin : Sto → Prop} {S : Sto} (hz : n < 1000000) (hf : fin (S ++ .lst ((emp (S.length + 1) n).map scD) :: List.replicate (2 * n) (.lst []))) :
    pLc (rgD lo n) (tgN i) wYes weEmp S.length env fin (rgD lo n).items (S ++ [.lst []]) := by
  have hl : (rgD lo n).items.length = n := by simp [rgD]
  refine pLc_each (fun j S' => j ≤ n ∧ S' = S ++ .lst ((emp (S.length + 1) j).map scD) :: List.replicate (2 * j) (.lst [])) ⟨Nat.zero_le _, rfl⟩ (fun _ _ _ _ => trivial) ?_ ?_
  · rintro j d _ Q hj ⟨hj2, rfl⟩ hQ
    have hlt : j < n := by rw [← hl]; exact (List.getElem?_eq_some_iff.mp hj).1
    refine pGet.mk rfl ?_
    refine pIf.tt rfl ?_
    refine pReq.mk (sz_le rfl) ?_
    refine pReq.mk (sz_le rfl) ?_
    refine pReq.mk (sz_le rfl) ?_
    refine pGet.mk (x := (emp (S.length + 1) j).map scD) ?_ (pReq.mk ?_ ?_)
    · rw [List.append_assoc, List.append_assoc]
      exact lsR_at (List.getElem?_append_right (Nat.le_refl _) |>.trans (by rw [Nat.sub_self]; rfl))
    · rw [List.length_map]
      refine sz_lt6 ?_
      unfold emp
      rw [List.length_map, List.length_range]
      omega
    · refine hQ _ ⟨hlt, ?_⟩
      rw [List.append_assoc, List.append_assoc, List.set_append_right _ _ (Nat.le_refl _), Nat.sub_self]
      have e1 : emp (S.length + 1) (j + 1) = emp (S.length + 1) j ++ [(S.length + 1 + 2 * j, S.length + 1 + 2 * j + 1)] := by
        unfold emp; rw [range_snoc]
      have e2 : List.replicate (2 * (j + 1)) (Ob.lst []) = List.replicate (2 * j) (.lst []) ++ [.lst [], .lst []] := by
        rw [show 2 * (j + 1) = 2 * j + 2 by omega, ← List.replicate_append_replicate]; rfl
      rw [e1, e2, List.map_append]
      have e3 : (S ++ Ob.lst ((emp (S.length + 1) j).map scD) :: List.replicate (2 * j) (Ob.lst [])).length = S.length + 1 + 2 * j := by simp; omega
      have e4 : ((S ++ Ob.lst ((emp (S.length + 1) j).map scD) :: List.replicate (2 * j) (Ob.lst [])) ++ [Ob.lst []]).length = S.length + 1 + 2 * j + 1 := by simp; omega
      show S ++ (Ob.lst (_ ++ [D.t [.r _, .r _]]) :: _) = _
      rw [e3, e4]
      rfl
  · rintro S' ⟨_, rfl⟩
    rw [hl]
    exact hf
end ND

set_option Elab.async false
set_option linter.all false
set_option maxRecDepth 100000
namespace ND
open PySem L2 PL

def LwN (n : Nat) (x : Str) : Prop := x.cps.toList.length = n ∧ ∀ c ∈ x.cps.toList, 97 ≤ c ∧ c < 123
def isNm (x : Str) : Prop := ∃ n, 1 ≤ n ∧ n ≤ 8 ∧ LwN n x
theorem LwN.nil : LwN 0 (Str.ofString "") := ⟨rfl, fun c h => by cases h⟩
theorem LwN.len {n : Nat} {x : Str} (h : LwN n x) : x.length = n := by
  rw [← h.1]; show x.cps.size = _; simp
theorem LwN.ok {n : Nat} {x : Str} (h : LwN n x) : PyData.strOk x = true := by
  unfold PyData.strOk
  rw [Array.all_eq_true']
  intro c hc
  have := h.2 c (by simpa using hc)
  simp; omega
theorem isNm.ok {x : Str} (h : isNm x) : PyData.strOk x = true := by
  obtain ⟨n, _, _, h⟩ := h; exact h.ok
theorem app_list (x y : Str) : (x ++ y).cps.toList = x.cps.toList ++ y.cps.toList := by
  show (x.cps ++ y.cps).toList = _
  simp
theorem LwN.snoc {n : Nat} {x : Str} {c : Nat} (h : LwN n x) (h1 : 97 ≤ c) (h2 : c < 123) : LwN (n + 1) (x ++ ⟨⟨[c]⟩⟩) := by
  constructor
  · rw [app_list, List.length_append, h.1]; rfl
  · intro d hd
    rw [app_list, List.mem_append] at hd
    rcases hd with hd | hd
    · exact h.2 d hd
    · have : d = c := by simpa using hd
      subst this; exact ⟨h1, h2⟩
theorem one_len (c : Nat) : (⟨⟨[c]⟩⟩ : Str).length = 1 := rfl
def alpha : List Nat := [97, 98, 99, 100, 101, 102, 103, 104, 105, 106, 107, 108, 109, 110, 111, 112, 113, 114, 115, 116, 117, 118, 119, 120, 121, 122]
theorem alpha_eq : (Str.ofString "abcdefghijklmnopqrstuvwxyz").cps.toList = alpha := by decide +kernel
theorem alpha_at {i : Int} (h : 0 ≤ i ∧ i < 26) : ∃ c, atD (Str.ofString "abcdefghijklmnopqrstuvwxyz").cps.toList i = some c ∧ 97 ≤ c ∧ c < 123 := by
  rw [alpha_eq]
  obtain ⟨m, rfl⟩ : ∃ m : Nat, i = (m : Int) := ⟨i.toNat, by omega⟩
  have hm : m < 26 := by omega
  have key : ∀ m : Fin 26, ∃ c, alpha[m.val]? = some c ∧ 97 ≤ c ∧ c < 123 := by decide
  exact key ⟨m, hm⟩
theorem getA {α : Type} {xs : List α} {i : Int} (h : 0 ≤ i ∧ i < xs.length) : ∃ x, atD xs i = some x ∧ x ∈ xs := ⟨_, atD_in h.1 h.2, List.getElem_mem _⟩

theorem ixD_zA {α : Type} {S : Sto} {f : α → PyData} {xs : List α} {i : Int} (h : 0 ≤ i ∧ i < xs.length) : ∃ d, ixD S (.z (.list (xs.map f))) i = some d ∧ ∃ x, x ∈ xs ∧ d = .z (f x) := by
  obtain ⟨x, e, hx⟩ := getA h
  exact ⟨_, ixD_zL e, x, hx, rfl⟩
theorem ixD_bA {α : Type} {S : Sto} {f : α → PyData} {xs : List α} {i : Int} (h : 0 ≤ i ∧ i < xs.length) : ∃ d, ixD S (.b (.list (xs.map f))) i = some d ∧ ∃ x, x ∈ xs ∧ d = bz (f x) := by
  obtain ⟨x, e, hx⟩ := getA h
  exact ⟨_, ixD_bL e, x, hx, rfl⟩
def StepOk (ns nq : Nat) (x : Step) : Prop := PyData.strOk x.lab = true ∧ 0 ≤ x.num ∧ x.num < (if x.by_ = true then nq else ns : Nat)
def TellOk (nt nq : Nat) (x : Tell) : Prop := PyData.strOk x.lab = true ∧ PyData.strOk x.name = true ∧ 0 ≤ x.num ∧ x.num < (if x.by_ = true then nq else nt : Nat)
def ThingOk (ns nq : Nat) : Thing → Prop
  | .plain => True
  | .part s => 0 ≤ s ∧ s < ns
  | .sort q => 0 ≤ q ∧ q < nq
structure QuestOk (ns : Nat) (q : Quest) : Prop where
  s : 0 ≤ q.scope ∧ q.scope < ns
  t : 0 ≤ q.state
  p1 : q.path ≠ []
  p6 : q.path.length ≤ 6
  ok : ∀ x ∈ q.path, PyData.strOk x = true
def ScopeOk (ns nt nq : Nat) (s : Scope) : Prop := (∀ x ∈ s.1, StepOk ns nq x) ∧ ∀ x ∈ s.2, TellOk nt nq x
structure NetOk (n : Net) : Prop where
  sc : ∀ s ∈ n.scopes, ScopeOk n.scopes.length n.things.length n.quests.length s
  th : ∀ t ∈ n.things, ThingOk n.scopes.length n.quests.length t
  qs : ∀ q ∈ n.quests, QuestOk n.scopes.length q
def AnsOk (nt : Nat) : Ans → Prop
  | .thing t => 0 ≤ t ∧ t < nt
  | _ => True
theorem inOk_of {n : Net} {a : List Ans} (h : NetOk n) (hl : a.length = n.quests.length) (ha : ∀ x ∈ a, AnsOk n.things.length x) : InOk n a :=
  ⟨fun q hq => by have := h.th _ hq; rw [hl]; exact this, fun t ht => ha _ ht⟩
theorem shQ {q : Quest} (h : ∀ x ∈ q.path, PyData.strOk x = true) : Shp 2 (eQuest q) := .tup3 .int .int (.tuple fun d hd => by
  obtain ⟨x, hx, rfl⟩ := List.mem_map.mp hd
  exact .str (h x hx))
theorem shT (t : Thing) : Shp 2 (eThing t) := by cases t <;> exact .mono (.tup2 (n := 0) (.str (by decide +kernel)) .int) (by decide)
theorem shS {x : Step} (h : PyData.strOk x.lab = true) : Shp 1 (eStep x) := .tup3 (.str h) (by cases x.by_ <;> exact .str (by decide +kernel)) .int
theorem shL {x : Tell} (h : PyData.strOk x.lab = true) (h2 : PyData.strOk x.name = true) : Shp 1 (eTell x) := .tup4 (.str h) (.str h2) (by cases x.by_ <;> exact .str (by decide +kernel)) .int
theorem shSc {ns nt nq : Nat} {s : Scope} (h : ScopeOk ns nt nq s) : Shp 3 (eScope s) := .tup2 (.lists fun x hx => shS (h.1 x hx).1) (.lists fun x hx => shL (h.2 x hx).1 (h.2 x hx).2.1)
theorem shN {n : Net} (h : NetOk n) : Shp 5 (eNet n) := .tup3 (.lists fun s hs => shSc (h.sc s hs)) (.mono (.lists fun t _ => shT t) (by decide)) (.mono (.lists fun q hq => shQ (h.qs q hq).ok) (by decide))

def plcs (ps : List (Nat × Nat)) : List Nat := ps.flatMap fun p => [p.1, p.2]
structure ScsAt (S : Sto) (n0 : Nat) (ps : List (Nat × Nat)) (ss : List Scope) : Prop where
  l : S[n0]? = some (.lst (ps.map scD))
  i : ScsIn S ps ss
  nd : (n0 :: plcs ps).Nodup
theorem ScsAt.app {S T : Sto} {n0 : Nat} {ps : List (Nat × Nat)} {ss : List Scope} (h : ScsAt S n0 ps ss) : ScsAt (S ++ T) n0 ps ss := ⟨sto_app h.l, h.i.sub fun _ _ => sto_app, h.nd⟩
theorem ScsAt.vw {S : Sto} {n0 : Nat} {ps : List (Nat × Nat)} {ss : List Scope} (h : ScsAt S n0 ps ss) : Vw S (.r n0) (.list (ss.map eScope)) := .r h.l h.i.vws
theorem ScsIn.len {S : Sto} : ∀ {ps : List (Nat × Nat)} {ss : List Scope}, ScsIn S ps ss → ps.length = ss.length
  | [], _, h => by cases h; rfl
  | p :: ps, _, h => by cases h with | cons a b => simp [ScsIn.len b]
theorem ScsIn.get {S : Sto} : ∀ {ps : List (Nat × Nat)} {ss : List Scope} {i : Nat} {p : Nat × Nat}, ScsIn S ps ss → ps[i]? = some p → ∃ s, ss[i]? = some s ∧ ScIn S p s
  | [], _, _, _, h, e => by simp at e
  | p :: ps, _, 0, _, h, e => by cases h with | cons a b => simp at e; subst e; exact ⟨_, rfl, a⟩
  | p :: ps, _, i + 1, q, h, e => by
    cases h with
    | cons a b =>
      obtain ⟨s, h1, h2⟩ := ScsIn.get (i := i) (p := q) b (by simpa using e)
      exact ⟨s, by simpa using h1, h2⟩
theorem ScsIn.keep {S : Sto} {n : Nat} {o : Ob} : ∀ {ps : List (Nat × Nat)} {ss : List Scope}, ScsIn S ps ss → n ∉ plcs ps → ScsIn (S.set n o) ps ss
  | [], _, h, _ => by cases h; exact .nil
  | p :: ps, _, h, hn => by
    cases h with
    | cons a b =>
      have h1 : n ≠ p.1 := fun e => hn (by simp [plcs, e])
      have h2 : n ≠ p.2 := fun e => hn (by simp [plcs, e])
      have h3 : n ∉ plcs ps := fun e => hn (by
        show n ∈ [p.1, p.2] ++ plcs ps
        exact List.mem_append_right _ e)
      exact .cons ⟨by rw [List.getElem?_set_ne h1]; exact a.a, by rw [List.getElem?_set_ne h2]; exact a.b⟩ (ScsIn.keep b h3)
theorem ScIn.lt1 {S : Sto} {p : Nat × Nat} {s : Scope} (h : ScIn S p s) : p.1 < S.length := (List.getElem?_eq_some_iff.mp h.a).1
theorem ScIn.lt2 {S : Sto} {p : Nat × Nat} {s : Scope} (h : ScIn S p s) : p.2 < S.length := (List.getElem?_eq_some_iff.mp h.b).1
theorem ScsIn.put1 {S : Sto} {xs : List Step} : ∀ {ps : List (Nat × Nat)} {ss : List Scope} {i : Nat} {p : Nat × Nat} {s : Scope}, ScsIn S ps ss → (plcs ps).Nodup → ps[i]? = some p → ss[i]? = some s → ScsIn (S.set p.1 (.lst (xs.map fun x => .z (eStep x)))) ps (ss.set i (xs, s.2))
  | [], _, _, _, _, h, _, e, _ => by simp at e
  | p :: ps, _, 0, q, s, h, nd, e, e2 => by
    cases h with
    | cons a b =>
      simp at e e2
      subst e; subst e2
      have nd2 : (p.1 :: p.2 :: plcs ps).Nodup := nd
      have h12 : p.1 ≠ p.2 := fun z => by rw [z] at nd2; simp at nd2
      have h3 : p.1 ∉ plcs ps := fun z => by
        have := List.nodup_cons.mp nd2
        exact this.1 (List.mem_cons_of_mem _ z)
      exact .cons ⟨by rw [List.getElem?_set_self a.lt1], by rw [List.getElem?_set_ne h12]; exact a.b⟩ (b.keep h3)
  | p :: ps, _, i + 1, q, s, h, nd, e, e2 => by
    cases h with
    | cons a b =>
      have nd2 : (p.1 :: p.2 :: plcs ps).Nodup := nd
      have hq : q ∈ ps := List.mem_of_getElem? (i := i) (by simpa using e)
      have hq1 : q.1 ∈ plcs ps := List.mem_flatMap.mpr ⟨q, hq, by simp⟩
      have h1 := (List.nodup_cons.mp nd2).1
      have h2 := (List.nodup_cons.mp (List.nodup_cons.mp nd2).2).1
      have n1 : q.1 ≠ p.1 := fun z => h1 (by rw [← z]; exact List.mem_cons_of_mem _ hq1)
      have n2 : q.1 ≠ p.2 := fun z => h2 (by rw [← z]; exact hq1)
      exact .cons ⟨by rw [List.getElem?_set_ne n1]; exact a.a, by rw [List.getElem?_set_ne n2]; exact a.b⟩ (ScsIn.put1 b (List.nodup_cons.mp (List.nodup_cons.mp nd2).2).2 (by simpa using e) (by simpa using e2))
theorem ScsIn.put2 {S : Sto} {xs : List Tell} : ∀ {ps : List (Nat × Nat)} {ss : List Scope} {i : Nat} {p : Nat × Nat} {s : Scope}, ScsIn S ps ss → (plcs ps).Nodup → ps[i]? = some p → ss[i]? = some s → ScsIn (S.set p.2 (.lst (xs.map fun x => .z (eTell x)))) ps (ss.set i (s.1, xs))
  | [], _, _, _, _, h, _, e, _ => by simp at e
  | p :: ps, _, 0, q, s, h, nd, e, e2 => by
    cases h with
    | cons a b =>
      simp at e e2
      subst e; subst e2
      have nd2 : (p.1 :: p.2 :: plcs ps).Nodup := nd
      have h12 : p.2 ≠ p.1 := fun z => by rw [z] at nd2; simp at nd2
      have h3 : p.2 ∉ plcs ps := (List.nodup_cons.mp (List.nodup_cons.mp nd2).2).1
      exact .cons ⟨by rw [List.getElem?_set_ne h12]; exact a.a, by rw [List.getElem?_set_self a.lt2]⟩ (b.keep h3)
  | p :: ps, _, i + 1, q, s, h, nd, e, e2 => by
    cases h with
    | cons a b =>
      have nd2 : (p.1 :: p.2 :: plcs ps).Nodup := nd
      have hq : q ∈ ps := List.mem_of_getElem? (i := i) (by simpa using e)
      have hq1 : q.2 ∈ plcs ps := List.mem_flatMap.mpr ⟨q, hq, by simp⟩
      have h1 := (List.nodup_cons.mp nd2).1
      have h2 := (List.nodup_cons.mp (List.nodup_cons.mp nd2).2).1
      have n1 : q.2 ≠ p.1 := fun z => h1 (by rw [← z]; exact List.mem_cons_of_mem _ hq1)
      have n2 : q.2 ≠ p.2 := fun z => h2 (by rw [← z]; exact hq1)
      exact .cons ⟨by rw [List.getElem?_set_ne n1]; exact a.a, by rw [List.getElem?_set_ne n2]; exact a.b⟩ (ScsIn.put2 b (List.nodup_cons.mp (List.nodup_cons.mp nd2).2).2 (by simpa using e) (by simpa using e2))
theorem mem_plcs {ps : List (Nat × Nat)} {p : Nat × Nat} (h : p ∈ ps) : p.1 ∈ plcs ps ∧ p.2 ∈ plcs ps := ⟨List.mem_flatMap.mpr ⟨p, h, by simp⟩, List.mem_flatMap.mpr ⟨p, h, by simp⟩⟩
theorem ScsAt.put1 {S : Sto} {n0 : Nat} {ps : List (Nat × Nat)} {ss : List Scope} {i : Nat} {p : Nat × Nat} {s : Scope} {xs : List Step} (h : ScsAt S n0 ps ss) (e : ps[i]? = some p) (e2 : ss[i]? = some s) : ScsAt (S.set p.1 (.lst (xs.map fun x => .z (eStep x)))) n0 ps (ss.set i (xs, s.2)) := by
  have hm := mem_plcs (List.mem_of_getElem? e)
  have nd := List.nodup_cons.mp h.nd
  exact ⟨by rw [List.getElem?_set_ne (fun z => nd.1 (by rw [← z]; exact hm.1))]; exact h.l, h.i.put1 nd.2 e e2, h.nd⟩
theorem ScsAt.put2 {S : Sto} {n0 : Nat} {ps : List (Nat × Nat)} {ss : List Scope} {i : Nat} {p : Nat × Nat} {s : Scope} {xs : List Tell} (h : ScsAt S n0 ps ss) (e : ps[i]? = some p) (e2 : ss[i]? = some s) : ScsAt (S.set p.2 (.lst (xs.map fun x => .z (eTell x)))) n0 ps (ss.set i (s.1, xs)) := by
  have hm := mem_plcs (List.mem_of_getElem? e)
  have nd := List.nodup_cons.mp h.nd
  exact ⟨by rw [List.getElem?_set_ne (fun z => nd.1 (by rw [← z]; exact hm.2))]; exact h.l, h.i.put2 nd.2 e e2, h.nd⟩
theorem ScsIn.lt {S : Sto} : ∀ {ps : List (Nat × Nat)} {ss : List Scope}, ScsIn S ps ss → ∀ m ∈ plcs ps, m < S.length
  | [], _, _, m, hm => by cases hm
  | p :: ps, _, h, m, hm => by
    cases h with
    | cons a b =>
      have hm : m ∈ p.1 :: p.2 :: plcs ps := hm
      rcases List.mem_cons.mp hm with rfl | hm
      · exact a.lt1
      · rcases List.mem_cons.mp hm with rfl | hm
        · exact a.lt2
        · exact b.lt m hm
theorem ScsAt.lt {S : Sto} {n0 : Nat} {ps : List (Nat × Nat)} {ss : List Scope} (h : ScsAt S n0 ps ss) : ∀ m ∈ n0 :: plcs ps, m < S.length := fun m hm => by
  rcases List.mem_cons.mp hm with rfl | hm
  · exact (List.getElem?_eq_some_iff.mp h.l).1
  · exact h.i.lt m hm
theorem emp_plcs (L n : Nat) : (∀ m ∈ plcs (emp L n), L ≤ m ∧ m < L + 2 * n) ∧ (plcs (emp L n)).Nodup := by
  induction n with
  | zero => exact ⟨fun m h => (by cases h), List.nodup_nil⟩
  | succ n ih =>
    have e : plcs (emp L (n + 1)) = plcs (emp L n) ++ [L + 2 * n, L + 2 * n + 1] := by
      unfold emp plcs
      rw [List.range_succ, List.map_append, List.flatMap_append]
      rfl
    rw [e]
    refine ⟨fun m hm => ?_, ?_⟩
    · rcases List.mem_append.mp hm with h | h
      · have := ih.1 m h; omega
      · simp at h; omega
    · rw [List.nodup_append]
      refine ⟨ih.2, by simp, fun a ha b hb => ?_⟩
      have := ih.1 a ha
      simp at hb; omega
theorem emp_len (L n : Nat) : (emp L n).length = n := by unfold emp; rw [List.length_map, List.length_range]
end ND

set_option Elab.async false
set_option linter.all false
set_option maxRecDepth 100000
namespace ND
open PySem L2 PL

def cps (ss : List Scope) : Sto := ss.flatMap fun s => [.lst (s.1.map fun x => .z (eStep x)), .lst (s.2.map fun x => .z (eTell x))]
theorem cps_app (a b : List Scope) : cps (a ++ b) = cps a ++ cps b := List.flatMap_append
theorem cps_len (ss : List Scope) : (cps ss).length = 2 * ss.length := by
  induction ss with
  | nil => rfl
  | cons s ss ih =>
    show ([_, _] ++ cps ss).length = _
    rw [List.length_append, ih, List.length_cons]
    simp; omega
theorem cps_get : ∀ {ss : List Scope} {i : Nat} {s : Scope}, ss[i]? = some s → (cps ss)[2 * i]? = some (.lst (s.1.map fun x => .z (eStep x))) ∧ (cps ss)[2 * i + 1]? = some (.lst (s.2.map fun x => .z (eTell x)))
  | [], _, _, h => by simp at h
  | t :: ss, 0, s, h => by simp at h; subst h; exact ⟨rfl, rfl⟩
  | t :: ss, i + 1, s, h => by
    have := cps_get (ss := ss) (i := i) (s := s) (by simpa using h)
    have e1 : 2 * (i + 1) = 2 * i + 2 := by omega
    rw [e1]
    exact this
theorem cps_in {S T : Sto} {L : Nat} (hL : S.length = L) (ss : List Scope) : ScsIn (S ++ (cps ss ++ T)) (emp L ss.length) ss := by
  have go : ∀ (done rest : List Scope), ss = done ++ rest → ScsIn (S ++ (cps ss ++ T)) (((List.range rest.length).map (· + done.length)).map fun k => (L + 2 * k, L + 2 * k + 1)) rest := by
    intro done rest
    induction rest generalizing done with
    | nil => intro _; exact .nil
    | cons s rest ih =>
      intro e
      have hs : ss[done.length]? = some s := by rw [e]; simp
      obtain ⟨g1, g2⟩ := cps_get hs
      have hlt : done.length < ss.length := (List.getElem?_eq_some_iff.mp hs).1
      have hc := cps_len ss
      have ih2 := ih (done ++ [s]) (by rw [e]; simp)
      have e2 : (List.range (s :: rest).length).map (· + done.length) = done.length :: (List.range rest.length).map (· + (done ++ [s]).length) := by
        rw [List.length_cons, List.range_succ_eq_map, List.map_cons, List.map_map]
        congr 1
        · omega
        · refine List.map_congr_left fun k _ => ?_
          simp; omega
      rw [e2, List.map_cons]
      refine .cons ⟨?_, ?_⟩ ih2
      · show (S ++ _)[L + 2 * done.length]? = _
        rw [List.getElem?_append_right (by omega), List.getElem?_append_left (by omega), ← hL, Nat.add_sub_cancel_left]; exact g1
      · show (S ++ _)[L + 2 * done.length + 1]? = _
        rw [List.getElem?_append_right (by omega), List.getElem?_append_left (by omega), ← hL]
        rw [show S.length + 2 * done.length + 1 - S.length = 2 * done.length + 1 by omega]; exact g2
  have := go [] ss rfl
  simpa [emp] using this
theorem wVar_at {i : Nat} {env : PL.Env} {S : Sto} {K : K1} {KX : KX} {d : D} (h : env[i]? = some (some d)) (k : K d S) : wVar i env S K KX := by
  unfold wVar; rw [h]; exact k
abbrev weCopy (a b : Nat) : WE := wTup (wCons (wCall pList (wCons (wVar a) wNil)) (wCons (wCall pList (wCons (wVar b) wNil)) wNil))
def SeenSc (S : Sto) (d : D) (s : Scope) : Prop := ∃ x y, tpD d = some [x, y] ∧ ∀ T, sqD (S ++ T) x = some (s.1.map fun x => .z (eStep x)) ∧ sqD (S ++ T) y = some (s.2.map fun x => .z (eTell x))
theorem ScIn.seen {S : Sto} {p : Nat × Nat} {s : Scope} (h : ScIn S p s) : SeenSc S (scD p) s := ⟨_, _, rfl, fun T => ⟨sqD_at (sto_app h.a), sqD_at (sto_app h.b)⟩⟩
theorem bzs_steps (s : List Step) : (s.map eStep).map bz = s.map fun x => .z (eStep x) := by rw [List.map_map]; rfl
theorem bzs_tells (s : List Tell) : (s.map eTell).map bz = s.map fun x => .z (eTell x) := by rw [List.map_map]; rfl
theorem bz_scope (s : Scope) : bz (eScope s) = .b (eScope s) := by
  unfold bz
  rw [if_neg]
  simp [eScope, flatT, flatTs]
theorem seen_b {S : Sto} (s : Scope) : SeenSc S (bz (eScope s)) s := by
  rw [bz_scope]
  refine ⟨.b (.list (s.1.map eStep)), .b (.list (s.2.map eTell)), ?_, fun T => ⟨?_, ?_⟩⟩
  · show some ([PyData.list _, PyData.list _].map bz) = _
    rw [List.map_cons, List.map_cons, bz_list, bz_list]; rfl
  · show some ((s.1.map eStep).map bz) = _
    rw [bzs_steps]
  · show some ((s.2.map eTell).map bz) = _
    rw [bzs_tells]
theorem pLc_copy {src : Src} {ss : List Scope} {a b : Nat} {env : PL.Env} {fin : Sto → Prop} {S : Sto} (hz : ss.length < 1000000) (hlen : src.items.length = ss.length) (hok : ∀ acc T, src.ok (S ++ (.lst acc :: T)))
    (hit : ∀ (i : Nat) (d : D) (s : Scope), src.items[i]? = some d → ss[i]? = some s → SeenSc S d s) (ha : ∀ x y, ((env.set a (some x)).set b (some y))[a]? = some (some x)) (hb : ∀ x y, ((env.set a (some x)).set b (some y))[b]? = some (some y))
    (hf : fin (S ++ .lst ((emp (S.length + 1) ss.length).map scD) :: cps ss)) : pLc src (tgT [a, b]) wYes (weCopy a b) S.length env fin src.items (S ++ [.lst []]) := by
  refine pLc_each (fun j S' => j ≤ ss.length ∧ S' = S ++ .lst ((emp (S.length + 1) j).map scD) :: cps (ss.take j)) ⟨Nat.zero_le _, rfl⟩ ?_ ?_ ?_
  · rintro j _ _ ⟨_, rfl⟩
    exact hok _ _
  · rintro j d _ Q hj ⟨_, rfl⟩ hQ
    have hlt : j < ss.length := by rw [← hlen]; exact (List.getElem?_eq_some_iff.mp hj).1
    have hs := List.getElem?_eq_getElem hlt
    obtain ⟨x, y, htp, hxy⟩ := hit j d _ hj hs
    have htl : (ss.take j).length = j := by rw [List.length_take]; omega
    have hcl := cps_len (ss.take j)
    rw [htl] at hcl
    generalize ss[j] = s at hs hxy
    refine pGet.mk (x := (env.set a (some x)).set b (some y)) (by unfold tgT; rw [htp]; rfl) ?_
    refine pIf.tt rfl ?_
    have e3 : (S ++ Ob.lst ((emp (S.length + 1) j).map scD) :: cps (ss.take j)).length = S.length + 1 + 2 * j := by rw [List.length_append, List.length_cons, hcl]; omega
    have hx := (hxy (Ob.lst ((emp (S.length + 1) j).map scD) :: cps (ss.take j))).1
    have hy := (hxy (Ob.lst ((emp (S.length + 1) j).map scD) :: (cps (ss.take j) ++ [.lst (s.1.map fun x => .z (eStep x))]))).2
    dsimp only [weCopy, wTup, wCons, wCall, wNil, pList]
    refine wVar_at (ha _ _) ?_
    refine pGet.mk hx ?_
    try dsimp only
    refine wVar_at (hb _ _) ?_
    rw [List.append_assoc]
    refine pGet.mk hy ?_
    refine pReq.mk (sz_le rfl) ?_
    refine pGet.mk (x := (emp (S.length + 1) j).map scD) ?_ (pReq.mk ?_ ?_)
    · rw [List.append_assoc]
      exact lsR_at (List.getElem?_append_right (Nat.le_refl _) |>.trans (by rw [Nat.sub_self]; rfl))
    · rw [List.length_map, emp_len]
      exact sz_lt6 (by omega)
    · refine hQ _ ⟨hlt, ?_⟩
      rw [List.append_assoc, List.set_append_right _ _ (Nat.le_refl _), Nat.sub_self]
      have e1 : emp (S.length + 1) (j + 1) = emp (S.length + 1) j ++ [(S.length + 1 + 2 * j, S.length + 1 + 2 * j + 1)] := by
        unfold emp; rw [range_snoc]
      have e2 : cps (ss.take (j + 1)) = cps (ss.take j) ++ [.lst (s.1.map fun x => .z (eStep x)), .lst (s.2.map fun x => .z (eTell x))] := by
        rw [List.take_add_one, hs, cps_app]; rfl
      rw [e1, e2, List.map_append]
      have e4 : (S ++ (Ob.lst ((emp (S.length + 1) j).map scD) :: cps (ss.take j) ++ [Ob.lst (s.1.map fun x => .z (eStep x))])).length = S.length + 1 + 2 * j + 1 := by
        rw [← List.append_assoc, List.length_append, e3]; rfl
      show S ++ (Ob.lst (_ ++ [D.t [.r _, .r _]]) :: _) = _
      rw [e3, e4]
      generalize cps (ss.take j) = C
      have e5 : ∀ A B : Ob, (C ++ [A]) ++ [B] = C ++ [A, B] := fun A B => by rw [List.append_assoc]; rfl
      exact congrArg (fun Z => S ++ Ob.lst _ :: Z) (e5 _ _)
  · rintro S' ⟨_, rfl⟩
    rw [hlen, List.take_length]
    exact hf
end ND

set_option Elab.async false
set_option linter.all false
set_option maxRecDepth 100000
namespace NE
open PySem L2 PL

structure XStep where
  lab : Str
  kind : Str
  num : Int
structure XTell where
  lab : Str
  name : Str
  kind : Str
  num : Int
structure XThing where
  kind : Str
  num : Int
structure XQuest where
  scope : Int
  state : Int
  path : List Str
abbrev XScope := List XStep × List XTell
structure XNet where
  scopes : List XScope
  things : List XThing
  quests : List XQuest
def eS (s : XStep) : PyData := .tuple [.str s.lab, .str s.kind, .int s.num]
def eL (s : XTell) : PyData := .tuple [.str s.lab, .str s.name, .str s.kind, .int s.num]
def eT (s : XThing) : PyData := .tuple [.str s.kind, .int s.num]
def eQ (q : XQuest) : PyData := .tuple [.int q.scope, .int q.state, .tuple (q.path.map .str)]
def eSc (s : XScope) : PyData := .tuple [.list (s.1.map eS), .list (s.2.map eL)]
def eN (n : XNet) : PyData := .tuple [.list (n.scopes.map eSc), .list (n.things.map eT), .list (n.quests.map eQ)]
theorem flat_strs : ∀ xs : List Str, flatTs (xs.map .str) = true
  | [] => rfl
  | x :: xs => by simp [flatTs, flatT, flat_strs xs]
theorem bzS (s : XStep) : bz (eS s) = .z (eS s) := rfl
theorem bzL (s : XTell) : bz (eL s) = .z (eL s) := rfl
theorem bzT (s : XThing) : bz (eT s) = .z (eT s) := rfl
theorem bzQ (q : XQuest) : bz (eQ q) = .z (eQ q) := bz_flat (by simp [eQ, flatT, flatTs, flat_strs])
theorem bzSc (s : XScope) : bz (eSc s) = .b (eSc s) := by
  unfold bz
  rw [if_neg]
  simp [eSc, flatT, flatTs]
theorem bzN (n : XNet) : bz (eN n) = .b (eN n) := by
  unfold bz
  rw [if_neg]
  simp [eN, flatT, flatTs]
abbrev zS (s : XStep) : D := .z (eS s)
abbrev zL (s : XTell) : D := .z (eL s)
abbrev zT (s : XThing) : D := .z (eT s)
abbrev zQ (s : XQuest) : D := .z (eQ s)
theorem bzsS (s : List XStep) : (s.map eS).map bz = s.map zS := by rw [List.map_map]; rfl
theorem bzsL (s : List XTell) : (s.map eL).map bz = s.map zL := by rw [List.map_map]; rfl
theorem bzsT (s : List XThing) : (s.map eT).map bz = s.map zT := by rw [List.map_map]; rfl
theorem bzsQ (s : List XQuest) : (s.map eQ).map bz = s.map zQ := by
  rw [List.map_map]; exact List.map_congr_left fun q _ => bzQ q
def scD (p : Nat × Nat) : D := .t [.r p.1, .r p.2]
def plcs (ps : List (Nat × Nat)) : List Nat := ps.flatMap fun p => [p.1, p.2]
structure ScIn (S : Sto) (p : Nat × Nat) (s : XScope) : Prop where
  a : S[p.1]? = some (.lst (s.1.map zS))
  b : S[p.2]? = some (.lst (s.2.map zL))
theorem ScIn.vw {S : Sto} {p : Nat × Nat} {s : XScope} (h : ScIn S p s) : Vw S (scD p) (eSc s) := .t (.cons (.r h.a (Vws.map _ _)) (.cons (.r h.b (Vws.map _ _)) .nil))
theorem ScIn.lt1 {S : Sto} {p : Nat × Nat} {s : XScope} (h : ScIn S p s) : p.1 < S.length := (List.getElem?_eq_some_iff.mp h.a).1
theorem ScIn.lt2 {S : Sto} {p : Nat × Nat} {s : XScope} (h : ScIn S p s) : p.2 < S.length := (List.getElem?_eq_some_iff.mp h.b).1
inductive ScsIn (S : Sto) : List (Nat × Nat) → List XScope → Prop
  | nil : ScsIn S [] []
  | cons {p : Nat × Nat} {s : XScope} {ps : List (Nat × Nat)} {ss : List XScope} : ScIn S p s → ScsIn S ps ss → ScsIn S (p :: ps) (s :: ss)
section
variable {S : Sto} {n : Nat} {o : Ob}
theorem ScsIn.vws : ∀ {ps : List (Nat × Nat)} {ss : List XScope}, ScsIn S ps ss → Vws S (ps.map scD) (ss.map eSc)
  | [], _, h => by cases h; exact .nil
  | p :: ps, _, h => by cases h with | cons a b => exact .cons a.vw b.vws
theorem ScsIn.len : ∀ {ps : List (Nat × Nat)} {ss : List XScope}, ScsIn S ps ss → ps.length = ss.length
  | [], _, h => by cases h; rfl
  | p :: ps, _, h => by cases h with | cons a b => simp [ScsIn.len b]
theorem ScsIn.get : ∀ {ps : List (Nat × Nat)} {ss : List XScope} {i : Nat} {p : Nat × Nat}, ScsIn S ps ss → ps[i]? = some p → ∃ s, ss[i]? = some s ∧ ScIn S p s
  | [], _, _, _, h, e => by simp at e
  | p :: ps, _, 0, _, h, e => by cases h with | cons a b => simp at e; subst e; exact ⟨_, rfl, a⟩
  | p :: ps, _, i + 1, q, h, e => by
    cases h with
    | cons a b =>
      obtain ⟨s, h1, h2⟩ := ScsIn.get (i := i) (p := q) b (by simpa using e)
      exact ⟨s, by simpa using h1, h2⟩
theorem ScsIn.at {ps : List (Nat × Nat)} {ss : List XScope} {i : Nat} (h : ScsIn S ps ss) (hi : i < ss.length) : ∃ p s, ps[i]? = some p ∧ ss[i]? = some s ∧ ScIn S p s := by
  have hp : ps[i]? = some (ps[i]'(by rw [h.len]; exact hi)) := List.getElem?_eq_getElem _
  obtain ⟨s, h1, h2⟩ := h.get hp
  exact ⟨_, s, hp, h1, h2⟩
theorem ScsIn.lt : ∀ {ps : List (Nat × Nat)} {ss : List XScope}, ScsIn S ps ss → ∀ m ∈ plcs ps, m < S.length
  | [], _, _, m, hm => by cases hm
  | p :: ps, _, h, m, hm => by
    cases h with
    | cons a b =>
      have hm : m ∈ p.1 :: p.2 :: plcs ps := hm
      rcases List.mem_cons.mp hm with rfl | hm
      · exact a.lt1
      · rcases List.mem_cons.mp hm with rfl | hm
        · exact a.lt2
        · exact b.lt m hm
theorem ScsIn.sub {S' : Sto} : ∀ {ps : List (Nat × Nat)} {ss : List XScope}, ScsIn S ps ss → (∀ m ∈ plcs ps, ∀ o, S[m]? = some o → S'[m]? = some o) → ScsIn S' ps ss
  | [], _, h, _ => by cases h; exact .nil
  | p :: ps, _, h, k => by
    cases h with
    | cons a b =>
      have hm : ∀ m ∈ plcs ps, m ∈ plcs (p :: ps) := fun m hm => List.mem_cons_of_mem _ (List.mem_cons_of_mem _ hm)
      exact .cons ⟨k _ List.mem_cons_self _ a.a, k _ (List.mem_cons_of_mem _ List.mem_cons_self) _ a.b⟩ (ScsIn.sub b fun m h => k m (hm m h))
theorem ScsIn.app {T : Sto} {ps : List (Nat × Nat)} {ss : List XScope} (h : ScsIn S ps ss) : ScsIn (S ++ T) ps ss := h.sub fun _ _ _ => sto_app
theorem ScsIn.keep {ps : List (Nat × Nat)} {ss : List XScope} (h : ScsIn S ps ss) (hn : n ∉ plcs ps) : ScsIn (S.set n o) ps ss := h.sub fun m hm o e => by
  rw [List.getElem?_set_ne (fun z : n = m => hn (by rw [z]; exact hm))]; exact e
theorem ScsIn.snoc : ∀ {ps : List (Nat × Nat)} {ss : List XScope} {p : Nat × Nat} {s : XScope}, ScsIn S ps ss → ScIn S p s → ScsIn S (ps ++ [p]) (ss ++ [s])
  | [], _, _, _, h, k => by cases h; exact .cons k .nil
  | p :: ps, _, _, _, h, k => by cases h with | cons a b => exact .cons a (ScsIn.snoc b k)
theorem mem_plcs {ps : List (Nat × Nat)} {p : Nat × Nat} (h : p ∈ ps) : p.1 ∈ plcs ps ∧ p.2 ∈ plcs ps := ⟨List.mem_flatMap.mpr ⟨p, h, by simp⟩, List.mem_flatMap.mpr ⟨p, h, by simp⟩⟩
theorem ScsIn.put1 {xs : List XStep} : ∀ {ps : List (Nat × Nat)} {ss : List XScope} {i : Nat} {p : Nat × Nat} {s : XScope}, ScsIn S ps ss → (plcs ps).Nodup → ps[i]? = some p → ss[i]? = some s → ScsIn (S.set p.1 (.lst (xs.map zS))) ps (ss.set i (xs, s.2))
  | [], _, _, _, _, h, _, e, _ => by simp at e
  | p :: ps, _, 0, q, s, h, nd, e, e2 => by
    cases h with
    | cons a b =>
      simp at e e2
      subst e; subst e2
      have nd2 : (p.1 :: p.2 :: plcs ps).Nodup := nd
      have h12 : p.1 ≠ p.2 := fun z => by rw [z] at nd2; simp at nd2
      have h3 : p.1 ∉ plcs ps := fun z => (List.nodup_cons.mp nd2).1 (List.mem_cons_of_mem _ z)
      exact .cons ⟨by rw [List.getElem?_set_self a.lt1], by rw [List.getElem?_set_ne h12]; exact a.b⟩ (b.keep h3)
  | p :: ps, _, i + 1, q, s, h, nd, e, e2 => by
    cases h with
    | cons a b =>
      have nd2 : (p.1 :: p.2 :: plcs ps).Nodup := nd
      have hq1 := (mem_plcs (List.mem_of_getElem? (i := i) (show ps[i]? = some q by simpa using e))).1
      have h1 := (List.nodup_cons.mp nd2).1
      have h2 := (List.nodup_cons.mp (List.nodup_cons.mp nd2).2).1
      have n1 : q.1 ≠ p.1 := fun z => h1 (by rw [← z]; exact List.mem_cons_of_mem _ hq1)
      have n2 : q.1 ≠ p.2 := fun z => h2 (by rw [← z]; exact hq1)
      exact .cons ⟨by rw [List.getElem?_set_ne n1]; exact a.a, by rw [List.getElem?_set_ne n2]; exact a.b⟩ (ScsIn.put1 b (List.nodup_cons.mp (List.nodup_cons.mp nd2).2).2 (by simpa using e) (by simpa using e2))
theorem ScsIn.put2 {xs : List XTell} : ∀ {ps : List (Nat × Nat)} {ss : List XScope} {i : Nat} {p : Nat × Nat} {s : XScope}, ScsIn S ps ss → (plcs ps).Nodup → ps[i]? = some p → ss[i]? = some s → ScsIn (S.set p.2 (.lst (xs.map zL))) ps (ss.set i (s.1, xs))
  | [], _, _, _, _, h, _, e, _ => by simp at e
  | p :: ps, _, 0, q, s, h, nd, e, e2 => by
    cases h with
    | cons a b =>
      simp at e e2
      subst e; subst e2
      have nd2 : (p.1 :: p.2 :: plcs ps).Nodup := nd
      have h12 : p.2 ≠ p.1 := fun z => by rw [z] at nd2; simp at nd2
      have h3 : p.2 ∉ plcs ps := (List.nodup_cons.mp (List.nodup_cons.mp nd2).2).1
      exact .cons ⟨by rw [List.getElem?_set_ne h12]; exact a.a, by rw [List.getElem?_set_self a.lt2]⟩ (b.keep h3)
  | p :: ps, _, i + 1, q, s, h, nd, e, e2 => by
    cases h with
    | cons a b =>
      have nd2 : (p.1 :: p.2 :: plcs ps).Nodup := nd
      have hq1 := (mem_plcs (List.mem_of_getElem? (i := i) (show ps[i]? = some q by simpa using e))).2
      have h1 := (List.nodup_cons.mp nd2).1
      have h2 := (List.nodup_cons.mp (List.nodup_cons.mp nd2).2).1
      have n1 : q.2 ≠ p.1 := fun z => h1 (by rw [← z]; exact List.mem_cons_of_mem _ hq1)
      have n2 : q.2 ≠ p.2 := fun z => h2 (by rw [← z]; exact hq1)
      exact .cons ⟨by rw [List.getElem?_set_ne n1]; exact a.a, by rw [List.getElem?_set_ne n2]; exact a.b⟩ (ScsIn.put2 b (List.nodup_cons.mp (List.nodup_cons.mp nd2).2).2 (by simpa using e) (by simpa using e2))
end
structure NetAt (S : Sto) (n0 n1 n2 : Nat) (ps : List (Nat × Nat)) (n : XNet) : Prop where
  l : S[n0]? = some (.lst (ps.map scD))
  i : ScsIn S ps n.scopes
  t : S[n1]? = some (.lst (n.things.map zT))
  q : S[n2]? = some (.lst (n.quests.map zQ))
  nd : (n0 :: n1 :: n2 :: plcs ps).Nodup
section
variable {S : Sto} {n0 n1 n2 : Nat} {ps : List (Nat × Nat)} {n : XNet}
abbrev nPl (n0 n1 n2 : Nat) (ps : List (Nat × Nat)) : List Nat := n0 :: n1 :: n2 :: plcs ps
theorem NetAt.vw (h : NetAt S n0 n1 n2 ps n) : Vw S (.t [.r n0, .r n1, .r n2]) (eN n) := .t (.cons (.r h.l h.i.vws) (.cons (.r h.t (Vws.map _ _)) (.cons (.r h.q (Vws.map _ _)) .nil)))
theorem NetAt.sub {S' : Sto} (h : NetAt S n0 n1 n2 ps n) (k : ∀ m ∈ nPl n0 n1 n2 ps, ∀ o, S[m]? = some o → S'[m]? = some o) : NetAt S' n0 n1 n2 ps n :=
  ⟨k _ (by simp) _ h.l, h.i.sub fun m hm => k m (by simp [hm]), k _ (by simp) _ h.t, k _ (by simp) _ h.q, h.nd⟩
theorem NetAt.app {T : Sto} (h : NetAt S n0 n1 n2 ps n) : NetAt (S ++ T) n0 n1 n2 ps n := h.sub fun _ _ _ => sto_app
theorem NetAt.keep {U : List Nat} {S' : Sto} (h : NetAt S n0 n1 n2 ps n) (k : Keep U S S') (d : ∀ m ∈ U, m ∉ nPl n0 n1 n2 ps) : NetAt S' n0 n1 n2 ps n := h.sub fun m hm o e => k m o (fun z => d m z hm) e
theorem NetAt.lt (h : NetAt S n0 n1 n2 ps n) : ∀ m ∈ nPl n0 n1 n2 ps, m < S.length := fun m hm => by
  rcases List.mem_cons.mp hm with rfl | hm
  · exact (List.getElem?_eq_some_iff.mp h.l).1
  rcases List.mem_cons.mp hm with rfl | hm
  · exact (List.getElem?_eq_some_iff.mp h.t).1
  rcases List.mem_cons.mp hm with rfl | hm
  · exact (List.getElem?_eq_some_iff.mp h.q).1
  · exact h.i.lt m hm
theorem NetAt.nds (h : NetAt S n0 n1 n2 ps n) : n0 ≠ n1 ∧ n0 ≠ n2 ∧ n1 ≠ n2 ∧ n0 ∉ plcs ps ∧ n1 ∉ plcs ps ∧ n2 ∉ plcs ps ∧ (plcs ps).Nodup := by
  have a := List.nodup_cons.mp h.nd
  have b := List.nodup_cons.mp a.2
  have c := List.nodup_cons.mp b.2
  refine ⟨fun z => a.1 (by simp [z]), fun z => a.1 (by simp [z]), fun z => b.1 (by simp [z]), fun z => a.1 (by simp [z]), fun z => b.1 (by simp [z]), c.1, c.2⟩
theorem NetAt.put1 {i : Nat} {p : Nat × Nat} {s : XScope} {xs : List XStep} (h : NetAt S n0 n1 n2 ps n) (e : ps[i]? = some p) (e2 : n.scopes[i]? = some s) : NetAt (S.set p.1 (.lst (xs.map zS))) n0 n1 n2 ps ⟨n.scopes.set i (xs, s.2), n.things, n.quests⟩ := by
  obtain ⟨_, _, _, a, b, c, d⟩ := h.nds
  have hm := (mem_plcs (List.mem_of_getElem? e)).1
  exact ⟨by rw [List.getElem?_set_ne (fun z => a (by rw [← z]; exact hm))]; exact h.l, h.i.put1 d e e2, by rw [List.getElem?_set_ne (fun z => b (by rw [← z]; exact hm))]; exact h.t, by rw [List.getElem?_set_ne (fun z => c (by rw [← z]; exact hm))]; exact h.q, h.nd⟩
theorem NetAt.put2 {i : Nat} {p : Nat × Nat} {s : XScope} {xs : List XTell} (h : NetAt S n0 n1 n2 ps n) (e : ps[i]? = some p) (e2 : n.scopes[i]? = some s) : NetAt (S.set p.2 (.lst (xs.map zL))) n0 n1 n2 ps ⟨n.scopes.set i (s.1, xs), n.things, n.quests⟩ := by
  obtain ⟨_, _, _, a, b, c, d⟩ := h.nds
  have hm := (mem_plcs (List.mem_of_getElem? e)).2
  exact ⟨by rw [List.getElem?_set_ne (fun z => a (by rw [← z]; exact hm))]; exact h.l, h.i.put2 d e e2, by rw [List.getElem?_set_ne (fun z => b (by rw [← z]; exact hm))]; exact h.t, by rw [List.getElem?_set_ne (fun z => c (by rw [← z]; exact hm))]; exact h.q, h.nd⟩
theorem NetAt.putT {xs : List XThing} (h : NetAt S n0 n1 n2 ps n) : NetAt (S.set n1 (.lst (xs.map zT))) n0 n1 n2 ps ⟨n.scopes, xs, n.quests⟩ := by
  obtain ⟨h01, h02, h12, a, b, c, d⟩ := h.nds
  exact ⟨by rw [List.getElem?_set_ne h01.symm]; exact h.l, h.i.keep b, by rw [List.getElem?_set_self (h.lt n1 (by simp))], by rw [List.getElem?_set_ne h12]; exact h.q, h.nd⟩
theorem NetAt.putQ {xs : List XQuest} (h : NetAt S n0 n1 n2 ps n) : NetAt (S.set n2 (.lst (xs.map zQ))) n0 n1 n2 ps ⟨n.scopes, n.things, xs⟩ := by
  obtain ⟨h01, h02, h12, a, b, c, d⟩ := h.nds
  exact ⟨by rw [List.getElem?_set_ne h02.symm]; exact h.l, h.i.keep c, by rw [List.getElem?_set_ne h12.symm]; exact h.t, by rw [List.getElem?_set_self (h.lt n2 (by simp))], h.nd⟩
theorem plcs_app (a b : List (Nat × Nat)) : plcs (a ++ b) = plcs a ++ plcs b := List.flatMap_append
theorem NetAt.more {s : XScope} {T : Sto} (h : NetAt S n0 n1 n2 ps n) : NetAt ((S ++ (.lst (s.1.map zS) :: .lst (s.2.map zL) :: T)).set n0 (.lst ((ps ++ [(S.length, S.length + 1)]).map scD))) n0 n1 n2 (ps ++ [(S.length, S.length + 1)]) ⟨n.scopes ++ [s], n.things, n.quests⟩ := by
  obtain ⟨h01, h02, h12, a, b, c, d⟩ := h.nds
  have hlt := h.lt
  have hn0 : n0 < S.length := hlt n0 (by simp)
  have g : ∀ (m : Nat) (o : Ob), m ≠ n0 → (S ++ (.lst (s.1.map zS) :: .lst (s.2.map zL) :: T))[m]? = some o → ((S ++ (.lst (s.1.map zS) :: .lst (s.2.map zL) :: T)).set n0 (.lst ((ps ++ [(S.length, S.length + 1)]).map scD)))[m]? = some o := fun m o hm e => by
    rw [List.getElem?_set_ne hm.symm]; exact e
  refine ⟨by rw [List.getElem?_set_self (by rw [List.length_append]; omega)], ScsIn.snoc (h.i.sub fun m hm o e => g m o (fun z => a (by rw [← z]; exact hm)) (sto_app e)) ⟨g _ _ (Nat.ne_of_gt hn0) (by simp), g _ _ (Nat.ne_of_gt (Nat.lt_succ_of_lt hn0)) sto_r1⟩, g _ _ h01.symm (sto_app h.t), g _ _ h02.symm (sto_app h.q), ?_⟩
  rw [plcs_app]
  have e : n0 :: n1 :: n2 :: (plcs ps ++ plcs [(S.length, S.length + 1)]) = (n0 :: n1 :: n2 :: plcs ps) ++ [S.length, S.length + 1] := rfl
  rw [e, List.nodup_append]
  refine ⟨h.nd, by simp, fun x hx y hy => ?_⟩
  have := hlt x hx
  simp at hy
  omega
end
end NE

set_option Elab.async false
set_option linter.all false
set_option maxRecDepth 100000
namespace NE
open PySem L2 PL
open ND (cutL_map cutL_len cutL_mem bz_ints LwN isNm alpha alpha_eq alpha_at getA ixD_zA ixD_bA app_list one_len)

def cps (ss : List XScope) : Sto := ss.flatMap fun s => [.lst (s.1.map zS), .lst (s.2.map zL)]
def emp (L n : Nat) : List (Nat × Nat) := (List.range n).map fun k => (L + 2 * k, L + 2 * k + 1)
def noSc : XScope := ([], [])
theorem emp_len (L n : Nat) : (emp L n).length = n := by unfold emp; rw [List.length_map, List.length_range]
theorem emp_snoc (L n : Nat) : emp L (n + 1) = emp L n ++ [(L + 2 * n, L + 2 * n + 1)] := by unfold emp; rw [range_snoc]
theorem cps_app (a b : List XScope) : cps (a ++ b) = cps a ++ cps b := List.flatMap_append
theorem cps_len (ss : List XScope) : (cps ss).length = 2 * ss.length := by
  induction ss with
  | nil => rfl
  | cons s ss ih =>
    show ([_, _] ++ cps ss).length = _
    rw [List.length_append, ih, List.length_cons]
    simp; omega
theorem cps_in {S T : Sto} {L : Nat} (hL : S.length = L) (ss : List XScope) : ScsIn (S ++ (cps ss ++ T)) (emp L ss.length) ss := by
  have go : ∀ (n : Nat) (ss : List XScope), ss.length = n → ∀ T, ScsIn (S ++ (cps ss ++ T)) (emp L ss.length) ss := by
    intro n
    induction n with
    | zero => intro ss h T; cases ss with | nil => exact .nil | cons _ _ => simp at h
    | succ n ih =>
      intro ss h T
      obtain ⟨ini, s, rfl⟩ : ∃ ini s, ss = ini ++ [s] := ⟨ss.dropLast, ss.getLast (by intro e; rw [e] at h; simp at h), (List.dropLast_concat_getLast _).symm⟩
      have hi : ini.length = n := by simp at h; exact h
      have hc := cps_len ini
      rw [List.length_append, List.length_singleton, emp_snoc, cps_app, List.append_assoc]
      refine (ih ini hi (cps [s] ++ T)).snoc ⟨?_, ?_⟩
      · show (S ++ _)[L + 2 * ini.length]? = _
        rw [List.getElem?_append_right (by omega), List.getElem?_append_right (by omega), show L + 2 * ini.length - S.length - (cps ini).length = 0 by omega]; rfl
      · show (S ++ _)[L + 2 * ini.length + 1]? = _
        rw [List.getElem?_append_right (by omega), List.getElem?_append_right (by omega), show L + 2 * ini.length + 1 - S.length - (cps ini).length = 1 by omega]; rfl
  exact go _ ss rfl T
theorem emp_plcs (L n : Nat) : (∀ m ∈ plcs (emp L n), L ≤ m ∧ m < L + 2 * n) ∧ (plcs (emp L n)).Nodup := by
  induction n with
  | zero => exact ⟨fun m h => (by cases h), List.nodup_nil⟩
  | succ n ih =>
    rw [emp_snoc, plcs_app]
    have e : plcs [(L + 2 * n, L + 2 * n + 1)] = [L + 2 * n, L + 2 * n + 1] := rfl
    rw [e]
    refine ⟨fun m hm => ?_, ?_⟩
    · rcases List.mem_append.mp hm with h | h
      · have := ih.1 m h; omega
      · simp at h; omega
    · rw [List.nodup_append]
      refine ⟨ih.2, by simp, fun a ha b hb => ?_⟩
      have := ih.1 a ha
      simp at hb; omega
abbrev weEmp : WE := wTup (wCons (wLst wNil) (wCons (wLst wNil) wNil))
theorem pLc_emp {lo : Int} {n : Nat} {i : Nat} {env : PL.Env} {fin : Sto → Prop} {S : Sto} (hz : n < 1000000) (hf : fin (S ++ .lst ((emp (S.length + 1) n).map scD) :: cps (List.replicate n noSc))) :
    pLc (rgD lo n) (tgN i) wYes weEmp S.length env fin (rgD lo n).items (S ++ [.lst []]) := by
  have hl : (rgD lo n).items.length = n := by simp [rgD]
  refine pLc_each (fun j S' => j ≤ n ∧ S' = S ++ .lst ((emp (S.length + 1) j).map scD) :: cps (List.replicate j noSc)) ⟨Nat.zero_le _, rfl⟩ (fun _ _ _ _ => trivial) ?_ ?_
  · rintro j d _ Q hj ⟨hj2, rfl⟩ hQ
    have hlt : j < n := by rw [← hl]; exact (List.getElem?_eq_some_iff.mp hj).1
    have hcl := cps_len (List.replicate j noSc)
    rw [List.length_replicate] at hcl
    refine pGet.mk rfl ?_
    refine pIf.tt rfl ?_
    refine pReq.mk (sz_le rfl) ?_
    refine pReq.mk (sz_le rfl) ?_
    refine pReq.mk (sz_le rfl) ?_
    refine pGet.mk (x := (emp (S.length + 1) j).map scD) ?_ (pReq.mk ?_ ?_)
    · rw [List.append_assoc, List.append_assoc]
      exact lsR_at (List.getElem?_append_right (Nat.le_refl _) |>.trans (by rw [Nat.sub_self]; rfl))
    · rw [List.length_map, emp_len]
      exact sz_lt6 (by omega)
    · refine hQ _ ⟨hlt, ?_⟩
      rw [List.append_assoc, List.append_assoc, List.set_append_right _ _ (Nat.le_refl _), Nat.sub_self]
      have e2 : cps (List.replicate (j + 1) noSc) = cps (List.replicate j noSc) ++ [.lst [], .lst []] := by
        rw [List.replicate_succ', cps_app]; rfl
      rw [emp_snoc, e2, List.map_append]
      have e3 : (S ++ Ob.lst ((emp (S.length + 1) j).map scD) :: cps (List.replicate j noSc)).length = S.length + 1 + 2 * j := by rw [List.length_append, List.length_cons, hcl]; omega
      have e4 : ((S ++ Ob.lst ((emp (S.length + 1) j).map scD) :: cps (List.replicate j noSc)) ++ [Ob.lst []]).length = S.length + 1 + 2 * j + 1 := by rw [List.length_append, e3]; rfl
      show S ++ (Ob.lst (_ ++ [D.t [.r _, .r _]]) :: _) = _
      rw [e3, e4]
      rfl
  · rintro S' ⟨_, rfl⟩
    rw [hl]
    exact hf
abbrev weCopy (a b : Nat) : WE := wTup (wCons (wCall pList (wCons (wVar a) wNil)) (wCons (wCall pList (wCons (wVar b) wNil)) wNil))
def SeenSc (S : Sto) (d : D) (s : XScope) : Prop := ∃ x y, tpD d = some [x, y] ∧ ∀ T, sqD (S ++ T) x = some (s.1.map zS) ∧ sqD (S ++ T) y = some (s.2.map zL)
theorem ScIn.seen {S : Sto} {p : Nat × Nat} {s : XScope} (h : ScIn S p s) : SeenSc S (scD p) s := ⟨_, _, rfl, fun T => ⟨sqD_at (sto_app h.a), sqD_at (sto_app h.b)⟩⟩
theorem seen_b {S : Sto} (s : XScope) : SeenSc S (bz (eSc s)) s := by
  rw [bzSc]
  refine ⟨.b (.list (s.1.map eS)), .b (.list (s.2.map eL)), ?_, fun T => ⟨?_, ?_⟩⟩
  · show some ([PyData.list _, PyData.list _].map bz) = _
    rw [List.map_cons, List.map_cons, bz_list, bz_list]; rfl
  · show some ((s.1.map eS).map bz) = _
    rw [bzsS]
  · show some ((s.2.map eL).map bz) = _
    rw [bzsL]
theorem wVar_at {i : Nat} {env : PL.Env} {S : Sto} {K : K1} {KX : KX} {d : D} (h : env[i]? = some (some d)) (k : K d S) : wVar i env S K KX := by
  unfold wVar; rw [h]; exact k
theorem pLc_copy {src : Src} {ss : List XScope} {a b : Nat} {env : PL.Env} {fin : Sto → Prop} {S : Sto} (hz : ss.length < 1000000) (hlen : src.items.length = ss.length) (hok : ∀ acc T, src.ok (S ++ (.lst acc :: T)))
    (hit : ∀ (i : Nat) (d : D) (s : XScope), src.items[i]? = some d → ss[i]? = some s → SeenSc S d s) (ha : ∀ x y, ((env.set a (some x)).set b (some y))[a]? = some (some x)) (hb : ∀ x y, ((env.set a (some x)).set b (some y))[b]? = some (some y))
    (hf : fin (S ++ .lst ((emp (S.length + 1) ss.length).map scD) :: cps ss)) : pLc src (tgT [a, b]) wYes (weCopy a b) S.length env fin src.items (S ++ [.lst []]) := by
  refine pLc_each (fun j S' => j ≤ ss.length ∧ S' = S ++ .lst ((emp (S.length + 1) j).map scD) :: cps (ss.take j)) ⟨Nat.zero_le _, rfl⟩ ?_ ?_ ?_
  · rintro j _ _ ⟨_, rfl⟩
    exact hok _ _
  · rintro j d _ Q hj ⟨_, rfl⟩ hQ
    have hlt : j < ss.length := by rw [← hlen]; exact (List.getElem?_eq_some_iff.mp hj).1
    have hs := List.getElem?_eq_getElem hlt
    obtain ⟨x, y, htp, hxy⟩ := hit j d _ hj hs
    have htl : (ss.take j).length = j := by rw [List.length_take]; omega
    have hcl := cps_len (ss.take j)
    rw [htl] at hcl
    generalize ss[j] = s at hs hxy
    refine pGet.mk (x := (env.set a (some x)).set b (some y)) (by unfold tgT; rw [htp]; rfl) ?_
    refine pIf.tt rfl ?_
    have e3 : (S ++ Ob.lst ((emp (S.length + 1) j).map scD) :: cps (ss.take j)).length = S.length + 1 + 2 * j := by rw [List.length_append, List.length_cons, hcl]; omega
    have hx := (hxy (Ob.lst ((emp (S.length + 1) j).map scD) :: cps (ss.take j))).1
    have hy := (hxy (Ob.lst ((emp (S.length + 1) j).map scD) :: (cps (ss.take j) ++ [.lst (s.1.map zS)]))).2
    dsimp only [weCopy, wTup, wCons, wCall, wNil, pList]
    refine wVar_at (ha _ _) ?_
    refine pGet.mk hx ?_
    try dsimp only
    refine wVar_at (hb _ _) ?_
    rw [List.append_assoc]
    refine pGet.mk hy ?_
    refine pReq.mk (sz_le rfl) ?_
    refine pGet.mk (x := (emp (S.length + 1) j).map scD) ?_ (pReq.mk ?_ ?_)
    · rw [List.append_assoc]
      exact lsR_at (List.getElem?_append_right (Nat.le_refl _) |>.trans (by rw [Nat.sub_self]; rfl))
    · rw [List.length_map, emp_len]
      exact sz_lt6 (by omega)
    · refine hQ _ ⟨hlt, ?_⟩
      rw [List.append_assoc, List.set_append_right _ _ (Nat.le_refl _), Nat.sub_self]
      have e2 : cps (ss.take (j + 1)) = cps (ss.take j) ++ [.lst (s.1.map zS), .lst (s.2.map zL)] := by
        rw [List.take_add_one, hs, cps_app]; rfl
      rw [emp_snoc, e2, List.map_append]
      have e4 : (S ++ (Ob.lst ((emp (S.length + 1) j).map scD) :: cps (ss.take j) ++ [Ob.lst (s.1.map zS)])).length = S.length + 1 + 2 * j + 1 := by
        rw [← List.append_assoc, List.length_append, e3]; rfl
      show S ++ (Ob.lst (_ ++ [D.t [.r _, .r _]]) :: _) = _
      rw [e3, e4]
      generalize cps (ss.take j) = C
      have e5 : ∀ A B : Ob, (C ++ [A]) ++ [B] = C ++ [A, B] := fun A B => by rw [List.append_assoc]; rfl
      exact congrArg (fun Z => S ++ Ob.lst _ :: Z) (e5 _ _)
  · rintro S' ⟨_, rfl⟩
    rw [hlen, List.take_length]
    exact hf
def rSc (s : XScope) : RT := .t [lz eS s.1, lz eL s.2]
def rN (n : XNet) : RT := .t [.l (n.scopes.map rSc), lz eT n.things, lz eQ n.quests]
theorem al_sc (s : XScope) (n : Nat) : al (rSc s) n = (scD (n, n + 1), [.lst (s.1.map zS), .lst (s.2.map zL)]) := by
  unfold rSc al
  simp only [als, al_lz]
  rfl
theorem als_scs : ∀ (ss : List XScope) (n : Nat), als (ss.map rSc) n = ((emp n ss.length).map scD, cps ss)
  | [], n => by unfold als; rfl
  | s :: ss, n => by
    rw [List.map_cons]
    unfold als
    rw [al_sc, als_scs ss]
    have e : emp n (s :: ss).length = (n, n + 1) :: emp (n + 2) ss.length := by
      unfold emp
      rw [List.length_cons, List.range_succ_eq_map, List.map_cons, List.map_map]
      congr 1
      refine List.map_congr_left fun k _ => ?_
      simp; omega
    rw [e]
    rfl
theorem al_net (n : XNet) (L : Nat) : al (rN n) L = (.t [.r (L + 2 * n.scopes.length), .r (L + 2 * n.scopes.length + 1), .r (L + 2 * n.scopes.length + 2)],
    cps n.scopes ++ [.lst ((emp L n.scopes.length).map scD), .lst (n.things.map zT), .lst (n.quests.map zQ)]) := by
  unfold rN al
  simp only [als, al, als_scs, al_lz, cps_len, List.length_append, List.length_cons, List.length_nil, List.append_nil, List.append_assoc]
  rfl
theorem al_at (S : Sto) (n : XNet) : NetAt (S ++ (al (rN n) S.length).2) (S.length + 2 * n.scopes.length) (S.length + 2 * n.scopes.length + 1) (S.length + 2 * n.scopes.length + 2) (emp S.length n.scopes.length) n := by
  rw [al_net]
  have hc := cps_len n.scopes
  have hl : (S ++ cps n.scopes).length = S.length + 2 * n.scopes.length := by rw [List.length_append, hc]
  have hp := emp_plcs S.length n.scopes.length
  refine ⟨?_, cps_in rfl _, ?_, ?_, ?_⟩
  · rw [← List.append_assoc, ← hl]; simp
  · rw [← List.append_assoc, ← hl]; exact sto_r1
  · rw [← List.append_assoc, ← hl]; exact sto_r2
  · have h1 : ∀ m, S.length + 2 * n.scopes.length ≤ m → m ∉ plcs (emp S.length n.scopes.length) := fun m hm z => by have := hp.1 m z; omega
    refine List.nodup_cons.mpr ⟨?_, List.nodup_cons.mpr ⟨?_, List.nodup_cons.mpr ⟨h1 _ (by omega), hp.2⟩⟩⟩
    · simp only [List.mem_cons, not_or]
      exact ⟨by omega, by omega, h1 _ (by omega)⟩
    · simp only [List.mem_cons, not_or]
      exact ⟨by omega, h1 _ (by omega)⟩
theorem VRs.scs {S : Sto} {U : List Nat} : ∀ {ps : List (Nat × Nat)} {ss : List XScope}, ScsIn S ps ss → VRs S U (ps.map scD) (ss.map rSc) (plcs ps)
  | [], _, h => by cases h; exact .nil
  | p :: ps, _, h => by
    cases h with
    | cons a b =>
      refine .cons (ns := [p.1, p.2]) (.t ?_) (VRs.scs b)
      exact .cons (ns := [p.1]) (.l (ns := []) a.a (VRs.zs _ _)) (.cons (ns := [p.2]) (ms := []) (.l (ns := []) a.b (VRs.zs _ _)) .nil)
theorem NetAt.vr {S : Sto} {n0 n1 n2 : Nat} {ps : List (Nat × Nat)} {n : XNet} (h : NetAt S n0 n1 n2 ps n) : ∃ U, VR S U (.t [.r n0, .r n1, .r n2]) (rN n) U ∧ U.Nodup := by
  refine ⟨(plcs ps ++ [n0]) ++ ([n1] ++ ([n2] ++ [])), .t (.cons (.l h.l (VRs.scs h.i)) (.cons (.l (ns := []) h.t (VRs.zs _ _)) (.cons (.l (ns := []) h.q (VRs.zs _ _)) .nil))), ?_⟩
  have := h.nd
  have e : (n0 :: n1 :: n2 :: plcs ps) = [n0, n1, n2] ++ plcs ps := rfl
  rw [e] at this
  have p : ((plcs ps ++ [n0]) ++ ([n1] ++ ([n2] ++ []))).Perm ([n0, n1, n2] ++ plcs ps) := by
    rw [List.append_assoc]
    exact List.perm_append_comm
  exact p.nodup_iff.mpr this
def strOks (n : XNet) : Prop := (∀ s ∈ n.scopes, (∀ x ∈ s.1, PyData.strOk x.lab = true ∧ PyData.strOk x.kind = true) ∧ ∀ x ∈ s.2, PyData.strOk x.lab = true ∧ PyData.strOk x.name = true ∧ PyData.strOk x.kind = true) ∧ (∀ t ∈ n.things, PyData.strOk t.kind = true) ∧ ∀ q ∈ n.quests, ∀ x ∈ q.path, PyData.strOk x = true
theorem shSc {s : XScope} (h : (∀ x ∈ s.1, PyData.strOk x.lab = true ∧ PyData.strOk x.kind = true) ∧ ∀ x ∈ s.2, PyData.strOk x.lab = true ∧ PyData.strOk x.name = true ∧ PyData.strOk x.kind = true) : Shp 3 (eSc s) :=
  .tup2 (.lists fun x hx => .tup3 (.str (h.1 x hx).1) (.str (h.1 x hx).2) .int) (.lists fun x hx => .tup4 (.str (h.2 x hx).1) (.str (h.2 x hx).2.1) (.str (h.2 x hx).2.2) .int)
theorem shN {n : XNet} (h : strOks n) : Shp 5 (eN n) := .tup3 (.lists fun s hs => shSc (h.1 s hs)) (.mono (.lists fun t ht => .tup2 (n := 0) (.str (h.2.1 t ht)) .int) (by decide))
  (.mono (.lists fun q hq => .tup3 (n := 1) .int .int (.tuple fun d hd => by
    obtain ⟨x, hx, rfl⟩ := List.mem_map.mp hd
    exact .str (h.2.2 q hq x hx))) (by decide))
end NE

set_option Elab.async false
set_option linter.all false
set_option maxRecDepth 100000
namespace PL
open PySem L2
mutual
theorem Vz.of_z {S' : Sto} : ∀ (e : PyData) (d : D), Vz [] d e → Vz S' d e
  | .none, _, h => by cases h; exact .z
  | .bool _, _, h => by cases h; exact .z
  | .int _, _, h => by cases h; exact .z
  | .str _, _, h => by cases h; exact .z
  | .dict _, _, h => by cases h; exact .z
  | .list es, _, h => by
    cases h with
    | z => exact .z
    | r e ws => simp at e
  | .tuple es, _, h => by
    cases h with
    | z => exact .z
    | t ws => exact .t (Vzs.of_z0 es _ ws)
theorem Vzs.of_z0 {S' : Sto} : ∀ (es : List PyData) (ds : List D), Vzs [] ds es → Vzs S' ds es
  | [], _, h => by cases h; exact .nil
  | e :: es, _, h => by cases h with | cons a b => exact .cons (Vz.of_z e _ a) (Vzs.of_z0 es _ b)
end
theorem Vzs.of_z {S' : Sto} {es : List PyData} {ds : List D} (h : Vzs [] ds es) : Vzs S' ds es := Vzs.of_z0 es ds h
end PL
namespace NE
open PySem L2 PL
abbrev lSc (n : XNet) : PyData := .list (n.scopes.map eSc)
abbrev lTh (n : XNet) : PyData := .list (n.things.map eT)
abbrev lQu (n : XNet) : PyData := .list (n.quests.map eQ)
theorem bz_scs (n : XNet) : (n.scopes.map eSc).map bz = n.scopes.map fun s => bz (eSc s) := List.map_map
theorem args3 {S : Sto} {a b c : Nat} {ps : List (Nat × Nat)} {n : XNet} (h : NetAt S a b c ps n) : Vws S [.r a, .r b, .r c] [lSc n, lTh n, lQu n] := .cons (.r h.l h.i.vws) (.cons (.r h.t (Vws.map _ _)) (.cons (.r h.q (Vws.map _ _)) .nil))
theorem NetAt.all {S S' : Sto} {a b c : Nat} {ps : List (Nat × Nat)} {n : XNet} (h : NetAt S a b c ps n) (k : Keep [] S S') : NetAt S' a b c ps n := h.keep k fun m hm => by cases hm
theorem copied (n : XNet) {K : K1} (hk : ∀ d S' U, VR S' U d (rN n) U → U.Nodup → K d S') : K (.t [.r 0, .r (List.length (Ob.lst ((emp 1 n.scopes.length).map scD) :: cps n.scopes)), .r (List.length (Ob.lst ((emp 1 n.scopes.length).map scD) :: cps n.scopes ++ [Ob.lst (n.things.map zT)]))]) (Ob.lst ((emp 1 n.scopes.length).map scD) :: cps n.scopes ++ [Ob.lst (n.things.map zT)] ++ [Ob.lst (n.quests.map zQ)]) := by
  have h3 := cps_len n.scopes
  have hp := emp_plcs 1 n.scopes.length
  have hA : NetAt ([Ob.lst ((emp 1 n.scopes.length).map scD)] ++ cps n.scopes ++ [Ob.lst (n.things.map zT)] ++ [Ob.lst (n.quests.map zQ)]) 0 (1 + 2 * n.scopes.length) (1 + 2 * n.scopes.length + 1) (emp 1 n.scopes.length) n := by
    have hl : ([Ob.lst ((emp 1 n.scopes.length).map scD)] ++ cps n.scopes).length = 1 + 2 * n.scopes.length := by simp [h3]; omega
    have h1 : ∀ m, 1 + 2 * n.scopes.length ≤ m → m ∉ plcs (emp 1 n.scopes.length) := fun m hm z => by have := hp.1 m z; omega
    refine ⟨rfl, ?_, ?_, ?_, ?_⟩
    · have := cps_in (S := [Ob.lst ((emp 1 n.scopes.length).map scD)]) (T := [Ob.lst (n.things.map zT), Ob.lst (n.quests.map zQ)]) (L := 1) rfl n.scopes
      rw [← List.append_assoc] at this
      rw [List.append_assoc]
      exact this
    · rw [← hl]; exact sto_app sto_last
    · rw [← hl, List.append_assoc]; exact sto_r1
    · refine List.nodup_cons.mpr ⟨?_, List.nodup_cons.mpr ⟨?_, List.nodup_cons.mpr ⟨h1 _ (by omega), hp.2⟩⟩⟩
      · simp only [List.mem_cons, not_or]
        exact ⟨by omega, by omega, fun z => by have := hp.1 0 z; omega⟩
      · simp only [List.mem_cons, not_or]
        exact ⟨by omega, h1 _ (by omega)⟩
  obtain ⟨U, hv, hu⟩ := hA.vr
  have e1 : (Ob.lst ((emp 1 n.scopes.length).map scD) :: cps n.scopes).length = 1 + 2 * n.scopes.length := by rw [List.length_cons, h3]; omega
  have e2 : (Ob.lst ((emp 1 n.scopes.length).map scD) :: cps n.scopes ++ [Ob.lst (n.things.map zT)]).length = 1 + 2 * n.scopes.length + 1 := by rw [List.length_append, e1]; rfl
  rw [e1, e2]
  exact hk _ _ U hv hu
end NE

set_option Elab.async false
set_option linter.all false
set_option maxRecDepth 100000
namespace OR
open PySem

abbrev Pr := Str × Str
inductive Reach (ps : List Pr) : Str → Str → Prop
  | one {a b : Str} : (a, b) ∈ ps → Reach ps a b
  | step {a b c : Str} : Reach ps a b → (b, c) ∈ ps → Reach ps a c
section
variable {ps : List Pr}
theorem Reach.trans {a b c : Str} (h : Reach ps a b) (k : Reach ps b c) : Reach ps a c := by
  induction k with
  | one h1 => exact .step h h1
  | step _ h2 ih => exact .step ih h2
theorem Reach.head {a b c : Str} (h : (a, b) ∈ ps) (k : Reach ps b c) : Reach ps a c := (Reach.one h).trans k
theorem Reach.fst {a b : Str} (h : Reach ps a b) : ∃ c, (a, c) ∈ ps := by
  induction h with
  | one h => exact ⟨_, h⟩
  | step _ _ ih => exact ih
theorem Reach.snd {a b : Str} (h : Reach ps a b) : ∃ c, (c, b) ∈ ps := by
  cases h with
  | one h => exact ⟨_, h⟩
  | step _ h => exact ⟨_, h⟩
def addN (f : List Str) (w : Str) : List Str := if w ∈ f then f else f ++ [w]
def nextsL (ps : List Pr) (l : Str) : List Str := ps.foldl (fun f p => if p.1 = l then addN f p.2 else f) []
theorem nexts_snoc (ps : List Pr) (p : Pr) (l : Str) : nextsL (ps ++ [p]) l = if p.1 = l then addN (nextsL ps l) p.2 else nextsL ps l := by
  unfold nextsL
  rw [List.foldl_append]; rfl
theorem addN_mem {f : List Str} {w x : Str} : x ∈ addN f w ↔ x ∈ f ∨ x = w := by
  unfold addN
  split
  · rename_i h
    exact ⟨.inl, fun z => z.elim id fun e => e ▸ h⟩
  · simp
theorem addN_nodup {f : List Str} {w : Str} (h : f.Nodup) : (addN f w).Nodup := by
  unfold addN
  split
  · exact h
  · rename_i hn
    exact List.nodup_append.mpr ⟨h, by simp, fun x hx y hy e => hn (by rw [← List.mem_singleton.mp hy, ← e]; exact hx)⟩
theorem addN_len (f : List Str) (w : Str) : (addN f w).length ≤ f.length + 1 := by
  unfold addN
  split
  · exact Nat.le_succ _
  · simp
theorem nexts_ok (l : Str) : ∀ (n : Nat) (ps : List Pr), ps.length = n → (∀ w, w ∈ nextsL ps l ↔ (l, w) ∈ ps) ∧ (nextsL ps l).Nodup ∧ (nextsL ps l).length ≤ ps.length := by
  intro n
  induction n with
  | zero =>
    intro ps h
    obtain rfl := List.length_eq_zero_iff.mp h
    exact ⟨fun w => by simp [nextsL], by simp [nextsL], by simp [nextsL]⟩
  | succ n ih =>
    intro ps h
    obtain ⟨qs, p, rfl⟩ : ∃ qs p, ps = qs ++ [p] := ⟨ps.dropLast, ps.getLast (by intro e; rw [e] at h; simp at h), (List.dropLast_concat_getLast _).symm⟩
    obtain ⟨h1, h2, h3⟩ := ih qs (by simp at h; exact h)
    rw [nexts_snoc]
    split
    · rename_i e
      refine ⟨fun w => ?_, addN_nodup h2, ?_⟩
      · rw [addN_mem, h1, List.mem_append, List.mem_singleton]
        constructor
        · rintro (z | z)
          · exact .inl z
          · right; rw [z, ← e]
        · rintro (z | z)
          · exact .inl z
          · right; rw [← z]
      · have := addN_len (nextsL qs l) p.2
        simp; omega
    · rename_i e
      refine ⟨fun w => ?_, h2, by simp; omega⟩
      rw [h1, List.mem_append, List.mem_singleton]
      exact ⟨.inl, fun z => z.elim id fun z => absurd (by rw [← z]) e⟩
theorem nexts_mem {l w : Str} : w ∈ nextsL ps l ↔ (l, w) ∈ ps := (nexts_ok l _ ps rfl).1 w
theorem nodup_le {α : Type} [DecidableEq α] : ∀ {a b : List α}, a.Nodup → (∀ x ∈ a, x ∈ b) → a.length ≤ b.length
  | [], _, _, _ => Nat.zero_le _
  | x :: a, b, nd, h => by
    have hx := h x List.mem_cons_self
    have := nodup_le (a := a) (b := b.erase x) (List.nodup_cons.mp nd).2 fun y hy => by
      have : y ≠ x := fun e => (List.nodup_cons.mp nd).1 (e ▸ hy)
      exact (List.mem_erase_of_ne this).mpr (h y (List.mem_cons_of_mem _ hy))
    rw [List.length_erase_of_mem hx] at this
    have hp := List.length_pos_of_mem hx
    simp; omega
structure DInv (ps : List Pr) (l : Str) (ks ws : List Str) : Prop where
  nd : ks.Nodup
  re : ∀ k ∈ ks, Reach ps l k
  wk : ∀ w ∈ ws, w = l ∨ w ∈ ks
  cl : ∀ x, (x = l ∨ x ∈ ks) → x ∉ ws → ∀ y, (x, y) ∈ ps → y ∈ ks
def meas (ps : List Pr) (ks ws : List Str) : Nat := 2 * (ps.length - ks.length) + ws.length
theorem DInv.start (l : Str) : DInv ps l [] [l] := ⟨List.nodup_nil, fun _ h => (by cases h), fun w h => .inl (List.mem_singleton.mp h), fun x hx hn => by
  rcases hx with rfl | h
  · exact absurd List.mem_cons_self hn
  · cases h⟩
theorem reach_len {l : Str} {ks : List Str} (nd : ks.Nodup) (re : ∀ k ∈ ks, Reach ps l k) : ks.length ≤ ps.length := by
  have := nodup_le (b := ps.map (·.2)) nd fun k hk => by
    obtain ⟨c, hc⟩ := (re k hk).snd
    exact List.mem_map.mpr ⟨_, hc, rfl⟩
  rwa [List.length_map] at this
theorem DInv.len {l : Str} {ks ws : List Str} (h : DInv ps l ks ws) : ks.length ≤ ps.length := reach_len h.nd h.re
structure DIn (ps : List Pr) (l here : Str) (ks ws0 : List Str) (i : Nat) (ks' ws' : List Str) : Prop where
  nd : ks'.Nodup
  re : ∀ k ∈ ks', Reach ps l k
  wk : ∀ w ∈ ws', w = l ∨ w ∈ ks'
  up : ∀ k ∈ ks, k ∈ ks'
  ne : ∀ k ∈ (nextsL ps here).take i, k ∈ ks'
  wu : ∀ w ∈ ws0, w ∈ ws'
  nw : ∀ k ∈ ks', k ∉ ks → k ∈ ws'
  ms : meas ps ks' ws' ≤ meas ps ks ws0
theorem DInv.pop {l here : Str} {ks ws0 : List Str} (h : DInv ps l ks (ws0 ++ [here])) : DIn ps l here ks ws0 0 ks ws0 :=
  ⟨h.nd, h.re, fun w hw => h.wk w (List.mem_append_left _ hw), fun _ h => h, fun k hk => (by simp at hk), fun _ h => h, fun k h1 h2 => absurd h1 h2, Nat.le_refl _⟩
theorem DIn.old {l here : Str} {ks ws0 ks' ws' : List Str} {i : Nat} {w : Str} (h : DIn ps l here ks ws0 i ks' ws') (hw : (nextsL ps here)[i]? = some w) (hk : w ∈ ks') : DIn ps l here ks ws0 (i + 1) ks' ws' :=
  ⟨h.nd, h.re, h.wk, h.up, fun k hk2 => by
    rw [List.take_add_one, hw] at hk2
    rcases List.mem_append.mp hk2 with z | z
    · exact h.ne k z
    · simp at z; rw [z]; exact hk, h.wu, h.nw, h.ms⟩
theorem DIn.new {l here : Str} {ks ws0 ks' ws' : List Str} {i : Nat} {w : Str} (h : DIn ps l here ks ws0 i ks' ws') (hh : here = l ∨ here ∈ ks) (hw : (nextsL ps here)[i]? = some w) (hk : w ∉ ks') : DIn ps l here ks ws0 (i + 1) (ks' ++ [w]) (ws' ++ [w]) := by
  have hp : (here, w) ∈ ps := nexts_mem.mp (List.mem_of_getElem? hw)
  have hr : Reach ps l w := by
    rcases hh with rfl | hh
    · exact .one hp
    · exact .step (h.re _ (h.up _ hh)) hp
  have nd2 : (ks' ++ [w]).Nodup := List.nodup_append.mpr ⟨h.nd, by simp, fun x hx y hy e => hk (by rw [← List.mem_singleton.mp hy, ← e]; exact hx)⟩
  have re2 : ∀ k ∈ ks' ++ [w], Reach ps l k := fun k hk2 => by
    rcases List.mem_append.mp hk2 with z | z
    · exact h.re k z
    · rw [List.mem_singleton.mp z]; exact hr
  refine ⟨nd2, re2, fun v hv => ?_, fun k hk2 => List.mem_append_left _ (h.up k hk2), fun k hk2 => ?_, fun v hv => List.mem_append_left _ (h.wu v hv), fun k h1 h2 => ?_, ?_⟩
  · rcases List.mem_append.mp hv with z | z
    · exact (h.wk v z).imp id fun z => List.mem_append_left _ z
    · exact .inr (List.mem_append_right _ z)
  · rw [List.take_add_one, hw] at hk2
    rcases List.mem_append.mp hk2 with z | z
    · exact List.mem_append_left _ (h.ne k z)
    · simp at z; rw [z]; simp
  · rcases List.mem_append.mp h1 with z | z
    · exact List.mem_append_left _ (h.nw k z h2)
    · exact List.mem_append_right _ z
  · have h1 := reach_len nd2 re2
    have h2 := h.ms
    unfold meas at *
    rw [List.length_append, List.length_append] at *
    simp at *
    omega
theorem DIn.done {l here : Str} {ks ws0 ks' ws' : List Str} (h : DIn ps l here ks ws0 (nextsL ps here).length ks' ws') (h0 : DInv ps l ks (ws0 ++ [here])) : DInv ps l ks' ws' ∧ meas ps ks' ws' < meas ps ks (ws0 ++ [here]) := by
  refine ⟨⟨h.nd, h.re, h.wk, fun x hx hn y hy => ?_⟩, ?_⟩
  · by_cases e : x = here
    · subst e
      exact h.ne y (by rw [List.take_length]; exact nexts_mem.mpr hy)
    · have hx' : x = l ∨ x ∈ ks := by
        rcases hx with z | z
        · exact .inl z
        · by_cases hk : x ∈ ks
          · exact .inr hk
          · exact absurd (h.nw x z hk) hn
      refine h.up y (h0.cl x hx' (fun z => ?_) y hy)
      rcases List.mem_append.mp z with z | z
      · exact hn (h.wu x z)
      · exact e (List.mem_singleton.mp z)
  · have := h.ms
    unfold meas at *
    simp; omega
theorem DInv.fin {l : Str} {ks : List Str} (h : DInv ps l ks []) (w : Str) : w ∈ ks ↔ Reach ps l w := by
  refine ⟨h.re w, fun hr => ?_⟩
  induction hr with
  | one hp => exact h.cl l (.inl rfl) (by simp) _ hp
  | step _ hp ih => exact h.cl _ (.inr ih) (by simp) _ hp
end
end OR

set_option Elab.async false
set_option linter.all false
set_option maxRecDepth 100000
namespace OR
open PySem
section
variable {ps : List Pr} {one other : Str}
def lastOf (a : Str) (t : List Str) : Str := (a :: t).getLast (by simp)
theorem last_snoc (a b : Str) (t : List Str) : lastOf a (t ++ [b]) = b := by
  show ((a :: t) ++ [b]).getLast (by simp) = b
  first | exact List.getLast_concat .. | exact List.getLast_append_singleton .. | simp
def Walk (ps : List Pr) (a : Str) (t : List Str) : Prop := ∀ (i : Nat) (x y : Str), (a :: t)[i]? = some x → (a :: t)[i + 1]? = some y → (x, y) ∈ ps
theorem Walk.nil (a : Str) : Walk ps a [] := fun i x y h1 h2 => by simp at h2
theorem last_at (a : Str) (t : List Str) : (a :: t)[t.length]? = some (lastOf a t) := by
  unfold lastOf
  rw [List.getLast_eq_getElem, List.getElem?_eq_getElem (by simp)]
  simp
theorem Walk.snoc {a b : Str} {t : List Str} (h : Walk ps a t) (hb : (lastOf a t, b) ∈ ps) : Walk ps a (t ++ [b]) := by
  intro i x y h1 h2
  rw [show a :: (t ++ [b]) = (a :: t) ++ [b] from rfl] at h1 h2
  have hi : i + 1 < ((a :: t) ++ [b]).length := (List.getElem?_eq_some_iff.mp h2).1
  have hi : i + 1 < t.length + 2 := by simpa using hi
  rw [List.getElem?_append_left (by simp; omega)] at h1
  by_cases e : i = t.length
  · subst e
    rw [last_at] at h1
    rw [List.getElem?_append_right (by simp)] at h2
    simp at h2
    cases h1
    rw [← h2]; exact hb
  · rw [List.getElem?_append_left (by simp; omega)] at h2
    exact h i x y h1 h2
def Exp (ps : List Pr) (other : Str) (ks : List Str) (x : Str) : Prop := ∀ y, (x, y) ∈ ps → y ∈ ks ∧ y ≠ other
theorem Exp.up {ks ks' : List Str} {x : Str} (h : Exp ps other ks x) (u : ∀ k ∈ ks, k ∈ ks') : Exp ps other ks' x := fun y hy => ⟨u y (h y hy).1, (h y hy).2⟩
structure Wy (ps : List Pr) (one other : Str) (ks : List Str) (w t : List Str) : Prop where
  e : w = one :: t
  wk : Walk ps one t
  nd : t.Nodup
  ks : ∀ x ∈ t, x ∈ ks
  no : other ∉ t
  rg : one ∈ t → lastOf one t = one
theorem Wy.up {ks ks' w t : List Str} (h : Wy ps one other ks w t) (u : ∀ k ∈ ks, k ∈ ks') : Wy ps one other ks' w t := ⟨h.e, h.wk, h.nd, fun x hx => u x (h.ks x hx), h.no, h.rg⟩
structure BInv (ps : List Pr) (one other : Str) (ks : List Str) (ws : List (List Str)) : Prop where
  nd : ks.Nodup
  sb : ∀ k ∈ ks, ∃ c, (c, k) ∈ ps
  wy : ∀ w ∈ ws, ∃ t, Wy ps one other ks w t
  cl : ∀ x, (x = one ∨ x ∈ ks) → (∃ t, (one :: t) ∈ ws ∧ lastOf one t = x) ∨ Exp ps other ks x
  st : (∀ w ∈ ws, w = [one]) ∨ Exp ps other ks one
def measB (ps : List Pr) (ks : List Str) (ws : List (List Str)) : Nat := 2 * (ps.length - ks.length) + ws.length
theorem BInv.start : BInv ps one other [] [[one]] := ⟨List.nodup_nil, fun _ h => (by cases h), fun w hw => by
  rw [List.mem_singleton.mp hw]
  exact ⟨[], rfl, .nil _, List.nodup_nil, fun _ h => (by cases h), fun h => (by cases h), fun h => (by cases h)⟩, fun x hx => (by
  rcases hx with rfl | h
  · exact .inl ⟨[], List.mem_cons_self, rfl⟩
  · cases h), Or.inl fun w hw => List.mem_singleton.mp hw⟩
theorem sub_len {ks : List Str} (nd : ks.Nodup) (sb : ∀ k ∈ ks, ∃ c, (c, k) ∈ ps) : ks.length ≤ ps.length := by
  have := nodup_le (b := ps.map (·.2)) nd fun k hk => by
    obtain ⟨c, hc⟩ := sb k hk
    exact List.mem_map.mpr ⟨_, hc, rfl⟩
  rwa [List.length_map] at this
structure BIn (ps : List Pr) (one other : Str) (t : List Str) (ks : List Str) (ws0 : List (List Str)) (i : Nat) (ks' : List Str) (ws' : List (List Str)) : Prop where
  nd : ks'.Nodup
  sb : ∀ k ∈ ks', ∃ c, (c, k) ∈ ps
  wy : ∀ w ∈ ws', ∃ t, Wy ps one other ks' w t
  up : ∀ k ∈ ks, k ∈ ks'
  ne : ∀ k ∈ (nextsL ps (lastOf one t)).take i, k ∈ ks' ∧ k ≠ other
  wu : ∀ w ∈ ws0, w ∈ ws'
  nw : ∀ k ∈ ks', k ∉ ks → ∃ u, (one :: u) ∈ ws' ∧ lastOf one u = k
  me : Wy ps one other ks' (one :: t) t
  st : t = [] ∨ Exp ps other ks' one
  ms : measB ps ks' ws' ≤ measB ps ks ws0
theorem BInv.pop {w : List Str} {ks : List Str} {ws0 : List (List Str)} (h : BInv ps one other ks (w :: ws0)) : ∃ t, w = one :: t ∧ BIn ps one other t ks ws0 0 ks ws0 := by
  obtain ⟨t, ht⟩ := h.wy w List.mem_cons_self
  refine ⟨t, ht.e, h.nd, h.sb, fun w hw => h.wy w (List.mem_cons_of_mem _ hw), fun _ h => h, fun k hk => (by simp at hk), fun _ h => h, fun k h1 h2 => absurd h1 h2, ?_, ?_, Nat.le_refl _⟩
  · rw [← ht.e]; exact ht
  · rcases h.st with z | z
    · have := z w List.mem_cons_self
      rw [ht.e] at this
      exact .inl (by injection this)
    · exact .inr z
theorem BIn.old {t : List Str} {ks : List Str} {ws0 : List (List Str)} {i : Nat} {ks' : List Str} {ws' : List (List Str)} {w : Str} (h : BIn ps one other t ks ws0 i ks' ws') (hw : (nextsL ps (lastOf one t))[i]? = some w) (ho : w ≠ other) (hk : w ∈ ks') : BIn ps one other t ks ws0 (i + 1) ks' ws' :=
  ⟨h.nd, h.sb, h.wy, h.up, fun k hk2 => by
    rw [List.take_add_one, hw] at hk2
    rcases List.mem_append.mp hk2 with z | z
    · exact h.ne k z
    · simp at z; rw [z]; exact ⟨hk, ho⟩, h.wu, h.nw, h.me, h.st, h.ms⟩
theorem BIn.new {t : List Str} {ks : List Str} {ws0 : List (List Str)} {i : Nat} {ks' : List Str} {ws' : List (List Str)} {w : Str} (h : BIn ps one other t ks ws0 i ks' ws') (hw : (nextsL ps (lastOf one t))[i]? = some w) (ho : w ≠ other) (hk : w ∉ ks') :
    BIn ps one other t ks ws0 (i + 1) (ks' ++ [w]) (ws' ++ [(one :: t) ++ [w]]) := by
  have hp : (lastOf one t, w) ∈ ps := nexts_mem.mp (List.mem_of_getElem? hw)
  have u : ∀ k ∈ ks', k ∈ ks' ++ [w] := fun k hk => List.mem_append_left _ hk
  have nd2 : (ks' ++ [w]).Nodup := List.nodup_append.mpr ⟨h.nd, by simp, fun x hx y hy e => hk (by rw [← List.mem_singleton.mp hy, ← e]; exact hx)⟩
  have sb2 : ∀ k ∈ ks' ++ [w], ∃ c, (c, k) ∈ ps := fun k hk2 => by
    rcases List.mem_append.mp hk2 with z | z
    · exact h.sb k z
    · rw [List.mem_singleton.mp z]; exact ⟨_, hp⟩
  have no1 : one ∉ t := fun z => by
    rcases h.st with e | e
    · rw [e] at z; cases z
    · have hl := h.me.rg z
      rw [hl] at hp
      exact hk (e w hp).1
  refine ⟨nd2, sb2, fun v hv => ?_, fun k hk2 => u k (h.up k hk2), fun k hk2 => ?_, fun v hv => List.mem_append_left _ (h.wu v hv), fun k h1 h2 => ?_, h.me.up u, h.st.imp id fun e => e.up u, ?_⟩
  · rcases List.mem_append.mp hv with z | z
    · obtain ⟨t', ht'⟩ := h.wy v z
      exact ⟨t', ht'.up u⟩
    · rw [List.mem_singleton.mp z]
      refine ⟨t ++ [w], rfl, h.me.wk.snoc hp, ?_, fun x hx => ?_, fun z => ?_, fun z => ?_⟩
      · exact List.nodup_append.mpr ⟨h.me.nd, by simp, fun x hx y hy e => hk (by rw [← List.mem_singleton.mp hy, ← e]; exact h.me.ks x hx)⟩
      · rcases List.mem_append.mp hx with z | z
        · exact u x (h.me.ks x z)
        · exact List.mem_append_right _ z
      · rcases List.mem_append.mp z with z | z
        · exact h.me.no z
        · exact ho (List.mem_singleton.mp z).symm
      · rcases List.mem_append.mp z with z | z
        · exact absurd z no1
        · rw [last_snoc]; exact (List.mem_singleton.mp z).symm
  · rw [List.take_add_one, hw] at hk2
    rcases List.mem_append.mp hk2 with z | z
    · exact ⟨u k (h.ne k z).1, (h.ne k z).2⟩
    · simp at z; rw [z]; exact ⟨by simp, ho⟩
  · rcases List.mem_append.mp h1 with z | z
    · obtain ⟨v, hv, hl⟩ := h.nw k z h2
      exact ⟨v, List.mem_append_left _ hv, hl⟩
    · refine ⟨t ++ [w], List.mem_append_right _ (List.mem_singleton.mpr rfl), ?_⟩
      rw [last_snoc]; exact (List.mem_singleton.mp z).symm
  · have h1 := sub_len nd2 sb2
    have h2 := h.ms
    unfold measB at *
    rw [List.length_append, List.length_append] at *
    simp at *
    omega
theorem BIn.done {t : List Str} {ks : List Str} {ws0 : List (List Str)} {ks' : List Str} {ws' : List (List Str)} (h : BIn ps one other t ks ws0 (nextsL ps (lastOf one t)).length ks' ws') (h0 : BInv ps one other ks ((one :: t) :: ws0)) : BInv ps one other ks' ws' ∧ measB ps ks' ws' < measB ps ks ((one :: t) :: ws0) := by
  have ex : Exp ps other ks' (lastOf one t) := fun y hy => h.ne y (by rw [List.take_length]; exact nexts_mem.mpr hy)
  refine ⟨⟨h.nd, h.sb, h.wy, fun x hx => ?_, ?_⟩, ?_⟩
  · by_cases hk : x = one ∨ x ∈ ks
    · rcases h0.cl x hk with ⟨v, hv, hl⟩ | e
      · rcases List.mem_cons.mp hv with e | hv
        · injection e with _ e
          subst e
          rw [← hl]; exact .inr ex
        · exact .inl ⟨v, h.wu _ hv, hl⟩
      · exact .inr (e.up h.up)
    · refine .inl (h.nw x ?_ fun z => hk (.inr z))
      rcases hx with z | z
      · exact absurd (.inl z) hk
      · exact z
  · rcases h.st with e | e
    · subst e
      exact .inr ex
    · exact .inr e
  · have := h.ms
    unfold measB at *
    simp; omega
structure Chn (ps : List Pr) (a b : Str) (c t : List Str) : Prop where
  e : c = (a :: t) ++ [b]
  wk : Walk ps a (t ++ [b])
  n1 : (t ++ [b]).Nodup
  n2 : (a :: t).Nodup
theorem BIn.found {t : List Str} {ks : List Str} {ws0 : List (List Str)} {i : Nat} {ks' : List Str} {ws' : List (List Str)} (h : BIn ps one other t ks ws0 i ks' ws') (hw : (nextsL ps (lastOf one t))[i]? = some other) : Chn ps one other ((one :: t) ++ [other]) t := by
  have hp : (lastOf one t, other) ∈ ps := nexts_mem.mp (List.mem_of_getElem? hw)
  refine ⟨rfl, h.me.wk.snoc hp, List.nodup_append.mpr ⟨h.me.nd, by simp, fun x hx y hy e => h.me.no (by rw [← List.mem_singleton.mp hy, ← e]; exact hx)⟩, List.nodup_cons.mpr ⟨fun z => ?_, h.me.nd⟩⟩
  rcases h.st with e | e
  · rw [e] at z; cases z
  · have hl := h.me.rg z
    rw [hl] at hp
    exact (e other hp).2 rfl
theorem walk_reach {a : Str} : ∀ (n : Nat) (t : List Str), t.length = n → t ≠ [] → Walk ps a t → Reach ps a (lastOf a t) := by
  intro n
  induction n with
  | zero => intro t h hn; exact absurd (List.length_eq_zero_iff.mp h) hn
  | succ n ih =>
    intro t h hn hw
    obtain ⟨u, x, rfl⟩ : ∃ u x, t = u ++ [x] := ⟨t.dropLast, t.getLast hn, (List.dropLast_concat_getLast _).symm⟩
    rw [last_snoc]
    have hl : (lastOf a u, x) ∈ ps := hw u.length _ _ (by rw [show a :: (u ++ [x]) = (a :: u) ++ [x] from rfl, List.getElem?_append_left (by simp)]; exact last_at a u) (by simp)
    have hw2 : Walk ps a u := fun i y z h1 h2 => by
      have hi : i + 1 < (a :: u).length := (List.getElem?_eq_some_iff.mp h2).1
      refine hw i y z ?_ ?_
      · rw [show a :: (u ++ [x]) = (a :: u) ++ [x] from rfl, List.getElem?_append_left (by omega)]; exact h1
      · rw [show a :: (u ++ [x]) = (a :: u) ++ [x] from rfl, List.getElem?_append_left hi]; exact h2
    by_cases hu : u = []
    · subst hu; exact .one hl
    · exact .step (ih u (by simp at h; exact h) hu hw2) hl
theorem Chn.reach {a b : Str} {c t : List Str} (h : Chn ps a b c t) : Reach ps a b := by
  have := walk_reach _ (t ++ [b]) rfl (by simp) h.wk
  rwa [last_snoc] at this
theorem BInv.none {ks : List Str} (h : BInv ps one other ks []) : ¬ Reach ps one other := by
  have ex : ∀ x, (x = one ∨ x ∈ ks) → Exp ps other ks x := fun x hx => (h.cl x hx).elim (fun ⟨_, z, _⟩ => by cases z) id
  have key : ∀ y, Reach ps one y → y ∈ ks ∧ y ≠ other := by
    intro y hr
    induction hr with
    | one hp => exact ex one (.inl rfl) _ hp
    | step _ hp ih => exact ex _ (.inr ih.1) _ hp
  exact fun hr => (key other hr).2 rfl
end
end OR

set_option Elab.async false
set_option linter.all false
set_option maxRecDepth 100000
namespace OR
open PySem PyProof.Rows
def SLt (a b : Str) : Prop := a.cps.toList < b.cps.toList
theorem SLt.irr (a : Str) : ¬ SLt a a := List.lt_irrefl _
theorem SLt.tr {a b c : Str} (h : SLt a b) (k : SLt b c) : SLt a c := List.lt_trans h k
theorem SLt.nodup {ys : List Str} (h : ys.Pairwise SLt) : ys.Nodup := h.imp fun {a b} h e => by subst e; exact SLt.irr _ h
theorem uniq_of {α : Type} {r : α → α → Prop} (irr : ∀ a, ¬ r a a) (tr : ∀ a b c, r a b → r b c → r a c) : ∀ {l m : List α}, l.Pairwise r → m.Pairwise r → (∀ x, x ∈ l ↔ x ∈ m) → l = m
  | [], [], _, _, _ => rfl
  | [], y :: m, _, _, h => by have := (h y).mpr List.mem_cons_self; cases this
  | x :: l, [], _, _, h => by have := (h x).mp List.mem_cons_self; cases this
  | x :: l, y :: m, h1, h2, h => by
    obtain ⟨a1, a2⟩ := List.pairwise_cons.mp h1
    obtain ⟨b1, b2⟩ := List.pairwise_cons.mp h2
    have e : x = y := by
      rcases List.mem_cons.mp ((h x).mp List.mem_cons_self) with e | e
      · exact e
      · rcases List.mem_cons.mp ((h y).mpr List.mem_cons_self) with e2 | e2
        · exact e2.symm
        · exact absurd (tr _ _ _ (b1 x e) (a1 y e2)) (irr _)
    subst e
    rw [uniq_of irr tr a2 b2 fun z => ?_]
    constructor
    · intro hz
      rcases List.mem_cons.mp ((h z).mp (List.mem_cons_of_mem _ hz)) with e | e
      · subst e; exact absurd (a1 z hz) (irr z)
      · exact e
    · intro hz
      rcases List.mem_cons.mp ((h z).mpr (List.mem_cons_of_mem _ hz)) with e | e
      · subst e; exact absurd (b1 z hz) (irr z)
      · exact e
def PLt (p q : Pr) : Prop := SLt p.1 q.1 ∨ (p.1 = q.1 ∧ SLt p.2 q.2)
theorem PLt.irr (a : Pr) : ¬ PLt a a := fun h => h.elim (SLt.irr _) fun h => SLt.irr _ h.2
theorem PLt.tr (a b c : Pr) (h : PLt a b) (k : PLt b c) : PLt a c := by
  rcases h with h | ⟨e, h⟩
  · rcases k with k | ⟨e2, k⟩
    · exact .inl (h.tr k)
    · exact .inl (by rw [← e2]; exact h)
  · rcases k with k | ⟨e2, k⟩
    · exact .inl (by rw [e]; exact k)
    · exact .inr ⟨e.trans e2, h.tr k⟩
abbrev eP (p : Pr) : PyData := .tuple [.str p.1, .str p.2]
instance (a b : Str) : Decidable (SLt a b) := inferInstanceAs (Decidable (a.cps.toList < b.cps.toList))
structure Ord (ps rs : List Pr) : Prop where
  so : rs.Pairwise PLt
  me : ∀ a b, (a, b) ∈ rs ↔ Reach ps a b
theorem Ord.uniq {ps rs rs' : List Pr} (h : Ord ps rs) (k : Ord ps rs') : rs = rs' := uniq_of PLt.irr PLt.tr h.so k.so fun ⟨a, b⟩ => (h.me a b).trans (k.me a b).symm
structure OIn (ps : List Pr) (done : List Str) (rs : List Pr) : Prop where
  so : rs.Pairwise PLt
  me : ∀ a b, (a, b) ∈ rs ↔ a ∈ done ∧ Reach ps a b
theorem OIn.next {ps : List Pr} {done : List Str} {rs : List Pr} {y : Str} {bs : List Str} (h : OIn ps done rs) (hy : ∀ d ∈ done, SLt d y) (hb : bs.Pairwise SLt) (hm : ∀ w, w ∈ bs ↔ Reach ps y w) : OIn ps (done ++ [y]) (rs ++ bs.map fun b => (y, b)) := by
  refine ⟨List.pairwise_append.mpr ⟨h.so, List.pairwise_map.mpr (hb.imp fun h => .inr ⟨rfl, h⟩), fun p hp q hq => ?_⟩, fun a b => ?_⟩
  · obtain ⟨b, _, rfl⟩ := List.mem_map.mp hq
    exact .inl (hy _ ((h.me p.1 p.2).mp hp).1)
  · rw [List.mem_append, h.me, List.mem_append, List.mem_singleton, List.mem_map]
    constructor
    · rintro (⟨h1, h2⟩ | ⟨c, hc, e⟩)
      · exact ⟨.inl h1, h2⟩
      · injection e with e1 e2
        subst e1; subst e2
        exact ⟨.inr rfl, (hm _).mp hc⟩
    · rintro ⟨h1 | h1, h2⟩
      · exact .inl ⟨h1, h2⟩
      · subst h1
        exact .inr ⟨b, (hm b).mpr h2, rfl⟩
theorem OIn.fin {ps : List Pr} {done : List Str} {rs : List Pr} (h : OIn ps done rs) (hd : ∀ k, k ∈ done ↔ k ∈ ps.map (·.1)) : Ord ps rs := ⟨h.so, fun a b => by
  rw [h.me]
  refine ⟨fun h => h.2, fun hr => ⟨?_, hr⟩⟩
  obtain ⟨c, hc⟩ := hr.fst
  exact (hd a).mpr (List.mem_map.mpr ⟨_, hc, rfl⟩)⟩
end OR

set_option Elab.async false
set_option linter.all false
set_option maxRecDepth 100000
namespace TB
open PySem L2 PL
open NE (scD plcs mem_plcs plcs_app emp emp_len emp_snoc emp_plcs)
abbrev XSt := List (Str × Int) × List Str
abbrev eG (g : Str × Int) : PyData := .tuple [.str g.1, .int g.2]
abbrev zG (g : Str × Int) : D := .z (eG g)
abbrev zW (s : Str) : D := .z (.str s)
def eSt (s : XSt) : PyData := .tuple [.list (s.1.map eG), .list (s.2.map .str)]
structure ScIn (S : Sto) (p : Nat × Nat) (s : XSt) : Prop where
  a : S[p.1]? = some (.lst (s.1.map zG))
  b : S[p.2]? = some (.lst (s.2.map zW))
theorem ScIn.vw {S : Sto} {p : Nat × Nat} {s : XSt} (h : ScIn S p s) : Vw S (scD p) (eSt s) := .t (.cons (.r h.a (Vws.map _ _)) (.cons (.r h.b (Vws.map _ _)) .nil))
theorem ScIn.lt1 {S : Sto} {p : Nat × Nat} {s : XSt} (h : ScIn S p s) : p.1 < S.length := (List.getElem?_eq_some_iff.mp h.a).1
theorem ScIn.lt2 {S : Sto} {p : Nat × Nat} {s : XSt} (h : ScIn S p s) : p.2 < S.length := (List.getElem?_eq_some_iff.mp h.b).1
inductive ScsIn (S : Sto) : List (Nat × Nat) → List XSt → Prop
  | nil : ScsIn S [] []
  | cons {p : Nat × Nat} {s : XSt} {ps : List (Nat × Nat)} {ss : List XSt} : ScIn S p s → ScsIn S ps ss → ScsIn S (p :: ps) (s :: ss)
section
variable {S : Sto} {n : Nat} {o : Ob}
theorem ScsIn.vws : ∀ {ps : List (Nat × Nat)} {ss : List XSt}, ScsIn S ps ss → Vws S (ps.map scD) (ss.map eSt)
  | [], _, h => by cases h; exact .nil
  | p :: ps, _, h => by cases h with | cons a b => exact .cons a.vw b.vws
theorem ScsIn.len : ∀ {ps : List (Nat × Nat)} {ss : List XSt}, ScsIn S ps ss → ps.length = ss.length
  | [], _, h => by cases h; rfl
  | p :: ps, _, h => by cases h with | cons a b => simp [ScsIn.len b]
theorem ScsIn.get : ∀ {ps : List (Nat × Nat)} {ss : List XSt} {i : Nat} {p : Nat × Nat}, ScsIn S ps ss → ps[i]? = some p → ∃ s, ss[i]? = some s ∧ ScIn S p s
  | [], _, _, _, h, e => by simp at e
  | p :: ps, _, 0, _, h, e => by cases h with | cons a b => simp at e; subst e; exact ⟨_, rfl, a⟩
  | p :: ps, _, i + 1, q, h, e => by
    cases h with
    | cons a b =>
      obtain ⟨s, h1, h2⟩ := ScsIn.get (i := i) (p := q) b (by simpa using e)
      exact ⟨s, by simpa using h1, h2⟩
theorem ScsIn.at {ps : List (Nat × Nat)} {ss : List XSt} {i : Nat} (h : ScsIn S ps ss) (hi : i < ss.length) : ∃ p s, ps[i]? = some p ∧ ss[i]? = some s ∧ ScIn S p s := by
  have hp : ps[i]? = some (ps[i]'(by rw [h.len]; exact hi)) := List.getElem?_eq_getElem _
  obtain ⟨s, h1, h2⟩ := h.get hp
  exact ⟨_, s, hp, h1, h2⟩
theorem ScsIn.lt : ∀ {ps : List (Nat × Nat)} {ss : List XSt}, ScsIn S ps ss → ∀ m ∈ plcs ps, m < S.length
  | [], _, _, m, hm => by cases hm
  | p :: ps, _, h, m, hm => by
    cases h with
    | cons a b =>
      have hm : m ∈ p.1 :: p.2 :: plcs ps := hm
      rcases List.mem_cons.mp hm with rfl | hm
      · exact a.lt1
      · rcases List.mem_cons.mp hm with rfl | hm
        · exact a.lt2
        · exact b.lt m hm
theorem ScsIn.sub {S' : Sto} : ∀ {ps : List (Nat × Nat)} {ss : List XSt}, ScsIn S ps ss → (∀ m ∈ plcs ps, ∀ o, S[m]? = some o → S'[m]? = some o) → ScsIn S' ps ss
  | [], _, h, _ => by cases h; exact .nil
  | p :: ps, _, h, k => by
    cases h with
    | cons a b =>
      have hm : ∀ m ∈ plcs ps, m ∈ plcs (p :: ps) := fun m hm => List.mem_cons_of_mem _ (List.mem_cons_of_mem _ hm)
      exact .cons ⟨k _ List.mem_cons_self _ a.a, k _ (List.mem_cons_of_mem _ List.mem_cons_self) _ a.b⟩ (ScsIn.sub b fun m h => k m (hm m h))
theorem ScsIn.app {T : Sto} {ps : List (Nat × Nat)} {ss : List XSt} (h : ScsIn S ps ss) : ScsIn (S ++ T) ps ss := h.sub fun _ _ _ => sto_app
theorem ScsIn.keep {ps : List (Nat × Nat)} {ss : List XSt} (h : ScsIn S ps ss) (hn : n ∉ plcs ps) : ScsIn (S.set n o) ps ss := h.sub fun m hm o e => by
  rw [List.getElem?_set_ne (fun z : n = m => hn (by rw [z]; exact hm))]; exact e
theorem ScsIn.snoc : ∀ {ps : List (Nat × Nat)} {ss : List XSt} {p : Nat × Nat} {s : XSt}, ScsIn S ps ss → ScIn S p s → ScsIn S (ps ++ [p]) (ss ++ [s])
  | [], _, _, _, h, k => by cases h; exact .cons k .nil
  | p :: ps, _, _, _, h, k => by cases h with | cons a b => exact .cons a (ScsIn.snoc b k)
theorem ScsIn.put1 {xs : List (Str × Int)} : ∀ {ps : List (Nat × Nat)} {ss : List XSt} {i : Nat} {p : Nat × Nat} {s : XSt}, ScsIn S ps ss → (plcs ps).Nodup → ps[i]? = some p → ss[i]? = some s → ScsIn (S.set p.1 (.lst (xs.map zG))) ps (ss.set i (xs, s.2))
  | [], _, _, _, _, h, _, e, _ => by simp at e
  | p :: ps, _, 0, q, s, h, nd, e, e2 => by
    cases h with
    | cons a b =>
      simp at e e2
      subst e; subst e2
      have nd2 : (p.1 :: p.2 :: plcs ps).Nodup := nd
      have h12 : p.1 ≠ p.2 := fun z => by rw [z] at nd2; simp at nd2
      have h3 : p.1 ∉ plcs ps := fun z => (List.nodup_cons.mp nd2).1 (List.mem_cons_of_mem _ z)
      exact .cons ⟨by rw [List.getElem?_set_self a.lt1], by rw [List.getElem?_set_ne h12]; exact a.b⟩ (b.keep h3)
  | p :: ps, _, i + 1, q, s, h, nd, e, e2 => by
    cases h with
    | cons a b =>
      have nd2 : (p.1 :: p.2 :: plcs ps).Nodup := nd
      have hq1 := (mem_plcs (List.mem_of_getElem? (i := i) (show ps[i]? = some q by simpa using e))).1
      have h1 := (List.nodup_cons.mp nd2).1
      have h2 := (List.nodup_cons.mp (List.nodup_cons.mp nd2).2).1
      have n1 : q.1 ≠ p.1 := fun z => h1 (by rw [← z]; exact List.mem_cons_of_mem _ hq1)
      have n2 : q.1 ≠ p.2 := fun z => h2 (by rw [← z]; exact hq1)
      exact .cons ⟨by rw [List.getElem?_set_ne n1]; exact a.a, by rw [List.getElem?_set_ne n2]; exact a.b⟩ (ScsIn.put1 b (List.nodup_cons.mp (List.nodup_cons.mp nd2).2).2 (by simpa using e) (by simpa using e2))
theorem ScsIn.put2 {xs : List Str} : ∀ {ps : List (Nat × Nat)} {ss : List XSt} {i : Nat} {p : Nat × Nat} {s : XSt}, ScsIn S ps ss → (plcs ps).Nodup → ps[i]? = some p → ss[i]? = some s → ScsIn (S.set p.2 (.lst (xs.map zW))) ps (ss.set i (s.1, xs))
  | [], _, _, _, _, h, _, e, _ => by simp at e
  | p :: ps, _, 0, q, s, h, nd, e, e2 => by
    cases h with
    | cons a b =>
      simp at e e2
      subst e; subst e2
      have nd2 : (p.1 :: p.2 :: plcs ps).Nodup := nd
      have h12 : p.2 ≠ p.1 := fun z => by rw [z] at nd2; simp at nd2
      have h3 : p.2 ∉ plcs ps := (List.nodup_cons.mp (List.nodup_cons.mp nd2).2).1
      exact .cons ⟨by rw [List.getElem?_set_ne h12]; exact a.a, by rw [List.getElem?_set_self a.lt2]⟩ (b.keep h3)
  | p :: ps, _, i + 1, q, s, h, nd, e, e2 => by
    cases h with
    | cons a b =>
      have nd2 : (p.1 :: p.2 :: plcs ps).Nodup := nd
      have hq1 := (mem_plcs (List.mem_of_getElem? (i := i) (show ps[i]? = some q by simpa using e))).2
      have h1 := (List.nodup_cons.mp nd2).1
      have h2 := (List.nodup_cons.mp (List.nodup_cons.mp nd2).2).1
      have n1 : q.2 ≠ p.1 := fun z => h1 (by rw [← z]; exact List.mem_cons_of_mem _ hq1)
      have n2 : q.2 ≠ p.2 := fun z => h2 (by rw [← z]; exact hq1)
      exact .cons ⟨by rw [List.getElem?_set_ne n1]; exact a.a, by rw [List.getElem?_set_ne n2]; exact a.b⟩ (ScsIn.put2 b (List.nodup_cons.mp (List.nodup_cons.mp nd2).2).2 (by simpa using e) (by simpa using e2))
end
def cps (ss : List XSt) : Sto := ss.flatMap fun s => [.lst (s.1.map zG), .lst (s.2.map zW)]
theorem cps_app (a b : List XSt) : cps (a ++ b) = cps a ++ cps b := List.flatMap_append
theorem cps_len (ss : List XSt) : (cps ss).length = 2 * ss.length := by
  induction ss with
  | nil => rfl
  | cons s ss ih =>
    show ([_, _] ++ cps ss).length = _
    rw [List.length_append, ih, List.length_cons]
    simp; omega
theorem cps_in {S T : Sto} {L : Nat} (hL : S.length = L) (ss : List XSt) : ScsIn (S ++ (cps ss ++ T)) (emp L ss.length) ss := by
  have go : ∀ (n : Nat) (ss : List XSt), ss.length = n → ∀ T, ScsIn (S ++ (cps ss ++ T)) (emp L ss.length) ss := by
    intro n
    induction n with
    | zero => intro ss h T; cases ss with | nil => exact .nil | cons _ _ => simp at h
    | succ n ih =>
      intro ss h T
      obtain ⟨ini, s, rfl⟩ : ∃ ini s, ss = ini ++ [s] := ⟨ss.dropLast, ss.getLast (by intro e; rw [e] at h; simp at h), (List.dropLast_concat_getLast _).symm⟩
      have hi : ini.length = n := by simp at h; exact h
      have hc := cps_len ini
      rw [List.length_append, List.length_singleton, emp_snoc, cps_app, List.append_assoc]
      refine (ih ini hi (cps [s] ++ T)).snoc ⟨?_, ?_⟩
      · show (S ++ _)[L + 2 * ini.length]? = _
        rw [List.getElem?_append_right (by omega), List.getElem?_append_right (by omega), show L + 2 * ini.length - S.length - (cps ini).length = 0 by omega]; rfl
      · show (S ++ _)[L + 2 * ini.length + 1]? = _
        rw [List.getElem?_append_right (by omega), List.getElem?_append_right (by omega), show L + 2 * ini.length + 1 - S.length - (cps ini).length = 1 by omega]; rfl
  exact go _ ss rfl T
def rSt (s : XSt) : RT := .t [lz eG s.1, lz PyData.str s.2]
theorem al_sc (s : XSt) (n : Nat) : al (rSt s) n = (scD (n, n + 1), [.lst (s.1.map zG), .lst (s.2.map zW)]) := by
  unfold rSt al
  simp only [als, al_lz]
  rfl
theorem als_scs : ∀ (ss : List XSt) (n : Nat), als (ss.map rSt) n = ((emp n ss.length).map scD, cps ss)
  | [], n => by unfold als; rfl
  | s :: ss, n => by
    rw [List.map_cons]
    unfold als
    rw [al_sc, als_scs ss]
    have e : emp n (s :: ss).length = (n, n + 1) :: emp (n + 2) ss.length := by
      unfold emp
      rw [List.length_cons, List.range_succ_eq_map, List.map_cons, List.map_map]
      congr 1
      refine List.map_congr_left fun k _ => ?_
      simp; omega
    rw [e]
    rfl
theorem VRs.scs {S : Sto} {U : List Nat} : ∀ {ps : List (Nat × Nat)} {ss : List XSt}, ScsIn S ps ss → VRs S U (ps.map scD) (ss.map rSt) (plcs ps)
  | [], _, h => by cases h; exact .nil
  | p :: ps, _, h => by
    cases h with
    | cons a b =>
      refine .cons (ns := [p.1, p.2]) (.t ?_) (VRs.scs b)
      exact .cons (ns := [p.1]) (.l (ns := []) a.a (VRs.zs _ _)) (.cons (ns := [p.2]) (ms := []) (.l (ns := []) a.b (VRs.zs _ _)) .nil)

structure XTab where
  states : List XSt
  inner : Int
  order : List OR.Pr
end TB

set_option Elab.async false
set_option linter.all false
set_option maxRecDepth 100000
namespace TB
open PySem L2 PL
open OR (SLt PLt eP)
open NE (scD plcs emp emp_len emp_snoc emp_plcs)
instance (a b : OR.Pr) : Decidable (PLt a b) := inferInstanceAs (Decidable (_ ∨ _))
end TB

set_option Elab.async false
set_option linter.all false
set_option maxRecDepth 100000
namespace OD
open PySem PySem.W PyProof.Rows
theorem lt_irr (d : PyData) : dataLt d d = false := (listOrd itemOrd).irrefl _
theorem lt_tr {a b c : PyData} (h : dataLt a b = true) (k : dataLt b c = true) : dataLt a c = true := (listOrd itemOrd).trans _ _ _ h k
theorem eqv_toks {x y : PyData} (h : alike x y = true) (e : keyToks x = keyToks y) : PyData.eqv x y = true := by
  cases he : PyData.eqv x y with
  | true => rfl
  | false =>
    have := (toks_eqv x y h).2 he [] [.inl 0]
    have h2 : PyProof.Rows.lexLt itemOrd (keyToks y) (keyToks y) = false := lex_irrefl _
    rw [e, lex_pre, h2] at this
    exact absurd (show true = false from this) (by decide)
theorem lt_tri {x y : PyData} (h : alike x y = true) (a : dataLt x y = false) (b : dataLt y x = false) : PyData.eqv x y = true :=
  eqv_toks h ((listOrd itemOrd).total _ _ a b)
def Up {α : Type} (k : α → PyData) (l : List α) : Prop := l.Pairwise fun a b => dataLt (k a) (k b) = true
section
variable {α : Type} {k : α → PyData} {l m : List α}
theorem Up.uniq (h : Up k l) (h2 : Up k m) (e : ∀ x, x ∈ l ↔ x ∈ m) : l = m :=
  OR.uniq_of (r := fun a b => dataLt (k a) (k b) = true) (fun a h => by rw [lt_irr] at h; cases h) (fun _ _ _ h k => lt_tr h k) h h2 e
theorem Up.nodup (h : Up k l) : l.Nodup := h.imp fun {a b} h e => by subst e; rw [lt_irr] at h; cases h
theorem up_sort (nd : l.Nodup) (al : ∀ a ∈ l, ∀ b ∈ l, alike (k a) (k b) = true) (ej : ∀ a ∈ l, ∀ b ∈ l, PyData.eqv (k a) (k b) = true → a = b) : Up k (l.mergeSort (dataLe false k)) := by
  have h1 : (l.mergeSort (dataLe false k)).Pairwise fun a b => dataLe false k a b = true := sort_pairwise (sortLe_total _ _ _) l
  have h2 : (l.mergeSort (dataLe false k)).Nodup := (List.mergeSort_perm l _).nodup_iff.mpr nd
  have hm : ∀ x, x ∈ l.mergeSort (dataLe false k) → x ∈ l := fun x hx => (List.mergeSort_perm l _).mem_iff.mp hx
  refine (List.Pairwise.and_mem.mp (h1.and h2)).imp fun {a b} ⟨ha, hb, k1, k2⟩ => ?_
  have k1 : (!dataLt (k b) (k a)) = true := k1
  cases hc : dataLt (k a) (k b) with
  | true => rfl
  | false => exact absurd (ej a (hm a ha) b (hm b hb) (lt_tri (al a (hm a ha) b (hm b hb)) hc (by cases h : dataLt (k b) (k a) with | true => rw [h] at k1; cases k1 | false => rfl))) k2
end
end OD

set_option Elab.async false
set_option linter.all false
set_option maxRecDepth 100000
namespace WY
open PySem L2 PL ND
def goal (net : Net) (ans : List Ans) (st : ND.Step) : Goal := if st.by_ = true then (match getI ans .opn st.num with
    | .opn => .opn st.num
    | .thing t => inside net ans t
    | _ => .no) else .to st.num
structure World where
  net : Net
  ans : List Ans
  tab : TB.XTab
structure Mk where
  sc : Int
  ix : Int
  deriving DecidableEq
def eMk (m : Mk) : PyData := .tuple [.int m.sc, .str "step", .int m.ix]
structure Row where
  ms : List Mk
  sc : Int
  st : Int
  deriving DecidableEq
def eRow (r : Row) : PyData := .tuple [.list (r.ms.map eMk), .int r.sc, .int r.st]
def nextS (t : TB.XTab) (st : Int) (lab : Str) : Option Int := ((getI t.states ([], []) st).1.find? fun g => decide (g.1 = lab)).map (·.2)
def steps (W : World) (sc : Int) : List ND.Step := (getI W.net.scopes ([], []) sc).1
def tells (W : World) (sc : Int) : List ND.Tell := (getI W.net.scopes ([], []) sc).2
def leads (W : World) (r : Row) (x : ND.Step) : Option (Int × Int) := match nextS W.tab r.st x.lab with
  | none => none
  | some t => match goal W.net W.ans x with
    | .to n => if n = r.sc ∨ n ∈ r.ms.map (·.sc) then none else some (n, t)
    | _ => none
def lgr (W : World) (r : Row) (i : Nat) (x : ND.Step) : Option Row := (leads W r x).map fun p => ⟨r.ms ++ [⟨r.sc, i⟩], p.1, p.2⟩
def lgrs (W : World) (r : Row) : Nat → List ND.Step → List Row
  | _, [] => []
  | i, x :: xs => (lgr W r i x).toList ++ lgrs W r (i + 1) xs
def longer (W : World) (r : Row) : List Row := lgrs W r 0 (steps W r.sc)
section
variable {W : World} {r q : Row}
theorem mem_lgrs : ∀ {xs : List ND.Step} {i : Nat}, q ∈ lgrs W r i xs ↔ ∃ j x, xs[j]? = some x ∧ lgr W r (i + j) x = some q
  | [], i => by simp [lgrs]
  | y :: xs, i => by
    unfold lgrs
    rw [List.mem_append, mem_lgrs (xs := xs)]
    constructor
    · rintro (h | ⟨j, x, h1, h2⟩)
      · exact ⟨0, y, rfl, by simpa using h⟩
      · exact ⟨j + 1, x, by simpa using h1, by rw [← h2, show i + (j + 1) = i + 1 + j by omega]⟩
    · rintro ⟨j, x, h1, h2⟩
      cases j with
      | zero => simp at h1; subst h1; exact .inl (by simpa using h2)
      | succ j => exact .inr ⟨j, x, by simpa using h1, by rw [← h2, show i + (j + 1) = i + 1 + j by omega]⟩
theorem mem_longer : q ∈ longer W r ↔ ∃ (j : Nat) (x : ND.Step), (steps W r.sc)[j]? = some x ∧ lgr W r j x = some q := by
  unfold longer
  rw [mem_lgrs]
  constructor
  · rintro ⟨j, x, h1, h2⟩; exact ⟨j, x, h1, by rwa [Nat.zero_add] at h2⟩
  · rintro ⟨j, x, h1, h2⟩; exact ⟨j, x, h1, by rwa [Nat.zero_add]⟩
theorem lgr_ms {i : Nat} {x : ND.Step} (h : lgr W r i x = some q) : q.ms = r.ms ++ [⟨r.sc, i⟩] := by
  unfold lgr at h
  cases e : leads W r x with
  | none => rw [e] at h; cases h
  | some p => rw [e] at h; cases h; rfl
theorem longer_ms (h : q ∈ longer W r) : ∃ i : Nat, q.ms = r.ms ++ [⟨r.sc, i⟩] := by
  obtain ⟨j, x, _, h⟩ := mem_longer.mp h
  exact ⟨j, lgr_ms h⟩
theorem lgrs_len : ∀ {xs : List ND.Step} {i : Nat}, (lgrs W r i xs).length ≤ xs.length
  | [], i => Nat.le_refl _
  | y :: xs, i => by
    unfold lgrs
    rw [List.length_append, List.length_cons]
    have := lgrs_len (xs := xs) (i := i + 1)
    cases lgr W r i y <;> simp <;> omega
theorem lgrs_nodup : ∀ {xs : List ND.Step} {i : Nat}, (lgrs W r i xs).Nodup
  | [], i => List.nodup_nil
  | y :: xs, i => by
    unfold lgrs
    refine List.nodup_append.mpr ⟨by cases lgr W r i y <;> simp, lgrs_nodup, fun a ha b hb e => ?_⟩
    subst e
    obtain ⟨j, x, _, h2⟩ := mem_lgrs.mp hb
    have h1 := lgr_ms (by simpa using ha)
    rw [lgr_ms h2] at h1
    have := List.append_cancel_left h1
    simp at this
    omega
def wt (B : Nat) : Nat → Nat
  | 0 => 1
  | n + 1 => 1 + B * wt B n
theorem wt_pos {B : Nat} : ∀ n, 1 ≤ wt B n
  | 0 => Nat.le_refl _
  | n + 1 => by unfold wt; omega
structure TOk (t : TB.XTab) : Prop where
  go : ∀ s ∈ t.states, ∀ g ∈ s.1, PyData.strOk g.1 = true ∧ 0 ≤ g.2 ∧ g.2 < t.states.length
  en : ∀ s ∈ t.states, ∀ w ∈ s.2, PyData.strOk w = true
  od : ∀ p ∈ t.order, PyData.strOk p.1 = true ∧ PyData.strOk p.2 = true
  n1 : 1 ≤ t.states.length
  n9 : t.states.length ≤ 9
  ir : 0 ≤ t.inner ∧ t.inner < t.states.length
  nr : ∀ p ∈ t.order, p.1 ≠ p.2
  tr : ∀ p ∈ t.order, ∀ q ∈ t.order, p.2 = q.1 → (p.1, q.2) ∈ t.order
structure WB (W : World) : Prop where
  net : NetOk W.net
  len : W.ans.length = W.net.quests.length
  an : ∀ x ∈ W.ans, AnsOk W.net.things.length x
  tab : TOk W.tab
  qst : ∀ q ∈ W.net.quests, q.state < W.tab.states.length
structure RowOk (W : World) (r : Row) : Prop where
  sc : 0 ≤ r.sc ∧ r.sc < W.net.scopes.length
  st : 0 ≤ r.st ∧ r.st < W.tab.states.length
  ms : ∀ m ∈ r.ms, (0 ≤ m.sc ∧ m.sc < W.net.scopes.length) ∧ 0 ≤ m.ix ∧ m.ix < (steps W m.sc).length
  nd : (r.ms.map (·.sc) ++ [r.sc]).Nodup
theorem inOk (h : WB W) : InOk W.net W.ans := inOk_of h.net h.len h.an
theorem nextS_ok {t : TB.XTab} (h : TOk t) {st n : Int} {l : Str} (hs : 0 ≤ st ∧ st < t.states.length) (e : nextS t st l = some n) : 0 ≤ n ∧ n < t.states.length := by
  unfold nextS at e
  have hm := getI_mem (d := (([], []) : TB.XSt)) hs
  generalize getI t.states ([], []) st = s at e hm
  cases hf : s.1.find? fun g => decide (g.1 = l) with
  | none => rw [hf] at e; cases e
  | some g => rw [hf] at e; cases e; exact (h.go s hm g (List.mem_of_find?_eq_some hf)).2
theorem steps_in (h : WB W) {sc : Int} (hs : 0 ≤ sc ∧ sc < W.net.scopes.length) : ∀ x ∈ steps W sc, StepOk W.net.scopes.length W.net.quests.length x := (h.net.sc _ (getI_mem (d := (([], []) : ND.Scope)) hs)).1
theorem inside_to (h : WB W) {t n : Int} (ht : 0 ≤ t ∧ t < W.net.things.length) (e : inside W.net W.ans t = .to n) : 0 ≤ n ∧ n < W.net.scopes.length := by
  unfold inside at e
  have hm := getI_mem (d := Thing.plain) ht
  generalize getI W.net.things .plain t = x at e hm
  cases x with
  | plain => cases e
  | part s => cases e; exact h.net.th _ hm
  | sort q =>
    have hq := (inOk h).sort _ hm
    have hm2 := getI_mem (d := Ans.opn) hq
    dsimp only at e
    generalize getI W.ans .opn q = y at e hm2
    cases y with
    | opn => cases e
    | none_ a => cases e
    | torn a => cases e
    | thing u =>
      have hm3 := getI_mem (d := Thing.plain) ((inOk h).ans u hm2)
      dsimp only at e
      generalize getI W.net.things .plain u = z at e hm3
      cases z with
      | plain => cases e
      | part s => cases e; exact h.net.th _ hm3
      | sort q => cases e
theorem by_ok (h : WB W) {x : ND.Step} (hx : StepOk W.net.scopes.length W.net.quests.length x) (hb : x.by_ = true) : 0 ≤ x.num ∧ x.num < W.ans.length := by
  have h2 := hx.2.2
  rw [if_pos hb] at h2
  exact ⟨hx.2.1, by rw [h.len]; exact h2⟩
theorem goal_to (h : WB W) {x : ND.Step} {n : Int} (hx : StepOk W.net.scopes.length W.net.quests.length x) (e : goal W.net W.ans x = .to n) : 0 ≤ n ∧ n < W.net.scopes.length := by
  unfold goal at e
  by_cases hb : x.by_ = true
  · rw [if_pos hb] at e
    have hm := getI_mem (d := Ans.opn) (by_ok h hx hb)
    generalize getI W.ans .opn x.num = y at e hm
    cases y with
    | opn => cases e
    | none_ a => cases e
    | torn a => cases e
    | thing u => exact inside_to h ((inOk h).ans u hm) e
  · rw [if_neg hb] at e
    have h2 := hx.2.2
    rw [if_neg hb] at h2
    cases e
    exact ⟨hx.2.1, h2⟩
theorem leads_some {x : ND.Step} {p : Int × Int} (e : leads W r x = some p) : nextS W.tab r.st x.lab = some p.2 ∧ goal W.net W.ans x = .to p.1 ∧ p.1 ≠ r.sc ∧ p.1 ∉ r.ms.map (·.sc) := by
  unfold leads at e
  cases h1 : nextS W.tab r.st x.lab with
  | none => rw [h1] at e; cases e
  | some t =>
    rw [h1] at e
    dsimp only at e
    cases h2 : goal W.net W.ans x with
    | opn a => rw [h2] at e; cases e
    | no => rw [h2] at e; cases e
    | to n =>
      rw [h2] at e
      dsimp only at e
      by_cases c : n = r.sc ∨ n ∈ r.ms.map (·.sc)
      · rw [if_pos c] at e; cases e
      · rw [if_neg c] at e; cases e
        exact ⟨rfl, rfl, fun z => c (.inl z), fun z => c (.inr z)⟩
theorem lgr_some {i : Nat} {x : ND.Step} (h : lgr W r i x = some q) : leads W r x = some (q.sc, q.st) ∧ q.ms = r.ms ++ [⟨r.sc, i⟩] := by
  unfold lgr at h
  cases e : leads W r x with
  | none => rw [e] at h; cases h
  | some p => rw [e] at h; cases h; exact ⟨rfl, rfl⟩
theorem lgr_ok (h : WB W) (hr : RowOk W r) {i : Nat} {x : ND.Step} (hx : (steps W r.sc)[i]? = some x) (e : lgr W r i x = some q) : RowOk W q := by
  obtain ⟨e1, e2⟩ := lgr_some e
  obtain ⟨h1, h2, h3, h4⟩ := leads_some e1
  have hi := (List.getElem?_eq_some_iff.mp hx).1
  refine ⟨goal_to h (steps_in h hr.sc x (List.mem_of_getElem? hx)) h2, nextS_ok h.tab hr.st h1, fun m hm => ?_, ?_⟩
  · rw [e2] at hm
    rcases List.mem_append.mp hm with hm | hm
    · exact hr.ms m hm
    · simp at hm; subst hm
      exact ⟨hr.sc, by dsimp only; omega, by dsimp only; omega⟩
  · rw [e2, List.map_append]
    refine List.nodup_append.mpr ⟨hr.nd, by simp, fun a ha b hb e => ?_⟩
    simp at hb
    subst hb; subst e
    rcases List.mem_append.mp ha with ha | ha
    · exact h4 ha
    · simp at ha; exact h3 ha
theorem longer_ok (h : WB W) (hr : RowOk W r) (hq : q ∈ longer W r) : RowOk W q := by
  obtain ⟨j, x, h1, h2⟩ := mem_longer.mp hq
  exact lgr_ok h hr h1 h2
theorem nd_le {α : Type} [DecidableEq α] : ∀ {l m : List α}, l.Nodup → (∀ x ∈ l, x ∈ m) → l.length ≤ m.length
  | [], m, _, _ => Nat.zero_le _
  | x :: l, m, nd, h => by
    obtain ⟨h1, h2⟩ := List.nodup_cons.mp nd
    have := nd_le (l := l) (m := m.erase x) h2 fun y hy => (List.mem_erase_of_ne fun e => h1 (by rw [← e]; exact hy)).mpr (h y (List.mem_cons_of_mem _ hy))
    have hx := h x List.mem_cons_self
    rw [List.length_erase_of_mem hx] at this
    have := List.length_pos_of_mem hx
    rw [List.length_cons]; omega
theorem RowOk.len (h : RowOk W r) : r.ms.length < W.net.scopes.length := by
  have := nd_le (m := (List.range W.net.scopes.length).map fun n : Nat => (n : Int)) h.nd fun x hx => by
    have hb : 0 ≤ x ∧ x < W.net.scopes.length := by
      rcases List.mem_append.mp hx with hx | hx
      · obtain ⟨m, hm, rfl⟩ := List.mem_map.mp hx
        exact (h.ms m hm).1
      · simp at hx; subst hx; exact h.sc
    exact List.mem_map.mpr ⟨x.toNat, List.mem_range.mpr (by omega), by omega⟩
  simp at this
  omega
inductive Gone (W : World) (sc st : Int) : Row → Prop
  | nil : Gone W sc st ⟨[], sc, st⟩
  | step {r q : Row} : Gone W sc st r → q ∈ longer W r → Gone W sc st q
variable {sc st : Int}
theorem Gone.ok (h : WB W) (h0 : RowOk W ⟨[], sc, st⟩) (g : Gone W sc st r) : RowOk W r := by
  induction g with
  | nil => exact h0
  | step _ hq ih => exact longer_ok h ih hq
theorem Gone.fn (g : Gone W sc st r) : ∀ {q : Row}, Gone W sc st q → r.ms = q.ms → r = q := by
  induction g with
  | nil =>
    intro q g e
    cases g with
    | nil => rfl
    | step _ hq => obtain ⟨i, h⟩ := longer_ms hq; rw [h] at e; simp at e
  | step g hq ih =>
    intro q g2 e
    obtain ⟨i, x, h1, h2⟩ := mem_longer.mp hq
    cases g2 with
    | nil => rw [lgr_ms h2] at e; simp at e
    | step g3 hq3 =>
      obtain ⟨j, y, k1, k2⟩ := mem_longer.mp hq3
      rw [lgr_ms h2, lgr_ms k2] at e
      obtain ⟨e1, e2⟩ := List.append_inj' e rfl
      have e3 := ih g3 e1
      subst e3
      simp at e2
      have e2 : i = j := by omega
      subst e2
      rw [h1] at k1; cases k1
      rw [h2] at k2; cases k2
      rfl
theorem Gone.at (g : Gone W sc st r) : ∀ {j : Nat} {m : Mk}, r.ms[j]? = some m → ∃ (p q : Row) (x : ND.Step) (i : Nat), Gone W sc st p ∧ p.ms = r.ms.take j ∧ m = ⟨p.sc, i⟩ ∧ (steps W p.sc)[i]? = some x ∧ lgr W p i x = some q ∧ Gone W sc st q ∧ q.ms = r.ms.take (j + 1) := by
  induction g with
  | nil => intro j m h; simp at h
  | @step p q g hq ih =>
    intro j m h
    obtain ⟨i, x, h1, h2⟩ := mem_longer.mp hq
    have e := lgr_ms h2
    by_cases c : j < p.ms.length
    · rw [e, List.getElem?_append_left c] at h
      obtain ⟨p2, q2, x2, i2, k1, k2, k3, k4, k5, k6, k7⟩ := ih h
      refine ⟨p2, q2, x2, i2, k1, ?_, k3, k4, k5, k6, ?_⟩
      · rw [k2, e, List.take_append_of_le_length (by omega)]
      · rw [k7, e, List.take_append_of_le_length (by omega)]
    · have hl := (List.getElem?_eq_some_iff.mp h).1
      have hj : j = p.ms.length := by rw [e] at hl; simp at hl; omega
      rw [e, List.getElem?_append_right (by omega), hj, Nat.sub_self] at h
      cases h
      refine ⟨p, q, x, i, g, ?_, rfl, h1, h2, .step g hq, ?_⟩
      · rw [e, hj, List.take_left]
      · rw [e, hj, ← e, List.take_of_length_le (by rw [e]; simp)]
structure BfJ (W : World) (sc st : Int) (rows : List Row) (k : Nat) : Prop where
  le : k ≤ rows.length
  go : ∀ r ∈ rows, Gone W sc st r
  hd : ⟨[], sc, st⟩ ∈ rows
  cl : ∀ (i : Nat) (r : Row), i < k → rows[i]? = some r → ∀ q ∈ longer W r, q ∈ rows
  fr : ∀ q ∈ rows, q.ms = [] ∨ ∃ (i : Nat) (r : Row), i < k ∧ rows[i]? = some r ∧ q ∈ longer W r
  nd : rows.Nodup
structure BfI (W : World) (B : Nat) (sc st : Int) (rows : List Row) (k : Nat) : Prop extends BfJ W sc st rows k where
  wt : k + ((rows.drop k).map fun r => wt B (W.net.scopes.length - r.ms.length)).sum ≤ wt B W.net.scopes.length
theorem BfJ.start : BfJ W sc st [⟨[], sc, st⟩] 0 :=
  ⟨Nat.zero_le _, fun r hr => by simp at hr; subst hr; exact .nil, by simp, fun _ _ h => absurd h (by omega), fun q hq => by simp at hq; subst hq; exact .inl rfl, by simp⟩
theorem BfI.start {B : Nat} : BfI W B sc st [⟨[], sc, st⟩] 0 := ⟨.start, by simp⟩
theorem sum_le {α : Type} {f : α → Nat} {c : Nat} : ∀ {l : List α}, (∀ x ∈ l, f x ≤ c) → (l.map f).sum ≤ l.length * c
  | [], _ => by simp
  | x :: l, h => by
    have h1 := h x List.mem_cons_self
    have h2 := sum_le (l := l) fun y hy => h y (List.mem_cons_of_mem _ hy)
    rw [List.map_cons, List.sum_cons, List.length_cons, Nat.add_mul]; omega
theorem le_sum {α : Type} {f : α → Nat} : ∀ {l : List α}, (∀ x ∈ l, 1 ≤ f x) → l.length ≤ (l.map f).sum
  | [], _ => by simp
  | x :: l, h => by
    have h1 := h x List.mem_cons_self
    have h2 := le_sum (l := l) fun y hy => h y (List.mem_cons_of_mem _ hy)
    rw [List.map_cons, List.sum_cons, List.length_cons]; omega
theorem BfI.len {B : Nat} {rows : List Row} {k : Nat} (h : BfI W B sc st rows k) : rows.length ≤ WY.wt B W.net.scopes.length := by
  have h1 := h.wt
  have h2 := le_sum (f := fun r : Row => WY.wt B (W.net.scopes.length - r.ms.length)) (l := rows.drop k) fun x _ => wt_pos _
  have h3 := h.le
  rw [List.length_drop] at h2
  omega
theorem BfJ.step {rows : List Row} {k : Nat} (hW : WB W) (h0 : RowOk W ⟨[], sc, st⟩) (h : BfJ W sc st rows k) (hr : rows[k]? = some r) : BfJ W sc st (rows ++ longer W r) (k + 1) := by
  have hk := (List.getElem?_eq_some_iff.mp hr).1
  have hrm := List.mem_of_getElem? hr
  have hro := (h.go r hrm).ok hW h0
  refine ⟨by rw [List.length_append]; omega, fun x hx => ?_, List.mem_append_left _ h.hd, fun i x hi hx q hq => ?_, fun q hq => ?_, ?_⟩
  · rcases List.mem_append.mp hx with hx | hx
    · exact h.go x hx
    · exact .step (h.go r hrm) hx
  · by_cases c : i < k
    · rw [List.getElem?_append_left (by omega)] at hx
      exact List.mem_append_left _ (h.cl i x c hx q hq)
    · have : i = k := by omega
      subst this
      rw [List.getElem?_append_left hk, hr] at hx
      cases hx
      exact List.mem_append_right _ hq
  · rcases List.mem_append.mp hq with hq | hq
    · rcases h.fr q hq with e | ⟨i, x, h1, h2, h3⟩
      · exact .inl e
      · exact .inr ⟨i, x, by omega, by rw [List.getElem?_append_left (by omega)]; exact h2, h3⟩
    · exact .inr ⟨k, r, by omega, by rw [List.getElem?_append_left hk]; exact hr, hq⟩
  · refine List.nodup_append.mpr ⟨h.nd, lgrs_nodup, fun a ha b hb e => ?_⟩
    subst e
    obtain ⟨i, hi⟩ := longer_ms hb
    rcases h.fr a ha with e | ⟨j, x, h1, h2, h3⟩
    · rw [hi] at e; simp at e
    · obtain ⟨i2, hi2⟩ := longer_ms h3
      rw [hi] at hi2
      obtain ⟨e1, _⟩ := List.append_inj' hi2 rfl
      have e2 := (h.go r hrm).fn (h.go x (List.mem_of_getElem? h2)) e1
      subst e2
      have := (List.getElem?_inj (List.getElem?_eq_some_iff.mp h2).1 h.nd).mp (h2.trans hr.symm)
      omega
theorem BfI.step {B : Nat} {rows : List Row} {k : Nat} (hW : WB W) (hB : ∀ s ∈ W.net.scopes, s.1.length ≤ B) (h0 : RowOk W ⟨[], sc, st⟩) (h : BfI W B sc st rows k) (hr : rows[k]? = some r) : BfI W B sc st (rows ++ longer W r) (k + 1) := by
  have hk := (List.getElem?_eq_some_iff.mp hr).1
  have hrm := List.mem_of_getElem? hr
  have hro := (h.go r hrm).ok hW h0
  refine ⟨h.toBfJ.step hW h0 hr, ?_⟩
  have h1 := h.wt
  have e : rows.drop k = r :: rows.drop (k + 1) := by
    obtain ⟨_, e⟩ := List.getElem?_eq_some_iff.mp hr
    rw [← e]; exact List.drop_eq_getElem_cons hk
  rw [e, List.map_cons, List.sum_cons] at h1
  have hlen := hro.len
  rw [List.drop_append_of_le_length (by omega), List.map_append, List.sum_append]
  have h2 : ((longer W r).map fun r => WY.wt B (W.net.scopes.length - r.ms.length)).sum ≤ B * WY.wt B (W.net.scopes.length - r.ms.length - 1) := by
    have h3 := sum_le (f := fun r : Row => WY.wt B (W.net.scopes.length - r.ms.length)) (c := WY.wt B (W.net.scopes.length - r.ms.length - 1)) (l := longer W r) fun q hq => by
      obtain ⟨i, hi⟩ := longer_ms hq
      rw [hi, List.length_append, List.length_singleton, show W.net.scopes.length - (r.ms.length + 1) = W.net.scopes.length - r.ms.length - 1 by omega]
      exact Nat.le_refl _
    have h4 : (longer W r).length ≤ B := Nat.le_trans lgrs_len (hB _ (getI_mem (d := (([], []) : ND.Scope)) hro.sc))
    exact Nat.le_trans h3 (Nat.mul_le_mul_right _ h4)
  have h5 : WY.wt B (W.net.scopes.length - r.ms.length) = 1 + B * WY.wt B (W.net.scopes.length - r.ms.length - 1) := by
    rw [show W.net.scopes.length - r.ms.length = (W.net.scopes.length - r.ms.length - 1) + 1 by omega]
    rfl
  rw [h5] at h1
  omega
theorem BfJ.done {rows : List Row} (h : BfJ W sc st rows rows.length) : ∀ r, r ∈ rows ↔ Gone W sc st r := fun r => ⟨h.go r, fun g => by
  induction g with
  | nil => exact h.hd
  | step _ hq ih =>
    obtain ⟨i, hi⟩ := List.getElem?_of_mem ih
    exact h.cl i _ (List.getElem?_eq_some_iff.mp hi).1 hi _ hq⟩
theorem BfI.end_ {B : Nat} (hW : WB W) (hB : ∀ s ∈ W.net.scopes, s.1.length ≤ B) (h0 : RowOk W ⟨[], sc, st⟩) : ∀ (m : Nat) (rows : List Row) (k : Nat), BfI W B sc st rows k → WY.wt B W.net.scopes.length ≤ k + m → ∃ rows, BfI W B sc st rows rows.length
  | 0, rows, k, h, hm => by
    have h1 := h.len
    have h2 := h.le
    have e : k = rows.length := by omega
    subst e
    exact ⟨_, h⟩
  | m + 1, rows, k, h, hm => by
    by_cases c : k < rows.length
    · exact BfI.end_ hW hB h0 m _ _ (h.step hW hB h0 (List.getElem?_eq_getElem c)) (by omega)
    · have h2 := h.le
      have e : k = rows.length := by omega
      subst e
      exact ⟨_, h⟩
structure WOk (W : World) : Prop extends WB W where
  s40 : W.net.scopes.length ≤ 40
  tl : ∀ s ∈ W.net.scopes, s.1.length ≤ 12 ∧ s.2.length ≤ 12
  few : ∀ ans, ans.length = W.net.quests.length → (∀ x ∈ ans, AnsOk W.net.things.length x) → ∀ sc st : Int, 0 ≤ sc ∧ sc < W.net.scopes.length → 0 ≤ st ∧ st < W.tab.states.length →
    ∀ rs : List Row, rs.Nodup → (∀ r ∈ rs, Gone ⟨W.net, ans, W.tab⟩ sc st r) → rs.length ≤ 200
theorem WOk.few1 (h : WOk W) (h0 : RowOk W ⟨[], sc, st⟩) {rs : List Row} (nd : rs.Nodup) (hg : ∀ r ∈ rs, Gone W sc st r) : rs.length ≤ 200 := h.few W.ans h.len h.an sc st h0.sc h0.st rs nd hg
end
theorem eqv_mk (a b : Mk) : PyData.eqv (eMk a) (eMk b) = decide (a = b) := by
  obtain ⟨x, y⟩ := a
  obtain ⟨u, v⟩ := b
  simp [eMk, PyData.eqv, PyData.eqvAll]
  by_cases h : x = u <;> by_cases h2 : y = v <;> simp [h, h2]
theorem eqv_mks : ∀ a b : List Mk, PyData.eqvAll (a.map eMk) (b.map eMk) = decide (a = b)
  | [], [] => by simp [PyData.eqvAll]
  | [], b :: bs => by simp [PyData.eqvAll]
  | a :: as, [] => by simp [PyData.eqvAll]
  | a :: as, b :: bs => by
    rw [List.map_cons, List.map_cons, PyData.eqvAll, eqv_mk, eqv_mks as bs]
    by_cases h : a = b <;> by_cases h2 : as = bs <;> simp [h, h2]
theorem alike_mk (a b : Mk) : PySem.W.alike (eMk a) (eMk b) = true := by simp [eMk, PySem.W.alike, PySem.W.alikeAll]
theorem alike_mks : ∀ a b : List Mk, PySem.W.alikeAll (a.map eMk) (b.map eMk) = true
  | [], b => by cases b <;> simp [PySem.W.alikeAll]
  | a :: as, [] => by simp [PySem.W.alikeAll]
  | a :: as, b :: bs => by
    rw [List.map_cons, List.map_cons, PySem.W.alikeAll, alike_mk, alike_mks as bs]; rfl
theorem alike_row (a b : Row) : PySem.W.alike (eRow a) (eRow b) = true := by
  simp only [eRow, PySem.W.alike, PySem.W.alikeAll, alike_mks, Bool.and_self]
theorem eqv_row {a b : Row} (h : PyData.eqv (eRow a) (eRow b) = true) : a = b := by
  obtain ⟨x, y, z⟩ := a
  obtain ⟨u, v, w⟩ := b
  simp only [eRow, PyData.eqv, PyData.eqvAll, eqv_mks] at h
  simp at h
  obtain ⟨rfl, rfl, rfl⟩ := h
  rfl
end WY

set_option Elab.async false
set_option linter.all false
set_option maxRecDepth 100000
namespace KD
open PySem L2 PL
structure Kd (α : Type) where
  o : α → Ob
  d : Nat → α → D
  e : α → PyData
  r : α → RT
  vw : ∀ (S : Sto) (n : Nat) (a : α), S[n]? = some (o a) → Vw S (d n a) (e a)
  vr : ∀ (S : Sto) (U : List Nat) (n : Nat) (a : α), S[n]? = some (o a) → VR S U (d n a) (r a) [n]
  al : ∀ (a : α) (L : Nat), al (r a) L = (d L a, [o a])
section
variable {α : Type}
end
section
variable {α : Type} {k : Kd α} {S T : Sto} {ps : List (Nat × α)}
def Kd.dd (k : Kd α) (p : Nat × α) : D := k.d p.1 p.2
def In (k : Kd α) (S : Sto) (ps : List (Nat × α)) : Prop := ∀ p ∈ ps, S[p.1]? = some (k.o p.2)
theorem In.nil : In k S [] := fun _ h => by cases h
theorem In.tail {p : Nat × α} (h : In k S (p :: ps)) : In k S ps := fun q hq => h q (List.mem_cons_of_mem _ hq)
theorem In.vws' : ∀ {ps : List (Nat × α)}, In k S ps → Vws S (ps.map k.dd) (ps.map fun p => k.e p.2)
  | [], _ => .nil
  | p :: ps, h => .cons (k.vw _ _ _ (h p List.mem_cons_self)) (In.vws' h.tail)
theorem In.vws (h : In k S ps) {xs : List α} (e : ps.map (·.2) = xs) : Vws S (ps.map k.dd) (xs.map k.e) := by
  have := h.vws'
  rw [← e, List.map_map]; exact this
theorem In.keep {S2 : Sto} {U : List Nat} (h : In k S ps) (q : Keep U S S2) (d : ∀ p ∈ ps, p.1 ∉ U) : In k S2 ps := fun p hp => q _ _ (d p hp) (h p hp)
theorem In.app (h : In k S ps) : In k (S ++ T) ps := fun p hp => sto_app (h p hp)
theorem In.set {n : Nat} {o : Ob} (h : In k S ps) (d : ∀ p ∈ ps, p.1 ≠ n) : In k (S.set n o) ps := fun p hp => by
  rw [List.getElem?_set_ne (fun e => d p hp e.symm)]; exact h p hp
theorem In.snoc {p : Nat × α} (h : In k S ps) (q : S[p.1]? = some (k.o p.2)) : In k S (ps ++ [p]) := fun x hx => by
  rcases List.mem_append.mp hx with hx | hx
  · exact h x hx
  · simp at hx; subst hx; exact q
theorem In.lt (h : In k S ps) : ∀ p ∈ ps, p.1 < S.length := fun p hp => (List.getElem?_eq_some_iff.mp (h p hp)).1
structure Got (k : Kd α) (S S2 : Sto) (n : Nat) (ps : List (Nat × α)) (rs : List α) : Prop where
  old : ∀ (m : Nat) (o : Ob), S[m]? = some o → S2[m]? = some o
  l : S2[n]? = some (.lst (ps.map k.dd))
  i : In k S2 ps
  s : ps.map (·.2) = rs
  nd : (ps.map (·.1)).Nodup
  b : ∀ p ∈ ps, S.length ≤ p.1 ∧ p.1 < n
  n : S.length ≤ n
theorem Got.len {S2 : Sto} {n : Nat} {rs : List α} (h : Got k S S2 n ps rs) : ps.length = rs.length := by rw [← h.s, List.length_map]
theorem Got.vw {S2 : Sto} {n : Nat} {rs : List α} (h : Got k S S2 n ps rs) : Vw S2 (.r n) (.list (rs.map k.e)) := .r h.l (h.i.vws h.s)
end
end KD

set_option Elab.async false
set_option linter.all false
set_option maxRecDepth 100000
namespace KD
open PySem L2 PL
structure Put {α : Type} (k : Kd α) (S2 S : Sto) (n0 : Nat) (qs : List (Nat × α)) (xs : List α) : Prop where
  l : S[n0]? = some (.lst (qs.map k.dd))
  i : In k S qs
  e : qs.map (·.2) = xs
  nd : (qs.map (·.1)).Nodup
  b : ∀ q ∈ qs, S2.length ≤ q.1
  k : Keep [n0] S2 S
  z : n0 < S2.length
variable {α : Type} {k : Kd α}
theorem Put.new {S : Sto} {n0 : Nat} (h : S[n0]? = some (.lst [])) : Put k S S n0 [] [] := ⟨h, .nil, rfl, List.nodup_nil, fun _ h => (by cases h), .refl, (List.getElem?_eq_some_iff.mp h).1⟩
theorem Put.len {S2 S : Sto} {n0 : Nat} {qs : List (Nat × α)} {xs : List α} (h : Put k S2 S n0 qs xs) : qs.length = xs.length := by rw [← h.e, List.length_map]
theorem Put.le {S2 S : Sto} {n0 : Nat} {qs : List (Nat × α)} {xs : List α} (h : Put k S2 S n0 qs xs) : S2.length ≤ S.length := by
  have hn := (List.getElem?_eq_some_iff.mp h.l).1
  by_cases c : S2.length ≤ 1
  · have := h.z; omega
  · by_cases c2 : n0 = S2.length - 1
    · have := h.z; omega
    · have h3 : S2.length - 1 < S2.length := by omega
      have := h.k (S2.length - 1) _ (by simp; omega) (List.getElem?_eq_getElem h3)
      have := (List.getElem?_eq_some_iff.mp this).1
      omega
theorem Put.app {S2 S T : Sto} {n0 : Nat} {qs : List (Nat × α)} {xs : List α} (h : Put k S2 S n0 qs xs) : Put k S2 (S ++ T) n0 qs xs := ⟨sto_app h.l, h.i.app, h.e, h.nd, h.b, h.k.trans .app, h.z⟩
theorem Put.push1 {S2 S : Sto} {n0 : Nat} {qs : List (Nat × α)} {xs : List α} (h : Put k S2 S n0 qs xs) {ob : Ob} {w : α} {d : D} (ho : ob = k.o w) (hd : d = k.d S.length w) :
    Put k S2 ((S ++ [ob]).set n0 (.lst (qs.map k.dd ++ [d]))) n0 (qs ++ [(S.length, w)]) (xs ++ [w]) := by
  subst ho; subst hd
  have hn := (List.getElem?_eq_some_iff.mp h.l).1
  have lt := h.i.lt
  have hz := h.le
  refine ⟨?_, ?_, by rw [List.map_append, h.e]; rfl, ?_, fun q hq => ?_, (h.k.trans Keep.app).trans (Keep.set (by simp)), h.z⟩
  · rw [List.getElem?_set_self (by rw [List.length_append]; omega), List.map_append]; rfl
  · refine In.snoc ((h.i.app).set fun q hq => by have := h.b q hq; have := h.z; omega) ?_
    rw [List.getElem?_set_ne (fun z : n0 = S.length => by omega)]
    exact sto_last
  · rw [List.map_append]
    refine List.nodup_append.mpr ⟨h.nd, by simp, fun a ha b hb e => ?_⟩
    obtain ⟨p, hp, rfl⟩ := List.mem_map.mp ha
    have := lt p hp
    simp at hb
    omega
  · rcases List.mem_append.mp hq with hq | hq
    · exact h.b q hq
    · simp at hq; subst hq; dsimp only; omega
theorem Put.push {S2 S : Sto} {n0 : Nat} {qs : List (Nat × α)} {xs : List α} (h : Put k S2 S n0 qs xs) {lit ob : Ob} {w : α} {d : D} (ho : ob = k.o w) (hd : d = k.d (S.length + 1) w) :
    Put k S2 ((S ++ [lit] ++ [ob]).set n0 (.lst (qs.map k.dd ++ [d]))) n0 (qs ++ [(S.length + 1, w)]) (xs ++ [w]) := by
  have := (h.app (T := [lit])).push1 (d := d) ho (by rw [hd, List.length_append]; rfl)
  rw [List.length_append] at this
  exact this
end KD

set_option Elab.async false
set_option linter.all false
set_option maxRecDepth 100000
namespace WY
open PySem L2 PL ND
structure TMk where
  sc : Int
  told : Bool
  ix : Int
  deriving DecidableEq
def tword (b : Bool) : Str := if b = true then "told" else "step"
def eTM (m : TMk) : PyData := .tuple [.int m.sc, .str (tword m.told), .int m.ix]
def stepM (m : Mk) : TMk := ⟨m.sc, false, m.ix⟩
abbrev Way := List TMk
def eWay (w : Way) : PyData := .list (w.map eTM)
def eOwe (p : Way × Int) : PyData := .tuple [eWay p.1, .int p.2]
def picks {α β : Type} (f : Nat → α → Option β) : Nat → List α → List β
  | _, [] => []
  | i, x :: xs => (f i x).toList ++ picks f (i + 1) xs
section
variable {α β : Type} {f : Nat → α → Option β}
theorem mem_picks {q : β} : ∀ {xs : List α} {i : Nat}, q ∈ picks f i xs ↔ ∃ j x, xs[j]? = some x ∧ f (i + j) x = some q
  | [], i => by simp [picks]
  | y :: xs, i => by
    unfold picks
    rw [List.mem_append, mem_picks (xs := xs)]
    constructor
    · rintro (h | ⟨j, x, h1, h2⟩)
      · exact ⟨0, y, rfl, by simpa using h⟩
      · exact ⟨j + 1, x, by simpa using h1, by rw [← h2, show i + (j + 1) = i + 1 + j by omega]⟩
    · rintro ⟨j, x, h1, h2⟩
      cases j with
      | zero => simp at h1; subst h1; exact .inl (by simpa using h2)
      | succ j => exact .inr ⟨j, x, by simpa using h1, by rw [← h2, show i + (j + 1) = i + 1 + j by omega]⟩
theorem picks_len : ∀ {xs : List α} {i : Nat}, (picks f i xs).length ≤ xs.length
  | [], i => Nat.le_refl _
  | y :: xs, i => by
    unfold picks
    rw [List.length_append, List.length_cons]
    have := picks_len (xs := xs) (i := i + 1)
    cases f i y <;> simp <;> omega
theorem flat_len {γ : Type} {g : α → List γ} {n : Nat} : ∀ {xs : List α}, (∀ x ∈ xs, (g x).length ≤ n) → (xs.flatMap g).length ≤ xs.length * n
  | [], _ => by simp
  | x :: xs, h => by
    rw [List.flatMap_cons, List.length_append, List.length_cons, Nat.add_mul]
    have := flat_len (xs := xs) fun y hy => h y (List.mem_cons_of_mem _ hy)
    have := h x List.mem_cons_self
    omega
end
def endsB (t : TB.XTab) (st : Int) (l : Str) : Bool := decide (l ∈ (getI t.states ([], []) st).2)
def fnd (W : World) (nm : Str) (r : Row) (i : Nat) (x : ND.Tell) : Option Way := if x.name = nm ∧ endsB W.tab r.st x.lab = true then some (r.ms.map stepM ++ [⟨r.sc, true, i⟩]) else none
def finds (W : World) (nm : Str) (r : Row) : List Way := picks (fnd W nm r) 0 (tells W r.sc)
def owd (W : World) (r : Row) (i : Nat) (x : ND.Step) : Option (Way × Int) := match nextS W.tab r.st x.lab with
  | none => none
  | some _ => match goal W.net W.ans x with
    | .opn q => some (r.ms.map stepM ++ [⟨r.sc, false, i⟩], q)
    | _ => none
def owes (W : World) (r : Row) : List (Way × Int) := picks (owd W r) 0 (steps W r.sc)
theorem fnd_some {W : World} {nm : Str} {r : Row} {i : Nat} {x : ND.Tell} {w : Way} (h : fnd W nm r i x = some w) : x.name = nm ∧ endsB W.tab r.st x.lab = true ∧ w = r.ms.map stepM ++ [⟨r.sc, true, i⟩] := by
  unfold fnd at h
  split at h
  · rename_i c; cases h; exact ⟨c.1, c.2, rfl⟩
  · cases h
theorem owd_some {W : World} {r : Row} {i : Nat} {x : ND.Step} {p : Way × Int} (h : owd W r i x = some p) : (∃ t, nextS W.tab r.st x.lab = some t) ∧ goal W.net W.ans x = .opn p.2 ∧ p.1 = r.ms.map stepM ++ [⟨r.sc, false, i⟩] := by
  unfold owd at h
  cases h1 : nextS W.tab r.st x.lab with
  | none => rw [h1] at h; cases h
  | some t =>
    rw [h1] at h
    dsimp only at h
    cases h2 : goal W.net W.ans x with
    | to n => rw [h2] at h; cases h
    | no => rw [h2] at h; cases h
    | opn q => rw [h2] at h; cases h; exact ⟨⟨t, rfl⟩, rfl, rfl⟩
theorem mem_finds {W : World} {nm : Str} {r : Row} {w : Way} (h : w ∈ finds W nm r) : ∃ (i : Nat) (x : ND.Tell), (tells W r.sc)[i]? = some x ∧ x.name = nm ∧ endsB W.tab r.st x.lab = true ∧ w = r.ms.map stepM ++ [⟨r.sc, true, i⟩] := by
  obtain ⟨j, x, h1, h2⟩ := mem_picks.mp h
  rw [Nat.zero_add] at h2
  exact ⟨j, x, h1, fnd_some h2⟩
theorem mem_owes {W : World} {r : Row} {p : Way × Int} (h : p ∈ owes W r) : ∃ (i : Nat) (x : ND.Step), (steps W r.sc)[i]? = some x ∧ (∃ t, nextS W.tab r.st x.lab = some t) ∧ goal W.net W.ans x = .opn p.2 ∧ p.1 = r.ms.map stepM ++ [⟨r.sc, false, i⟩] := by
  obtain ⟨j, x, h1, h2⟩ := mem_picks.mp h
  rw [Nat.zero_add] at h2
  exact ⟨j, x, h1, owd_some h2⟩
theorem finds_len {W : World} (h : WOk W) {nm : Str} {r : Row} (hr : RowOk W r) : (finds W nm r).length ≤ 12 :=
  Nat.le_trans picks_len (h.tl _ (getI_mem (d := (([], []) : ND.Scope)) hr.sc)).2
theorem tword_inj {a b : Bool} (h : tword a = tword b) : a = b := by
  cases a <;> cases b <;> first | rfl | exact absurd h (by decide +kernel)
theorem eqv_tm (a b : TMk) : PyData.eqv (eTM a) (eTM b) = decide (a = b) := by
  obtain ⟨x, s, y⟩ := a
  obtain ⟨u, t, v⟩ := b
  simp only [eTM, PyData.eqv, PyData.eqvAll]
  by_cases h : x = u
  · by_cases h2 : y = v
    · by_cases h3 : s = t
      · subst h; subst h2; subst h3; simp
      · have : tword s ≠ tword t := fun z => h3 (tword_inj z)
        simp [h, h2, h3, this]
    · simp [h, h2]
  · simp [h]
theorem eqv_tms : ∀ a b : List TMk, PyData.eqvAll (a.map eTM) (b.map eTM) = decide (a = b)
  | [], [] => by simp [PyData.eqvAll]
  | [], b :: bs => by simp [PyData.eqvAll]
  | a :: as, [] => by simp [PyData.eqvAll]
  | a :: as, b :: bs => by
    rw [List.map_cons, List.map_cons, PyData.eqvAll, eqv_tm, eqv_tms as bs]
    by_cases h : a = b <;> by_cases h2 : as = bs <;> simp [h, h2]
theorem eqv_way (a b : Way) : PyData.eqv (eWay a) (eWay b) = decide (a = b) := by
  unfold eWay
  rw [PyData.eqv]; exact eqv_tms a b
theorem alike_tm (a b : TMk) : PySem.W.alike (eTM a) (eTM b) = true := by simp [eTM, PySem.W.alike, PySem.W.alikeAll]
theorem alike_tms : ∀ a b : List TMk, PySem.W.alikeAll (a.map eTM) (b.map eTM) = true
  | [], b => by cases b <;> simp [PySem.W.alikeAll]
  | a :: as, [] => by simp [PySem.W.alikeAll]
  | a :: as, b :: bs => by
    rw [List.map_cons, List.map_cons, PySem.W.alikeAll, alike_tm, alike_tms as bs]; rfl
theorem alike_way (a b : Way) : PySem.W.alike (eWay a) (eWay b) = true := by
  unfold eWay
  simp only [PySem.W.alike]; exact alike_tms a b
abbrev zT (m : TMk) : D := .z (eTM m)
def sortY (ws : List Way) : List Way := ws.mergeSort (PySem.W.dataLe false eWay)
def sortO (ws : List (Way × Int)) : List (Way × Int) := ws.mergeSort (PySem.W.dataLe false eOwe)
theorem mem_sortY {w : Way} {ws : List Way} : w ∈ sortY ws ↔ w ∈ ws := (List.mergeSort_perm ws _).mem_iff
theorem mem_sortO {w : Way × Int} {ws : List (Way × Int)} : w ∈ sortO ws ↔ w ∈ ws := (List.mergeSort_perm ws _).mem_iff
end WY

set_option Elab.async false
set_option linter.all false
set_option maxRecDepth 100000
namespace WY
open PySem L2 PL ND
def rowLen (s : ND.Scope) (b : Bool) : Nat := if b = true then s.2.length else s.1.length
structure MkIn (n : Net) (m : TMk) : Prop where
  s : 0 ≤ m.sc ∧ m.sc < n.scopes.length
  i : 0 ≤ m.ix ∧ m.ix < rowLen (getI n.scopes ([], []) m.sc) m.told
def noS : ND.Step := ⟨⟨#[]⟩, false, 0⟩
def noT : ND.Tell := ⟨⟨#[]⟩, ⟨#[]⟩, false, 0⟩
def labM (n : Net) (m : TMk) : Str := if m.told = true then (getI (getI n.scopes ([], []) m.sc).2 noT m.ix).lab else (getI (getI n.scopes ([], []) m.sc).1 noS m.ix).lab
def hidesZ (n : Net) (od : List OR.Pr) : List (TMk × TMk) → Bool
  | [] => false
  | (a, b) :: r => if a = b then hidesZ n od r else decide ((labM n a, labM n b) ∈ od)
def hidesB (n : Net) (od : List OR.Pr) (a b : Way) : Bool := hidesZ n od (a.zip b)
def WayIn (n : Net) (w : Way) : Prop := (∀ m ∈ w, MkIn n m) ∧ w.length ≤ 41
theorem row_in {W : World} (h : WOk W) {r : Row} (hr : RowOk W r) : ∀ m ∈ r.ms.map stepM, MkIn W.net m := fun m hm => by
  obtain ⟨k, hk, rfl⟩ := List.mem_map.mp hm
  have := hr.ms k hk
  exact ⟨this.1, this.2⟩
theorem finds_in {W : World} (h : WOk W) {nm : Str} {r : Row} (hr : RowOk W r) {w : Way} (hw : w ∈ finds W nm r) : WayIn W.net w := by
  obtain ⟨i, x, h1, _, _, rfl⟩ := mem_finds hw
  have hl := hr.len
  have h9 := h.s40
  refine ⟨fun m hm => ?_, by rw [List.length_append, List.length_map, List.length_singleton]; omega⟩
  rcases List.mem_append.mp hm with hm | hm
  · exact row_in h hr m hm
  · simp at hm; subst hm
    exact ⟨hr.sc, Int.natCast_nonneg i, Int.ofNat_lt.mpr (List.getElem?_eq_some_iff.mp h1).1⟩
end WY

set_option Elab.async false
set_option linter.all false
set_option maxRecDepth 100000
namespace WY
open PySem L2 PL ND
section
variable {n : Net} {od : List OR.Pr}
theorem hides_nil {b : Way} : hidesB n od [] b = false := by cases b <;> rfl
theorem hides_nil2 {a : Way} : hidesB n od a [] = false := by cases a <;> rfl
theorem hides_cons {x y : TMk} {a b : Way} : hidesB n od (x :: a) (y :: b) = if x = y then hidesB n od a b else decide ((labM n x, labM n y) ∈ od) := rfl
theorem hides_iff : ∀ {a b : Way}, hidesB n od a b = true ↔ ∃ pre x y ra rb, a = pre ++ x :: ra ∧ b = pre ++ y :: rb ∧ x ≠ y ∧ (labM n x, labM n y) ∈ od
  | [], b => by
    rw [hides_nil]
    refine ⟨fun h => (by cases h), fun ⟨pre, x, y, ra, rb, h, _⟩ => by cases pre <;> cases h⟩
  | x :: a, [] => by
    rw [hides_nil2]
    refine ⟨fun h => (by cases h), fun ⟨pre, x, y, ra, rb, _, h, _⟩ => by cases pre <;> cases h⟩
  | x :: a, y :: b => by
    rw [hides_cons]
    by_cases e : x = y
    · rw [if_pos e, hides_iff (a := a) (b := b)]
      subst e
      constructor
      · rintro ⟨pre, u, v, ra, rb, rfl, rfl, h1, h2⟩
        exact ⟨x :: pre, u, v, ra, rb, rfl, rfl, h1, h2⟩
      · rintro ⟨pre, u, v, ra, rb, h1, h2, h3, h4⟩
        cases pre with
        | nil => cases h1; cases h2; exact absurd rfl h3
        | cons p pre => cases h1; cases h2; exact ⟨pre, u, v, ra, rb, rfl, rfl, h3, h4⟩
    · rw [if_neg e, decide_eq_true_iff]
      constructor
      · intro h; exact ⟨[], x, y, a, b, rfl, rfl, e, h⟩
      · rintro ⟨pre, u, v, ra, rb, h1, h2, h3, h4⟩
        cases pre with
        | nil => cases h1; cases h2; exact h4
        | cons p pre => cases h1; cases h2; exact absurd rfl e
structure OdOk (od : List OR.Pr) : Prop where
  nr : ∀ p ∈ od, p.1 ≠ p.2
  tr : ∀ p ∈ od, ∀ q ∈ od, p.2 = q.1 → (p.1, q.2) ∈ od
theorem TOk.odk {t : TB.XTab} (h : TOk t) : OdOk t.order := ⟨h.nr, h.tr⟩
theorem hides_tr (ho : OdOk od) : ∀ {a b c : Way}, hidesB n od a b = true → hidesB n od b c = true → hidesB n od a c = true
  | [], b, c, h, _ => by rw [hides_nil] at h; cases h
  | x :: a, [], c, h, _ => by rw [hides_nil2] at h; cases h
  | x :: a, y :: b, [], _, h => by rw [hides_nil2] at h; cases h
  | x :: a, y :: b, z :: c, h1, h2 => by
    rw [hides_cons] at h1 h2 ⊢
    by_cases e1 : x = y
    · subst e1
      rw [if_pos rfl] at h1
      by_cases e2 : x = z
      · subst e2
        rw [if_pos rfl] at h2 ⊢
        exact hides_tr ho h1 h2
      · rw [if_neg e2] at h2 ⊢; exact h2
    · rw [if_neg e1] at h1
      have h1' := of_decide_eq_true h1
      by_cases e2 : y = z
      · subst e2
        rw [if_neg e1]; exact h1
      · rw [if_neg e2] at h2
        have h2' := of_decide_eq_true h2
        have h3 := ho.tr _ h1' _ h2' rfl
        have e3 : x ≠ z := fun e => by subst e; exact ho.nr _ h3 rfl
        rw [if_neg e3]
        exact decide_eq_true h3
def noneB (n : Net) (od : List OR.Pr) (ws : List Way) (w : Way) : Bool := ws.all fun v => !hidesB n od v w
def seenB (n : Net) (od : List OR.Pr) (ws : List Way) : List Way := ws.filter fun w => noneB n od ws w
theorem noneB_iff {ws : List Way} {w : Way} : noneB n od ws w = true ↔ ∀ v ∈ ws, hidesB n od v w = false := by
  unfold noneB
  rw [List.all_eq_true]
  exact ⟨fun h v hv => by have := h v hv; simpa using this, fun h v hv => by rw [h v hv]; rfl⟩
theorem mem_seen {ws : List Way} {w : Way} : w ∈ seenB n od ws ↔ w ∈ ws ∧ ∀ v ∈ ws, hidesB n od v w = false := by
  unfold seenB
  rw [List.mem_filter, noneB_iff]
abbrev Lb := Way × Str
def lbsOf (n : Net) (w : Way) : List Lb := w.mapIdx fun k m => (w.take k, labM n m)
end
def keyM (m : TMk) : NestedKey := .tup [.num m.sc, .text (tword m.told), .num m.ix]
def keyW (w : Way) : NestedKey := .tup (w.map keyM)
theorem nk_tm (m : TMk) : nkOf (eTM m) = some (keyM m) := rfl
theorem nks_tms : ∀ w : Way, nksOf (w.map eTM) = some (w.map keyM)
  | [] => rfl
  | m :: w => by
    rw [List.map_cons, nksOf, nk_tm, nks_tms w]; rfl
theorem keyM_depth (m : TMk) : (keyM m).depth ≤ 2 := by simp [keyM, NestedKey.depth, NestedKey.depthAll]
theorem keysM_depth : ∀ w : Way, NestedKey.depthAll (w.map keyM) ≤ 2
  | [] => by simp [NestedKey.depthAll]
  | m :: w => by
    rw [List.map_cons, NestedKey.depthAll]
    have := keyM_depth m
    have := keysM_depth w
    omega
theorem keyN_way (w : Way) : keyN (.z (.tuple (w.map eTM))) = some (keyW w) := by
  show ((nksOf (w.map eTM)).bind fun ks => if (NestedKey.tup ks).depth ≤ 8 then some (NestedKey.tup ks) else none) = _
  rw [nks_tms]
  dsimp only [Option.bind]
  rw [if_pos]
  · rfl
  · have := keysM_depth w
    rw [NestedKey.depth]; omega
theorem keyM_inj {a b : TMk} (h : keyM a = keyM b) : a = b := by
  obtain ⟨x, s, y⟩ := a
  obtain ⟨u, t, v⟩ := b
  simp [keyM] at h
  obtain ⟨rfl, h2, rfl⟩ := h
  rw [tword_inj h2]
theorem keyW_inj {a b : Way} (h : keyW a = keyW b) : a = b := by
  simp only [keyW, NestedKey.tup.injEq] at h
  induction a generalizing b with
  | nil => cases b with
    | nil => rfl
    | cons y b => cases h
  | cons x a ih =>
    cases b with
    | nil => cases h
    | cons y b =>
      rw [List.map_cons, List.map_cons] at h
      injection h with h1 h2
      rw [keyM_inj h1, ih h2]
end WY

set_option Elab.async false
set_option linter.all false
set_option maxRecDepth 100000
namespace WY
open PySem L2 PL ND
abbrev zL (l : Str) : D := .z (.str l)
theorem zL_inj {a b : List Str} (h : a.map zL = b.map zL) : a = b := by
  induction a generalizing b with
  | nil =>
    cases b with
    | nil => rfl
    | cons y b => cases h
  | cons x a ih =>
    cases b with
    | nil => cases h
    | cons y b =>
      rw [List.map_cons, List.map_cons] at h
      injection h with h1 h2
      injection h1 with h1
      injection h1 with h1
      rw [h1, ih h2]
theorem kAt_keys (p : Way) : ∀ es : List (Way × Nat), kAt (es.map fun e => (keyW e.1, D.r e.2)) (keyW p) = (es.find? fun e => decide (e.1 = p)).map fun e => .r e.2
  | [] => rfl
  | e :: es => by
    have ih := kAt_keys p es
    unfold kAt at ih ⊢
    rw [List.map_cons, List.find?_cons, List.find?_cons]
    by_cases c : e.1 = p
    · simp [c]
    · have c2 : keyW e.1 ≠ keyW p := fun z => c (keyW_inj z)
      simp only [c, c2, decide_false]
      exact ih
structure LbX (hx : HX) (b : Nat) (S : Sto) (m c : Nat) (T : List Lb) (es : List (Way × Nat)) : Prop where
  kd : KdAt hx S m (es.map fun e => (keyW e.1, D.r e.2))
  n1 : (es.map (·.1)).Nodup
  n2 : (es.map (·.2)).Nodup
  le : es.length ≤ c
  at_ : ∀ e ∈ es, b ≤ e.2 ∧ e.2 ≠ m ∧ ∃ ls : List Str, S[e.2]? = some (.lst (ls.map zL)) ∧ ls.length ≤ c ∧ ∀ l, l ∈ ls ↔ (e.1, l) ∈ T
  all : ∀ p l, (p, l) ∈ T → p ∈ es.map (·.1)
section
variable {hx : HX} {b : Nat} {S S' : Sto} {m c : Nat} {T : List Lb} {es : List (Way × Nat)}
theorem KdAt.keep {kvs : List (NestedKey × D)} (h : KdAt hx S m kvs) (k : ∀ o, S[m]? = some o → S'[m]? = some o) : KdAt hx S' m kvs := by
  cases h with
  | kd e => exact .kd (k _ e)
  | nil e => exact .nil (k _ e)
theorem KdAt.lt {kvs : List (NestedKey × D)} (h : KdAt hx S m kvs) : m < S.length := by
  cases h with
  | kd e => exact (List.getElem?_eq_some_iff.mp e).1
  | nil e => exact (List.getElem?_eq_some_iff.mp e).1
theorem LbX.new (h : S[m]? = some (.dic [])) : LbX hx b S m 0 [] [] := ⟨.nil h, List.nodup_nil, List.nodup_nil, Nat.le_refl _, fun _ h => (by cases h), fun _ _ h => (by cases h)⟩
theorem LbX.keep (h : LbX hx b S m c T es) {U : List Nat} (k : Keep U S S') (hm : m ∉ U) (he : ∀ e ∈ es, e.2 ∉ U) : LbX hx b S' m c T es :=
  ⟨KdAt.keep h.kd fun o e => k m o hm e, h.n1, h.n2, h.le, fun e hem => by
    obtain ⟨h1, h2, ls, h3, h4⟩ := h.at_ e hem
    exact ⟨h1, h2, ls, k _ _ (he e hem) h3, h4⟩, h.all⟩
theorem LbX.app (h : LbX hx b S m c T es) {R : Sto} : LbX hx b (S ++ R) m c T es := h.keep (U := []) .app (by simp) (by simp)
theorem LbX.mono (h : LbX hx b S m c T es) {c' : Nat} (hc : c ≤ c') : LbX hx b S m c' T es := ⟨h.kd, h.n1, h.n2, Nat.le_trans h.le hc, fun e he => by
  obtain ⟨h1, h2, ls, h3, h4, h5⟩ := h.at_ e he
  exact ⟨h1, h2, ls, h3, Nat.le_trans h4 hc, h5⟩, h.all⟩
theorem LbX.key (h : LbX hx b S m c T es) (p : Way) : (kAt (es.map fun e => (keyW e.1, D.r e.2)) (keyW p) = none ∧ p ∉ es.map (·.1) ∧ ∀ l, (p, l) ∉ T) ∨
    ∃ n, (p, n) ∈ es ∧ kAt (es.map fun e => (keyW e.1, D.r e.2)) (keyW p) = some (.r n) := by
  rw [kAt_keys]
  cases e : es.find? fun e => decide (e.1 = p) with
  | none =>
    have hn : p ∉ es.map (·.1) := fun hm => by
      obtain ⟨x, hx, hp⟩ := List.mem_map.mp hm
      have := List.find?_eq_none.mp e x hx
      simp [hp] at this
    exact .inl ⟨rfl, hn, fun l hl => hn (h.all p l hl)⟩
  | some x =>
    have h1 := List.mem_of_find?_eq_some e
    have h2 := List.find?_some e
    have h2 : x.1 = p := of_decide_eq_true h2
    obtain ⟨x1, x2⟩ := x
    subst h2
    exact .inr ⟨x2, h1, rfl⟩
theorem LbX.fresh (h : LbX hx b S m c T es) {p : Way} {n : Nat} (hp : p ∉ es.map (·.1)) (hT : ∀ l, (p, l) ∉ T) (hn : S[n]? = some (.lst [])) (hb : b ≤ n) (hne : n ≠ m) (hnew : ∀ e ∈ es, e.2 ≠ n) :
    LbX hx b (S.set m (.kd hx ((es.map fun e => (keyW e.1, D.r e.2)) ++ [(keyW p, .r n)]))) m (c + 1) T (es ++ [(p, n)]) := by
  have hlt := KdAt.lt h.kd
  refine ⟨.kd ?_, ?_, ?_, ?_, fun e he => ?_, fun q l hl => ?_⟩
  · rw [List.getElem?_set_self hlt, List.map_append]; rfl
  · rw [List.map_append]
    exact List.nodup_append.mpr ⟨h.n1, by simp, fun a ha x hx e => by simp at hx; subst hx; subst e; exact hp ha⟩
  · rw [List.map_append]
    refine List.nodup_append.mpr ⟨h.n2, by simp, fun a ha x hx e => ?_⟩
    simp at hx; subst hx; subst e
    obtain ⟨y, hy, e⟩ := List.mem_map.mp ha
    exact hnew y hy e
  · have := h.le; rw [List.length_append, List.length_singleton]; omega
  · rcases List.mem_append.mp he with he | he
    · obtain ⟨h1, h2, ls, h3, h4, h5⟩ := h.at_ e he
      exact ⟨h1, h2, ls, by rw [List.getElem?_set_ne (Ne.symm h2)]; exact h3, by omega, h5⟩
    · simp at he; subst he
      refine ⟨hb, hne, [], by rw [List.getElem?_set_ne (Ne.symm hne)]; exact hn, by simp, fun l => ⟨fun z => (by cases z), fun z => absurd z (hT l)⟩⟩
  · rw [List.map_append]; exact List.mem_append_left _ (h.all q l hl)
theorem LbX.hit (h : LbX hx b S m c T es) {p : Way} {n : Nat} {l : Str} {ls : List Str} (hp : (p, n) ∈ es) (hls : S[n]? = some (.lst (ls.map zL))) (hl : l ∈ ls) : LbX hx b S m c (T ++ [(p, l)]) es := by
  have hz : (p, l) ∈ T := by
    obtain ⟨_, _, ls2, h3, _, h5⟩ := h.at_ _ hp
    have e : ls2 = ls := by
      have : ls2.map zL = ls.map zL := by
        have := h3.symm.trans hls
        simpa using this
      exact zL_inj this
    subst e
    exact (h5 l).mp hl
  refine ⟨h.kd, h.n1, h.n2, h.le, fun e he => ?_, fun q k hk => ?_⟩
  · obtain ⟨h1, h2, ls, h3, h4, h5⟩ := h.at_ e he
    refine ⟨h1, h2, ls, h3, h4, fun k => ?_⟩
    rw [h5 k, List.mem_append, List.mem_singleton]
    exact ⟨.inl, fun z => z.elim id fun e2 => by rw [e2]; exact hz⟩
  · rcases List.mem_append.mp hk with hk | hk
    · exact h.all q k hk
    · simp at hk; obtain ⟨rfl, rfl⟩ := hk; exact h.all _ _ hz
theorem LbX.put (h : LbX hx b S m c T es) {p : Way} {n : Nat} {l : Str} {ls : List Str} (hp : (p, n) ∈ es) (hls : S[n]? = some (.lst (ls.map zL))) : LbX hx b (S.set n (.lst (ls.map zL ++ [zL l]))) m (c + 1) (T ++ [(p, l)]) es := by
  obtain ⟨hb, hne, ls2, h3, h4, h5⟩ := h.at_ _ hp
  have e : ls2 = ls := by
    have : ls2.map zL = ls.map zL := by
      have := h3.symm.trans hls
      simpa using this
    exact zL_inj this
  subst e
  have hlt := (List.getElem?_eq_some_iff.mp hls).1
  refine ⟨KdAt.keep h.kd fun o e => by rw [List.getElem?_set_ne hne]; exact e, h.n1, h.n2, Nat.le_succ_of_le h.le, fun e he => ?_, fun q k hk => ?_⟩
  · obtain ⟨g1, g2, ks, g3, g4, g5⟩ := h.at_ e he
    by_cases ce : e.2 = n
    · have ee : e = (p, n) := by
        obtain ⟨i, hi⟩ := List.getElem?_of_mem he
        obtain ⟨j, hj⟩ := List.getElem?_of_mem hp
        have hi2 : (es.map (·.2))[i]? = some n := by rw [List.getElem?_map, hi]; simp [ce]
        have hj2 : (es.map (·.2))[j]? = some n := by rw [List.getElem?_map, hj]; rfl
        have := (List.getElem?_inj (List.getElem?_eq_some_iff.mp hi2).1 h.n2).mp (hi2.trans hj2.symm)
        subst this
        exact Option.some.inj (hi.symm.trans hj)
      subst ee
      refine ⟨g1, g2, ls2 ++ [l], ?_, by rw [List.length_append, List.length_singleton]; omega, fun k => ?_⟩
      · dsimp only
        rw [List.getElem?_set_self hlt, List.map_append]; rfl
      · rw [List.mem_append, List.mem_append, h5 k, List.mem_singleton, List.mem_singleton]
        exact ⟨fun z => z.imp id fun e2 => by rw [e2], fun z => z.imp id fun e2 => by injection e2⟩
    · refine ⟨g1, g2, ks, by rw [List.getElem?_set_ne (Ne.symm ce)]; exact g3, by omega, fun k => ?_⟩
      rw [g5 k, List.mem_append, List.mem_singleton]
      refine ⟨.inl, fun z => z.elim id fun e2 => ?_⟩
      injection e2 with e3 e4
      have ee : e = (p, n) := by
        obtain ⟨i, hi⟩ := List.getElem?_of_mem he
        obtain ⟨j, hj⟩ := List.getElem?_of_mem hp
        have hi2 : (es.map (·.1))[i]? = some p := by rw [List.getElem?_map, hi]; simp [e3]
        have hj2 : (es.map (·.1))[j]? = some p := by rw [List.getElem?_map, hj]; rfl
        have := (List.getElem?_inj (List.getElem?_eq_some_iff.mp hi2).1 h.n1).mp (hi2.trans hj2.symm)
        subst this
        exact Option.some.inj (hi.symm.trans hj)
      exact absurd (by rw [ee]) ce
  · rcases List.mem_append.mp hk with hk | hk
    · exact h.all q k hk
    · simp at hk; obtain ⟨rfl, rfl⟩ := hk
      exact List.mem_map.mpr ⟨_, hp, rfl⟩
theorem LbX.get {K0 : K1} (h : LbX hx b S m c T es) {p : Way} {n : Nat} (hn : S[n]? = some (.lst []))
    (k : ∀ (q : Nat) (ls : List Str), S[q]? = some (.lst (ls.map zL)) → (∀ l, l ∈ ls ↔ (p, l) ∈ T) → K0 (.r q) S) : KGet hx (.r m) (.z (.tuple (p.map eTM))) (.r n) S K0 := by
  refine ⟨m, keyW p, _, rfl, keyN_way p, h.kd, ?_⟩
  rcases h.key p with ⟨e, hp, hT⟩ | ⟨q, hq, e⟩
  · rw [e]
    exact k n [] hn fun l => ⟨fun z => (by cases z), fun z => absurd z (hT l)⟩
  · rw [e]
    obtain ⟨_, _, ls, h3, _, h5⟩ := h.at_ _ hq
    exact k q ls h3 h5
theorem LbX.lt (h : LbX hx b S m c T es) : ∀ e ∈ es, e.2 < S.length := fun e he => by
  obtain ⟨_, _, ls, h3, _⟩ := h.at_ e he
  exact (List.getElem?_eq_some_iff.mp h3).1
def LbAt (hx : HX) (n : Net) (S : Sto) (m : Nat) (ws : List Way) : Prop := ∃ b c es, LbX hx b S m c (ws.flatMap (lbsOf n)) es
theorem LbAt.keep {n : Net} {ws : List Way} (h : LbAt hx n S m ws) (k : Keep [] S S') : LbAt hx n S' m ws := by
  obtain ⟨b, c, es, h⟩ := h
  exact ⟨b, c, es, h.keep k (by simp) (by simp)⟩
end
end WY

set_option Elab.async false
set_option linter.all false
set_option maxRecDepth 100000
namespace WY
open PySem L2 PL ND
structure Later (a b : List Ans) : Prop where
  len : a.length = b.length
  st : ∀ i : Int, getI a .opn i ≠ .opn → getI b .opn i = getI a .opn i
theorem Later.refl (a : List Ans) : Later a a := ⟨rfl, fun _ _ => rfl⟩
theorem Later.trans {a b c : List Ans} (h : Later a b) (k : Later b c) : Later a c := ⟨h.len.trans k.len, fun i hi => by
  have e := h.st i hi
  rw [k.st i (by rw [e]; exact hi), e]⟩
section
variable {net : Net} {a b : List Ans} {tab : TB.XTab} {sc st : Int}
theorem inside_mono (h : Later a b) {t : Int} (e : ∀ q, inside net a t ≠ .opn q) : inside net b t = inside net a t := by
  unfold inside at e ⊢
  cases h1 : getI net.things .plain t with
  | plain => rfl
  | part s => rfl
  | sort q =>
    rw [h1] at e
    dsimp only at e ⊢
    have hn : getI a .opn q ≠ .opn := fun z => by
      rw [z] at e
      exact e q rfl
    rw [h.st q hn]
theorem goal_mono (h : Later a b) {x : ND.Step} (e : ∀ q, goal net a x ≠ .opn q) : goal net b x = goal net a x := by
  unfold goal at e ⊢
  by_cases hb : x.by_ = true
  · rw [if_pos hb] at e ⊢
    rw [if_pos hb]
    have hn : getI a .opn x.num ≠ .opn := fun z => by
      rw [z] at e
      exact e _ rfl
    rw [h.st _ hn]
    cases h1 : getI a .opn x.num with
    | opn => rfl
    | none_ _ => rfl
    | torn _ => rfl
    | thing t =>
      rw [h1] at e
      exact inside_mono h e
  · rw [if_neg hb, if_neg hb]
theorem leads_mono (h : Later a b) {r : Row} {x : ND.Step} {p : Int × Int} (e : leads ⟨net, a, tab⟩ r x = some p) : leads ⟨net, b, tab⟩ r x = some p := by
  obtain ⟨_, h2, _⟩ := leads_some e
  have e2 : goal net b x = goal net a x := goal_mono h fun q z => by
    have h2 : goal net a x = .to p.1 := h2
    rw [h2] at z; cases z
  rw [← e]
  unfold leads
  dsimp only
  rw [e2]
theorem lgr_mono (h : Later a b) {r q : Row} {i : Nat} {x : ND.Step} (e : lgr ⟨net, a, tab⟩ r i x = some q) : lgr ⟨net, b, tab⟩ r i x = some q := by
  unfold lgr at e ⊢
  cases h1 : leads ⟨net, a, tab⟩ r x with
  | none => rw [h1] at e; cases e
  | some p => rw [h1] at e; rw [leads_mono h h1]; exact e
theorem gone_mono (h : Later a b) {r : Row} (g : Gone ⟨net, a, tab⟩ sc st r) : Gone ⟨net, b, tab⟩ sc st r := by
  induction g with
  | nil => exact .nil
  | step g hq ih =>
    obtain ⟨i, x, h1, h2⟩ := mem_longer.mp hq
    exact .step ih (mem_longer.mpr ⟨i, x, h1, lgr_mono h h2⟩)
def OwedAt (W : World) (sc st : Int) (o : Way) (q : Int) : Prop := ∃ (p : Row) (i : Nat) (x : ND.Step), Gone W sc st p ∧ (steps W p.sc)[i]? = some x ∧ (∃ t, nextS W.tab p.st x.lab = some t) ∧ goal W.net W.ans x = .opn q ∧ o = p.ms.map stepM ++ [⟨p.sc, false, i⟩]
theorem gone_past (h : Later a b) {r : Row} (g : Gone ⟨net, b, tab⟩ sc st r) : Gone ⟨net, a, tab⟩ sc st r ∨ ∃ o q rest, OwedAt ⟨net, a, tab⟩ sc st o q ∧ r.ms.map stepM = o ++ rest := by
  induction g with
  | nil => exact .inl .nil
  | @step r q g hq ih =>
    obtain ⟨i, x, h1, h2⟩ := mem_longer.mp hq
    have em := lgr_ms h2
    rcases ih with ih | ⟨o, qu, rest, ho, e⟩
    · cases ha : lgr ⟨net, a, tab⟩ r i x with
      | some q2 =>
        have := lgr_mono h ha
        rw [h2] at this
        cases this
        exact .inl (.step ih (mem_longer.mpr ⟨i, x, h1, ha⟩))
      | none =>
        obtain ⟨h3, _⟩ := lgr_some h2
        obtain ⟨k1, k2, k3, k4⟩ := leads_some h3
        have hopn : ∃ qu, goal net a x = .opn qu := by
          apply Classical.byContradiction
          intro z
          have e2 := goal_mono h (net := net) (x := x) fun qu e => z ⟨qu, e⟩
          have : leads ⟨net, a, tab⟩ r x = some (q.sc, q.st) := by
            rw [← h3]
            unfold leads
            dsimp only
            rw [e2]
          unfold lgr at ha
          rw [this] at ha
          cases ha
        obtain ⟨qu, hq2⟩ := hopn
        refine .inr ⟨r.ms.map stepM ++ [⟨r.sc, false, i⟩], qu, [], ⟨r, i, x, ih, h1, ⟨_, k1⟩, hq2, rfl⟩, ?_⟩
        rw [em, List.map_append, List.append_nil]; rfl
    · refine .inr ⟨o, qu, rest ++ [⟨r.sc, false, i⟩], ho, ?_⟩
      rw [em, List.map_append, e, List.append_assoc]; rfl
theorem hides_app {n : Net} {od : List OR.Pr} {v o rest : Way} (h : hidesB n od v o = true) : hidesB n od v (o ++ rest) = true := by
  obtain ⟨pre, x, y, ra, rb, e1, e2, h3, h4⟩ := hides_iff.mp h
  exact hides_iff.mpr ⟨pre, x, y, ra, rb ++ rest, e1, by rw [e2]; simp, h3, h4⟩
end
def IsFound (W : World) (sc st : Int) (nm : Str) (w : Way) : Prop := ∃ r, Gone W sc st r ∧ w ∈ finds W nm r
section
variable {net : Net} {a b : List Ans} {tab : TB.XTab} {sc st : Int} {nm : Str} {od : List OR.Pr}
theorem found_mono (h : Later a b) {w : Way} (g : IsFound ⟨net, a, tab⟩ sc st nm w) : IsFound ⟨net, b, tab⟩ sc st nm w := by
  obtain ⟨r, h1, h2⟩ := g
  exact ⟨r, gone_mono h h1, h2⟩
theorem found_new (h : Later a b) {ws : List Way} (hs : ∀ o q, OwedAt ⟨net, a, tab⟩ sc st o q → ∃ v ∈ ws, hidesB net od v o = true) {w : Way} (g : IsFound ⟨net, b, tab⟩ sc st nm w) : IsFound ⟨net, a, tab⟩ sc st nm w ∨ ∃ v ∈ ws, hidesB net od v w = true := by
  obtain ⟨r, h1, h2⟩ := g
  rcases gone_past h h1 with h3 | ⟨o, q, rest, ho, e⟩
  · exact .inl ⟨r, h3, h2⟩
  · obtain ⟨v, hv, hh⟩ := hs o q ho
    obtain ⟨i, x, _, _, _, ew⟩ := mem_finds h2
    refine .inr ⟨v, hv, ?_⟩
    rw [ew, e, List.append_assoc]
    exact hides_app hh
theorem owed_later (h : Later a b) {ws : List Way} (hs : ∀ o q, OwedAt ⟨net, a, tab⟩ sc st o q → ∃ v ∈ ws, hidesB net od v o = true) {o : Way} {q : Int} (g : OwedAt ⟨net, b, tab⟩ sc st o q) : ∃ v ∈ ws, hidesB net od v o = true := by
  obtain ⟨r, i, x, h1, h2, h3, h4, e⟩ := g
  rcases gone_past h h1 with hg | ⟨o2, q2, rest, ho, e2⟩
  · have hopn : ∃ qu, goal net a x = .opn qu := by
      apply Classical.byContradiction
      intro z
      have e2 := goal_mono h (net := net) (x := x) fun qu e => z ⟨qu, e⟩
      have h4 : goal net b x = .opn q := h4
      rw [e2] at h4
      exact z ⟨q, h4⟩
    obtain ⟨qu, hq⟩ := hopn
    exact hs o qu ⟨r, i, x, hg, h2, h3, hq, e⟩
  · obtain ⟨v, hv, hh⟩ := hs o2 q2 ho
    refine ⟨v, hv, ?_⟩
    rw [e, e2, List.append_assoc]
    exact hides_app hh
end
theorem up_filter {α : Type} {k : α → PyData} {l : List α} {p : α → Bool} (h : OD.Up k l) : OD.Up k (l.filter p) := List.Pairwise.sublist List.filter_sublist h
theorem seen_same {n : Net} {od : List OR.Pr} (ho : OdOk od) {ws vs : List Way} (u1 : OD.Up eWay ws) (u2 : OD.Up eWay vs) (hsub : ∀ w ∈ ws, w ∈ vs) (hnew : ∀ w ∈ vs, w ∈ ws ∨ ∃ v ∈ ws, hidesB n od v w = true) : seenB n od vs = seenB n od ws := by
  refine OD.Up.uniq (k := eWay) (up_filter u2) (up_filter u1) fun w => ?_
  show w ∈ seenB n od vs ↔ w ∈ seenB n od ws
  rw [mem_seen, mem_seen]
  constructor
  · rintro ⟨h1, h2⟩
    rcases hnew w h1 with h | ⟨v, hv, hh⟩
    · exact ⟨h, fun v hv => h2 v (hsub v hv)⟩
    · rw [h2 v (hsub v hv)] at hh; cases hh
  · rintro ⟨h1, h2⟩
    refine ⟨hsub w h1, fun v hv => ?_⟩
    rcases hnew v hv with h | ⟨u, hu, hh⟩
    · exact h2 v h
    · cases q : hidesB n od v w with
      | false => rfl
      | true =>
        have := hides_tr ho hh q
        rw [h2 u hu] at this; cases this
theorem picks_nodup {α β : Type} {f : Nat → α → Option β} (hf : ∀ i j x y u, f i x = some u → f j y = some u → i = j) : ∀ (xs : List α) (i : Nat), (picks f i xs).Nodup
  | [], _ => List.nodup_nil
  | x :: xs, i => by
    unfold picks
    refine List.nodup_append.mpr ⟨by cases f i x <;> simp, picks_nodup hf xs (i + 1), fun u hu v hv e => ?_⟩
    subst e
    obtain ⟨j, y, _, h2⟩ := mem_picks.mp hv
    have h1 : f i x = some u := by simpa using hu
    have := hf _ _ _ _ _ h1 h2
    omega
theorem flat_nodup {α β : Type} {f : α → List β} : ∀ {xs : List α}, xs.Nodup → (∀ x ∈ xs, (f x).Nodup) → (∀ x ∈ xs, ∀ y ∈ xs, ∀ u, u ∈ f x → u ∈ f y → x = y) → (xs.flatMap f).Nodup
  | [], _, _, _ => by simp
  | x :: xs, nd, h1, h2 => by
    obtain ⟨hx, nd⟩ := List.nodup_cons.mp nd
    rw [List.flatMap_cons]
    refine List.nodup_append.mpr ⟨h1 x List.mem_cons_self, flat_nodup nd (fun y hy => h1 y (List.mem_cons_of_mem _ hy)) (fun y hy z hz => h2 y (List.mem_cons_of_mem _ hy) z (List.mem_cons_of_mem _ hz)), fun u hu v hv e => ?_⟩
    subst e
    obtain ⟨y, hy, hu2⟩ := List.mem_flatMap.mp hv
    have := h2 x List.mem_cons_self y (List.mem_cons_of_mem _ hy) u hu hu2
    subst this
    exact hx hy
theorem finds_nodup (W : World) (nm : Str) (r : Row) : (finds W nm r).Nodup := picks_nodup (fun i j x y u h1 h2 => by
  have e1 := (fnd_some h1).2.2
  rw [(fnd_some h2).2.2] at e1
  have := List.append_cancel_left e1
  simp at this
  omega) _ _
theorem stepM_inj {a b : List Mk} (h : a.map stepM = b.map stepM) : a = b := by
  induction a generalizing b with
  | nil =>
    cases b with
    | nil => rfl
    | cons y b => cases h
  | cons x a ih =>
    cases b with
    | nil => cases h
    | cons y b =>
      rw [List.map_cons, List.map_cons] at h
      injection h with h1 h2
      have : x = y := by
        obtain ⟨x1, x2⟩ := x
        obtain ⟨y1, y2⟩ := y
        simp [stepM] at h1
        simp [h1]
      rw [this, ih h2]
theorem finds_apart {W : World} {sc st : Int} {nm : Str} {r q : Row} (g : Gone W sc st r) (k : Gone W sc st q) {w : Way} (h1 : w ∈ finds W nm r) (h2 : w ∈ finds W nm q) : r = q := by
  obtain ⟨i, x, _, _, _, e1⟩ := mem_finds h1
  obtain ⟨j, y, _, _, _, e2⟩ := mem_finds h2
  rw [e1] at e2
  obtain ⟨e3, _⟩ := List.append_inj' e2 rfl
  exact g.fn k (stepM_inj e3)
theorem found_up {W : World} {sc st : Int} {nm : Str} {rs : List Row} (nd : rs.Nodup) (hg : ∀ r ∈ rs, Gone W sc st r) : OD.Up eWay (sortY (rs.flatMap (finds W nm))) :=
  OD.up_sort (flat_nodup nd (fun x _ => finds_nodup W nm x) fun x hx y hy u h1 h2 => finds_apart (hg x hx) (hg y hy) h1 h2) (fun a _ b _ => alike_way a b) fun a _ b _ h => by
    rw [eqv_way] at h; exact of_decide_eq_true h
end WY

set_option Elab.async false
set_option linter.all false
set_option maxRecDepth 100000
namespace WY
open PySem L2 PL ND
def bfs (W : World) : Nat → List Row → Nat → List Row
  | 0, rows, _ => rows
  | f + 1, rows, k => match rows[k]? with
    | none => rows
    | some r => bfs W f (rows ++ longer W r) (k + 1)
def begs (W : World) (sc st : Int) : List Row := (bfs W 201 [⟨[], sc, st⟩] 0).mergeSort (PySem.W.dataLe false eRow)
section
variable {W : World} {sc st : Int}
theorem bfs_ok (hW : WB W) (h0 : RowOk W ⟨[], sc, st⟩) (few : ∀ rs : List Row, rs.Nodup → (∀ r ∈ rs, Gone W sc st r) → rs.length ≤ 200) : ∀ (f : Nat) (rows : List Row) (k : Nat), BfJ W sc st rows k → 200 < k + f → BfJ W sc st (bfs W f rows k) (bfs W f rows k).length
  | 0, rows, k, h, hf => by
    have := few rows h.nd h.go
    have := h.le
    omega
  | f + 1, rows, k, h, hf => by
    unfold bfs
    cases e : rows[k]? with
    | none =>
      have := List.getElem?_eq_none_iff.mp e
      have := h.le
      have ek : k = rows.length := by omega
      subst ek
      exact h
    | some r => exact bfs_ok hW h0 few f _ _ (h.step hW h0 e) (by omega)
structure BegOk (W : World) (sc st : Int) (rs : List Row) : Prop where
  up : OD.Up eRow rs
  me : ∀ r, r ∈ rs ↔ Gone W sc st r
  n200 : rs.length ≤ 200
theorem begs_ok (h : WOk W) (h0 : RowOk W ⟨[], sc, st⟩) : BegOk W sc st (begs W sc st) := by
  have hb := bfs_ok h.toWB h0 (fun rs => h.few1 h0) 201 _ 0 .start (by omega)
  have hm : ∀ r, r ∈ begs W sc st ↔ Gone W sc st r := fun r => by
    unfold begs
    rw [(List.mergeSort_perm _ _).mem_iff]; exact hb.done r
  have hu : OD.Up eRow (begs W sc st) := OD.up_sort (k := eRow) hb.nd (fun a _ b _ => alike_row a b) (fun a _ b _ h => eqv_row h)
  exact ⟨hu, hm, h.few1 h0 hu.nodup fun r hr => (hm r).mp hr⟩
def found (W : World) (sc st : Int) (nm : Str) : List Way := sortY ((begs W sc st).flatMap (finds W nm))
def owed (W : World) (sc st : Int) : List (Way × Int) := sortO ((begs W sc st).flatMap (owes W))
theorem mem_found (h : WOk W) (h0 : RowOk W ⟨[], sc, st⟩) {nm : Str} {w : Way} : w ∈ found W sc st nm ↔ IsFound W sc st nm w := by
  unfold found
  rw [mem_sortY, List.mem_flatMap]
  exact ⟨fun ⟨r, hr, hw⟩ => ⟨r, ((begs_ok h h0).me r).mp hr, hw⟩, fun ⟨r, hr, hw⟩ => ⟨r, ((begs_ok h h0).me r).mpr hr, hw⟩⟩
theorem mem_owed (h : WOk W) (h0 : RowOk W ⟨[], sc, st⟩) {o : Way × Int} : o ∈ owed W sc st ↔ OwedAt W sc st o.1 o.2 := by
  unfold owed
  rw [mem_sortO, List.mem_flatMap]
  constructor
  · rintro ⟨r, hr, hw⟩
    obtain ⟨i, x, k1, k2, k3, k4⟩ := mem_owes hw
    exact ⟨r, i, x, ((begs_ok h h0).me r).mp hr, k1, k2, k3, k4⟩
  · rintro ⟨r, i, x, hr, k1, ⟨t, k2⟩, k3, k4⟩
    refine ⟨r, ((begs_ok h h0).me r).mpr hr, mem_picks.mpr ⟨i, x, k1, ?_⟩⟩
    rw [Nat.zero_add]
    unfold owd
    rw [k2, k3]
    obtain ⟨o1, o2⟩ := o
    dsimp only at k4 ⊢
    rw [k4]
theorem found_rise (h : WOk W) (h0 : RowOk W ⟨[], sc, st⟩) (nm : Str) : OD.Up eWay (found W sc st nm) :=
  found_up (begs_ok h h0).up.nodup fun r hr => ((begs_ok h h0).me r).mp hr
theorem found_ok (h : WOk W) (h0 : RowOk W ⟨[], sc, st⟩) (nm : Str) : (found W sc st nm).length ≤ 2400 ∧ ∀ w ∈ found W sc st nm, WayIn W.net w := by
  have hb := begs_ok h h0
  refine ⟨?_, fun w hw => ?_⟩
  · unfold found sortY
    rw [List.length_mergeSort]
    have h3 := flat_len (g := finds W nm) (n := 12) (xs := begs W sc st) fun x hx => finds_len h (((hb.me x).mp hx).ok h.toWB h0)
    have := hb.n200
    omega
  · obtain ⟨r, hr1, hw⟩ := List.mem_flatMap.mp (mem_sortY.mp hw)
    exact finds_in h (((hb.me r).mp hr1).ok h.toWB h0) hw
end
inductive Mean where
  | thing (t : Int) | none_ | opn (q : Int)
  deriving DecidableEq
def tellAt (n : Net) (m : TMk) : ND.Tell := getI (getI n.scopes ([], []) m.sc).2 noT m.ix
def meant (ans : List Ans) (t : ND.Tell) : Mean := if t.by_ = true then (match getI ans .opn t.num with
    | .opn => .opn t.num
    | .thing u => .thing u
    | _ => .none_) else .thing t.num
def noM : TMk := ⟨0, true, 0⟩
def lastM (w : Way) : TMk := w.getLastD noM
def wayMeans (n : Net) (ans : List Ans) (w : Way) : Mean := meant ans (tellAt n (lastM w))
inductive End where
  | opn (q : Int) (w : Way) | none_ | torn | thing (t : Int)
def isOpn : Mean → Option Int
  | .opn q => some q
  | _ => none
def firstOpn (n : Net) (ans : List Ans) : List Way → Option (Int × Way)
  | [] => none
  | w :: ws => match isOpn (wayMeans n ans w) with
    | some q => some (q, w)
    | none => firstOpn n ans ws
def agree : List Mean → End
  | [] => .none_
  | m :: ms => if (m :: ms).count m < (m :: ms).length then .torn else match m with
    | .thing t => .thing t
    | _ => .none_
def endOf (n : Net) (ans : List Ans) (od : List OR.Pr) (ws : List Way) (os : List (Way × Int)) : End := match os.find? (fun o => noneB n od ws o.1) with
  | some o => .opn o.2 o.1
  | none => if ws = [] then .none_ else match firstOpn n ans (seenB n od ws) with
    | some (q, w) => .opn q w
    | none => agree ((seenB n od ws).map (wayMeans n ans))
def lookEnd (W : World) (sc st : Int) (nm : Str) : End := endOf W.net W.ans W.tab.order (found W sc st nm) (owed W sc st)
structure Look where
  sc : Int
  st : Int
  nm : Str
  e : End
def looks (W : World) : Int → Int → List Str → List Look
  | _, _, [] => []
  | sc, st, nm :: path => ⟨sc, st, nm, lookEnd W sc st nm⟩ :: (match lookEnd W sc st nm with
    | .thing t => if path = [] then [] else match inside W.net W.ans t with
      | .to s => looks W s W.tab.inner path
      | _ => []
    | _ => [])
def noQ : Quest := ⟨0, 0, []⟩
def quest (W : World) (k : Int) : Quest := getI W.net.quests noQ k
def qlooks (W : World) (k : Int) : List Look := looks W (quest W k).scope (quest W k).state (quest W k).path
structure Wait where
  at_ : Int
  way : Way
  q : Int
structure Find where
  ans : Ans
  wait : Option Wait
def noLook : Look := ⟨0, 0, ⟨#[]⟩, .none_⟩
def findBy (W : World) (n : Nat) (ls : List Look) : Find := match (ls.getLastD noLook).e with
  | .opn q w => ⟨.opn, some ⟨(ls.length : Int) - 1, w, q⟩⟩
  | .none_ => ⟨.none_ ((ls.length : Int) - 1), none⟩
  | .torn => ⟨.torn ((ls.length : Int) - 1), none⟩
  | .thing t => if ls.length = n then ⟨.thing t, none⟩ else match inside W.net W.ans t with
    | .opn q => ⟨.opn, some ⟨(ls.length : Int) - 1, [], q⟩⟩
    | _ => ⟨.none_ ((ls.length : Int) - 1 + 1), none⟩
def find (W : World) (k : Int) : Find := findBy W (quest W k).path.length (qlooks W k)
def trail (W : World) (k : Int) : List (List Way) := (qlooks W k).map fun l => seenB W.net W.tab.order (found W l.sc l.st l.nm)
theorem looks_ne (W : World) (sc st : Int) {p : List Str} (h : p ≠ []) : looks W sc st p ≠ [] := by
  cases p with
  | nil => exact absurd rfl h
  | cons a p => unfold looks; simp
theorem looks_len (W : World) : ∀ (p : List Str) (sc st : Int), (looks W sc st p).length ≤ p.length
  | [], _, _ => by simp [looks]
  | a :: p, sc, st => by
    unfold looks
    rw [List.length_cons, List.length_cons]
    cases lookEnd W sc st a with
    | thing t =>
      dsimp only
      by_cases hp : p = []
      · rw [if_pos hp]; simp
      · rw [if_neg hp]
        cases inside W.net W.ans t with
        | to s => exact Nat.succ_le_succ (looks_len W p s _)
        | opn q => simp
        | no => simp
    | opn q w => simp
    | none_ => simp
    | torn => simp
end WY

set_option Elab.async false
set_option linter.all false
set_option maxRecDepth 100000
namespace WY
open PySem L2 PL ND
theorem agree_cons (m : Mean) (ms : List Mean) : agree (m :: ms) = if (m :: ms).count m < (m :: ms).length then .torn else match m with
    | .thing t => .thing t
    | _ => .none_ := rfl
theorem firstOpn_none {n : Net} {ans : List Ans} : ∀ {ws : List Way}, firstOpn n ans ws = none ↔ ∀ w ∈ ws, isOpn (wayMeans n ans w) = none
  | [] => by simp [WY.firstOpn]
  | w :: ws => by
    unfold WY.firstOpn
    cases h : isOpn (wayMeans n ans w) with
    | some q => simp [h]
    | none => simp [h, firstOpn_none (ws := ws)]
theorem row_of {W : WY.World} {sc st : Int} (h1 : 0 ≤ sc ∧ sc < W.net.scopes.length) (h2 : 0 ≤ st ∧ st < W.tab.states.length) : RowOk W ⟨[], sc, st⟩ := ⟨h1, h2, fun _ h => (by cases h), by simp⟩
theorem found_last {W : WY.World} (hW : WOk W) {sc st : Int} (hr : RowOk W ⟨[], sc, st⟩) {nm : Str} {w : Way} (h : w ∈ WY.found W sc st nm) : w ≠ [] ∧ (lastM w).told = true := by
  obtain ⟨r, _, hw⟩ := (WY.mem_found hW hr).mp h
  obtain ⟨i, x, _, _, _, e⟩ := WY.mem_finds hw
  rw [e]
  refine ⟨by simp, ?_⟩
  unfold WY.lastM
  rw [List.getLastD_concat]
theorem told_mean {n : Net} {ans : List Ans} {w : Way} (hn : NetOk n) (hl : ans.length = n.quests.length) (han : ∀ x ∈ ans, AnsOk n.things.length x) (hw : WayIn n w) (h : w ≠ [] ∧ (lastM w).told = true) {t : Int} (e : wayMeans n ans w = .thing t) : 0 ≤ t ∧ t < n.things.length := by
  have hlm : lastM w ∈ w := by
    unfold WY.lastM
    rw [List.getLastD_eq_getLast?, List.getLast?_eq_some_getLast h.1]
    exact List.getLast_mem h.1
  have hin := hw.1 _ hlm
  have htl : tellAt n (lastM w) ∈ (getI n.scopes ([], []) (lastM w).sc).2 := getI_mem (by
    have := hin.i
    unfold WY.rowLen at this
    rw [h.2, if_pos rfl] at this
    exact this)
  have ht := (hn.sc _ (getI_mem (d := (([], []) : ND.Scope)) hin.s)).2 _ htl
  unfold WY.wayMeans WY.meant at e
  by_cases hb : (tellAt n (lastM w)).by_ = true
  · rw [if_pos hb] at e
    have h2 := ht.2.2.2
    rw [if_pos hb] at h2
    have hm := getI_mem (d := Ans.opn) (show 0 ≤ (tellAt n (lastM w)).num ∧ (tellAt n (lastM w)).num < ans.length from ⟨ht.2.2.1, by rw [hl]; exact h2⟩)
    generalize getI ans .opn (tellAt n (lastM w)).num = y at e hm
    cases y with
    | thing u => cases e; exact han _ hm
    | opn => cases e
    | none_ a => cases e
    | torn a => cases e
  · rw [if_neg hb] at e
    have h2 := ht.2.2.2
    rw [if_neg hb] at h2
    cases e
    exact ⟨ht.2.2.1, h2⟩
theorem look_thing {W : WY.World} (hW : WOk W) {sc st : Int} (hr : RowOk W ⟨[], sc, st⟩) {nm : Str} {t : Int} (e : lookEnd W sc st nm = .thing t) : 0 ≤ t ∧ t < W.net.things.length := by
  unfold WY.lookEnd WY.endOf at e
  have hall : ∀ w ∈ WY.found W sc st nm, ∀ u, wayMeans W.net W.ans w = .thing u → 0 ≤ u ∧ u < W.net.things.length := fun w hw u hu => told_mean hW.net hW.len hW.an ((WY.found_ok hW hr nm).2 w hw) (found_last hW hr hw) hu
  generalize WY.found W sc st nm = ws at e hall
  cases h1 : (WY.owed W sc st).find? (fun o => noneB W.net W.tab.order ws o.1) with
  | some o => rw [h1] at e; cases e
  | none =>
    rw [h1] at e
    dsimp only at e
    by_cases h2 : ws = []
    · rw [if_pos h2] at e; cases e
    · rw [if_neg h2] at e
      cases h3 : firstOpn W.net W.ans (seenB W.net W.tab.order ws) with
      | some p => rw [h3] at e; cases e
      | none =>
        rw [h3] at e
        dsimp only at e
        have hm : ∀ m ∈ (seenB W.net W.tab.order ws).map (wayMeans W.net W.ans), ∀ u, m = .thing u → 0 ≤ u ∧ u < W.net.things.length := fun m hm u hu => by
          obtain ⟨w, hw, rfl⟩ := List.mem_map.mp hm
          exact hall w (WY.mem_seen.mp hw).1 u hu
        generalize (seenB W.net W.tab.order ws).map (wayMeans W.net W.ans) = ms at e hm
        cases ms with
        | nil => cases e
        | cons m ms =>
          rw [agree_cons] at e
          by_cases hc : (m :: ms).count m < (m :: ms).length
          · rw [if_pos hc] at e; cases e
          · rw [if_neg hc] at e
            cases m with
            | thing u => cases e; exact hm _ List.mem_cons_self _ rfl
            | none_ => cases e
            | opn q => cases e
theorem looks_nil (W : WY.World) (sc st : Int) : looks W sc st [] = [] := rfl
theorem looks_cons (W : WY.World) (sc st : Int) (nm : Str) (path : List Str) : looks W sc st (nm :: path) = ⟨sc, st, nm, lookEnd W sc st nm⟩ :: (match lookEnd W sc st nm with
    | .thing t => if path = [] then [] else (match inside W.net W.ans t with
      | .to s => looks W s W.tab.inner path
      | _ => [])
    | _ => []) := rfl
theorem mem_looks {W : WY.World} (hW : WOk W) {l : Look} : ∀ {p : List Str} {sc st : Int}, RowOk W ⟨[], sc, st⟩ → l ∈ looks W sc st p → RowOk W ⟨[], l.sc, l.st⟩ ∧ l.e = lookEnd W l.sc l.st l.nm
  | [], _, _, _, h => by rw [looks_nil] at h; cases h
  | nm :: p, sc, st, hr, h => by
    rw [looks_cons] at h
    rcases List.mem_cons.mp h with h | h
    · subst h; exact ⟨hr, rfl⟩
    · have hlt := fun t e => look_thing hW hr (nm := nm) (t := t) e
      generalize lookEnd W sc st nm = e at h hlt
      cases e with
      | thing t =>
        dsimp only at h
        by_cases hp : p = []
        · rw [if_pos hp] at h; cases h
        · rw [if_neg hp] at h
          cases hin : inside W.net W.ans t with
          | to s =>
            rw [hin] at h
            exact mem_looks hW (row_of (WY.inside_to hW.toWB (hlt t rfl) hin) hW.tab.ir) h
          | opn q => rw [hin] at h; cases h
          | no => rw [hin] at h; cases h
      | opn q w => cases h
      | none_ => cases h
      | torn => cases h
theorem mem_last {α : Type} {xs : List α} {d : α} (h : xs ≠ []) : xs.getLastD d ∈ xs := by
  rw [List.getLastD_eq_getLast?, List.getLast?_eq_some_getLast h]
  exact List.getLast_mem h
theorem quest_ok {W : WY.World} (hW : WOk W) {k : Int} (hk : 0 ≤ k ∧ k < W.net.quests.length) : RowOk W ⟨[], (quest W k).scope, (quest W k).state⟩ ∧ (quest W k).path ≠ [] ∧ (quest W k).path.length ≤ 6 := by
  have hqm := getI_mem (d := noQ) hk
  have hqo := hW.net.qs _ hqm
  exact ⟨row_of hqo.s ⟨hqo.t, hW.qst _ hqm⟩, hqo.p1, hqo.p6⟩
theorem qlooks_ok {W : WY.World} (hW : WOk W) {k : Int} (hk : 0 ≤ k ∧ k < W.net.quests.length) : qlooks W k ≠ [] ∧ (qlooks W k).length ≤ (quest W k).path.length ∧ ∀ l ∈ qlooks W k, RowOk W ⟨[], l.sc, l.st⟩ ∧ l.e = lookEnd W l.sc l.st l.nm := by
  obtain ⟨h1, h2, _⟩ := quest_ok hW hk
  exact ⟨WY.looks_ne W _ _ h2, WY.looks_len W _ _ _, fun l hl => mem_looks hW h1 hl⟩
section
variable {net : Net} {a b : List Ans} {tab : TB.XTab}
theorem RowOk.ans {r : Row} (h : RowOk ⟨net, a, tab⟩ r) : RowOk ⟨net, b, tab⟩ r := ⟨h.sc, h.st, h.ms, h.nd⟩
theorem wayMeans_mono (h : Later a b) {w : Way} (e : isOpn (wayMeans net a w) = none) : wayMeans net b w = wayMeans net a w := by
  unfold wayMeans meant at e ⊢
  by_cases hb : (tellAt net (lastM w)).by_ = true
  · rw [if_pos hb] at e
    rw [if_pos hb, if_pos hb]
    have hn : getI a .opn (tellAt net (lastM w)).num ≠ .opn := fun z => by
      rw [z] at e; cases e
    rw [h.st _ hn]
  · rw [if_neg hb, if_neg hb]
theorem noneB_false {n : Net} {od : List OR.Pr} {ws : List Way} {w : Way} : noneB n od ws w = false ↔ ∃ v ∈ ws, hidesB n od v w = true := by
  constructor
  · intro h
    apply Classical.byContradiction
    intro z
    have : noneB n od ws w = true := noneB_iff.mpr fun v hv => by
      cases q : hidesB n od v w with
      | false => rfl
      | true => exact absurd ⟨v, hv, q⟩ z
    rw [this] at h; cases h
  · rintro ⟨v, hv, h⟩
    cases q : noneB n od ws w with
    | false => rfl
    | true => rw [noneB_iff.mp q v hv] at h; cases h
theorem look_hid (hW : WOk ⟨net, a, tab⟩) {sc st : Int} (hr : RowOk ⟨net, a, tab⟩ ⟨[], sc, st⟩) {nm : Str} (e : ∀ q w, lookEnd ⟨net, a, tab⟩ sc st nm ≠ .opn q w) : (∀ o q, OwedAt ⟨net, a, tab⟩ sc st o q → ∃ v ∈ found ⟨net, a, tab⟩ sc st nm, hidesB net tab.order v o = true) ∧ (found ⟨net, a, tab⟩ sc st nm ≠ [] → firstOpn net a (seenB net tab.order (found ⟨net, a, tab⟩ sc st nm)) = none) := by
  unfold lookEnd endOf at e
  cases hf : (owed ⟨net, a, tab⟩ sc st).find? (fun o => noneB net tab.order (found ⟨net, a, tab⟩ sc st nm) o.1) with
  | some o => rw [hf] at e; exact absurd rfl (e _ _)
  | none =>
    rw [hf] at e
    dsimp only at e
    refine ⟨fun o q h => ?_, fun hne => ?_⟩
    · have hm := (mem_owed hW hr (o := (o, q))).mpr h
      have := List.find?_eq_none.mp hf _ hm
      refine noneB_false.mp ?_
      cases z : noneB net tab.order (found ⟨net, a, tab⟩ sc st nm) o with
      | false => rfl
      | true => exact absurd z this
    · rw [if_neg hne] at e
      cases h3 : firstOpn net a (seenB net tab.order (found ⟨net, a, tab⟩ sc st nm)) with
      | none => rfl
      | some p => rw [h3] at e; exact absurd rfl (e _ _)
theorem look_later (h : Later a b) (hA : WOk ⟨net, a, tab⟩) (hB : WOk ⟨net, b, tab⟩) {sc st : Int} (hr : RowOk ⟨net, a, tab⟩ ⟨[], sc, st⟩) {nm : Str} (e : ∀ q w, lookEnd ⟨net, a, tab⟩ sc st nm ≠ .opn q w) :
    lookEnd ⟨net, b, tab⟩ sc st nm = lookEnd ⟨net, a, tab⟩ sc st nm ∧ seenB net tab.order (found ⟨net, b, tab⟩ sc st nm) = seenB net tab.order (found ⟨net, a, tab⟩ sc st nm) := by
  obtain ⟨hs, hfo⟩ := look_hid hA hr e
  have hrb : RowOk ⟨net, b, tab⟩ ⟨[], sc, st⟩ := hr.ans
  have hsub : ∀ w ∈ found ⟨net, a, tab⟩ sc st nm, w ∈ found ⟨net, b, tab⟩ sc st nm := fun w hw => (mem_found hB hrb).mpr (found_mono h ((mem_found hA hr).mp hw))
  have hnew : ∀ w ∈ found ⟨net, b, tab⟩ sc st nm, w ∈ found ⟨net, a, tab⟩ sc st nm ∨ ∃ v ∈ found ⟨net, a, tab⟩ sc st nm, hidesB net tab.order v w = true := fun w hw => by
    rcases found_new h hs ((mem_found hB hrb).mp hw) with k | k
    · exact .inl ((mem_found hA hr).mpr k)
    · exact .inr k
  have hsame := seen_same hA.tab.odk (found_rise hA hr nm) (found_rise hB hrb nm) hsub hnew
  refine ⟨?_, hsame⟩
  have h0 : found ⟨net, b, tab⟩ sc st nm = [] ↔ found ⟨net, a, tab⟩ sc st nm = [] := by
    constructor
    · intro z
      refine List.eq_nil_iff_forall_not_mem.mpr fun w hw => ?_
      have := hsub w hw
      rw [z] at this; cases this
    · intro z
      refine List.eq_nil_iff_forall_not_mem.mpr fun w hw => ?_
      rcases hnew w hw with k | ⟨v, k, _⟩
      · rw [z] at k; cases k
      · rw [z] at k; cases k
  have hfa : (owed ⟨net, a, tab⟩ sc st).find? (fun o => noneB net tab.order (found ⟨net, a, tab⟩ sc st nm) o.1) = none := List.find?_eq_none.mpr fun o ho => by
    have := noneB_false.mpr (hs o.1 o.2 ((mem_owed hA hr).mp ho))
    rw [this]; decide
  have hfb : (owed ⟨net, b, tab⟩ sc st).find? (fun o => noneB net tab.order (found ⟨net, b, tab⟩ sc st nm) o.1) = none := List.find?_eq_none.mpr fun o ho => by
    obtain ⟨v, hv, hh⟩ := owed_later h hs ((mem_owed hB hrb).mp ho)
    have := noneB_false.mpr ⟨v, hsub v hv, hh⟩
    rw [this]; decide
  unfold lookEnd endOf
  dsimp only
  rw [hfa, hfb]
  dsimp only
  by_cases hz : found ⟨net, a, tab⟩ sc st nm = []
  · rw [if_pos hz, if_pos (h0.mpr hz)]
  · have hfo := hfo hz
    rw [if_neg hz, if_neg fun z => hz (h0.mp z), hsame, hfo]
    have hm : ∀ w ∈ seenB net tab.order (found ⟨net, a, tab⟩ sc st nm), wayMeans net b w = wayMeans net a w := fun w hw => wayMeans_mono h (firstOpn_none.mp hfo w hw)
    have hfo2 : firstOpn net b (seenB net tab.order (found ⟨net, a, tab⟩ sc st nm)) = none := firstOpn_none.mpr fun w hw => by rw [hm w hw]; exact firstOpn_none.mp hfo w hw
    rw [hfo2]
    dsimp only
    rw [List.map_congr_left hm]
structure Ended (net : Net) (a : List Ans) (n : Nat) (ls : List Look) : Prop where
  op : ∀ q w, (ls.getLastD noLook).e ≠ .opn q w
  th : ∀ t, (ls.getLastD noLook).e = .thing t → ls.length ≠ n → ∀ q, inside net a t ≠ .opn q
theorem last_cons {l : Look} {ls : List Look} (h : ls ≠ []) : (l :: ls).getLastD noLook = ls.getLastD noLook := by
  cases ls with
  | nil => exact absurd rfl h
  | cons x ls => simp [List.getLastD]
theorem looks_later (h : Later a b) (hA : WOk ⟨net, a, tab⟩) (hB : WOk ⟨net, b, tab⟩) : ∀ (p : List Str) (sc st : Int), RowOk ⟨net, a, tab⟩ ⟨[], sc, st⟩ → Ended net a p.length (looks ⟨net, a, tab⟩ sc st p) →
    looks ⟨net, b, tab⟩ sc st p = looks ⟨net, a, tab⟩ sc st p ∧ ∀ l ∈ looks ⟨net, a, tab⟩ sc st p, seenB net tab.order (found ⟨net, b, tab⟩ l.sc l.st l.nm) = seenB net tab.order (found ⟨net, a, tab⟩ l.sc l.st l.nm)
  | [], sc, st, _, _ => ⟨rfl, fun l hl => by rw [looks_nil] at hl; cases hl⟩
  | nm :: p, sc, st, hr, hE => by
    have hno : ∀ q w, lookEnd ⟨net, a, tab⟩ sc st nm ≠ .opn q w := fun q w z => by
      rw [looks_cons, z] at hE
      exact hE.op q w rfl
    obtain ⟨e1, e2⟩ := look_later h hA hB hr hno
    have hlt := fun t e => look_thing hA hr (nm := nm) (t := t) e
    rw [looks_cons] at hE ⊢
    rw [looks_cons, e1]
    generalize lookEnd ⟨net, a, tab⟩ sc st nm = e at hE hlt ⊢
    have one : ∀ l ∈ ([⟨sc, st, nm, e⟩] : List Look), seenB net tab.order (found ⟨net, b, tab⟩ l.sc l.st l.nm) = seenB net tab.order (found ⟨net, a, tab⟩ l.sc l.st l.nm) := fun l hl => by
      rw [List.mem_singleton.mp hl]; exact e2
    cases e with
    | opn q w => exact ⟨rfl, one⟩
    | none_ => exact ⟨rfl, one⟩
    | torn => exact ⟨rfl, one⟩
    | thing t =>
      dsimp only at hE ⊢
      by_cases hp : p = []
      · rw [if_pos hp] at hE ⊢
        rw [if_pos hp]
        exact ⟨rfl, one⟩
      · rw [if_neg hp] at hE ⊢
        rw [if_neg hp]
        have hi : ∀ q, inside net a t ≠ .opn q := fun q z => by
          rw [z] at hE
          refine hE.th t rfl ?_ q z
          show [_].length ≠ (nm :: p).length
          rw [List.length_singleton, List.length_cons]
          have : p.length ≠ 0 := fun z => hp (List.length_eq_zero_iff.mp z)
          omega
        rw [inside_mono h hi]
        cases hin : inside net a t with
        | opn q => exact absurd hin (hi q)
        | no => exact ⟨rfl, one⟩
        | to s =>
          dsimp only
          rw [hin] at hE
          dsimp only at hE
          have hr2 : RowOk ⟨net, a, tab⟩ ⟨[], s, tab.inner⟩ := row_of (inside_to hA.toWB (hlt t rfl) hin) hA.tab.ir
          have hne := looks_ne ⟨net, a, tab⟩ s tab.inner hp
          have ih := looks_later h hA hB p s tab.inner hr2 ⟨fun q w z => hE.op q w (by rw [last_cons hne]; exact z), fun t' z hn q => hE.th t' (by rw [last_cons hne]; exact z) (by rw [List.length_cons, List.length_cons]; omega) q⟩
          refine ⟨by rw [ih.1], fun l hl => ?_⟩
          rcases List.mem_cons.mp hl with hl | hl
          · rw [hl]; exact e2
          · exact ih.2 l hl
theorem find_ended {W : World} {k : Int} (hk : (find W k).ans ≠ .opn) : Ended W.net W.ans (quest W k).path.length (qlooks W k) := by
  unfold find findBy at hk
  refine ⟨fun q w z => ?_, fun t z hn q hi => ?_⟩
  · rw [z] at hk; exact hk rfl
  · rw [z] at hk
    dsimp only at hk
    rw [if_neg hn, hi] at hk
    exact hk rfl
theorem find_later (h : Later a b) (hA : WOk ⟨net, a, tab⟩) (hB : WOk ⟨net, b, tab⟩) {k : Int} (hq : 0 ≤ k ∧ k < net.quests.length) (hk : (find ⟨net, a, tab⟩ k).ans ≠ .opn) :
    find ⟨net, b, tab⟩ k = find ⟨net, a, tab⟩ k ∧ trail ⟨net, b, tab⟩ k = trail ⟨net, a, tab⟩ k ∧ (find ⟨net, a, tab⟩ k).wait = none := by
  have hE := find_ended hk
  have hr := (quest_ok hA hq).1
  obtain ⟨e1, e2⟩ := looks_later h hA hB _ _ _ hr hE
  have e1 : qlooks ⟨net, b, tab⟩ k = qlooks ⟨net, a, tab⟩ k := e1
  have ef : find ⟨net, b, tab⟩ k = find ⟨net, a, tab⟩ k := by
    unfold find
    rw [e1]
    show findBy ⟨net, b, tab⟩ (quest ⟨net, a, tab⟩ k).path.length _ = _
    unfold findBy
    cases hl : ((qlooks ⟨net, a, tab⟩ k).getLastD noLook).e with
    | thing t =>
      dsimp only
      by_cases hn : (qlooks ⟨net, a, tab⟩ k).length = (quest ⟨net, a, tab⟩ k).path.length
      · rw [if_pos hn, if_pos hn]
      · rw [if_neg hn, if_neg hn, inside_mono h (hE.th t hl hn)]
    | _ => rfl
  refine ⟨ef, ?_, ?_⟩
  · unfold trail
    rw [e1]
    exact List.map_congr_left fun l hl => e2 l hl
  · have hop := hE.op
    have hth := hE.th
    unfold find findBy
    generalize (qlooks ⟨net, a, tab⟩ k).getLastD noLook = l at hop hth
    obtain ⟨sc, st, nm, e⟩ := l
    cases e with
    | opn q w => exact absurd rfl (hop q w)
    | none_ => rfl
    | torn => rfl
    | thing t =>
      dsimp only
      by_cases hn : (qlooks ⟨net, a, tab⟩ k).length = (quest ⟨net, a, tab⟩ k).path.length
      · rw [if_pos hn]
      · rw [if_neg hn]
        cases hi : inside net a t with
        | opn q => exact absurd hi (hth t rfl hn q)
        | _ => rfl
end
end WY

set_option Elab.async false
set_option linter.all false
set_option maxRecDepth 100000
namespace WY
open PySem L2 PL ND
section
variable {W : World}
structure WaitOk (W : World) (k : Int) (x : Wait) : Prop where
  at_ : x.at_ = ((qlooks W k).length : Int) - 1
  q : 0 ≤ x.q ∧ x.q < W.net.quests.length
  op : getI W.ans .opn x.q = .opn
  nh : noneB W.net W.tab.order (found W ((qlooks W k).getLastD noLook).sc ((qlooks W k).getLastD noLook).st ((qlooks W k).getLastD noLook).nm) x.way = true
  w : WayIn W.net x.way
end
end WY

set_option Elab.async false
set_option linter.all false
set_option maxRecDepth 100000
namespace ST
open PySem L2 PL ND WY
def isO : Ans → Bool
  | .opn => true
  | _ => false
theorem isO_iff {a : Ans} : isO a = true ↔ a = .opn := by cases a <;> simp [isO]
theorem isO_not {a : Ans} : isO a = false ↔ a ≠ .opn := by cases a <;> simp [isO]
structure NT where
  net : Net
  tab : TB.XTab
def NT.w (T : NT) (a : List Ans) : WY.World := ⟨T.net, a, T.tab⟩
def AnsIs (T : NT) (a : List Ans) : Prop := a.length = T.net.quests.length ∧ ∀ x ∈ a, AnsOk T.net.things.length x
structure NTOk (T : NT) : Prop where
  w : ∀ a, AnsIs T a → WOk (T.w a)
def fnd (T : NT) (a : List Ans) (q : Nat) : Ans := (find (T.w a) (q : Int)).ans
def turn (T : NT) (a : List Ans) : List Ans := (List.range a.length).map fun (q : Nat) => if isO (getI a .opn (q : Int)) = true then fnd T a q else getI a .opn (q : Int)
def isFresh (T : NT) (a : List Ans) (q : Nat) : Bool := isO (getI a .opn (q : Int)) && !isO (fnd T a q)
def fresh (T : NT) (a : List Ans) : List Nat := (List.range a.length).filter (isFresh T a)
theorem turn_len (T : NT) (a : List Ans) : (turn T a).length = a.length := by unfold turn; simp
theorem turn_get (T : NT) {a : List Ans} {q : Nat} (h : q < a.length) : getI (turn T a) .opn (q : Int) = if isO (getI a .opn (q : Int)) = true then fnd T a q else getI a .opn (q : Int) := by
  show (turn T a).getD q .opn = _
  unfold turn
  rw [List.getD_eq_getElem?_getD, List.getElem?_map, List.getElem?_range h]; rfl
theorem getI_out {a : List Ans} {q : Nat} (h : a.length ≤ q) : getI a .opn (q : Int) = .opn := by
  show a.getD q .opn = _
  rw [List.getD_eq_getElem?_getD, List.getElem?_eq_none h]; rfl
theorem ext_get {a b : List Ans} (hl : a.length = b.length) (h : ∀ q : Nat, q < a.length → getI a .opn (q : Int) = getI b .opn (q : Int)) : a = b := by
  refine List.ext_getElem? fun i => ?_
  by_cases hi : i < a.length
  · have h1 := getI_at (xs := a) (d := Ans.opn) (i := (i : Int)) ⟨by omega, by omega⟩
    have h2 := getI_at (xs := b) (d := Ans.opn) (i := (i : Int)) ⟨by omega, by omega⟩
    have h1 : a[i]? = some (getI a .opn (i : Int)) := h1
    have h2 : b[i]? = some (getI b .opn (i : Int)) := h2
    rw [h1, h2, h i hi]
  · rw [List.getElem?_eq_none (by omega), List.getElem?_eq_none (by omega)]
theorem later_of {a b : List Ans} (hl : a.length = b.length) (h : ∀ q : Nat, q < a.length → getI a .opn (q : Int) ≠ .opn → getI b .opn (q : Int) = getI a .opn (q : Int)) : Later a b := by
  refine ⟨hl, fun i hi => ?_⟩
  have e : getI a .opn i = getI a .opn ((i.toNat : Nat) : Int) := rfl
  have e2 : getI b .opn i = getI b .opn ((i.toNat : Nat) : Int) := rfl
  rw [e] at hi ⊢
  rw [e2]
  by_cases hq : i.toNat < a.length
  · exact h _ hq hi
  · exact absurd (getI_out (by omega)) hi
section
variable {T : NT}
theorem fnd_ok (h : NTOk T) {a : List Ans} (ha : AnsIs T a) {q : Nat} (hq : q < T.net.quests.length) : AnsOk T.net.things.length (fnd T a q) := by
  have hW := h.w a ha
  have hk : 0 ≤ (q : Int) ∧ (q : Int) < (T.w a).net.quests.length := ⟨by omega, by show (q : Int) < (T.net.quests.length : Int); omega⟩
  obtain ⟨hne, hle, hall⟩ := qlooks_ok hW hk
  have hl := hall _ (mem_last (d := noLook) hne)
  have ht := fun t (e : ((qlooks (T.w a) (q : Int)).getLastD noLook).e = .thing t) => look_thing hW hl.1 (by rw [← hl.2]; exact e)
  unfold fnd WY.find WY.findBy
  generalize (qlooks (T.w a) (q : Int)).getLastD noLook = l at ht
  obtain ⟨sc, st, nm, e⟩ := l
  cases e with
  | opn q w => exact trivial
  | none_ => exact trivial
  | torn => exact trivial
  | thing t =>
    have := ht t rfl
    dsimp only
    by_cases hn : (qlooks (T.w a) (q : Int)).length = (quest (T.w a) (q : Int)).path.length
    · rw [if_pos hn]; exact this
    · rw [if_neg hn]
      cases inside (T.w a).net (T.w a).ans t <;> exact trivial
theorem turn_is (h : NTOk T) {a : List Ans} (ha : AnsIs T a) : AnsIs T (turn T a) := by
  refine ⟨(turn_len T a).trans ha.1, fun x hx => ?_⟩
  obtain ⟨q, hq, rfl⟩ := List.mem_map.mp hx
  have hq := List.mem_range.mp hq
  split
  · exact fnd_ok h ha (by rw [← ha.1]; exact hq)
  · exact ha.2 _ (getI_mem ⟨by omega, by omega⟩)
theorem turn_later (a : List Ans) : Later a (turn T a) := later_of (turn_len T a).symm fun q hq hn => by
  rw [turn_get T hq, if_neg]
  rw [isO_iff]; exact hn
theorem fnd_later (h : NTOk T) {a b : List Ans} (ha : AnsIs T a) (hb : AnsIs T b) (l : Later a b) {q : Nat} (hq : q < T.net.quests.length) (hn : fnd T a q ≠ .opn) : fnd T b q = fnd T a q := by
  have := (find_later (net := T.net) (tab := T.tab) l (h.w a ha) (h.w b hb) (k := (q : Int)) ⟨by omega, by omega⟩ hn).1
  show (find (T.w b) (q : Int)).ans = _
  have e : find (T.w b) (q : Int) = find (T.w a) (q : Int) := this
  rw [e]; rfl
def none0 (T : NT) : List Ans := List.replicate T.net.quests.length .opn
theorem none0_is : AnsIs T (none0 T) := ⟨List.length_replicate, fun x hx => by rw [List.eq_of_mem_replicate hx]; exact trivial⟩
theorem none0_get (q : Nat) : getI (none0 T) .opn (q : Int) = .opn := by
  show (none0 T).getD q .opn = _
  unfold none0
  rw [List.getD_eq_getElem?_getD]
  by_cases h : q < T.net.quests.length
  · rw [List.getElem?_replicate_of_lt h]; rfl
  · rw [List.getElem?_eq_none (by rw [List.length_replicate]; omega)]; rfl
def seq (T : NT) : Nat → List Ans
  | 0 => none0 T
  | i + 1 => turn T (seq T i)
theorem seq_is (h : NTOk T) : ∀ i, AnsIs T (seq T i)
  | 0 => none0_is
  | i + 1 => turn_is h (seq_is h i)
theorem seq_later (i : Nat) : ∀ j, Later (seq T i) (seq T (i + j))
  | 0 => Later.refl _
  | j + 1 => (seq_later i j).trans (turn_later _)
theorem seq_le {i j : Nat} (h : i ≤ j) : Later (seq T i) (seq T j) := by
  obtain ⟨k, rfl⟩ : ∃ k, j = i + k := ⟨j - i, by omega⟩
  exact seq_later i k
theorem mem_fresh {a : List Ans} {q : Nat} : q ∈ fresh T a ↔ q < a.length ∧ getI a .opn (q : Int) = .opn ∧ fnd T a q ≠ .opn := by
  unfold fresh isFresh
  rw [List.mem_filter, List.mem_range, Bool.and_eq_true, isO_iff, Bool.not_eq_true', isO_not]
theorem turn_same {a : List Ans} (h : fresh T a = []) : turn T a = a := ext_get (turn_len T a) fun q hq => by
  rw [turn_len] at hq
  rw [turn_get T hq]
  by_cases ho : isO (getI a .opn (q : Int)) = true
  · rw [if_pos ho]
    have ho := isO_iff.mp ho
    rw [ho]
    apply Classical.byContradiction
    intro z
    have : q ∈ fresh T a := mem_fresh.mpr ⟨hq, ho, z⟩
    rw [h] at this; cases this
  · rw [if_neg ho]
def turnOf (T : NT) (q : Nat) : Nat → Nat
  | 0 => 0
  | n + 1 => if turnOf T q n = 0 ∧ isO (getI (seq T (n + 1)) .opn (q : Int)) = false then n + 1 else turnOf T q n
end
end ST

set_option Elab.async false
set_option linter.all false
set_option maxRecDepth 100000
namespace ST
open PySem L2 PL ND WY
section
variable {T : NT}
theorem seq_len (i : Nat) : (seq T i).length = T.net.quests.length := by
  induction i with
  | zero => exact List.length_replicate
  | succ i ih => exact (turn_len T _).trans ih
theorem opn_le {i j : Nat} (h : i ≤ j) {q : Int} (e : getI (seq T j) .opn q = .opn) : getI (seq T i) .opn q = .opn := by
  apply Classical.byContradiction
  intro z
  rw [(seq_le h).st q z] at e
  exact z e
theorem seq_stop {i : Nat} (h : fresh T (seq T i) = []) : ∀ j, seq T (i + j) = seq T i
  | 0 => rfl
  | j + 1 => by
    show turn T (seq T (i + j)) = _
    rw [seq_stop h j, turn_same h]
theorem stop_le {i j : Nat} (h : fresh T (seq T i) = []) (hj : i ≤ j) : seq T j = seq T i := by
  obtain ⟨k, rfl⟩ : ∃ k, j = i + k := ⟨j - i, by omega⟩
  exact seq_stop h k
def top (T : NT) : List Ans := seq T T.net.quests.length
def Fix (T : NT) (a : List Ans) : Prop := ∀ q : Nat, q < a.length → fnd T a q = getI a .opn (q : Int)
theorem seq_fix (h : NTOk T) {b : List Ans} (hb : AnsIs T b) (hf : Fix T b) : ∀ i, Later (seq T i) b
  | 0 => later_of ((seq_len 0).trans hb.1.symm) fun q _ z => absurd (none0_get q) z
  | i + 1 => later_of ((seq_len _).trans hb.1.symm) fun q hq hn => by
    rw [seq_len] at hq
    have ih := seq_fix h hb hf i
    have hq2 : q < (seq T i).length := by rw [seq_len]; exact hq
    have e : getI (seq T (i + 1)) .opn (q : Int) = _ := turn_get T hq2
    rw [e] at hn ⊢
    by_cases ho : isO (getI (seq T i) .opn (q : Int)) = true
    · rw [if_pos ho] at hn ⊢
      rw [← fnd_later h (seq_is h i) hb ih hq hn]
      exact (hf q (by rw [hb.1]; exact hq)).symm
    · rw [if_neg ho]
      exact ih.st _ fun z => ho (isO_iff.mpr z)
inductive Come (T : NT) : List Ans → Prop
  | nil : Come T (none0 T)
  | put {a : List Ans} (h : Come T a) {q : Nat} (hq : q < a.length) (ho : getI a .opn (q : Int) = .opn) : Come T (a.set q (fnd T a q))
theorem set_get {a : List Ans} {q r : Nat} {x : Ans} (hq : q < a.length) : getI (a.set q x) .opn (r : Int) = if r = q then x else getI a .opn (r : Int) := by
  show (a.set q x).getD r .opn = _
  rw [List.getD_eq_getElem?_getD]
  by_cases h : r = q
  · subst h
    rw [List.getElem?_set_self hq, if_pos rfl]; rfl
  · rw [List.getElem?_set_ne (fun z => h z.symm), if_neg h]
    show _ = a.getD r .opn
    rw [List.getD_eq_getElem?_getD]
theorem Come.is (h : NTOk T) {a : List Ans} (c : Come T a) : AnsIs T a := by
  induction c with
  | nil => exact none0_is
  | @put a c q hq ho ih =>
    refine ⟨by rw [List.length_set]; exact ih.1, fun x hx => ?_⟩
    rcases List.mem_or_eq_of_mem_set hx with e | e
    · exact ih.2 x e
    · rw [e]; exact fnd_ok h ih (by rw [← ih.1]; exact hq)
theorem Come.le (h : NTOk T) {b : List Ans} (hb : AnsIs T b) (hf : Fix T b) {a : List Ans} (c : Come T a) : Later a b := by
  induction c with
  | nil => exact seq_fix h hb hf 0
  | @put a c q hq ho ih =>
    have hi := c.is h
    refine later_of (by rw [List.length_set]; exact ih.len) fun r hr hn => ?_
    rw [List.length_set] at hr
    rw [set_get hq] at hn ⊢
    by_cases e : r = q
    · subst e
      rw [if_pos rfl] at hn ⊢
      rw [← fnd_later h hi hb ih (by rw [← hi.1]; exact hr) hn]
      exact (hf r (by rw [← ih.len]; exact hr)).symm
    · rw [if_neg e] at hn ⊢
      exact ih.st _ hn
theorem turnOf_zero (q : Nat) : ∀ n, turnOf T q n = 0 ↔ getI (seq T n) .opn (q : Int) = .opn
  | 0 => ⟨fun _ => none0_get q, fun _ => rfl⟩
  | n + 1 => by
    have ih := turnOf_zero q n
    unfold turnOf
    constructor
    · intro h
      by_cases hc : turnOf T q n = 0 ∧ isO (getI (seq T (n + 1)) .opn (q : Int)) = false
      · rw [if_pos hc] at h; cases h
      · rw [if_neg hc] at h
        apply Classical.byContradiction
        intro z
        exact hc ⟨h, isO_not.mpr z⟩
    · intro h
      rw [if_neg (fun z => by rw [isO_iff.mpr h] at z; exact absurd z.2 (by decide))]
      exact ih.mpr (opn_le (Nat.le_succ n) h)
theorem turnOf_pos (q : Nat) : ∀ {n : Nat}, turnOf T q n ≠ 0 → turnOf T q n ≤ n ∧ getI (seq T (turnOf T q n - 1)) .opn (q : Int) = .opn ∧ getI (seq T (turnOf T q n)) .opn (q : Int) ≠ .opn
  | 0, h => absurd rfl h
  | n + 1, h => by
    unfold turnOf at h ⊢
    by_cases hc : turnOf T q n = 0 ∧ isO (getI (seq T (n + 1)) .opn (q : Int)) = false
    · rw [if_pos hc]
      exact ⟨Nat.le_refl _, (turnOf_zero q n).mp hc.1, isO_not.mp hc.2⟩
    · rw [if_neg hc] at h ⊢
      have := turnOf_pos q h
      exact ⟨by omega, this.2⟩
theorem turnOf_step {q n : Nat} (hq : q < T.net.quests.length) : turnOf T q (n + 1) = if q ∈ fresh T (seq T n) then n + 1 else turnOf T q n := by
  have e : getI (seq T (n + 1)) .opn (q : Int) = _ := turn_get T (a := seq T n) (q := q) (by rw [seq_len]; exact hq)
  have z := turnOf_zero (T := T) q n
  conv => lhs; unfold turnOf
  by_cases hm : q ∈ fresh T (seq T n)
  · have h3 := mem_fresh.mp hm
    rw [if_pos hm, if_pos ⟨z.mpr h3.2.1, by rw [e, if_pos (isO_iff.mpr h3.2.1)]; exact isO_not.mpr h3.2.2⟩]
  · rw [if_neg hm, if_neg]
    rintro ⟨h1, h2⟩
    have h1 := z.mp h1
    rw [e, if_pos (isO_iff.mpr h1)] at h2
    exact hm (mem_fresh.mpr ⟨by rw [seq_len]; exact hq, h1, isO_not.mp h2⟩)
def topT (T : NT) (q : Nat) : Nat := turnOf T q T.net.quests.length
theorem topT_pos {q : Nat} (h : topT T q ≠ 0) : topT T q ≤ T.net.quests.length ∧ getI (seq T (topT T q - 1)) .opn (q : Int) = .opn ∧ getI (seq T (topT T q)) .opn (q : Int) ≠ .opn := turnOf_pos q h
theorem early {q : Nat} (h : 1 < topT T q) : fnd T (seq T (topT T q - 2)) q = .opn ∧ ∃ r, r < T.net.quests.length ∧ topT T r = topT T q - 1 := by
  have hp := topT_pos (T := T) (q := q) (by omega)
  have hql : q < T.net.quests.length := by
    apply Classical.byContradiction
    intro z
    exact hp.2.2 (getI_out (by rw [seq_len]; omega))
  have ho : getI (seq T (topT T q - 2)) .opn (q : Int) = .opn := opn_le (by omega) hp.2.1
  have es : seq T (topT T q - 1) = turn T (seq T (topT T q - 2)) := by
    rw [show topT T q - 1 = topT T q - 2 + 1 by omega]; rfl
  refine ⟨?_, ?_⟩
  · have e := turn_get T (a := seq T (topT T q - 2)) (q := q) (by rw [seq_len]; exact hql)
    rw [← es, hp.2.1, if_pos (isO_iff.mpr ho)] at e
    exact e.symm
  · have hf : fresh T (seq T (topT T q - 2)) ≠ [] := fun z => by
      have e1 := stop_le z (j := topT T q) (by omega)
      rw [e1] at hp
      exact hp.2.2 ho
    cases hf2 : fresh T (seq T (topT T q - 2)) with
    | nil => exact absurd hf2 hf
    | cons r rs =>
      have hm : r ∈ fresh T (seq T (topT T q - 2)) := by rw [hf2]; exact List.mem_cons_self
      have h3 := mem_fresh.mp hm
      have hr : r < T.net.quests.length := by rw [← seq_len (T := T) (topT T q - 2)]; exact h3.1
      refine ⟨r, hr, ?_⟩
      have e : turnOf T r (topT T q - 2 + 1) = _ := turnOf_step hr
      rw [if_pos hm] at e
      have keep : ∀ j, turnOf T r (topT T q - 2 + 1 + j) = topT T q - 2 + 1 := by
        intro j
        induction j with
        | zero => exact e
        | succ j ih =>
          rw [show topT T q - 2 + 1 + (j + 1) = (topT T q - 2 + 1 + j) + 1 by omega]
          unfold turnOf
          rw [ih, if_neg (by omega)]
      have hk := keep (T.net.quests.length - (topT T q - 2 + 1))
      rw [show topT T q - 2 + 1 + (T.net.quests.length - (topT T q - 2 + 1)) = T.net.quests.length by omega] at hk
      have hk2 : topT T r = topT T q - 2 + 1 := hk
      omega
end
end ST

set_option Elab.async false
set_option linter.all false
set_option maxRecDepth 100000
namespace MD
open PySem L2 PL ND WY
def sW : Str := ⟨#[]⟩
def ltr (i : Int) : Str := ⟨⟨[(alpha[(i.fmod 26).toNat]?).getD 97]⟩⟩
def sgn (c j : Int) : Int := c.fdiv (64 + 3 * j) + j * ((c.fdiv 64).fmod 2)
def chr (c a k j : Int) : Int := sgn c j + k * (if decide (j = a) = true then 1 else 0)
def word (c a k : Int) : Nat → Str
  | 0 => Str.ofString ""
  | j + 1 => word c a k j ++ ltr (chr c a k (0 + (j : Int)))
def size (c : Int) : Nat := (1 + c.fmod 8).toNat
def words (c : Int) (n : Nat) : List Str := (List.range n).map fun (k : Nat) => word c ((c.fdiv 8).fmod (size c)) (0 + (k : Int)) (size c)
def names (c : Int) (n : Nat) : List Str := if (c.fdiv 128).fmod 3 = 1 ∧ size c < 8 then (words c n).set 1 ((words c n).headD sW ++ ltr (c.fdiv 384)) else words c n
def ranks : Int → Nat → List Int
  | _, 0 => []
  | m, n + 1 => m.fmod 5 :: ranks (m.fdiv 5) n
def sortP (ps : List OR.Pr) : List OR.Pr := ps.mergeSort (PySem.W.dataLe false OR.eP)
def sortG (gs : List (Str × Int)) : List (Str × Int) := gs.mergeSort (PySem.W.dataLe false TB.eG)
def sortW (ws : List Str) : List Str := ws.mergeSort (PySem.W.dataLe false PyData.str)
def rk1 (c : Int) (n : Nat) : List Int := ranks ((c * 48271).fmod 2147483647) n
def rk2 (c : Int) (n : Nat) : List Int := if c.fmod 2 = 1 then ranks ((c * 69621).fmod 2147483629) n else rk1 c n
def lessB (o1 o2 : List Int) (j k : Int) : Bool := decide (getI o1 0 j < getI o1 0 k ∧ getI o2 0 j < getI o2 0 k)
def rowO (o1 o2 : List Int) (ls : List Str) (j : Int) : Nat → List OR.Pr
  | 0 => []
  | k + 1 => rowO o1 o2 ls j k ++ if lessB o1 o2 j (0 + (k : Int)) = true then [(getI ls sW j, getI ls sW (0 + (k : Int)))] else []
def rowsO (o1 o2 : List Int) (ls : List Str) : Nat → List OR.Pr
  | 0 => []
  | j + 1 => rowsO o1 o2 ls j ++ rowO o1 o2 ls (0 + (j : Int)) ls.length
def order (c : Int) (ls : List Str) : List OR.Pr := sortP (rowsO (rk1 c ls.length) (rk2 c ls.length) ls ls.length)
structure OrdIs (ls : List Str) (ps : List OR.Pr) : Prop where
  od : ∀ p ∈ ps, p.1 ∈ ls ∧ p.2 ∈ ls
  nr : ∀ p ∈ ps, p.1 ≠ p.2
  tr : ∀ p ∈ ps, ∀ q ∈ ps, p.2 = q.1 → (p.1, q.2) ∈ ps
def goesTo (m : Int) (rs : List Int) (ls : List Str) : Nat → List (Str × Int)
  | 0 => []
  | k + 1 => goesTo m rs ls k ++ if getI rs 0 (0 + (k : Int)) > 0 then [(getI ls sW (0 + (k : Int)), (getI rs 0 (5 + (0 + (k : Int)))).fmod m)] else []
def endsTo (rs : List Int) (ls : List Str) : Nat → List Str
  | 0 => []
  | k + 1 => endsTo rs ls k ++ if getI rs 0 (10 + (0 + (k : Int))) > 0 then [getI ls sW (0 + (k : Int))] else []
def state (m : Int) (ls : List Str) (c : Int) : TB.XSt := (sortG (goesTo m (ranks ((c * 864691128455135233).fmod 2305843009213693951) 20) ls 5), sortW (endsTo (ranks ((c * 864691128455135233).fmod 2305843009213693951) 20) ls 5))
def stCells (cs : List Int) : List Int := cutL cs (some 1) (some (2 + (getI cs 0 0).fmod 3))
def table (cs : List Int) (ls : List Str) : TB.XTab := ⟨(stCells cs).map (state (1 + (getI cs 0 0).fmod 3) ls), ((getI cs 0 0).fdiv 3).fmod (stCells cs).length, order (getI cs 0 4) ls⟩
def question (c : Int) (many states : Nat) (nms : List Str) : Quest :=
  ⟨((c * 16807).fmod 65519).fmod many, ((c * 69621).fmod 65497).fmod states,
    [getI nms sW (((c * 48271).fmod 65521).fmod 3)] ++ (if ((((c * 48271).fmod 65521).fdiv 3).fmod 2 = 1) then [getI nms sW ((((c * 48271).fmod 65521).fdiv 6).fmod 3)] else []) ++
    (if ((((c * 48271).fmod 65521).fdiv 18).fmod 4 = 3) then [getI nms sW ((((c * 48271).fmod 65521).fdiv 72).fmod 3)] else [])⟩
def thing (c : Int) (many asked : Nat) : Thing := if ((c * 69621).fmod 65497).fmod 4 = 0 then .plain else if ((c * 69621).fmod 65497).fmod 4 = 1 then .sort (((c * 48271).fmod 65521).fmod asked) else .part (((c * 48271).fmod 65521).fmod many)
def step (c : Int) (ls : List Str) (many asked : Nat) : ND.Step := if ((c * 69621).fmod 65497).fmod 2 = 0 then ⟨getI ls sW (((c * 48271).fmod 65521).fmod 5), true, ((c * 16807).fmod 65519).fmod asked⟩ else ⟨getI ls sW (((c * 48271).fmod 65521).fmod 5), false, ((c * 16807).fmod 65519).fmod many⟩
def tell (c : Int) (ls nms : List Str) (things asked : Nat) : ND.Tell := if ((c * 69621).fmod 65497).fmod 3 = 0 then ⟨getI ls sW (((c * 48271).fmod 65521).fmod 5), getI nms sW ((((c * 69621).fmod 65497).fdiv 3).fmod 3), true, ((c * 16807).fmod 65519).fmod asked⟩ else ⟨getI ls sW (((c * 48271).fmod 65521).fmod 5), getI nms sW ((((c * 69621).fmod 65497).fdiv 3).fmod 3), false, ((c * 16807).fmod 65519).fmod things⟩
end MD

set_option Elab.async false
set_option linter.all false
set_option maxRecDepth 100000
namespace MD
open PySem L2 PL ND WY
def most (n : Nat) : Nat := if n < 4 then 3 else 2
def noSc : ND.Scope := ([], [])
structure Dr where
  ls : List Str
  nms : List Str
  many : Nat
  things : Nat
  asked : Nat
structure DrOk (d : Dr) : Prop where
  l5 : d.ls.length = 5
  n3 : d.nms.length = 3
  lw : ∀ x ∈ d.ls, isNm x
  nw : ∀ x ∈ d.nms, isNm x
  m0 : 0 < d.many
  t0 : 0 < d.things
  a0 : 0 < d.asked
def place (d : Dr) (c : Int) : Int := ((c.fdiv 8 * 48271).fmod 65539).fmod d.many
def layS (d : Dr) (c : Int) (ss : List ND.Scope) : List ND.Scope :=
  if c.fmod 8 < 3 ∧ (getI ss noSc (place d c)).1.length < most d.many then ss.set (place d c).toNat ((getI ss noSc (place d c)).1 ++ [step (c.fdiv 8) d.ls d.many d.asked], (getI ss noSc (place d c)).2) else ss
def layT (d : Dr) (c : Int) (ss : List ND.Scope) : List ND.Scope :=
  if (2 < c.fmod 8 ∧ c.fmod 8 < 6) ∧ (getI ss noSc (place d c)).2.length < 2 then ss.set (place d c).toNat ((getI ss noSc (place d c)).1, (getI ss noSc (place d c)).2 ++ [tell (c.fdiv 8) d.ls d.nms d.things d.asked]) else ss
def lays (d : Dr) (cs : List Int) : List ND.Scope := cs.foldl (fun ss c => layT d c (layS d c ss)) (List.replicate d.many noSc)
def putT (many asked : Nat) (ts : List Thing) (c : Int) : List Thing := if c.fmod 8 = 6 ∧ ts.length < 6 then ts ++ [thing (c.fdiv 8) many asked] else ts
def putQ (many states : Nat) (nms : List Str) (qs : List Quest) (c : Int) : List Quest := if c.fmod 8 = 7 ∧ qs.length < 6 then qs ++ [question (c.fdiv 8) many states nms] else qs
def asks (cs : List Int) : List Int := cs.filter fun c => decide (c.fmod 8 = 7)
def askedN (cs : List Int) : Nat := 1 + min 5 (asks cs).length
def cellAt (ns : List Int) (k : Int) : Int := ns.getD k.toNat 0
def rest (ns : List Int) : List Int := cutL ns (some 9) none
def nms (ns : List Int) : List Str := names (cellAt ns 0) 3
def labs (ns : List Int) : List Str := names (cellAt ns 1) 5
def tab (ns : List Int) : TB.XTab := table ((List.range 5).map fun (k : Nat) => cellAt ns (2 + (k : Int))) (labs ns)
def many (ns : List Int) : Nat := (1 + (cellAt ns 7).fmod 5).toNat
def things (ns : List Int) : List Thing := (rest ns).foldl (putT (many ns) (askedN (rest ns))) [.part (((cellAt ns 7).fdiv 5).fmod (many ns))]
def quests (ns : List Int) : List Quest := (rest ns).foldl (putQ (many ns) (tab ns).states.length (nms ns)) [question ((cellAt ns 7).fdiv 25) (many ns) (tab ns).states.length (nms ns)]
def drs (ns : List Int) : Dr := ⟨labs ns, nms ns, many ns, (things ns).length, askedN (rest ns)⟩
def net (ns : List Int) : Net := ⟨lays (drs ns) (rest ns), things ns, quests ns⟩
structure NetIs (ns : List Int) : Prop where
  net : NetOk (net ns)
  tab : TOk (tab ns)
  qst : ∀ q ∈ (MD.net ns).quests, q.state < (MD.tab ns).states.length
  p3 : ∀ q ∈ (MD.net ns).quests, q.path.length ≤ 3
  sc1 : 1 ≤ (MD.net ns).scopes.length
  sc5 : (MD.net ns).scopes.length ≤ 5
  st : ∀ s ∈ (MD.net ns).scopes, s.1.length ≤ most (MD.net ns).scopes.length ∧ s.2.length ≤ 2
  th0 : 0 < (MD.net ns).things.length
  th6 : (MD.net ns).things.length ≤ 6
  q0 : 0 < (MD.net ns).quests.length
  q6 : (MD.net ns).quests.length ≤ 6
end MD

set_option Elab.async false
set_option linter.all false
set_option maxRecDepth 100000
namespace PL
open PySem L2
section
variable {S : Sto} {U V : List Nat}
mutual
theorem Vu.sub (h : ∀ n ∈ V, n ∈ U) : ∀ (e : PyData) (d : D), Vu S U d e → Vu S V d e
  | .none, _, w => by cases w; exact .z
  | .bool _, _, w => by cases w; exact .z
  | .int _, _, w => by cases w; exact .z
  | .str _, _, w => by cases w; exact .z
  | .dict _, _, w => by cases w; exact .z
  | .list es, _, w => by
    cases w with
    | z => exact .z
    | r nu e ws => exact .r (fun z => nu (h _ z)) e (Vus.sub h es _ ws)
  | .tuple es, _, w => by
    cases w with
    | z => exact .z
    | t ws => exact .t (Vus.sub h es _ ws)
theorem Vus.sub (h : ∀ n ∈ V, n ∈ U) : ∀ (es : List PyData) (ds : List D), Vus S U ds es → Vus S V ds es
  | [], _, w => by cases w; exact .nil
  | e :: es, _, w => by cases w with | cons a b => exact .cons (Vu.sub h e _ a) (Vus.sub h es _ b)
end
mutual
theorem VR.vu (h : ∀ n ∈ V, n ∈ U) : ∀ (r : RT) (d : D) (ns : List Nat), VR S U d r ns → (∀ n ∈ ns, n ∉ V) → Vu S V d (rtD r)
  | .z e, _, _, w, _ => by cases w with | z a => exact Vu.sub h e _ a
  | .l rs, _, _, w, hn => by
    cases w with
    | @l n ds _ ns e ws => exact .r (hn n (by simp)) e (VRs.vu h rs _ _ ws fun m hm => hn m (by simp [hm]))
  | .t rs, _, _, w, hn => by
    cases w with
    | t ws => exact .t (VRs.vu h rs _ _ ws hn)
theorem VRs.vu (h : ∀ n ∈ V, n ∈ U) : ∀ (rs : List RT) (ds : List D) (ns : List Nat), VRs S U ds rs ns → (∀ n ∈ ns, n ∉ V) → Vus S V ds (rtDs rs)
  | [], _, _, w, _ => by cases w; exact .nil
  | r :: rs, _, _, w, hn => by
    cases w with
    | cons a b => exact .cons (VR.vu h r _ _ a fun m hm => hn m (by simp [hm])) (VRs.vu h rs _ _ b fun m hm => hn m (by simp [hm]))
end
end
end PL
namespace WY
open PySem L2 PL
end WY

set_option Elab.async false
set_option linter.all false
set_option maxRecDepth 100000
namespace PL
open PySem L2
section
variable {S S' : Sto} {U : List Nat}
mutual
theorem Vu.keep (k : Keep U S S') : ∀ (e : PyData) (d : D), Vu S U d e → Vu S' U d e
  | .none, _, w => by cases w; exact .z
  | .bool _, _, w => by cases w; exact .z
  | .int _, _, w => by cases w; exact .z
  | .str _, _, w => by cases w; exact .z
  | .dict _, _, w => by cases w; exact .z
  | .list es, _, w => by
    cases w with
    | z => exact .z
    | r nu e ws => exact .r nu (k _ _ nu e) (Vus.keep k es _ ws)
  | .tuple es, _, w => by
    cases w with
    | z => exact .z
    | t ws => exact .t (Vus.keep k es _ ws)
theorem Vus.keep (k : Keep U S S') : ∀ (es : List PyData) (ds : List D), Vus S U ds es → Vus S' U ds es
  | [], _, w => by cases w; exact .nil
  | e :: es, _, w => by cases w with | cons a b => exact .cons (Vu.keep k e _ a) (Vus.keep k es _ b)
end
mutual
theorem Vu.vw : ∀ (e : PyData) (d : D), Vu S U d e → Vw S d e
  | .none, _, w => by cases w; exact .z
  | .bool _, _, w => by cases w; exact .z
  | .int _, _, w => by cases w; exact .z
  | .str _, _, w => by cases w; exact .z
  | .dict _, _, w => by cases w; exact .z
  | .list es, _, w => by
    cases w with
    | z => exact .z
    | r nu e ws => exact .r e (Vus.vw es _ ws)
  | .tuple es, _, w => by
    cases w with
    | z => exact .z
    | t ws => exact .t (Vus.vw es _ ws)
theorem Vus.vw : ∀ (es : List PyData) (ds : List D), Vus S U ds es → Vws S ds es
  | [], _, w => by cases w; exact .nil
  | e :: es, _, w => by cases w with | cons a b => exact .cons (Vu.vw e _ a) (Vus.vw es _ b)
end
theorem Vus.zs {α : Type} (f : α → PyData) : ∀ xs : List α, Vus S U (xs.map fun x => .z (f x)) (xs.map f)
  | [] => .nil
  | x :: xs => .cons .z (Vus.zs f xs)
end
end PL
namespace WY
open PySem L2 PL KD
end WY

set_option Elab.async false
set_option linter.all false
set_option maxRecDepth 100000
namespace IT
open PySem L2 PL NE
inductive Itm where
  | part (reach name : Str) (inner : List Itm)
  | thing (reach name : Str) (of : Option (List Str))
  | lt (name : Str) (of : Option (List Str))
  | elder (path : List Str)
  | all (path : List Str) (on : Bool)
  | one (reach name : Str) (path : List Str)
  | ask (path : List Str)
def upS (h : Nat) : XStep := ⟨Str.ofString "up", Str.ofString "to", h⟩
def newS (n : XNet) (s : XScope) : XNet := { n with scopes := n.scopes ++ [s] }
def newT (n : XNet) (t : XThing) : XNet := { n with things := n.things ++ [t] }
def newQ (n : XNet) (q : XQuest) : XNet := { n with quests := n.quests ++ [q] }
def putP (n : XNet) (i : Nat) (t : XStep) : XNet := { n with scopes := n.scopes.set i ((n.scopes.getD i noSc).1 ++ [t], (n.scopes.getD i noSc).2) }
def putL (n : XNet) (i : Nat) (t : XTell) : XNet := { n with scopes := n.scopes.set i ((n.scopes.getD i noSc).1, (n.scopes.getD i noSc).2 ++ [t]) }
def sorted (n : XNet) (here : Nat) : Option (List Str) → XNet
  | none => newT n ⟨Str.ofString "plain", 0⟩
  | some p => newT (newQ n ⟨here, 0, p⟩) ⟨Str.ofString "sort", n.quests.length⟩
def allW (on : Bool) : Str := if on then Str.ofString "allon" else Str.ofString "all"
mutual
def lay : Itm → Nat → Nat → XNet → XNet × Nat
  | .part r m inner, home, here, n => ((lays inner n.scopes.length n.scopes.length (putL (newT (newS n ([upS here], [])) ⟨Str.ofString "part", n.scopes.length⟩) home ⟨r, m, Str.ofString "thing", n.things.length⟩)).1, here)
  | .thing r m of, home, here, n => (putL (sorted n here of) home ⟨r, m, Str.ofString "thing", n.things.length⟩, here)
  | .lt m of, _, here, n => (putL (newS (sorted n here of) ([upS here], [])) n.scopes.length ⟨Str.ofString "let", m, Str.ofString "thing", n.things.length⟩, n.scopes.length)
  | .elder p, home, here, n => (putP (newQ n ⟨home, 2, p⟩) home ⟨Str.ofString "elder", Str.ofString "by", n.quests.length⟩, here)
  | .all p on, home, here, n => (putP (newQ n ⟨home, 2, p⟩) home ⟨allW on, Str.ofString "by", n.quests.length⟩, here)
  | .one r m p, home, here, n => (putL (newQ n ⟨home, 2, p⟩) home ⟨r, m, Str.ofString "by", n.quests.length⟩, here)
  | .ask p, _, here, n => (newQ n ⟨here, 0, p⟩, here)
def lays : List Itm → Nat → Nat → XNet → XNet × Nat
  | [], _, here, n => (n, here)
  | i :: is, home, here, n => lays is home (lay i home here n).2 (lay i home here n).1
end
mutual
def cnt : Itm → Nat
  | .part _ _ inner => 1 + cnts inner
  | .thing _ _ _ => 1
  | .lt _ _ => 1
  | .elder _ => 1
  | .all _ _ => 1
  | .one _ _ _ => 1
  | .ask _ => 1
def cnts : List Itm → Nat
  | [] => 0
  | i :: is => cnt i + cnts is
end
mutual
def dep : Itm → Nat
  | .part _ _ inner => 1 + deps inner
  | .thing _ _ _ => 1
  | .lt _ _ => 1
  | .elder _ => 1
  | .all _ _ => 1
  | .one _ _ _ => 1
  | .ask _ => 1
def deps : List Itm → Nat
  | [] => 0
  | i :: is => max (dep i) (deps is)
end
def sz (n : XNet) : Nat := n.scopes.length + n.things.length + n.quests.length + (n.scopes.map fun s => s.1.length + s.2.length).sum
theorem sz_newS (n : XNet) (s : XScope) : sz (newS n s) = sz n + 1 + (s.1.length + s.2.length) := by
  unfold sz newS; simp; omega
theorem sz_newT (n : XNet) (t : XThing) : sz (newT n t) = sz n + 1 := by
  unfold sz newT; simp; omega
theorem sz_newQ (n : XNet) (t : XQuest) : sz (newQ n t) = sz n + 1 := by
  unfold sz newQ; simp; omega
theorem sum_set {α : Type} (f : α → Nat) : ∀ (xs : List α) (i : Nat) (x : α) (d : α), i < xs.length → ((xs.set i x).map f).sum + f (xs.getD i d) = (xs.map f).sum + f x
  | [], _, _, _, h => by simp at h
  | y :: ys, 0, x, d, _ => by simp; omega
  | y :: ys, i + 1, x, d, h => by
    have := sum_set f ys i x d (by simpa using h)
    simp at this ⊢; omega
theorem set_out {α : Type} : ∀ (xs : List α) (i : Nat) (x : α), xs.length ≤ i → xs.set i x = xs
  | [], _, _, _ => rfl
  | y :: ys, 0, _, h => by simp at h
  | y :: ys, i + 1, x, h => by simp [set_out ys i x (by simpa using h)]
theorem sz_putL (n : XNet) (i : Nat) (t : XTell) : sz (putL n i t) ≤ sz n + 1 := by
  unfold sz putL
  by_cases h : i < n.scopes.length
  · have := sum_set (fun s : XScope => s.1.length + s.2.length) n.scopes i ((n.scopes.getD i noSc).1, (n.scopes.getD i noSc).2 ++ [t]) noSc h
    simp only [List.length_append, List.length_set, List.length_cons, List.length_nil] at this ⊢
    omega
  · dsimp only
    rw [set_out _ _ _ (by omega)]; omega
theorem sz_putP (n : XNet) (i : Nat) (t : XStep) : sz (putP n i t) ≤ sz n + 1 := by
  unfold sz putP
  by_cases h : i < n.scopes.length
  · have := sum_set (fun s : XScope => s.1.length + s.2.length) n.scopes i ((n.scopes.getD i noSc).1 ++ [t], (n.scopes.getD i noSc).2) noSc h
    simp only [List.length_append, List.length_set, List.length_cons, List.length_nil] at this ⊢
    omega
  · dsimp only
    rw [set_out _ _ _ (by omega)]; omega
theorem sz_sorted (n : XNet) (h : Nat) : ∀ of, sz (sorted n h of) ≤ sz n + 2
  | none => by unfold sorted; rw [sz_newT]; omega
  | some p => by unfold sorted; rw [sz_newT, sz_newQ]; omega
mutual
theorem sz_lay : ∀ (i : Itm) (home here : Nat) (n : XNet), sz (lay i home here n).1 ≤ sz n + 5 * cnt i
  | .part r m inner, home, here, n => by
    rw [lay, cnt]
    dsimp only
    have h1 := sz_lays inner n.scopes.length n.scopes.length (putL (newT (newS n ([upS here], [])) ⟨Str.ofString "part", n.scopes.length⟩) home ⟨r, m, Str.ofString "thing", n.things.length⟩)
    have h2 := sz_putL (newT (newS n ([upS here], [])) ⟨Str.ofString "part", n.scopes.length⟩) home ⟨r, m, Str.ofString "thing", n.things.length⟩
    rw [sz_newT, sz_newS] at h2
    dsimp only [List.length_cons, List.length_nil] at h2
    omega
  | .thing r m of, home, here, n => by
    rw [lay, cnt]
    dsimp only
    have h1 := sz_putL (sorted n here of) home ⟨r, m, Str.ofString "thing", n.things.length⟩
    have h2 := sz_sorted n here of
    omega
  | .lt m of, _, here, n => by
    rw [lay, cnt]
    dsimp only
    have h1 := sz_putL (newS (sorted n here of) ([upS here], [])) n.scopes.length ⟨Str.ofString "let", m, Str.ofString "thing", n.things.length⟩
    have h2 := sz_sorted n here of
    rw [sz_newS] at h1
    dsimp only [List.length_cons, List.length_nil] at h1
    omega
  | .elder p, home, here, n => by
    rw [lay, cnt]
    dsimp only
    have h1 := sz_putP (newQ n ⟨home, 2, p⟩) home ⟨Str.ofString "elder", Str.ofString "by", n.quests.length⟩
    rw [sz_newQ] at h1; omega
  | .all p on, home, here, n => by
    rw [lay, cnt]
    dsimp only
    have h1 := sz_putP (newQ n ⟨home, 2, p⟩) home ⟨allW on, Str.ofString "by", n.quests.length⟩
    rw [sz_newQ] at h1; omega
  | .one r m p, home, here, n => by
    rw [lay, cnt]
    dsimp only
    have h1 := sz_putL (newQ n ⟨home, 2, p⟩) home ⟨r, m, Str.ofString "by", n.quests.length⟩
    rw [sz_newQ] at h1; omega
  | .ask p, _, here, n => by
    rw [lay, cnt]
    dsimp only
    rw [sz_newQ]; omega
theorem sz_lays : ∀ (is : List Itm) (home here : Nat) (n : XNet), sz (lays is home here n).1 ≤ sz n + 5 * cnts is
  | [], _, _, n => by rw [lays, cnts]; dsimp only; omega
  | i :: is, home, here, n => by
    rw [lays, cnts]
    have h1 := sz_lay i home here n
    have h2 := sz_lays is home (lay i home here n).2 (lay i home here n).1
    omega
end
theorem len_sorted (n : XNet) (h : Nat) : ∀ of, (sorted n h of).scopes.length = n.scopes.length
  | none => rfl
  | some _ => rfl
mutual
theorem len_lay : ∀ (i : Itm) (home here : Nat) (n : XNet), here < n.scopes.length → n.scopes.length ≤ (lay i home here n).1.scopes.length ∧ (lay i home here n).2 < (lay i home here n).1.scopes.length
  | .part r m inner, home, here, n, h => by
    rw [lay]
    dsimp only
    have h1 := len_lays inner n.scopes.length n.scopes.length (putL (newT (newS n ([upS here], [])) ⟨Str.ofString "part", n.scopes.length⟩) home ⟨r, m, Str.ofString "thing", n.things.length⟩) (by simp [putL, newT, newS])
    have e : (putL (newT (newS n ([upS here], [])) ⟨Str.ofString "part", n.scopes.length⟩) home ⟨r, m, Str.ofString "thing", n.things.length⟩).scopes.length = n.scopes.length + 1 := by simp [putL, newT, newS]
    omega
  | .thing r m of, home, here, n, h => by
    rw [lay]
    have e := len_sorted n here of
    simp [putL]; omega
  | .lt m of, _, here, n, h => by
    rw [lay]
    have e := len_sorted n here of
    simp [putL, newS]; omega
  | .elder p, home, here, n, h => by rw [lay]; simp [putP, newQ]; omega
  | .all p on, home, here, n, h => by rw [lay]; simp [putP, newQ]; omega
  | .one r m p, home, here, n, h => by rw [lay]; simp [putL, newQ]; omega
  | .ask p, _, here, n, h => by rw [lay]; simp [newQ]; omega
theorem len_lays : ∀ (is : List Itm) (home here : Nat) (n : XNet), here < n.scopes.length → n.scopes.length ≤ (lays is home here n).1.scopes.length ∧ (lays is home here n).2 < (lays is home here n).1.scopes.length
  | [], _, _, n, h => by rw [lays]; exact ⟨Nat.le_refl _, h⟩
  | i :: is, home, here, n, h => by
    rw [lays]
    have h1 := len_lay i home here n h
    have h2 := len_lays is home (lay i home here n).2 (lay i home here n).1 h1.2
    omega
end
def ofD : Option (List Str) → PyData
  | none => .none
  | some p => .tuple (p.map .str)
abbrev pathD (p : List Str) : PyData := .tuple (p.map .str)
mutual
inductive ItIn (cl : Str → Addr) (S : Sto) (U : List Nat) : Nat → Itm → Prop
  | part {n m : Nat} {ds : List D} {r nm : Str} {is : List Itm} : n ∉ U → m ∉ U → S[n]? = some (.ins (cl "Part") [("reach", .z (.str r)), ("name", .z (.str nm)), ("inner", .r m)]) → S[m]? = some (.lst ds) → ItsIn cl S U ds is → ItIn cl S U n (.part r nm is)
  | thing {n : Nat} {r nm : Str} {of : Option (List Str)} : n ∉ U → S[n]? = some (.ins (cl "Thing") [("reach", .z (.str r)), ("name", .z (.str nm)), ("of", .z (ofD of))]) → ItIn cl S U n (.thing r nm of)
  | lt {n : Nat} {nm : Str} {of : Option (List Str)} : n ∉ U → S[n]? = some (.ins (cl "Let") [("name", .z (.str nm)), ("of", .z (ofD of))]) → ItIn cl S U n (.lt nm of)
  | elder {n : Nat} {p : List Str} : n ∉ U → S[n]? = some (.ins (cl "Elder") [("path", .z (pathD p))]) → ItIn cl S U n (.elder p)
  | all {n : Nat} {p : List Str} {on : Bool} : n ∉ U → S[n]? = some (.ins (cl "All") [("path", .z (pathD p)), ("on", .z (.bool on))]) → ItIn cl S U n (.all p on)
  | one {n : Nat} {r nm : Str} {p : List Str} : n ∉ U → S[n]? = some (.ins (cl "One") [("reach", .z (.str r)), ("name", .z (.str nm)), ("path", .z (pathD p))]) → ItIn cl S U n (.one r nm p)
  | ask {n : Nat} {p : List Str} : n ∉ U → S[n]? = some (.ins (cl "Ask") [("path", .z (pathD p))]) → ItIn cl S U n (.ask p)
inductive ItsIn (cl : Str → Addr) (S : Sto) (U : List Nat) : List D → List Itm → Prop
  | nil : ItsIn cl S U [] []
  | cons {n : Nat} {ds : List D} {i : Itm} {is : List Itm} : ItIn cl S U n i → ItsIn cl S U ds is → ItsIn cl S U (.r n :: ds) (i :: is)
end
section
variable {cl : Str → Addr} {S S' : Sto} {U U' : List Nat}
mutual
theorem ItIn.keep (k : ∀ (n : Nat) (o : Ob), n ∉ U → S[n]? = some o → n ∉ U' ∧ S'[n]? = some o) : ∀ (i : Itm) (n : Nat), ItIn cl S U n i → ItIn cl S' U' n i
  | .part _ _ is, n, h => by
    cases h with
    | part a b c d e => exact .part (k _ _ a c).1 (k _ _ b d).1 (k _ _ a c).2 (k _ _ b d).2 (ItsIn.keep k is _ e)
  | .thing _ _ _, n, h => by cases h with | thing a b => exact .thing (k _ _ a b).1 (k _ _ a b).2
  | .lt _ _, n, h => by cases h with | lt a b => exact .lt (k _ _ a b).1 (k _ _ a b).2
  | .elder _, n, h => by cases h with | elder a b => exact .elder (k _ _ a b).1 (k _ _ a b).2
  | .all _ _, n, h => by cases h with | all a b => exact .all (k _ _ a b).1 (k _ _ a b).2
  | .one _ _ _, n, h => by cases h with | one a b => exact .one (k _ _ a b).1 (k _ _ a b).2
  | .ask _, n, h => by cases h with | ask a b => exact .ask (k _ _ a b).1 (k _ _ a b).2
theorem ItsIn.keep (k : ∀ (n : Nat) (o : Ob), n ∉ U → S[n]? = some o → n ∉ U' ∧ S'[n]? = some o) : ∀ (is : List Itm) (ds : List D), ItsIn cl S U ds is → ItsIn cl S' U' ds is
  | [], _, h => by cases h; exact .nil
  | i :: is, _, h => by
    cases h with
    | cons a b => exact .cons (ItIn.keep k i _ a) (ItsIn.keep k is _ b)
end
theorem ItsIn.get : ∀ {ds : List D} {is : List Itm} {j : Nat} {i : Itm}, ItsIn cl S U ds is → is[j]? = some i → ∃ n, ds[j]? = some (.r n) ∧ ItIn cl S U n i
  | _, [], _, _, _, e => by simp at e
  | _, _ :: _, 0, _, h, e => by
    cases h with
    | cons a b => cases e; exact ⟨_, rfl, a⟩
  | _, _ :: is, j + 1, i, h, e => by
    cases h with
    | cons a b => exact ItsIn.get (is := is) (j := j) b e
theorem ItsIn.len : ∀ {ds : List D} {is : List Itm}, ItsIn cl S U ds is → ds.length = is.length
  | _, [], h => by cases h; rfl
  | _, _ :: is, h => by cases h with | cons a b => simp [ItsIn.len b]
structure DrIn (C : Addr) (S : Sto) (h a b c : Nat) (ps : List (Nat × Nat)) (n : XNet) : Prop where
  o : S[h]? = some (.ins C [("scopes", .r a), ("things", .r b), ("questions", .r c)])
  sa : S[a]? = some (.lst (ps.map scD))
  si : ScsIn S ps n.scopes
  sb : S[b]? = some (.lst (n.things.map zT))
  sc : S[c]? = some (.lst (n.quests.map zQ))
  nd : (h :: a :: b :: c :: plcs ps).Nodup
def Dr (C : Addr) (S : Sto) (U : List Nat) (h : Nat) (n : XNet) : Prop := ∃ a b c ps, DrIn C S h a b c ps n ∧ U = h :: a :: b :: c :: plcs ps
structure DDeed (C : Addr) (h : Nat) (U : List Nat) (S S' : Sto) (n : XNet) : Prop where
  ex : ∃ U', Dr C S' U' h n ∧ ∀ u ∈ U', u ∈ U ∨ S.length ≤ u
  k : Keep U S S'
  l : S.length ≤ S'.length
theorem keep_far {S S1 S2 : Sto} {U U1 : List Nat} (k1 : Keep U S S1) (hu : ∀ u ∈ U1, u ∈ U ∨ S.length ≤ u) (k2 : Keep U1 S1 S2) : Keep U S S2 := fun n o hn e => by
  have hlt := (List.getElem?_eq_some_iff.mp e).1
  refine k2 n o (fun z => ?_) (k1 n o hn e)
  rcases hu n z with z | z
  · exact hn z
  · omega
theorem DDeed.then {C : Addr} {h : Nat} {n1 n2 : XNet} {S S1 S2 : Sto} {U : List Nat} (d1 : DDeed C h U S S1 n1) (d2 : ∀ U1, Dr C S1 U1 h n1 → DDeed C h U1 S1 S2 n2) : DDeed C h U S S2 n2 := by
  obtain ⟨⟨U1, D1, hu1⟩, k1, l1⟩ := d1
  obtain ⟨⟨U2, D2, hu2⟩, k2, l2⟩ := d2 U1 D1
  refine ⟨⟨U2, D2, fun u hu => ?_⟩, keep_far k1 hu1 k2, Nat.le_trans l1 l2⟩
  rcases hu2 u hu with z | z
  · exact hu1 u z
  · exact .inr (Nat.le_trans l1 z)
theorem ddeed_step {C : Addr} {h : Nat} {n2 : XNet} {S S1 S2 : Sto} {U U1 : List Nat} (hu1 : ∀ u ∈ U1, u ∈ U ∨ S.length ≤ u) (k1 : Keep U S S1) (l1 : S.length ≤ S1.length) (d2 : DDeed C h U1 S1 S2 n2) : DDeed C h U S S2 n2 := by
  obtain ⟨⟨U2, D2, hu2⟩, k2, l2⟩ := d2
  refine ⟨⟨U2, D2, fun u hu => ?_⟩, keep_far k1 hu1 k2, Nat.le_trans l1 l2⟩
  rcases hu2 u hu with z | z
  · exact hu1 u z
  · exact .inr (Nat.le_trans l1 z)
theorem Dr.obj {C : Addr} {S : Sto} {U : List Nat} {h : Nat} {n : XNet} (d : Dr C S U h n) : ∃ a b c, S[h]? = some (.ins C [("scopes", .r a), ("things", .r b), ("questions", .r c)]) := by
  obtain ⟨a, b, c, ps, D0, _⟩ := d
  exact ⟨a, b, c, D0.o⟩
theorem keep_its {S S1 : Sto} {U U1 : List Nat} (k1 : Keep U S S1) (hu : ∀ u ∈ U1, u ∈ U ∨ S.length ≤ u) : ∀ (n : Nat) (o : Ob), n ∉ U → S[n]? = some o → n ∉ U1 ∧ S1[n]? = some o := fun n o hn e => by
  have hlt := (List.getElem?_eq_some_iff.mp e).1
  refine ⟨fun z => ?_, k1 n o hn e⟩
  rcases hu n z with z | z
  · exact hn z
  · omega
end
end IT

set_option Elab.async false
set_option linter.all false
set_option maxRecDepth 100000
namespace IT
open PySem L2 PL NE
section
variable {C : Addr} {S : Sto} {h a b c : Nat} {ps : List (Nat × Nat)} {n : XNet}
theorem DrIn.lts (D : DrIn C S h a b c ps n) : ∀ u ∈ h :: a :: b :: c :: plcs ps, u < S.length := fun u hu => by
  simp only [List.mem_cons] at hu
  rcases hu with rfl | rfl | rfl | rfl | hu
  · exact (List.getElem?_eq_some_iff.mp D.o).1
  · exact (List.getElem?_eq_some_iff.mp D.sa).1
  · exact (List.getElem?_eq_some_iff.mp D.sb).1
  · exact (List.getElem?_eq_some_iff.mp D.sc).1
  · exact D.si.lt u hu
theorem DrIn.ne (D : DrIn C S h a b c ps n) : a ≠ h ∧ b ≠ h ∧ c ≠ h ∧ a ≠ b ∧ a ≠ c ∧ b ≠ c ∧ h ∉ plcs ps ∧ a ∉ plcs ps ∧ b ∉ plcs ps ∧ c ∉ plcs ps ∧ (plcs ps).Nodup := by
  have hn := D.nd
  simp only [List.nodup_cons, List.mem_cons, not_or] at hn
  obtain ⟨⟨h1, h2, h3, h4⟩, ⟨h5, h6, h7⟩, ⟨h8, h9⟩, h10, h11⟩ := hn
  exact ⟨fun z => h1 z.symm, fun z => h2 z.symm, fun z => h3 z.symm, h5, h6, h8, h4, h7, h9, h10, h11⟩
theorem DrIn.mkS (D : DrIn C S h a b c ps n) (st : List XStep) (tl : List XTell) : DDeed C h (h :: a :: b :: c :: plcs ps) S ((S ++ [Ob.lst (st.map zS)] ++ [Ob.lst (tl.map zL)]).set a (.lst (ps.map scD ++ [scD (S.length, S.length + 1)]))) (newS n (st, tl)) := by
  obtain ⟨n1, n2, n3, n4, n5, n6, n7, n8, n9, n10, n11⟩ := D.ne
  have lts := D.lts
  have la : a < S.length := lts a (by simp)
  refine ⟨⟨h :: a :: b :: c :: plcs (ps ++ [(S.length, S.length + 1)]), ⟨a, b, c, _, ⟨?_, ?_, ?_, ?_, ?_, ?_⟩, rfl⟩, ?_⟩, ?_, ?_⟩
  · rw [List.getElem?_set_ne n1]; exact sto_app (sto_app D.o)
  · rw [List.getElem?_set_self (by simp; omega), List.map_append]; rfl
  · refine ScsIn.snoc (ScsIn.keep D.si.app.app n8) ⟨?_, ?_⟩
    · rw [List.getElem?_set_ne (show a ≠ S.length by omega)]
      exact sto_app sto_last
    · show (List.set _ a _)[S.length + 1]? = _
      rw [List.getElem?_set_ne (show a ≠ S.length + 1 by omega)]
      have : (S ++ [Ob.lst (st.map zS)]).length = S.length + 1 := by simp
      rw [← this]; exact sto_last
  · rw [List.getElem?_set_ne n4]; exact sto_app (sto_app D.sb)
  · rw [List.getElem?_set_ne n5]; exact sto_app (sto_app D.sc)
  · have e : h :: a :: b :: c :: plcs (ps ++ [(S.length, S.length + 1)]) = (h :: a :: b :: c :: plcs ps) ++ [S.length, S.length + 1] := by rw [plcs_app]; rfl
    rw [e, List.nodup_append]
    refine ⟨D.nd, by simp, fun x hx y hy => ?_⟩
    have := lts x hx
    simp at hy; omega
  · intro u hu
    have e : h :: a :: b :: c :: plcs (ps ++ [(S.length, S.length + 1)]) = (h :: a :: b :: c :: plcs ps) ++ [S.length, S.length + 1] := by rw [plcs_app]; rfl
    rw [e] at hu
    rcases List.mem_append.mp hu with hu | hu
    · exact .inl hu
    · right; simp at hu; omega
  · exact Keep.app.trans (Keep.app.trans (.set (by simp)))
  · simp
theorem DrIn.mkT (D : DrIn C S h a b c ps n) (t : XThing) : DDeed C h (h :: a :: b :: c :: plcs ps) S (S.set b (.lst (n.things.map zT ++ [zT t]))) (newT n t) := by
  obtain ⟨n1, n2, n3, n4, n5, n6, n7, n8, n9, n10, n11⟩ := D.ne
  have lb : b < S.length := D.lts b (by simp)
  refine ⟨⟨_, ⟨a, b, c, ps, ⟨?_, ?_, ?_, ?_, ?_, D.nd⟩, rfl⟩, fun u hu => .inl hu⟩, .set (by simp), by simp⟩
  · rw [List.getElem?_set_ne n2]; exact D.o
  · rw [List.getElem?_set_ne (Ne.symm n4)]; exact D.sa
  · exact ScsIn.keep D.si n9
  · rw [List.getElem?_set_self lb]; simp [newT]
  · rw [List.getElem?_set_ne n6]; exact D.sc
theorem DrIn.mkQ (D : DrIn C S h a b c ps n) (t : XQuest) : DDeed C h (h :: a :: b :: c :: plcs ps) S (S.set c (.lst (n.quests.map zQ ++ [zQ t]))) (newQ n t) := by
  obtain ⟨n1, n2, n3, n4, n5, n6, n7, n8, n9, n10, n11⟩ := D.ne
  have lb : c < S.length := D.lts c (by simp)
  refine ⟨⟨_, ⟨a, b, c, ps, ⟨?_, ?_, ?_, ?_, ?_, D.nd⟩, rfl⟩, fun u hu => .inl hu⟩, .set (by simp), by simp⟩
  · rw [List.getElem?_set_ne n3]; exact D.o
  · rw [List.getElem?_set_ne (Ne.symm n5)]; exact D.sa
  · exact ScsIn.keep D.si n10
  · rw [List.getElem?_set_ne (Ne.symm n6)]; exact D.sb
  · rw [List.getElem?_set_self lb]; simp [newQ]
theorem DrIn.app {T : Sto} (D : DrIn C S h a b c ps n) : DrIn C (S ++ T) h a b c ps n := ⟨sto_app D.o, sto_app D.sa, D.si.app, sto_app D.sb, sto_app D.sc, D.nd⟩
theorem Dr.app {T : Sto} {U : List Nat} (d : Dr C S U h n) : Dr C (S ++ T) U h n := by
  obtain ⟨a, b, c, ps, D, e⟩ := d
  exact ⟨a, b, c, ps, D.app, e⟩
theorem DDeed.pre {S0 S' : Sto} {U : List Nat} (d : DDeed C h U S S' n) (k : Keep U S0 S) (l : S0.length ≤ S.length) : DDeed C h U S0 S' n := by
  obtain ⟨⟨U1, D1, hu1⟩, k1, l1⟩ := d
  refine ⟨⟨U1, D1, fun u hu => ?_⟩, k.trans k1, Nat.le_trans l l1⟩
  rcases hu1 u hu with z | z
  · exact .inl z
  · exact .inr (Nat.le_trans l z)
theorem get_d {n : XNet} {i : Nat} {s : XScope} (h : n.scopes[i]? = some s) : n.scopes.getD i noSc = s := by rw [List.getD_eq_getElem?_getD, h]; rfl
theorem DrIn.mkP (D : DrIn C S h a b c ps n) {i : Nat} {q : Nat × Nat} {s : XScope} (hq : ps[i]? = some q) (hs : n.scopes[i]? = some s) (t : XStep) : DDeed C h (h :: a :: b :: c :: plcs ps) S (S.set q.1 (.lst (s.1.map zS ++ [zS t]))) (putP n i t) := by
  obtain ⟨n1, n2, n3, n4, n5, n6, n7, n8, n9, n10, n11⟩ := D.ne
  have hm := mem_plcs (List.mem_of_getElem? hq)
  have e : Ob.lst (s.1.map zS ++ [zS t]) = Ob.lst ((s.1 ++ [t]).map zS) := by rw [List.map_append]; rfl
  rw [e]
  refine ⟨⟨_, ⟨a, b, c, ps, ⟨?_, ?_, ?_, ?_, ?_, D.nd⟩, rfl⟩, fun u hu => .inl hu⟩, .set (by simp [hm.1]), by simp⟩
  · rw [List.getElem?_set_ne (fun z => n7 (by rw [← z]; exact hm.1))]; exact D.o
  · rw [List.getElem?_set_ne (fun z => n8 (by rw [← z]; exact hm.1))]; exact D.sa
  · unfold putP
    rw [get_d hs]
    exact D.si.put1 n11 hq hs
  · rw [List.getElem?_set_ne (fun z => n9 (by rw [← z]; exact hm.1))]; exact D.sb
  · rw [List.getElem?_set_ne (fun z => n10 (by rw [← z]; exact hm.1))]; exact D.sc
theorem DrIn.mkL (D : DrIn C S h a b c ps n) {i : Nat} {q : Nat × Nat} {s : XScope} (hq : ps[i]? = some q) (hs : n.scopes[i]? = some s) (t : XTell) : DDeed C h (h :: a :: b :: c :: plcs ps) S (S.set q.2 (.lst (s.2.map zL ++ [zL t]))) (putL n i t) := by
  obtain ⟨n1, n2, n3, n4, n5, n6, n7, n8, n9, n10, n11⟩ := D.ne
  have hm := mem_plcs (List.mem_of_getElem? hq)
  have e : Ob.lst (s.2.map zL ++ [zL t]) = Ob.lst ((s.2 ++ [t]).map zL) := by rw [List.map_append]; rfl
  rw [e]
  refine ⟨⟨_, ⟨a, b, c, ps, ⟨?_, ?_, ?_, ?_, ?_, D.nd⟩, rfl⟩, fun u hu => .inl hu⟩, .set (by simp [hm.2]), by simp⟩
  · rw [List.getElem?_set_ne (fun z => n7 (by rw [← z]; exact hm.2))]; exact D.o
  · rw [List.getElem?_set_ne (fun z => n8 (by rw [← z]; exact hm.2))]; exact D.sa
  · unfold putL
    rw [get_d hs]
    exact D.si.put2 n11 hq hs
  · rw [List.getElem?_set_ne (fun z => n9 (by rw [← z]; exact hm.2))]; exact D.sb
  · rw [List.getElem?_set_ne (fun z => n10 (by rw [← z]; exact hm.2))]; exact D.sc
theorem scope_sz {n : XNet} {i : Nat} {s : XScope} (h : n.scopes[i]? = some s) : s.1.length + s.2.length ≤ sz n := by
  have : ∀ (xs : List XScope) (i : Nat) (s : XScope), xs[i]? = some s → s.1.length + s.2.length ≤ (xs.map fun s => s.1.length + s.2.length).sum := by
    intro xs
    induction xs with
    | nil => intro i s h; simp at h
    | cons x xs ih =>
      intro i s h
      cases i with
      | zero => cases h; simp
      | succ i =>
        have := ih i s (by simpa using h)
        simp; omega
  have := this _ _ _ h
  unfold sz; omega
end
end IT
namespace IT
open PySem L2 PL NE
theorem lays_app : ∀ (xs ys : List Itm) (home here : Nat) (n : XNet), lays (xs ++ ys) home here n = lays ys home (lays xs home here n).2 (lays xs home here n).1
  | [], _, _, _, _ => by rw [List.nil_append, lays]
  | x :: xs, ys, home, here, n => by rw [List.cons_append, lays, lays, lays_app xs]
theorem cnts_app : ∀ (xs ys : List Itm), cnts (xs ++ ys) = cnts xs + cnts ys
  | [], _ => by rw [List.nil_append, cnts]; omega
  | x :: xs, ys => by rw [List.cons_append, cnts, cnts, cnts_app xs]; omega
theorem take_one {α : Type} {xs : List α} {j : Nat} {x : α} (h : xs[j]? = some x) : xs.take (j + 1) = xs.take j ++ [x] := by rw [List.take_add_one, h]; rfl
theorem cnts_take {is : List Itm} {j : Nat} {i : Itm} (h : is[j]? = some i) : cnts (is.take j) + cnt i ≤ cnts is := by
  have e : cnts (is.take (j + 1)) = cnts (is.take j) + cnt i := by rw [take_one h, cnts_app, cnts, cnts]; omega
  have e2 : cnts is = cnts (is.take (j + 1)) + cnts (is.drop (j + 1)) := by rw [← cnts_app, List.take_append_drop]
  omega
theorem lays_take {is : List Itm} {j : Nat} {i : Itm} (h : is[j]? = some i) (home here : Nat) (n : XNet) : lays (is.take (j + 1)) home here n = lay i home (lays (is.take j) home here n).2 (lays (is.take j) home here n).1 := by
  rw [take_one h, lays_app, lays, lays]
theorem dep_mem : ∀ {is : List Itm} {j : Nat} {i : Itm}, is[j]? = some i → dep i ≤ deps is
  | [], _, _, h => by simp at h
  | x :: xs, 0, _, h => by cases h; rw [deps]; omega
  | x :: xs, j + 1, i, h => by
    have := dep_mem (is := xs) (j := j) (i := i) (by simpa using h)
    rw [deps]; omega
theorem cnts_len : ∀ (is : List Itm), is.length ≤ cnts is
  | [] => by rw [cnts]; simp
  | i :: is => by
    have := cnts_len is
    have : 1 ≤ cnt i := by cases i <;> rw [cnt] <;> omega
    rw [cnts, List.length_cons]; omega
end IT

set_option Elab.async false
set_option linter.all false
set_option maxRecDepth 100000
set_option maxHeartbeats 1000000
namespace K70
open PySem L2 PL NE
open ND (cutL_map cutL_len cutL_mem bz_ints LwN isNm alpha alpha_eq alpha_at getA ixD_zA ixD_bA app_list one_len getI getI_at getI_mem)
local macro_rules | `(tactic| walk_at "st1") => `(tactic| first | assumption | exact sto_last | exact sto_r0 | exact sto_r1 | exact sto_r2 | exact sto_r3 | exact sto_r4)
local macro_rules | `(tactic| walk_at "sto") => `(tactic| first | walk_at "st1" | exact sto_app (by walk_at "st1") | exact sto_app (sto_app (by walk_at "st1")))
local macro_rules | `(tactic| walk_at "sz") => `(tactic| ((try simp only [List.length_map, List.length_range, List.length_append, List.length_cons, List.length_nil]); omega))
local macro_rules | `(tactic| walk_at "go") => `(tactic| ((try (conv => whnf)); repeat ((first | (show pIf _ _ _; first | refine pIf.tt rfl ?_ | refine pIf.ff rfl ?_) | (show pReq _ _; first | refine pReq.mk rfl ?_ | refine pReq.mk (sz_le rfl) ?_ | refine pReq.mk (sz_lt rfl) ?_ | refine pReq.mk (by decide) ?_ | refine pReq.mk (Or.inr (by decide)) ?_ | refine pReq.mk (Or.inl (by decide)) ?_ | refine pReq.mk (by assumption) ?_ | refine pReq.mk (isTy_l (by walk_at "sto")) ?_ | refine pReq.mk (by omega) ?_ | refine pReq.mk (sz_lt6 (by walk_at "sz")) ?_ | refine pReq.mk (sz_le6 (by walk_at "sz")) ?_ | refine pReq.mk (by walk_at "sz") ?_) | (show pGet _ _; first | refine pGet.mk rfl ?_ | refine pGet.mk (by walk_at "sto") ?_ | refine pGet.mk (lenD_at (by walk_at "sto")) ?_ | refine pGet.mk (sqD_at (by walk_at "sto")) ?_ | refine pGet.mk (lsD_at (by walk_at "sto")) ?_ | refine pGet.mk (lsR_at (by walk_at "sto")) ?_ | refine pGet.mk (srcD_at (by walk_at "sto")) ?_ | refine pGet.mk (tyD_l (by walk_at "sto")) ?_)); (try (conv => whnf)))))
def isNameB (x : Str) : Bool := decide (1 ≤ x.length) && (decide (x.length ≤ 8) && x.cps.toList.all fun c => decide (c ∈ alpha))
def F_is_name : Fsp := fsp (fun x : Str => [.str x]) (fun x => x.length ≤ 1000000) fun x => .bool (isNameB x)
theorem pu_is_name : ∀ ds S K KX, lent F_is_name ds S K KX → ws_is_name { nx := fun _ S1 => K (.z .none) S1, rt := K, ex := fun y _ S1 => KX y S1 } (startE nm_is_name ds) S := by
  refine fsp_ok fun x hx K KX hk => ?_
  unfold isNameB at hk
  walk_at "go"
  refine pIf.mk (fun c => ?_) (fun c => ?_)
  · have c := of_decide_eq_true c
    rw [show decide (1 ≤ x.length) = false from decide_eq_false (by omega)] at hk
    walk_at "go"
    exact hk _ _ .z
  · have c := of_decide_eq_false c
    rw [show decide (1 ≤ x.length) = true from decide_eq_true (by omega), Bool.true_and] at hk
    walk_at "go"
    refine pIf.mk (fun c => ?_) (fun c => ?_)
    · have c := of_decide_eq_true c
      rw [show decide (x.length ≤ 8) = false from decide_eq_false (by omega)] at hk
      walk_at "go"
      exact hk _ _ .z
    · have c := of_decide_eq_false c
      rw [show decide (x.length ≤ 8) = true from decide_eq_true (by omega), Bool.true_and] at hk
      walk_at "go"
      refine pFor_allB x.cps.toList (fun c => .z (.str ⟨⟨[c]⟩⟩)) (fun c => decide (c ∈ alpha)) (fun env => ∃ v, env = [some (.z (.str x)), v]) rfl trivial ⟨_, rfl⟩ ?_ ?_ ?_
      · rintro c _ Q hc ⟨v, rfl⟩ h1 h2
        walk_at "go"
        rw [alpha_eq]
        refine pIf.mk (fun q => ?_) (fun q => ?_)
        · walk_at "go"
          refine h2 ?_
          revert q
          cases decide (c ∈ alpha) <;> simp
        · walk_at "go"
          refine h1 ?_ _ ⟨_, rfl⟩
          revert q
          cases decide (c ∈ alpha) <;> simp
      · rintro ha _ ⟨v, rfl⟩
        walk_at "go"
        rw [ha] at hk
        exact hk _ _ .z
      · intro hf
        rw [hf] at hk
        exact hk _ _ .z
def smallB (n : XNet) : Bool := decide (n.scopes.length ≤ 40) && (decide (n.things.length ≤ 80) && (decide (n.quests.length ≤ 60) &&
  (n.scopes.all (fun s => decide (s.1.length ≤ 8) && decide (s.2.length ≤ 12)) && n.quests.all fun q => decide (q.path.length ≤ 6))))
def F_small_enough : Fsp := fsp (fun n : XNet => [lSc n, lTh n, lQu n]) (fun _ => True) fun n => .bool (smallB n)
theorem pu_small_enough : ∀ ds S K KX, lent F_small_enough ds S K KX → ws_small_enough { nx := fun _ S1 => K (.z .none) S1, rt := K, ex := fun y _ S1 => KX y S1 } (startE nm_small_enough ds) S := by
  refine fsp_ok fun n _ K KX hk => ?_
  unfold smallB at hk
  walk_at "go"
  rw [List.length_map]
  refine pIf.mk (fun c => ?_) (fun c => ?_)
  · have c := of_decide_eq_true c
    rw [show decide (n.scopes.length ≤ 40) = false from decide_eq_false (by omega)] at hk
    walk_at "go"
    exact hk _ _ .z
  have c := of_decide_eq_false c
  rw [show decide (n.scopes.length ≤ 40) = true from decide_eq_true (by omega), Bool.true_and] at hk
  walk_at "go"
  rw [List.length_map]
  refine pIf.mk (fun c => ?_) (fun c => ?_)
  · have c := of_decide_eq_true c
    rw [show decide (n.things.length ≤ 80) = false from decide_eq_false (by omega)] at hk
    walk_at "go"
    exact hk _ _ .z
  have c := of_decide_eq_false c
  rw [show decide (n.things.length ≤ 80) = true from decide_eq_true (by omega), Bool.true_and] at hk
  walk_at "go"
  rw [List.length_map]
  refine pIf.mk (fun c => ?_) (fun c => ?_)
  · have c := of_decide_eq_true c
    rw [show decide (n.quests.length ≤ 60) = false from decide_eq_false (by omega)] at hk
    walk_at "go"
    exact hk _ _ .z
  have c := of_decide_eq_false c
  rw [show decide (n.quests.length ≤ 60) = true from decide_eq_true (by omega), Bool.true_and] at hk
  walk_at "go"
  refine pFor_allB n.scopes (fun s => bz (eSc s)) (fun s => decide (s.1.length ≤ 8) && decide (s.2.length ≤ 12)) (fun env => ∃ v3 v4, env = [some (.b (lSc n)), some (bz (lTh n)), some (bz (lQu n)), v3, v4, none, none, none]) (bz_scs n) trivial ⟨_, _, rfl⟩ ?_ ?_ ?_
  · rintro s _ Q _ ⟨v3, v4, rfl⟩ h1 h2
    walk_at "go"
    rw [List.length_map]
    refine pIf.mk (fun c => ?_) (fun c => ?_)
    · have c := of_decide_eq_true c
      walk_at "go"
      refine h2 ?_
      rw [show decide (s.1.length ≤ 8) = false from decide_eq_false (by omega)]; rfl
    have c := of_decide_eq_false c
    rw [show decide (s.1.length ≤ 8) = true from decide_eq_true (by omega), Bool.true_and] at h1 h2
    walk_at "go"
    rw [List.length_map]
    refine pIf.mk (fun c => ?_) (fun c => ?_)
    · have c := of_decide_eq_true c
      walk_at "go"
      exact h2 (decide_eq_false (by omega))
    · have c := of_decide_eq_false c
      walk_at "go"
      exact h1 (decide_eq_true (by omega)) _ ⟨_, _, rfl⟩
  · rintro ha _ ⟨v3, v4, rfl⟩
    rw [ha, Bool.true_and] at hk
    walk_at "go"
    refine pFor_allB n.quests zQ (fun q => decide (q.path.length ≤ 6)) (fun env => ∃ v5 v6 v7, env = [some (.b (lSc n)), some (bz (lTh n)), some (bz (lQu n)), v3, v4, v5, v6, v7]) (bzsQ _) trivial ⟨_, _, _, rfl⟩ ?_ ?_ ?_
    · rintro q _ Q _ ⟨v5, v6, v7, rfl⟩ h1 h2
      walk_at "go"
      rw [List.length_map]
      refine pIf.mk (fun c => ?_) (fun c => ?_)
      · have c := of_decide_eq_true c
        walk_at "go"
        exact h2 (decide_eq_false (by omega))
      · have c := of_decide_eq_false c
        walk_at "go"
        exact h1 (decide_eq_true (by omega)) _ ⟨_, _, _, rfl⟩
    · rintro ha _ ⟨v5, v6, v7, rfl⟩
      rw [ha] at hk
      walk_at "go"
      exact hk _ _ .z
    · intro hf
      rw [hf] at hk
      exact hk _ _ .z
  · intro hf
    rw [hf] at hk
    exact hk _ _ .z
def namedB (n : XNet) : Bool := n.scopes.all (fun s => s.1.all (fun x => isNameB x.lab) && s.2.all fun x => isNameB x.lab && isNameB x.name) && n.quests.all fun q => !q.path.isEmpty && q.path.all isNameB
structure WordsOk (n : XNet) : Prop where
  s : ∀ s ∈ n.scopes, (∀ x ∈ s.1, x.lab.length ≤ 1000000) ∧ ∀ x ∈ s.2, x.lab.length ≤ 1000000 ∧ x.name.length ≤ 1000000
  q : ∀ q ∈ n.quests, ∀ x ∈ q.path, x.length ≤ 1000000
def F_all_named : Fsp := fsp (fun n : XNet => [lSc n, lQu n]) WordsOk fun n => .bool (namedB n)
theorem pu_all_named : ∀ ds S K KX, lent F_all_named ds S K KX → ws_all_named (frz F_is_name) { nx := fun _ S1 => K (.z .none) S1, rt := K, ex := fun y _ S1 => KX y S1 } (startE nm_all_named ds) S := by
  refine fsp_ok fun n hw K KX hk => ?_
  unfold namedB at hk
  walk_at "go"
  refine pFor_allB n.scopes (fun s => bz (eSc s)) (fun s => s.1.all (fun x => isNameB x.lab) && s.2.all fun x => isNameB x.lab && isNameB x.name) (fun env => ∃ v2 v3 v4 v5, env = [some (.b (lSc n)), some (bz (lQu n)), v2, v3, v4, v5, none, none, none, none]) (bz_scs n) trivial ⟨_, _, _, _, rfl⟩ ?_ ?_ ?_
  · rintro s _ Q hs ⟨v2, v3, v4, v5, rfl⟩ h1 h2
    have hw := hw.s s hs
    walk_at "go"
    refine pFor_allB s.1 zS (fun x => isNameB x.lab) (fun env => ∃ v4, env = [some (.b (lSc n)), some (bz (lQu n)), some (bz (.list (s.1.map eS))), some (bz (.list (s.2.map eL))), v4, v5, none, none, none, none]) (bzsS _) trivial ⟨_, rfl⟩ ?_ ?_ ?_
    · rintro x _ Q2 hx ⟨v4, rfl⟩ g1 g2
      walk_at "go"
      refine fsp_call x.lab (.cons .z .nil) (hw.1 x hx) ?_
      walk_at "go"
      cases hb : isNameB x.lab with
      | true => rw [hb] at g1; walk_at "go"; exact g1 rfl _ ⟨_, rfl⟩
      | false => rw [hb] at g2; walk_at "go"; exact g2 rfl
    · rintro ha _ ⟨v4, rfl⟩
      rw [ha, Bool.true_and] at h1 h2
      walk_at "go"
      refine pFor_allB s.2 zL (fun x => isNameB x.lab && isNameB x.name) (fun env => ∃ v5, env = [some (.b (lSc n)), some (bz (lQu n)), some (bz (.list (s.1.map eS))), some (bz (.list (s.2.map eL))), v4, v5, none, none, none, none]) (bzsL _) trivial ⟨_, rfl⟩ ?_ ?_ ?_
      · rintro x _ Q2 hx ⟨v5, rfl⟩ g1 g2
        walk_at "go"
        refine fsp_call x.lab (.cons .z .nil) (hw.2 x hx).1 ?_
        walk_at "go"
        cases hb : isNameB x.lab with
        | false => rw [hb] at g2; walk_at "go"; exact g2 rfl
        | true =>
          rw [hb] at g1 g2
          walk_at "go"
          refine fsp_call x.name (.cons .z .nil) (hw.2 x hx).2 ?_
          walk_at "go"
          cases hb2 : isNameB x.name with
          | true => rw [hb2] at g1; walk_at "go"; exact g1 rfl _ ⟨_, rfl⟩
          | false => rw [hb2] at g2; walk_at "go"; exact g2 rfl
      · rintro ha _ ⟨v5, rfl⟩
        exact h1 ha _ ⟨_, _, _, _, rfl⟩
      · exact h2
    · intro hf
      refine h2 ?_
      rw [hf]; rfl
  · rintro ha _ ⟨v2, v3, v4, v5, rfl⟩
    rw [ha, Bool.true_and] at hk
    walk_at "go"
    refine pFor_allB n.quests zQ (fun q => !q.path.isEmpty && q.path.all isNameB) (fun env => ∃ v6 v7 v8 v9, env = [some (.b (lSc n)), some (bz (lQu n)), v2, v3, v4, v5, v6, v7, v8, v9]) (bzsQ _) trivial ⟨_, _, _, _, rfl⟩ ?_ ?_ ?_
    · rintro q _ Q hq ⟨v6, v7, v8, v9, rfl⟩ h1 h2
      have hw := hw.q q hq
      walk_at "go"
      rw [List.length_map]
      refine pIf.mk (fun c => ?_) (fun c => ?_)
      · have c := of_decide_eq_true c
        walk_at "go"
        refine h2 ?_
        have : q.path = [] := List.length_eq_zero_iff.mp (by omega)
        rw [this]; rfl
      · have c := of_decide_eq_false c
        have : q.path.isEmpty = false := by
          cases hp : q.path with
          | nil => rw [hp] at c; simp at c
          | cons _ _ => rfl
        rw [this] at h1 h2
        walk_at "go"
        refine pFor_allB q.path (fun x => .z (.str x)) isNameB (fun env => ∃ v9, env = [some (.b (lSc n)), some (bz (lQu n)), v2, v3, v4, v5, some (.z (.int q.scope)), some (.z (.int q.state)), some (.z (.tuple (q.path.map .str))), v9]) (by show (q.path.map PyData.str).map D.z = _; rw [List.map_map]; rfl) trivial ⟨_, rfl⟩ ?_ ?_ ?_
        · rintro x _ Q2 hx ⟨v9, rfl⟩ g1 g2
          walk_at "go"
          refine fsp_call x (.cons .z .nil) (hw x hx) ?_
          walk_at "go"
          cases hb : isNameB x with
          | true => rw [hb] at g1; walk_at "go"; exact g1 rfl _ ⟨_, rfl⟩
          | false => rw [hb] at g2; walk_at "go"; exact g2 rfl
        · rintro ha _ ⟨v9, rfl⟩
          exact h1 ha _ ⟨_, _, _, _, rfl⟩
        · exact h2
    · rintro ha _ ⟨v6, v7, v8, v9, rfl⟩
      rw [ha] at hk
      walk_at "go"
      exact hk _ _ .z
    · intro hf
      rw [hf] at hk
      exact hk _ _ .z
  · intro hf
    rw [hf] at hk
    exact hk _ _ .z
def inR (i : Int) (n : Nat) : Bool := decide (0 ≤ i) && decide (i < n)
def stepB (ns nq : Nat) (x : XStep) : Bool := if x.kind = "to" then inR x.num ns else decide (x.kind = "by") && inR x.num nq
def tellB (nt nq : Nat) (x : XTell) : Bool := if x.kind = "thing" then inR x.num nt else decide (x.kind = "by") && inR x.num nq
def thingB (ns nq : Nat) (x : XThing) : Bool := if x.kind = "plain" then decide (x.num = 0) else if x.kind = "part" then inR x.num ns else decide (x.kind = "sort") && inR x.num nq
def questB (ns : Nat) (q : XQuest) : Bool := inR q.scope ns && decide (0 ≤ q.state)
def F_step_there : Fsp := fsp (fun a : XStep × List PyData × List PyData => [eS a.1, .list a.2.1, .list a.2.2]) (fun _ => True) fun a => .bool (stepB a.2.1.length a.2.2.length a.1)
def F_telling_there : Fsp := fsp (fun a : XTell × List PyData × List PyData => [eL a.1, .list a.2.1, .list a.2.2]) (fun _ => True) fun a => .bool (tellB a.2.1.length a.2.2.length a.1)
def F_thing_there : Fsp := fsp (fun a : XThing × List PyData × List PyData => [eT a.1, .list a.2.1, .list a.2.2]) (fun _ => True) fun a => .bool (thingB a.2.1.length a.2.2.length a.1)
theorem pu_step_there : ∀ ds S K KX, lent F_step_there ds S K KX → ws_step_there { nx := fun _ S1 => K (.z .none) S1, rt := K, ex := fun y _ S1 => KX y S1 } (startE nm_step_there ds) S := by
  refine fsp_ok fun ⟨⟨lab, kind, num⟩, a, b⟩ _ K KX hk => ?_
  dsimp only at hk
  unfold stepB inR at hk
  dsimp only at hk
  walk_at "go"
  refine pIf.mk (fun c => ?_) (fun c => ?_)
  · rw [if_pos (of_decide_eq_true c)] at hk
    walk_at "go"
    refine pIf.mk (fun c => ?_) (fun c => ?_)
    · rw [show decide ((0 : Int) ≤ num) = true from c, Bool.true_and] at hk
      walk_at "go"
      exact hk _ _ .z
    · rw [show decide ((0 : Int) ≤ num) = false from c] at hk
      walk_at "go"
      exact hk _ _ .z
  · rw [if_neg (of_decide_eq_false c)] at hk
    walk_at "go"
    refine pIf.mk (fun c => ?_) (fun c => ?_)
    · rw [show decide (kind = "by") = true from c, Bool.true_and] at hk
      walk_at "go"
      refine pIf.mk (fun c => ?_) (fun c => ?_)
      · rw [show decide ((0 : Int) ≤ num) = true from c, Bool.true_and] at hk
        walk_at "go"
        exact hk _ _ .z
      · rw [show decide ((0 : Int) ≤ num) = false from c] at hk
        walk_at "go"
        exact hk _ _ .z
    · rw [show decide (kind = "by") = false from c] at hk
      walk_at "go"
      exact hk _ _ .z
theorem pu_telling_there : ∀ ds S K KX, lent F_telling_there ds S K KX → ws_telling_there { nx := fun _ S1 => K (.z .none) S1, rt := K, ex := fun y _ S1 => KX y S1 } (startE nm_telling_there ds) S := by
  refine fsp_ok fun ⟨⟨lab, name, kind, num⟩, a, b⟩ _ K KX hk => ?_
  dsimp only at hk
  unfold tellB inR at hk
  dsimp only at hk
  walk_at "go"
  refine pIf.mk (fun c => ?_) (fun c => ?_)
  · rw [if_pos (of_decide_eq_true c)] at hk
    walk_at "go"
    refine pIf.mk (fun c => ?_) (fun c => ?_)
    · rw [show decide ((0 : Int) ≤ num) = true from c, Bool.true_and] at hk
      walk_at "go"
      exact hk _ _ .z
    · rw [show decide ((0 : Int) ≤ num) = false from c] at hk
      walk_at "go"
      exact hk _ _ .z
  · rw [if_neg (of_decide_eq_false c)] at hk
    walk_at "go"
    refine pIf.mk (fun c => ?_) (fun c => ?_)
    · rw [show decide (kind = "by") = true from c, Bool.true_and] at hk
      walk_at "go"
      refine pIf.mk (fun c => ?_) (fun c => ?_)
      · rw [show decide ((0 : Int) ≤ num) = true from c, Bool.true_and] at hk
        walk_at "go"
        exact hk _ _ .z
      · rw [show decide ((0 : Int) ≤ num) = false from c] at hk
        walk_at "go"
        exact hk _ _ .z
    · rw [show decide (kind = "by") = false from c] at hk
      walk_at "go"
      exact hk _ _ .z
theorem pu_thing_there : ∀ ds S K KX, lent F_thing_there ds S K KX → ws_thing_there { nx := fun _ S1 => K (.z .none) S1, rt := K, ex := fun y _ S1 => KX y S1 } (startE nm_thing_there ds) S := by
  refine fsp_ok fun ⟨⟨kind, num⟩, a, b⟩ _ K KX hk => ?_
  dsimp only at hk
  unfold thingB inR at hk
  dsimp only at hk
  walk_at "go"
  refine pIf.mk (fun c => ?_) (fun c => ?_)
  · rw [if_pos (of_decide_eq_true c)] at hk
    walk_at "go"
    exact hk _ _ .z
  rw [if_neg (of_decide_eq_false c)] at hk
  walk_at "go"
  refine pIf.mk (fun c => ?_) (fun c => ?_)
  · rw [if_pos (of_decide_eq_true c)] at hk
    walk_at "go"
    refine pIf.mk (fun c => ?_) (fun c => ?_)
    · rw [show decide ((0 : Int) ≤ num) = true from c, Bool.true_and] at hk
      walk_at "go"
      exact hk _ _ .z
    · rw [show decide ((0 : Int) ≤ num) = false from c] at hk
      walk_at "go"
      exact hk _ _ .z
  · rw [if_neg (of_decide_eq_false c)] at hk
    walk_at "go"
    refine pIf.mk (fun c => ?_) (fun c => ?_)
    · rw [show decide (kind = "sort") = true from c, Bool.true_and] at hk
      walk_at "go"
      refine pIf.mk (fun c => ?_) (fun c => ?_)
      · rw [show decide ((0 : Int) ≤ num) = true from c, Bool.true_and] at hk
        walk_at "go"
        exact hk _ _ .z
      · rw [show decide ((0 : Int) ≤ num) = false from c] at hk
        walk_at "go"
        exact hk _ _ .z
    · rw [show decide (kind = "sort") = false from c] at hk
      walk_at "go"
      exact hk _ _ .z
def thereB (n : XNet) : Bool := n.scopes.all (fun s => s.1.all (stepB n.scopes.length n.quests.length) && s.2.all (tellB n.things.length n.quests.length)) && (n.things.all (thingB n.scopes.length n.quests.length) && n.quests.all (questB n.scopes.length))
def F_all_there : Fsp := fsp (fun n : XNet => [lSc n, lTh n, lQu n]) (fun _ => True) fun n => .bool (thereB n)
theorem pu_all_there : ∀ ds S K KX, lent F_all_there ds S K KX → ws_all_there (frz F_step_there) (frz F_telling_there) (frz F_thing_there) { nx := fun _ S1 => K (.z .none) S1, rt := K, ex := fun y _ S1 => KX y S1 } (startE nm_all_there ds) S := by
  refine fsp_ok fun n _ K KX hk => ?_
  unfold thereB at hk
  walk_at "go"
  refine pFor_allB n.scopes (fun s => bz (eSc s)) (fun s => s.1.all (stepB n.scopes.length n.quests.length) && s.2.all (tellB n.things.length n.quests.length)) (fun env => ∃ v4 v5 v6 v7, env = [some (.b (lSc n)), some (.b (lTh n)), some (.b (lQu n)), none, v4, v5, v6, v7, none, none, none]) (bz_scs n) trivial ⟨_, _, _, _, rfl⟩ ?_ ?_ ?_
  · rintro s _ Q hs ⟨v4, v5, v6, v7, rfl⟩ h1 h2
    walk_at "go"
    refine pFor_allB s.1 zS (stepB n.scopes.length n.quests.length) (fun env => ∃ v6, env = [some (.b (lSc n)), some (.b (lTh n)), some (.b (lQu n)), none, some (bz (.list (s.1.map eS))), some (bz (.list (s.2.map eL))), v6, v7, none, none, none]) (bzsS _) trivial ⟨_, rfl⟩ ?_ ?_ ?_
    · rintro x _ Q2 hx ⟨v6, rfl⟩ g1 g2
      walk_at "go"
      refine fsp_call (x, n.scopes.map eSc, n.quests.map eQ) (.cons .z (.cons .b (.cons .b .nil))) trivial ?_
      dsimp only
      rw [List.length_map, List.length_map]
      walk_at "go"
      cases hb : stepB n.scopes.length n.quests.length x with
      | true => walk_at "go"; exact g1 hb _ ⟨_, rfl⟩
      | false => walk_at "go"; exact g2 hb
    · rintro ha _ ⟨v6, rfl⟩
      rw [ha, Bool.true_and] at h1 h2
      walk_at "go"
      refine pFor_allB s.2 zL (tellB n.things.length n.quests.length) (fun env => ∃ v7, env = [some (.b (lSc n)), some (.b (lTh n)), some (.b (lQu n)), none, some (bz (.list (s.1.map eS))), some (bz (.list (s.2.map eL))), v6, v7, none, none, none]) (bzsL _) trivial ⟨_, rfl⟩ ?_ ?_ ?_
      · rintro x _ Q2 hx ⟨v7, rfl⟩ g1 g2
        walk_at "go"
        refine fsp_call (x, n.things.map eT, n.quests.map eQ) (.cons .z (.cons .b (.cons .b .nil))) trivial ?_
        dsimp only
        rw [List.length_map, List.length_map]
        walk_at "go"
        cases hb : tellB n.things.length n.quests.length x with
        | true => walk_at "go"; exact g1 hb _ ⟨_, rfl⟩
        | false => walk_at "go"; exact g2 hb
      · rintro ha _ ⟨v7, rfl⟩
        exact h1 ha _ ⟨_, _, _, _, rfl⟩
      · exact h2
    · intro hf
      refine h2 ?_
      rw [hf]; rfl
  · rintro ha _ ⟨v4, v5, v6, v7, rfl⟩
    rw [ha, Bool.true_and] at hk
    walk_at "go"
    refine pFor_allB n.things zT (thingB n.scopes.length n.quests.length) (fun env => ∃ v3, env = [some (.b (lSc n)), some (.b (lTh n)), some (.b (lQu n)), v3, v4, v5, v6, v7, none, none, none]) (bzsT _) trivial ⟨_, rfl⟩ ?_ ?_ ?_
    · rintro x _ Q2 hx ⟨v3, rfl⟩ g1 g2
      walk_at "go"
      refine fsp_call (x, n.scopes.map eSc, n.quests.map eQ) (.cons .z (.cons .b (.cons .b .nil))) trivial ?_
      dsimp only
      rw [List.length_map, List.length_map]
      walk_at "go"
      cases hb : thingB n.scopes.length n.quests.length x with
      | true => walk_at "go"; exact g1 hb _ ⟨_, rfl⟩
      | false => walk_at "go"; exact g2 hb
    · rintro ha _ ⟨v3, rfl⟩
      rw [ha, Bool.true_and] at hk
      walk_at "go"
      refine pFor_allB n.quests zQ (questB n.scopes.length) (fun env => ∃ v8 v9 v10, env = [some (.b (lSc n)), some (.b (lTh n)), some (.b (lQu n)), v3, v4, v5, v6, v7, v8, v9, v10]) (bzsQ _) trivial ⟨_, _, _, rfl⟩ ?_ ?_ ?_
      · rintro q _ Q2 hq ⟨v8, v9, v10, rfl⟩ g1 g2
        unfold questB inR at g1 g2
        walk_at "go"
        refine pIf.mk (fun c => ?_) (fun c => ?_)
        · have c := of_decide_eq_true c
          rw [show decide (0 ≤ q.scope) = false from decide_eq_false (by omega)] at g2
          walk_at "go"
          exact g2 rfl
        have c := of_decide_eq_false c
        rw [show decide (0 ≤ q.scope) = true from decide_eq_true (by omega), Bool.true_and] at g1 g2
        walk_at "go"
        rw [List.length_map]
        refine pIf.mk (fun c => ?_) (fun c => ?_)
        · have c := of_decide_eq_true c
          rw [show decide (q.scope < n.scopes.length) = false from decide_eq_false (by omega)] at g2
          walk_at "go"
          exact g2 rfl
        have c := of_decide_eq_false c
        rw [show decide (q.scope < n.scopes.length) = true from decide_eq_true (by omega), Bool.true_and] at g1 g2
        walk_at "go"
        refine pIf.mk (fun c => ?_) (fun c => ?_)
        · have c := of_decide_eq_true c
          walk_at "go"
          exact g2 (decide_eq_false (by omega))
        · have c := of_decide_eq_false c
          walk_at "go"
          exact g1 (decide_eq_true (by omega)) _ ⟨_, _, _, rfl⟩
      · rintro ha _ ⟨v8, v9, v10, rfl⟩
        rw [ha] at hk
        walk_at "go"
        exact hk _ _ .z
      · intro hf
        rw [hf] at hk
        exact hk _ _ .z
    · intro hf
      rw [hf] at hk
      exact hk _ _ .z
  · intro hf
    rw [hf] at hk
    exact hk _ _ .z
end K70

set_option Elab.async false
set_option linter.all false
set_option maxRecDepth 100000
set_option maxHeartbeats 1000000
namespace K70
open PySem L2 PL NE
open ND (cutL_map cutL_len cutL_mem bz_ints LwN isNm alpha alpha_eq alpha_at getA ixD_zA ixD_bA app_list one_len getI getI_at getI_mem)
local macro_rules | `(tactic| walk_at "st1") => `(tactic| first | assumption | exact sto_last | exact sto_r0 | exact sto_r1 | exact sto_r2 | exact sto_r3 | exact sto_r4)
local macro_rules | `(tactic| walk_at "sto") => `(tactic| first | walk_at "st1" | exact sto_app (by walk_at "st1") | exact sto_app (sto_app (by walk_at "st1")))
local macro_rules | `(tactic| walk_at "sz") => `(tactic| ((try simp only [List.length_map, List.length_range, List.length_append, List.length_cons, List.length_nil]); omega))
local macro_rules | `(tactic| walk_at "go") => `(tactic| ((try (conv => whnf)); repeat ((first | (show pIf _ _ _; first | refine pIf.tt rfl ?_ | refine pIf.ff rfl ?_) | (show pReq _ _; first | refine pReq.mk rfl ?_ | refine pReq.mk (sz_le rfl) ?_ | refine pReq.mk (sz_lt rfl) ?_ | refine pReq.mk (by decide) ?_ | refine pReq.mk (Or.inr (by decide)) ?_ | refine pReq.mk (Or.inl (by decide)) ?_ | refine pReq.mk (by assumption) ?_ | refine pReq.mk (isTy_l (by walk_at "sto")) ?_ | refine pReq.mk (by omega) ?_ | refine pReq.mk (sz_lt6 (by walk_at "sz")) ?_ | refine pReq.mk (sz_le6 (by walk_at "sz")) ?_ | refine pReq.mk (by walk_at "sz") ?_) | (show pGet _ _; first | refine pGet.mk rfl ?_ | refine pGet.mk (by walk_at "sto") ?_ | refine pGet.mk (lenD_at (by walk_at "sto")) ?_ | refine pGet.mk (sqD_at (by walk_at "sto")) ?_ | refine pGet.mk (lsD_at (by walk_at "sto")) ?_ | refine pGet.mk (lsR_at (by walk_at "sto")) ?_ | refine pGet.mk (srcD_at (by walk_at "sto")) ?_ | refine pGet.mk (tyD_l (by walk_at "sto")) ?_)); (try (conv => whnf)))))
def F_net_of : Fsr := fsr (fun n : XNet => [lSc n, lTh n, lQu n]) (fun n => WordsOk n ∧ smallB n = true ∧ namedB n = true ∧ thereB n = true) fun n => rN n
theorem pu_net_of : ∀ ds S K KX, lentR F_net_of ds S K KX → ws_net_of (frz F_small_enough) (frz F_all_named) (frz F_all_there) { nx := fun _ S1 => K (.z .none) S1, rt := K, ex := fun y _ S1 => KX y S1 } (startE nm_net_of ds) S := by
  refine fsr_ok fun n ⟨hw, h1, h2, h3⟩ K KX hk => ?_
  walk_at "go"
  refine fsp_call n (.cons .b (.cons Vw.bz (.cons Vw.bz .nil))) trivial ?_
  rw [h1]
  walk_at "go"
  refine fsp_call n (.cons .b (.cons Vw.bz .nil)) hw ?_
  rw [h2]
  walk_at "go"
  refine fsp_call n (.cons .b (.cons Vw.bz (.cons Vw.bz .nil))) trivial ?_
  rw [h3]
  walk_at "go"
  refine pLc_copy (ss := n.scopes) ?_ (by rw [bz_scs, List.length_map]) (fun _ _ => trivial) (fun i d s h1 h2 => ?_) (fun _ _ => rfl) (fun _ _ => rfl) ?_
  · unfold smallB at h1
    have := (Bool.and_eq_true_iff.mp h1).1
    have := of_decide_eq_true this
    omega
  · have h1 : ((n.scopes.map eSc).map bz)[i]? = some d := h1
    rw [List.getElem?_map, List.getElem?_map, h2] at h1
    cases h1
    exact seen_b s
  walk_at "go"
  rw [bzsT, bzsQ]
  exact copied n hk
end K70

set_option Elab.async false
set_option linter.all false
set_option maxRecDepth 100000
set_option maxHeartbeats 1000000
namespace K70
open PySem L2 PL NE
open ND (cutL_map cutL_len cutL_mem bz_ints LwN isNm alpha alpha_eq alpha_at getA ixD_zA ixD_bA app_list one_len getI getI_at getI_mem)
local macro_rules | `(tactic| walk_at "st1") => `(tactic| first | assumption | exact sto_last | exact sto_r0 | exact sto_r1 | exact sto_r2 | exact sto_r3 | exact sto_r4)
local macro_rules | `(tactic| walk_at "sto") => `(tactic| first | walk_at "st1" | exact sto_app (by walk_at "st1") | exact sto_app (sto_app (by walk_at "st1")))
local macro_rules | `(tactic| walk_at "sz") => `(tactic| ((try simp only [List.length_map, List.length_range, List.length_append, List.length_cons, List.length_nil]); omega))
local macro_rules | `(tactic| walk_at "go") => `(tactic| ((try (conv => whnf)); repeat ((first | (show pIf _ _ _; first | refine pIf.tt rfl ?_ | refine pIf.ff rfl ?_) | (show pReq _ _; first | refine pReq.mk rfl ?_ | refine pReq.mk (sz_le rfl) ?_ | refine pReq.mk (sz_lt rfl) ?_ | refine pReq.mk (by decide) ?_ | refine pReq.mk (Or.inr (by decide)) ?_ | refine pReq.mk (Or.inl (by decide)) ?_ | refine pReq.mk (by assumption) ?_ | refine pReq.mk (isTy_l (by walk_at "sto")) ?_ | refine pReq.mk (by omega) ?_ | refine pReq.mk (sz_lt6 (by walk_at "sz")) ?_ | refine pReq.mk (sz_le6 (by walk_at "sz")) ?_ | refine pReq.mk (by walk_at "sz") ?_) | (show pGet _ _; first | refine pGet.mk rfl ?_ | refine pGet.mk (by walk_at "sto") ?_ | refine pGet.mk (lenD_at (by walk_at "sto")) ?_ | refine pGet.mk (sqD_at (by walk_at "sto")) ?_ | refine pGet.mk (lsD_at (by walk_at "sto")) ?_ | refine pGet.mk (lsR_at (by walk_at "sto")) ?_ | refine pGet.mk (srcD_at (by walk_at "sto")) ?_ | refine pGet.mk (tyD_l (by walk_at "sto")) ?_)); (try (conv => whnf)))))
open IT
open NE (XScope XStep XTell XThing XQuest XNet ScIn ScsIn scD plcs zS zL zT zQ eS eL eT eQ noSc)
section
variable {cl : Str → Addr}
structure DA where
  h : Nat
  U : List Nat
  n : XNet
theorem set_at {S : Sto} {n : Nat} {o : Ob} (h : n < S.length) : (S.set n o)[n]? = some o := List.getElem?_set_self h
def F_Dinit (cl : Str → Addr) : Spc := fsm (fun (h : Nat) ds S => ds = [.r h] ∧ S[h]? = some (.ins (cl "Draft") [])) fun h d S S' => d = .z .none ∧ DDeed (cl "Draft") h [h] S S' ⟨[], [], []⟩
theorem pu_Dinit : ∀ ds S K KX, F_Dinit cl ds S K KX → ws_Draft___init__ cl { nx := fun _ S1 => K (.z .none) S1, rt := K, ex := fun y _ S1 => KX y S1 } (startE nm_Draft___init__ ds) S := by
  refine fsm_ok fun h ds S ⟨he, ho⟩ K KX hk => ?_
  subst he
  have hlt := (List.getElem?_eq_some_iff.mp ho).1
  have h1 : (S ++ [Ob.lst []])[h]? = some (.ins (cl "Draft") []) := sto_app ho
  walk_at "go"
  have e1 : putFD (Str.ofString "scopes") (D.r S.length) [] = [(("scopes" : Str), D.r S.length)] := rfl
  rw [e1]
  have k1 : Keep [h] S ((S ++ [Ob.lst []]).set h (.ins (cl "Draft") [("scopes", D.r S.length)])) := Keep.app.trans (.set (by simp))
  have l1 : ((S ++ [Ob.lst []]).set h (.ins (cl "Draft") [("scopes", D.r S.length)])).length = S.length + 1 := by simp
  have a1 : ((S ++ [Ob.lst []]).set h (.ins (cl "Draft") [("scopes", D.r S.length)]))[S.length]? = some (.lst []) := by rw [List.getElem?_set_ne (by omega)]; exact sto_last
  have g1 : ((S ++ [Ob.lst []]).set h (.ins (cl "Draft") [("scopes", D.r S.length)]) ++ [Ob.lst []])[h]? = some (.ins (cl "Draft") [("scopes", D.r S.length)]) := sto_app (set_at (by rw [List.length_append]; omega))
  generalize (S ++ [Ob.lst []]).set h (.ins (cl "Draft") [("scopes", D.r S.length)]) = S1 at k1 l1 a1 g1 ⊢
  walk_at "go"
  have e2 : putFD (Str.ofString "things") (D.r S1.length) [("scopes", D.r S.length)] = [(("scopes" : Str), D.r S.length), (("things" : Str), D.r S1.length)] := rfl
  rw [e2]
  have k2 : Keep [h] S1 ((S1 ++ [Ob.lst []]).set h (.ins (cl "Draft") [("scopes", D.r S.length), ("things", D.r S1.length)])) := Keep.app.trans (.set (by simp))
  have l2 : ((S1 ++ [Ob.lst []]).set h (.ins (cl "Draft") [("scopes", D.r S.length), ("things", D.r S1.length)])).length = S.length + 2 := by simp [l1]
  have a2 : ((S1 ++ [Ob.lst []]).set h (.ins (cl "Draft") [("scopes", D.r S.length), ("things", D.r S1.length)]))[S1.length]? = some (.lst []) := by rw [List.getElem?_set_ne (by omega)]; exact sto_last
  have g2 : ((S1 ++ [Ob.lst []]).set h (.ins (cl "Draft") [("scopes", D.r S.length), ("things", D.r S1.length)]) ++ [Ob.lst []])[h]? = some (.ins (cl "Draft") [("scopes", D.r S.length), ("things", D.r S1.length)]) := sto_app (set_at (by rw [List.length_append]; omega))
  generalize (S1 ++ [Ob.lst []]).set h (.ins (cl "Draft") [("scopes", D.r S.length), ("things", D.r S1.length)]) = S2 at k2 l2 a2 g2 ⊢
  walk_at "go"
  have e3 : putFD (Str.ofString "questions") (D.r S2.length) [("scopes", D.r S.length), ("things", D.r S1.length)] = [(("scopes" : Str), D.r S.length), (("things" : Str), D.r S1.length), (("questions" : Str), D.r S2.length)] := rfl
  rw [e3]
  have k3 : Keep [h] S2 ((S2 ++ [Ob.lst []]).set h (.ins (cl "Draft") [("scopes", D.r S.length), ("things", D.r S1.length), ("questions", D.r S2.length)])) := Keep.app.trans (.set (by simp))
  have l3 : ((S2 ++ [Ob.lst []]).set h (.ins (cl "Draft") [("scopes", D.r S.length), ("things", D.r S1.length), ("questions", D.r S2.length)])).length = S.length + 3 := by simp [l2]
  have a3 : ((S2 ++ [Ob.lst []]).set h (.ins (cl "Draft") [("scopes", D.r S.length), ("things", D.r S1.length), ("questions", D.r S2.length)]))[S2.length]? = some (.lst []) := by rw [List.getElem?_set_ne (by omega)]; exact sto_last
  have g3 : ((S2 ++ [Ob.lst []]).set h (.ins (cl "Draft") [("scopes", D.r S.length), ("things", D.r S1.length), ("questions", D.r S2.length)]))[h]? = some (.ins (cl "Draft") [("scopes", D.r S.length), ("things", D.r S1.length), ("questions", D.r S2.length)]) := set_at (by rw [List.length_append]; omega)
  generalize (S2 ++ [Ob.lst []]).set h (.ins (cl "Draft") [("scopes", D.r S.length), ("things", D.r S1.length), ("questions", D.r S2.length)]) = S3 at k3 l3 a3 g3 ⊢
  refine hk _ _ ⟨rfl, ⟨⟨_, ⟨S.length, S1.length, S2.length, [], ⟨g3, k3 _ _ (by simp; omega) (k2 _ _ (by simp; omega) a1), .nil, k3 _ _ (by simp; omega) a2, a3, ?_⟩, rfl⟩, fun u hu => ?_⟩, k1.trans (k2.trans k3), by omega⟩⟩
  · rw [l1, l2]; simp [plcs]; omega
  · rw [l1, l2] at hu; simp [plcs] at hu ⊢; omega
structure NS where
  h : Nat
  U : List Nat
  n : XNet
  x : D
  st : List XStep
structure NSPre (cl : Str → Addr) (a : NS) (ds : List D) (S : Sto) : Prop where
  ds : ds = [.r a.h, a.x]
  d : Dr (cl "Draft") S a.U a.h a.n
  x : sqD S a.x = some (a.st.map zS)
  l : a.st.length ≤ 1000
  z : sz a.n ≤ 100000
def F_newS (cl : Str → Addr) : Spc := fsm (NSPre cl) fun a d S S' => d = .z (.int a.n.scopes.length) ∧ DDeed (cl "Draft") a.h a.U S S' (newS a.n (a.st, []))
theorem sizeM {n : Nat} (h : n ≤ 100000) : n < sizeLine := Nat.lt_of_le_of_lt h (by decide)
theorem pu_newS : ∀ ds S K KX, F_newS cl ds S K KX → ws_Draft_new_scope cl { nx := fun _ S1 => K (.z .none) S1, rt := K, ex := fun y _ S1 => KX y S1 } (startE nm_Draft_new_scope ds) S := by
  refine fsm_ok fun ⟨h, U, n, x, st⟩ ds S ⟨he, ⟨a, b, c, ps, D0, hU⟩, hx, hl, hz⟩ K KX hk => ?_
  dsimp only at he hx hl hz hU hk D0
  subst he
  have ho := D0.o
  have hpl := D0.si.len
  have hsl : n.scopes.length ≤ 100000 := by unfold sz at hz; omega
  have hpz : (ps.map scD).length < sizeLine := by rw [List.length_map]; exact sizeM (by omega)
  have hlt := D0.si.lt
  have la := (List.getElem?_eq_some_iff.mp D0.sa).1
  have lb := (List.getElem?_eq_some_iff.mp D0.sb).1
  have lc := (List.getElem?_eq_some_iff.mp D0.sc).1
  have lh := (List.getElem?_eq_some_iff.mp D0.o).1
  have hnd := D0.nd
  have hah : a ≠ h := fun z => by rw [z] at hnd; simp at hnd
  walk_at "go"
  refine pReq.mk (isTy_l D0.sa) ?_
  walk_at "go"
  have ga : (S ++ [Ob.lst (st.map zS)] ++ [Ob.lst []])[a]? = some (.lst (ps.map scD)) := sto_app (sto_app D0.sa)
  walk_at "go"
  have hd := D0.mkS st []
  have e1 : mkT [D.r S.length, D.r (S ++ [Ob.lst (st.map zS)]).length] = scD (S.length, S.length + 1) := by
    rw [List.length_append]; rfl
  rw [e1]
  have ga2 : ((S ++ [Ob.lst (st.map zS)] ++ [Ob.lst []]).set a (.lst (ps.map scD ++ [scD (S.length, S.length + 1)])))[a]? = some (.lst (ps.map scD ++ [scD (S.length, S.length + 1)])) := List.getElem?_set_self (by simp; omega)
  have gh : ((S ++ [Ob.lst (st.map zS)] ++ [Ob.lst []]).set a (.lst (ps.map scD ++ [scD (S.length, S.length + 1)])))[h]? = some (.ins (cl "Draft") [("scopes", .r a), ("things", .r b), ("questions", .r c)]) := by rw [List.getElem?_set_ne hah]; exact sto_app (sto_app D0.o)
  have hd : DDeed (cl "Draft") h U S ((S ++ [Ob.lst (st.map zS)] ++ [Ob.lst []]).set a (.lst (ps.map scD ++ [scD (S.length, S.length + 1)]))) (newS n (st, [])) := by rw [hU]; exact hd
  generalize (S ++ [Ob.lst (st.map zS)] ++ [Ob.lst []]).set a (.lst (ps.map scD ++ [scD (S.length, S.length + 1)])) = S3 at ga2 gh hd ⊢
  walk_at "go"
  refine hk _ _ ⟨?_, hd⟩
  rw [List.length_append, List.length_map, hpl]
  simp
structure NTPre (cl : Str → Addr) (a : DA × XThing) (ds : List D) (S : Sto) : Prop where
  ds : ds = [.r a.1.h, .z (.str a.2.kind), .z (.int a.2.num)]
  d : Dr (cl "Draft") S a.1.U a.1.h a.1.n
  z : sz a.1.n ≤ 100000
def F_newT (cl : Str → Addr) : Spc := fsm (NTPre cl) fun a d S S' => d = .z (.int a.1.n.things.length) ∧ DDeed (cl "Draft") a.1.h a.1.U S S' (newT a.1.n a.2)
theorem pu_newT : ∀ ds S K KX, F_newT cl ds S K KX → ws_Draft_new_thing cl { nx := fun _ S1 => K (.z .none) S1, rt := K, ex := fun y _ S1 => KX y S1 } (startE nm_Draft_new_thing ds) S := by
  refine fsm_ok fun ⟨⟨h, U, n⟩, ⟨kd, i⟩⟩ ds S ⟨he, ⟨a, b, c, ps, D0, hU⟩, hz⟩ K KX hk => ?_
  dsimp only at he hz hU hk D0
  subst he
  have ho := D0.o
  have hsl : n.things.length ≤ 100000 := by unfold sz at hz; omega
  have hpz : (n.things.map zT).length < sizeLine := by rw [List.length_map]; exact sizeM (by omega)
  have lb := D0.lts b (by simp)
  have hsb := D0.sb
  obtain ⟨n1, n2, n3, n4, n5, n6, n7, n8, n9, n10, n11⟩ := D0.ne
  walk_at "go"
  have hd := D0.mkT ⟨kd, i⟩
  rw [← hU] at hd
  have e1 : mkT [D.z (.str kd), D.z (.int i)] = zT ⟨kd, i⟩ := rfl
  try rw [e1]
  have ga2 : (S.set b (.lst (n.things.map zT ++ [zT ⟨kd, i⟩])))[b]? = some (.lst (n.things.map zT ++ [zT ⟨kd, i⟩])) := List.getElem?_set_self lb
  have gh : (S.set b (.lst (n.things.map zT ++ [zT ⟨kd, i⟩])))[h]? = some (.ins (cl "Draft") [("scopes", .r a), ("things", .r b), ("questions", .r c)]) := by rw [List.getElem?_set_ne n2]; exact D0.o
  generalize S.set b (.lst (n.things.map zT ++ [zT ⟨kd, i⟩])) = S3 at ga2 gh hd ⊢
  walk_at "go"
  refine hk _ _ ⟨?_, hd⟩
  rw [List.length_append, List.length_map]
  simp
structure NQPre (cl : Str → Addr) (a : DA × XQuest) (ds : List D) (S : Sto) : Prop where
  ds : ds = [.r a.1.h, .z (.int a.2.scope), .z (.int a.2.state), .z (pathD a.2.path)]
  d : Dr (cl "Draft") S a.1.U a.1.h a.1.n
  z : sz a.1.n ≤ 100000
def F_newQ (cl : Str → Addr) : Spc := fsm (NQPre cl) fun a d S S' => d = .z (.int a.1.n.quests.length) ∧ DDeed (cl "Draft") a.1.h a.1.U S S' (newQ a.1.n a.2)
theorem pu_newQ : ∀ ds S K KX, F_newQ cl ds S K KX → ws_Draft_new_question cl { nx := fun _ S1 => K (.z .none) S1, rt := K, ex := fun y _ S1 => KX y S1 } (startE nm_Draft_new_question ds) S := by
  refine fsm_ok fun ⟨⟨h, U, n⟩, ⟨s, i, p⟩⟩ ds S ⟨he, ⟨a, b, c, ps, D0, hU⟩, hz⟩ K KX hk => ?_
  dsimp only at he hz hU hk D0
  subst he
  have ho := D0.o
  have hsl : n.quests.length ≤ 100000 := by unfold sz at hz; omega
  have hpz : (n.quests.map zQ).length < sizeLine := by rw [List.length_map]; exact sizeM (by omega)
  have lb := D0.lts c (by simp)
  have hsb := D0.sc
  obtain ⟨n1, n2, n3, n4, n5, n6, n7, n8, n9, n10, n11⟩ := D0.ne
  walk_at "go"
  have hd := D0.mkQ ⟨s, i, p⟩
  rw [← hU] at hd
  have e1 : mkT [D.z (.int s), D.z (.int i), D.z (pathD p)] = zQ ⟨s, i, p⟩ := rfl
  try rw [e1]
  have ga2 : (S.set c (.lst (n.quests.map zQ ++ [zQ ⟨s, i, p⟩])))[c]? = some (.lst (n.quests.map zQ ++ [zQ ⟨s, i, p⟩])) := List.getElem?_set_self lb
  have gh : (S.set c (.lst (n.quests.map zQ ++ [zQ ⟨s, i, p⟩])))[h]? = some (.ins (cl "Draft") [("scopes", .r a), ("things", .r b), ("questions", .r c)]) := by rw [List.getElem?_set_ne n3]; exact D0.o
  generalize S.set c (.lst (n.quests.map zQ ++ [zQ ⟨s, i, p⟩])) = S3 at ga2 gh hd ⊢
  walk_at "go"
  refine hk _ _ ⟨?_, hd⟩
  rw [List.length_append, List.length_map]
  simp
structure PA (α : Type) where
  h : Nat
  U : List Nat
  n : XNet
  i : Nat
  t : α
structure PPPre (cl : Str → Addr) (a : PA XStep) (ds : List D) (S : Sto) : Prop where
  ds : ds = [.r a.h, .z (.int a.i), zS a.t]
  d : Dr (cl "Draft") S a.U a.h a.n
  i : a.i < a.n.scopes.length
  z : sz a.n ≤ 100000
def F_putP (cl : Str → Addr) : Spc := fsm (PPPre cl) fun a d S S' => d = .z .none ∧ DDeed (cl "Draft") a.h a.U S S' (putP a.n a.i a.t)
theorem scD_at {ps : List (Nat × Nat)} {i : Nat} {q : Nat × Nat} (h : ps[i]? = some q) : (ps.map scD)[i]? = some (scD q) := by rw [List.getElem?_map, h]; rfl
theorem pu_putP : ∀ ds S K KX, F_putP cl ds S K KX → ws_Draft_put_step cl { nx := fun _ S1 => K (.z .none) S1, rt := K, ex := fun y _ S1 => KX y S1 } (startE nm_Draft_put_step ds) S := by
  refine fsm_ok fun ⟨h, U, n, i, t⟩ ds S ⟨he, ⟨a, b, c, ps, D0, hU⟩, hi, hz⟩ K KX hk => ?_
  dsimp only at he hz hi hU hk D0
  subst he
  obtain ⟨q, s, hq, hs, hsc⟩ := D0.si.at hi
  have ho := D0.o
  have hsa := D0.sa
  have hqa := hsc.a
  have hss := scope_sz hs
  have hpz : (s.1.map zS).length < sizeLine := by rw [List.length_map]; exact sizeM (by omega)
  have hd := D0.mkP hq hs t
  rw [← hU] at hd
  have hsq := scD_at hq
  walk_at "go"
  exact hk _ _ ⟨rfl, hd⟩
structure PLPre (cl : Str → Addr) (a : PA XTell) (ds : List D) (S : Sto) : Prop where
  ds : ds = [.r a.h, .z (.int a.i), zL a.t]
  d : Dr (cl "Draft") S a.U a.h a.n
  i : a.i < a.n.scopes.length
  z : sz a.n ≤ 100000
def F_putL (cl : Str → Addr) : Spc := fsm (PLPre cl) fun a d S S' => d = .z .none ∧ DDeed (cl "Draft") a.h a.U S S' (putL a.n a.i a.t)
theorem pu_putL : ∀ ds S K KX, F_putL cl ds S K KX → ws_Draft_put_telling cl { nx := fun _ S1 => K (.z .none) S1, rt := K, ex := fun y _ S1 => KX y S1 } (startE nm_Draft_put_telling ds) S := by
  refine fsm_ok fun ⟨h, U, n, i, t⟩ ds S ⟨he, ⟨a, b, c, ps, D0, hU⟩, hi, hz⟩ K KX hk => ?_
  dsimp only at he hz hi hU hk D0
  subst he
  obtain ⟨q, s, hq, hs, hsc⟩ := D0.si.at hi
  have ho := D0.o
  have hsa := D0.sa
  have hqa := hsc.b
  have hss := scope_sz hs
  have hpz : (s.2.map zL).length < sizeLine := by rw [List.length_map]; exact sizeM (by omega)
  have hd := D0.mkL hq hs t
  rw [← hU] at hd
  have hsq := scD_at hq
  walk_at "go"
  exact hk _ _ ⟨rfl, hd⟩
structure SoPre (cl : Str → Addr) (a : PA (Option (List Str))) (ds : List D) (S : Sto) : Prop where
  ds : ds = [.r a.h, .z (.int a.i), .z (ofD a.t)]
  d : Dr (cl "Draft") S a.U a.h a.n
  z : sz a.n ≤ 90000
def F_sorted (cl : Str → Addr) : Spc := fsm (SoPre cl) fun a d S S' => d = .z (.int a.n.things.length) ∧ DDeed (cl "Draft") a.h a.U S S' (sorted a.n a.i a.t)
theorem pu_sorted : ∀ ds S K KX, F_sorted cl ds S K KX → ws_Draft_sorted_thing cl (F_newT cl) (F_newQ cl) { nx := fun _ S1 => K (.z .none) S1, rt := K, ex := fun y _ S1 => KX y S1 } (startE nm_Draft_sorted_thing ds) S := by
  refine fsm_ok fun ⟨h, U, n, i, t⟩ ds S ⟨he, hD, hz⟩ K KX hk => ?_
  dsimp only at he hz hk hD
  subst he
  have ho : ∃ a b c, S[h]? = some (.ins (cl "Draft") [("scopes", .r a), ("things", .r b), ("questions", .r c)]) := by
    obtain ⟨a, b, c, ps, D0, hU⟩ := hD
    exact ⟨a, b, c, D0.o⟩
  obtain ⟨a, b, c, ho⟩ := ho
  cases t with
  | none =>
    dsimp only [ofD]
    walk_at "go"
    exact fsm_call (⟨h, U, n⟩, ⟨Str.ofString "plain", 0⟩) ⟨rfl, hD, by dsimp only; omega⟩ fun d S' hq => hk _ _ hq
  | some p =>
    dsimp only [ofD]
    walk_at "go"
    refine fsm_call (⟨h, U, n⟩, ⟨i, 0, p⟩) ⟨rfl, hD, by dsimp only; omega⟩ fun d S1 ⟨e1, ⟨U1, D1, hu1⟩, k1, l1⟩ => ?_
    dsimp only at e1 D1 hu1 k1 l1
    subst e1
    have hz1 := sz_newQ n ⟨i, 0, p⟩
    walk_at "go"
    refine fsm_call (⟨h, U1, newQ n ⟨i, 0, p⟩⟩, ⟨Str.ofString "sort", n.quests.length⟩) ⟨rfl, D1, by dsimp only; omega⟩ fun d S2 ⟨e2, d2⟩ => ?_
    exact hk _ _ ⟨e2, ddeed_step hu1 k1 l1 d2⟩
end
end K70

set_option Elab.async false
set_option linter.all false
set_option maxRecDepth 100000
set_option maxHeartbeats 1000000
namespace K70
open PySem L2 PL NE
open ND (cutL_map cutL_len cutL_mem bz_ints LwN isNm alpha alpha_eq alpha_at getA ixD_zA ixD_bA app_list one_len getI getI_at getI_mem)
local macro_rules | `(tactic| walk_at "st1") => `(tactic| first | assumption | exact sto_last | exact sto_r0 | exact sto_r1 | exact sto_r2 | exact sto_r3 | exact sto_r4)
local macro_rules | `(tactic| walk_at "sto") => `(tactic| first | walk_at "st1" | exact sto_app (by walk_at "st1") | exact sto_app (sto_app (by walk_at "st1")))
local macro_rules | `(tactic| walk_at "sz") => `(tactic| ((try simp only [List.length_map, List.length_range, List.length_append, List.length_cons, List.length_nil]); omega))
local macro_rules | `(tactic| walk_at "go") => `(tactic| ((try (conv => whnf)); repeat ((first | (show pIf _ _ _; first | refine pIf.tt rfl ?_ | refine pIf.ff rfl ?_) | (show pReq _ _; first | refine pReq.mk rfl ?_ | refine pReq.mk (sz_le rfl) ?_ | refine pReq.mk (sz_lt rfl) ?_ | refine pReq.mk (by decide) ?_ | refine pReq.mk (Or.inr (by decide)) ?_ | refine pReq.mk (Or.inl (by decide)) ?_ | refine pReq.mk (by assumption) ?_ | refine pReq.mk (isTy_l (by walk_at "sto")) ?_ | refine pReq.mk (by omega) ?_ | refine pReq.mk (sz_lt6 (by walk_at "sz")) ?_ | refine pReq.mk (sz_le6 (by walk_at "sz")) ?_ | refine pReq.mk (by walk_at "sz") ?_) | (show pGet _ _; first | refine pGet.mk rfl ?_ | refine pGet.mk (by walk_at "sto") ?_ | refine pGet.mk (lenD_at (by walk_at "sto")) ?_ | refine pGet.mk (sqD_at (by walk_at "sto")) ?_ | refine pGet.mk (lsD_at (by walk_at "sto")) ?_ | refine pGet.mk (lsR_at (by walk_at "sto")) ?_ | refine pGet.mk (srcD_at (by walk_at "sto")) ?_ | refine pGet.mk (tyD_l (by walk_at "sto")) ?_)); (try (conv => whnf)))))
open IT
open NE (XScope XStep XTell XThing XQuest XNet ScIn ScsIn scD plcs zS zL zT zQ eS eL eT eQ noSc)
section
variable {cl : Str → Addr}
structure LA where
  h : Nat
  U : List Nat
  n : XNet
  o : Nat
  i : Itm
  home : Nat
  here : Nat
structure LPre (cl : Str → Addr) (P : Itm → Prop) (a : LA) (ds : List D) (S : Sto) : Prop where
  ds : ds = [.r a.o, .r a.h, .z (.int a.home), .z (.int a.here)]
  p : P a.i
  it : ItIn cl S a.U a.o a.i
  d : Dr (cl "Draft") S a.U a.h a.n
  hm : a.home < a.n.scopes.length
  hr : a.here < a.n.scopes.length
  z : sz a.n + 5 * cnt a.i ≤ 50000
def F_laid (cl : Str → Addr) (P : Itm → Prop) : Spc := fsm (LPre cl P) fun a d S S' => d = .z (.int (lay a.i a.home a.here a.n).2) ∧ DDeed (cl "Draft") a.h a.U S S' (lay a.i a.home a.here a.n).1
abbrev isThing (i : Itm) : Prop := ∃ r m of, i = .thing r m of
abbrev isLet (i : Itm) : Prop := ∃ m of, i = .lt m of
abbrev isElder (i : Itm) : Prop := ∃ p, i = .elder p
abbrev isAll (i : Itm) : Prop := ∃ p on, i = .all p on
abbrev isOne (i : Itm) : Prop := ∃ r m p, i = .one r m p
abbrev isAsk (i : Itm) : Prop := ∃ p, i = .ask p
abbrev isPart (k : Nat) (i : Itm) : Prop := (∃ r m is, i = .part r m is) ∧ dep i ≤ k
theorem pu_Thing_laid : ∀ ds S K KX, F_laid cl isThing ds S K KX → ws_Thing_laid cl (F_sorted cl) (F_putL cl) { nx := fun _ S1 => K (.z .none) S1, rt := K, ex := fun y _ S1 => KX y S1 } (startE nm_Thing_laid ds) S := by
  refine fsm_ok fun ⟨h, U, n, o, i, home, here⟩ ds S ⟨he, ⟨r, m, of, hp⟩, hi, hD, hm, hr, hz⟩ K KX hk => ?_
  dsimp only at he hp hi hD hm hr hz hk
  subst he hp
  obtain ⟨a, b, c, hob⟩ := hD.obj
  cases hi with
  | thing hnU ho =>
    rw [cnt] at hz
    walk_at "go"
    refine fsm_call ⟨h, U, n, here, of⟩ ⟨rfl, hD, by dsimp only; omega⟩ fun d S1 ⟨e1, ⟨U1, D1, hu1⟩, k1, l1⟩ => ?_
    dsimp only at e1 D1 hu1 k1 l1
    subst e1
    obtain ⟨a1, b1, c1, hob1⟩ := D1.obj
    have ho1 := k1 _ _ hnU ho
    have hs1 := sz_sorted n here of
    have hl1 := len_sorted n here of
    walk_at "go"
    refine fsm_call ⟨h, U1, sorted n here of, home, ⟨r, m, Str.ofString "thing", n.things.length⟩⟩ ⟨rfl, D1, by dsimp only; omega, by dsimp only; omega⟩ fun d S2 ⟨e2, d2⟩ => ?_
    walk_at "go"
    refine hk _ _ ⟨by rw [lay], ?_⟩
    rw [lay]
    exact ddeed_step hu1 k1 l1 d2
theorem pu_Let_laid : ∀ ds S K KX, F_laid cl isLet ds S K KX → ws_Let_laid cl (F_sorted cl) (F_newS cl) (F_putL cl) { nx := fun _ S1 => K (.z .none) S1, rt := K, ex := fun y _ S1 => KX y S1 } (startE nm_Let_laid ds) S := by
  refine fsm_ok fun ⟨h, U, n, o, i, home, here⟩ ds S ⟨he, ⟨m, of, hp⟩, hi, hD, hm, hr, hz⟩ K KX hk => ?_
  dsimp only at he hp hi hD hm hr hz hk
  subst he hp
  obtain ⟨a, b, c, hob⟩ := hD.obj
  cases hi with
  | lt hnU ho =>
    rw [cnt] at hz
    walk_at "go"
    refine fsm_call ⟨h, U, n, here, of⟩ ⟨rfl, hD, by dsimp only; omega⟩ fun d S1 ⟨e1, ⟨U1, D1, hu1⟩, k1, l1⟩ => ?_
    dsimp only at e1 D1 hu1 k1 l1
    subst e1
    obtain ⟨a1, b1, c1, hob1⟩ := D1.obj
    have ho1 := k1 _ _ hnU ho
    have hs1 := sz_sorted n here of
    have hl1 := len_sorted n here of
    walk_at "go"
    have D1a : Dr (cl "Draft") (S1 ++ [Ob.lst [mkT [D.z (.str (Str.ofString "up")), D.z (.str (Str.ofString "to")), D.z (.int here)]]]) U1 h (sorted n here of) := D1.app
    refine fsm_call ⟨h, U1, sorted n here of, .r S1.length, [upS here]⟩ ⟨rfl, D1a, sqD_at sto_last, by simp, by dsimp only; omega⟩ fun d S2 ⟨e2, d2⟩ => ?_
    dsimp only at e2 d2
    have d2 := ddeed_step hu1 k1 l1 (d2.pre Keep.app (by simp))
    obtain ⟨⟨U2, D2, hu2⟩, k2, l2⟩ := d2
    subst e2
    obtain ⟨a2, b2, c2, hob2⟩ := D2.obj
    have ho2 := k2 _ _ hnU ho
    have hs2 := sz_newS (sorted n here of) ([upS here], [])
    have hl2 : (newS (sorted n here of) ([upS here], [])).scopes.length = n.scopes.length + 1 := by simp [newS, hl1]
    dsimp only [List.length_cons, List.length_nil] at hs2
    rw [hl1]
    walk_at "go"
    refine fsm_call ⟨h, U2, newS (sorted n here of) ([upS here], []), n.scopes.length, ⟨Str.ofString "let", m, Str.ofString "thing", n.things.length⟩⟩ ⟨rfl, D2, by dsimp only; omega, by dsimp only; omega⟩ fun d S3 ⟨e3, d3⟩ => ?_
    walk_at "go"
    refine hk _ _ ⟨by rw [lay], ?_⟩
    rw [lay]
    exact ddeed_step hu2 k2 l2 d3
theorem pu_Elder_laid : ∀ ds S K KX, F_laid cl isElder ds S K KX → ws_Elder_laid cl (F_newQ cl) (F_putP cl) { nx := fun _ S1 => K (.z .none) S1, rt := K, ex := fun y _ S1 => KX y S1 } (startE nm_Elder_laid ds) S := by
  refine fsm_ok fun ⟨h, U, n, o, i, home, here⟩ ds S ⟨he, ⟨p, hp⟩, hi, hD, hm, hr, hz⟩ K KX hk => ?_
  dsimp only at he hp hi hD hm hr hz hk
  subst he hp
  obtain ⟨a, b, c, hob⟩ := hD.obj
  cases hi with
  | elder hnU ho =>
    rw [cnt] at hz
    walk_at "go"
    refine fsm_call (⟨h, U, n⟩, ⟨home, 2, p⟩) ⟨rfl, hD, by dsimp only; omega⟩ fun d S1 ⟨e1, ⟨U1, D1, hu1⟩, k1, l1⟩ => ?_
    dsimp only at e1 D1 hu1 k1 l1
    subst e1
    obtain ⟨a1, b1, c1, hob1⟩ := D1.obj
    have ho1 := k1 _ _ hnU ho
    have hs1 := sz_newQ n ⟨home, 2, p⟩
    walk_at "go"
    refine fsm_call ⟨h, U1, newQ n ⟨home, 2, p⟩, home, ⟨Str.ofString "elder", Str.ofString "by", n.quests.length⟩⟩ ⟨rfl, D1, hm, by dsimp only; omega⟩ fun d S2 ⟨e2, d2⟩ => ?_
    walk_at "go"
    refine hk _ _ ⟨by rw [lay], ?_⟩
    rw [lay]
    exact ddeed_step hu1 k1 l1 d2
theorem pu_One_laid : ∀ ds S K KX, F_laid cl isOne ds S K KX → ws_One_laid cl (F_newQ cl) (F_putL cl) { nx := fun _ S1 => K (.z .none) S1, rt := K, ex := fun y _ S1 => KX y S1 } (startE nm_One_laid ds) S := by
  refine fsm_ok fun ⟨h, U, n, o, i, home, here⟩ ds S ⟨he, ⟨r, m, p, hp⟩, hi, hD, hm, hr, hz⟩ K KX hk => ?_
  dsimp only at he hp hi hD hm hr hz hk
  subst he hp
  obtain ⟨a, b, c, hob⟩ := hD.obj
  cases hi with
  | one hnU ho =>
    rw [cnt] at hz
    walk_at "go"
    refine fsm_call (⟨h, U, n⟩, ⟨home, 2, p⟩) ⟨rfl, hD, by dsimp only; omega⟩ fun d S1 ⟨e1, ⟨U1, D1, hu1⟩, k1, l1⟩ => ?_
    dsimp only at e1 D1 hu1 k1 l1
    subst e1
    obtain ⟨a1, b1, c1, hob1⟩ := D1.obj
    have ho1 := k1 _ _ hnU ho
    have hs1 := sz_newQ n ⟨home, 2, p⟩
    walk_at "go"
    refine fsm_call ⟨h, U1, newQ n ⟨home, 2, p⟩, home, ⟨r, m, Str.ofString "by", n.quests.length⟩⟩ ⟨rfl, D1, hm, by dsimp only; omega⟩ fun d S2 ⟨e2, d2⟩ => ?_
    walk_at "go"
    refine hk _ _ ⟨by rw [lay], ?_⟩
    rw [lay]
    exact ddeed_step hu1 k1 l1 d2
theorem pu_Ask_laid : ∀ ds S K KX, F_laid cl isAsk ds S K KX → ws_Ask_laid cl (F_newQ cl) { nx := fun _ S1 => K (.z .none) S1, rt := K, ex := fun y _ S1 => KX y S1 } (startE nm_Ask_laid ds) S := by
  refine fsm_ok fun ⟨h, U, n, o, i, home, here⟩ ds S ⟨he, ⟨p, hp⟩, hi, hD, hm, hr, hz⟩ K KX hk => ?_
  dsimp only at he hp hi hD hm hr hz hk
  subst he hp
  obtain ⟨a, b, c, hob⟩ := hD.obj
  cases hi with
  | ask hnU ho =>
    rw [cnt] at hz
    walk_at "go"
    refine fsm_call (⟨h, U, n⟩, ⟨here, 0, p⟩) ⟨rfl, hD, by dsimp only; omega⟩ fun d S1 ⟨e1, d1⟩ => ?_
    walk_at "go"
    refine hk _ _ ⟨by rw [lay], ?_⟩
    rw [lay]
    exact d1
theorem pu_All_laid : ∀ ds S K KX, F_laid cl isAll ds S K KX → ws_All_laid cl (F_newQ cl) (F_putP cl) { nx := fun _ S1 => K (.z .none) S1, rt := K, ex := fun y _ S1 => KX y S1 } (startE nm_All_laid ds) S := by
  refine fsm_ok fun ⟨h, U, n, o, i, home, here⟩ ds S ⟨he, ⟨p, on, hp⟩, hi, hD, hm, hr, hz⟩ K KX hk => ?_
  dsimp only at he hp hi hD hm hr hz hk
  subst he hp
  obtain ⟨a, b, c, hob⟩ := hD.obj
  cases hi with
  | all hnU ho =>
    rw [cnt] at hz
    cases on with
    | true =>
      walk_at "go"
      refine fsm_call (⟨h, U, n⟩, ⟨home, 2, p⟩) ⟨rfl, hD, by dsimp only; omega⟩ fun d S1 ⟨e1, ⟨U1, D1, hu1⟩, k1, l1⟩ => ?_
      dsimp only at e1 D1 hu1 k1 l1
      subst e1
      obtain ⟨a1, b1, c1, hob1⟩ := D1.obj
      have ho1 := k1 _ _ hnU ho
      have hs1 := sz_newQ n ⟨home, 2, p⟩
      walk_at "go"
      refine fsm_call ⟨h, U1, newQ n ⟨home, 2, p⟩, home, ⟨Str.ofString "allon", Str.ofString "by", n.quests.length⟩⟩ ⟨rfl, D1, hm, by dsimp only; omega⟩ fun d S2 ⟨e2, d2⟩ => ?_
      walk_at "go"
      refine hk _ _ ⟨by rw [lay], ?_⟩
      rw [lay]
      exact ddeed_step hu1 k1 l1 d2
    | false =>
      walk_at "go"
      refine fsm_call (⟨h, U, n⟩, ⟨home, 2, p⟩) ⟨rfl, hD, by dsimp only; omega⟩ fun d S1 ⟨e1, ⟨U1, D1, hu1⟩, k1, l1⟩ => ?_
      dsimp only at e1 D1 hu1 k1 l1
      subst e1
      obtain ⟨a1, b1, c1, hob1⟩ := D1.obj
      have ho1 := k1 _ _ hnU ho
      have hs1 := sz_newQ n ⟨home, 2, p⟩
      walk_at "go"
      refine fsm_call ⟨h, U1, newQ n ⟨home, 2, p⟩, home, ⟨Str.ofString "all", Str.ofString "by", n.quests.length⟩⟩ ⟨rfl, D1, hm, by dsimp only; omega⟩ fun d S2 ⟨e2, d2⟩ => ?_
      walk_at "go"
      refine hk _ _ ⟨by rw [lay], ?_⟩
      rw [lay]
      exact ddeed_step hu1 k1 l1 d2
def laidV (cl : Str → Addr) (k : Nat) (v a b c : Nat) : WE :=
  wAlt (wOMth (cl "Part") "laid" (F_laid cl (isPart k)) (wVar v) (wCons (wVar a) (wCons (wVar b) (wCons (wVar c) wNil)))) (wAlt (wOMth (cl "Thing") "laid" (F_laid cl isThing) (wVar v) (wCons (wVar a) (wCons (wVar b) (wCons (wVar c) wNil)))) (wAlt (wOMth (cl "Let") "laid" (F_laid cl isLet) (wVar v) (wCons (wVar a) (wCons (wVar b) (wCons (wVar c) wNil)))) (wAlt (wOMth (cl "Elder") "laid" (F_laid cl isElder) (wVar v) (wCons (wVar a) (wCons (wVar b) (wCons (wVar c) wNil)))) (wAlt (wOMth (cl "All") "laid" (F_laid cl isAll) (wVar v) (wCons (wVar a) (wCons (wVar b) (wCons (wVar c) wNil)))) (wAlt (wOMth (cl "One") "laid" (F_laid cl isOne) (wVar v) (wCons (wVar a) (wCons (wVar b) (wCons (wVar c) wNil)))) (wOMth (cl "Ask") "laid" (F_laid cl isAsk) (wVar v) (wCons (wVar a) (wCons (wVar b) (wCons (wVar c) wNil)))))))))
theorem omth {C : Addr} {m : Str} {sp : Spc} {v a b c o : Nat} {x y z : D} {fs : List (Str × D)} {env : PL.Env} {S : Sto} {K : K1} {KX : PL.KX} (hv : env[v]? = some (some (.r o))) (ha : env[a]? = some (some x)) (hb : env[b]? = some (some y)) (hc : env[c]? = some (some z)) (ho : S[o]? = some (.ins C fs)) (hl : fs.lookup m = none) (k : pCall sp [.r o, x, y, z] S K fun y S3 => KX y env S3) : wOMth C m sp (wVar v) (wCons (wVar a) (wCons (wVar b) (wCons (wVar c) wNil))) env S K KX := by
  unfold wOMth wCons wNil
  refine NE.wVar_at hv (pObj.mk ho (pReq.mk hl ?_))
  refine NE.wVar_at ha ?_
  refine NE.wVar_at hb ?_
  refine NE.wVar_at hc ?_
  exact k
theorem laid_alt {k v a b c o home here h : Nat} {i : Itm} {U : List Nat} {n : XNet} {env : PL.Env} {S : Sto} {K : K1} {KX : PL.KX} (hv : env[v]? = some (some (.r o))) (ha : env[a]? = some (some (.r h))) (hb : env[b]? = some (some (.z (.int home)))) (hc : env[c]? = some (some (.z (.int here)))) (hi : ItIn cl S U o i) (hd : Dr (cl "Draft") S U h n) (hm : home < n.scopes.length) (hr : here < n.scopes.length) (hz : sz n + 5 * cnt i ≤ 50000) (hk : dep i ≤ k)
    (hq : ∀ S', DDeed (cl "Draft") h U S S' (lay i home here n).1 → K (.z (.int (lay i home here n).2)) S') : laidV cl k v a b c env S K KX := by
  have go : ∀ (P : Itm → Prop), P i → pCall (F_laid cl P) [.r o, .r h, .z (.int home), .z (.int here)] S K fun y S3 => KX y env S3 := fun P hp => fsm_call ⟨h, U, n, o, i, home, here⟩ ⟨rfl, hp, hi, hd, hm, hr, hz⟩ fun d S' ⟨e, dd⟩ => by rw [e]; exact hq S' dd
  unfold laidV
  cases hi with
  | part h1 h2 h3 h4 h5 => exact .l (omth hv ha hb hc h3 rfl (go _ ⟨⟨_, _, _, rfl⟩, hk⟩))
  | thing h1 h2 => exact .r (.l (omth hv ha hb hc h2 rfl (go _ ⟨_, _, _, rfl⟩)))
  | lt h1 h2 => exact .r (.r (.l (omth hv ha hb hc h2 rfl (go _ ⟨_, _, rfl⟩))))
  | elder h1 h2 => exact .r (.r (.r (.l (omth hv ha hb hc h2 rfl (go _ ⟨_, rfl⟩)))))
  | all h1 h2 => exact .r (.r (.r (.r (.l (omth hv ha hb hc h2 rfl (go _ ⟨_, _, rfl⟩))))))
  | one h1 h2 => exact .r (.r (.r (.r (.r (.l (omth hv ha hb hc h2 rfl (go _ ⟨_, _, _, rfl⟩)))))))
  | ask h1 h2 => exact .r (.r (.r (.r (.r (.r (omth hv ha hb hc h2 rfl (go _ ⟨_, rfl⟩)))))))
theorem laid_loop {k : Nat} {v a b c h home here : Nat} {U : List Nat} {S : Sto} {n : XNet} {ds : List D} {is : List Itm} {m : Nat} {ks : KS} {env : PL.Env} (hne : v ≠ a ∧ v ≠ b ∧ v ≠ c ∧ c ≠ a ∧ c ≠ b) (hvl : v < env.length) (ha : env[a]? = some (some (.r h))) (hb : env[b]? = some (some (.z (.int home)))) (hc : env[c]? = some (some (.z (.int here)))) (hm : m ∉ U) (hl : S[m]? = some (.lst ds)) (hi : ItsIn cl S U ds is) (hd : Dr (cl "Draft") S U h n) (hhm : home < n.scopes.length) (hhr : here < n.scopes.length) (hz : sz n + 5 * cnts is ≤ 50000) (hk : deps is ≤ k)
    (hq : ∀ S' x, DDeed (cl "Draft") h U S S' (lays is home here n).1 → ks.nx ((env.set v x).set c (some (.z (.int (lays is home here n).2)))) S') :
    pFor ⟨ds, fun S => S[m]? = some (.lst ds)⟩ (gN v) (wAsg (laidV cl k v a b c) (gN c)) ks ds env S := by
  have hcl : c < env.length := (List.getElem?_eq_some_iff.mp hc).1
  refine pFor_each (src := ⟨ds, fun S => S[m]? = some (.lst ds)⟩) (fun j env' S' => (∃ x, env' = (env.set v x).set c (some (.z (.int (lays (is.take j) home here n).2)))) ∧ DDeed (cl "Draft") h U S S' (lays (is.take j) home here n).1) ⟨⟨env[v], ?_⟩, ?_⟩ (fun j env' S' _ h' => h'.2.k _ _ hm hl) ?_ ?_
  · rw [List.take_zero, lays]
    dsimp only
    rw [List.set_getElem_self]
    refine (List.ext_getElem? fun q => ?_)
    by_cases e : c = q
    · subst e; rw [List.getElem?_set_self hcl, hc]
    · rw [List.getElem?_set_ne e]
  · rw [List.take_zero, lays]
    exact ⟨⟨U, hd, fun u hu => .inl hu⟩, Keep.refl, Nat.le_refl _⟩
  · rintro j d env' S' Q hj ⟨⟨x, rfl⟩, ⟨U1, D1, hu1⟩, k1, l1⟩ hQ
    have hjl : j < is.length := by rw [← hi.len]; exact (List.getElem?_eq_some_iff.mp hj).1
    have hji : is[j]? = some (is[j]'hjl) := List.getElem?_eq_getElem _
    generalize is[j]'hjl = i at hji
    obtain ⟨o, ho, hio⟩ := hi.get hji
    rw [hj] at ho
    cases ho
    have hio := ItIn.keep (keep_its k1 hu1) _ _ hio
    have ht := lays_take hji home here n
    have hct := cnts_take hji
    have hsz := sz_lays (is.take j) home here n
    have hln := len_lays (is.take j) home here n hhr
    have hdp := dep_mem hji
    generalize lays (is.take j) home here n = r at *
    unfold gN wAsg
    refine laid_alt (o := o) (h := h) (home := home) (here := r.2) (n := r.1) (i := i) (U := U1) ?_ ?_ ?_ ?_ hio D1 (by omega) hln.2 (by omega) (by omega) fun S2 d2 => ?_
    · rw [List.getElem?_set_self (by simp; omega)]
    · rw [List.getElem?_set_ne hne.1, List.getElem?_set_ne hne.2.2.2.1, List.getElem?_set_ne hne.1]; exact ha
    · rw [List.getElem?_set_ne hne.2.1, List.getElem?_set_ne hne.2.2.2.2, List.getElem?_set_ne hne.2.1]; exact hb
    · rw [List.getElem?_set_ne hne.2.2.1, List.getElem?_set_self (by simp; omega)]
    · refine hQ _ _ ⟨⟨some (.r o), ?_⟩, ?_⟩
      · rw [ht]
        refine (List.ext_getElem? fun q => ?_)
        by_cases e : c = q
        · subst e; rw [List.getElem?_set_self (by simp; omega), List.getElem?_set_self (by simp; omega)]
        · rw [List.getElem?_set_ne e, List.getElem?_set_ne e]
          by_cases e2 : v = q
          · subst e2; rw [List.getElem?_set_self (by simp; omega), List.getElem?_set_self (by omega)]
          · rw [List.getElem?_set_ne e2, List.getElem?_set_ne e2, List.getElem?_set_ne e, List.getElem?_set_ne e2]
      · rw [ht]
        exact ddeed_step hu1 k1 l1 d2
  · rintro env' S' ⟨⟨x, rfl⟩, dd⟩
    rw [hi.len, List.take_length] at dd ⊢
    exact hq _ _ dd
def F_part (cl : Str → Addr) (k : Nat) : Spc := F_laid cl (isPart k)
theorem pu_Part_laid_none : ∀ ds S K KX, ¬ F_part cl 0 ds S K KX := by
  rintro ds S K KX ⟨a, ⟨_, ⟨⟨r, m, is, e⟩, hd⟩, _⟩, _⟩
  rw [e, dep] at hd
  omega
theorem pu_Part_laid (k : Nat) : ∀ ds S K KX, F_part cl (k + 1) ds S K KX → ws_Part_laid cl (F_newS cl) (F_newT cl) (F_putL cl) (F_part cl k) (F_laid cl isThing) (F_laid cl isLet) (F_laid cl isElder) (F_laid cl isAll) (F_laid cl isOne) (F_laid cl isAsk) { nx := fun _ S1 => K (.z .none) S1, rt := K, ex := fun y _ S1 => KX y S1 } (startE nm_Part_laid ds) S := by
  refine fsm_ok fun ⟨h, U, n, o, i, home, here⟩ ds S ⟨he, ⟨⟨r, m, is, hp⟩, hdp⟩, hi, hD, hm, hr, hz⟩ K KX hk => ?_
  dsimp only at he hp hi hD hm hr hz hk hdp
  subst he hp
  obtain ⟨a, b, c, hob⟩ := hD.obj
  rw [dep] at hdp
  cases hi with
  | part hnU hmU ho hls hin =>
    rw [cnt] at hz
    walk_at "go"
    have D0a : Dr (cl "Draft") (S ++ [Ob.lst [mkT [D.z (.str (Str.ofString "up")), D.z (.str (Str.ofString "to")), D.z (.int here)]]]) U h n := hD.app
    refine fsm_call ⟨h, U, n, .r S.length, [upS here]⟩ ⟨rfl, D0a, sqD_at sto_last, by simp, by dsimp only; omega⟩ fun d S1 ⟨e1, d1⟩ => ?_
    dsimp only at e1 d1
    obtain ⟨⟨U1, D1, hu1⟩, k1, l1⟩ := d1.pre Keep.app (by simp)
    subst e1
    obtain ⟨a1, b1, c1, hob1⟩ := D1.obj
    have hs1 := sz_newS n ([upS here], [])
    dsimp only [List.length_cons, List.length_nil] at hs1
    walk_at "go"
    refine fsm_call (⟨h, U1, newS n ([upS here], [])⟩, ⟨Str.ofString "part", n.scopes.length⟩) ⟨rfl, D1, by dsimp only; omega⟩ fun d S2 ⟨e2, d2⟩ => ?_
    dsimp only at e2 d2
    obtain ⟨⟨U2, D2, hu2⟩, k2, l2⟩ := ddeed_step hu1 k1 l1 d2
    subst e2
    obtain ⟨a2, b2, c2, hob2⟩ := D2.obj
    have ho2 := k2 _ _ hnU ho
    have hs2 := sz_newT (newS n ([upS here], [])) ⟨Str.ofString "part", n.scopes.length⟩
    walk_at "go"
    have hl2 : (newT (newS n ([upS here], [])) ⟨Str.ofString "part", n.scopes.length⟩).scopes.length = n.scopes.length + 1 := by simp [newS, newT]
    refine fsm_call ⟨h, U2, newT (newS n ([upS here], [])) ⟨Str.ofString "part", n.scopes.length⟩, home, ⟨r, m, Str.ofString "thing", n.things.length⟩⟩ ⟨rfl, D2, by dsimp only; omega, by dsimp only; omega⟩ fun d S3 ⟨e3, d3⟩ => ?_
    dsimp only at e3 d3
    obtain ⟨⟨U3, D3, hu3⟩, k3, l3⟩ := ddeed_step hu2 k2 l2 d3
    subst e3
    have ho3 := k3 _ _ hnU ho
    have hl3 := k3 _ _ hmU hls
    have hin3 := ItsIn.keep (keep_its k3 hu3) _ _ hin
    have hm3 := (keep_its k3 hu3 _ _ hmU hls).1
    have hs3 := sz_putL (newT (newS n ([upS here], [])) ⟨Str.ofString "part", n.scopes.length⟩) home ⟨r, m, Str.ofString "thing", n.things.length⟩
    have hln3 : (putL (newT (newS n ([upS here], [])) ⟨Str.ofString "part", n.scopes.length⟩) home ⟨r, m, Str.ofString "thing", n.things.length⟩).scopes.length = n.scopes.length + 1 := by simp [putL, newS, newT]
    walk_at "go"
    refine laid_loop (k := k) (h := h) (home := n.scopes.length) (here := n.scopes.length) (U := U3) (n := putL (newT (newS n ([upS here], [])) ⟨Str.ofString "part", n.scopes.length⟩) home ⟨r, m, Str.ofString "thing", n.things.length⟩) (is := is) (by decide) (by show 7 < 8; decide) rfl rfl rfl hm3 hl3 hin3 D3 (by omega) (by omega) (by omega) (by omega) fun S4 x d4 => ?_
    dsimp only [Part_laid_r1]
    walk_at "go"
    refine hk _ _ ⟨by rw [lay], ?_⟩
    rw [lay]
    exact ddeed_step hu3 k3 l3 d4
end
end K70

set_option Elab.async false
set_option linter.all false
set_option maxRecDepth 100000
set_option maxHeartbeats 1000000
namespace K70
open PySem L2 PL NE
open ND (cutL_map cutL_len cutL_mem bz_ints LwN isNm alpha alpha_eq alpha_at getA ixD_zA ixD_bA app_list one_len getI getI_at getI_mem)
local macro_rules | `(tactic| walk_at "st1") => `(tactic| first | assumption | exact sto_last | exact sto_r0 | exact sto_r1 | exact sto_r2 | exact sto_r3 | exact sto_r4)
local macro_rules | `(tactic| walk_at "sto") => `(tactic| first | walk_at "st1" | exact sto_app (by walk_at "st1") | exact sto_app (sto_app (by walk_at "st1")))
local macro_rules | `(tactic| walk_at "sz") => `(tactic| ((try simp only [List.length_map, List.length_range, List.length_append, List.length_cons, List.length_nil]); omega))
local macro_rules | `(tactic| walk_at "go") => `(tactic| ((try (conv => whnf)); repeat ((first | (show pIf _ _ _; first | refine pIf.tt rfl ?_ | refine pIf.ff rfl ?_) | (show pReq _ _; first | refine pReq.mk rfl ?_ | refine pReq.mk (sz_le rfl) ?_ | refine pReq.mk (sz_lt rfl) ?_ | refine pReq.mk (by decide) ?_ | refine pReq.mk (Or.inr (by decide)) ?_ | refine pReq.mk (Or.inl (by decide)) ?_ | refine pReq.mk (by assumption) ?_ | refine pReq.mk (isTy_l (by walk_at "sto")) ?_ | refine pReq.mk (by omega) ?_ | refine pReq.mk (sz_lt6 (by walk_at "sz")) ?_ | refine pReq.mk (sz_le6 (by walk_at "sz")) ?_ | refine pReq.mk (by walk_at "sz") ?_) | (show pGet _ _; first | refine pGet.mk rfl ?_ | refine pGet.mk (by walk_at "sto") ?_ | refine pGet.mk (lenD_at (by walk_at "sto")) ?_ | refine pGet.mk (sqD_at (by walk_at "sto")) ?_ | refine pGet.mk (lsD_at (by walk_at "sto")) ?_ | refine pGet.mk (lsR_at (by walk_at "sto")) ?_ | refine pGet.mk (srcD_at (by walk_at "sto")) ?_ | refine pGet.mk (tyD_l (by walk_at "sto")) ?_)); (try (conv => whnf)))))
open IT
open NE (XScope XStep XTell XThing XQuest XNet ScIn ScsIn scD plcs zS zL zT zQ eS eL eT eQ noSc)
section
variable {cl : Str → Addr}
def inn : Itm → List Itm
  | .part _ _ is => is
  | _ => []
structure WiPre (cl : Str → Addr) (C : Str) (a : Nat) (ds : List D) (S : Sto) : Prop where
  ds : ds = [.r a]
  o : ∃ fs, S[a]? = some (.ins (cl C) fs)
def F_within0 (cl : Str → Addr) (C : Str) : Spc := fsm (WiPre cl C) fun a d S S' => d = .r S.length ∧ S' = S ++ [.lst []]
def F_within (cl : Str → Addr) : Spc := fsm (fun (a : Nat × Str × Str × Nat × List D) ds S => ds = [.r a.1] ∧ S[a.1]? = some (.ins (cl "Part") [("reach", .z (.str a.2.1)), ("name", .z (.str a.2.2.1)), ("inner", .r a.2.2.2.1)]) ∧ S[a.2.2.2.1]? = some (.lst a.2.2.2.2) ∧ a.2.2.2.2.length ≤ 1000) fun a d S S' => d = .r S.length ∧ S' = S ++ [.lst a.2.2.2.2]
theorem pu_Part_within : ∀ ds S K KX, F_within cl ds S K KX → ws_Part_within cl { nx := fun _ S1 => K (.z .none) S1, rt := K, ex := fun y _ S1 => KX y S1 } (startE nm_Part_within ds) S := by
  refine fsm_ok fun ⟨o, r, m, q, xs⟩ ds S ⟨he, ho, hl, hz⟩ K KX hk => ?_
  dsimp only at he ho hl hz hk
  subst he
  walk_at "go"
  exact hk _ _ ⟨rfl, rfl⟩
theorem pu_Thing_within : ∀ ds S K KX, F_within0 cl "Thing" ds S K KX → ws_Thing_within { nx := fun _ S1 => K (.z .none) S1, rt := K, ex := fun y _ S1 => KX y S1 } (startE nm_Thing_within ds) S := by
  refine fsm_ok fun o ds S ⟨he, fs, ho⟩ K KX hk => ?_
  subst he
  walk_at "go"
  exact hk _ _ ⟨rfl, rfl⟩
theorem pu_Let_within : ∀ ds S K KX, F_within0 cl "Let" ds S K KX → ws_Let_within { nx := fun _ S1 => K (.z .none) S1, rt := K, ex := fun y _ S1 => KX y S1 } (startE nm_Let_within ds) S := by
  refine fsm_ok fun o ds S ⟨he, fs, ho⟩ K KX hk => ?_
  subst he
  walk_at "go"
  exact hk _ _ ⟨rfl, rfl⟩
theorem pu_Elder_within : ∀ ds S K KX, F_within0 cl "Elder" ds S K KX → ws_Elder_within { nx := fun _ S1 => K (.z .none) S1, rt := K, ex := fun y _ S1 => KX y S1 } (startE nm_Elder_within ds) S := by
  refine fsm_ok fun o ds S ⟨he, fs, ho⟩ K KX hk => ?_
  subst he
  walk_at "go"
  exact hk _ _ ⟨rfl, rfl⟩
theorem pu_All_within : ∀ ds S K KX, F_within0 cl "All" ds S K KX → ws_All_within { nx := fun _ S1 => K (.z .none) S1, rt := K, ex := fun y _ S1 => KX y S1 } (startE nm_All_within ds) S := by
  refine fsm_ok fun o ds S ⟨he, fs, ho⟩ K KX hk => ?_
  subst he
  walk_at "go"
  exact hk _ _ ⟨rfl, rfl⟩
theorem pu_One_within : ∀ ds S K KX, F_within0 cl "One" ds S K KX → ws_One_within { nx := fun _ S1 => K (.z .none) S1, rt := K, ex := fun y _ S1 => KX y S1 } (startE nm_One_within ds) S := by
  refine fsm_ok fun o ds S ⟨he, fs, ho⟩ K KX hk => ?_
  subst he
  walk_at "go"
  exact hk _ _ ⟨rfl, rfl⟩
theorem pu_Ask_within : ∀ ds S K KX, F_within0 cl "Ask" ds S K KX → ws_Ask_within { nx := fun _ S1 => K (.z .none) S1, rt := K, ex := fun y _ S1 => KX y S1 } (startE nm_Ask_within ds) S := by
  refine fsm_ok fun o ds S ⟨he, fs, ho⟩ K KX hk => ?_
  subst he
  walk_at "go"
  exact hk _ _ ⟨rfl, rfl⟩
theorem omth0 {C : Addr} {m : Str} {sp : Spc} {v o : Nat} {fs : List (Str × D)} {env : PL.Env} {S : Sto} {K : K1} {KX : PL.KX} (hv : env[v]? = some (some (.r o))) (ho : S[o]? = some (.ins C fs)) (hl : fs.lookup m = none) (k : pCall sp [.r o] S K fun y S3 => KX y env S3) : wOMth C m sp (wVar v) wNil env S K KX := by
  unfold wOMth wNil
  exact NE.wVar_at hv (pObj.mk ho (pReq.mk hl k))
def withinV (cl : Str → Addr) (v : Nat) : WE := wAlt (wOMth (cl "Part") "within" (F_within cl) (wVar v) wNil) (wAlt (wOMth (cl "Thing") "within" (F_within0 cl "Thing") (wVar v) wNil) (wAlt (wOMth (cl "Let") "within" (F_within0 cl "Let") (wVar v) wNil) (wAlt (wOMth (cl "Elder") "within" (F_within0 cl "Elder") (wVar v) wNil) (wAlt (wOMth (cl "All") "within" (F_within0 cl "All") (wVar v) wNil) (wAlt (wOMth (cl "One") "within" (F_within0 cl "One") (wVar v) wNil) (wOMth (cl "Ask") "within" (F_within0 cl "Ask") (wVar v) wNil))))))
theorem within_alt {v o : Nat} {i : Itm} {U : List Nat} {env : PL.Env} {S : Sto} {K : K1} {KX : PL.KX} (hv : env[v]? = some (some (.r o))) (hi : ItIn cl S U o i) (hz : cnt i ≤ 1000) (hq : ∀ xs, ItsIn cl S U xs (inn i) → K (.r S.length) (S ++ [.lst xs])) : withinV cl v env S K KX := by
  have go : ∀ (C : Str) (fs : List (Str × D)), S[o]? = some (.ins (cl C) fs) → ItsIn cl S U [] (inn i) → pCall (F_within0 cl C) [.r o] S K fun y S3 => KX y env S3 := fun C fs h hn => fsm_call o ⟨rfl, _, h⟩ fun d S' ⟨e1, e2⟩ => by rw [e1, e2]; exact hq _ hn
  unfold withinV
  cases hi with
  | @part _ _ _ _ _ is h1 h2 h3 h4 h5 =>
    rw [cnt] at hz
    refine .l (omth0 hv h3 rfl (fsm_call (_, _, _, _, _) ⟨rfl, h3, h4, ?_⟩ fun d S' ⟨e1, e2⟩ => by rw [e1, e2]; exact hq _ h5))
    have := cnts_len is
    dsimp only
    rw [h5.len]; omega
  | thing h1 h2 => exact .r (.l (omth0 hv h2 rfl (go _ _ h2 .nil)))
  | lt h1 h2 => exact .r (.r (.l (omth0 hv h2 rfl (go _ _ h2 .nil))))
  | elder h1 h2 => exact .r (.r (.r (.l (omth0 hv h2 rfl (go _ _ h2 .nil)))))
  | all h1 h2 => exact .r (.r (.r (.r (.l (omth0 hv h2 rfl (go _ _ h2 .nil))))))
  | one h1 h2 => exact .r (.r (.r (.r (.r (.l (omth0 hv h2 rfl (go _ _ h2 .nil)))))))
  | ask h1 h2 => exact .r (.r (.r (.r (.r (.r (omth0 hv h2 rfl (go _ _ h2 .nil)))))))
structure CA where
  m : Nat
  xs : List D
  is : List Itm
  dp : Nat
  mn : Nat
structure CPre (cl : Str → Addr) (k : Nat) (a : CA) (ds : List D) (S : Sto) : Prop where
  ds : ds = [.r a.m, .z (.int a.dp), .z (.int a.mn)]
  l : S[a.m]? = some (.lst a.xs)
  i : ItsIn cl S [] a.xs a.is
  k : deps a.is < k
  d : a.dp + deps a.is ≤ 31
  z : a.mn + cnts a.is ≤ 200
def F_counted (cl : Str → Addr) (k : Nat) : Spc := fsm (CPre cl k) fun a d S S' => d = .z (.int ((a.mn + cnts a.is : Nat) : Int)) ∧ ∃ T, S' = S ++ T
theorem pu_counted_none : ∀ ds S K KX, ¬ F_counted cl 0 ds S K KX := by
  rintro ds S K KX ⟨a, h, _⟩
  exact absurd h.k (by omega)
theorem pu_counted (k : Nat) : ∀ ds S K KX, F_counted cl (k + 1) ds S K KX → ws_counted cl (F_within cl) (F_within0 cl "Thing") (F_within0 cl "Let") (F_within0 cl "Elder") (F_within0 cl "All") (F_within0 cl "One") (F_within0 cl "Ask") (F_counted cl k) { nx := fun _ S1 => K (.z .none) S1, rt := K, ex := fun y _ S1 => KX y S1 } (startE nm_counted ds) S := by
  refine fsm_ok fun ⟨m, xs, is, dp, mn⟩ ds S ⟨he, hl, hi, hdk, hd, hz⟩ K KX hk => ?_
  dsimp only at he hl hi hdk hd hz hk
  subst he
  have rest : ∀ S1, (∃ T, S1 = S ++ T) → counted_r2 cl (F_within cl) (F_within0 cl "Thing") (F_within0 cl "Let") (F_within0 cl "Elder") (F_within0 cl "All") (F_within0 cl "One") (F_within0 cl "Ask") (F_counted cl k) (ends K KX) (startE nm_counted [.r m, .z (.int dp), .z (.int mn)]) S1 := by
    rintro S1 ⟨T0, rfl⟩
    have hl1 := sto_app (T := T0) hl
    dsimp only [counted_r2]
    walk_at "go"
    refine pFor_each (fun j env' S' => (∃ v, env' = [some (.r m), some (.z (.int dp)), some (.z (.int ((mn + cnts (is.take j) : Nat) : Int))), v]) ∧ ∃ T, S' = S ++ T) ⟨⟨none, by rw [List.take_zero, cnts]; rfl⟩, _, rfl⟩ (fun j env' S' _ ⟨_, T, e⟩ => by rw [e]; exact sto_app hl) ?_ ?_
    · rintro j d _ _ Q hj ⟨⟨v, rfl⟩, T, rfl⟩ hQ
      have hjl : j < is.length := by rw [← hi.len]; exact (List.getElem?_eq_some_iff.mp hj).1
      have hji : is[j]? = some (is[j]'hjl) := List.getElem?_eq_getElem _
      generalize is[j]'hjl = i at hji
      obtain ⟨o, ho, hio⟩ := hi.get hji
      rw [hj] at ho
      cases ho
      have hio := ItIn.keep (S' := S ++ T) (U' := []) (fun n o _ e => ⟨by simp, sto_app e⟩) _ _ hio
      have hct := cnts_take hji
      have hdp := dep_mem hji
      have hinn : 1 + cnts (inn i) = cnt i ∨ (inn i = [] ∧ cnt i = 1) := by cases i <;> simp [inn, cnt]
      have hdd : deps (inn i) + 1 ≤ dep i := by cases i <;> simp [inn, dep, deps] <;> omega
      have hcn : 1 + cnts (inn i) = cnt i := by
        rcases hinn with h | ⟨h, h2⟩
        · exact h
        · rw [h, cnts, h2]
      have e1 : cnts (is.take (j + 1)) = cnts (is.take j) + cnt i := by rw [take_one hji, cnts_app, cnts, cnts]; omega
      dsimp only [counted_b1]
      walk_at "go"
      refine within_alt (v := 3) (i := i) (U := []) rfl hio (by omega) fun xs2 hx2 => ?_
      walk_at "go"
      have hx2 := ItsIn.keep (S' := S ++ T ++ [Ob.lst xs2]) (U' := []) (fun n o _ e => ⟨by simp, sto_app e⟩) _ _ hx2
      refine fsm_call ⟨(S ++ T).length, xs2, inn i, dp + 1, mn + cnts (is.take j) + 1⟩ ⟨rfl, sto_last, hx2, by dsimp only; omega, by dsimp only; omega, by dsimp only; omega⟩ fun d S2 ⟨e2, T2, e3⟩ => ?_
      dsimp only at e2 e3
      subst e2 e3
      walk_at "go"
      refine pIf.mk (fun q => ?_) (fun q => ?_)
      · have q := of_decide_eq_true q
        omega
      · walk_at "go"
        refine hQ _ _ ⟨⟨some (.r o), ?_⟩, ⟨T ++ [Ob.lst xs2] ++ T2, by simp⟩⟩
        rw [e1, show mn + cnts (is.take j) + 1 + cnts (inn i) = mn + (cnts (is.take j) + cnt i) by omega]
        rfl
    · rintro _ _ ⟨⟨v, rfl⟩, T, rfl⟩
      rw [hi.len, List.take_length]
      dsimp only [counted_r1]
      walk_at "go"
      exact hk _ _ ⟨rfl, _, rfl⟩
  generalize hr : counted_r2 cl (F_within cl) (F_within0 cl "Thing") (F_within0 cl "Let") (F_within0 cl "Elder") (F_within0 cl "All") (F_within0 cl "One") (F_within0 cl "Ask") (F_counted cl k) = r2 at rest
  unfold ws_counted
  rw [hr]
  walk_at "go"
  refine pIf.mk (fun q => ?_) (fun q => ?_)
  · have q : (30 : Int) < dp := of_decide_eq_true q
    have hnil : is = [] := by
      cases is with
      | nil => rfl
      | cons x xs => 
        exfalso
        rw [deps] at hd
        have : 1 ≤ dep x := by cases x <;> simp [dep]
        omega
    subst hnil
    cases hi
    walk_at "go"
    refine eq_same (d := .list []) (n := 1) (.r (sto_app hl) .nil) (.r sto_last .nil) (Shp.lists (n := 0) (f := PyData.int) (xs := []) fun _ _ => .int) (by decide) ?_
    walk_at "go"
    exact rest _ ⟨_, rfl⟩
  · walk_at "go"
    exact rest _ ⟨[], by simp⟩
end
end K70

set_option Elab.async false
set_option linter.all false
set_option maxRecDepth 100000
set_option maxHeartbeats 1000000
namespace K70
open PySem L2 PL NE
open ND (cutL_map cutL_len cutL_mem bz_ints LwN isNm alpha alpha_eq alpha_at getA ixD_zA ixD_bA app_list one_len getI getI_at getI_mem)
local macro_rules | `(tactic| walk_at "st1") => `(tactic| first | assumption | exact sto_last | exact sto_r0 | exact sto_r1 | exact sto_r2 | exact sto_r3 | exact sto_r4)
local macro_rules | `(tactic| walk_at "sto") => `(tactic| first | walk_at "st1" | exact sto_app (by walk_at "st1") | exact sto_app (sto_app (by walk_at "st1")))
local macro_rules | `(tactic| walk_at "sz") => `(tactic| ((try simp only [List.length_map, List.length_range, List.length_append, List.length_cons, List.length_nil]); omega))
local macro_rules | `(tactic| walk_at "go") => `(tactic| ((try (conv => whnf)); repeat ((first | (show pIf _ _ _; first | refine pIf.tt rfl ?_ | refine pIf.ff rfl ?_) | (show pReq _ _; first | refine pReq.mk rfl ?_ | refine pReq.mk (sz_le rfl) ?_ | refine pReq.mk (sz_lt rfl) ?_ | refine pReq.mk (by decide) ?_ | refine pReq.mk (Or.inr (by decide)) ?_ | refine pReq.mk (Or.inl (by decide)) ?_ | refine pReq.mk (by assumption) ?_ | refine pReq.mk (isTy_l (by walk_at "sto")) ?_ | refine pReq.mk (by omega) ?_ | refine pReq.mk (sz_lt6 (by walk_at "sz")) ?_ | refine pReq.mk (sz_le6 (by walk_at "sz")) ?_ | refine pReq.mk (by walk_at "sz") ?_) | (show pGet _ _; first | refine pGet.mk rfl ?_ | refine pGet.mk (by walk_at "sto") ?_ | refine pGet.mk (lenD_at (by walk_at "sto")) ?_ | refine pGet.mk (sqD_at (by walk_at "sto")) ?_ | refine pGet.mk (lsD_at (by walk_at "sto")) ?_ | refine pGet.mk (lsR_at (by walk_at "sto")) ?_ | refine pGet.mk (srcD_at (by walk_at "sto")) ?_ | refine pGet.mk (tyD_l (by walk_at "sto")) ?_)); (try (conv => whnf)))))
open IT
open NE (XScope XStep XTell XThing XQuest XNet ScIn ScsIn scD plcs zS zL zT zQ eS eL eT eQ noSc)
section
variable {cl : Str → Addr}
def net0 : XNet := ⟨[([], [])], [], []⟩
def netBy (is : List Itm) : XNet := (lays is 0 0 net0).1
structure NetOk (n : XNet) : Prop where
  w : WordsOk n
  s : smallB n = true
  m : namedB n = true
  t : thereB n = true
structure BA where
  m : Nat
  xs : List D
  is : List Itm
structure BPre (cl : Str → Addr) (a : BA) (ds : List D) (S : Sto) : Prop where
  ds : ds = [.r a.m]
  l : S[a.m]? = some (.lst a.xs)
  i : ItsIn cl S [] a.xs a.is
  d : deps a.is ≤ 31
  z : cnts a.is ≤ 200
  n : NetOk (netBy a.is)
def F_netby (cl : Str → Addr) : Spc := fsm (BPre cl) fun a d S S' => ∃ S1, Keep [] S S1 ∧ S.length ≤ S1.length ∧ d = (al (NE.rN (netBy a.is)) S1.length).1 ∧ S' = S1 ++ (al (NE.rN (netBy a.is)) S1.length).2
theorem pu_net_by : ∀ ds S K KX, F_netby cl ds S K KX → ws_net_by cl (F_counted cl 35) (F_Dinit cl) (F_newS cl) (F_part cl 35) (F_laid cl isThing) (F_laid cl isLet) (F_laid cl isElder) (F_laid cl isAll) (F_laid cl isOne) (F_laid cl isAsk) (frr F_net_of) { nx := fun _ S1 => K (.z .none) S1, rt := K, ex := fun y _ S1 => KX y S1 } (startE nm_net_by ds) S := by
  refine fsm_ok fun ⟨m, xs, is⟩ ds S ⟨he, hl, hi, hd, hz, hN⟩ K KX hk => ?_
  dsimp only at he hl hi hd hz hN hk
  subst he
  walk_at "go"
  refine fsm_call ⟨m, xs, is, 0, 0⟩ ⟨rfl, hl, hi, by dsimp only; omega, by dsimp only; omega, by dsimp only; omega⟩ fun d S0 ⟨_, T, e0⟩ => ?_
  subst e0
  walk_at "go"
  refine fsm_call (S ++ T).length ⟨rfl, sto_last⟩ fun d S1 ⟨e1, d1⟩ => ?_
  subst e1
  obtain ⟨⟨U1, D1, hu1⟩, k1, l1⟩ := ddeed_step (U := []) (U1 := [(S ++ T).length]) (S := S) (S1 := S ++ T ++ [Ob.ins (cl "Draft") []]) (fun u hu => .inr (by simp at hu; simp [hu])) (Keep.app.trans Keep.app) (by simp) d1
  obtain ⟨a1, b1, c1, hob1⟩ := D1.obj
  generalize (S ++ T).length = h at *
  walk_at "go"
  refine fsm_call ⟨h, U1, ⟨[], [], []⟩, .r S1.length, []⟩ ⟨rfl, D1.app, sqD_at sto_last, by simp, by show sz ⟨[], [], []⟩ ≤ 100000; decide⟩ fun d S2 ⟨e2, d2⟩ => ?_
  dsimp only at e2 d2
  subst e2
  obtain ⟨⟨U2, D2, hu2⟩, k2, l2⟩ := ddeed_step hu1 k1 l1 (d2.pre Keep.app (by simp))
  have e0 : newS ⟨[], [], []⟩ ([], []) = net0 := rfl
  rw [e0] at D2
  have hl2 := k2 _ _ (by simp) hl
  have hi2 := ItsIn.keep (keep_its k2 hu2) _ _ hi
  have hm2 := (keep_its k2 hu2 _ _ (by simp) hl).1
  walk_at "go"
  refine laid_loop (k := 35) (h := h) (home := 0) (here := 0) (U := U2) (n := net0) (is := is) (by decide) (by show 4 < 5; decide) rfl rfl rfl hm2 hl2 hi2 D2 (by decide) (by decide) (by show sz net0 + _ ≤ _; have : sz net0 = 1 := rfl; omega) (by omega) fun S3 x d3 => ?_
  obtain ⟨⟨U3, ⟨a3, b3, c3, ps3, D3, _⟩, hu3⟩, k3, l3⟩ := ddeed_step hu2 k2 l2 d3
  have hob3 := D3.o
  dsimp only [net_by_r1]
  walk_at "go"
  refine fsr_call (netBy is) (.cons (.r D3.sa D3.si.vws) (.cons (.r D3.sb (Vws.map _ _)) (.cons (.r D3.sc (Vws.map _ _)) .nil))) ⟨hN.w, hN.s, hN.m, hN.t⟩ ?_
  exact hk _ _ ⟨S3, k3, l3, rfl, rfl⟩
end
end K70

set_option Elab.async false
set_option linter.all false
set_option maxRecDepth 100000
set_option maxHeartbeats 1000000
namespace K70
open PySem L2 PL NE
open ND (cutL_map cutL_len cutL_mem bz_ints LwN isNm alpha alpha_eq alpha_at getA ixD_zA ixD_bA app_list one_len getI getI_at getI_mem)
local macro_rules | `(tactic| walk_at "st1") => `(tactic| first | assumption | exact sto_last | exact sto_r0 | exact sto_r1 | exact sto_r2 | exact sto_r3 | exact sto_r4)
local macro_rules | `(tactic| walk_at "sto") => `(tactic| first | walk_at "st1" | exact sto_app (by walk_at "st1") | exact sto_app (sto_app (by walk_at "st1")))
local macro_rules | `(tactic| walk_at "sz") => `(tactic| ((try simp only [List.length_map, List.length_range, List.length_append, List.length_cons, List.length_nil]); omega))
local macro_rules | `(tactic| walk_at "go") => `(tactic| ((try (conv => whnf)); repeat ((first | (show pIf _ _ _; first | refine pIf.tt rfl ?_ | refine pIf.ff rfl ?_) | (show pReq _ _; first | refine pReq.mk rfl ?_ | refine pReq.mk (sz_le rfl) ?_ | refine pReq.mk (sz_lt rfl) ?_ | refine pReq.mk (by decide) ?_ | refine pReq.mk (Or.inr (by decide)) ?_ | refine pReq.mk (Or.inl (by decide)) ?_ | refine pReq.mk (by assumption) ?_ | refine pReq.mk (isTy_l (by walk_at "sto")) ?_ | refine pReq.mk (by omega) ?_ | refine pReq.mk (sz_lt6 (by walk_at "sz")) ?_ | refine pReq.mk (sz_le6 (by walk_at "sz")) ?_ | refine pReq.mk (by walk_at "sz") ?_) | (show pGet _ _; first | refine pGet.mk rfl ?_ | refine pGet.mk (by walk_at "sto") ?_ | refine pGet.mk (lenD_at (by walk_at "sto")) ?_ | refine pGet.mk (sqD_at (by walk_at "sto")) ?_ | refine pGet.mk (lsD_at (by walk_at "sto")) ?_ | refine pGet.mk (lsR_at (by walk_at "sto")) ?_ | refine pGet.mk (srcD_at (by walk_at "sto")) ?_ | refine pGet.mk (tyD_l (by walk_at "sto")) ?_)); (try (conv => whnf)))))
open IT
open NE (XScope XStep XTell XThing XQuest XNet ScIn ScsIn scD plcs zS zL zT zQ eS eL eT eQ noSc)
section
variable {cl : Str → Addr}
structure InPre (cl : Str → Addr) (C : Str) (k : Nat) (a : Nat × List D) (ds : List D) (S : Sto) : Prop where
  ds : ds = .r a.1 :: a.2
  l : a.2.length = k
  o : S[a.1]? = some (.ins (cl C) [])
def F_make (cl : Str → Addr) (C : Str) (fs : List Str) : Spc := fsm (InPre cl C fs.length) fun a d S S' => d = .z .none ∧ S' = S.set a.1 (.ins (cl C) (fs.zip a.2))
theorem setset {S : Sto} {n : Nat} {a b : Ob} : (S.set n a).set n b = S.set n b := List.set_set ..
theorem pu_Thing_init : ∀ ds S K KX, F_make cl "Thing" ["reach", "name", "of"] ds S K KX → ws_Thing___init__ cl { nx := fun _ S1 => K (.z .none) S1, rt := K, ex := fun y _ S1 => KX y S1 } (startE nm_Thing___init__ ds) S := by
  refine fsm_ok fun ⟨h, xs⟩ ds S ⟨he, hl, ho⟩ K KX hk => ?_
  dsimp only at he hl ho hk
  subst he
  have hlt := (List.getElem?_eq_some_iff.mp ho).1
  match xs, hl with
  | [x0, x1, x2], _ =>
    walk_at "go"
    have e0 : putFD (Str.ofString "reach") x0 [] = [(("reach" : Str), x0)] := rfl
    rw [e0]
    have g1 : (S.set h (.ins (cl "Thing") [(("reach" : Str), x0)]))[h]? = some (.ins (cl "Thing") [(("reach" : Str), x0)]) := List.getElem?_set_self hlt
    walk_at "go"
    have e1 : putFD (Str.ofString "name") x1 [(("reach" : Str), x0)] = [(("reach" : Str), x0), (("name" : Str), x1)] := rfl
    rw [e1, setset]
    have g2 : (S.set h (.ins (cl "Thing") [(("reach" : Str), x0), (("name" : Str), x1)]))[h]? = some (.ins (cl "Thing") [(("reach" : Str), x0), (("name" : Str), x1)]) := List.getElem?_set_self hlt
    walk_at "go"
    have e2 : putFD (Str.ofString "of") x2 [(("reach" : Str), x0), (("name" : Str), x1)] = [(("reach" : Str), x0), (("name" : Str), x1), (("of" : Str), x2)] := rfl
    rw [e2, setset]
    exact hk _ _ ⟨rfl, rfl⟩
theorem pu_Let_init : ∀ ds S K KX, F_make cl "Let" ["name", "of"] ds S K KX → ws_Let___init__ cl { nx := fun _ S1 => K (.z .none) S1, rt := K, ex := fun y _ S1 => KX y S1 } (startE nm_Let___init__ ds) S := by
  refine fsm_ok fun ⟨h, xs⟩ ds S ⟨he, hl, ho⟩ K KX hk => ?_
  dsimp only at he hl ho hk
  subst he
  have hlt := (List.getElem?_eq_some_iff.mp ho).1
  match xs, hl with
  | [x0, x1], _ =>
    walk_at "go"
    have e0 : putFD (Str.ofString "name") x0 [] = [(("name" : Str), x0)] := rfl
    rw [e0]
    have g1 : (S.set h (.ins (cl "Let") [(("name" : Str), x0)]))[h]? = some (.ins (cl "Let") [(("name" : Str), x0)]) := List.getElem?_set_self hlt
    walk_at "go"
    have e1 : putFD (Str.ofString "of") x1 [(("name" : Str), x0)] = [(("name" : Str), x0), (("of" : Str), x1)] := rfl
    rw [e1, setset]
    exact hk _ _ ⟨rfl, rfl⟩
theorem pu_Elder_init : ∀ ds S K KX, F_make cl "Elder" ["path"] ds S K KX → ws_Elder___init__ cl { nx := fun _ S1 => K (.z .none) S1, rt := K, ex := fun y _ S1 => KX y S1 } (startE nm_Elder___init__ ds) S := by
  refine fsm_ok fun ⟨h, xs⟩ ds S ⟨he, hl, ho⟩ K KX hk => ?_
  dsimp only at he hl ho hk
  subst he
  have hlt := (List.getElem?_eq_some_iff.mp ho).1
  match xs, hl with
  | [x0], _ =>
    walk_at "go"
    have e0 : putFD (Str.ofString "path") x0 [] = [(("path" : Str), x0)] := rfl
    rw [e0]
    exact hk _ _ ⟨rfl, rfl⟩
theorem pu_All_init : ∀ ds S K KX, F_make cl "All" ["path", "on"] ds S K KX → ws_All___init__ cl { nx := fun _ S1 => K (.z .none) S1, rt := K, ex := fun y _ S1 => KX y S1 } (startE nm_All___init__ ds) S := by
  refine fsm_ok fun ⟨h, xs⟩ ds S ⟨he, hl, ho⟩ K KX hk => ?_
  dsimp only at he hl ho hk
  subst he
  have hlt := (List.getElem?_eq_some_iff.mp ho).1
  match xs, hl with
  | [x0, x1], _ =>
    walk_at "go"
    have e0 : putFD (Str.ofString "path") x0 [] = [(("path" : Str), x0)] := rfl
    rw [e0]
    have g1 : (S.set h (.ins (cl "All") [(("path" : Str), x0)]))[h]? = some (.ins (cl "All") [(("path" : Str), x0)]) := List.getElem?_set_self hlt
    walk_at "go"
    have e1 : putFD (Str.ofString "on") x1 [(("path" : Str), x0)] = [(("path" : Str), x0), (("on" : Str), x1)] := rfl
    rw [e1, setset]
    exact hk _ _ ⟨rfl, rfl⟩
theorem pu_One_init : ∀ ds S K KX, F_make cl "One" ["reach", "name", "path"] ds S K KX → ws_One___init__ cl { nx := fun _ S1 => K (.z .none) S1, rt := K, ex := fun y _ S1 => KX y S1 } (startE nm_One___init__ ds) S := by
  refine fsm_ok fun ⟨h, xs⟩ ds S ⟨he, hl, ho⟩ K KX hk => ?_
  dsimp only at he hl ho hk
  subst he
  have hlt := (List.getElem?_eq_some_iff.mp ho).1
  match xs, hl with
  | [x0, x1, x2], _ =>
    walk_at "go"
    have e0 : putFD (Str.ofString "reach") x0 [] = [(("reach" : Str), x0)] := rfl
    rw [e0]
    have g1 : (S.set h (.ins (cl "One") [(("reach" : Str), x0)]))[h]? = some (.ins (cl "One") [(("reach" : Str), x0)]) := List.getElem?_set_self hlt
    walk_at "go"
    have e1 : putFD (Str.ofString "name") x1 [(("reach" : Str), x0)] = [(("reach" : Str), x0), (("name" : Str), x1)] := rfl
    rw [e1, setset]
    have g2 : (S.set h (.ins (cl "One") [(("reach" : Str), x0), (("name" : Str), x1)]))[h]? = some (.ins (cl "One") [(("reach" : Str), x0), (("name" : Str), x1)]) := List.getElem?_set_self hlt
    walk_at "go"
    have e2 : putFD (Str.ofString "path") x2 [(("reach" : Str), x0), (("name" : Str), x1)] = [(("reach" : Str), x0), (("name" : Str), x1), (("path" : Str), x2)] := rfl
    rw [e2, setset]
    exact hk _ _ ⟨rfl, rfl⟩
theorem pu_Ask_init : ∀ ds S K KX, F_make cl "Ask" ["path"] ds S K KX → ws_Ask___init__ cl { nx := fun _ S1 => K (.z .none) S1, rt := K, ex := fun y _ S1 => KX y S1 } (startE nm_Ask___init__ ds) S := by
  refine fsm_ok fun ⟨h, xs⟩ ds S ⟨he, hl, ho⟩ K KX hk => ?_
  dsimp only at he hl ho hk
  subst he
  have hlt := (List.getElem?_eq_some_iff.mp ho).1
  match xs, hl with
  | [x0], _ =>
    walk_at "go"
    have e0 : putFD (Str.ofString "path") x0 [] = [(("path" : Str), x0)] := rfl
    rw [e0]
    exact hk _ _ ⟨rfl, rfl⟩
structure PtPre (cl : Str → Addr) (a : Nat × D × D × D × List D) (ds : List D) (S : Sto) : Prop where
  ds : ds = [.r a.1, a.2.1, a.2.2.1, a.2.2.2.1]
  o : S[a.1]? = some (.ins (cl "Part") [])
  x : ∀ fs, sqD (S.set a.1 (.ins (cl "Part") fs)) a.2.2.2.1 = some a.2.2.2.2
  z : a.2.2.2.2.length ≤ 1000
def F_makeP (cl : Str → Addr) : Spc := fsm (PtPre cl) fun a d S S' => d = .z .none ∧ S' = (S ++ [Ob.lst a.2.2.2.2]).set a.1 (.ins (cl "Part") [("reach", a.2.1), ("name", a.2.2.1), ("inner", .r S.length)])
theorem pu_Part_init : ∀ ds S K KX, F_makeP cl ds S K KX → ws_Part___init__ cl { nx := fun _ S1 => K (.z .none) S1, rt := K, ex := fun y _ S1 => KX y S1 } (startE nm_Part___init__ ds) S := by
  refine fsm_ok fun ⟨h, x0, x1, x2, xs⟩ ds S ⟨he, ho, hx, hz⟩ K KX hk => ?_
  dsimp only at he ho hx hz hk
  subst he
  have hlt := (List.getElem?_eq_some_iff.mp ho).1
  walk_at "go"
  have e0 : putFD (Str.ofString "reach") x0 [] = [(("reach" : Str), x0)] := rfl
  rw [e0]
  have g1 : (S.set h (.ins (cl "Part") [(("reach" : Str), x0)]))[h]? = some (.ins (cl "Part") [(("reach" : Str), x0)]) := List.getElem?_set_self hlt
  walk_at "go"
  have e1 : putFD (Str.ofString "name") x1 [(("reach" : Str), x0)] = [(("reach" : Str), x0), (("name" : Str), x1)] := rfl
  rw [e1, setset]
  have hx2 : sqD (S.set h (.ins (cl "Part") [(("reach" : Str), x0), (("name" : Str), x1)])) x2 = some xs := hx _
  have g2 : (S.set h (.ins (cl "Part") [(("reach" : Str), x0), (("name" : Str), x1)]) ++ [Ob.lst xs])[h]? = some (.ins (cl "Part") [(("reach" : Str), x0), (("name" : Str), x1)]) := sto_app (List.getElem?_set_self hlt)
  walk_at "go"
  have e2 : putFD (Str.ofString "inner") (D.r (S.set h (.ins (cl "Part") [(("reach" : Str), x0), (("name" : Str), x1)])).length) [(("reach" : Str), x0), (("name" : Str), x1)] = [(("reach" : Str), x0), (("name" : Str), x1), (("inner" : Str), .r S.length)] := by rw [List.length_set]; rfl
  have e3 : ∀ a b : Ob, (S.set h a ++ [Ob.lst xs]).set h b = (S ++ [Ob.lst xs]).set h b := fun a b => by
    rw [List.set_append_left _ _ (by rw [List.length_set]; exact hlt), List.set_append_left _ _ hlt, List.set_set]
  rw [e2, e3]
  exact hk _ _ ⟨rfl, rfl⟩
end
end K70

set_option Elab.async false
set_option linter.all false
set_option maxRecDepth 100000
set_option maxHeartbeats 1000000
namespace K70
open PySem L2 PL NE
open ND (cutL_map cutL_len cutL_mem bz_ints LwN isNm alpha alpha_eq alpha_at getA ixD_zA ixD_bA app_list one_len getI getI_at getI_mem)
local macro_rules | `(tactic| walk_at "st1") => `(tactic| first | assumption | exact sto_last | exact sto_r0 | exact sto_r1 | exact sto_r2 | exact sto_r3 | exact sto_r4)
local macro_rules | `(tactic| walk_at "sto") => `(tactic| first | walk_at "st1" | exact sto_app (by walk_at "st1") | exact sto_app (sto_app (by walk_at "st1")))
local macro_rules | `(tactic| walk_at "sz") => `(tactic| ((try simp only [List.length_map, List.length_range, List.length_append, List.length_cons, List.length_nil]); omega))
local macro_rules | `(tactic| walk_at "go") => `(tactic| ((try (conv => whnf)); repeat ((first | (show pIf _ _ _; first | refine pIf.tt rfl ?_ | refine pIf.ff rfl ?_) | (show pReq _ _; first | refine pReq.mk rfl ?_ | refine pReq.mk (sz_le rfl) ?_ | refine pReq.mk (sz_lt rfl) ?_ | refine pReq.mk (by decide) ?_ | refine pReq.mk (Or.inr (by decide)) ?_ | refine pReq.mk (Or.inl (by decide)) ?_ | refine pReq.mk (by assumption) ?_ | refine pReq.mk (isTy_l (by walk_at "sto")) ?_ | refine pReq.mk (by omega) ?_ | refine pReq.mk (sz_lt6 (by walk_at "sz")) ?_ | refine pReq.mk (sz_le6 (by walk_at "sz")) ?_ | refine pReq.mk (by walk_at "sz") ?_) | (show pGet _ _; first | refine pGet.mk rfl ?_ | refine pGet.mk (by walk_at "sto") ?_ | refine pGet.mk (lenD_at (by walk_at "sto")) ?_ | refine pGet.mk (sqD_at (by walk_at "sto")) ?_ | refine pGet.mk (lsD_at (by walk_at "sto")) ?_ | refine pGet.mk (lsR_at (by walk_at "sto")) ?_ | refine pGet.mk (srcD_at (by walk_at "sto")) ?_ | refine pGet.mk (tyD_l (by walk_at "sto")) ?_)); (try (conv => whnf)))))
open OR (eP nextsL Reach DInv DIn meas BInv BIn measB lastOf Wy Chn OIn Ord SLt)
def cellAt (ns : List Int) (k : Int) : Int := ns.getD k.toNat 0
def F_cell : Fsp := fsp (fun a : List Int × Int => [.list (a.1.map .int), .int a.2]) (fun a => 0 ≤ a.2) fun a => .int (cellAt a.1 a.2)
theorem pu_cell : ∀ ds S K KX, lent F_cell ds S K KX → ws__law_cell_at { nx := fun _ S1 => K (.z .none) S1, rt := K, ex := fun y _ S1 => KX y S1 } (startE nm__law_cell_at ds) S := by
  refine fsp_ok fun a h0 K KX hk => ?_
  walk_at "go"
  rw [List.length_map]
  refine pIf.mk (fun c => ?_) (fun c => ?_)
  · have h1 : a.2 < a.1.length := of_decide_eq_true c
    walk_at "go"
    refine pGet.mk (ixD_bL (atD_in h0 h1)) ?_
    walk_at "go"
    refine hk _ _ ?_
    have e : cellAt a.1 a.2 = a.1[a.2.toNat]'(by omega) := by
      unfold cellAt
      rw [List.getD_eq_getElem?_getD, List.getElem?_eq_getElem (by omega)]; rfl
    rw [e]; exact .z
  · have h1 : ¬ a.2 < a.1.length := of_decide_eq_false c
    walk_at "go"
    refine hk _ _ ?_
    have e : cellAt a.1 a.2 = 0 := by
      unfold cellAt
      rw [List.getD_eq_getElem?_getD, List.getElem?_eq_none (by omega)]; rfl
    rw [e]; exact .z
def chrS (c : Nat) : Str := ⟨⟨[c]⟩⟩
def alphaAt (i : Int) : Nat := alpha.getD (i.fmod 26).toNat 97
theorem alphaAt_at (i : Int) : atD (Str.ofString "abcdefghijklmnopqrstuvwxyz").cps.toList (i.fmod 26) = some (alphaAt i) := by
  rw [alpha_eq]
  have hb := fmod_b (a := i) (b := 26) (by decide)
  unfold alphaAt
  obtain ⟨m, hm⟩ : ∃ m : Nat, i.fmod 26 = (m : Int) := ⟨(i.fmod 26).toNat, by omega⟩
  rw [hm] at hb ⊢
  have hm : m < 26 := by omega
  have key : ∀ m : Fin 26, alpha[m.val]? = some (alpha.getD m.val 97) := by decide
  exact key ⟨m, hm⟩
theorem tl_joined (cs : List Nat) : (Txt.join "" (cs.map chrS)).cps.toList = cs := by
  have h := TL.tl_join "" (cs.map chrS)
  rw [← TL.join_eq] at h
  have key : ∀ cs : List Nat, TL.joinL (TL.tl "") ((cs.map chrS).map TL.tl) = cs := by
    intro cs
    induction cs with
    | nil => rfl
    | cons c cs ih =>
      cases cs with
      | nil => rfl
      | cons d cs =>
        show [c] ++ ([] ++ TL.joinL (TL.tl "") (((d :: cs).map chrS).map TL.tl)) = _
        rw [ih]; rfl
  rw [key] at h
  exact h
theorem sum_chr : ∀ cs : List Nat, ((cs.map chrS).map (·.length)).sum = cs.length
  | [] => rfl
  | c :: cs => by
    rw [List.map_cons, List.map_cons, List.sum_cons, sum_chr cs]
    show 1 + cs.length = cs.length + 1
    omega
theorem alphaAt_eq (i : Int) : alphaAt i = 97 + (i.fmod 26).toNat := by
  have hb := fmod_b (a := i) (b := 26) (by decide)
  unfold alphaAt
  have key : ∀ m : Fin 26, alpha.getD m.val 97 = 97 + m.val := by decide
  exact key ⟨(i.fmod 26).toNat, by omega⟩
abbrev zC (c : Nat) : D := .z (.str (chrS c))
theorem alpha_in (i : Int) : alphaAt i ∈ alpha := by
  have hb := fmod_b (a := i) (b := 26) (by decide)
  rw [alphaAt_eq]
  have key : ∀ m : Fin 26, 97 + m.val ∈ alpha := by decide
  exact key ⟨(i.fmod 26).toNat, by omega⟩
theorem name_join {cs : List Nat} (h1 : 1 ≤ cs.length) (h8 : cs.length ≤ 8) (ha : ∀ c ∈ cs, c ∈ alpha) : isNameB (Txt.join "" (cs.map chrS)) = true := by
  have hl : (Txt.join "" (cs.map chrS)).length = cs.length := by
    have := congrArg List.length (tl_joined cs)
    rw [Array.length_toList] at this
    exact this
  unfold isNameB
  rw [hl, tl_joined, decide_eq_true h1, decide_eq_true h8]
  simp only [Bool.true_and, List.all_eq_true, decide_eq_true_eq]
  exact ha
theorem joins {cs : List Nat} {S : Sto} {K : K1} (hl : cs.length ≤ 1000) (h : K (.z (.str (Txt.join "" (cs.map chrS)))) S) : ∃ ys : List Str, cs.map zC = ys.map (fun s => .z (.str s)) ∧ pReq ((ys.map (fun x => x.length)).sum + ys.length * (Str.ofString "").length ≤ 16777216) (K (.z (.str (Txt.join (Str.ofString "") ys))) S) :=
  ⟨cs.map chrS, by rw [List.map_map]; rfl, pReq.mk (by rw [sum_chr, List.length_map]; show cs.length + cs.length * 0 ≤ _; omega) h⟩
end K70

set_option Elab.async false
set_option linter.all false
set_option maxRecDepth 100000
set_option maxHeartbeats 1000000
namespace K70
open PySem L2 PL NE
open ND (cutL_map cutL_len cutL_mem bz_ints LwN isNm alpha alpha_eq alpha_at getA ixD_zA ixD_bA app_list one_len getI getI_at getI_mem)
local macro_rules | `(tactic| walk_at "st1") => `(tactic| first | assumption | exact sto_last | exact sto_r0 | exact sto_r1 | exact sto_r2 | exact sto_r3 | exact sto_r4)
local macro_rules | `(tactic| walk_at "sto") => `(tactic| first | walk_at "st1" | exact sto_app (by walk_at "st1") | exact sto_app (sto_app (by walk_at "st1")))
local macro_rules | `(tactic| walk_at "sz") => `(tactic| ((try simp only [List.length_map, List.length_range, List.length_append, List.length_cons, List.length_nil]); omega))
local macro_rules | `(tactic| walk_at "go") => `(tactic| ((try (conv => whnf)); repeat ((first | (show pIf _ _ _; first | refine pIf.tt rfl ?_ | refine pIf.ff rfl ?_) | (show pReq _ _; first | refine pReq.mk rfl ?_ | refine pReq.mk (sz_le rfl) ?_ | refine pReq.mk (sz_lt rfl) ?_ | refine pReq.mk (by decide) ?_ | refine pReq.mk (Or.inr (by decide)) ?_ | refine pReq.mk (Or.inl (by decide)) ?_ | refine pReq.mk (by assumption) ?_ | refine pReq.mk (isTy_l (by walk_at "sto")) ?_ | refine pReq.mk (by omega) ?_ | refine pReq.mk (sz_lt6 (by walk_at "sz")) ?_ | refine pReq.mk (sz_le6 (by walk_at "sz")) ?_ | refine pReq.mk (by walk_at "sz") ?_) | (show pGet _ _; first | refine pGet.mk rfl ?_ | refine pGet.mk (by walk_at "sto") ?_ | refine pGet.mk (lenD_at (by walk_at "sto")) ?_ | refine pGet.mk (sqD_at (by walk_at "sto")) ?_ | refine pGet.mk (lsD_at (by walk_at "sto")) ?_ | refine pGet.mk (lsR_at (by walk_at "sto")) ?_ | refine pGet.mk (srcD_at (by walk_at "sto")) ?_ | refine pGet.mk (tyD_l (by walk_at "sto")) ?_)); (try (conv => whnf)))))
open OR (eP nextsL Reach DInv DIn meas BInv BIn measB lastOf Wy Chn OIn Ord SLt)
theorem pLc_ex {α : Type} {items : List D} {src : Src} {tg : D → PL.Env → Option PL.Env} {we : WE} {env : PL.Env} {fin : Sto → Prop} {S : Sto} (P : Nat → α → Prop) (g : α → D) (hz : items.length ≤ 1000) (hsrc : ∀ S2, Keep [] S S2 → src.ok S2)
    (he : ∀ i d, items[i]? = some d → ∃ env2, tg d env = some env2 ∧ ∀ (S1 : Sto) (K : K1), (∃ acc, S1 = S ++ [.lst acc]) → (∀ x, P i x → K (g x) S1) → we env2 S1 K X0)
    (hf : ∀ xs : List α, xs.length = items.length → (∀ i x, xs[i]? = some x → P i x) → fin (S ++ [.lst (xs.map g)])) : pLc src tg wYes we S.length env fin items (S ++ [.lst []]) := by
  refine pLc_each (fun j S' => ∃ xs : List α, xs.length = j ∧ (∀ i x, xs[i]? = some x → P i x) ∧ S' = S ++ [.lst (xs.map g)]) ⟨[], rfl, fun i x h => by simp at h, rfl⟩ (fun _ S2 _ ⟨_, _, _, e⟩ => hsrc S2 (by rw [e]; exact Keep.app)) ?_ ?_
  · rintro j d _ Q hj ⟨xs, hx1, hx2, rfl⟩ hQ
    have hlt := (List.getElem?_eq_some_iff.mp hj).1
    obtain ⟨env2, h1, h2⟩ := he j d hj
    refine pGet.mk h1 (pIf.tt rfl (h2 _ _ ⟨_, rfl⟩ fun x hx => ?_))
    refine pGet.mk (lsR_at sto_last) (pReq.mk (by rw [List.length_map]; exact sz_lt6 (by omega)) ?_)
    refine hQ _ ⟨xs ++ [x], by rw [List.length_append, hx1]; rfl, fun i y hy => ?_, ?_⟩
    · by_cases hi : i < j
      · rw [List.getElem?_append_left (by omega)] at hy
        exact hx2 i y hy
      · have hl := (List.getElem?_eq_some_iff.mp hy).1
        rw [List.length_append] at hl
        have hl : i < xs.length + 1 := hl
        have e : i = j := by omega
        subst e
        rw [List.getElem?_append_right (by omega), hx1, Nat.sub_self] at hy
        cases hy
        exact hx
    · rw [List.map_append]; simp
  · rintro _ ⟨xs, hx1, hx2, rfl⟩
    exact hf xs hx1 hx2
open IT
open NE (XScope XStep XTell XThing XQuest XNet ScIn ScsIn scD plcs zS zL zT zQ eS eL eT eQ noSc)
def F_lname : Fsp := fsq (fun c : Int => [.int c]) (fun _ => True) (fun _ (w : Str) => isNameB w = true) fun w => .str w
theorem pu_lname : ∀ ds S K KX, lent F_lname ds S K KX → ws__law_name { nx := fun _ S1 => K (.z .none) S1, rt := K, ex := fun y _ S1 => KX y S1 } (startE nm__law_name ds) S := by
  refine fsq_ok fun c _ K KX hk => ?_
  have hb := fmod_b (a := c) (b := 10 ^ 9) (by decide)
  walk_at "go"
  generalize (c.fmod (10 ^ Int.toNat 9) * 48271).fmod 2147483647 = q
  have h8 := fmod_b (a := q.fdiv 1000) (b := 8) (by decide)
  obtain ⟨m, hm⟩ : ∃ m : Nat, 1 + (q.fdiv 1000).fmod 8 = (m : Int) := ⟨(1 + (q.fdiv 1000).fmod 8).toNat, by omega⟩
  rw [hm]
  have em : ((m : Nat) : Int).toNat = m := by omega
  refine pReq.mk (by omega) ?_
  rw [em]
  refine pLc_rg (fun (j : Nat) => zC (alphaAt (q.fdiv (7 * (0 + (j : Int)) + 3)))) (by omega) (fun j hj => ⟨_, rfl, fun S1 K _ h => ?_⟩) ?_
  · have cm : CMul (7 : Int) (0 + (j : Int)) := .inl (by omega)
    dsimp only [_law_name_e1]
    walk_at "go"
    refine pGet.mk (alphaAt_at _) ?_
    walk_at "go"
    exact h
  have eb : ((List.range m).map fun (j : Nat) => zC (alphaAt (q.fdiv (7 * (0 + (j : Int)) + 3)))) = ((List.range m).map fun (j : Nat) => alphaAt (q.fdiv (7 * (0 + (j : Int)) + 3))).map zC := by rw [List.map_map]; rfl
  rw [eb]
  have hl : ((List.range m).map fun (j : Nat) => alphaAt (q.fdiv (7 * (0 + (j : Int)) + 3))).length = m := by simp
  have hal : ∀ c ∈ ((List.range m).map fun (j : Nat) => alphaAt (q.fdiv (7 * (0 + (j : Int)) + 3))), c ∈ alpha := fun c hc => by
    obtain ⟨j, _, rfl⟩ := List.mem_map.mp hc
    exact alpha_in _
  generalize ((List.range m).map fun (j : Nat) => alphaAt (q.fdiv (7 * (0 + (j : Int)) + 3))) = cs at hl hal ⊢
  walk_at "go"
  refine joins (by omega) ?_
  exact hk _ _ (Txt.join "" (cs.map chrS)) .z (name_join (by omega) (by omega) hal)
def F_lpath : Fsp := fsq (fun a : List Int × Nat => [.list (a.1.map .int), .int a.2]) (fun _ => True) (fun _ (p : List Str) => 1 ≤ p.length ∧ p.length ≤ 6 ∧ ∀ w ∈ p, isNameB w = true) fun p => pathD p
theorem pu_lpath : ∀ ds S K KX, lent F_lpath ds S K KX → ws__law_path (frz F_cell) (frz F_lname) { nx := fun _ S1 => K (.z .none) S1, rt := K, ex := fun y _ S1 => KX y S1 } (startE nm__law_path ds) S := by
  refine fsq_ok fun ⟨ns, st⟩ _ K KX hk => ?_
  walk_at "go"
  refine fsp_call (ns, (st : Int)) (.cons .b (.cons .z .nil)) (show (0 : Int) ≤ st by omega) ?_
  dsimp only
  generalize cellAt ns (st : Int) = c
  have h6 := fmod_b (a := c) (b := 6) (by decide)
  obtain ⟨m, hm⟩ : ∃ m : Nat, 1 + c.fmod 6 = (m : Int) := ⟨(1 + c.fmod 6).toNat, by omega⟩
  walk_at "go"
  rw [hm]
  have em : ((m : Nat) : Int).toNat = m := by omega
  rw [em]
  refine pLc_ex (α := Str) (fun _ w => isNameB w = true) (fun w => D.z (.str w)) (by simp [rgD]; omega) (fun _ _ => trivial) (fun i d hd => ?_) fun ws hwl hws => ?_
  · have hi : i < m := by
      have := (List.getElem?_eq_some_iff.mp hd).1
      simpa [rgD] using this
    have ed : d = .z (.int (0 + (i : Int))) := by
      have e : (rgD 0 m).items = (List.range m).map fun (i : Nat) => D.z (.int (0 + (i : Int))) := rfl
      rw [e, List.getElem?_map, List.getElem?_range hi] at hd
      exact (Option.some.inj hd).symm
    subst ed
    refine ⟨_, rfl, fun S1 K _ h => ?_⟩
    dsimp only [_law_path_e1]
    walk_at "go"
    refine fsp_call (ns, (st : Int) + 1 + (0 + (i : Int))) (.cons .b (.cons .z .nil)) (show (0 : Int) ≤ _ by omega) ?_
    dsimp only
    walk_at "go"
    refine fsq_call (cellAt ns ((st : Int) + 1 + (0 + (i : Int)))) (.cons .z .nil) trivial fun w hw => ?_
    exact h w hw
  · have hwl : ws.length = m := by rw [hwl]; simp [rgD]
    walk_at "go"
    rw [mkT_map]
    refine hk _ _ ws .z ⟨by omega, by omega, fun w hw => ?_⟩
    obtain ⟨i, hi⟩ := List.getElem?_of_mem hw
    exact hws i w hi
def F_whole : Fsp := fsp (fun i : Int => [.int i]) (fun _ => True) fun _ => .bool true
theorem pu_whole : ∀ ds S K KX, lent F_whole ds S K KX → ws__law_whole { nx := fun _ S1 => K (.z .none) S1, rt := K, ex := fun y _ S1 => KX y S1 } (startE nm__law_whole ds) S := by
  refine fsp_ok fun i _ K KX hk => ?_
  walk_at "go"
  exact hk _ _ .z
def F_nkinds : Fsp := fsp (fun n : XNet => [NE.eN n]) (fun n => sz n ≤ 50000) fun _ => .bool true
theorem pu_nkinds : ∀ ds S K KX, lent F_nkinds ds S K KX → ws__law_kinds (frz F_whole) { nx := fun _ S1 => K (.z .none) S1, rt := K, ex := fun y _ S1 => KX y S1 } (startE nm__law_kinds ds) S := by
  refine fsp_ok fun n hz K KX hk => ?_
  simp only [List.map_cons, List.map_nil, NE.bzN]
  generalize hr5 : _law_kinds_r5 (frz F_whole) = r5
  walk_at "go"
  have hbt : ∀ ts : List PyData, bz (.tuple ts) = .z (.tuple ts) ∨ bz (.tuple ts) = .b (.tuple ts) := fun ts => by
    unfold bz
    split
    · exact .inl rfl
    · exact .inr rfl
  refine pFor_xs [n.scopes.map NE.eSc, n.things.map eT, n.quests.map eQ] (fun l => .b (.list l)) (by simp [bz_list]) (fun _ env S => ∃ v1 v2, env = [some (.b (NE.eN n)), v1, v2, none, none]) ⟨_, _, rfl⟩ (fun _ _ _ _ _ => trivial) ?_ ?_
  · rintro i l _ S Q hi ⟨v1, v2, rfl⟩ hQ
    have ht : ∀ x ∈ l, ∃ ts, x = PyData.tuple ts := by
      have := List.mem_of_getElem? hi
      simp only [List.mem_cons, List.not_mem_nil, or_false] at this
      rcases this with rfl | rfl | rfl
      · intro x hx; obtain ⟨s, _, rfl⟩ := List.mem_map.mp hx; exact ⟨_, rfl⟩
      · intro x hx; obtain ⟨s, _, rfl⟩ := List.mem_map.mp hx; exact ⟨_, rfl⟩
      · intro x hx; obtain ⟨s, _, rfl⟩ := List.mem_map.mp hx; exact ⟨_, rfl⟩
    dsimp only [_law_kinds_b2]
    walk_at "go"
    refine pFor_xs l bz rfl (fun _ env S => ∃ v2, env = [some (.b (NE.eN n)), some (.b (.list l)), v2, none, none]) ⟨_, rfl⟩ (fun _ _ _ _ _ => trivial) ?_ ?_
    · rintro j x _ S1 Q2 hj ⟨v2, rfl⟩ hQ2
      obtain ⟨ts, rfl⟩ := ht x (List.mem_of_getElem? hj)
      dsimp only [_law_kinds_b1]
      rcases hbt ts with e | e
      · rw [e]
        walk_at "go"
        exact hQ2 _ _ ⟨_, rfl⟩
      · rw [e]
        walk_at "go"
        exact hQ2 _ _ ⟨_, rfl⟩
    · rintro _ S1 ⟨v2, rfl⟩
      walk_at "go"
      exact hQ _ _ ⟨_, _, rfl⟩
  · rintro _ S ⟨v1, v2, rfl⟩
    dsimp only [_law_kinds_r4]
    walk_at "go"
    refine pFor_xs n.scopes (fun s => .b (NE.eSc s)) (by show (n.scopes.map NE.eSc).map bz = _; rw [List.map_map]; exact List.map_congr_left fun s _ => NE.bzSc s) (fun _ env S => ∃ v1 v2 v3 v4, env = [some (.b (NE.eN n)), v1, v2, v3, v4]) ⟨_, _, _, _, rfl⟩ (fun _ _ _ _ _ => trivial) ?_ ?_
    · rintro i s _ S Q hi ⟨v1, v2, v3, v4, rfl⟩ hQ
      have hss := scope_sz hi
      dsimp only [_law_kinds_b4]
      walk_at "go"
      rw [show bz (PyData.list (s.1.map eS)) = .b (.list (s.1.map eS)) from bz_list, show bz (PyData.list (s.2.map eL)) = .b (.list (s.2.map eL)) from bz_list]
      refine pFor_xs (s.1.map Sum.inl ++ s.2.map Sum.inr) (fun x : XStep ⊕ XTell => match x with | .inl a => zS a | .inr a => zL a) (by rw [NE.bzsS, NE.bzsL, List.map_append, List.map_map, List.map_map]; rfl) (fun _ env S' => (∃ v1 v2 v3 v4, env = [some (.b (NE.eN n)), v1, v2, v3, v4]) ∧ S' = S ++ [Ob.lst ((s.1.map eS).map bz ++ (s.2.map eL).map bz)]) ⟨⟨_, _, _, _, rfl⟩, rfl⟩ (fun _ _ _ _ h => by rw [h.2]; exact sto_last) ?_ ?_
      · rintro j x _ _ Q2 hj ⟨⟨v1, v2, v3, v4, rfl⟩, rfl⟩ hQ2
        dsimp only [_law_kinds_b3]
        cases x with
        | inl a =>
          dsimp only
          walk_at "go"
          refine fsp_call a.num (.cons .z .nil) trivial ?_
          walk_at "go"
          exact hQ2 _ _ ⟨⟨_, _, _, _, rfl⟩, rfl⟩
        | inr a =>
          dsimp only
          walk_at "go"
          refine fsp_call a.num (.cons .z .nil) trivial ?_
          walk_at "go"
          exact hQ2 _ _ ⟨⟨_, _, _, _, rfl⟩, rfl⟩
      · rintro _ _ ⟨⟨v1, v2, v3, v4, rfl⟩, rfl⟩
        exact hQ _ _ ⟨_, _, _, _, rfl⟩
    · rintro _ S ⟨v1, v2, v3, v4, rfl⟩
      dsimp only [_law_kinds_r3]
      walk_at "go"
      refine pFor_xs n.things zT (by show (n.things.map eT).map bz = _; rw [NE.bzsT]) (fun _ env S => ∃ v1 v2 v3 v4, env = [some (.b (NE.eN n)), v1, v2, v3, v4]) ⟨_, _, _, _, rfl⟩ (fun _ _ _ _ _ => trivial) ?_ ?_
      · rintro i s _ S Q hi ⟨v1, v2, v3, v4, rfl⟩ hQ
        dsimp only [_law_kinds_b5]
        walk_at "go"
        refine fsp_call s.num (.cons .z .nil) trivial ?_
        walk_at "go"
        exact hQ _ _ ⟨_, _, _, _, rfl⟩
      · rintro _ S ⟨v1, v2, v3, v4, rfl⟩
        dsimp only [_law_kinds_r2]
        walk_at "go"
        refine pFor_xs n.quests zQ (by show (n.quests.map eQ).map bz = _; rw [NE.bzsQ]) (fun _ env S => ∃ v1 v2 v3 v4, env = [some (.b (NE.eN n)), v1, v2, v3, v4]) ⟨_, _, _, _, rfl⟩ (fun _ _ _ _ _ => trivial) ?_ ?_
        · rintro i s _ S Q hi ⟨v1, v2, v3, v4, rfl⟩ hQ
          dsimp only [_law_kinds_b6]
          walk_at "go"
          refine fsp_call s.scope (.cons .z .nil) trivial ?_
          walk_at "go"
          refine fsp_call s.state (.cons .z .nil) trivial ?_
          walk_at "go"
          exact hQ _ _ ⟨_, _, _, _, rfl⟩
        · rintro _ S ⟨v1, v2, v3, v4, rfl⟩
          dsimp only [_law_kinds_r1]
          walk_at "go"
          exact hk _ _ .z
def itK (k : Nat) (r m : Str) (p : List Str) : Itm := match k with
  | 0 => .part r m []
  | 1 => .thing r m none
  | 2 => .thing r m (some p)
  | 3 => .lt m none
  | 4 => .lt m (some p)
  | 5 => .elder p
  | 6 => .all p false
  | 7 => .one r m p
  | _ => .ask p
def F_due : Fsp := fsp (fun a : Nat × Str × Str × List Str => [.int a.1, .str a.2.1, .str a.2.2.1, pathD a.2.2.2]) (fun a => a.1 ≤ 9) fun a => NE.eN (netBy [itK a.1 a.2.1 a.2.2.1 a.2.2.2])
theorem pu_due : ∀ ds S K KX, lent F_due ds S K KX → ws__law_due { nx := fun _ S1 => K (.z .none) S1, rt := K, ex := fun y _ S1 => KX y S1 } (startE nm__law_due ds) S := by
  refine fsp_ok fun ⟨k, r, m, p⟩ hk9 K KX hk => ?_
  dsimp only at hk9 hk
  have ep : bz (pathD p) = .z (pathD p) := bz_flat (by show flatTs (p.map .str) = true; exact NE.flat_strs p)
  simp only [List.map_cons, List.map_nil, ep]
  match k, hk9 with
  | 0, _ =>
    walk_at "go"
    exact hk _ _ (by repeat' (first | exact Vz.z | exact Vzs.nil | refine Vzs.cons ?_ ?_ | refine Vz.t ?_ | refine Vz.r rfl ?_))
  | 1, _ =>
    walk_at "go"
    exact hk _ _ (by repeat' (first | exact Vz.z | exact Vzs.nil | refine Vzs.cons ?_ ?_ | refine Vz.t ?_ | refine Vz.r rfl ?_))
  | 2, _ =>
    walk_at "go"
    exact hk _ _ (by repeat' (first | exact Vz.z | exact Vzs.nil | refine Vzs.cons ?_ ?_ | refine Vz.t ?_ | refine Vz.r rfl ?_))
  | 3, _ =>
    walk_at "go"
    exact hk _ _ (by repeat' (first | exact Vz.z | exact Vzs.nil | refine Vzs.cons ?_ ?_ | refine Vz.t ?_ | refine Vz.r rfl ?_))
  | 4, _ =>
    walk_at "go"
    exact hk _ _ (by repeat' (first | exact Vz.z | exact Vzs.nil | refine Vzs.cons ?_ ?_ | refine Vz.t ?_ | refine Vz.r rfl ?_))
  | 5, _ =>
    walk_at "go"
    exact hk _ _ (by repeat' (first | exact Vz.z | exact Vzs.nil | refine Vzs.cons ?_ ?_ | refine Vz.t ?_ | refine Vz.r rfl ?_))
  | 6, _ =>
    walk_at "go"
    exact hk _ _ (by repeat' (first | exact Vz.z | exact Vzs.nil | refine Vzs.cons ?_ ?_ | refine Vz.t ?_ | refine Vz.r rfl ?_))
  | 7, _ =>
    walk_at "go"
    exact hk _ _ (by repeat' (first | exact Vz.z | exact Vzs.nil | refine Vzs.cons ?_ ?_ | refine Vz.t ?_ | refine Vz.r rfl ?_))
  | 8, _ =>
    walk_at "go"
    exact hk _ _ (by repeat' (first | exact Vz.z | exact Vzs.nil | refine Vzs.cons ?_ ?_ | refine Vz.t ?_ | refine Vz.r rfl ?_))
  | 9, _ =>
    walk_at "go"
    exact hk _ _ (by repeat' (first | exact Vz.z | exact Vzs.nil | refine Vzs.cons ?_ ?_ | refine Vz.t ?_ | refine Vz.r rfl ?_))
end K70

set_option Elab.async false
set_option linter.all false
set_option maxRecDepth 100000
set_option maxHeartbeats 1000000
namespace K70
open PySem L2 PL NE
open ND (cutL_map cutL_len cutL_mem bz_ints LwN isNm alpha alpha_eq alpha_at getA ixD_zA ixD_bA app_list one_len getI getI_at getI_mem)
local macro_rules | `(tactic| walk_at "st1") => `(tactic| first | assumption | exact sto_last | exact sto_r0 | exact sto_r1 | exact sto_r2 | exact sto_r3 | exact sto_r4)
local macro_rules | `(tactic| walk_at "sto") => `(tactic| first | walk_at "st1" | exact sto_app (by walk_at "st1") | exact sto_app (sto_app (by walk_at "st1")))
local macro_rules | `(tactic| walk_at "sz") => `(tactic| ((try simp only [List.length_map, List.length_range, List.length_append, List.length_cons, List.length_nil]); omega))
local macro_rules | `(tactic| walk_at "go") => `(tactic| ((try (conv => whnf)); repeat ((first | (show pIf _ _ _; first | refine pIf.tt rfl ?_ | refine pIf.ff rfl ?_) | (show pReq _ _; first | refine pReq.mk rfl ?_ | refine pReq.mk (sz_le rfl) ?_ | refine pReq.mk (sz_lt rfl) ?_ | refine pReq.mk (by decide) ?_ | refine pReq.mk (Or.inr (by decide)) ?_ | refine pReq.mk (Or.inl (by decide)) ?_ | refine pReq.mk (by assumption) ?_ | refine pReq.mk (isTy_l (by walk_at "sto")) ?_ | refine pReq.mk (by omega) ?_ | refine pReq.mk (sz_lt6 (by walk_at "sz")) ?_ | refine pReq.mk (sz_le6 (by walk_at "sz")) ?_ | refine pReq.mk (by walk_at "sz") ?_) | (show pGet _ _; first | refine pGet.mk rfl ?_ | refine pGet.mk (by walk_at "sto") ?_ | refine pGet.mk (lenD_at (by walk_at "sto")) ?_ | refine pGet.mk (sqD_at (by walk_at "sto")) ?_ | refine pGet.mk (lsD_at (by walk_at "sto")) ?_ | refine pGet.mk (lsR_at (by walk_at "sto")) ?_ | refine pGet.mk (srcD_at (by walk_at "sto")) ?_ | refine pGet.mk (tyD_l (by walk_at "sto")) ?_)); (try (conv => whnf)))))
open OR (eP nextsL Reach DInv DIn meas BInv BIn measB lastOf Wy Chn OIn Ord SLt)
open IT
open NE (XScope XStep XTell XThing XQuest XNet ScIn ScsIn scD plcs zS zL zT zQ eS eL eT eQ noSc)
section
variable {cl : Str → Addr}
structure LiPre (a : Nat × Str × Str × List Str) (ds : List D) : Prop where
  ds : ds = [.z (.int a.1), .z (.str a.2.1), .z (.str a.2.2.1), .z (pathD a.2.2.2)]
  k : a.1 ≤ 8
def F_litem (cl : Str → Addr) : Spc := fsm (fun a ds _ => LiPre a ds) fun a d S S' => ∃ o T, d = .r o ∧ S' = S ++ T ∧ ItIn cl S' [] o (itK a.1 a.2.1 a.2.2.1 a.2.2.2)
theorem at_last {S : Sto} {o : Ob} {q : Nat} (h : q = S.length) : (S ++ [o])[q]? = some o := by subst h; exact sto_last
theorem set_last {S : Sto} {a b : Ob} : (S ++ [a]).set S.length b = S ++ [b] := by simp
theorem pu_litem : ∀ ds S K KX, F_litem cl ds S K KX → ws__law_item cl (F_makeP cl) (F_make cl "Thing" ["reach", "name", "of"]) (F_make cl "Thing" ["reach", "name", "of"]) (F_make cl "Let" ["name", "of"]) (F_make cl "Let" ["name", "of"]) (F_make cl "Elder" ["path"]) (F_make cl "All" ["path", "on"]) (F_make cl "One" ["reach", "name", "path"]) (F_make cl "Ask" ["path"]) { nx := fun _ S1 => K (.z .none) S1, rt := K, ex := fun y _ S1 => KX y S1 } (startE nm__law_item ds) S := by
  refine fsm_ok fun ⟨k, r, m, p⟩ ds S ⟨he, h8⟩ K KX hk => ?_
  dsimp only at he h8 hk
  subst he
  match k, h8 with
  | 0, _ =>
    walk_at "go"
    refine fsm_call ((S ++ [Ob.lst []]).length, .z (.str r), .z (.str m), .r S.length, []) ⟨rfl, sto_last, fun fs => sqD_at (by rw [set_last]; exact sto_app sto_last), by simp⟩ fun d S' ⟨e1, e2⟩ => ?_
    subst e1 e2
    dsimp only
    have e3 : (S ++ [Ob.lst []] ++ [Ob.ins (cl "Part") []] ++ [Ob.lst []]).set (S ++ [Ob.lst []]).length (.ins (cl "Part") [("reach", .z (.str r)), ("name", .z (.str m)), ("inner", .r (S ++ [Ob.lst []] ++ [Ob.ins (cl "Part") []]).length)]) = S ++ [Ob.lst []] ++ [Ob.ins (cl "Part") [("reach", .z (.str r)), ("name", .z (.str m)), ("inner", .r (S ++ [Ob.lst []] ++ [Ob.ins (cl "Part") []]).length)]] ++ [Ob.lst []] := by
      rw [List.set_append_left _ _ (by simp), set_last]
    rw [e3]
    refine pReq.mk rfl ?_
    refine hk _ _ ⟨_, [Ob.lst []] ++ [Ob.ins (cl "Part") [("reach", .z (.str r)), ("name", .z (.str m)), ("inner", .r (S ++ [Ob.lst []] ++ [Ob.ins (cl "Part") []]).length)]] ++ [Ob.lst []], rfl, by simp, .part (by simp) (by simp) (sto_app sto_last) (m := (S ++ [Ob.lst []] ++ [Ob.ins (cl "Part") []]).length) ?_ .nil⟩
    exact at_last (by simp)
  | 1, _ =>
    walk_at "go"
    refine fsm_call (S.length, [.z (.str r), .z (.str m), .z .none]) ⟨rfl, rfl, sto_last⟩ fun d S' ⟨e1, e2⟩ => ?_
    subst e1 e2
    dsimp only
    rw [set_last]
    refine pReq.mk rfl ?_
    exact hk _ _ ⟨_, _, rfl, rfl, .thing (by simp) sto_last⟩
  | 2, _ =>
    walk_at "go"
    refine fsm_call (S.length, [.z (.str r), .z (.str m), .z (pathD p)]) ⟨rfl, rfl, sto_last⟩ fun d S' ⟨e1, e2⟩ => ?_
    subst e1 e2
    dsimp only
    rw [set_last]
    refine pReq.mk rfl ?_
    exact hk _ _ ⟨_, _, rfl, rfl, .thing (by simp) sto_last⟩
  | 3, _ =>
    walk_at "go"
    refine fsm_call (S.length, [.z (.str m), .z .none]) ⟨rfl, rfl, sto_last⟩ fun d S' ⟨e1, e2⟩ => ?_
    subst e1 e2
    dsimp only
    rw [set_last]
    refine pReq.mk rfl ?_
    exact hk _ _ ⟨_, _, rfl, rfl, .lt (by simp) sto_last⟩
  | 4, _ =>
    walk_at "go"
    refine fsm_call (S.length, [.z (.str m), .z (pathD p)]) ⟨rfl, rfl, sto_last⟩ fun d S' ⟨e1, e2⟩ => ?_
    subst e1 e2
    dsimp only
    rw [set_last]
    refine pReq.mk rfl ?_
    exact hk _ _ ⟨_, _, rfl, rfl, .lt (by simp) sto_last⟩
  | 5, _ =>
    walk_at "go"
    refine fsm_call (S.length, [.z (pathD p)]) ⟨rfl, rfl, sto_last⟩ fun d S' ⟨e1, e2⟩ => ?_
    subst e1 e2
    dsimp only
    rw [set_last]
    refine pReq.mk rfl ?_
    exact hk _ _ ⟨_, _, rfl, rfl, .elder (by simp) sto_last⟩
  | 6, _ =>
    walk_at "go"
    refine fsm_call (S.length, [.z (pathD p), .z (.bool false)]) ⟨rfl, rfl, sto_last⟩ fun d S' ⟨e1, e2⟩ => ?_
    subst e1 e2
    dsimp only
    rw [set_last]
    refine pReq.mk rfl ?_
    exact hk _ _ ⟨_, _, rfl, rfl, .all (by simp) sto_last⟩
  | 7, _ =>
    walk_at "go"
    refine fsm_call (S.length, [.z (.str r), .z (.str m), .z (pathD p)]) ⟨rfl, rfl, sto_last⟩ fun d S' ⟨e1, e2⟩ => ?_
    subst e1 e2
    dsimp only
    rw [set_last]
    refine pReq.mk rfl ?_
    exact hk _ _ ⟨_, _, rfl, rfl, .one (by simp) sto_last⟩
  | 8, _ =>
    walk_at "go"
    refine fsm_call (S.length, [.z (pathD p)]) ⟨rfl, rfl, sto_last⟩ fun d S' ⟨e1, e2⟩ => ?_
    subst e1 e2
    dsimp only
    rw [set_last]
    refine pReq.mk rfl ?_
    exact hk _ _ ⟨_, _, rfl, rfl, .ask (by simp) sto_last⟩
end
end K70

set_option Elab.async false
set_option linter.all false
set_option maxRecDepth 100000
set_option maxHeartbeats 1000000
namespace K70
open PySem L2 PL NE
open ND (cutL_map cutL_len cutL_mem bz_ints LwN isNm alpha alpha_eq alpha_at getA ixD_zA ixD_bA app_list one_len getI getI_at getI_mem)
local macro_rules | `(tactic| walk_at "st1") => `(tactic| first | assumption | exact sto_last | exact sto_r0 | exact sto_r1 | exact sto_r2 | exact sto_r3 | exact sto_r4)
local macro_rules | `(tactic| walk_at "sto") => `(tactic| first | walk_at "st1" | exact sto_app (by walk_at "st1") | exact sto_app (sto_app (by walk_at "st1")))
local macro_rules | `(tactic| walk_at "sz") => `(tactic| ((try simp only [List.length_map, List.length_range, List.length_append, List.length_cons, List.length_nil]); omega))
local macro_rules | `(tactic| walk_at "go") => `(tactic| ((try (conv => whnf)); repeat ((first | (show pIf _ _ _; first | refine pIf.tt rfl ?_ | refine pIf.ff rfl ?_) | (show pReq _ _; first | refine pReq.mk rfl ?_ | refine pReq.mk (sz_le rfl) ?_ | refine pReq.mk (sz_lt rfl) ?_ | refine pReq.mk (by decide) ?_ | refine pReq.mk (Or.inr (by decide)) ?_ | refine pReq.mk (Or.inl (by decide)) ?_ | refine pReq.mk (by assumption) ?_ | refine pReq.mk (isTy_l (by walk_at "sto")) ?_ | refine pReq.mk (by omega) ?_ | refine pReq.mk (sz_lt6 (by walk_at "sz")) ?_ | refine pReq.mk (sz_le6 (by walk_at "sz")) ?_ | refine pReq.mk (by walk_at "sz") ?_) | (show pGet _ _; first | refine pGet.mk rfl ?_ | refine pGet.mk (by walk_at "sto") ?_ | refine pGet.mk (lenD_at (by walk_at "sto")) ?_ | refine pGet.mk (sqD_at (by walk_at "sto")) ?_ | refine pGet.mk (lsD_at (by walk_at "sto")) ?_ | refine pGet.mk (lsR_at (by walk_at "sto")) ?_ | refine pGet.mk (srcD_at (by walk_at "sto")) ?_ | refine pGet.mk (tyD_l (by walk_at "sto")) ?_)); (try (conv => whnf)))))
open OR (eP nextsL Reach DInv DIn meas BInv BIn measB lastOf Wy Chn OIn Ord SLt)
theorem kset {V : List Nat} {S S2 : Sto} {n : Nat} {o : Ob} (k : Keep V S S2) (h : S.length ≤ n) : Keep V S (S2.set n o) := fun a b h0 e => by
  have := (List.getElem?_eq_some_iff.mp e).1
  rw [List.getElem?_set_ne (by omega)]
  exact k a b h0 e
open IT
open NE (XScope XStep XTell XThing XQuest XNet ScIn ScsIn scD plcs zS zL zT zQ eS eL eT eQ noSc)
section
variable {cl : Str → Addr}
theorem netby_call {m : Nat} {xs : List D} {is : List Itm} {S : Sto} {K : K1} {KX : KF} (hp : BPre cl ⟨m, xs, is⟩ [.r m] S) (h : ∀ S' a b c ps, NE.NetAt S' a b c ps (netBy is) → Keep [] S S' → (∀ k ∈ NE.nPl a b c ps, S.length ≤ k) → S.length ≤ S'.length → K (.t [.r a, .r b, .r c]) S') : pCall (F_netby cl) [.r m] S K KX := by
  refine fsm_call ⟨m, xs, is⟩ hp fun d S' ⟨S1, k1, l1, e1, e2⟩ => ?_
  dsimp only at e1 e2
  have hA := NE.al_at S1 (netBy is)
  have hpl : ∀ k ∈ NE.nPl (S1.length + 2 * (netBy is).scopes.length) (S1.length + 2 * (netBy is).scopes.length + 1) (S1.length + 2 * (netBy is).scopes.length + 2) (NE.emp S1.length (netBy is).scopes.length), S.length ≤ k := by
    intro k hk
    have := (NE.emp_plcs S1.length (netBy is).scopes.length).1
    unfold NE.nPl at hk
    simp only [List.mem_cons] at hk
    rcases hk with rfl | rfl | rfl | hk
    · omega
    · omega
    · omega
    · have := this k hk; omega
  rw [e1, e2]
  have e3 : (al (NE.rN (netBy is)) S1.length).1 = .t [.r (S1.length + 2 * (netBy is).scopes.length), .r (S1.length + 2 * (netBy is).scopes.length + 1), .r (S1.length + 2 * (netBy is).scopes.length + 2)] := by rw [NE.al_net]
  rw [e3]
  exact h _ _ _ _ _ hA (k1.trans Keep.app) hpl (by rw [List.length_append]; omega)
theorem ok_nil : NetOk (netBy []) := by
  have e : netBy [] = net0 := by unfold netBy; rw [lays]
  rw [e]
  refine ⟨⟨fun s hs => ?_, fun q hq => (by cases hq)⟩, rfl, rfl, rfl⟩
  have hs : s ∈ [(([] : List XStep), ([] : List XTell))] := hs
  rw [List.mem_singleton.mp hs]
  exact ⟨fun x hx => (by cases hx), fun x hx => (by cases hx)⟩
theorem strs_nil : NE.strOks (netBy []) := by
  have e : netBy [] = net0 := by unfold netBy; rw [lays]
  rw [e]
  refine ⟨fun s hs => ?_, fun t ht => (by cases ht), fun q hq => (by cases hq)⟩
  have hs : s ∈ [(([] : List XStep), ([] : List XTell))] := hs
  rw [List.mem_singleton.mp hs]
  exact ⟨fun x hx => (by cases hx), fun x hx => (by cases hx)⟩
structure Due (i : Itm) : Prop where
  n : NetOk (netBy [i])
  s : NE.strOks (netBy [i])
  d : dep i ≤ 31
  c : cnt i ≤ 200
  z : sz (netBy [i]) ≤ 50000
  o : ∃ s, (netBy [i]).scopes[0]? = some s
theorem lawtail2 {S0 S : Sto} {i : Itm} {o a b c n6 : Nat} {ps : List (Nat × Nat)} {d5 : D} {v0 v1 v2 v3 v4 : Option D} {k : KS} (hD : Due i) (hA : NE.NetAt S a b c ps (netBy [i])) (hpl : ∀ k ∈ NE.nPl a b c ps, n6 < k) (h6 : S0.length ≤ n6) (hp : S[n6]? = some (.lst [.r o])) (kp : Keep [] S0 S) (hi : ItIn cl S0 [] o i) (hv : Vu S0 [] d5 (NE.eN (netBy [i]))) (hk : ∀ S', k.rt (.z (.bool true)) S') : law_r1 (F_netby cl) (frz F_nkinds) k [v0, v1, v2, v3, v4, some d5, some (.r n6), some (.t [.r a, .r b, .r c]), none, some (.r o)] S := by
  obtain ⟨s0, hs0⟩ := hD.o
  have hsh := NE.shN hD.s
  have hde : deps [i] ≤ 31 := by rw [deps, deps]; have := hD.d; omega
  have hcn : cnts [i] ≤ 200 := by rw [cnts, cnts]; have := hD.c; omega
  have hsz := hD.z
  have hss := scope_sz hs0
  have hth : (netBy [i]).things.length ≤ 50000 := by unfold sz at hsz; omega
  have hp0 : ps[0]? = some (ps[0]'(by have := hA.i.len; have := (List.getElem?_eq_some_iff.mp hs0).1; omega)) := List.getElem?_eq_getElem _
  generalize ps[0]'_ = p0 at hp0
  obtain ⟨s1, hs1, hsc⟩ := hA.i.get hp0
  rw [hs0] at hs1
  cases hs1
  have hpd := scD_at hp0
  have hnd := hA.nd
  unfold NE.nPl at hpl
  have hm := NE.mem_plcs (List.mem_of_getElem? hp0)
  have hne : a ≠ b ∧ a ≠ c ∧ b ≠ c ∧ a ∉ plcs ps ∧ b ∉ plcs ps ∧ c ∉ plcs ps := by
    unfold NE.nPl at hnd
    simp only [List.nodup_cons, List.mem_cons, not_or] at hnd
    exact ⟨hnd.1.1, hnd.1.2.1, hnd.2.1.1, hnd.1.2.2, hnd.2.1.2, hnd.2.2.1⟩
  obtain ⟨n1, n2, n3, n4, n5, n7⟩ := hne
  have q1 : n6 < p0.1 := hpl _ (by simp [hm.1])
  have q2 : n6 < p0.2 := hpl _ (by simp [hm.2])
  have qa : n6 < a := hpl _ (by simp)
  have qb : n6 < b := hpl _ (by simp)
  have qc : n6 < c := hpl _ (by simp)
  have a1 : a ≠ p0.1 := fun z => n4 (by rw [z]; exact hm.1)
  have a2 : a ≠ p0.2 := fun z => n4 (by rw [z]; exact hm.2)
  have b1 : b ≠ p0.1 := fun z => n5 (by rw [z]; exact hm.1)
  have b2 : b ≠ p0.2 := fun z => n5 (by rw [z]; exact hm.2)
  have c1 : c ≠ p0.1 := fun z => n7 (by rw [z]; exact hm.1)
  have c2 : c ≠ p0.2 := fun z => n7 (by rw [z]; exact hm.2)
  have p12 : p0.1 ≠ p0.2 := by
    have hpn : (plcs ps).Nodup := by
      unfold NE.nPl at hnd
      exact (List.nodup_cons.mp (List.nodup_cons.mp (List.nodup_cons.mp hnd).2).2).2
    cases ps with
    | nil => simp at hp0
    | cons x xs =>
      cases hp0
      have e : plcs (p0 :: xs) = p0.1 :: p0.2 :: plcs xs := rfl
      rw [e] at hpn
      intro z
      rw [z] at hpn
      simp at hpn
  have ga := hA.l
  have gb := hA.t
  have gc := hA.q
  have g1 := hsc.a
  have g2 := hsc.b
  have hz1 : (s0.1.map zS).length < sizeLine := by rw [List.length_map]; exact sizeM (by omega)
  have hz2 : ((netBy [i]).things.map zT).length < sizeLine := by rw [List.length_map]; exact sizeM (by omega)
  clear hA hsc
  unfold law_r1
  walk_at "go"
  generalize hS1 : S.set p0.1 _ = S1
  have ga1 : S1[a]? = some (Ob.lst (ps.map scD)) := by rw [← hS1, List.getElem?_set_ne (Ne.symm a1)]; exact ga
  have gb1 : S1[b]? = some (Ob.lst ((netBy [i]).things.map zT)) := by rw [← hS1, List.getElem?_set_ne (Ne.symm b1)]; exact gb
  have gc1 : S1[c]? = some (Ob.lst ((netBy [i]).quests.map zQ)) := by rw [← hS1, List.getElem?_set_ne (Ne.symm c1)]; exact gc
  have g21 : S1[p0.2]? = some (Ob.lst (s0.2.map zL)) := by rw [← hS1, List.getElem?_set_ne p12]; exact g2
  have hp1 : S1[n6]? = some (Ob.lst [.r o]) := by rw [← hS1, List.getElem?_set_ne (by omega)]; exact hp
  have kp1 : Keep [] S0 S1 := by rw [← hS1]; exact kset kp (by omega)
  walk_at "go"
  generalize hS2 : S1.set p0.2 _ = S2
  have gb2 : S2[b]? = some (Ob.lst ((netBy [i]).things.map zT)) := by rw [← hS2, List.getElem?_set_ne (Ne.symm b2)]; exact gb1
  have gc2 : S2[c]? = some (Ob.lst ((netBy [i]).quests.map zQ)) := by rw [← hS2, List.getElem?_set_ne (Ne.symm c2)]; exact gc1
  have hp2 : S2[n6]? = some (Ob.lst [.r o]) := by rw [← hS2, List.getElem?_set_ne (by omega)]; exact hp1
  have kp2 : Keep [] S0 S2 := by rw [← hS2]; exact kset kp1 (by omega)
  walk_at "go"
  generalize hS3 : S2.set b _ = S3
  have gc3 : S3[c]? = some (Ob.lst ((netBy [i]).quests.map zQ)) := by rw [← hS3, List.getElem?_set_ne n3]; exact gc2
  have hp3 : S3[n6]? = some (Ob.lst [.r o]) := by rw [← hS3, List.getElem?_set_ne (by omega)]; exact hp2
  have kp3 : Keep [] S0 S3 := by rw [← hS3]; exact kset kp2 (by omega)
  walk_at "go"
  generalize hS4 : S3.set c _ = S4
  have hp4 : S4[n6]? = some (Ob.lst [.r o]) := by rw [← hS4, List.getElem?_set_ne (by omega)]; exact hp3
  have kp4 : Keep [] S0 S4 := by rw [← hS4]; exact kset kp3 (by omega)
  clear hS1 hS2 hS3 hS4 ga1 gb1 gc1 g21 gb2 gc2 gc3 hp1 hp2 hp3 kp1 kp2 kp3
  have hi4 := ItIn.keep (keep_its kp4 (U1 := []) (fun u hu => by simp at hu)) _ _ hi
  refine netby_call (xs := [.r o]) (is := [i]) ⟨rfl, hp4, .cons hi4 .nil, hde, hcn, hD.n⟩ fun S5 e f g qs hA5 kp5 hpl5 hln5 => ?_
  have hl4 := (List.getElem?_eq_some_iff.mp hp4).1
  have kq5 := kp4.trans kp5
  have hp5 := kp5 _ _ (by simp) hp4
  walk_at "go"
  generalize hS6 : S5.set n6 _ = S6
  have kq6 : Keep [] S0 S6 := by rw [← hS6]; exact kset kq5 h6
  have hA6 : NE.NetAt S6 e f g qs (netBy [i]) := hA5.keep (U := [n6]) (by rw [← hS6]; exact .set (by simp)) fun m hm z => by
    rw [List.mem_singleton.mp hm] at z
    have := hpl5 _ z
    omega
  have hv6 := Vu.keep kq6 _ _ hv
  have hvw : Vw S6 (.t [.r e, .r f, .r g]) (NE.eN (netBy [i])) := .t (NE.args3 hA6)
  clear hS6
  refine fsp_call (netBy [i]) (.cons hvw .nil) hD.z ?_
  walk_at "go"
  refine eq_same hvw (Vu.vw _ _ hv6) hsh (by decide) ?_
  walk_at "go"
  refine netby_call (xs := []) (is := []) ⟨rfl, sto_last, .nil, by show deps [] ≤ 31; rw [deps]; omega, by show cnts [] ≤ 200; rw [cnts]; omega, ok_nil⟩ fun S7 e7 f7 g7 q7 hA7 kp7 hpl7 hln7 => ?_
  walk_at "go"
  have hvw7 : Vw S7 (.t [.r e7, .r f7, .r g7]) (NE.eN (netBy [])) := .t (NE.args3 hA7)
  have e0 : NE.eN (netBy []) = .tuple [.list [.tuple [.list [], .list []]], .list [], .list []] := by
    have e : netBy [] = net0 := by unfold netBy; rw [lays]
    rw [e]; rfl
  rw [e0] at hvw7
  refine eq_same (n := 5) (hvw7.app.app.app.app.app) (?_ : Vw _ _ (.tuple [.list [.tuple [.list [], .list []]], .list [], .list []])) ?_ (by decide) ?_
  · repeat' (first | exact Vws.nil | refine Vws.cons ?_ ?_ | refine Vw.t ?_ | refine Vw.r (by repeat (first | exact sto_last | apply sto_app)) ?_)
  · rw [← e0]; exact NE.shN strs_nil
  · walk_at "go"
    exact hk _
theorem lawtail {S : Sto} {i : Itm} {o : Nat} {d5 : D} {v0 v1 v2 v3 v4 : Option D} {k : KS} (hD : Due i) (hi : ItIn cl S [] o i) (hv : Vu S [] d5 (NE.eN (netBy [i]))) (hk : ∀ S', k.rt (.z (.bool true)) S') : law_r2 (F_netby cl) (frz F_nkinds) k [v0, v1, v2, v3, v4, some d5, none, none, none, some (.r o)] S := by
  have hsh := NE.shN hD.s
  unfold law_r2
  generalize hr1 : law_r1 (F_netby cl) (frz F_nkinds) = r1
  have hn0 : netBy [i] = netBy ([i] : List Itm) := rfl
  have hde : deps [i] ≤ 31 := by rw [deps, deps]; have := hD.d; omega
  have hcn : cnts [i] ≤ 200 := by rw [cnts, cnts]; have := hD.c; omega
  walk_at "go"
  have hi1 := ItIn.keep (S' := S ++ [Ob.lst [.r o]]) (U' := []) (fun n o _ e => ⟨by simp, sto_app e⟩) _ _ hi
  refine netby_call (xs := [.r o]) (is := [i]) ⟨rfl, sto_last, .cons hi1 .nil, hde, hcn, hD.n⟩ fun S2 a b c ps hA kp hpl hln => ?_
  have hv2 := Vu.keep (Keep.app.trans kp) _ _ hv
  have hi2 := ItIn.keep (keep_its kp (U1 := []) (fun u hu => by simp at hu)) _ _ hi1
  have hp2 : S2[S.length]? = some (.lst [.r o]) := kp _ _ (by simp) sto_last
  have hvw : Vw S2 (.t [.r a, .r b, .r c]) (NE.eN (netBy [i])) := .t (NE.args3 hA)
  walk_at "go"
  refine fsp_call (netBy [i]) (.cons hvw .nil) hD.z ?_
  walk_at "go"
  refine eq_same hvw (Vu.vw _ _ hv2) hsh (by decide) ?_
  walk_at "go"
  rw [← hr1]
  exact lawtail2 hD (i := i) hA (fun k hk => by have := hpl k hk; rw [List.length_append] at this; exact this) (Nat.le_refl _) hp2 (Keep.app.trans kp) hi hv hk
end
end K70

set_option Elab.async false
set_option linter.all false
set_option maxRecDepth 100000
set_option maxHeartbeats 1000000
namespace K70
open PySem L2 PL NE
open ND (cutL_map cutL_len cutL_mem bz_ints LwN isNm alpha alpha_eq alpha_at getA ixD_zA ixD_bA app_list one_len getI getI_at getI_mem)
local macro_rules | `(tactic| walk_at "st1") => `(tactic| first | assumption | exact sto_last | exact sto_r0 | exact sto_r1 | exact sto_r2 | exact sto_r3 | exact sto_r4)
local macro_rules | `(tactic| walk_at "sto") => `(tactic| first | walk_at "st1" | exact sto_app (by walk_at "st1") | exact sto_app (sto_app (by walk_at "st1")))
local macro_rules | `(tactic| walk_at "sz") => `(tactic| ((try simp only [List.length_map, List.length_range, List.length_append, List.length_cons, List.length_nil]); omega))
local macro_rules | `(tactic| walk_at "go") => `(tactic| ((try (conv => whnf)); repeat ((first | (show pIf _ _ _; first | refine pIf.tt rfl ?_ | refine pIf.ff rfl ?_) | (show pReq _ _; first | refine pReq.mk rfl ?_ | refine pReq.mk (sz_le rfl) ?_ | refine pReq.mk (sz_lt rfl) ?_ | refine pReq.mk (by decide) ?_ | refine pReq.mk (Or.inr (by decide)) ?_ | refine pReq.mk (Or.inl (by decide)) ?_ | refine pReq.mk (by assumption) ?_ | refine pReq.mk (isTy_l (by walk_at "sto")) ?_ | refine pReq.mk (by omega) ?_ | refine pReq.mk (sz_lt6 (by walk_at "sz")) ?_ | refine pReq.mk (sz_le6 (by walk_at "sz")) ?_ | refine pReq.mk (by walk_at "sz") ?_) | (show pGet _ _; first | refine pGet.mk rfl ?_ | refine pGet.mk (by walk_at "sto") ?_ | refine pGet.mk (lenD_at (by walk_at "sto")) ?_ | refine pGet.mk (sqD_at (by walk_at "sto")) ?_ | refine pGet.mk (lsD_at (by walk_at "sto")) ?_ | refine pGet.mk (lsR_at (by walk_at "sto")) ?_ | refine pGet.mk (srcD_at (by walk_at "sto")) ?_ | refine pGet.mk (tyD_l (by walk_at "sto")) ?_)); (try (conv => whnf)))))
open OR (eP nextsL Reach DInv DIn meas BInv BIn measB lastOf Wy Chn OIn Ord SLt)
open IT
open NE (XScope XStep XTell XThing XQuest XNet ScIn ScsIn scD plcs zS zL zT zQ eS eL eT eQ noSc)
section
variable {cl : Str → Addr}
theorem kind_ok : PyData.strOk (Str.ofString "to") = true ∧ PyData.strOk (Str.ofString "by") = true ∧ PyData.strOk (Str.ofString "thing") = true ∧ PyData.strOk (Str.ofString "plain") = true ∧ PyData.strOk (Str.ofString "part") = true ∧ PyData.strOk (Str.ofString "sort") = true := by decide +kernel
theorem is_ok {x : Str} (h : isNameB x = true) : PyData.strOk x = true ∧ x.length ≤ 8 := by
  unfold isNameB at h
  simp only [Bool.and_eq_true, decide_eq_true_eq, List.all_eq_true] at h
  refine ⟨?_, h.2.1⟩
  unfold PyData.strOk
  rw [Array.all_eq_true']
  intro c hc
  have h2 := h.2.2 c (Array.mem_toList_iff.mpr hc)
  have h3 : ∀ c ∈ alpha, c < 200 := by decide
  have := h3 c h2
  simp; omega
theorem words_of {n : XNet} (h : namedB n = true) : WordsOk n := by
  unfold namedB at h
  simp only [Bool.and_eq_true, List.all_eq_true] at h
  refine ⟨fun s hs => ⟨fun x hx => ?_, fun x hx => ?_⟩, fun q hq x hx => ?_⟩
  · have := (is_ok ((h.1 s hs).1 x hx)).2; omega
  · have h1 := (h.1 s hs).2 x hx
    have := (is_ok h1.1).2
    have := (is_ok h1.2).2
    omega
  · have := (is_ok ((h.2 q hq).2 x hx)).2; omega
theorem stepB_kind {a b : Nat} {x : XStep} (h : stepB a b x = true) : PyData.strOk x.kind = true := by
  unfold stepB at h
  split at h
  · rename_i e; rw [e]; exact kind_ok.1
  · simp only [Bool.and_eq_true, decide_eq_true_eq] at h
    rw [h.1]; exact kind_ok.2.1
theorem tellB_kind {a b : Nat} {x : XTell} (h : tellB a b x = true) : PyData.strOk x.kind = true := by
  unfold tellB at h
  split at h
  · rename_i e; rw [e]; exact kind_ok.2.2.1
  · simp only [Bool.and_eq_true, decide_eq_true_eq] at h
    rw [h.1]; exact kind_ok.2.1
theorem thingB_kind {a b : Nat} {x : XThing} (h : thingB a b x = true) : PyData.strOk x.kind = true := by
  unfold thingB at h
  split at h
  · rename_i e; rw [e]; exact kind_ok.2.2.2.1
  · split at h
    · rename_i e; rw [e]; exact kind_ok.2.2.2.2.1
    · simp only [Bool.and_eq_true, decide_eq_true_eq] at h
      rw [h.1]; exact kind_ok.2.2.2.2.2
theorem strs_of {n : XNet} (h : namedB n = true) (ht : thereB n = true) : NE.strOks n := by
  unfold namedB at h
  unfold thereB at ht
  simp only [Bool.and_eq_true, List.all_eq_true] at h ht
  refine ⟨fun s hs => ⟨fun x hx => ⟨(is_ok ((h.1 s hs).1 x hx)).1, stepB_kind ((ht.1 s hs).1 x hx)⟩, fun x hx => ⟨(is_ok ((h.1 s hs).2 x hx).1).1, (is_ok ((h.1 s hs).2 x hx).2).1, tellB_kind ((ht.1 s hs).2 x hx)⟩⟩, fun t hm => thingB_kind (ht.2.1 t hm), fun q hq x hx => (is_ok ((h.2 q hq).2 x hx)).1⟩
theorem due_of {i : Itm} {N : XNet} (e : netBy [i] = N) (hs : smallB N = true) (hn : namedB N = true) (ht : thereB N = true) (hd : dep i ≤ 31) (hc : cnt i ≤ 200) (hz : sz N ≤ 50000) (ho : ∃ s, N.scopes[0]? = some s) : Due i := by
  subst e
  exact ⟨⟨words_of hn, hs, hn, ht⟩, strs_of hn ht, hd, hc, hz, ho⟩
theorem namesOk : isNameB (Str.ofString "up") = true ∧ isNameB (Str.ofString "let") = true ∧ isNameB (Str.ofString "elder") = true ∧ isNameB (Str.ofString "all") = true ∧ isNameB (Str.ofString "allon") = true ∧ isNameB (Str.ofString "open") = true ∧ isNameB (Str.ofString "own") = true := by decide +kernel
theorem differ : ¬ Str.ofString "part" = Str.ofString "plain" ∧ ¬ Str.ofString "by" = Str.ofString "thing" := by decide +kernel
theorem due_k {k : Nat} {r m : Str} {p : List Str} (hr : isNameB r = true) (hm : isNameB m = true) (h1 : 1 ≤ p.length) (h6 : p.length ≤ 6) (hp : ∀ w ∈ p, isNameB w = true) (hk : k ≤ 8) : Due (itK k r m p) := by
  obtain ⟨u1, u2, u3, u4, u5, u6, u7⟩ := namesOk
  have hpa : (p.all isNameB) = true := List.all_eq_true.mpr hp
  have hpe : p.isEmpty = false := by cases p with
    | nil => simp at h1
    | cons _ _ => rfl
  match k, hk with
  | 0, _ =>
    refine due_of (N := ⟨[([], [⟨r, m, Str.ofString "thing", 0⟩]), ([upS 0], [])], [⟨Str.ofString "part", 1⟩], []⟩) rfl ?_ ?_ ?_ ?_ ?_ ?_ ⟨_, rfl⟩
    · simp [smallB, h6]
    · simp [namedB, upS, allW, u1, u2, u3, u4, u5, hr, hm, hpe, hpa]
    · simp [thereB, stepB, tellB, thingB, questB, inR, upS, differ.1, differ.2]
    · simp [itK, dep, deps]
    · simp [itK, cnt, cnts]
    · simp [sz]
  | 1, _ =>
    refine due_of (N := ⟨[([], [⟨r, m, Str.ofString "thing", 0⟩])], [⟨Str.ofString "plain", 0⟩], []⟩) rfl ?_ ?_ ?_ ?_ ?_ ?_ ⟨_, rfl⟩
    · simp [smallB, h6]
    · simp [namedB, upS, allW, u1, u2, u3, u4, u5, hr, hm, hpe, hpa]
    · simp [thereB, stepB, tellB, thingB, questB, inR, upS, differ.1, differ.2]
    · simp [itK, dep, deps]
    · simp [itK, cnt, cnts]
    · simp [sz]
  | 2, _ =>
    refine due_of (N := ⟨[([], [⟨r, m, Str.ofString "thing", 0⟩])], [⟨Str.ofString "sort", 0⟩], [⟨0, 0, p⟩]⟩) rfl ?_ ?_ ?_ ?_ ?_ ?_ ⟨_, rfl⟩
    · simp [smallB, h6]
    · simp [namedB, upS, allW, u1, u2, u3, u4, u5, hr, hm, hpe, hpa]
    · simp [thereB, stepB, tellB, thingB, questB, inR, upS, differ.1, differ.2]
    · simp [itK, dep, deps]
    · simp [itK, cnt, cnts]
    · simp [sz]
  | 3, _ =>
    refine due_of (N := ⟨[([], []), ([upS 0], [⟨Str.ofString "let", m, Str.ofString "thing", 0⟩])], [⟨Str.ofString "plain", 0⟩], []⟩) rfl ?_ ?_ ?_ ?_ ?_ ?_ ⟨_, rfl⟩
    · simp [smallB, h6]
    · simp [namedB, upS, allW, u1, u2, u3, u4, u5, hr, hm, hpe, hpa]
    · simp [thereB, stepB, tellB, thingB, questB, inR, upS, differ.1, differ.2]
    · simp [itK, dep, deps]
    · simp [itK, cnt, cnts]
    · simp [sz]
  | 4, _ =>
    refine due_of (N := ⟨[([], []), ([upS 0], [⟨Str.ofString "let", m, Str.ofString "thing", 0⟩])], [⟨Str.ofString "sort", 0⟩], [⟨0, 0, p⟩]⟩) rfl ?_ ?_ ?_ ?_ ?_ ?_ ⟨_, rfl⟩
    · simp [smallB, h6]
    · simp [namedB, upS, allW, u1, u2, u3, u4, u5, hr, hm, hpe, hpa]
    · simp [thereB, stepB, tellB, thingB, questB, inR, upS, differ.1, differ.2]
    · simp [itK, dep, deps]
    · simp [itK, cnt, cnts]
    · simp [sz]
  | 5, _ =>
    refine due_of (N := ⟨[([⟨Str.ofString "elder", Str.ofString "by", 0⟩], [])], [], [⟨0, 2, p⟩]⟩) rfl ?_ ?_ ?_ ?_ ?_ ?_ ⟨_, rfl⟩
    · simp [smallB, h6]
    · simp [namedB, upS, allW, u1, u2, u3, u4, u5, hr, hm, hpe, hpa]
    · simp [thereB, stepB, tellB, thingB, questB, inR, upS, differ.1, differ.2]
    · simp [itK, dep, deps]
    · simp [itK, cnt, cnts]
    · simp [sz]
  | 6, _ =>
    refine due_of (N := ⟨[([⟨Str.ofString "all", Str.ofString "by", 0⟩], [])], [], [⟨0, 2, p⟩]⟩) rfl ?_ ?_ ?_ ?_ ?_ ?_ ⟨_, rfl⟩
    · simp [smallB, h6]
    · simp [namedB, upS, allW, u1, u2, u3, u4, u5, hr, hm, hpe, hpa]
    · simp [thereB, stepB, tellB, thingB, questB, inR, upS, differ.1, differ.2]
    · simp [itK, dep, deps]
    · simp [itK, cnt, cnts]
    · simp [sz]
  | 7, _ =>
    refine due_of (N := ⟨[([], [⟨r, m, Str.ofString "by", 0⟩])], [], [⟨0, 2, p⟩]⟩) rfl ?_ ?_ ?_ ?_ ?_ ?_ ⟨_, rfl⟩
    · simp [smallB, h6]
    · simp [namedB, upS, allW, u1, u2, u3, u4, u5, hr, hm, hpe, hpa]
    · simp [thereB, stepB, tellB, thingB, questB, inR, upS, differ.1, differ.2]
    · simp [itK, dep, deps]
    · simp [itK, cnt, cnts]
    · simp [sz]
  | 8, _ =>
    refine due_of (N := ⟨[([], [])], [], [⟨0, 0, p⟩]⟩) rfl ?_ ?_ ?_ ?_ ?_ ?_ ⟨_, rfl⟩
    · simp [smallB, h6]
    · simp [namedB, upS, allW, u1, u2, u3, u4, u5, hr, hm, hpe, hpa]
    · simp [thereB, stepB, tellB, thingB, questB, inR, upS, differ.1, differ.2]
    · simp [itK, dep, deps]
    · simp [itK, cnt, cnts]
    · simp [sz]
theorem due_9 {p : List Str} (h1 : 1 ≤ p.length) (h6 : p.length ≤ 6) (hp : ∀ w ∈ p, isNameB w = true) : Due (.all p true) := by
  obtain ⟨u1, u2, u3, u4, u5, u6, u7⟩ := namesOk
  have hpa : (p.all isNameB) = true := List.all_eq_true.mpr hp
  have hpe : p.isEmpty = false := by cases p with
    | nil => simp at h1
    | cons _ _ => rfl
  refine due_of (N := ⟨[([⟨Str.ofString "allon", Str.ofString "by", 0⟩], [])], [], [⟨0, 2, p⟩]⟩) rfl ?_ ?_ ?_ ?_ ?_ ?_ ⟨_, rfl⟩
  · simp [smallB, h6]
  · simp [namedB, upS, allW, u1, u2, u3, u4, u5, hpe, hpa]
  · simp [thereB, stepB, tellB, thingB, questB, inR, upS, differ.1, differ.2]
  · simp [dep, deps]
  · simp [cnt, cnts]
  · simp [sz]
end
end K70

set_option Elab.async false
set_option linter.all false
set_option maxRecDepth 100000
set_option maxHeartbeats 1000000
namespace K70
open PySem L2 PL NE
open ND (cutL_map cutL_len cutL_mem bz_ints LwN isNm alpha alpha_eq alpha_at getA ixD_zA ixD_bA app_list one_len getI getI_at getI_mem)
local macro_rules | `(tactic| walk_at "st1") => `(tactic| first | assumption | exact sto_last | exact sto_r0 | exact sto_r1 | exact sto_r2 | exact sto_r3 | exact sto_r4)
local macro_rules | `(tactic| walk_at "sto") => `(tactic| first | walk_at "st1" | exact sto_app (by walk_at "st1") | exact sto_app (sto_app (by walk_at "st1")))
local macro_rules | `(tactic| walk_at "sz") => `(tactic| ((try simp only [List.length_map, List.length_range, List.length_append, List.length_cons, List.length_nil]); omega))
local macro_rules | `(tactic| walk_at "go") => `(tactic| ((try (conv => whnf)); repeat ((first | (show pIf _ _ _; first | refine pIf.tt rfl ?_ | refine pIf.ff rfl ?_) | (show pReq _ _; first | refine pReq.mk rfl ?_ | refine pReq.mk (sz_le rfl) ?_ | refine pReq.mk (sz_lt rfl) ?_ | refine pReq.mk (by decide) ?_ | refine pReq.mk (Or.inr (by decide)) ?_ | refine pReq.mk (Or.inl (by decide)) ?_ | refine pReq.mk (by assumption) ?_ | refine pReq.mk (isTy_l (by walk_at "sto")) ?_ | refine pReq.mk (by omega) ?_ | refine pReq.mk (sz_lt6 (by walk_at "sz")) ?_ | refine pReq.mk (sz_le6 (by walk_at "sz")) ?_ | refine pReq.mk (by walk_at "sz") ?_) | (show pGet _ _; first | refine pGet.mk rfl ?_ | refine pGet.mk (by walk_at "sto") ?_ | refine pGet.mk (lenD_at (by walk_at "sto")) ?_ | refine pGet.mk (sqD_at (by walk_at "sto")) ?_ | refine pGet.mk (lsD_at (by walk_at "sto")) ?_ | refine pGet.mk (lsR_at (by walk_at "sto")) ?_ | refine pGet.mk (srcD_at (by walk_at "sto")) ?_ | refine pGet.mk (tyD_l (by walk_at "sto")) ?_)); (try (conv => whnf)))))
open OR (eP nextsL Reach DInv DIn meas BInv BIn measB lastOf Wy Chn OIn Ord SLt)
open IT
open NE (XScope XStep XTell XThing XQuest XNet ScIn ScsIn scD plcs zS zL zT zQ eS eL eT eQ noSc)
section
variable {cl : Str → Addr}
theorem pu_law : ∀ ds S K KX, lawSp ds S K KX → ws_law cl (frz F_cell) (frz F_lname) (frz F_lpath) (frz F_due) (F_make cl "All" ["path", "on"]) (F_litem cl) (F_netby cl) (frz F_nkinds) { nx := fun _ S1 => K (.z .none) S1, rt := K, ex := fun y _ S1 => KX y S1 } (startE nm_law ds) S := by
  rintro ds S K KX ⟨ns, rfl, rfl, hn, hk⟩
  generalize hr2 : law_r2 (F_netby cl) (frz F_nkinds) = r2
  unfold ws_law
  rw [hr2]
  walk_at "go"
  refine fsp_call (ns, 0) (.cons .b (.cons .z .nil)) (Int.le_refl _) ?_
  walk_at "go"
  refine fsp_call (ns, 0) (.cons .b (.cons .z .nil)) (Int.le_refl _) ?_
  dsimp only
  generalize cellAt ns 0 = c0
  have b1 := fmod_b (a := c0) (b := 10) (by decide)
  have b2 := fmod_b (a := c0.fdiv 10) (b := 2) (by decide)
  obtain ⟨k, hkd⟩ : ∃ k : Nat, c0.fmod 10 = (k : Int) := ⟨(c0.fmod 10).toNat, by omega⟩
  walk_at "go"
  have hre : ∃ r : Str, atD [D.z (.str (Str.ofString "open")), D.z (.str (Str.ofString "own"))] ((c0.fdiv 10).fmod 2) = some (.z (.str r)) ∧ isNameB r = true := by
    obtain ⟨u1, u2, u3, u4, u5, u6, u7⟩ := namesOk
    rcases (show (c0.fdiv 10).fmod 2 = 0 ∨ (c0.fdiv 10).fmod 2 = 1 by omega) with e | e
    · rw [e]; exact ⟨_, rfl, u6⟩
    · rw [e]; exact ⟨_, rfl, u7⟩
  obtain ⟨r, hr1, hr⟩ := hre
  refine pGet.mk hr1 ?_
  rw [hkd]
  walk_at "go"
  refine fsp_call (ns, 1) (.cons .b (.cons .z .nil)) (show (0 : Int) ≤ 1 by decide) ?_
  walk_at "go"
  refine fsq_call (cellAt ns 1) (.cons .z .nil) trivial fun m hm => ?_
  walk_at "go"
  refine fsq_call (ns, 2) (.cons .b (.cons .z .nil)) trivial fun p ⟨h1, h6, hp⟩ => ?_
  walk_at "go"
  refine fsp_call (k, r, m, p) (.cons .z (.cons .z (.cons .z (.cons .z .nil)))) (show k ≤ 9 by omega) ?_
  walk_at "go"
  refine pIf.mk (fun q => ?_) (fun q => ?_)
  · have q : (k : Int) = 9 := of_decide_eq_true q
    walk_at "go"
    refine fsm_call (1, [.z (pathD p), .z (.bool true)]) ⟨rfl, rfl, rfl⟩ fun d S' ⟨e1, e2⟩ => ?_
    subst e1 e2
    dsimp only
    refine pReq.mk rfl ?_
    walk_at "go"
    rw [← hr2]
    exact lawtail (i := .all p true) (due_9 h1 h6 hp) (.all (by simp) rfl) (by repeat' (first | exact Vu.z | exact Vus.nil | refine Vus.cons ?_ ?_ | refine Vu.t ?_ | refine Vu.r (by simp) rfl ?_)) hk
  · have q : ¬ (k : Int) = 9 := of_decide_eq_false q
    walk_at "go"
    refine fsm_call (k, r, m, p) ⟨rfl, show k ≤ 8 by omega⟩ fun d S' ⟨o, T, e1, e2, hi⟩ => ?_
    subst e1
    walk_at "go"
    rw [← hr2]
    exact lawtail (due_k hr hm h1 h6 hp (by omega)) hi .z hk
end
end K70

set_option Elab.async false
set_option linter.all false
set_option maxHeartbeats 4000000
set_option maxRecDepth 100000
namespace K70
open PySem PySem.Spec PyProof.Rows L2 PL
theorem facts {P : Program} {w : World} {K : PySem.W.Frag} {h : Heap} {mg : Str → Option Value} (X : K.In h) (G : h.Ns mainGlobals mg) (c0 : SaysP fa fn K) :
    ∃ fd, FunD K "law" "law" (defArgs st_law) (defBody st_law) (defScope st_law) [] [] (He.fAd K ("law", none)) fd ∧ mg ("law" : Str) = some (.ref (He.fAd K ("law", none))) ∧ ∀ base : Heap, FnOk P w K mg base (L2N.CX P w) 40 (He.fAd K ("law", none)) fd ["_law_script"] (spOf lawSp) := by
  have c := c0.sd
  have T : Txt K mg (He.ga K) := ⟨He.cls_ok (c.fact 35 (f := .cls "Part") rfl), He.cls_ok (c.fact 36 (f := .cls "Thing") rfl), He.cls_ok (c.fact 37 (f := .cls "Let") rfl), He.cls_ok (c.fact 38 (f := .cls "Elder") rfl), He.cls_ok (c.fact 39 (f := .cls "All") rfl), He.cls_ok (c.fact 40 (f := .cls "One") rfl), He.cls_ok (c.fact 41 (f := .cls "Ask") rfl), He.cls_ok (c.fact 42 (f := .cls "Draft") rfl), He.noat_ok (c.fact 43 (f := .noat "Draft" "questions") rfl), He.noat_ok (c.fact 44 (f := .noat "Draft" "things") rfl), He.noat_ok (c.fact 45 (f := .noat "Draft" "scopes") rfl), He.noat_ok (c.fact 46 (f := .noat "Part" "reach") rfl), He.noat_ok (c.fact 47 (f := .noat "Part" "name") rfl), He.noat_ok (c.fact 48 (f := .noat "Part" "inner") rfl), He.noat_ok (c.fact 49 (f := .noat "Thing" "reach") rfl), He.noat_ok (c.fact 50 (f := .noat "Thing" "name") rfl), He.noat_ok (c.fact 51 (f := .noat "Thing" "of") rfl), He.noat_ok (c.fact 52 (f := .noat "Let" "name") rfl), He.noat_ok (c.fact 53 (f := .noat "Let" "of") rfl), He.noat_ok (c.fact 54 (f := .noat "Elder" "path") rfl), He.noat_ok (c.fact 55 (f := .noat "All" "path") rfl), He.noat_ok (c.fact 56 (f := .noat "All" "on") rfl), He.noat_ok (c.fact 57 (f := .noat "One" "reach") rfl), He.noat_ok (c.fact 58 (f := .noat "One" "name") rfl), He.noat_ok (c.fact 59 (f := .noat "One" "path") rfl), He.noat_ok (c.fact 60 (f := .noat "Ask" "path") rfl), He.free_ok X G (c.fact 18 (f := .free "str") rfl), He.free_ok X G (c.fact 19 (f := .free "isinstance") rfl), He.free_ok X G (c.fact 20 (f := .free "len") rfl), He.free_ok X G (c.fact 21 (f := .free "list") rfl), He.free_ok X G (c.fact 22 (f := .free "range") rfl), He.free_ok X G (c.fact 23 (f := .free "tuple") rfl), He.free_ok X G (c.fact 24 (f := .free "int") rfl), He.free_ok X G (c.fact 25 (f := .free "bool") rfl), He.str_ok X G (c.fact 26 (f := .str "LETTERS" "abcdefghijklmnopqrstuvwxyz") rfl), He.int_ok X G (c.fact 27 (f := .int "MOST_SCOPES" 40) rfl), He.int_ok X G (c.fact 28 (f := .int "MOST_THINGS" 80) rfl), He.int_ok X G (c.fact 29 (f := .int "MOST_QUESTIONS" 60) rfl), He.int_ok X G (c.fact 30 (f := .int "MOST_STEPS" 8) rfl), He.int_ok X G (c.fact 31 (f := .int "MOST_TELLINGS" 12) rfl), He.int_ok X G (c.fact 32 (f := .int "MOST_NAMES" 6) rfl), He.int_ok X G (c.fact 33 (f := .int "MOST_WITHIN" 30) rfl), He.int_ok X G (c.fact 34 (f := .int "MOST_ITEMS" 200) rfl)⟩
  obtain ⟨fd_is_name, D_is_name⟩ := c.def_ 0 (d := dd "is_name" st_is_name) rfl
  obtain ⟨fd_small_enough, D_small_enough⟩ := c.def_ 1 (d := dd "small_enough" st_small_enough) rfl
  obtain ⟨fd_all_named, D_all_named⟩ := c.def_ 2 (d := dd "all_named" st_all_named) rfl
  obtain ⟨fd_step_there, D_step_there⟩ := c.def_ 3 (d := dd "step_there" st_step_there) rfl
  obtain ⟨fd_telling_there, D_telling_there⟩ := c.def_ 4 (d := dd "telling_there" st_telling_there) rfl
  obtain ⟨fd_thing_there, D_thing_there⟩ := c.def_ 5 (d := dd "thing_there" st_thing_there) rfl
  obtain ⟨fd_all_there, D_all_there⟩ := c.def_ 6 (d := dd "all_there" st_all_there) rfl
  obtain ⟨fd_net_of, D_net_of⟩ := c.def_ 7 (d := dd "net_of" st_net_of) rfl
  obtain ⟨fd_counted, D_counted⟩ := c.def_ 8 (d := dd "counted" st_counted) rfl
  obtain ⟨fd_net_by, D_net_by⟩ := c.def_ 9 (d := dd "net_by" st_net_by) rfl
  obtain ⟨fd__law_cell_at, D__law_cell_at⟩ := c.def_ 10 (d := dd "_law_cell_at" st__law_cell_at) rfl
  obtain ⟨fd__law_name, D__law_name⟩ := c.def_ 11 (d := dd "_law_name" st__law_name) rfl
  obtain ⟨fd__law_path, D__law_path⟩ := c.def_ 12 (d := dd "_law_path" st__law_path) rfl
  obtain ⟨fd__law_item, D__law_item⟩ := c.def_ 13 (d := dd "_law_item" st__law_item) rfl
  obtain ⟨fd__law_due, D__law_due⟩ := c.def_ 14 (d := dd "_law_due" st__law_due) rfl
  obtain ⟨fd__law_whole, D__law_whole⟩ := c.def_ 15 (d := dd "_law_whole" st__law_whole) rfl
  obtain ⟨fd__law_kinds, D__law_kinds⟩ := c.def_ 16 (d := dd "_law_kinds" st__law_kinds) rfl
  obtain ⟨fd_law, D_law⟩ := c.def_ 17 (d := dd "law" st_law) rfl
  obtain ⟨fd_Draft___init__, D_Draft___init__⟩ := c.def_ 18 (d := dm "Draft" "__init__" "Draft.__init__" st_Draft___init__ []) rfl
  obtain ⟨fd_Draft_new_scope, D_Draft_new_scope⟩ := c.def_ 19 (d := dm "Draft" "new_scope" "Draft.new_scope" st_Draft_new_scope []) rfl
  obtain ⟨fd_Draft_new_thing, D_Draft_new_thing⟩ := c.def_ 20 (d := dm "Draft" "new_thing" "Draft.new_thing" st_Draft_new_thing []) rfl
  obtain ⟨fd_Draft_new_question, D_Draft_new_question⟩ := c.def_ 21 (d := dm "Draft" "new_question" "Draft.new_question" st_Draft_new_question []) rfl
  obtain ⟨fd_Draft_sorted_thing, D_Draft_sorted_thing⟩ := c.def_ 22 (d := dm "Draft" "sorted_thing" "Draft.sorted_thing" st_Draft_sorted_thing []) rfl
  obtain ⟨fd_Draft_put_step, D_Draft_put_step⟩ := c.def_ 23 (d := dm "Draft" "put_step" "Draft.put_step" st_Draft_put_step []) rfl
  obtain ⟨fd_Draft_put_telling, D_Draft_put_telling⟩ := c.def_ 24 (d := dm "Draft" "put_telling" "Draft.put_telling" st_Draft_put_telling []) rfl
  obtain ⟨fd_Part___init__, D_Part___init__⟩ := c.def_ 25 (d := dm "Part" "__init__" "Part.__init__" st_Part___init__ []) rfl
  obtain ⟨fd_Part_within, D_Part_within⟩ := c.def_ 26 (d := dm "Part" "within" "Part.within" st_Part_within []) rfl
  obtain ⟨fd_Part_laid, D_Part_laid⟩ := c.def_ 27 (d := dm "Part" "laid" "Part.laid" st_Part_laid []) rfl
  obtain ⟨fd_Thing_within, D_Thing_within⟩ := c.def_ 28 (d := dm "Thing" "within" "Item.within" st_Thing_within []) rfl
  obtain ⟨fd_Thing___init__, D_Thing___init__⟩ := c.def_ 29 (d := dm "Thing" "__init__" "Thing.__init__" st_Thing___init__ [.non]) rfl
  obtain ⟨fd_Thing_laid, D_Thing_laid⟩ := c.def_ 30 (d := dm "Thing" "laid" "Thing.laid" st_Thing_laid []) rfl
  obtain ⟨fd_Let_within, D_Let_within⟩ := c.def_ 31 (d := dm "Let" "within" "Item.within" st_Let_within []) rfl
  obtain ⟨fd_Let___init__, D_Let___init__⟩ := c.def_ 32 (d := dm "Let" "__init__" "Let.__init__" st_Let___init__ [.non]) rfl
  obtain ⟨fd_Let_laid, D_Let_laid⟩ := c.def_ 33 (d := dm "Let" "laid" "Let.laid" st_Let_laid []) rfl
  obtain ⟨fd_Elder_within, D_Elder_within⟩ := c.def_ 34 (d := dm "Elder" "within" "Item.within" st_Elder_within []) rfl
  obtain ⟨fd_Elder___init__, D_Elder___init__⟩ := c.def_ 35 (d := dm "Elder" "__init__" "Elder.__init__" st_Elder___init__ []) rfl
  obtain ⟨fd_Elder_laid, D_Elder_laid⟩ := c.def_ 36 (d := dm "Elder" "laid" "Elder.laid" st_Elder_laid []) rfl
  obtain ⟨fd_All_within, D_All_within⟩ := c.def_ 37 (d := dm "All" "within" "Item.within" st_All_within []) rfl
  obtain ⟨fd_All___init__, D_All___init__⟩ := c.def_ 38 (d := dm "All" "__init__" "All.__init__" st_All___init__ [.bl false]) rfl
  obtain ⟨fd_All_laid, D_All_laid⟩ := c.def_ 39 (d := dm "All" "laid" "All.laid" st_All_laid []) rfl
  obtain ⟨fd_One_within, D_One_within⟩ := c.def_ 40 (d := dm "One" "within" "Item.within" st_One_within []) rfl
  obtain ⟨fd_One___init__, D_One___init__⟩ := c.def_ 41 (d := dm "One" "__init__" "One.__init__" st_One___init__ []) rfl
  obtain ⟨fd_One_laid, D_One_laid⟩ := c.def_ 42 (d := dm "One" "laid" "One.laid" st_One_laid []) rfl
  obtain ⟨fd_Ask_within, D_Ask_within⟩ := c.def_ 43 (d := dm "Ask" "within" "Item.within" st_Ask_within []) rfl
  obtain ⟨fd_Ask___init__, D_Ask___init__⟩ := c.def_ 44 (d := dm "Ask" "__init__" "Ask.__init__" st_Ask___init__ []) rfl
  obtain ⟨fd_Ask_laid, D_Ask_laid⟩ := c.def_ 45 (d := dm "Ask" "laid" "Ask.laid" st_Ask_laid []) rfl
  refine ⟨fd_law, D_law, He.glo_ok X G (c.fact 17 (f := .glo "law") rfl), fun base => ?_⟩
  have c_is_name : Fc P w K mg base "is_name" 1 ["thing"] (frz F_is_name) := Fc.frz (fc_mk (st := st_is_name) X G D_is_name (ok_is_name (fun_of D_is_name) T (by first | exact fsp_len fun _ => rfl | exact fsq_len fun _ => rfl) pu_is_name) (c.fact 0 (f := .glo "is_name") rfl) fun _ _ _ _ _ _ us hl => match us, hl with | [_], _ => rfl)
  have c_small_enough : Fc P w K mg base "small_enough" 1 ["scopes", "things", "questions"] (frz F_small_enough) := Fc.frz (fc_mk (st := st_small_enough) X G D_small_enough (ok_small_enough (fun_of D_small_enough) T (by first | exact fsp_len fun _ => rfl | exact fsq_len fun _ => rfl) pu_small_enough) (c.fact 1 (f := .glo "small_enough") rfl) fun _ _ _ _ _ _ us hl => match us, hl with | [_, _, _], _ => rfl)
  have c_step_there : Fc P w K mg base "step_there" 1 ["step", "scopes", "questions"] (frz F_step_there) := Fc.frz (fc_mk (st := st_step_there) X G D_step_there (ok_step_there (fun_of D_step_there) T (by first | exact fsp_len fun _ => rfl | exact fsq_len fun _ => rfl) pu_step_there) (c.fact 3 (f := .glo "step_there") rfl) fun _ _ _ _ _ _ us hl => match us, hl with | [_, _, _], _ => rfl)
  have c_telling_there : Fc P w K mg base "telling_there" 1 ["telling", "things", "questions"] (frz F_telling_there) := Fc.frz (fc_mk (st := st_telling_there) X G D_telling_there (ok_telling_there (fun_of D_telling_there) T (by first | exact fsp_len fun _ => rfl | exact fsq_len fun _ => rfl) pu_telling_there) (c.fact 4 (f := .glo "telling_there") rfl) fun _ _ _ _ _ _ us hl => match us, hl with | [_, _, _], _ => rfl)
  have c_thing_there : Fc P w K mg base "thing_there" 1 ["thing", "scopes", "questions"] (frz F_thing_there) := Fc.frz (fc_mk (st := st_thing_there) X G D_thing_there (ok_thing_there (fun_of D_thing_there) T (by first | exact fsp_len fun _ => rfl | exact fsq_len fun _ => rfl) pu_thing_there) (c.fact 5 (f := .glo "thing_there") rfl) fun _ _ _ _ _ _ us hl => match us, hl with | [_, _, _], _ => rfl)
  have c__law_cell_at : Fc P w K mg base "_law_cell_at" 1 ["_law_script", "_law_k"] (frz F_cell) := Fc.frz (fc_mk (st := st__law_cell_at) X G D__law_cell_at (ok__law_cell_at (fun_of D__law_cell_at) T (by first | exact fsp_len fun _ => rfl | exact fsq_len fun _ => rfl) pu_cell) (c.fact 10 (f := .glo "_law_cell_at") rfl) fun _ _ _ _ _ _ us hl => match us, hl with | [_, _], _ => rfl)
  have c__law_name : Fc P w K mg base "_law_name" 1 ["_law_cell"] (frz F_lname) := Fc.frz (fc_mk (st := st__law_name) X G D__law_name (ok__law_name (fun_of D__law_name) T (by first | exact fsp_len fun _ => rfl | exact fsq_len fun _ => rfl) pu_lname) (c.fact 11 (f := .glo "_law_name") rfl) fun _ _ _ _ _ _ us hl => match us, hl with | [_], _ => rfl)
  have c__law_due : Fc P w K mg base "_law_due" 1 ["_law_kind", "_law_reach", "_law_name_here", "_law_path_here"] (frz F_due) := Fc.frz (fc_mk (st := st__law_due) X G D__law_due (ok__law_due (fun_of D__law_due) T (by first | exact fsp_len fun _ => rfl | exact fsq_len fun _ => rfl) pu_due) (c.fact 14 (f := .glo "_law_due") rfl) fun _ _ _ _ _ _ us hl => match us, hl with | [_, _, _, _], _ => rfl)
  have c__law_whole : Fc P w K mg base "_law_whole" 1 ["_law_number"] (frz F_whole) := Fc.frz (fc_mk (st := st__law_whole) X G D__law_whole (ok__law_whole (fun_of D__law_whole) T (by first | exact fsp_len fun _ => rfl | exact fsq_len fun _ => rfl) pu_whole) (c.fact 15 (f := .glo "_law_whole") rfl) fun _ _ _ _ _ _ us hl => match us, hl with | [_], _ => rfl)
  have c_Draft___init__ : Fk P w K mg base "Draft" (He.ga K "Draft") 1 ["self"] (F_Dinit (He.ga K)) := fk_mk (st := st_Draft___init__) X G D_Draft___init__ (ok_Draft___init__ D_Draft___init__ T ((fsm_len fun a ds S h => by rw [h.1]; rfl)) pu_Dinit) (c.fact 81 (f := .mkr "Draft") rfl) (c.fact 89 (f := .glo "Draft") rfl) (fun _ _ _ _ _ _ us hl => match us, hl with | [_], _ => rfl)
  have c_Draft_new_scope : Fm P w K mg base (He.ga K "Draft") "new_scope" 1 ["self", "steps"] (F_newS (He.ga K)) := fm_mk (st := st_Draft_new_scope) D_Draft_new_scope (ok_Draft_new_scope D_Draft_new_scope T (fsm_len fun a ds S h => by rw [h.ds]; rfl) pu_newS) (c.fact 68 (f := .meth "Draft" "new_scope") rfl) (fun _ _ _ _ _ _ us hl => match us, hl with | [_, _], _ => rfl)
  have c_Draft_new_thing : Fm P w K mg base (He.ga K "Draft") "new_thing" 1 ["self", "kind", "number"] (F_newT (He.ga K)) := fm_mk (st := st_Draft_new_thing) D_Draft_new_thing (ok_Draft_new_thing D_Draft_new_thing T (fsm_len fun a ds S h => by rw [h.ds]; rfl) pu_newT) (c.fact 76 (f := .meth "Draft" "new_thing") rfl) (fun _ _ _ _ _ _ us hl => match us, hl with | [_, _, _], _ => rfl)
  have c_Draft_new_question : Fm P w K mg base (He.ga K "Draft") "new_question" 1 ["self", "scope", "state", "path"] (F_newQ (He.ga K)) := fm_mk (st := st_Draft_new_question) D_Draft_new_question (ok_Draft_new_question D_Draft_new_question T (fsm_len fun a ds S h => by rw [h.ds]; rfl) pu_newQ) (c.fact 77 (f := .meth "Draft" "new_question") rfl) (fun _ _ _ _ _ _ us hl => match us, hl with | [_, _, _, _], _ => rfl)
  have c_Draft_put_step : Fm P w K mg base (He.ga K "Draft") "put_step" 1 ["self", "scope", "step"] (F_putP (He.ga K)) := fm_mk (st := st_Draft_put_step) D_Draft_put_step (ok_Draft_put_step D_Draft_put_step T (fsm_len fun a ds S h => by rw [h.ds]; rfl) pu_putP) (c.fact 80 (f := .meth "Draft" "put_step") rfl) (fun _ _ _ _ _ _ us hl => match us, hl with | [_, _, _], _ => rfl)
  have c_Draft_put_telling : Fm P w K mg base (He.ga K "Draft") "put_telling" 1 ["self", "scope", "telling"] (F_putL (He.ga K)) := fm_mk (st := st_Draft_put_telling) D_Draft_put_telling (ok_Draft_put_telling D_Draft_put_telling T (fsm_len fun a ds S h => by rw [h.ds]; rfl) pu_putL) (c.fact 78 (f := .meth "Draft" "put_telling") rfl) (fun _ _ _ _ _ _ us hl => match us, hl with | [_, _, _], _ => rfl)
  have c_Part___init__ : Fk P w K mg base "Part" (He.ga K "Part") 1 ["self", "reach", "name", "items"] (F_makeP (He.ga K)) := fk_mk (st := st_Part___init__) X G D_Part___init__ (ok_Part___init__ D_Part___init__ T (fsm_len fun a ds S h => by rw [h.ds]; rfl) pu_Part_init) (c.fact 82 (f := .mkr "Part") rfl) (c.fact 90 (f := .glo "Part") rfl) (fun _ _ _ _ _ _ us hl => match us, hl with | [_, _, _, _], _ => rfl)
  have c_Part_within : Fm P w K mg base (He.ga K "Part") "within" 1 ["self"] (F_within (He.ga K)) := fm_mk (st := st_Part_within) D_Part_within (ok_Part_within D_Part_within T ((fsm_len fun a ds S h => by rw [h.1]; rfl)) pu_Part_within) (c.fact 61 (f := .meth "Part" "within") rfl) (fun _ _ _ _ _ _ us hl => match us, hl with | [_], _ => rfl)
  have c_Thing_within : Fm P w K mg base (He.ga K "Thing") "within" 1 ["self"] ((F_within0 (He.ga K) "Thing")) := fm_mk (st := st_Thing_within) D_Thing_within (ok_Thing_within D_Thing_within T (fsm_len fun a ds S h => by rw [h.ds]; rfl) pu_Thing_within) (c.fact 62 (f := .meth "Thing" "within") rfl) (fun _ _ _ _ _ _ us hl => match us, hl with | [_], _ => rfl)
  have c_Thing___init__ : Fk P w K mg base "Thing" (He.ga K "Thing") 1 ["self", "reach", "name", "of"] ((F_make (He.ga K) "Thing" ["reach", "name", "of"])) := fk_mk1 (st := st_Thing___init__) X G D_Thing___init__ (ok_Thing___init__ D_Thing___init__ T ((fsm_len fun a ds S h => by rw [h.ds, List.length_cons, h.l]; rfl)) pu_Thing_init) (c.fact 83 (f := .mkr "Thing") rfl) (c.fact 91 (f := .glo "Thing") rfl) (fun _ _ _ _ _ _ _ us its hl hi => match us, its, hl, hi with | [_, _, _, _], [_], _, _ => ⟨_, rfl, rfl⟩)
  have c_Thing___init____d : FkD P w K mg base "Thing" (He.ga K "Thing") 1 ["self", "reach", "name", "of"] .none ((F_make (He.ga K) "Thing" ["reach", "name", "of"])) := fk_mkD rz_none (st := st_Thing___init__) X G D_Thing___init__ (ok_Thing___init__ D_Thing___init__ T ((fsm_len fun a ds S h => by rw [h.ds, List.length_cons, h.l]; rfl)) pu_Thing_init) (c.fact 83 (f := .mkr "Thing") rfl) (c.fact 91 (f := .glo "Thing") rfl) (by decide) (fun _ _ _ _ _ _ _ us its hl hi => match us, its, hl, hi with | [_, _, _], [_], _, _ => ⟨_, rfl, rfl⟩)
  have c_Let_within : Fm P w K mg base (He.ga K "Let") "within" 1 ["self"] ((F_within0 (He.ga K) "Let")) := fm_mk (st := st_Let_within) D_Let_within (ok_Let_within D_Let_within T (fsm_len fun a ds S h => by rw [h.ds]; rfl) pu_Let_within) (c.fact 63 (f := .meth "Let" "within") rfl) (fun _ _ _ _ _ _ us hl => match us, hl with | [_], _ => rfl)
  have c_Let___init__ : Fk P w K mg base "Let" (He.ga K "Let") 1 ["self", "name", "of"] ((F_make (He.ga K) "Let" ["name", "of"])) := fk_mk1 (st := st_Let___init__) X G D_Let___init__ (ok_Let___init__ D_Let___init__ T ((fsm_len fun a ds S h => by rw [h.ds, List.length_cons, h.l]; rfl)) pu_Let_init) (c.fact 84 (f := .mkr "Let") rfl) (c.fact 92 (f := .glo "Let") rfl) (fun _ _ _ _ _ _ _ us its hl hi => match us, its, hl, hi with | [_, _, _], [_], _, _ => ⟨_, rfl, rfl⟩)
  have c_Let___init____d : FkD P w K mg base "Let" (He.ga K "Let") 1 ["self", "name", "of"] .none ((F_make (He.ga K) "Let" ["name", "of"])) := fk_mkD rz_none (st := st_Let___init__) X G D_Let___init__ (ok_Let___init__ D_Let___init__ T ((fsm_len fun a ds S h => by rw [h.ds, List.length_cons, h.l]; rfl)) pu_Let_init) (c.fact 84 (f := .mkr "Let") rfl) (c.fact 92 (f := .glo "Let") rfl) (by decide) (fun _ _ _ _ _ _ _ us its hl hi => match us, its, hl, hi with | [_, _], [_], _, _ => ⟨_, rfl, rfl⟩)
  have c_Elder_within : Fm P w K mg base (He.ga K "Elder") "within" 1 ["self"] ((F_within0 (He.ga K) "Elder")) := fm_mk (st := st_Elder_within) D_Elder_within (ok_Elder_within D_Elder_within T (fsm_len fun a ds S h => by rw [h.ds]; rfl) pu_Elder_within) (c.fact 64 (f := .meth "Elder" "within") rfl) (fun _ _ _ _ _ _ us hl => match us, hl with | [_], _ => rfl)
  have c_Elder___init__ : Fk P w K mg base "Elder" (He.ga K "Elder") 1 ["self", "path"] ((F_make (He.ga K) "Elder" ["path"])) := fk_mk (st := st_Elder___init__) X G D_Elder___init__ (ok_Elder___init__ D_Elder___init__ T ((fsm_len fun a ds S h => by rw [h.ds, List.length_cons, h.l]; rfl)) pu_Elder_init) (c.fact 85 (f := .mkr "Elder") rfl) (c.fact 93 (f := .glo "Elder") rfl) (fun _ _ _ _ _ _ us hl => match us, hl with | [_, _], _ => rfl)
  have c_All_within : Fm P w K mg base (He.ga K "All") "within" 1 ["self"] ((F_within0 (He.ga K) "All")) := fm_mk (st := st_All_within) D_All_within (ok_All_within D_All_within T (fsm_len fun a ds S h => by rw [h.ds]; rfl) pu_All_within) (c.fact 65 (f := .meth "All" "within") rfl) (fun _ _ _ _ _ _ us hl => match us, hl with | [_], _ => rfl)
  have c_All___init__ : Fk P w K mg base "All" (He.ga K "All") 1 ["self", "path", "on"] ((F_make (He.ga K) "All" ["path", "on"])) := fk_mk1 (st := st_All___init__) X G D_All___init__ (ok_All___init__ D_All___init__ T ((fsm_len fun a ds S h => by rw [h.ds, List.length_cons, h.l]; rfl)) pu_All_init) (c.fact 86 (f := .mkr "All") rfl) (c.fact 94 (f := .glo "All") rfl) (fun _ _ _ _ _ _ _ us its hl hi => match us, its, hl, hi with | [_, _, _], [_], _, _ => ⟨_, rfl, rfl⟩)
  have c_All___init____d : FkD P w K mg base "All" (He.ga K "All") 1 ["self", "path", "on"] (.bool false) ((F_make (He.ga K) "All" ["path", "on"])) := fk_mkD (rz_bool false) (st := st_All___init__) X G D_All___init__ (ok_All___init__ D_All___init__ T ((fsm_len fun a ds S h => by rw [h.ds, List.length_cons, h.l]; rfl)) pu_All_init) (c.fact 86 (f := .mkr "All") rfl) (c.fact 94 (f := .glo "All") rfl) (by decide) (fun _ _ _ _ _ _ _ us its hl hi => match us, its, hl, hi with | [_, _], [_], _, _ => ⟨_, rfl, rfl⟩)
  have c_One_within : Fm P w K mg base (He.ga K "One") "within" 1 ["self"] ((F_within0 (He.ga K) "One")) := fm_mk (st := st_One_within) D_One_within (ok_One_within D_One_within T (fsm_len fun a ds S h => by rw [h.ds]; rfl) pu_One_within) (c.fact 66 (f := .meth "One" "within") rfl) (fun _ _ _ _ _ _ us hl => match us, hl with | [_], _ => rfl)
  have c_One___init__ : Fk P w K mg base "One" (He.ga K "One") 1 ["self", "reach", "name", "path"] ((F_make (He.ga K) "One" ["reach", "name", "path"])) := fk_mk (st := st_One___init__) X G D_One___init__ (ok_One___init__ D_One___init__ T ((fsm_len fun a ds S h => by rw [h.ds, List.length_cons, h.l]; rfl)) pu_One_init) (c.fact 87 (f := .mkr "One") rfl) (c.fact 95 (f := .glo "One") rfl) (fun _ _ _ _ _ _ us hl => match us, hl with | [_, _, _, _], _ => rfl)
  have c_Ask_within : Fm P w K mg base (He.ga K "Ask") "within" 1 ["self"] ((F_within0 (He.ga K) "Ask")) := fm_mk (st := st_Ask_within) D_Ask_within (ok_Ask_within D_Ask_within T (fsm_len fun a ds S h => by rw [h.ds]; rfl) pu_Ask_within) (c.fact 67 (f := .meth "Ask" "within") rfl) (fun _ _ _ _ _ _ us hl => match us, hl with | [_], _ => rfl)
  have c_Ask___init__ : Fk P w K mg base "Ask" (He.ga K "Ask") 1 ["self", "path"] ((F_make (He.ga K) "Ask" ["path"])) := fk_mk (st := st_Ask___init__) X G D_Ask___init__ (ok_Ask___init__ D_Ask___init__ T ((fsm_len fun a ds S h => by rw [h.ds, List.length_cons, h.l]; rfl)) pu_Ask_init) (c.fact 88 (f := .mkr "Ask") rfl) (c.fact 96 (f := .glo "Ask") rfl) (fun _ _ _ _ _ _ us hl => match us, hl with | [_, _], _ => rfl)
  have c_all_named : Fc P w K mg base "all_named" 2 ["scopes", "questions"] (frz F_all_named) := Fc.frz (fc_mk (st := st_all_named) X G D_all_named (ok_all_named (fun_of D_all_named) T c_is_name (by first | exact fsp_len fun _ => rfl | exact fsq_len fun _ => rfl) pu_all_named) (c.fact 2 (f := .glo "all_named") rfl) fun _ _ _ _ _ _ us hl => match us, hl with | [_, _], _ => rfl)
  have c_all_there : Fc P w K mg base "all_there" 2 ["scopes", "things", "questions"] (frz F_all_there) := Fc.frz (fc_mk (st := st_all_there) X G D_all_there (ok_all_there (fun_of D_all_there) T c_step_there c_telling_there c_thing_there (by first | exact fsp_len fun _ => rfl | exact fsq_len fun _ => rfl) pu_all_there) (c.fact 6 (f := .glo "all_there") rfl) fun _ _ _ _ _ _ us hl => match us, hl with | [_, _, _], _ => rfl)
  have c__law_path : Fc P w K mg base "_law_path" 2 ["_law_script", "_law_start"] (frz F_lpath) := Fc.frz (fc_mk (st := st__law_path) X G D__law_path (ok__law_path (fun_of D__law_path) T c__law_cell_at c__law_name (by first | exact fsp_len fun _ => rfl | exact fsq_len fun _ => rfl) pu_lpath) (c.fact 12 (f := .glo "_law_path") rfl) fun _ _ _ _ _ _ us hl => match us, hl with | [_, _], _ => rfl)
  have c__law_kinds : Fc P w K mg base "_law_kinds" 2 ["_law_net"] (frz F_nkinds) := Fc.frz (fc_mk (st := st__law_kinds) X G D__law_kinds (ok__law_kinds (fun_of D__law_kinds) T c__law_whole (by first | exact fsp_len fun _ => rfl | exact fsq_len fun _ => rfl) pu_nkinds) (c.fact 16 (f := .glo "_law_kinds") rfl) fun _ _ _ _ _ _ us hl => match us, hl with | [_], _ => rfl)
  have c_Draft_sorted_thing : Fm P w K mg base (He.ga K "Draft") "sorted_thing" 2 ["self", "here", "of"] (F_sorted (He.ga K)) := fm_mk (st := st_Draft_sorted_thing) D_Draft_sorted_thing (ok_Draft_sorted_thing D_Draft_sorted_thing T c_Draft_new_thing c_Draft_new_question (fsm_len fun a ds S h => by rw [h.ds]; rfl) pu_sorted) (c.fact 79 (f := .meth "Draft" "sorted_thing") rfl) (fun _ _ _ _ _ _ us hl => match us, hl with | [_, _, _], _ => rfl)
  have c_Elder_laid : Fm P w K mg base (He.ga K "Elder") "laid" 2 ["self", "draft", "home", "here"] ((F_laid (He.ga K) isElder)) := fm_mk (st := st_Elder_laid) D_Elder_laid (ok_Elder_laid D_Elder_laid T c_Draft_new_question c_Draft_put_step (fsm_len fun a ds S h => by rw [h.ds]; rfl) pu_Elder_laid) (c.fact 72 (f := .meth "Elder" "laid") rfl) (fun _ _ _ _ _ _ us hl => match us, hl with | [_, _, _, _], _ => rfl)
  have c_All_laid : Fm P w K mg base (He.ga K "All") "laid" 2 ["self", "draft", "home", "here"] ((F_laid (He.ga K) isAll)) := fm_mk (st := st_All_laid) D_All_laid (ok_All_laid D_All_laid T c_Draft_new_question c_Draft_put_step (fsm_len fun a ds S h => by rw [h.ds]; rfl) pu_All_laid) (c.fact 73 (f := .meth "All" "laid") rfl) (fun _ _ _ _ _ _ us hl => match us, hl with | [_, _, _, _], _ => rfl)
  have c_One_laid : Fm P w K mg base (He.ga K "One") "laid" 2 ["self", "draft", "home", "here"] ((F_laid (He.ga K) isOne)) := fm_mk (st := st_One_laid) D_One_laid (ok_One_laid D_One_laid T c_Draft_new_question c_Draft_put_telling (fsm_len fun a ds S h => by rw [h.ds]; rfl) pu_One_laid) (c.fact 74 (f := .meth "One" "laid") rfl) (fun _ _ _ _ _ _ us hl => match us, hl with | [_, _, _, _], _ => rfl)
  have c_Ask_laid : Fm P w K mg base (He.ga K "Ask") "laid" 2 ["self", "draft", "home", "here"] ((F_laid (He.ga K) isAsk)) := fm_mk (st := st_Ask_laid) D_Ask_laid (ok_Ask_laid D_Ask_laid T c_Draft_new_question (fsm_len fun a ds S h => by rw [h.ds]; rfl) pu_Ask_laid) (c.fact 75 (f := .meth "Ask" "laid") rfl) (fun _ _ _ _ _ _ us hl => match us, hl with | [_, _, _, _], _ => rfl)
  have c_net_of : Fc P w K mg base "net_of" 3 ["scopes", "things", "questions"] (frr F_net_of) := Fc.frr (fc_mk (st := st_net_of) X G D_net_of (ok_net_of (fun_of D_net_of) T c_small_enough c_all_named c_all_there (by first | exact fsr_len fun _ => rfl | exact fsrq_len fun _ => rfl | exact fsrX_len fun _ => rfl | exact fsrE_len fun _ => rfl) pu_net_of) (c.fact 7 (f := .glo "net_of") rfl) fun _ _ _ _ _ _ us hl => match us, hl with | [_, _, _], _ => rfl)
  have c__law_item : Fc P w K mg base "_law_item" 3 ["_law_kind", "_law_reach", "_law_name_here", "_law_path_here"] (F_litem (He.ga K)) := (fc_mk (st := st__law_item) X G D__law_item (ok__law_item (fun_of D__law_item) T c_Part___init__ c_Thing___init____d c_Thing___init__ c_Let___init____d c_Let___init__ c_Elder___init__ c_All___init____d c_One___init__ c_Ask___init__ (fsm_len fun a ds S h => by rw [h.ds]; rfl) pu_litem) (c.fact 13 (f := .glo "_law_item") rfl) fun _ _ _ _ _ _ us hl => match us, hl with | [_, _, _, _], _ => rfl)
  have c_Thing_laid : Fm P w K mg base (He.ga K "Thing") "laid" 3 ["self", "draft", "home", "here"] ((F_laid (He.ga K) isThing)) := fm_mk (st := st_Thing_laid) D_Thing_laid (ok_Thing_laid D_Thing_laid T c_Draft_sorted_thing c_Draft_put_telling (fsm_len fun a ds S h => by rw [h.ds]; rfl) pu_Thing_laid) (c.fact 70 (f := .meth "Thing" "laid") rfl) (fun _ _ _ _ _ _ us hl => match us, hl with | [_, _, _, _], _ => rfl)
  have c_Let_laid : Fm P w K mg base (He.ga K "Let") "laid" 3 ["self", "draft", "home", "here"] ((F_laid (He.ga K) isLet)) := fm_mk (st := st_Let_laid) D_Let_laid (ok_Let_laid D_Let_laid T c_Draft_sorted_thing c_Draft_new_scope c_Draft_put_telling (fsm_len fun a ds S h => by rw [h.ds]; rfl) pu_Let_laid) (c.fact 71 (f := .meth "Let" "laid") rfl) (fun _ _ _ _ _ _ us hl => match us, hl with | [_, _, _, _], _ => rfl)
  have r_counted : ∀ n, Fc P w K mg base "counted" (1 + n) ["some", "depth", "many"] ((F_counted (He.ga K) n)) := fun n => by
    induction n with
    | zero => exact (fc_mk (st := st_counted) X G D_counted (fn_none pu_counted_none) (c.fact 8 (f := .glo "counted") rfl) fun _ _ _ _ _ _ us hl => match us, hl with | [_, _, _], _ => rfl)
    | succ n ih => exact (fc_mk (st := st_counted) X G D_counted (ok_counted (fun_of D_counted) T (Nat.le_add_right _ _) c_Part_within c_Thing_within c_Let_within c_Elder_within c_All_within c_One_within c_Ask_within ih (fsm_len fun a ds S h => by rw [h.ds]; rfl) (pu_counted n)) (c.fact 8 (f := .glo "counted") rfl) fun _ _ _ _ _ _ us hl => match us, hl with | [_, _, _], _ => rfl)
  have c_counted : Fc P w K mg base "counted" 36 ["some", "depth", "many"] ((F_counted (He.ga K) 35)) := r_counted 35
  have r_Part_laid : ∀ n, Fm P w K mg base (He.ga K "Part") "laid" (3 + n) ["self", "draft", "home", "here"] (F_part (He.ga K) n) := fun n => by
    induction n with
    | zero => exact fm_mk (st := st_Part_laid) D_Part_laid (fn_none pu_Part_laid_none) (c.fact 69 (f := .meth "Part" "laid") rfl) (fun _ _ _ _ _ _ us hl => match us, hl with | [_, _, _, _], _ => rfl)
    | succ n ih => exact fm_mk (st := st_Part_laid) D_Part_laid (ok_Part_laid D_Part_laid T (Nat.le_add_right _ _) c_Draft_new_scope c_Draft_new_thing c_Draft_put_telling ih c_Thing_laid c_Let_laid c_Elder_laid c_All_laid c_One_laid c_Ask_laid (fsm_len fun a ds S h => by rw [h.ds]; rfl) (pu_Part_laid n)) (c.fact 69 (f := .meth "Part" "laid") rfl) (fun _ _ _ _ _ _ us hl => match us, hl with | [_, _, _, _], _ => rfl)
  have c_Part_laid : Fm P w K mg base (He.ga K "Part") "laid" 38 ["self", "draft", "home", "here"] (F_part (He.ga K) 35) := r_Part_laid 35
  have c_net_by : Fc P w K mg base "net_by" 39 ["program"] (F_netby (He.ga K)) := (fc_mk (st := st_net_by) X G D_net_by (ok_net_by (fun_of D_net_by) T c_counted c_Draft___init__ c_Draft_new_scope c_Part_laid c_Thing_laid c_Let_laid c_Elder_laid c_All_laid c_One_laid c_Ask_laid c_net_of (fsm_len fun a ds S h => by rw [h.ds]; rfl) pu_net_by) (c.fact 9 (f := .glo "net_by") rfl) fun _ _ _ _ _ _ us hl => match us, hl with | [_], _ => rfl)
  exact ok_law (fun_of D_law) T c__law_cell_at c__law_name c__law_path c__law_due c_All___init__ c__law_item c_net_by c__law_kinds (by rintro ds S K KX ⟨ns, rfl, _⟩; rfl) pu_law
end K70
open PySem PySem.W PySem.Calls PyProof.Rows
set_option maxRecDepth 100000 in
set_option maxHeartbeats 0 in
theorem PySem.Challenge.cw_namepaths_k70_one_item_laid_holds : PySem.Challenge.rw_namepaths_k70_one_item_laid.Holds := by
  w_on; o_law
  refine HandSHeadRun.head_any (r := OpenLaw.row PySem.Challenge.rw_namepaths_k70_one_item_laid) (q := view (OpenLaw.row PySem.Challenge.rw_namepaths_k70_one_item_laid).prog [46]) (H := K70.hk) (ob := K70.ob) (M := 8000) (loose := K70.loose) (d := HandSHeadRun.topDef (OpenLaw.row PySem.Challenge.rw_namepaths_k70_one_item_laid).prog 46) (kwd := []) K70.ob_eq
    (by kernel_rfl) (fun s => by kernel_rfl) K70.run (by kernel_rfl) (by kernel_rfl) (by kernel_rfl) (by rfl) (by first | assumption | decide +kernel) (by decide +kernel) ⟨rfl, rfl, rfl, rfl, rfl, by decide +kernel⟩ ?hw ?hc
  case hw => w_witness2
  case hc =>
    refine PL.pl_end (l := PySem.Challenge.rw_namepaths_k70_one_item_laid) (k := 40) (x := "_law_script") (st := K70.st_law) rfl (by kernel_rfl) (by kernel_rfl) ⟨rfl, by decide, by decide⟩ (fun _ _ _ _ _ _ us hl => match us, hl with | [_], _ => rfl) ?_
    intro w K h mg KX G c
    exact K70.facts KX G c
#print axioms PySem.Challenge.cw_namepaths_k70_one_item_laid_holds

