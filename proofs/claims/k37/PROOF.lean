import PyProof.Rows.All
import Wide.All
import OpenK.AllK
import Wide.FinOn
import KE.KStateDown
import Lean
import HandS.ForMost
import HandS.Star
import HandS.Property
import HandS.ClsMeth
import HandS.TupAny
import HandS.TupLe
import HandS.IsInst
import HandS.Strs
import HandS.Conv
import HandS.DictTup
import HandS.SetFor
import HandS.Deep
import HandS.Wide
import HandS.Flow
import HandS.Walk
import KE.GoesEnum
import KE.GoesMore
import PyProof.EnumMake
import PyProof.Draws
import HandS.NoneIn
import HandS.Style
import HandS.HeadEnd
import HandS.Head0
import HandS.Head1
import HandS.Head2
import HandS.HeadHook4
import HandS.Lambda
import KE.KDflt
import HandS.HeadNt
import HandS.Exc
import KE.KIsAll
import KE.KUnpackStar
import HandS.RaiseMore
import HandS.GenList
import HandS.EndTab
import HandS.NestedK
import HandS.Nested
import HandS.ExcOwn
import HandS.ExcInit
import KE.SortData
import HandS.ExcIs
import HandS.ExcField
import HandS.TupMul
import KE.DataFind
import HandS.DictComp
import HandS.SetKeys
import HandS.WordsDict
import HandS.More
import HandS.ListItems
import HandS.SortInts
import KE.KWithOwn
import HandS.HotCalls
import HandS.ExcInitHot
import HandS.Finally
import HandS.HeadHook3
import HandS.Codes
import PySem.Challenge.RW_stairlights_k37_whole_doubled_rounds
set_option Elab.async false
set_option linter.all false
set_option maxRecDepth 100000
set_option maxHeartbeats 2000000
/-! A small layer over the hand layer: values as trees, a store of the objects that change, a monad of runs. Each expression's and statement's rule says: it does what the run (a plain Lean function) says. -/
namespace SL
open PySem PySem.Spec PyProof.Rows L2
/-! ### classes and fields of the program -/
inductive Cl where
  | LightError | InvalidStairs | InvalidTick | UnknownTrip | InvalidCount | TooManyTrips | Contradiction | TextFault | InvalidCode | InvalidName | UnknownName | InvalidOperation
  | Trip | Stairs | Scene | Story | Reader | Electrician | Panel | Trial
  | lam (n : Nat)
  deriving DecidableEq
inductive Fl where
  | start | source | target | pace | habit | top | length | time | trips | burning | presses | dark | scenes | stories | facts | now | past | undone | saved | panel | isKept | code | place | part | index | line
  deriving DecidableEq
def fname : Fl → Str
  | .start => "start" | .source => "source" | .target => "target" | .pace => "pace" | .habit => "habit" | .top => "top" | .length => "length" | .time => "time" | .trips => "trips"
  | .burning => "burning" | .presses => "presses" | .dark => "dark" | .scenes => "scenes" | .stories => "stories" | .facts => "facts" | .now => "now" | .past => "past" | .undone => "undone"
  | .saved => "saved" | .panel => "panel" | .isKept => "is_kept" | .code => "code" | .place => "place" | .part => "part" | .index => "index" | .line => "line"
def flds : Cl → List Fl
  | .Trip => [.start, .source, .target, .pace, .habit]
  | .Stairs => [.top, .length, .time, .trips]
  | .Scene => [.burning, .presses, .dark]
  | .Story => [.scenes, .start]
  | .Reader => [.code, .place]
  | .Electrician => [.stories, .facts]
  | .Panel => [.now, .past, .undone, .saved]
  | .Trial => [.panel, .now, .past, .undone, .isKept]
  | .InvalidStairs => [.index, .part]
  | .TextFault => [.line]
  | .InvalidCode => [.place]
  | .InvalidOperation => [.place]
  | _ => []
/-- the place of a field -/
def fix (c : Cl) (f : Fl) : Option Nat := (flds c).findIdx? (· == f)
def fnames (c : Cl) : List Str := (flds c).map fname
/-! ### values, the store -/
inductive W where
  | non | bl (b : Bool) | int (i : Int) | str (s : Str) | ty (n : String) | cls (c : Cl) | loc (n : Nat) | scr (ns : List Int)
  | tup (xs : List W) | lst (xs : List W) | obj (c : Cl) (xs : List W) | dct (ks : List Key) (xs : List W) | ktup (xs : List W)
inductive Ce where
  | lst (xs : List W) | ins (c : Cl) (xs : List W) | dk (ks : List Key) (xs : List W) | dt (ks : List (List Key)) (xs : List W) | fn (k : Nat) (xs : List (Option W))
abbrev Sto := List Ce
/-- a place where a function without a name is made: its code, the cells it sees, its defaults; what the cells hold (where that is fixed) -/
structure Site where
  q : Str
  params : Arguments
  body : Expr
  scope : Scope
  cl : List (Str × Addr)
  dv : List V
  vs : List (Option V)
/-- where the classes lie; the tables of code objects; objects that stand as they are -/
structure Ca where
  cl : Cl → Addr
  tabs : List (Addr × Str)
  pins : List (Addr × HO)
  sites : List Site := []
instance : CoeFun Ca fun _ => Cl → Addr := ⟨Ca.cl⟩
abbrev Rho := List (Option W)
/-! ### what stands for what -/
def WrT (K : PySem.W.Frag) (a : Addr) (xs : List V) : Prop := ∃ (o : Obj) (its : Array Value) (n : Nat), K.lookup a = some o ∧ o.cls = .type "tuple" ∧ o.data = .seq its n ∧ its.size ≤ sizeLine ∧ Vals xs its.toList ∧ o.dict = none
theorem WrT.sq {K : PySem.W.Frag} {H : Hp} {a : Addr} {xs : List V} (h : WrT K a xs) : SqT K H a xs := by
  obtain ⟨o, its, n, h1, h2, h3, h4, h5, _⟩ := h
  exact .inr ⟨o, its, n, h1, h2, h3, h4, h5⟩
def FzT (io : List Addr) (H : Hp) (a : Addr) (xs : List V) : Prop := H a = some (.tup xs) ∧ a ∉ io
def FzL (io : List Addr) (H : Hp) (a : Addr) (xs : List V) : Prop := H a = some (.lst xs) ∧ a ∉ io
theorem FzT.sq {K : PySem.W.Frag} {io : List Addr} {H : Hp} {a : Addr} {xs : List V} (h : FzT io H a xs) : SqT K H a xs := .of h.1
theorem FzL.sq {K : PySem.W.Frag} {io : List Addr} {H : Hp} {a : Addr} {xs : List V} (h : FzL io H a xs) : SqL K H a xs := .of h.1
/-- the script: locked, or an object of the module -/
def FzS (K : PySem.W.Frag) (io : List Addr) (H : Hp) (a : Addr) (xs : List V) : Prop := (Rd H a (.lst xs) ∧ a ∉ io) ∨ ∃ (o : Obj) (its : Array Value) (n : Nat), K.lookup a = some o ∧ o.cls = .type "list" ∧ o.dict = none ∧ o.data = .seq its n ∧ its.size ≤ sizeLine ∧ Vals xs its.toList
theorem FzS.sq {K : PySem.W.Frag} {io : List Addr} {H : Hp} {a : Addr} {xs : List V} (h : FzS K io H a xs) : SqL K H a xs := by
  rcases h with h | h
  · exact .inl h.1
  · exact .inr h
mutual
def RV (K : PySem.W.Frag) (ca : Ca) (io : List Addr) (H : Hp) : W → V → Prop
  | .non, v => v = .non
  | .bl b, v => v = .bl b
  | .int i, v => v = .int i
  | .str s, v => v = .str s
  | .ty n, v => v = .ty n
  | .cls c, v => v = .ref (ca c)
  | .loc n, v => ∃ a, v = .ref a ∧ io[n]? = some a
  | .scr ns, v => ∃ a, v = .ref a ∧ FzS K io H a (ns.map V.int)
  | .tup xs, v => ∃ a vs, v = .ref a ∧ FzT io H a vs ∧ RVs K ca io H xs vs
  | .ktup xs, v => ∃ a vs, v = .ref a ∧ WrT K a vs ∧ RVs K ca io H xs vs
  | .lst xs, v => ∃ a vs, v = .ref a ∧ FzL io H a vs ∧ RVs K ca io H xs vs
  | .obj c xs, v => ∃ a dx vs, v = .ref a ∧ H a = some (.ins (ca c) dx ((fnames c).zip vs)) ∧ a ∉ io ∧ vs.length ≤ (flds c).length ∧ RVs K ca io H xs vs
  | .dct ks xs, v => ∃ a o vs, v = .ref a ∧ H a = some (.frz o (.dK (ks.zip vs))) ∧ a ∉ io ∧ vs.length = ks.length ∧ RVs K ca io H xs vs
def RVs (K : PySem.W.Frag) (ca : Ca) (io : List Addr) (H : Hp) : List W → List V → Prop
  | [], vs => vs = []
  | x :: xs, vs => ∃ v r, vs = v :: r ∧ RV K ca io H x v ∧ RVs K ca io H xs r
end
/-- values by their places, where they are known -/
def RVo (K : PySem.W.Frag) (ca : Ca) (io : List Addr) (H : Hp) (xs : List (Option W)) (vs : List (Option V)) : Prop := ∀ (i : Nat) (w : W), xs[i]? = some (some w) → ∃ v, vs[i]? = some (some v) ∧ RV K ca io H w v
/-- the object of a function without a name -/
def FnO (a c' : Addr) (t : Site) (dV : Value) : HO := .ext fun h => ∃ doc pm ctv : Value, h.get? a = some (PySem.W.kdv_obj "<lambda>" t.q t.params (.expr t.body) t.scope t.cl dV doc pm c' ctv)
/-- its defaults -/
def DfT (io : List Addr) (H : Hp) (dv : List V) (dV : Value) : Prop := (dv = [] ∧ dV = .none) ∨ (dv ≠ [] ∧ ∃ tt, dV = .ref tt ∧ H tt = some (.tup dv) ∧ tt ∉ io)
def RC (K : PySem.W.Frag) (ca : Ca) (io : List Addr) (H : Hp) (a : Addr) : Ce → Prop
  | .lst xs => ∃ vs, H a = some (.lst vs) ∧ RVs K ca io H xs vs
  | .ins c xs => ∃ dx vs, H a = some (.ins (ca c) dx ((fnames c).zip vs)) ∧ vs.length ≤ (flds c).length ∧ RVs K ca io H xs vs
  | .dk ks xs => ∃ vs, H a = some (.dK (ks.zip vs)) ∧ vs.length = ks.length ∧ RVs K ca io H xs vs
  | .dt ks xs => ∃ vs, H a = some (.dT (ks.zip vs)) ∧ vs.length = ks.length ∧ RVs K ca io H xs vs
  | .fn k xs => ∃ (t : Site) (c' : Addr) (dV : Value), ca.sites[k]? = some t ∧ H a = some (FnO a c' t dV) ∧ DfT io H t.dv dV ∧ H c' = some (LamX.CodeO c' t.q) ∧ c' ∉ io ∧ RVo K ca io H xs t.vs
/-- what stands where it is not told that it changes: all but tables of code objects and dicts that are not locked -/
def Kpt (o : HO) : Prop := (∀ ps, o ≠ .tbl ps) ∧ ∀ kvs, o ≠ .dK kvs
/-- a table of code objects: each that it tells bears the name q -/
def TbT (io : List Addr) (H : Hp) (P : Addr) (q : Str) : Prop := ∃ ps : Array Value, H P = some (.tbl ps) ∧ TriplesOk ps.toList ∧ ∀ (pos : Pos) (cv : Value), codeAmong pos ps.toList = some cv → ∃ c, cv = .ref c ∧ H c = some (LamX.CodeO c q) ∧ c ∉ io
structure TbOk (ca : Ca) (io : List Addr) (H : Hp) : Prop where
  tab : ∀ p ∈ ca.tabs, p.1 ∉ io ∧ TbT io H p.1 p.2
  pin : ∀ p ∈ ca.pins, p.1 ∉ io ∧ H p.1 = some p.2 ∧ Kpt p.2
theorem TbT.step {io io' : List Addr} {H H' : Hp} {P : Addr} {q : Str} (h : TbT io H P q) (hP : P ∉ io) (k : ∀ a, a ∉ io → H a ≠ none → H' a = H a) (o : ∀ a ∈ io', a ∈ io ∨ H a = none) : TbT io' H' P q := by
  obtain ⟨ps, e1, e2, e3⟩ := h
  refine ⟨ps, by rw [k P hP (by rw [e1]; simp), e1], e2, fun pos cv hc => ?_⟩
  obtain ⟨c, f1, f2, f3⟩ := e3 pos cv hc
  refine ⟨c, f1, by rw [k c f3 (by rw [f2]; simp), f2], fun m => ?_⟩
  rcases o c m with m | m
  · exact f3 m
  · rw [f2] at m
    cases m
theorem TbOk.step {ca : Ca} {io io' : List Addr} {H H' : Hp} (h : TbOk ca io H) (k : ∀ a, a ∉ io → H a ≠ none → H' a = H a) (o : ∀ a ∈ io', a ∈ io ∨ H a = none) : TbOk ca io' H' := by
  have nin : ∀ a, a ∉ io → H a ≠ none → a ∉ io' := fun a n ne m => (o a m).elim n ne
  refine ⟨fun p hp => ?_, fun p hp => ?_⟩
  · obtain ⟨n, t⟩ := h.tab p hp
    exact ⟨nin _ n (by obtain ⟨ps, e, _⟩ := t; rw [e]; simp), t.step n k o⟩
  · obtain ⟨n, e, d⟩ := h.pin p hp
    exact ⟨nin _ n (by rw [e]; simp), by rw [k _ n (by rw [e]; simp), e], d⟩
theorem TbOk.less {ca : Ca} {io t : List Addr} {H : Hp} (h : TbOk ca (io ++ t) H) : TbOk ca io H := h.step (fun _ _ _ => rfl) fun _ m => .inl (List.mem_append_left _ m)
structure Rl0 (K : PySem.W.Frag) (ca : Ca) (io : List Addr) (S : Sto) (H : Hp) : Prop where
  len : io.length = S.length
  nd : io.Nodup
  ce : ∀ (n : Nat) (c : Ce) (a : Addr), S[n]? = some c → io[n]? = some a → RC K ca io H a c
  tb : TbOk ca io H
def RE (K : PySem.W.Frag) (ca : Ca) (io : List Addr) (H : Hp) (r : Rho) (σ : L2.St) : Prop := r.length = σ.length ∧ ∀ (i : Nat) (w : W), r[i]? = some (some w) → ∃ v, σ[i]? = some (some v) ∧ RV K ca io H w v
structure Rl (K : PySem.W.Frag) (ca : Ca) (io : List Addr) (r : Rho) (S : Sto) (σ : L2.St) (H : Hp) : Prop where
  z : Rl0 K ca io S H
  e : RE K ca io H r σ
/-- behind some steps: new changing objects, what does not change stands -/
structure Ext (io : List Addr) (H : Hp) (io' : List Addr) (H' : Hp) : Prop where
  pre : ∃ t, io' = io ++ t ∧ ∀ a ∈ t, H a = none
  kp : ∀ a o, a ∉ io → H a = some o → Kpt o → H' a = some o
  dom : ∀ a o, H a = some o → ∃ o', H' a = some o'
theorem Ext.keep {io io' : List Addr} {H H' : Hp} (e : Ext io H io' H') (a : Addr) (o : HO) (n : a ∉ io) (q : H a = some o) (d : Kpt o := by exact ⟨fun _ z => (by cases z), fun _ z => (by cases z)⟩) : H' a = some o := e.kp a o n q d
theorem Ext.refl (io : List Addr) (H : Hp) : Ext io H io H := ⟨⟨[], by simp, by simp⟩, fun _ _ _ h _ => h, fun _ o h => ⟨o, h⟩⟩
theorem Ext.none {io io' : List Addr} {H H' : Hp} (e : Ext io H io' H') {a : Addr} (h : H' a = none) : H a = none := by
  cases q : H a with
  | none => rfl
  | some o =>
    obtain ⟨o', q'⟩ := e.dom a o q
    rw [h] at q'
    cases q'
theorem Ext.out {io io' : List Addr} {H H' : Hp} (e : Ext io H io' H') {a : Addr} {o : HO} (h : a ∉ io) (q : H a = some o) : a ∉ io' := by
  obtain ⟨t, rfl, ht⟩ := e.pre
  intro m
  rcases List.mem_append.mp m with m | m
  · exact h m
  · rw [ht a m] at q
    cases q
theorem Ext.trans {io io' io'' : List Addr} {H H' H'' : Hp} (e : Ext io H io' H') (f : Ext io' H' io'' H'') : Ext io H io'' H'' := by
  refine ⟨?_, fun a o h q d => f.kp a o (e.out h q) (e.kp a o h q d) d, fun a o q => ?_⟩
  · obtain ⟨t, rfl, ht⟩ := e.pre
    obtain ⟨u, rfl, hu⟩ := f.pre
    refine ⟨t ++ u, by simp, fun a m => ?_⟩
    rcases List.mem_append.mp m with m | m
    · exact ht a m
    · exact e.none (hu a m)
  · obtain ⟨o', q'⟩ := e.dom a o q
    exact f.dom a o' q'
theorem Ext.get {io io' : List Addr} {H H' : Hp} (e : Ext io H io' H') {n : Nat} {a : Addr} (h : io[n]? = some a) : io'[n]? = some a := by
  obtain ⟨t, rfl, _⟩ := e.pre
  rw [List.getElem?_append_left (List.getElem?_eq_some_iff.mp h).1]
  exact h
section
variable {K : PySem.W.Frag} {ca : Ca} {io io' : List Addr} {H H' : Hp}
mutual
theorem RV.mono (e : Ext io H io' H') : ∀ {w : W} {v : V}, RV K ca io H w v → RV K ca io' H' w v
  | .non, _, h => h
  | .bl _, _, h => h
  | .int _, _, h => h
  | .str _, _, h => h
  | .ty _, _, h => h
  | .cls _, _, h => h
  | .loc n, v, h => by
    obtain ⟨a, rfl, q⟩ := (show ∃ a, v = .ref a ∧ io[n]? = some a from h)
    exact ⟨a, rfl, e.get q⟩
  | .scr ns, v, h => by
    obtain ⟨a, rfl, q⟩ := (show ∃ a, v = .ref a ∧ FzS K io H a (ns.map V.int) from h)
    refine ⟨a, rfl, ?_⟩
    rcases q with ⟨q | ⟨o, q⟩, n⟩ | q
    · exact .inl ⟨.inl (e.keep _ _ n q), e.out n q⟩
    · exact .inl ⟨.inr ⟨o, e.keep _ _ n q⟩, e.out n q⟩
    · exact .inr q
  | .tup xs, v, h => by
    obtain ⟨a, vs, rfl, q, r⟩ := (show ∃ a vs, v = .ref a ∧ FzT io H a vs ∧ RVs K ca io H xs vs from h)
    exact ⟨a, vs, rfl, ⟨e.keep _ _ q.2 q.1, e.out q.2 q.1⟩, RVs.mono e r⟩
  | .ktup xs, v, h => by
    obtain ⟨a, vs, rfl, q, r⟩ := (show ∃ a vs, v = .ref a ∧ WrT K a vs ∧ RVs K ca io H xs vs from h)
    exact ⟨a, vs, rfl, q, RVs.mono e r⟩
  | .lst xs, v, h => by
    obtain ⟨a, vs, rfl, q, r⟩ := (show ∃ a vs, v = .ref a ∧ FzL io H a vs ∧ RVs K ca io H xs vs from h)
    exact ⟨a, vs, rfl, ⟨e.keep _ _ q.2 q.1, e.out q.2 q.1⟩, RVs.mono e r⟩
  | .obj c xs, v, h => by
    obtain ⟨a, dx, vs, rfl, q, n, l, r⟩ := (show ∃ a dx vs, v = .ref a ∧ H a = some (.ins (ca c) dx ((fnames c).zip vs)) ∧ a ∉ io ∧ vs.length ≤ (flds c).length ∧ RVs K ca io H xs vs from h)
    exact ⟨a, dx, vs, rfl, e.keep _ _ n q, e.out n q, l, RVs.mono e r⟩
  | .dct ks xs, v, h => by
    obtain ⟨a, o, vs, rfl, q, n, l, r⟩ := (show ∃ a o vs, v = .ref a ∧ H a = some (.frz o (.dK (ks.zip vs))) ∧ a ∉ io ∧ vs.length = ks.length ∧ RVs K ca io H xs vs from h)
    exact ⟨a, o, vs, rfl, e.keep _ _ n q, e.out n q, l, RVs.mono e r⟩
theorem RVs.mono (e : Ext io H io' H') : ∀ {ws : List W} {vs : List V}, RVs K ca io H ws vs → RVs K ca io' H' ws vs
  | [], _, h => h
  | x :: xs, vs, h => by
    obtain ⟨v, r, rfl, h1, h2⟩ := (show ∃ v r, vs = v :: r ∧ RV K ca io H x v ∧ RVs K ca io H xs r from h)
    exact ⟨v, r, rfl, RV.mono e h1, RVs.mono e h2⟩
end
theorem RE.mono (e : Ext io H io' H') {r : Rho} {σ : L2.St} (h : RE K ca io H r σ) : RE K ca io' H' r σ := ⟨h.1, fun i w q => by
  obtain ⟨v, h1, h2⟩ := h.2 i w q
  exact ⟨v, h1, h2.mono e⟩⟩
theorem RVo.mono (e : Ext io H io' H') {xs : List (Option W)} {vs : List (Option V)} (h : RVo K ca io H xs vs) : RVo K ca io' H' xs vs := fun i w q => by
  obtain ⟨v, h1, h2⟩ := h i w q
  exact ⟨v, h1, h2.mono e⟩
theorem DfT.mono (e : Ext io H io' H') {dv : List V} {dV : Value} (h : DfT io H dv dV) : DfT io' H' dv dV := by
  rcases h with h | ⟨h, tt, h1, h2, h3⟩
  · exact .inl h
  · exact .inr ⟨h, tt, h1, e.keep _ _ h3 h2, e.out h3 h2⟩
theorem RVs.len : ∀ {ws : List W} {vs : List V}, RVs K ca io H ws vs → vs.length = ws.length
  | [], vs, h => by rw [show vs = [] from h] <;> rfl
  | x :: xs, vs, h => by
    obtain ⟨v, r, rfl, _, h2⟩ := (show ∃ v r, vs = v :: r ∧ RV K ca io H x v ∧ RVs K ca io H xs r from h)
    rw [List.length_cons, List.length_cons, RVs.len h2]
theorem RVs.nil : RVs K ca io H [] [] := rfl
theorem RVs.cons {w : W} {v : V} {ws : List W} {vs : List V} (h : RV K ca io H w v) (t : RVs K ca io H ws vs) : RVs K ca io H (w :: ws) (v :: vs) := ⟨v, vs, rfl, h, t⟩
theorem RVs.inv {w : W} {ws : List W} {vs : List V} (h : RVs K ca io H (w :: ws) vs) : ∃ v r, vs = v :: r ∧ RV K ca io H w v ∧ RVs K ca io H ws r := h
theorem RVs.app : ∀ {ws us : List W} {vs xs : List V}, RVs K ca io H ws vs → RVs K ca io H us xs → RVs K ca io H (ws ++ us) (vs ++ xs)
  | [], _, _, _, h, t => by
    cases h
    exact t
  | _ :: _, _, _, _, h, t => by
    obtain ⟨v, r, rfl, h1, h2⟩ := h.inv
    exact .cons h1 (RVs.app h2 t)
theorem RVs.get : ∀ {ws : List W} {vs : List V} {i : Nat} {w : W}, RVs K ca io H ws vs → ws[i]? = some w → ∃ v, vs[i]? = some v ∧ RV K ca io H w v
  | [], _, _, _, _, q => by simp at q
  | _ :: _, _, 0, w, h, q => by
    obtain ⟨v, r, rfl, h1, h2⟩ := h.inv
    simp at q
    subst q
    exact ⟨v, rfl, h1⟩
  | _ :: _, _, i + 1, w, h, q => by
    obtain ⟨v, r, rfl, h1, h2⟩ := h.inv
    simp at q
    obtain ⟨v2, e, h3⟩ := RVs.get h2 q
    exact ⟨v2, by simpa using e, h3⟩
theorem RVs.getV : ∀ {ws : List W} {vs : List V} {i : Nat} {v : V}, RVs K ca io H ws vs → vs[i]? = some v → ∃ w, ws[i]? = some w ∧ RV K ca io H w v
  | [], _, _, _, h, q => by
    cases h
    simp at q
  | w :: _, _, 0, _, h, q => by
    obtain ⟨v, r, rfl, h1, h2⟩ := h.inv
    simp at q
    subst q
    exact ⟨w, rfl, h1⟩
  | _ :: _, _, i + 1, _, h, q => by
    obtain ⟨v, r, rfl, h1, h2⟩ := h.inv
    simp at q
    obtain ⟨v2, e, h3⟩ := RVs.getV h2 q
    exact ⟨v2, by simpa using e, h3⟩
theorem RVs.set : ∀ {ws : List W} {vs : List V} (i : Nat) {w : W} {v : V}, RVs K ca io H ws vs → RV K ca io H w v → RVs K ca io H (ws.set i w) (vs.set i v)
  | [], _, _, _, _, h, _ => by
    cases h
    exact .nil
  | _ :: _, _, 0, _, _, h, q => by
    obtain ⟨v, r, rfl, h1, h2⟩ := h.inv
    exact .cons q h2
  | _ :: _, _, i + 1, _, _, h, q => by
    obtain ⟨v, r, rfl, h1, h2⟩ := h.inv
    exact .cons h1 (RVs.set i h2 q)
theorem RVs.take : ∀ {ws : List W} {vs : List V} (n : Nat), RVs K ca io H ws vs → RVs K ca io H (ws.take n) (vs.take n)
  | _, _, 0, _ => by simp [RVs]
  | [], _, n + 1, h => by
    cases h
    simp [RVs]
  | _ :: _, _, n + 1, h => by
    obtain ⟨v, r, rfl, h1, h2⟩ := h.inv
    exact .cons h1 (RVs.take n h2)
theorem RVs.drop : ∀ {ws : List W} {vs : List V} (n : Nat), RVs K ca io H ws vs → RVs K ca io H (ws.drop n) (vs.drop n)
  | _, _, 0, h => h
  | [], _, n + 1, h => by
    cases h
    exact .nil
  | _ :: _, _, n + 1, h => by
    obtain ⟨v, r, rfl, h1, h2⟩ := h.inv
    exact RVs.drop n h2
theorem RVs.erase : ∀ {ws : List W} {vs : List V} (n : Nat), RVs K ca io H ws vs → RVs K ca io H (ws.eraseIdx n) (vs.eraseIdx n)
  | [], _, _, h => by
    cases h
    exact .nil
  | _ :: _, _, 0, h => by
    obtain ⟨v, r, rfl, h1, h2⟩ := h.inv
    exact h2
  | _ :: _, _, n + 1, h => by
    obtain ⟨v, r, rfl, h1, h2⟩ := h.inv
    exact .cons h1 (RVs.erase n h2)
theorem RVs.ints {ns : List Int} : ∀ {vs : List V}, RVs K ca io H (ns.map W.int) vs → vs = ns.map V.int := by
  induction ns with
  | nil => intro vs h; exact h
  | cons n ns ih =>
    intro vs h
    obtain ⟨v, r, rfl, h1, h2⟩ := h.inv
    rw [ih h2, show v = V.int n from h1] <;> rfl
theorem RVs.of_ints (ns : List Int) : RVs K ca io H (ns.map W.int) (ns.map V.int) := by
  induction ns with
  | nil => exact .nil
  | cons n ns ih => exact .cons rfl ih
end
/-! ### runs -/
inductive Res (α : Type) where
  | ok (a : α) (S : Sto)
  | exc (c : Cl) (ws : List W) (S : Sto)
  | stuck
abbrev M (α : Type) := Rho → Sto → Res α
def mpure {α : Type} (a : α) : M α := fun _ S => .ok a S
def mbind {α β : Type} (m : M α) (f : α → M β) : M β := fun r S => match m r S with
  | .ok a S' => f a r S'
  | .exc c ws S' => .exc c ws S'
  | .stuck => .stuck
instance : Monad M where
  pure := mpure
  bind := mbind
theorem bind_def {α β : Type} (m : M α) (f : α → M β) (r : Rho) (S : Sto) : (m >>= f) r S = (match m r S with
  | .ok a S' => f a r S'
  | .exc c ws S' => .exc c ws S'
  | .stuck => .stuck) := rfl
theorem pure_def {α : Type} (a : α) (r : Rho) (S : Sto) : (pure a : M α) r S = .ok a S := rfl
/-- how an exception with fields lies -/
def RX (K : PySem.W.Frag) (ca : Ca) (io : List Addr) (H : Hp) (c : Cl) (ws : List W) (d : Option Addr) : Prop :=
  match flds c with
  | [] => d = none
  | _ => ∃ dd vs, d = some dd ∧ H dd = some (.xd ((fnames c).zip vs)) ∧ dd ∉ io ∧ vs.length = (flds c).length ∧ RVs K ca io H ws vs
def Post {α : Type} (K : PySem.W.Frag) (ca : Ca) (E : XK) (io : List Addr) (H : Hp) (R : α → List Addr → Hp → Prop) : Res α → Prop
  | .ok a S' => ∀ io' H', Ext io H io' H' → Rl0 K ca io' S' H' → R a io' H'
  | .exc c ws S' => ∀ io' H' d, Ext io H io' H' → Rl0 K ca io' S' H' → RX K ca io' H' c ws d → E (.ref (ca c)) d H'
  | .stuck => False
theorem Post.mono {α : Type} {K : PySem.W.Frag} {ca : Ca} {E : XK} {io io' : List Addr} {H H' : Hp} {R : α → List Addr → Hp → Prop} {r : Res α} (e : Ext io H io' H') (h : Post K ca E io H R r) : Post K ca E io' H' R r := by
  cases r with
  | ok a S => exact fun io2 H2 f z => h io2 H2 (e.trans f) z
  | exc c ws S => exact fun io2 H2 d f z x => h io2 H2 d (e.trans f) z x
  | stuck => exact h
theorem Post.imp {α : Type} {K : PySem.W.Frag} {ca : Ca} {E : XK} {io : List Addr} {H : Hp} {R R' : α → List Addr → Hp → Prop} {r : Res α} (h : Post K ca E io H R r) (i : ∀ a io' H', Ext io H io' H' → R a io' H' → R' a io' H') : Post K ca E io H R' r := by
  cases r with
  | ok a S => exact fun io2 H2 f z => i _ _ _ f (h io2 H2 f z)
  | exc c ws S => exact h
  | stuck => exact h
/-- a run as a reading: of an expression, a list of arguments, a test -/
def tE (K : PySem.W.Frag) (ca : Ca) (E : XK) (m : M W) : TE := fun σ H Q => ∃ io r S, Rl K ca io r S σ H ∧ Post K ca E io H (fun w io' H' => ∀ v, RV K ca io' H' w v → Q v H') (m r S)
def tA (K : PySem.W.Frag) (ca : Ca) (E : XK) (m : M (List W)) : TA := fun σ H Q => ∃ io r S, Rl K ca io r S σ H ∧ Post K ca E io H (fun ws io' H' => ∀ vs, RVs K ca io' H' ws vs → Q vs H') (m r S)
def tT (K : PySem.W.Frag) (ca : Ca) (E : XK) (m : M Bool) : TT := fun σ H Q => ∃ io r S, Rl K ca io r S σ H ∧ Post K ca E io H (fun b io' H' => Q b H') (m r S)
abbrev ME (X : Cx) (ca : Ca) (E : XK) (e : Expr) (m : M W) : Prop := PE X e (tE X.K ca E m)
abbrev MA (X : Cx) (ca : Ca) (E : XK) (es : List Expr) (m : M (List W)) : Prop := PA X es (tA X.K ca E m)
abbrev MT (X : Cx) (ca : Ca) (E : XK) (e : Expr) (m : M Bool) : Prop := PT X e (tT X.K ca E m)
abbrev MW (X : Cx) (ca : Ca) (E : XK) (e : Expr) (m : M Bool) : Prop := PW X e (tT X.K ca E m)
section
variable {K : PySem.W.Frag} {ca : Ca} {E : XK} {io : List Addr} {r : Rho} {S : Sto} {σ : L2.St} {H : Hp} {α : Type} {R : α → List Addr → Hp → Prop}
theorem Rl.mono {io' : List Addr} {S' : Sto} {H' : Hp} (h : Rl K ca io r S σ H) (e : Ext io H io' H') (z : Rl0 K ca io' S' H') : Rl K ca io' r S' σ H' := ⟨z, h.e.mono e⟩
/-- behind an expression the rest runs on -/
theorem tE_bind {m : M W} {f : W → M α} (h : Rl K ca io r S σ H) (p : Post K ca E io H R ((m >>= f) r S)) :
    tE K ca E m σ H (fun v H1 => ∃ io1 S1 w, Ext io H io1 H1 ∧ Rl K ca io1 r S1 σ H1 ∧ RV K ca io1 H1 w v ∧ Post K ca E io1 H1 R (f w r S1)) := by
  refine ⟨io, r, S, h, ?_⟩
  rw [bind_def] at p
  cases q : m r S with
  | ok a S' =>
    rw [q] at p
    exact fun io' H' e z v rv => ⟨io', S', a, e, h.mono e z, rv, p.mono e⟩
  | exc c ws S' =>
    rw [q] at p
    exact p
  | stuck =>
    rw [q] at p
    exact p
theorem tA_bind {m : M (List W)} {f : List W → M α} (h : Rl K ca io r S σ H) (p : Post K ca E io H R ((m >>= f) r S)) :
    tA K ca E m σ H (fun v H1 => ∃ io1 S1 w, Ext io H io1 H1 ∧ Rl K ca io1 r S1 σ H1 ∧ RVs K ca io1 H1 w v ∧ Post K ca E io1 H1 R (f w r S1)) := by
  refine ⟨io, r, S, h, ?_⟩
  rw [bind_def] at p
  cases q : m r S with
  | ok a S' =>
    rw [q] at p
    exact fun io' H' e z v rv => ⟨io', S', a, e, h.mono e z, rv, p.mono e⟩
  | exc c ws S' =>
    rw [q] at p
    exact p
  | stuck =>
    rw [q] at p
    exact p
theorem tT_bind {m : M Bool} {f : Bool → M α} (h : Rl K ca io r S σ H) (p : Post K ca E io H R ((m >>= f) r S)) :
    tT K ca E m σ H (fun b H1 => ∃ io1 S1, Ext io H io1 H1 ∧ Rl K ca io1 r S1 σ H1 ∧ Post K ca E io1 H1 R (f b r S1)) := by
  refine ⟨io, r, S, h, ?_⟩
  rw [bind_def] at p
  cases q : m r S with
  | ok a S' =>
    rw [q] at p
    exact fun io' H' e z => ⟨io', S', e, h.mono e z, p.mono e⟩
  | exc c ws S' =>
    rw [q] at p
    exact p
  | stuck =>
    rw [q] at p
    exact p
theorem Post.done {a : α} {S' : Sto} (p : Post K ca E io H R (.ok a S')) (z : Rl0 K ca io S' H) : R a io H := p io H (Ext.refl io H) z
end
theorem PE.weak {X : Cx} {e : Expr} {t u : TE} (h : PE X e t) (i : ∀ σ H Q, u σ H Q → t σ H Q) : PE X e u := ⟨fun pins s σ H Q I hw => h.run pins s σ H Q I (i σ H Q hw)⟩
theorem PA.weak {X : Cx} {e : List Expr} {t u : TA} (h : PA X e t) (i : ∀ σ H Q, u σ H Q → t σ H Q) : PA X e u := ⟨fun pos pins s σ H Q I hw => h.run pos pins s σ H Q I (i σ H Q hw)⟩
theorem PT.weak {X : Cx} {e : Expr} {t u : TT} (h : PT X e t) (i : ∀ σ H Q, u σ H Q → t σ H Q) : PT X e u := ⟨fun pins s σ H Q I hw => h.run pins s σ H Q I (i σ H Q hw)⟩
theorem PW.weak {X : Cx} {e : Expr} {t u : TT} (h : PW X e t) (i : ∀ σ H Q, u σ H Q → t σ H Q) : PW X e u := ⟨fun whole pins s σ H Q I hw => h.run whole pins s σ H Q I (i σ H Q hw)⟩
end SL
set_option Elab.async false
set_option linter.all false
set_option maxRecDepth 100000
set_option maxHeartbeats 2000000
namespace SL
open PySem PySem.Spec PyProof.Rows L2
/-! ### the store and the heap -/
section
variable {K : PySem.W.Frag} {ca : Ca} {E : XK} {io io' : List Addr} {r : Rho} {S : Sto} {σ : L2.St} {H H' : Hp} {α : Type} {R : α → List Addr → Hp → Prop}
theorem RC.mono {a : Addr} {c : Ce} (e : Ext io H io' H') (s : H' a = H a) (h : RC K ca io H a c) : RC K ca io' H' a c := by
  cases c with
  | lst xs =>
    obtain ⟨vs, h1, h2⟩ := h
    exact ⟨vs, s.trans h1, h2.mono e⟩
  | ins c xs =>
    obtain ⟨dx, vs, h1, h2, h3⟩ := h
    exact ⟨dx, vs, s.trans h1, h2, h3.mono e⟩
  | dk ks xs =>
    obtain ⟨vs, h1, h2, h3⟩ := h
    exact ⟨vs, s.trans h1, h2, h3.mono e⟩
  | dt ks xs =>
    obtain ⟨vs, h1, h2, h3⟩ := h
    exact ⟨vs, s.trans h1, h2, h3.mono e⟩
  | fn k xs =>
    obtain ⟨t, c', dV, h1, h2, h3, h4, h5, h6⟩ := h
    exact ⟨t, c', dV, h1, s.trans h2, h3.mono e, e.kp _ _ h5 h4 ⟨fun ps => LamX.codeO_ne ps, fun kvs z => by
      unfold LamX.CodeO at z
      cases z⟩, e.out h5 h4, h6.mono e⟩
theorem RC.some {a : Addr} {c : Ce} (h : RC K ca io H a c) : ∃ o, H a = some o := by
  cases c with
  | lst xs => exact ⟨_, h.choose_spec.1⟩
  | ins c xs => exact ⟨_, h.choose_spec.choose_spec.1⟩
  | dk ks xs => exact ⟨_, h.choose_spec.1⟩
  | dt ks xs => exact ⟨_, h.choose_spec.1⟩
  | fn k xs =>
    obtain ⟨t, c', dV, h1, h2, _⟩ := h
    exact ⟨_, h2⟩
theorem Rl0.at (h : Rl0 K ca io S H) {n : Nat} {c : Ce} (q : S[n]? = some c) : ∃ a, io[n]? = some a ∧ RC K ca io H a c := by
  have hn : n < io.length := by
    rw [h.len]
    exact (List.getElem?_eq_some_iff.mp q).1
  exact ⟨io[n], List.getElem?_eq_getElem hn, h.ce n c io[n] q (List.getElem?_eq_getElem hn)⟩
theorem Rl0.has (h : Rl0 K ca io S H) {a : Addr} (m : a ∈ io) : ∃ o, H a = some o := by
  obtain ⟨n, hn, rfl⟩ := List.mem_iff_getElem.mp m
  have hs : n < S.length := by
    rw [← h.len]
    exact hn
  exact (h.ce n S[n] io[n] (List.getElem?_eq_getElem hs) (List.getElem?_eq_getElem hn)).some
theorem Rl0.free (h : Rl0 K ca io S H) {p : Addr} (np : H p = none) : p ∉ io := fun m => by
  obtain ⟨o, q⟩ := h.has m
  rw [np] at q
  cases q
/-- a new object that stays as it is -/
theorem ext_new {p : Addr} {o : HO} (np : H p = none) : Ext io H io (upd H p o) := by
  refine ⟨⟨[], by simp, by simp⟩, fun a u _ q _ => ?_, fun a u q => ?_⟩
  · rw [upd_ne (ne_of_none q np)]
    exact q
  · exact ⟨u, by rw [upd_ne (ne_of_none q np)]; exact q⟩
theorem Rl0.new (h : Rl0 K ca io S H) {p : Addr} {o : HO} (np : H p = none) : Rl0 K ca io S (upd H p o) :=
  ⟨h.len, h.nd, fun n c a q q2 => by
    have z := h.ce n c a q q2
    obtain ⟨u, hu⟩ := z.some
    exact z.mono (ext_new np) (upd_ne (ne_of_none hu np)), h.tb.step (fun a _ n => upd_ne fun z => n (z ▸ np)) fun _ m => .inl m⟩
/-- a new object that may change -/
theorem ext_cell {p : Addr} {o : HO} (np : H p = none) : Ext io H (io ++ [p]) (upd H p o) := by
  refine ⟨⟨[p], rfl, fun a m => ?_⟩, fun a u _ q _ => ?_, fun a u q => ?_⟩
  · rw [List.mem_singleton.mp m]
    exact np
  · rw [upd_ne (ne_of_none q np)]
    exact q
  · exact ⟨u, by rw [upd_ne (ne_of_none q np)]; exact q⟩
theorem Rl0.cell (h : Rl0 K ca io S H) {p : Addr} {o : HO} {c : Ce} (np : H p = none) (hc : RC K ca (io ++ [p]) (upd H p o) p c) : Rl0 K ca (io ++ [p]) (S ++ [c]) (upd H p o) := by
  refine ⟨by simp [h.len], ?_, fun n d a q q2 => ?_, h.tb.step (fun a _ n => upd_ne fun z => n (z ▸ np)) fun a m => ?_⟩
  · refine List.nodup_append.mpr ⟨h.nd, by simp, fun a ha b hb => ?_⟩
    have eb := List.mem_singleton.mp hb
    subst eb
    intro e
    subst e
    exact h.free np ha
  · by_cases hn : n < S.length
    · rw [List.getElem?_append_left hn] at q
      rw [List.getElem?_append_left (by rw [h.len]; exact hn)] at q2
      have z := h.ce n d a q q2
      obtain ⟨u, hu⟩ := z.some
      exact z.mono (ext_cell np) (upd_ne (ne_of_none hu np))
    · have e : n = S.length := by
        have l := (List.getElem?_eq_some_iff.mp q).1
        rw [List.length_append, List.length_singleton] at l
        omega
      subst e
      rw [List.getElem?_append_right (Nat.le_refl _), Nat.sub_self] at q
      rw [List.getElem?_append_right (by rw [h.len]; exact Nat.le_refl _), h.len, Nat.sub_self] at q2
      cases q
      cases q2
      exact hc
  · rcases List.mem_append.mp m with m | m
    · exact .inl m
    · rw [List.mem_singleton.mp m]
      exact .inr np
/-- a change -/
theorem ext_put {n : Nat} {a : Addr} {o o' : HO} (hn : io[n]? = some a) (ha : H a = some o) : Ext io H io (upd H a o') := by
  refine ⟨⟨[], by simp, by simp⟩, fun b u nb q _ => ?_, fun b u q => ?_⟩
  · have ne : b ≠ a := fun e => by
      subst e
      exact nb (List.mem_of_getElem? hn)
    rw [upd_ne ne]
    exact q
  · by_cases e : b = a
    · exact ⟨o', by rw [e, upd_same]⟩
    · exact ⟨u, by rw [upd_ne e]; exact q⟩
theorem Rl0.put (h : Rl0 K ca io S H) {n : Nat} {a : Addr} {o o' : HO} {c : Ce} (hn : io[n]? = some a) (ha : H a = some o) (hc : RC K ca io (upd H a o') a c) : Rl0 K ca io (S.set n c) (upd H a o') := by
  refine ⟨by simp [h.len], h.nd, fun m d b q q2 => ?_, h.tb.step (fun b nb _ => upd_ne fun z => nb (by rw [z]; exact List.mem_of_getElem? hn)) fun _ m => .inl m⟩
  by_cases e : m = n
  · subst e
    rw [hn] at q2
    cases q2
    have hl : m < S.length := by
      rw [← h.len]
      exact (List.getElem?_eq_some_iff.mp hn).1
    rw [List.getElem?_set_self hl] at q
    cases q
    exact hc
  · rw [List.getElem?_set_ne (fun z => e z.symm)] at q
    have nb : b ≠ a := fun z => by
      subst z
      obtain ⟨l1, e1⟩ := List.getElem?_eq_some_iff.mp hn
      obtain ⟨l2, e2⟩ := List.getElem?_eq_some_iff.mp q2
      exact e ((List.getElem_inj h.nd).mp (e2.trans e1.symm))
    exact (h.ce m d b q q2).mono (ext_put hn ha) (upd_ne nb)
theorem tE_imp {m : M W} {Q Q' : VK} (h : tE K ca E m σ H Q) (i : ∀ v H', Q v H' → Q' v H') : tE K ca E m σ H Q' := by
  obtain ⟨io, r, S, l, p⟩ := h
  exact ⟨io, r, S, l, p.imp fun w io' H' _ q v rv => i v H' (q v rv)⟩
theorem tA_imp {m : M (List W)} {Q Q' : List V → Hp → Prop} (h : tA K ca E m σ H Q) (i : ∀ v H', Q v H' → Q' v H') : tA K ca E m σ H Q' := by
  obtain ⟨io, r, S, l, p⟩ := h
  exact ⟨io, r, S, l, p.imp fun w io' H' _ q v rv => i v H' (q v rv)⟩
theorem tT_imp {m : M Bool} {Q Q' : Bool → Hp → Prop} (h : tT K ca E m σ H Q) (i : ∀ v H', Q v H' → Q' v H') : tT K ca E m σ H Q' := by
  obtain ⟨io, r, S, l, p⟩ := h
  exact ⟨io, r, S, l, p.imp fun w io' H' _ q => i w H' q⟩
end
/-! ### the value of a name, a constant -/
def mVar (i : Nat) : M W := fun r S => match r[i]? with
  | some (some w) => .ok w S
  | _ => .stuck
def mC (w : W) : M W := fun _ S => .ok w S
section
variable {X : Cx} {ca : Ca} {E : XK}
theorem me_var (i : Nat) {x : Str} {pos : Pos} (hN : X.N[i]? = some x := by rfl) (hv : Vis X.env.scope x := by first | exact Or.inl rfl | exact Or.inr (Or.inl rfl) | exact Or.inr (Or.inr rfl)) (hd : (x == ("__debug__" : Str)) = false := by decide)
    (hcd : (x == ("__classdict__" : Str)) = false := by decide) : ME X ca E (.Name x pos) (mVar i) := by
  refine PE.weak (pe_var hN hv hd hcd) fun σ H Q h => ?_
  obtain ⟨io, r, S, l, p⟩ := h
  unfold mVar at p
  split at p
  · rename_i w q
    obtain ⟨v, hv, rv⟩ := l.e.2 i w q
    exact ⟨v, hv, p.done l.z v rv⟩
  · exact p.elim
theorem me_c {e : Expr} {v : V} {w : W} (h : PE X e (tC v)) (q : ∀ io H, RV X.K ca io H w v) : ME X ca E e (mC w) := by
  refine PE.weak h fun σ H Q h => ?_
  obtain ⟨io, r, S, l, p⟩ := h
  exact p.done l.z v (q _ _)
theorem me_int {i j pos} : ME X ca E (.Constant (.int i) j pos) (mC (.int i)) := me_c pe_int fun _ _ => rfl
theorem me_bl {b j pos} : ME X ca E (.Constant (.bool b) j pos) (mC (.bl b)) := me_c pe_bl fun _ _ => rfl
theorem me_str {x j pos} : ME X ca E (.Constant (.str x) j pos) (mC (.str x)) := me_c pe_str fun _ _ => rfl
theorem me_non {j pos} : ME X ca E (.Constant .none j pos) (mC .non) := me_c pe_non fun _ _ => rfl
theorem me_gint {x : Str} {i : Int} {pos : Pos} (hm : ∃ t, X.mg x = some (.int i t)) (hg : Gl X x := by rfl) (hd : (x == ("__debug__" : Str)) = false := by decide) : ME X ca E (.Name x pos) (mC (.int i)) := by
  obtain ⟨t, hm⟩ := hm
  exact me_c (pe_glob hg hm (v := .int i) ⟨t, rfl⟩ hd) fun _ _ => rfl
theorem me_gstr {x z : Str} {pos : Pos} (hm : ∃ t, X.mg x = some (.str z t)) (hg : Gl X x := by rfl) (hd : (x == ("__debug__" : Str)) = false := by decide) : ME X ca E (.Name x pos) (mC (.str z)) := by
  obtain ⟨t, hm⟩ := hm
  exact me_c (pe_glob hg hm (v := .str z) ⟨t, rfl⟩ hd) fun _ _ => rfl
/-- a module's tuple -/
theorem me_gtup {x : Str} {a : Addr} {vs : List V} {ws : List W} {pos : Pos} (hm : X.mg x = some (.ref a)) (hw : WrT X.K a vs) (hr : ∀ io H, RVs X.K ca io H ws vs) (hg : Gl X x := by rfl) (hd : (x == ("__debug__" : Str)) = false := by decide) : ME X ca E (.Name x pos) (mC (.ktup ws)) :=
  me_c (pe_glob hg hm (v := .ref a) rfl hd) fun io H => ⟨a, vs, rfl, hw, hr io H⟩
theorem me_bty {x : Str} {n : String} {pos : Pos} (hm : X.mg x = none) (hv : bootBuiltins x = some (.type n)) (hg : Gl X x := by rfl) (hn : x ≠ "__name__" := by decide) (hd : (x == ("__debug__" : Str)) = false := by decide) : ME X ca E (.Name x pos) (mC (.ty n)) :=
  me_c (pe_bltn hg hm hv (v := .ty n) rfl hn hd) fun _ _ => rfl
/-! ### operators -/
abbrev Op2 := W → W → Sto → Res W
def mOp (f : Op2) (a b : M W) : M W := do
  let x ← a
  let y ← b
  fun _ S => f x y S
def r2 (K : PySem.W.Frag) (ca : Ca) (E : XK) (f : Op2) : R2 := fun x y H Q => ∃ io S a b, Rl0 K ca io S H ∧ RV K ca io H a x ∧ RV K ca io H b y ∧ Post K ca E io H (fun w io' H' => ∀ v, RV K ca io' H' w v → Q v H') (f a b S)
def OpM (X : Cx) (ca : Ca) (E : XK) (g : Value → Value → Sem Value) (f : Op2) : Prop := OpR X g (r2 X.K ca E f)
theorem op_imp {K : PySem.W.Frag} {f : Op2} {ma mb : M W} {σ : L2.St} {H : Hp} {Q : VK} (h : tE K ca E (mOp f ma mb) σ H Q) : tOp (r2 K ca E f) (tE K ca E ma) (tE K ca E mb) σ H Q := by
  obtain ⟨io, r, S, l, p⟩ := h
  refine tE_imp (tE_bind l p) fun v H1 ⟨io1, S1, w, e1, l1, rv, p1⟩ => ?_
  refine tE_imp (tE_bind l1 p1) fun u H2 ⟨io2, S2, w2, e2, l2, ru, p2⟩ => ?_
  exact ⟨io2, S2, w, w2, l2.z, rv.mono e2, ru, p2⟩
theorem me_op {op : Operator} {f : Op2} {a b : Expr} {ma mb : M W} {pos : Pos} (ho : OpM X ca E (binaryOp op) f) (ha : ME X ca E a ma) (hb : ME X ca E b mb) : ME X ca E (.BinOp a op b pos) (mOp f ma mb) :=
  PE.weak (pe_op ho ha hb) fun σ H Q h => op_imp h
theorem me_cmp {op : CmpOp} {f : Op2} {a b : Expr} {ma mb : M W} {pos : Pos} (ho : OpM X ca E (compareOp op) f) (ha : ME X ca E a ma) (hb : ME X ca E b mb) (hm : behindInMarks op b = false := by first | exact nomark _ (by decide) (by decide) | rfl) : ME X ca E (.Compare a [op] [b] pos) (mOp f ma mb) :=
  PE.weak (pe_cmpR ho ha hb hm) fun σ H Q h => op_imp h
/-- a value that must be a truth value -/
def mB (m : M W) : M Bool := do
  let w ← m
  match w with
  | .bl b => pure b
  | _ => fun _ _ => .stuck
theorem tB_imp {K : PySem.W.Frag} {m : M W} {σ : L2.St} {H : Hp} {Q : Bool → Hp → Prop} (h : tT K ca E (mB m) σ H Q) : tE K ca E m σ H (fun v H1 => ∃ k, v = .bl k ∧ Q k H1) := by
  obtain ⟨io, r, S, l, p⟩ := h
  refine tE_imp (tE_bind l p) fun v H1 ⟨io1, S1, w, e1, l1, rv, p1⟩ => ?_
  cases w <;> first | exact False.elim p1 | skip
  exact ⟨_, rv, p1.done l1.z⟩
theorem mt_cmp {op : CmpOp} {f : Op2} {a b : Expr} {ma mb : M W} {pos : Pos} (ho : OpM X ca E (compareOp op) f) (ha : ME X ca E a ma) (hb : ME X ca E b mb) (hm : behindInMarks op b = false := by first | exact nomark _ (by decide) (by decide) | rfl) : MT X ca E (.Compare a [op] [b] pos) (mB (mOp f ma mb)) :=
  PT.weak (pt_cmpR ho ha hb hm) fun σ H Q h => op_imp (tB_imp h)
/-- any other expression that gives a truth value -/
theorem mt_val {e : Expr} {m : M W} (h : ME X ca E e m) (he : ∀ whole, isTrue e X.env whole = (do let v ← whole; standAt e.pos; holding [v] (truthy v)) := by intro _; rfl) : MT X ca E e (mB m) :=
  PT.weak (pt_val h he) fun σ H Q h => tB_imp h
def mNot (m : M Bool) : M Bool := do
  let b ← m
  pure (!b)
theorem mt_not {a : Expr} {m : M Bool} {pos : Pos} (h : MT X ca E a m) : MT X ca E (.UnaryOp .Not a pos) (mNot m) := by
  refine PT.weak (pt_not h) fun σ H Q h => ?_
  obtain ⟨io, r, S, l, p⟩ := h
  exact tT_imp (tT_bind l p) fun b H1 ⟨io1, S1, e1, l1, p1⟩ => p1.done l1.z
def mAnd (a b : M Bool) : M Bool := do
  let c ← a
  if c then b else pure false
def mOr (a b : M Bool) : M Bool := do
  let c ← a
  if c then pure true else b
theorem mw_and1 {a : Expr} {m : M Bool} {pos : Pos} (h : MT X ca E a m) : MW X ca E (.BoolOp .And [a] pos) m := pw_and1 h
theorem mw_or1 {a : Expr} {m : M Bool} {pos : Pos} (h : MT X ca E a m) : MW X ca E (.BoolOp .Or [a] pos) m := pw_or1 h
theorem mw_and {a b : Expr} {rest : List Expr} {ma mb : M Bool} {pos : Pos} (ha : MT X ca E a ma) (hb : MW X ca E (.BoolOp .And (b :: rest) pos) mb) : MW X ca E (.BoolOp .And (a :: b :: rest) pos) (mAnd ma mb) := by
  refine PW.weak (pw_and ha hb) fun σ H Q h => ?_
  obtain ⟨io, r, S, l, p⟩ := h
  refine tT_imp (tT_bind l p) fun b H1 ⟨io1, S1, e1, l1, p1⟩ => ?_
  cases b with
  | true => exact iteT ⟨io1, r, S1, l1, p1⟩
  | false => exact iteF (p1.done l1.z)
theorem mw_or {a b : Expr} {rest : List Expr} {ma mb : M Bool} {pos : Pos} (ha : MT X ca E a ma) (hb : MW X ca E (.BoolOp .Or (b :: rest) pos) mb) : MW X ca E (.BoolOp .Or (a :: b :: rest) pos) (mOr ma mb) := by
  refine PW.weak (pw_or ha hb) fun σ H Q h => ?_
  obtain ⟨io, r, S, l, p⟩ := h
  refine tT_imp (tT_bind l p) fun b H1 ⟨io1, S1, e1, l1, p1⟩ => ?_
  cases b with
  | true => exact iteT (p1.done l1.z)
  | false => exact iteF ⟨io1, r, S1, l1, p1⟩
theorem mt_bool {e : Expr} {m : M Bool} (h : MW X ca E e m) : MT X ca E e m := h.pt
/-! and, or, not as values: all but the last True or False -/
def mAndV (a b : M W) : M W := do
  let x ← a
  match x with
  | .bl true => b
  | .bl false => pure (.bl false)
  | _ => fun _ _ => .stuck
def mOrV (a b : M W) : M W := do
  let x ← a
  match x with
  | .bl true => pure (.bl true)
  | .bl false => b
  | _ => fun _ _ => .stuck
def mNotV (a : M W) : M W := do
  let x ← a
  match x with
  | .bl c => pure (.bl (!c))
  | _ => fun _ _ => .stuck
theorem me_one {op} {a : Expr} {m : M W} {pos : Pos} (h : ME X ca E a m) : ME X ca E (.BoolOp op [a] pos) m := pe_one h
theorem me_and {a b : Expr} {rest : List Expr} {ma mb : M W} {pos : Pos} (ha : ME X ca E a ma) (hb : ME X ca E (.BoolOp .And (b :: rest) pos) mb) : ME X ca E (.BoolOp .And (a :: b :: rest) pos) (mAndV ma mb) := by
  refine PE.weak (pe_and ha hb) fun σ H Q h => ?_
  obtain ⟨io, r, S, l, p⟩ := h
  refine tE_imp (tE_bind l p) fun v H1 ⟨io1, S1, w, e1, l1, rv, p1⟩ => ?_
  cases w <;> first | exact False.elim p1 | skip
  rename_i b
  refine ⟨b, rv, ?_⟩
  cases b with
  | true => exact iteT ⟨io1, r, S1, l1, p1⟩
  | false => exact iteF (p1.done l1.z _ rfl)
theorem me_or {a b : Expr} {rest : List Expr} {ma mb : M W} {pos : Pos} (ha : ME X ca E a ma) (hb : ME X ca E (.BoolOp .Or (b :: rest) pos) mb) : ME X ca E (.BoolOp .Or (a :: b :: rest) pos) (mOrV ma mb) := by
  refine PE.weak (pe_or ha hb) fun σ H Q h => ?_
  obtain ⟨io, r, S, l, p⟩ := h
  refine tE_imp (tE_bind l p) fun v H1 ⟨io1, S1, w, e1, l1, rv, p1⟩ => ?_
  cases w <;> first | exact False.elim p1 | skip
  rename_i b
  refine ⟨b, rv, ?_⟩
  cases b with
  | true => exact iteT (p1.done l1.z _ rfl)
  | false => exact iteF ⟨io1, r, S1, l1, p1⟩
theorem me_not {a : Expr} {m : M W} {pos : Pos} (h : ME X ca E a m) : ME X ca E (.UnaryOp .Not a pos) (mNotV m) := by
  refine PE.weak (pe_not h) fun σ H Q h => ?_
  obtain ⟨io, r, S, l, p⟩ := h
  refine tE_imp (tE_bind l p) fun v H1 ⟨io1, S1, w, e1, l1, rv, p1⟩ => ?_
  cases w <;> first | exact False.elim p1 | skip
  exact ⟨_, rv, p1.done l1.z _ rfl⟩
def mIf {α : Type} (t : M Bool) (a b : M α) : M α := do
  let c ← t
  if c then a else b
theorem me_if {c a b : Expr} {mt : M Bool} {ma mb : M W} {pos : Pos} (hc : MT X ca E c mt) (ha : ME X ca E a ma) (hb : ME X ca E b mb) : ME X ca E (.IfExp c a b pos) (mIf mt ma mb) := by
  refine PE.weak (pe_ifExp hc ha hb) fun σ H Q h => ?_
  obtain ⟨io, r, S, l, p⟩ := h
  refine tT_imp (tT_bind l p) fun b H1 ⟨io1, S1, e1, l1, p1⟩ => ?_
  cases b with
  | true => exact iteT ⟨io1, r, S1, l1, p1⟩
  | false => exact iteF ⟨io1, r, S1, l1, p1⟩
/-- a op b op2 c -/
def mChain (f g : Op2) (a b c : M W) : M W := do
  let x ← a
  let y ← b
  let z ← (fun _ S => f x y S : M W)
  match z with
  | .bl true => do
    let u ← c
    fun _ S => g y u S
  | .bl false => pure (.bl false)
  | _ => fun _ _ => .stuck
theorem chain_imp {K : PySem.W.Frag} {f g : Op2} {ma mb mc : M W} {σ : L2.St} {H : Hp} {Q : VK} (h : tE K ca E (mChain f g ma mb mc) σ H Q) : tChain (r2 K ca E f) (r2 K ca E g) (tE K ca E ma) (tE K ca E mb) (tE K ca E mc) σ H Q := by
  obtain ⟨io, r, S, l, p⟩ := h
  refine tE_imp (tE_bind l p) fun v H1 ⟨io1, S1, w, e1, l1, rv, p1⟩ => ?_
  refine tE_imp (tE_bind l1 p1) fun u H2 ⟨io2, S2, w2, e2, l2, ru, p2⟩ => ?_
  refine ⟨io2, S2, w, w2, l2.z, rv.mono e2, ru, ?_⟩
  rw [bind_def] at p2
  cases q : f w w2 S2 with
  | stuck =>
    simp only [q] at p2
    exact p2.elim
  | exc c ws S' =>
    simp only [q] at p2
    exact p2
  | ok z S' =>
    simp only [q] at p2
    intro io3 H3 e3 z3 v3 rv3
    have l3 := l2.mono e3 z3
    cases z <;> first | exact False.elim p2 | skip
    rename_i k
    refine ⟨k, rv3, ?_⟩
    cases k with
    | false => exact iteF (p2 io3 H3 e3 z3 _ rfl)
    | true =>
      refine iteT ?_
      have p3 := Post.mono e3 p2
      refine tE_imp (tE_bind l3 p3) fun v4 H4 ⟨io4, S4, w4, e4, l4, rv4, p4⟩ => ?_
      exact ⟨io4, S4, w2, w4, l4.z, (ru.mono e3).mono e4, rv4, p4⟩
theorem me_chain {op op' : CmpOp} {f g : Op2} {a b c : Expr} {ma mb mc : M W} {pos : Pos} (ho : OpM X ca E (compareOp op) f) (ho' : OpM X ca E (compareOp op') g) (ha : ME X ca E a ma) (hb : ME X ca E b mb) (hc : ME X ca E c mc)
    (hm : lastMarks [op, op'] [b, c] = false := by with_unfolding_all rfl) : ME X ca E (.Compare a [op, op'] [b, c] pos) (mChain f g ma mb mc) :=
  PE.weak (pe_chain ho ho' ha hb hc hm) fun σ H Q h => chain_imp h
end
end SL
set_option Elab.async false
set_option linter.all false
set_option maxRecDepth 100000
set_option maxHeartbeats 2000000
namespace SL
open PySem PySem.Spec PyProof.Rows L2
theorem lim_le {n : Nat} (h : n ≤ 16000000) : n ≤ sizeLine := by
  rw [sizeLine_eq]
  omega
theorem lim_lt {n : Nat} (h : n < 16000000) : n < sizeLine := by
  rw [sizeLine_eq]
  omega
/-! ### a list as it stands -/
def getL (S : Sto) : W → Option (List W)
  | .lst xs => some xs
  | .loc n => match S[n]? with
    | some (.lst xs) => some xs
    | _ => none
  | _ => none
/-- a list or a tuple -/
def getQ (S : Sto) : W → Option (List W)
  | .tup xs => some xs
  | .ktup xs => some xs
  | w => getL S w
def seeL (S : Sto) : W → W
  | .loc n => match S[n]? with
    | some (.lst xs) => .lst xs
    | _ => .loc n
  | w => w
mutual
def dat : W → Option PyData
  | .non => some .none
  | .bl b => some (.bool b)
  | .int i => some (.int i)
  | .str s => some (.str s)
  | .tup xs => (dats xs).map .tuple
  | .lst xs => (dats xs).map .list
  | .ktup _ | .ty _ | .cls _ | .loc _ | .scr _ | .obj _ _ | .dct _ _ => none
def dats : List W → Option (List PyData)
  | [] => some []
  | x :: xs => match dat x, dats xs with
    | some d, some ds => some (d :: ds)
    | _, _ => none
end
section
variable {K : PySem.W.Frag} {ca : Ca} {E : XK} {io : List Addr} {S : Sto} {H : Hp}
theorem getL_ok (z : Rl0 K ca io S H) {w : W} {v : V} {xs : List W} (h : RV K ca io H w v) (g : getL S w = some xs) : ∃ a vs, v = .ref a ∧ H a = some (.lst vs) ∧ RVs K ca io H xs vs := by
  cases w <;> first | (simp [getL] at g; done) | skip
  · rename_i n
    obtain ⟨a, rfl, q⟩ := (show ∃ a, v = .ref a ∧ io[n]? = some a from h)
    unfold getL at g
    cases e : S[n]? with
    | none => simp [e] at g
    | some c =>
      cases c <;> simp [e] at g
      subst g
      obtain ⟨a2, q2, vs, h1, h2⟩ := z.at e
      rw [q] at q2
      cases q2
      exact ⟨a, vs, rfl, h1, h2⟩
  · rename_i ys
    obtain ⟨a, vs, rfl, q, r⟩ := (show ∃ a vs, v = .ref a ∧ FzL io H a vs ∧ RVs K ca io H ys vs from h)
    simp [getL] at g
    subst g
    exact ⟨a, vs, rfl, q.1, r⟩
theorem getQ_ok (z : Rl0 K ca io S H) {w : W} {v : V} {xs : List W} (h : RV K ca io H w v) (g : getQ S w = some xs) : ∃ a vs, v = .ref a ∧ (SqL K H a vs ∨ SqT K H a vs) ∧ RVs K ca io H xs vs := by
  by_cases t : ∃ ys, w = .tup ys
  · obtain ⟨ys, rfl⟩ := t
    obtain ⟨a, vs, rfl, q, r⟩ := (show ∃ a vs, v = .ref a ∧ FzT io H a vs ∧ RVs K ca io H ys vs from h)
    simp [getQ] at g
    subst g
    exact ⟨a, vs, rfl, .inr q.sq, r⟩
  · by_cases t2 : ∃ ys, w = .ktup ys
    · obtain ⟨ys, rfl⟩ := t2
      obtain ⟨a, vs, rfl, q, r⟩ := (show ∃ a vs, v = .ref a ∧ WrT K a vs ∧ RVs K ca io H ys vs from h)
      simp [getQ] at g
      subst g
      exact ⟨a, vs, rfl, .inr q.sq, r⟩
    have g2 : getL S w = some xs := by
      cases w <;> first | exact g | exact absurd ⟨_, rfl⟩ t | exact absurd ⟨_, rfl⟩ t2
    obtain ⟨a, vs, e, q, r⟩ := getL_ok z h g2
    exact ⟨a, vs, e, .inl (.of q), r⟩
mutual
theorem dat_ok : ∀ {w : W} {v : V} {d : PyData}, RV K ca io H w v → dat w = some d → Dp K H v d
  | .non, v, d, h, e => by
    cases (show v = .non from h)
    simp [dat] at e
    subst e
    exact .non
  | .bl b, v, d, h, e => by
    cases (show v = .bl b from h)
    simp [dat] at e
    subst e
    exact .bl b
  | .int b, v, d, h, e => by
    cases (show v = .int b from h)
    simp [dat] at e
    subst e
    exact .int b
  | .str b, v, d, h, e => by
    cases (show v = .str b from h)
    simp [dat] at e
    subst e
    exact .str b
  | .tup xs, v, d, h, e => by
    obtain ⟨a, vs, rfl, q, r⟩ := (show ∃ a vs, v = .ref a ∧ FzT io H a vs ∧ RVs K ca io H xs vs from h)
    simp only [dat, Option.map_eq_some_iff] at e
    obtain ⟨ds, e1, rfl⟩ := e
    exact .tup q.sq (dats_ok r e1)
  | .lst xs, v, d, h, e => by
    obtain ⟨a, vs, rfl, q, r⟩ := (show ∃ a vs, v = .ref a ∧ FzL io H a vs ∧ RVs K ca io H xs vs from h)
    simp only [dat, Option.map_eq_some_iff] at e
    obtain ⟨ds, e1, rfl⟩ := e
    exact .lst q.sq (dats_ok r e1)
  | .ty _, _, _, _, e => by simp [dat] at e
  | .cls _, _, _, _, e => by simp [dat] at e
  | .loc _, _, _, _, e => by simp [dat] at e
  | .scr _, _, _, _, e => by simp [dat] at e
  | .obj _ _, _, _, _, e => by simp [dat] at e
  | .dct _ _, _, _, _, e => by simp [dat] at e
  | .ktup _, _, _, _, e => by simp [dat] at e
theorem dats_ok : ∀ {ws : List W} {vs : List V} {ds : List PyData}, RVs K ca io H ws vs → dats ws = some ds → DpAll K H vs ds
  | [], vs, ds, h, e => by
    cases (show vs = [] from h)
    simp [dats] at e
    subst e
    exact .nil
  | x :: xs, vs, ds, h, e => by
    obtain ⟨v, r, rfl, h1, h2⟩ := h.inv
    unfold dats at e
    cases e1 : dat x with
    | none => simp [e1] at e
    | some d =>
      cases e2 : dats xs with
      | none => simp [e1, e2] at e
      | some ds2 =>
        simp [e1, e2] at e
        subst e
        exact .cons (dat_ok h1 e1) (dats_ok h2 e2)
end
theorem see_ok (z : Rl0 K ca io S H) {w : W} {v : V} {d : PyData} (h : RV K ca io H w v) (e : dat (seeL S w) = some d) : Dp K H v d := by
  cases w <;> first | exact dat_ok h e | skip
  rename_i n
  obtain ⟨a, rfl, q⟩ := (show ∃ a, v = .ref a ∧ io[n]? = some a from h)
  unfold seeL at e
  cases e2 : S[n]? with
  | none => simp [e2, dat] at e
  | some c =>
    cases c <;> simp [e2, dat] at e
    obtain ⟨ds, e3, rfl⟩ := e
    obtain ⟨a2, q2, vs, h1, h2⟩ := z.at e2
    rw [q] at q2
    cases q2
    exact .lst (.of h1) (dats_ok h2 e3)
theorem RV.tupI {xs : List W} {v : V} (h : RV K ca io H (.tup xs) v) : ∃ a vs, v = .ref a ∧ FzT io H a vs ∧ RVs K ca io H xs vs := h
theorem RV.lstI {xs : List W} {v : V} (h : RV K ca io H (.lst xs) v) : ∃ a vs, v = .ref a ∧ FzL io H a vs ∧ RVs K ca io H xs vs := h
theorem RV.objI {c : Cl} {xs : List W} {v : V} (h : RV K ca io H (.obj c xs) v) : ∃ a dx vs, v = .ref a ∧ H a = some (.ins (ca c) dx ((fnames c).zip vs)) ∧ a ∉ io ∧ vs.length ≤ (flds c).length ∧ RVs K ca io H xs vs := h
theorem RV.locI {n : Nat} {v : V} (h : RV K ca io H (.loc n) v) : ∃ a, v = .ref a ∧ io[n]? = some a := h
/-- a new list | tuple that stays as it is -/
theorem Post.newL {R : W → List Addr → Hp → Prop} {xs : List W} {vs : List V} {p : Addr} (h : Post K ca E io H R (.ok (.lst xs) S)) (z : Rl0 K ca io S H) (np : H p = none) : R (.lst xs) io (upd H p (.lst vs)) := h io _ (ext_new np) (z.new np)
theorem Post.newW {R : W → List Addr → Hp → Prop} {w : W} {o : HO} {p : Addr} (h : Post K ca E io H R (.ok w S)) (z : Rl0 K ca io S H) (np : H p = none) : R w io (upd H p o) := h io _ (ext_new np) (z.new np)
theorem rv_newL {xs : List W} {vs : List V} {p : Addr} (z : Rl0 K ca io S H) (np : H p = none) (r : RVs K ca io H xs vs) : RV K ca io (upd H p (.lst vs)) (.lst xs) (.ref p) := ⟨p, vs, rfl, ⟨upd_same, z.free np⟩, r.mono (ext_new np)⟩
theorem rv_newT {xs : List W} {vs : List V} {p : Addr} (z : Rl0 K ca io S H) (np : H p = none) (r : RVs K ca io H xs vs) : RV K ca io (upd H p (.tup vs)) (.tup xs) (.ref p) := ⟨p, vs, rfl, ⟨upd_same, z.free np⟩, r.mono (ext_new np)⟩
end
/-! ### arithmetic -/
def opAdd : Op2 := fun a b S => match a, b with
  | .int i, .int j => .ok (.int (i + j)) S
  | .str x, .str y => if x.length + y.length ≤ 16000000 then .ok (.str (x ++ y)) S else .stuck
  | .tup xs, .tup ys => if xs.length + ys.length ≤ 16000000 then .ok (.tup (xs ++ ys)) S else .stuck
  | a, b => match getL S a, getL S b with
    | some xs, some ys => if xs.length + ys.length ≤ 16000000 then .ok (.lst (xs ++ ys)) S else .stuck
    | _, _ => .stuck
def opSub : Op2 := fun a b S => match a, b with
  | .int i, .int j => .ok (.int (i - j)) S
  | _, _ => .stuck
/-- a size in bits that the product, the quotient may have -/
def opMul : Op2 := fun a b S => match a, b with
  | .int i, .int j => if (-(2 ^ 64) < i ∧ i < 2 ^ 64) ∨ (-(2 ^ 64) < j ∧ j < 2 ^ 64) then .ok (.int (i * j)) S else .stuck
  | a, .int k => match getL S a with
    | some xs => if 0 ≤ k ∧ k < 1000 ∧ xs.length < 1000 then .ok (.lst (List.replicate k.toNat xs).flatten) S else .stuck
    | none => .stuck
  | _, _ => .stuck
def opFDiv : Op2 := fun a b S => match a, b with
  | .int i, .int j => if 0 < j ∧ j < 1073741824 then .ok (.int (i / j)) S else .stuck
  | _, _ => .stuck
def opMod : Op2 := fun a b S => match a, b with
  | .int i, .int j => if 0 < j then .ok (.int (i % j)) S else .stuck
  | _, _ => .stuck
def opEq : Op2 := fun a b S => match dat (seeL S a), dat (seeL S b) with
  | some d, some e => if SeqAt.shaped d && SeqAt.shaped e then .ok (.bl (PyData.eqv d e)) S else .stuck
  | _, _ => .stuck
def opNe : Op2 := fun a b S => match dat (seeL S a), dat (seeL S b) with
  | some d, some e => if SeqAt.shaped d && SeqAt.shaped e then .ok (.bl (!PyData.eqv d e)) S else .stuck
  | _, _ => .stuck
def intsOf : List W → Option (List Int)
  | [] => some []
  | .int i :: xs => match intsOf xs with
    | some is => some (i :: is)
    | none => none
  | _ => none
theorem intsOf_eq : ∀ {xs : List W} {ns : List Int}, intsOf xs = some ns → xs = ns.map W.int
  | [], ns, h => by simp [intsOf] at h; subst h; rfl
  | x :: xs, ns, h => by
    cases x <;> simp [intsOf] at h
    rename_i i
    cases e : intsOf xs with
    | none => simp [e] at h
    | some is =>
      simp [e] at h
      subst h
      rw [intsOf_eq e]
      rfl
theorem intsOf_map (ns : List Int) : intsOf (ns.map W.int) = some ns := by
  induction ns with
  | nil => rfl
  | cons n ns ih => simp [intsOf, ih]
def opLt : Op2 := fun a b S => match a, b with
  | .int i, .int j => .ok (.bl (decide (i < j))) S
  | .tup xs, .tup ys => match intsOf xs, intsOf ys with
    | some ns, some ms => .ok (.bl (HT.lexLt ns ms)) S
    | _, _ => .stuck
  | _, _ => .stuck
def opLe : Op2 := fun a b S => match a, b with
  | .int i, .int j => .ok (.bl (decide (i ≤ j))) S
  | _, _ => .stuck
def opGt : Op2 := fun a b S => match a, b with
  | .int i, .int j => .ok (.bl (decide (j < i))) S
  | _, _ => .stuck
def opGe : Op2 := fun a b S => match a, b with
  | .int i, .int j => .ok (.bl (decide (j ≤ i))) S
  | _, _ => .stuck
def isNon : W → Bool
  | .non => true
  | _ => false
def opIsN : Op2 := fun a b S => match b with
  | .non => .ok (.bl (isNon a)) S
  | _ => .stuck
def opNotN : Op2 := fun a b S => match b with
  | .non => .ok (.bl (!isNon a)) S
  | .bl c => match a with
    | .bl d => .ok (.bl (!decide (d = c))) S
    | _ => .stuck
  | _ => .stuck
section
variable {X : Cx} {ca : Ca} {E : XK}
theorem isNon_ok {K : PySem.W.Frag} {io : List Addr} {H : Hp} {w : W} {v : V} (h : RV K ca io H w v) : decide (v = .non) = isNon w := by
  cases w with
  | non => cases (show v = _ from h); rfl
  | bl b => cases (show v = _ from h); rfl
  | int b => cases (show v = _ from h); rfl
  | str b => cases (show v = _ from h); rfl
  | ty b => cases (show v = _ from h); rfl
  | cls b => cases (show v = _ from h); rfl
  | loc n => obtain ⟨a, rfl, _⟩ := h.locI; rfl
  | scr ns => obtain ⟨a, rfl, _⟩ := (show ∃ a, v = .ref a ∧ FzS K io H a (ns.map V.int) from h); rfl
  | tup xs => obtain ⟨a, _, rfl, _⟩ := h.tupI; rfl
  | ktup xs => obtain ⟨a, _, rfl, _⟩ := (show ∃ a vs, v = .ref a ∧ WrT K a vs ∧ RVs K ca io H xs vs from h); rfl
  | lst xs => obtain ⟨a, _, rfl, _⟩ := h.lstI; rfl
  | obj c xs => obtain ⟨a, _, _, rfl, _⟩ := h.objI; rfl
  | dct ks xs => obtain ⟨a, _, _, rfl, _⟩ := (show ∃ a o vs, v = .ref a ∧ H a = some (.frz o (.dK (ks.zip vs))) ∧ a ∉ io ∧ vs.length = ks.length ∧ RVs K ca io H xs vs from h); rfl
theorem om_add : OpM X ca E (binaryOp .Add) opAdd := by
  intro pins s σ H x y v u Q I rx ry h
  obtain ⟨io, S, a, b, z, ra, rb, p⟩ := h
  unfold opAdd at p
  split at p
  · cases (show x = _ from ra)
    cases (show y = _ from rb)
    exact op_add pins s σ H _ _ v u Q I rx ry ⟨_, _, rfl, rfl, p.done z _ rfl⟩
  · cases (show x = _ from ra)
    cases (show y = _ from rb)
    split at p
    · rename_i hl
      exact op_add_str pins s σ H _ _ v u Q I rx ry ⟨_, _, rfl, rfl, lim_le hl, p.done z _ rfl⟩
    · exact p.elim
  · obtain ⟨a1, vs, rfl, q, r⟩ := ra.tupI
    obtain ⟨a2, us, rfl, q2, r2⟩ := rb.tupI
    split at p
    · rename_i hl
      rw [← r.len, ← r2.len] at hl
      refine op_catA pins s σ H _ _ v u Q I rx ry ⟨_, _, _, _, rfl, rfl, q.sq, q2.sq, lim_le hl, fun e => ?_, fun _ e => ?_, fun _ _ l hl => ?_⟩
      · refine p.done z _ ⟨a2, us, rfl, q2, ?_⟩
        have := r.app r2
        rwa [e] at this
      · refine p.done z _ ⟨a1, vs, rfl, q, ?_⟩
        have := r.app r2
        rwa [e, List.append_nil] at this
      · exact p.newW z hl _ (rv_newT z hl (r.app r2))
    · exact p.elim
  · split at p
    · rename_i e1 e2
      obtain ⟨a1, vs, rfl, q, r⟩ := getL_ok z ra e1
      obtain ⟨a2, us, rfl, q2, r2⟩ := getL_ok z rb e2
      split at p
      · rename_i hl
        rw [← r.len, ← r2.len] at hl
        exact op_cat pins s σ H _ _ v u Q I rx ry ⟨_, _, _, _, rfl, rfl, q, q2, lim_le hl, fun l hl => p.newW z hl _ (rv_newL z hl (r.app r2))⟩
      · exact p.elim
    · exact p.elim
theorem om_sub : OpM X ca E (binaryOp .Sub) opSub := by
  intro pins s σ H x y v u Q I rx ry h
  obtain ⟨io, S, a, b, z, ra, rb, p⟩ := h
  unfold opSub at p
  split at p
  · cases (show x = _ from ra)
    cases (show y = _ from rb)
    exact op_sub pins s σ H _ _ v u Q I rx ry ⟨_, _, rfl, rfl, p.done z _ rfl⟩
  · exact p.elim
theorem RVs.rep {K : PySem.W.Frag} {io : List Addr} {H : Hp} {ws : List W} {vs : List V} (h : RVs K ca io H ws vs) : ∀ n : Nat, RVs K ca io H (List.replicate n ws).flatten (List.replicate n vs).flatten
  | 0 => .nil
  | n + 1 => by
    rw [List.replicate_succ, List.replicate_succ, List.flatten_cons, List.flatten_cons]
    exact h.app (RVs.rep h n)
theorem om_mul : OpM X ca E (binaryOp .Mult) opMul := by
  intro pins s σ H x y v u Q I rx ry h
  obtain ⟨io, S, a, b, z, ra, rb, p⟩ := h
  unfold opMul at p
  split at p
  · cases (show x = _ from ra)
    cases (show y = _ from rb)
    split at p
    · rename_i hl
      exact op_mul pins s σ H _ _ v u Q I rx ry ⟨_, _, rfl, rfl, hl, p.done z _ rfl⟩
    · exact p.elim
  · cases (show y = _ from rb)
    split at p
    · rename_i e1
      obtain ⟨a1, vs, rfl, q, r⟩ := getL_ok z ra e1
      split at p
      · rename_i hk
        obtain ⟨h0, h1, h2⟩ := hk
        rw [← r.len] at h2
        refine op_rep pins s σ H _ _ v u Q I rx ry ⟨_, _, _, rfl, rfl, q, by omega, by omega, ?_, fun l hl => ?_⟩
        · refine lim_le (Nat.le_trans (Nat.mul_le_mul (Nat.le_of_lt h2) (Int.toNat_le.mpr (Int.le_of_lt h1))) (by decide))
        · exact p.newW z hl _ (rv_newL z hl (r.rep _))
      · exact p.elim
    · exact p.elim
  · exact p.elim
theorem om_fdiv : OpM X ca E (binaryOp .FloorDiv) opFDiv := by
  intro pins s σ H x y v u Q I rx ry h
  obtain ⟨io, S, a, b, z, ra, rb, p⟩ := h
  unfold opFDiv at p
  split at p
  · cases (show x = _ from ra)
    cases (show y = _ from rb)
    split at p
    · rename_i hl
      exact op_fdiv pins s σ H _ _ v u Q I rx ry ⟨_, _, rfl, rfl, hl, p.done z _ rfl⟩
    · exact p.elim
  · exact p.elim
theorem om_mod : OpM X ca E (binaryOp .Mod) opMod := by
  intro pins s σ H x y v u Q I rx ry h
  obtain ⟨io, S, a, b, z, ra, rb, p⟩ := h
  unfold opMod at p
  split at p
  · cases (show x = _ from ra)
    cases (show y = _ from rb)
    split at p
    · rename_i hl
      exact op_mod pins s σ H _ _ v u Q I rx ry ⟨_, _, rfl, rfl, hl, p.done z _ rfl⟩
    · exact p.elim
  · exact p.elim
theorem om_eq (hu : X.A.units + 64 < cLine) : OpM X ca E (compareOp .Eq) opEq := by
  intro pins s σ H x y v u Q I rx ry h
  obtain ⟨io, S, a, b, z, ra, rb, p⟩ := h
  unfold opEq at p
  split at p
  · rename_i e1 e2
    split at p
    · rename_i hs
      obtain ⟨h1, h2⟩ := Bool.and_eq_true_iff.mp hs
      exact op_eqD hu pins s σ H _ _ v u Q I rx ry ⟨_, _, see_ok z ra e1, see_ok z rb e2, h1, h2, p.done z _ rfl⟩
    · exact p.elim
  · exact p.elim
theorem om_ne (hu : X.A.units + 64 < cLine) : OpM X ca E (compareOp .NotEq) opNe := by
  intro pins s σ H x y v u Q I rx ry h
  obtain ⟨io, S, a, b, z, ra, rb, p⟩ := h
  unfold opNe at p
  split at p
  · rename_i e1 e2
    split at p
    · rename_i hs
      obtain ⟨h1, h2⟩ := Bool.and_eq_true_iff.mp hs
      exact op_neD hu pins s σ H _ _ v u Q I rx ry ⟨_, _, see_ok z ra e1, see_ok z rb e2, h1, h2, p.done z _ rfl⟩
    · exact p.elim
  · exact p.elim
theorem om_lt (hu : X.A.units < cLine) : OpM X ca E (compareOp .Lt) opLt := by
  intro pins s σ H x y v u Q I rx ry h
  obtain ⟨io, S, a, b, z, ra, rb, p⟩ := h
  unfold opLt at p
  split at p
  · cases (show x = _ from ra)
    cases (show y = _ from rb)
    exact op_lt pins s σ H _ _ v u Q I rx ry ⟨_, _, rfl, rfl, p.done z _ rfl⟩
  · obtain ⟨a1, vs, rfl, q, r⟩ := ra.tupI
    obtain ⟨a2, us, rfl, q2, r2⟩ := rb.tupI
    split at p
    · rename_i e1 e2
      rw [intsOf_eq e1] at r
      rw [intsOf_eq e2] at r2
      have h1 := r.ints
      have h2 := r2.ints
      subst h1 h2
      exact op_ltT hu pins s σ H _ _ v u Q I rx ry ⟨_, _, _, _, rfl, rfl, q.sq, q2.sq, p.done z _ rfl⟩
    · exact p.elim
  · exact p.elim
theorem om_le : OpM X ca E (compareOp .LtE) opLe := by
  intro pins s σ H x y v u Q I rx ry h
  obtain ⟨io, S, a, b, z, ra, rb, p⟩ := h
  unfold opLe at p
  split at p
  · cases (show x = _ from ra)
    cases (show y = _ from rb)
    exact op_le pins s σ H _ _ v u Q I rx ry ⟨_, _, rfl, rfl, p.done z _ rfl⟩
  · exact p.elim
theorem om_gt : OpM X ca E (compareOp .Gt) opGt := by
  intro pins s σ H x y v u Q I rx ry h
  obtain ⟨io, S, a, b, z, ra, rb, p⟩ := h
  unfold opGt at p
  split at p
  · cases (show x = _ from ra)
    cases (show y = _ from rb)
    exact op_gt pins s σ H _ _ v u Q I rx ry ⟨_, _, rfl, rfl, p.done z _ rfl⟩
  · exact p.elim
theorem om_ge : OpM X ca E (compareOp .GtE) opGe := by
  intro pins s σ H x y v u Q I rx ry h
  obtain ⟨io, S, a, b, z, ra, rb, p⟩ := h
  unfold opGe at p
  split at p
  · cases (show x = _ from ra)
    cases (show y = _ from rb)
    exact op_ge pins s σ H _ _ v u Q I rx ry ⟨_, _, rfl, rfl, p.done z _ rfl⟩
  · exact p.elim
theorem om_isN : OpM X ca E (compareOp .Is) opIsN := by
  intro pins s σ H x y v u Q I rx ry h
  obtain ⟨io, S, a, b, z, ra, rb, p⟩ := h
  unfold opIsN at p
  split at p
  · cases (show y = _ from rb)
    refine op_isN pins s σ H _ _ v u Q I rx ry ⟨rfl, ?_⟩
    rw [isNon_ok ra]
    exact p.done z _ rfl
  · exact p.elim
theorem om_notN : OpM X ca E (compareOp .IsNot) opNotN := by
  intro pins s σ H x y v u Q I rx ry h
  obtain ⟨io, S, a, b, z, ra, rb, p⟩ := h
  unfold opNotN at p
  split at p
  · cases (show y = _ from rb)
    refine op_notN pins s σ H _ _ v u Q I rx ry ⟨rfl, ?_⟩
    rw [isNon_ok ra]
    exact p.done z _ rfl
  · cases (show y = _ from rb)
    split at p
    · cases (show x = _ from ra)
      exact op_isnot_bl pins s σ H _ _ v u Q I rx ry ⟨_, _, rfl, rfl, p.done z _ rfl⟩
    · exact p.elim
  · exact p.elim
end
end SL
set_option Elab.async false
set_option linter.all false
set_option maxRecDepth 100000
set_option maxHeartbeats 2000000
namespace SL
open PySem PySem.Spec PyProof.Rows L2
/-! ### what a call hands back: its own changing objects do not change any more -/
def frzL (f : W → Option W) : List W → Option (List W)
  | [] => some []
  | x :: xs => match f x, frzL f xs with
    | some y, some ys => some (y :: ys)
    | _, _ => none
def frz : Nat → Sto → Nat → W → Option W
  | 0, _, _, _ => none
  | k + 1, S, n, w => match w with
    | .tup xs => (frzL (frz k S n) xs).map W.tup
    | .lst xs => (frzL (frz k S n) xs).map W.lst
    | .obj c xs => (frzL (frz k S n) xs).map (W.obj c)
    | .dct ks xs => (frzL (frz k S n) xs).map (W.dct ks)
    | .ktup xs => (frzL (frz k S n) xs).map W.ktup
    | .loc m => if m < n then some (.loc m) else match S[m]? with
      | some (.lst xs) => (frzL (frz k S n) xs).map W.lst
      | some (.ins c xs) => (frzL (frz k S n) xs).map (W.obj c)
      | _ => none
    | w => some w
mutual
/-- only objects below n -/
def clo (n : Nat) : W → Bool
  | .loc m => decide (m < n)
  | .tup xs => clos n xs
  | .lst xs => clos n xs
  | .obj _ xs => clos n xs
  | .dct _ xs => clos n xs
  | .ktup xs => clos n xs
  | .non | .bl _ | .int _ | .str _ | .ty _ | .cls _ | .scr _ => true
def clos (n : Nat) : List W → Bool
  | [] => true
  | x :: xs => clo n x && clos n xs
end
def cloC (n : Nat) : Ce → Bool
  | .lst xs => clos n xs
  | .ins _ xs => clos n xs
  | .dk _ xs => clos n xs
  | .dt _ xs => clos n xs
  | .fn _ xs => xs.all fun x => match x with
    | some w => clo n w
    | none => true
/-- the objects below n are as they were, or hold only such -/
def Kept (S S' : Sto) : Prop := S.length ≤ S'.length ∧ ∀ (n : Nat) (c : Ce), n < S.length → S'[n]? = some c → S[n]? = some c ∨ cloC S.length c = true
section
variable {K : PySem.W.Frag} {ca : Ca} {E : XK} {io t : List Addr} {S S' : Sto} {H H' : Hp}
mutual
theorem RV.clo : ∀ {w : W} {v : V}, RV K ca io H w v → clo io.length w = true
  | .non, _, _ => rfl
  | .bl _, _, _ => rfl
  | .int _, _, _ => rfl
  | .str _, _, _ => rfl
  | .ty _, _, _ => rfl
  | .cls _, _, _ => rfl
  | .scr _, _, _ => rfl
  | .loc n, v, h => by
    obtain ⟨a, rfl, q⟩ := h.locI
    exact decide_eq_true (List.getElem?_eq_some_iff.mp q).1
  | .tup xs, v, h => by
    obtain ⟨a, vs, rfl, q, r⟩ := h.tupI
    exact RVs.clos r
  | .lst xs, v, h => by
    obtain ⟨a, vs, rfl, q, r⟩ := h.lstI
    exact RVs.clos r
  | .ktup xs, v, h => by
    obtain ⟨a, vs, rfl, q, r⟩ := (show ∃ a vs, v = .ref a ∧ WrT K a vs ∧ RVs K ca io H xs vs from h)
    exact RVs.clos r
  | .obj c xs, v, h => by
    obtain ⟨a, dx, vs, rfl, q, n, l, r⟩ := h.objI
    exact RVs.clos r
  | .dct ks xs, v, h => by
    obtain ⟨a, o, vs, rfl, q, n, l, r⟩ := (show ∃ a o vs, v = .ref a ∧ H a = some (.frz o (.dK (ks.zip vs))) ∧ a ∉ io ∧ vs.length = ks.length ∧ RVs K ca io H xs vs from h)
    exact RVs.clos r
theorem RVs.clos : ∀ {ws : List W} {vs : List V}, RVs K ca io H ws vs → clos io.length ws = true
  | [], _, _ => rfl
  | x :: xs, vs, h => by
    obtain ⟨v, r, rfl, h1, h2⟩ := h.inv
    unfold SL.clos
    rw [RV.clo h1, RVs.clos h2]
    rfl
end
theorem not_app {a : Addr} (h : a ∉ io ++ t) : a ∉ io := fun m => h (List.mem_append_left _ m)
mutual
theorem RV.shrink : ∀ {w : W} {v : V}, RV K ca (io ++ t) H w v → SL.clo io.length w = true → RV K ca io H w v
  | .non, _, h, _ => h
  | .bl _, _, h, _ => h
  | .int _, _, h, _ => h
  | .str _, _, h, _ => h
  | .ty _, _, h, _ => h
  | .cls _, _, h, _ => h
  | .scr ns, v, h, _ => by
    obtain ⟨a, rfl, q⟩ := (show ∃ a, v = .ref a ∧ FzS K (io ++ t) H a (ns.map V.int) from h)
    refine ⟨a, rfl, ?_⟩
    rcases q with ⟨q, n⟩ | q
    · exact .inl ⟨q, not_app n⟩
    · exact .inr q
  | .loc n, v, h, e => by
    obtain ⟨a, rfl, q⟩ := h.locI
    refine ⟨a, rfl, ?_⟩
    rw [List.getElem?_append_left (of_decide_eq_true e)] at q
    exact q
  | .tup xs, v, h, e => by
    obtain ⟨a, vs, rfl, q, r⟩ := h.tupI
    exact ⟨a, vs, rfl, ⟨q.1, not_app q.2⟩, RVs.shrink r e⟩
  | .ktup xs, v, h, e => by
    obtain ⟨a, vs, rfl, q, r⟩ := (show ∃ a vs, v = .ref a ∧ WrT K a vs ∧ RVs K ca (io ++ t) H xs vs from h)
    exact ⟨a, vs, rfl, q, RVs.shrink r e⟩
  | .lst xs, v, h, e => by
    obtain ⟨a, vs, rfl, q, r⟩ := h.lstI
    exact ⟨a, vs, rfl, ⟨q.1, not_app q.2⟩, RVs.shrink r e⟩
  | .obj c xs, v, h, e => by
    obtain ⟨a, dx, vs, rfl, q, n, l, r⟩ := h.objI
    exact ⟨a, dx, vs, rfl, q, not_app n, l, RVs.shrink r e⟩
  | .dct ks xs, v, h, e => by
    obtain ⟨a, o, vs, rfl, q, n, l, r⟩ := (show ∃ a o vs, v = .ref a ∧ H a = some (.frz o (.dK (ks.zip vs))) ∧ a ∉ io ++ t ∧ vs.length = ks.length ∧ RVs K ca (io ++ t) H xs vs from h)
    exact ⟨a, o, vs, rfl, q, not_app n, l, RVs.shrink r e⟩
theorem RVs.shrink : ∀ {ws : List W} {vs : List V}, RVs K ca (io ++ t) H ws vs → SL.clos io.length ws = true → RVs K ca io H ws vs
  | [], _, h, _ => h
  | x :: xs, vs, h, e => by
    obtain ⟨v, r, rfl, h1, h2⟩ := h.inv
    unfold SL.clos at e
    obtain ⟨e1, e2⟩ := Bool.and_eq_true_iff.mp e
    exact .cons (RV.shrink h1 e1) (RVs.shrink h2 e2)
end
theorem RC.shrink {a : Addr} {c : Ce} (h : RC K ca (io ++ t) H a c) (e : cloC io.length c = true) : RC K ca io H a c := by
  cases c with
  | lst xs =>
    obtain ⟨vs, h1, h2⟩ := h
    exact ⟨vs, h1, h2.shrink e⟩
  | ins c xs =>
    obtain ⟨dx, vs, h1, h2, h3⟩ := h
    exact ⟨dx, vs, h1, h2, h3.shrink e⟩
  | dk ks xs =>
    obtain ⟨vs, h1, h2, h3⟩ := h
    exact ⟨vs, h1, h2, h3.shrink e⟩
  | dt ks xs =>
    obtain ⟨vs, h1, h2, h3⟩ := h
    exact ⟨vs, h1, h2, h3.shrink e⟩
  | fn k xs =>
    obtain ⟨s, c', dV, h1, h2, h3, h4, h5, h6⟩ := h
    refine ⟨s, c', dV, h1, h2, ?_, h4, not_app h5, fun i w q => ?_⟩
    · rcases h3 with h3 | ⟨h3, tt, k1, k2, k3⟩
      · exact .inl h3
      · exact .inr ⟨h3, tt, k1, k2, not_app k3⟩
    · obtain ⟨v, k1, k2⟩ := h6 i w q
      exact ⟨v, k1, k2.shrink (List.all_eq_true.mp e _ (List.mem_of_getElem? q))⟩
theorem RC.cloC {a : Addr} {c : Ce} (h : RC K ca io H a c) : SL.cloC io.length c = true := by
  cases c with
  | lst xs =>
    obtain ⟨vs, h1, h2⟩ := h
    exact h2.clos
  | ins c xs =>
    obtain ⟨dx, vs, h1, h2, h3⟩ := h
    exact h3.clos
  | dk ks xs =>
    obtain ⟨vs, h1, h2, h3⟩ := h
    exact h3.clos
  | dt ks xs =>
    obtain ⟨vs, h1, h2, h3⟩ := h
    exact h3.clos
  | fn k xs =>
    obtain ⟨s, c', dV, h1, h2, h3, h4, h5, h6⟩ := h
    refine List.all_eq_true.mpr fun x hx => ?_
    cases x with
    | none => rfl
    | some w =>
      obtain ⟨i, hi, e⟩ := List.mem_iff_getElem.mp hx
      obtain ⟨v, k1, k2⟩ := h6 i w (by rw [List.getElem?_eq_getElem hi, e])
      exact k2.clo
theorem Rl0.shrink (z0 : Rl0 K ca io S H) (z : Rl0 K ca (io ++ t) S' H') (k : Kept S S') : Rl0 K ca io (S'.take S.length) H' := by
  have l := z.len
  rw [List.length_append] at l
  refine ⟨by rw [List.length_take, z0.len]; have := k.1; omega, z0.nd, fun n c a q q2 => ?_, z.tb.less⟩
  have hn : n < S.length := by
    have := (List.getElem?_eq_some_iff.mp q).1
    rw [List.length_take] at this
    omega
  rw [List.getElem?_take_of_lt hn] at q
  have r := z.ce n c a q (by rw [List.getElem?_append_left (by rw [z0.len]; exact hn)]; exact q2)
  refine r.shrink ?_
  rw [z0.len]
  rcases k.2 n c hn q with e | e
  · have := (z0.ce n c a e q2).cloC
    rwa [z0.len] at this
  · exact e
theorem frzL_ok {f : W → Option W} : ∀ {ws : List W} {vs : List V} {us : List W}, (∀ w v u, RV K ca (io ++ t) H w v → f w = some u → RV K ca io H u v) → RVs K ca (io ++ t) H ws vs → frzL f ws = some us → RVs K ca io H us vs
  | [], vs, us, hf, h, e => by
    cases (show vs = [] from h)
    simp [frzL] at e
    subst e
    exact .nil
  | w :: ws, vs, us, hf, h, e => by
    obtain ⟨v, r, rfl, h1, h2⟩ := h.inv
    unfold frzL at e
    cases e1 : f w with
    | none => simp [e1] at e
    | some u =>
      cases e2 : frzL f ws with
      | none => simp [e1, e2] at e
      | some us2 =>
        simp [e1, e2] at e
        subst e
        exact .cons (hf _ _ _ h1 e1) (frzL_ok hf h2 e2)
theorem frz_ok (z : Rl0 K ca (io ++ t) S' H) : ∀ (k : Nat) (w : W) (v : V) (u : W), RV K ca (io ++ t) H w v → frz k S' io.length w = some u → RV K ca io H u v
  | 0, _, _, _, _, e => by simp [frz] at e
  | k + 1, w, v, u, h, e => by
    have ih := frz_ok z k
    unfold frz at e
    split at e
    · rename_i xs
      obtain ⟨ys, e1, rfl⟩ := Option.map_eq_some_iff.mp e
      obtain ⟨a, vs, rfl, q, r⟩ := h.tupI
      exact ⟨a, vs, rfl, ⟨q.1, not_app q.2⟩, frzL_ok (fun w v u => ih w v u) r e1⟩
    · rename_i xs
      obtain ⟨ys, e1, rfl⟩ := Option.map_eq_some_iff.mp e
      obtain ⟨a, vs, rfl, q, r⟩ := h.lstI
      exact ⟨a, vs, rfl, ⟨q.1, not_app q.2⟩, frzL_ok (fun w v u => ih w v u) r e1⟩
    · rename_i c xs
      obtain ⟨ys, e1, rfl⟩ := Option.map_eq_some_iff.mp e
      obtain ⟨a, dx, vs, rfl, q, n, l, r⟩ := h.objI
      exact ⟨a, dx, vs, rfl, q, not_app n, l, frzL_ok (fun w v u => ih w v u) r e1⟩
    · rename_i ks xs
      obtain ⟨ys, e1, rfl⟩ := Option.map_eq_some_iff.mp e
      obtain ⟨a, o, vs, rfl, q, n, l, r⟩ := (show ∃ a o vs, v = .ref a ∧ H a = some (.frz o (.dK (ks.zip vs))) ∧ a ∉ io ++ t ∧ vs.length = ks.length ∧ RVs K ca (io ++ t) H xs vs from h)
      exact ⟨a, o, vs, rfl, q, not_app n, l, frzL_ok (fun w v u => ih w v u) r e1⟩
    · rename_i xs
      obtain ⟨ys, e1, rfl⟩ := Option.map_eq_some_iff.mp e
      obtain ⟨a, vs, rfl, q, r⟩ := (show ∃ a vs, v = .ref a ∧ WrT K a vs ∧ RVs K ca (io ++ t) H xs vs from h)
      exact ⟨a, vs, rfl, q, frzL_ok (fun w v u => ih w v u) r e1⟩
    · rename_i m
      obtain ⟨a, rfl, q⟩ := h.locI
      split at e
      · rename_i hm
        cases e
        rw [List.getElem?_append_left hm] at q
        exact ⟨a, rfl, q⟩
      · rename_i hm
        have na : a ∉ io := fun hi => by
          obtain ⟨i, hi, ei⟩ := List.mem_iff_getElem.mp hi
          have q3 : (io ++ t)[i]? = some a := by rw [List.getElem?_append_left hi, List.getElem?_eq_getElem hi, ei]
          obtain ⟨l1, e1⟩ := List.getElem?_eq_some_iff.mp q
          obtain ⟨l2, e2⟩ := List.getElem?_eq_some_iff.mp q3
          have := (List.getElem_inj z.nd).mp (e1.trans e2.symm)
          omega
        cases e2 : S'[m]? with
        | none => simp [e2] at e
        | some c =>
          obtain ⟨a2, q2, rc⟩ := z.at e2
          rw [q] at q2
          cases q2
          cases c with
          | lst xs =>
            simp only [e2] at e
            obtain ⟨ys, e1, rfl⟩ := Option.map_eq_some_iff.mp e
            obtain ⟨vs, h1, h2⟩ := rc
            exact ⟨a, vs, rfl, ⟨h1, na⟩, frzL_ok (fun w v u => ih w v u) h2 e1⟩
          | ins c xs =>
            simp only [e2] at e
            obtain ⟨ys, e1, rfl⟩ := Option.map_eq_some_iff.mp e
            obtain ⟨dx, vs, h1, h2, h3⟩ := rc
            exact ⟨a, dx, vs, rfl, h1, na, h2, frzL_ok (fun w v u => ih w v u) h3 e1⟩
          | dk ks xs => simp [e2] at e
          | dt ks xs => simp [e2] at e
          | fn k xs => simp [e2] at e
    · cases e
      refine h.shrink ?_
      cases w <;> first | rfl | (exfalso; rename_i hx1 hx2 hx3 hx4 hx6 hx5; first | exact hx1 _ rfl | exact hx2 _ rfl | exact hx3 _ _ rfl | exact hx4 _ _ rfl | exact hx5 _ rfl | exact hx6 _ rfl)
end
/-! ### defs -/
abbrev FnM := List W → Sto → Res W
/-- a def's promise: it does what the run g does -/
def spM (K : PySem.W.Frag) (ca : Ca) (g : FnM) : Sp := fun vs H Q E => ∃ io ws S, Rl0 K ca io S H ∧ RVs K ca io H ws vs ∧ Post K ca E io H (fun w io' H' => ∀ v, RV K ca io' H' w v → Q v H') (g ws S)
open Classical in
/-- a run's end with its own changing objects locked -/
noncomputable def frR (S : Sto) : Res W → Res W
  | .ok w S' => if Kept S S' then match frz 16 S' S.length w with
      | some u => .ok u (S'.take S.length)
      | none => .stuck
    else .stuck
  | .exc c ws S' => if Kept S S' then match frzL (frz 16 S' S.length) ws with
      | some us => .exc c us (S'.take S.length)
      | none => .stuck
    else .stuck
  | .stuck => .stuck
noncomputable def frF (g : FnM) : FnM := fun ws S => frR S (g ws S)
theorem post_fr {K : PySem.W.Frag} {ca : Ca} {E : XK} {io : List Addr} {H : Hp} {S : Sto} {Q : VK} {r : Res W} (z : Rl0 K ca io S H) (p : Post K ca E io H (fun w io' H' => ∀ v, RV K ca io' H' w v → Q v H') (frR S r)) :
    Post K ca E io H (fun w io' H' => ∀ v, RV K ca io' H' w v → Q v H') r := by
  cases r with
  | ok w S' =>
    dsimp only [frR] at p
    split at p
    · rename_i hk
      split at p
      · rename_i u hu
        intro io' H' e z' v rv
        obtain ⟨t, rfl, ht⟩ := e.pre
        rw [← z.len] at hu
        refine p io H' ⟨⟨[], by simp, by simp⟩, e.kp, e.dom⟩ (z.shrink z' hk) v (frz_ok z' 16 w v u rv hu)
      · exact p.elim
    · exact p.elim
  | exc c ws S' =>
    dsimp only [frR] at p
    split at p
    · rename_i hk
      split at p
      · rename_i us hu
        intro io' H' d e z' rx
        obtain ⟨t, rfl, ht⟩ := e.pre
        rw [← z.len] at hu
        refine p io H' d ⟨⟨[], by simp, by simp⟩, e.kp, e.dom⟩ (z.shrink z' hk) ?_
        unfold RX at rx ⊢
        split at rx
        · exact rx
        · obtain ⟨dd, vs, e1, e2, e3, e4, e5⟩ := rx
          exact ⟨dd, vs, e1, e2, not_app e3, e4, frzL_ok (fun w v u => frz_ok z' 16 w v u) e5 hu⟩
      · exact p.elim
    · exact p.elim
  | stuck => exact p
theorem spM_fr {K : PySem.W.Frag} {ca : Ca} {g : FnM} {vs : List V} {H : Hp} {Q : VK} {E : XK} (h : spM K ca (frF g) vs H Q E) : spM K ca g vs H Q E := by
  obtain ⟨io, ws, S, z, r, p⟩ := h
  exact ⟨io, ws, S, z, r, post_fr z p⟩
/-- a def of the module, by its run -/
abbrev Fm (P : Program) (w : World) (K : PySem.W.Frag) (mg : Str → Option Value) (base : Heap) (ca : Ca) (k : Nat) (f : Addr) (g : FnM) : Prop := FnR P w K mg base (L2.CX P w) k f (spM K ca g)
theorem Fm.fr {P : Program} {w : World} {K : PySem.W.Frag} {mg : Str → Option Value} {base : Heap} {ca : Ca} {k : Nat} {f : Addr} {g : FnM} (F : Fm P w K mg base ca k f g) : Fm P w K mg base ca k f (frF g) :=
  FnR.imp F fun _ _ _ _ h => spM_fr h
end SL
set_option Elab.async false
set_option linter.all false
set_option maxRecDepth 100000
set_option maxHeartbeats 2000000
namespace SL
open PySem PySem.Spec PyProof.Rows L2
/-! ### items, slices -/
def opIx : Op2 := fun a b S => match b with
  | .int i => match a with
    | .str z => if z.length ≤ 16000000 then match atI z.cps.toList i with
        | some c => .ok (.str ⟨#[c]⟩) S
        | none => .stuck
      else .stuck
    | a => match getQ S a with
      | some xs => match atI xs i with
        | some w => .ok w S
        | none => .stuck
      | none => .stuck
  | _ => .stuck
def cutX {α : Type} (xs : List α) (lo hi : Option Int) : List α := (xs.drop (HT.sIx xs.length 0 lo)).take (HT.sIx xs.length xs.length hi - HT.sIx xs.length 0 lo)
def opCut (lo hi : Option Int) : W → Sto → Res W := fun a S => match a with
  | .str z => if z.length ≤ 16000000 then .ok (.str (cutS z lo hi)) S else .stuck
  | .tup xs => .ok (.tup (cutX xs lo hi)) S
  | a => match getL S a with
    | some xs => .ok (.lst (cutX xs lo hi)) S
    | none => .stuck
def mPart (m : M W) : M (Option Int) := do
  let w ← m
  match w with
  | .int i => pure (some i)
  | _ => fun _ _ => .stuck
def mNoPart : M (Option Int) := pure none
def mCut (m : M W) (lo hi : M (Option Int)) : M W := do
  let x ← m
  let l ← lo
  let u ← hi
  fun _ S => opCut l u x S
def tO (K : PySem.W.Frag) (ca : Ca) (E : XK) (m : M (Option Int)) : TO := fun σ H Q => ∃ io r S, Rl K ca io r S σ H ∧ Post K ca E io H (fun o io' H' => Q o H') (m r S)
theorem PO.weak {X : Cx} {e : Option Expr} {t u : TO} (h : PO X e t) (i : ∀ σ H Q, u σ H Q → t σ H Q) : PO X e u := ⟨fun pins s σ H Q I hw => h.run pins s σ H Q I (i σ H Q hw)⟩
section
variable {K : PySem.W.Frag} {ca : Ca} {E : XK} {io : List Addr} {r : Rho} {S : Sto} {σ : L2.St} {H : Hp} {α : Type} {R : α → List Addr → Hp → Prop}
theorem RVs.atI {ws : List W} {vs : List V} {i : Int} {w : W} (h : RVs K ca io H ws vs) (q : L2.atI ws i = some w) : ∃ v, L2.atI vs i = some v ∧ RV K ca io H w v := by
  unfold L2.atI at q ⊢
  rw [h.len]
  cases e : ixN ws.length i with
  | none => simp [e] at q
  | some j =>
    simp only [e, Option.bind_some] at q ⊢
    exact h.get q
theorem RVs.cut {ws : List W} {vs : List V} (lo hi : Option Int) (h : RVs K ca io H ws vs) : RVs K ca io H (cutX ws lo hi) (cutV vs lo hi) := by
  unfold cutX cutV
  rw [h.len]
  exact (h.drop _).take _
theorem tO_bind {m : M (Option Int)} {f : Option Int → M α} (h : Rl K ca io r S σ H) (p : Post K ca E io H R ((m >>= f) r S)) :
    tO K ca E m σ H (fun o H1 => ∃ io1 S1, Ext io H io1 H1 ∧ Rl K ca io1 r S1 σ H1 ∧ Post K ca E io1 H1 R (f o r S1)) := by
  refine ⟨io, r, S, h, ?_⟩
  rw [bind_def] at p
  cases q : m r S with
  | ok a S' =>
    rw [q] at p
    exact fun io' H' e z => ⟨io', S', e, h.mono e z, p.mono e⟩
  | exc c ws S' =>
    rw [q] at p
    exact p
  | stuck =>
    rw [q] at p
    exact p
theorem tO_imp {m : M (Option Int)} {Q Q' : Option Int → Hp → Prop} (h : tO K ca E m σ H Q) (i : ∀ v H', Q v H' → Q' v H') : tO K ca E m σ H Q' := by
  obtain ⟨io, r, S, l, p⟩ := h
  exact ⟨io, r, S, l, p.imp fun w io' H' _ q => i w H' q⟩
end
section
variable {X : Cx} {ca : Ca} {E : XK}
theorem im_ix : IxR X (r2 X.K ca E opIx) := by
  intro value slice pins s σ H x y v u Q I rx ry h hs
  obtain ⟨io, S, a, b, z, ra, rb, p⟩ := h
  unfold opIx at p
  split at p
  · rename_i i
    cases (show y = _ from rb)
    split at p
    · rename_i zz
      cases (show x = _ from ra)
      split at p
      · rename_i hl
        split at p
        · rename_i c hc
          exact ix_str value slice pins s σ H _ _ v u Q I rx ry ⟨_, _, c, rfl, rfl, lim_le hl, hc, p.done z _ rfl⟩ hs
        · exact p.elim
      · exact p.elim
    · rename_i hne
      split at p
      · rename_i xs e1
        obtain ⟨a1, vs, rfl, q, r⟩ := getQ_ok z ra e1
        split at p
        · rename_i w hw
          obtain ⟨v1, h1, h2⟩ := r.atI hw
          rcases q with q | q
          · exact ix_list value slice pins s σ H _ _ v u Q I rx ry ⟨_, _, _, v1, rfl, rfl, q, h1, p.done z _ h2⟩ hs
          · exact ix_tup value slice pins s σ H _ _ v u Q I rx ry ⟨_, _, _, v1, rfl, rfl, q, h1, p.done z _ h2⟩ hs
        · exact p.elim
      · exact p.elim
  · exact p.elim
def mIx (a b : M W) : M W := mOp opIx a b
theorem me_ix {a b : Expr} {ma mb : M W} {pos : Pos} (ha : ME X ca E a ma) (hb : ME X ca E b mb) (hs : PlainIx b := by exact fun _ _ => rfl) : ME X ca E (.Subscript a b pos) (mIx ma mb) :=
  PE.weak (pe_ix im_ix ha hb hs) fun σ H Q h => op_imp h
theorem mo_none : PO X none (tO X.K ca E mNoPart) := PO.weak po_none fun σ H Q h => by
  obtain ⟨io, r, S, l, p⟩ := h
  exact p.done l.z
theorem mo_some {e : Expr} {m : M W} (h : ME X ca E e m) : PO X (some e) (tO X.K ca E (mPart m)) := PO.weak (po_some h) fun σ H Q h => by
  obtain ⟨io, r, S, l, p⟩ := h
  refine tE_imp (tE_bind l p) fun v H1 ⟨io1, S1, w, e1, l1, rv, p1⟩ => ?_
  cases w <;> first | exact False.elim p1 | skip
  exact ⟨_, rv, p1.done l1.z⟩
def rCut (K : PySem.W.Frag) (ca : Ca) (E : XK) : V → Option Int → Option Int → Hp → VK → Prop := fun x lo hi H Q => ∃ io S a, Rl0 K ca io S H ∧ RV K ca io H a x ∧ Post K ca E io H (fun w io' H' => ∀ v, RV K ca io' H' w v → Q v H') (opCut lo hi a S)
theorem sm_cut : SlR X (rCut X.K ca E) := by
  intro pins s σ H x v vl vu lo hi sl Q I rx hs pl pu h
  obtain ⟨io, S, a, z, ra, p⟩ := h
  unfold opCut at p
  split at p
  · cases (show x = _ from ra)
    split at p
    · rename_i hl
      exact sl_str pins s σ H _ v vl vu lo hi sl Q I rx hs pl pu ⟨_, rfl, lim_le hl, p.done z _ rfl⟩
    · exact p.elim
  · rename_i xs
    obtain ⟨a1, vs, rfl, q, r⟩ := ra.tupI
    have rc := r.cut lo hi
    refine sl_tupA pins s σ H _ v vl vu lo hi sl Q I rx hs pl pu ⟨a1, vs, rfl, q.sq, fun ⟨e1, e2⟩ => ?_, fun _ l hl => ?_⟩
    · refine p.done z _ ⟨a1, vs, rfl, q, ?_⟩
      have e : cutV vs lo hi = vs := by
        unfold cutV
        rw [e1, e2]
        simp
      rwa [e] at rc
    · exact p.newW z hl _ (rv_newT z hl rc)
  · split at p
    · rename_i xs e1
      obtain ⟨a1, vs, rfl, q, r⟩ := getL_ok z ra e1
      exact sl_list pins s σ H _ v vl vu lo hi sl Q I rx hs pl pu ⟨a1, vs, rfl, .of q, fun l hl => p.newW z hl _ (rv_newL z hl (r.cut lo hi))⟩
    · exact p.elim
theorem me_cut {e : Expr} {lo hi : Option Expr} {m : M W} {ml mh : M (Option Int)} {pos p2 : Pos} (h : ME X ca E e m) (hl : PO X lo (tO X.K ca E ml)) (hh : PO X hi (tO X.K ca E mh)) : ME X ca E (.Subscript e (.Slice lo hi none p2) pos) (mCut m ml mh) := by
  refine PE.weak (pe_slice (sm_cut (X := X) (ca := ca) (E := E)) h hl hh) fun σ H Q h => ?_
  obtain ⟨io, r, S, l, p⟩ := h
  refine tE_imp (tE_bind l p) fun v H1 ⟨io1, S1, w, e1, l1, rv, p1⟩ => ?_
  refine tO_imp (tO_bind l1 p1) fun o H2 ⟨io2, S2, e2, l2, p2⟩ => ?_
  refine tO_imp (tO_bind l2 p2) fun o' H3 ⟨io3, S3, e3, l3, p3⟩ => ?_
  exact ⟨io3, S3, w, l3.z, (rv.mono e2).mono e3, p3⟩
/-! ### argument lists, displays -/
def mNil : M (List W) := pure []
def mCons (a : M W) (t : M (List W)) : M (List W) := do
  let x ← a
  let xs ← t
  pure (x :: xs)
def mStar (a : M W) (t : M (List W)) : M (List W) := do
  let x ← a
  let xs ← (fun _ S => match getQ S x with
    | some xs => .ok xs S
    | none => .stuck : M (List W))
  let ys ← t
  pure (xs ++ ys)
theorem ma_nil : MA X ca E [] mNil := PA.weak pa_nil fun σ H Q h => by
  obtain ⟨io, r, S, l, p⟩ := h
  exact p.done l.z _ .nil
theorem ma_cons {e : Expr} {es : List Expr} {m : M W} {t : M (List W)} (ha : ME X ca E e m) (hr : MA X ca E es t) (hs : starEach (e :: es) X.env = (false, eval e X.env) :: starEach es X.env := by rfl) : MA X ca E (e :: es) (mCons m t) :=
  PA.weak (pa_cons ha hr hs) fun σ H Q h => by
    obtain ⟨io, r, S, l, p⟩ := h
    refine tE_imp (tE_bind l p) fun v H1 ⟨io1, S1, w, e1, l1, rv, p1⟩ => ?_
    refine tA_imp (tA_bind l1 p1) fun vs H2 ⟨io2, S2, ws, e2, l2, rvs, p2⟩ => ?_
    exact p2.done l2.z _ (.cons (rv.mono e2) rvs)
theorem ma_star {e : Expr} {es : List Expr} {m : M W} {t : M (List W)} {p : Pos} (ha : ME X ca E e m) (hr : MA X ca E es t) (hs : starEach (.Starred e p :: es) X.env = (true, eval e X.env) :: starEach es X.env := by rfl) : MA X ca E (.Starred e p :: es) (mStar m t) :=
  PA.weak (StX.pa_star ha hr hs) fun σ H Q h => by
    obtain ⟨io, r, S, l, p⟩ := h
    refine tE_imp (tE_bind l p) fun v H1 ⟨io1, S1, w, e1, l1, rv, p1⟩ => ?_
    rw [bind_def] at p1
    cases g : getQ S1 w with
    | none =>
      simp only [g] at p1
      exact p1.elim
    | some xs =>
      simp only [g] at p1
      obtain ⟨a, vs, rfl, q, rr⟩ := getQ_ok l1.z rv g
      refine ⟨a, vs, rfl, q.symm, ?_⟩
      refine tA_imp (tA_bind l1 p1) fun us H2 ⟨io2, S2, ws, e2, l2, rvs, p2⟩ => ?_
      exact p2.done l2.z _ ((rr.mono e2).app rvs)
def mTup (t : M (List W)) : M W := do
  let xs ← t
  if xs.length ≤ 16000000 then pure (.tup xs) else fun _ _ => .stuck
def mLst (t : M (List W)) : M W := do
  let xs ← t
  if xs.length ≤ 16000000 then pure (.lst xs) else fun _ _ => .stuck
/-- a list that may change -/
def mLstC (t : M (List W)) : M W := do
  let xs ← t
  fun _ S => if xs.length ≤ 16000000 then .ok (.loc S.length) (S ++ [.lst xs]) else .stuck
theorem me_tup {es : List Expr} {x1 : Nat} {t : M (List W)} {pos : Pos} (h : MA X ca E es t) : ME X ca E (.Tuple es x1 pos) (mTup t) := PE.weak (pe_tup h) fun σ H Q h => by
  obtain ⟨io, r, S, l, p⟩ := h
  refine tA_imp (tA_bind l p) fun vs H1 ⟨io1, S1, ws, e1, l1, rvs, p1⟩ => ?_
  split at p1
  · rename_i hl
    rw [← rvs.len] at hl
    exact ⟨lim_le hl, fun q hq => Post.newW p1 l1.z hq _ (rv_newT l1.z hq rvs)⟩
  · exact p1.elim
theorem me_lst {es : List Expr} {t : M (List W)} {pos : Pos} (h : MA X ca E es t) : ME X ca E (.List es pos) (mLst t) := PE.weak (pe_lst h) fun σ H Q h => by
  obtain ⟨io, r, S, l, p⟩ := h
  refine tA_imp (tA_bind l p) fun vs H1 ⟨io1, S1, ws, e1, l1, rvs, p1⟩ => ?_
  split at p1
  · rename_i hl
    rw [← rvs.len] at hl
    exact ⟨lim_le hl, fun q hq => Post.newW p1 l1.z hq _ (rv_newL l1.z hq rvs)⟩
  · exact p1.elim
theorem newC {K : PySem.W.Frag} {io : List Addr} {S : Sto} {H : Hp} {R : W → List Addr → Hp → Prop} {p : Addr} {o : HO} {c : Ce} (h : Post K ca E io H R (.ok (.loc S.length) (S ++ [c]))) (z : Rl0 K ca io S H) (np : H p = none) (hc : RC K ca (io ++ [p]) (upd H p o) p c) :
    R (.loc S.length) (io ++ [p]) (upd H p o) := h _ _ (ext_cell np) (z.cell np hc)
theorem rv_cell {K : PySem.W.Frag} {io : List Addr} {S : Sto} {H H' : Hp} {p : Addr} (z : Rl0 K ca io S H) : RV K ca (io ++ [p]) H' (.loc S.length) (.ref p) := ⟨p, rfl, by
  rw [List.getElem?_append_right (by rw [z.len]; exact Nat.le_refl _), z.len, Nat.sub_self]
  rfl⟩
theorem me_lstC {es : List Expr} {t : M (List W)} {pos : Pos} (h : MA X ca E es t) : ME X ca E (.List es pos) (mLstC t) := PE.weak (pe_lst h) fun σ H Q h => by
  obtain ⟨io, r, S, l, p⟩ := h
  refine tA_imp (tA_bind l p) fun vs H1 ⟨io1, S1, ws, e1, l1, rvs, p1⟩ => ?_
  split at p1
  · rename_i hl
    rw [← rvs.len] at hl
    exact ⟨lim_le hl, fun q hq => newC p1 l1.z hq ⟨vs, upd_same, rvs.mono (ext_cell hq)⟩ _ (rv_cell l1.z)⟩
  · exact p1.elim
end
/-! ### instances: fields -/
def fcode (x : Str) : Option Fl := [Fl.start, .source, .target, .pace, .habit, .top, .length, .time, .trips, .burning, .presses, .dark, .scenes, .stories, .facts, .now, .past, .undone, .saved, .panel, .isKept, .code, .place, .part, .index, .line].find? fun f => fname f == x
theorem fcode_fname (f : Fl) : fcode (fname f) = some f := by
  cases f <;> decide +kernel
theorem fname_inj {f g : Fl} (h : fname f = fname g) : f = g := by
  have := congrArg fcode h
  rw [fcode_fname, fcode_fname] at this
  exact Option.some.inj this
theorem lookup_zip (f : Fl) : ∀ (fs : List Fl) (vs : List V), ((fs.map fname).zip vs).lookup (fname f) = (fs.findIdx? (· == f)).bind fun i => vs[i]?
  | [], _ => rfl
  | g :: fs, [] => by
    simp only [List.map_cons, List.zip_nil_right, List.lookup_nil]
    cases (g :: fs).findIdx? (· == f) <;> rfl
  | g :: fs, v :: vs => by
    simp only [List.map_cons, List.zip_cons_cons, List.lookup_cons, List.findIdx?_cons]
    by_cases e : g = f
    · subst e
      simp
    · have h1 : (fname f == fname g) = false := by
        simp only [beq_eq_false_iff_ne, ne_eq]
        exact fun q => e (fname_inj q).symm
      have h2 : (g == f) = false := by simpa using e
      rw [h1, h2, lookup_zip f fs vs]
      cases fs.findIdx? (· == f) <;> rfl
theorem putF_zip (f : Fl) (y : V) : ∀ (fs : List Fl) (vs : List V) (i : Nat), fs.findIdx? (· == f) = some i → i ≤ vs.length → putF (fname f) y ((fs.map fname).zip vs) = (fs.map fname).zip (if i < vs.length then vs.set i y else vs ++ [y])
  | [], _, _, h, _ => by simp at h
  | g :: fs, vs, i, h, hl => by
    rw [List.findIdx?_cons] at h
    by_cases e : g = f
    · subst e
      simp at h
      subst h
      cases vs with
      | nil => simp [putF]
      | cons v vs => simp [putF]
    · have h2 : (g == f) = false := by simpa using e
      rw [h2] at h
      simp at h
      obtain ⟨j, hj, rfl⟩ := h
      cases vs with
      | nil => simp at hl
      | cons v vs =>
        have ih := putF_zip f y fs vs j hj (by simpa using hl)
        have hne : ¬ fname g = fname f := fun q => e (fname_inj q)
        simp only [List.map_cons, List.zip_cons_cons, putF, if_neg hne, ih]
        simp only [List.length_cons, Nat.add_lt_add_iff_right]
        split <;> simp
/-- the fields of an instance of the class c -/
def getO (c : Cl) (S : Sto) : W → Option (List W)
  | .obj d xs => if d = c then some xs else none
  | .loc n => match S[n]? with
    | some (.ins d xs) => if d = c then some xs else none
    | _ => none
  | _ => none
def mFld (c : Cl) (f : Fl) (m : M W) : M W := do
  let w ← m
  fun _ S => match getO c S w, fix c f with
    | some xs, some i => match xs[i]? with
      | some x => .ok x S
      | none => .stuck
    | _, _ => .stuck
theorem getO_ok {K : PySem.W.Frag} {ca : Ca} {io : List Addr} {S : Sto} {H : Hp} (z : Rl0 K ca io S H) {c : Cl} {w : W} {v : V} {xs : List W} (h : RV K ca io H w v) (g : getO c S w = some xs) :
    ∃ a dx vs, v = .ref a ∧ H a = some (.ins (ca c) dx ((fnames c).zip vs)) ∧ vs.length ≤ (flds c).length ∧ RVs K ca io H xs vs := by
  cases w <;> first | (simp [getO] at g; done) | skip
  · rename_i n
    obtain ⟨a, rfl, q⟩ := h.locI
    unfold getO at g
    cases e : S[n]? with
    | none => simp [e] at g
    | some ce =>
      cases ce with
      | ins d ys =>
        simp only [e] at g
        split at g
        · rename_i hd
          subst hd
          cases g
          obtain ⟨a2, q2, dx, vs, h1, h2, h3⟩ := z.at e
          rw [q] at q2
          cases q2
          exact ⟨a, dx, vs, rfl, h1, h2, h3⟩
        · cases g
      | _ => simp [e] at g
  · rename_i d ys
    dsimp only [getO] at g
    split at g
    · rename_i hd
      subst hd
      cases g
      obtain ⟨a, dx, vs, rfl, q, n, l, r⟩ := h.objI
      exact ⟨a, dx, vs, rfl, q, l, r⟩
    · cases g
section
variable {X : Cx} {ca : Ca} {E : XK}
theorem me_fld {c : Cl} {f : Fl} {e : Expr} {x : Str} {m : M W} {pos : Pos} (hc : Cls X.K (ca c)) (hn : NoAttr X.K (ca c) (fname f)) (he : ME X ca E e m) (hx : x = fname f := by rfl) (hb : attributeBase e x X.env (eval e X.env) = eval e X.env := by rfl) : ME X ca E (.Attribute e x pos) (mFld c f m) := by
  subst hx
  refine PE.weak (pe_fld he hb) fun σ H Q h => ?_
  obtain ⟨io, r, S, l, p⟩ := h
  refine tE_imp (tE_bind l p) fun v H1 ⟨io1, S1, w, e1, l1, rv, p1⟩ => ?_
  split at p1
  · rename_i xs i g hi
    split at p1
    · rename_i y hy
      obtain ⟨a, dx, vs, rfl, q, ll, rr⟩ := getO_ok l1.z rv g
      obtain ⟨v2, h1, h2⟩ := rr.get hy
      refine ⟨a, ca c, dx, _, v2, rfl, q, hc, hn, ?_, Post.done p1 l1.z _ h2⟩
      unfold fnames
      rw [lookup_zip, show (flds c).findIdx? (· == f) = some i from hi]
      exact h1
    · exact p1.elim
  · exact p1.elim
/-! ### calls of defs -/
theorem passF {X : Cx} : Passes (L2.CX X.prog X.w) X (fun _ _ _ => False) := fun pins σ H s e s' I h => by
  obtain ⟨_, _, _, _, _, _, _, _, _, _, _, _, z⟩ := h
  exact z.elim
def mCall (g : FnM) (t : M (List W)) : M W := do
  let ws ← t
  fun _ S => g ws S
theorem call_imp {K : PySem.W.Frag} {g : FnM} {t : M (List W)} {σ : L2.St} {H : Hp} {Q : VK} (h : tE K ca E (mCall g t) σ H Q) : tA K ca E t σ H (fun vs H1 => spM K ca g vs H1 Q E) := by
  obtain ⟨io, r, S, l, p⟩ := h
  exact tA_imp (tA_bind l p) fun vs H1 ⟨io1, S1, ws, e1, l1, rvs, p1⟩ => ⟨io1, ws, S1, l1.z, rvs, p1⟩
section
variable {k : Nat} {f : Addr} {g : FnM} {x : Str} {p pos apos : Pos} {e : Expr} {es : List Expr} {t : M (List W)}
/-- f(a, ..) -/
theorem me_call (F : Fm X.prog X.w X.K X.mg X.base ca k f g) (hr : Room k X.A) (hm : X.mg x = some (.ref f)) (hk : PySem.W.keepIn X.K (.ref f) = true) (hx : Passes (L2.CX X.prog X.w) X E) (ha : MA X ca E (e :: es) t)
    (hg : Gl X x := by rfl) (hdb : (x == ("__debug__" : Str)) = false := by decide) (he : starEach (e :: es) X.env = (false, eval e X.env) :: starEach es X.env := by rfl) (hpl : (backTo pos (starEach es X.env)).any (·.1) = false := by rfl) :
    ME X ca E (.Call (.Name x p) (e :: es) [] pos) (mCall g t) := by
  refine ⟨fun pins s σ H Q I h => ?_⟩
  refine wpAny_Call_Name_kw (ld_glob I hg hm ?_ hdb)
  refine PySem.W.callWith_K (h₀ := X.base) I.ok.mod.kin hk (thn (ha.run pos pins s σ H _ I (call_imp h)) fun us s1 ⟨vs, H1, I1, r, q⟩ => ⟨I1.kIn, ?_⟩) he hpl
  exact wpAny_call (run_fnR F hr hx I1 r q)
end
/-- a method of an instance of the class c -/
def mMeth (c : Cl) (g : FnM) (o : M W) (t : M (List W)) : M W := do
  let w ← o
  let w' ← (fun _ S => match getO c S w with
    | some _ => .ok w S
    | none => .stuck : M W)
  let ws ← t
  fun _ S => g (w' :: ws) S
theorem lookup_none {c : Cl} {m : Str} (h : (fnames c).contains m = false) (vs : List V) : ((fnames c).zip vs).lookup m = none := by
  generalize fnames c = ns at h
  induction ns generalizing vs with
  | nil => rfl
  | cons n ns ih =>
    cases vs with
    | nil => rfl
    | cons v vs =>
      rw [List.contains_cons] at h
      obtain ⟨h1, h2⟩ := Bool.or_eq_false_iff.mp h
      rw [List.zip_cons_cons, List.lookup_cons, h1]
      exact ih vs h2
section
variable {k : Nat} {f : Addr} {g : FnM} {c : Cl} {m : Str} {p pos apos : Pos} {o e : Expr} {es : List Expr} {mo : M W} {t : M (List W)}
theorem meth_imp {K : PySem.W.Frag} {σ : L2.St} {H : Hp} {Q : VK} (hl : (fnames c).contains m = false) (h : tE K ca E (mMeth c g mo t) σ H Q) :
    tE K ca E mo σ H (fun x H1 => ∃ a dx fs, x = .ref a ∧ H1 a = some (.ins (ca c) dx fs) ∧ fs.lookup m = none ∧ tA K ca E t σ H1 fun vs H2 => spM K ca g (x :: vs) H2 Q E) := by
  obtain ⟨io, r, S, l, p⟩ := h
  refine tE_imp (tE_bind l p) fun v H1 ⟨io1, S1, w, e1, l1, rv, p1⟩ => ?_
  rw [bind_def] at p1
  cases gg : getO c S1 w with
  | none =>
    simp only [gg] at p1
    exact p1.elim
  | some xs =>
    simp only [gg] at p1
    obtain ⟨a, dx, vs, rfl, q, ll, rr⟩ := getO_ok l1.z rv gg
    refine ⟨a, dx, _, rfl, q, lookup_none hl vs, ?_⟩
    exact tA_imp (tA_bind l1 p1) fun us H2 ⟨io2, S2, ws, e2, l2, rvs, p2⟩ => ⟨io2, w :: ws, S2, l2.z, .cons (rv.mono e2) rvs, p2⟩
theorem me_meth {pl : Sem Bool} (F : Fm X.prog X.w X.K X.mg X.base ca k f g) (hr : Room k X.A) (hc : Cls X.K (ca c)) (hm : Meth X.K (ca c) m f) (hl : (fnames c).contains m = false) (hx : Passes (L2.CX X.prog X.w) X E) (ho : ME X ca E o mo) (ha : MA X ca E (e :: es) t)
    (hst : starEach (e :: es) X.env = (false, eval e X.env) :: starEach es X.env := by rfl) (hpl : (backTo pos (starEach es X.env)).any (·.1) = false := by rfl)
    (ht : eval (.Call (.Attribute o m apos) (e :: es) [] pos) X.env = (do
      let ov ← eval o X.env
      standAt apos.atName
      let (f, first) ← holding [ov] (getMethod ov m pl)
      callWith pos f first (backTo pos (starEach (e :: es) X.env)) (backToKw pos (keywordEach [] X.env))) := by rfl) :
    ME X ca E (.Call (.Attribute o m apos) (e :: es) [] pos) (mMeth c g mo t) := by
  refine ⟨fun pins s σ H Q I h => ?_⟩
  refine PySem.W.methodCall_KW (pl := pl) (thn (ho.run pins s σ H _ I (meth_imp hl h)) fun u s1 ⟨x, H1, I1, rx, a, dx, fs, ex, ea, l, q⟩ => ?_) ht
  subst ex
  obtain rfl : u = Value.ref a := rx
  refine getmeth_ok I1 ea hc hm l ?_
  refine PySem.W.callWith_K (first := [.ref a]) (h₀ := X.base) I.ok.mod.kin hm.kp (thn (ha.run pos pins s1 σ H1 _ I1 q) fun us s2 ⟨vs, H2, I2, r, q2⟩ => ⟨I2.kIn, ?_⟩) hst hpl
  exact wpAny_call (run_fnR (us := .ref a :: us) (vs := .ref a :: vs) F hr hx I2 (.cons rfl r) q2)
end
end
end SL
set_option Elab.async false
set_option linter.all false
set_option maxRecDepth 100000
set_option maxHeartbeats 2000000
namespace SL
open PySem PySem.Spec PyProof.Rows L2
section
variable {X : Cx} {ca : Ca} {E : XK}
/-! ### a property -/
/-- the getter's run at the object; it raises nothing -/
def noX : Res W → Res W
  | .exc _ _ _ => .stuck
  | r => r
def mProp (c : Cl) (g : FnM) (o : M W) : M W := do
  let w ← o
  fun _ S => match getO c S w with
    | some _ => noX (g [w] S)
    | none => .stuck
theorem post_noX {K : PySem.W.Frag} {io : List Addr} {H : Hp} {R : W → List Addr → Hp → Prop} {r : Res W} (p : Post K ca E io H R (noX r)) (E' : XK) : Post K ca E' io H R r := by
  cases r with
  | ok w S => exact p
  | exc c ws S => exact p.elim
  | stuck => exact p
theorem me_prop {k : Nat} {c : Cl} {f : Str} {g : FnM} {p q : Addr} {fd : FuncData} {e : Expr} {m : M W} {pos : Pos} (hc : Cls X.K (ca c)) (hp : PropOf X.K (ca c) f p q) (F : FnOk X.prog X.w X.K X.mg X.base (L2.CX X.prog X.w) k q fd ["self"] (spM X.K ca g)) (hr : Room (k + 1) X.A) (hb : Binds X.K fd ["self"] []) (he : ME X ca E e m)
    (hab : attributeBase e f X.env (eval e X.env) = eval e X.env := by rfl) : ME X ca E (.Attribute e f pos) (mProp c g m) := by
  refine PE.weak (pe_prop (E := fun _ _ _ => False) (dvs := []) he hc hp F hr hb .nil passF hab) fun σ H Q h => ?_
  obtain ⟨io, r, S, l, p⟩ := h
  refine tE_imp (tE_bind l p) fun v H1 ⟨io1, S1, w, e1, l1, rv, p1⟩ => ?_
  cases gg : getO c S1 w with
  | none =>
    simp only [gg] at p1
    exact p1.elim
  | some xs =>
    simp only [gg] at p1
    obtain ⟨a, dx, vs, rfl, q, ll, rr⟩ := getO_ok l1.z rv gg
    exact ⟨a, dx, _, rfl, q, io1, [w], S1, l1.z, .cons rv .nil, post_noX p1 _⟩
/-! ### a new instance -/
/-- the new object at the store's end, __init__'s run; what it hands back is the object -/
def newR (c : Cl) (g : FnM) : FnM := fun ws S => match g (.loc S.length :: ws) (S ++ [.ins c []]) with
  | .ok .non S' => .ok (.loc S.length) S'
  | .ok _ _ => .stuck
  | .exc d es S' => .exc d es S'
  | .stuck => .stuck
theorem new_imp {K : PySem.W.Frag} {c : Cl} {g : FnM} {io : List Addr} {S : Sto} {ws : List W} {vs : List V} {H : Hp} {Q : VK} (z : Rl0 K ca io S H) (rvs : RVs K ca io H ws vs) (p : Post K ca E io H (fun w io' H' => ∀ v, RV K ca io' H' w v → Q v H') (newR c g ws S)) :
    ∀ x dx, H x = none → H dx = none → dx ≠ x → spM K ca g (V.ref x :: vs) (upd (upd H dx (.own x)) x (.ins (ca c) dx [])) (fun v H2 => v = .non ∧ Q (.ref x) H2) E := by
  intro x dx nx ndx hne
  have nx2 : (upd H dx (.own x)) x = none := by
    rw [upd_ne hne.symm]
    exact nx
  have e1 : Ext io H io (upd H dx (.own x)) := ext_new ndx
  have z1 := z.new (o := .own x) ndx
  have e2 : Ext io (upd H dx (.own x)) (io ++ [x]) (upd (upd H dx (.own x)) x (.ins (ca c) dx [])) := ext_cell nx2
  have hc : RC K ca (io ++ [x]) (upd (upd H dx (.own x)) x (.ins (ca c) dx [])) x (.ins c []) := ⟨dx, [], by rw [upd_same]; simp, Nat.zero_le _, .nil⟩
  have z2 := z1.cell nx2 hc
  have ee := e1.trans e2
  refine ⟨io ++ [x], .loc S.length :: ws, S ++ [.ins c []], z2, .cons (rv_cell z) (rvs.mono ee), ?_⟩
  unfold newR at p
  split at p
  · rename_i w S' hw
    rw [hw]
    intro io' H' e z' v rv
    exact ⟨rv, p io' H' (ee.trans e) z' _ ((rv_cell (K := K) (ca := ca) (H' := upd (upd H dx (.own x)) x (.ins (ca c) dx [])) (p := x) z).mono e)⟩
  · exact p.elim
  · rename_i d es S' hw
    rw [hw]
    exact fun io' H' dd e z' rx => p io' H' dd (ee.trans e) z' rx
  · exact p.elim
section
variable {k : Nat} {f : Addr} {g : FnM} {c : Cl} {x : Str} {p pos : Pos} {e : Expr} {es : List Expr} {t : M (List W)}
theorem mk_imp {K : PySem.W.Frag} {σ : L2.St} {H : Hp} {Q : VK} (h : tE K ca E (mCall (newR c g) t) σ H Q) : tA K ca E t σ H fun vs H1 => ∀ x dx, H1 x = none → H1 dx = none → dx ≠ x → spM K ca g (V.ref x :: vs) (upd (upd H1 dx (.own x)) x (.ins (ca c) dx [])) (fun v H2 => v = .non ∧ Q (.ref x) H2) E := by
  obtain ⟨io, r, S, l, p⟩ := h
  exact tA_imp (tA_bind l p) fun vs H1 ⟨io1, S1, ws, e1, l1, rvs, p1⟩ => new_imp l1.z rvs p1
/-- C(a, ..) -/
theorem me_new (F : Fm X.prog X.w X.K X.mg X.base ca k f g) (Mm : Mk X.K (ca c) f) (hr : Room (k + 1) X.A) (hm : X.mg x = some (.ref (ca c))) (hx : Passes (L2.CX X.prog X.w) X E) (ha : MA X ca E (e :: es) t)
    (hg : Gl X x := by rfl) (hdb : (x == ("__debug__" : Str)) = false := by decide) (he : starEach (e :: es) X.env = (false, eval e X.env) :: starEach es X.env := by rfl) (hpl : (backTo pos (starEach es X.env)).any (·.1) = false := by rfl) :
    ME X ca E (.Call (.Name x p) (e :: es) [] pos) (mCall (newR c g) t) := PE.weak (StX.pe_makeR Mm F hr hg hm hx ha hdb he hpl) fun σ H Q h => mk_imp h
/-- C(a, .., *b) -/
theorem me_newS (F : Fm X.prog X.w X.K X.mg X.base ca k f g) (Mm : Mk X.K (ca c) f) (hr : Room (k + 1) X.A) (hm : X.mg x = some (.ref (ca c))) (hx : Passes (L2.CX X.prog X.w) X E) (ha : MA X ca E (e :: es) t)
    (hg : Gl X x := by rfl) (hdb : (x == ("__debug__" : Str)) = false := by decide) (he : starEach (e :: es) X.env = (false, eval e X.env) :: starEach es X.env := by rfl) (hst : (backTo pos (starEach es X.env)).any (·.1) = true := by rfl) :
    ME X ca E (.Call (.Name x p) (e :: es) [] pos) (mCall (newR c g) t) := by
  refine ⟨fun pins s σ H Q I h => ?_⟩
  refine wpAny_Call_Name_kw (ld_glob I hg hm ?_ hdb)
  refine PySem.W.callWith_S2 (h₀ := X.base) I.ok.mod.kin Mm.kp (thn (ha.run pos pins s σ H _ I (mk_imp h)) fun us s1 ⟨vs, H1, I1, r, q⟩ => ⟨I1.kIn, ?_⟩) he hst
  exact StX.run_makeR Mm F hr hx I1 r q
/-- C(*b) -/
theorem me_new1 {m : M W} {sp_ : Pos} (F : Fm X.prog X.w X.K X.mg X.base ca k f g) (Mm : Mk X.K (ca c) f) (hr : Room (k + 1) X.A) (hm : X.mg x = some (.ref (ca c))) (hx : Passes (L2.CX X.prog X.w) X E) (he : ME X ca E e m)
    (hg : Gl X x := by rfl) (hdb : (x == ("__debug__" : Str)) = false := by decide) (hst : starEach [.Starred e sp_] X.env = [(true, eval e X.env)] := by rfl) :
    ME X ca E (.Call (.Name x p) [.Starred e sp_] [] pos) (mCall (newR c g) (mStar m mNil)) := by
  refine ⟨fun pins s σ H Q I h => ?_⟩
  refine wpAny_Call_Name_kw (ld_glob I hg hm ?_ hdb)
  have h2 : tE X.K ca E m σ H (fun v H1 => ∃ io1 S1 w xs, Rl0 X.K ca io1 S1 H1 ∧ RV X.K ca io1 H1 w v ∧ getQ S1 w = some xs ∧ Post X.K ca E io1 H1 (fun w io' H' => ∀ v, RV X.K ca io' H' w v → Q v H') (newR c g xs S1)) := by
    obtain ⟨io, r, S, l, pp⟩ := h
    have pp2 : Post X.K ca E io H (fun w io' H' => ∀ v, RV X.K ca io' H' w v → Q v H') ((m >>= fun w => (fun _ S => match getQ S w with
      | some xs => newR c g xs S
      | none => .stuck : M W)) r S) := by
      have e : mCall (newR c g) (mStar m mNil) r S = (m >>= fun w => (fun _ S => match getQ S w with
        | some xs => newR c g xs S
        | none => .stuck : M W)) r S := by
        unfold mCall mStar mNil
        simp only [bind_def, pure_def]
        cases m r S with
        | ok w S' =>
          simp only
          cases getQ S' w with
          | none => rfl
          | some xs => simp
        | exc c ws S' => rfl
        | stuck => rfl
      rw [e] at pp
      exact pp
    refine tE_imp (tE_bind l pp2) fun v H1 ⟨io1, S1, w, e1, l1, rv, p1⟩ => ?_
    cases gg : getQ S1 w with
    | none =>
      simp only [gg] at p1
      exact p1.elim
    | some xs =>
      simp only [gg] at p1
      exact ⟨io1, S1, w, xs, l1.z, rv, gg, p1⟩
  refine PySem.W.callWith_S (h₀ := X.base) I.ok.mod.kin Mm.kp (thn (he.run pins s σ H _ I h2) fun u s1 ⟨y, H1, I1, ry, io1, S1, w, xs, z, rv, gg, p1⟩ => ?_) hst
  obtain ⟨a, vs, rfl, q, r⟩ := getQ_ok z rv gg
  obtain rfl : u = Value.ref a := ry
  exact StX.star_any I1 q.symm fun us s2 I2 rvs => ⟨I2.kIn, StX.run_makeR Mm F hr hx I2 rvs (new_imp z r p1)⟩
end
/-! ### built-in functions -/
def BltM (X : Cx) (ca : Ca) (E : XK) (f : Value) (g : FnM) : Prop := CallR X f (fun vs H Q => spM X.K ca g vs H Q E)
section
variable {x : Str} {id T : String} {p pos : Pos} {e : Expr} {es : List Expr} {t : M (List W)} {g : FnM}
theorem me_callB (hc : BltM X ca E (.builtin id) g) (hm : X.mg x = none) (ha : MA X ca E (e :: es) t) (hg : Gl X x := by rfl) (hv : bootBuiltins x = some (.builtin id) := by decide +kernel) (hn : x ≠ "__name__" := by decide) (hdb : (x == ("__debug__" : Str)) = false := by decide)
    (he : starEach (e :: es) X.env = (false, eval e X.env) :: starEach es X.env := by rfl) (hpl : (backTo pos (starEach es X.env)).any (·.1) = false := by rfl) : ME X ca E (.Call (.Name x p) (e :: es) [] pos) (mCall g t) :=
  PE.weak (pe_callB hc hg hm hv ha hn hdb he hpl) fun σ H Q h => call_imp h
theorem me_callTy (hc : BltM X ca E (.type T) g) (hm : X.mg x = none) (ha : MA X ca E (e :: es) t) (hg : Gl X x := by rfl) (hv : bootBuiltins x = some (.type T) := by decide +kernel) (hn : x ≠ "__name__" := by decide) (hdb : (x == ("__debug__" : Str)) = false := by decide)
    (he : starEach (e :: es) X.env = (false, eval e X.env) :: starEach es X.env := by rfl) (hpl : (backTo pos (starEach es X.env)).any (·.1) = false := by rfl) : ME X ca E (.Call (.Name x p) (e :: es) [] pos) (mCall g t) :=
  PE.weak (pe_callTy hc hg hm hv ha hn hdb he hpl) fun σ H Q h => call_imp h
end
theorem RVs.one {K : PySem.W.Frag} {io : List Addr} {H : Hp} {w : W} {vs : List V} (h : RVs K ca io H [w] vs) : ∃ v, vs = [v] ∧ RV K ca io H w v := by
  obtain ⟨v, r, rfl, h1, h2⟩ := h.inv
  cases (show r = [] from h2)
  exact ⟨v, rfl, h1⟩
theorem RVs.two {K : PySem.W.Frag} {io : List Addr} {H : Hp} {w u : W} {vs : List V} (h : RVs K ca io H [w, u] vs) : ∃ v y, vs = [v, y] ∧ RV K ca io H w v ∧ RV K ca io H u y := by
  obtain ⟨v, r, rfl, h1, h2⟩ := h.inv
  obtain ⟨y, rfl, h3⟩ := RVs.one h2
  exact ⟨v, y, rfl, h1, h3⟩
def bLen : FnM := fun ws S => match ws with
  | [.str z] => if z.length ≤ 16000000 then .ok (.int z.length) S else .stuck
  | [w] => match getQ S w with
    | some xs => .ok (.int xs.length) S
    | none => .stuck
  | _ => .stuck
theorem bm_len : BltM X ca E (.builtin "len") bLen := by
  intro pins s σ H vs us Q I r h
  obtain ⟨io, ws, S, z, rvs, p⟩ := h
  unfold bLen at p
  split at p
  · obtain ⟨v, rfl, rv⟩ := rvs.one
    cases (show v = _ from rv)
    split at p
    · rename_i hl
      exact call_len_str pins s σ H _ us Q I r ⟨_, rfl, lim_le hl, p.done z _ rfl⟩
    · exact p.elim
  · obtain ⟨v, rfl, rv⟩ := rvs.one
    split at p
    · rename_i xs e1
      obtain ⟨a, us2, rfl, q, rr⟩ := getQ_ok z rv e1
      refine call_len_seq pins s σ H _ us Q I r ⟨a, us2, rfl, q, ?_⟩
      rw [rr.len]
      exact p.done z _ rfl
    · exact p.elim
  · exact p.elim
def bAbs : FnM := fun ws S => match ws with
  | [.int i] => .ok (.int (if i < 0 then -i else i)) S
  | _ => .stuck
theorem bm_abs : BltM X ca E (.builtin "abs") bAbs := by
  intro pins s σ H vs us Q I r h
  obtain ⟨io, ws, S, z, rvs, p⟩ := h
  unfold bAbs at p
  split at p
  · obtain ⟨v, rfl, rv⟩ := rvs.one
    cases (show v = _ from rv)
    exact call_abs pins s σ H _ us Q I r ⟨_, rfl, p.done z _ rfl⟩
  · exact p.elim
/-- the greatest, the least of some ints -/
def maxL : List Int → Option Int
  | [] => none
  | x :: xs => some (xs.foldl max x)
def minL : List Int → Option Int
  | [] => none
  | x :: xs => some (xs.foldl min x)
theorem foldl_max_ge : ∀ (xs : List Int) (a : Int), a ≤ xs.foldl max a ∧ (∀ y ∈ xs, y ≤ xs.foldl max a) ∧ (xs.foldl max a = a ∨ xs.foldl max a ∈ xs)
  | [], a => ⟨Int.le_refl _, by simp, .inl rfl⟩
  | x :: xs, a => by
    obtain ⟨h1, h2, h3⟩ := foldl_max_ge xs (max a x)
    refine ⟨Int.le_trans (Int.le_max_left a x) h1, fun y hy => ?_, ?_⟩
    · rcases List.mem_cons.mp hy with rfl | hy
      · exact Int.le_trans (Int.le_max_right a y) h1
      · exact h2 y hy
    · rcases h3 with h3 | h3
      · by_cases q : a ≤ x
        · refine .inr (List.mem_cons.mpr (.inl ?_))
          rw [List.foldl_cons, h3]
          exact Int.max_eq_right q
        · refine .inl ?_
          rw [List.foldl_cons, h3]
          exact Int.max_eq_left (by omega)
      · exact .inr (List.mem_cons.mpr (.inr h3))
theorem foldl_min_le : ∀ (xs : List Int) (a : Int), xs.foldl min a ≤ a ∧ (∀ y ∈ xs, xs.foldl min a ≤ y) ∧ (xs.foldl min a = a ∨ xs.foldl min a ∈ xs)
  | [], a => ⟨Int.le_refl _, by simp, .inl rfl⟩
  | x :: xs, a => by
    obtain ⟨h1, h2, h3⟩ := foldl_min_le xs (min a x)
    refine ⟨Int.le_trans h1 (Int.min_le_left a x), fun y hy => ?_, ?_⟩
    · rcases List.mem_cons.mp hy with rfl | hy
      · exact Int.le_trans h1 (Int.min_le_right a y)
      · exact h2 y hy
    · rcases h3 with h3 | h3
      · by_cases q : a ≤ x
        · refine .inl ?_
          rw [List.foldl_cons, h3]
          exact Int.min_eq_left q
        · refine .inr (List.mem_cons.mpr (.inl ?_))
          rw [List.foldl_cons, h3]
          exact Int.min_eq_right (by omega)
      · exact .inr (List.mem_cons.mpr (.inr h3))
theorem maxL_is {xs : List Int} {m k : Int} (h : maxL xs = some m) (hk : k ∈ xs) (h2 : ∀ y ∈ xs, y ≤ k) : k = m := by
  cases xs with
  | nil => cases h
  | cons x xs =>
    cases h
    obtain ⟨a, b, c⟩ := foldl_max_ge xs x
    have l1 : k ≤ xs.foldl max x := by
      rcases List.mem_cons.mp hk with rfl | hk
      · exact a
      · exact b k hk
    have l2 : xs.foldl max x ≤ k := by
      rcases c with c | c
      · rw [c]
        exact h2 x List.mem_cons_self
      · exact h2 _ (List.mem_cons_of_mem _ c)
    omega
theorem minL_is {xs : List Int} {m k : Int} (h : minL xs = some m) (hk : k ∈ xs) (h2 : ∀ y ∈ xs, k ≤ y) : k = m := by
  cases xs with
  | nil => cases h
  | cons x xs =>
    cases h
    obtain ⟨a, b, c⟩ := foldl_min_le xs x
    have l1 : xs.foldl min x ≤ k := by
      rcases List.mem_cons.mp hk with rfl | hk
      · exact a
      · exact b k hk
    have l2 : k ≤ xs.foldl min x := by
      rcases c with c | c
      · rw [c]
        exact h2 x List.mem_cons_self
      · exact h2 _ (List.mem_cons_of_mem _ c)
    omega
def getIs (S : Sto) (w : W) : Option (List Int) := match getL S w with
  | some xs => intsOf xs
  | none => none
theorem getIs_ok {K : PySem.W.Frag} {io : List Addr} {S : Sto} {H : Hp} (z : Rl0 K ca io S H) {w : W} {v : V} {ns : List Int} (h : RV K ca io H w v) (g : getIs S w = some ns) : ∃ a, v = .ref a ∧ SqL K H a (ns.map V.int) := by
  unfold getIs at g
  cases e : getL S w with
  | none => simp [e] at g
  | some xs =>
    simp only [e] at g
    obtain ⟨a, vs, rfl, q, r⟩ := getL_ok z h e
    rw [intsOf_eq g] at r
    rw [r.ints] at q
    exact ⟨a, rfl, .of q⟩
def bMax : FnM := fun ws S => match ws with
  | [.int i, .int j] => .ok (.int (if j > i then j else i)) S
  | [w] => match getIs S w with
    | some ns => match maxL ns with
      | some m => .ok (.int m) S
      | none => .stuck
    | none => .stuck
  | _ => .stuck
def bMin : FnM := fun ws S => match ws with
  | [.int i, .int j] => .ok (.int (if j < i then j else i)) S
  | [w] => match getIs S w with
    | some ns => match minL ns with
      | some m => .ok (.int m) S
      | none => .stuck
    | none => .stuck
  | _ => .stuck
theorem bm_max (hc : X.calm = true) : BltM X ca E (.builtin "max") bMax := by
  intro pins s σ H vs us Q I r h
  obtain ⟨io, ws, S, z, rvs, p⟩ := h
  unfold bMax at p
  split at p
  · obtain ⟨v, y, rfl, rv, ry⟩ := rvs.two
    cases (show v = _ from rv)
    cases (show y = _ from ry)
    exact call_max2 hc pins s σ H _ us Q I r ⟨_, _, rfl, p.done z _ rfl⟩
  · obtain ⟨v, rfl, rv⟩ := rvs.one
    split at p
    · rename_i ns e1
      obtain ⟨a, rfl, q⟩ := getIs_ok z rv e1
      split at p
      · rename_i m hm
        refine cr_max hc pins s σ H _ us Q I r ⟨a, ns, rfl, q, ?_, fun k hk h2 => ?_⟩
        · cases ns with
          | nil => cases hm
          | cons n ns => exact Nat.succ_pos _
        · rw [maxL_is hm hk h2]
          exact p.done z _ rfl
      · exact p.elim
    · exact p.elim
  · exact p.elim
theorem bm_min (hc : X.calm = true) : BltM X ca E (.builtin "min") bMin := by
  intro pins s σ H vs us Q I r h
  obtain ⟨io, ws, S, z, rvs, p⟩ := h
  unfold bMin at p
  split at p
  · obtain ⟨v, y, rfl, rv, ry⟩ := rvs.two
    cases (show v = _ from rv)
    cases (show y = _ from ry)
    exact call_min2 hc pins s σ H _ us Q I r ⟨_, _, rfl, p.done z _ rfl⟩
  · obtain ⟨v, rfl, rv⟩ := rvs.one
    split at p
    · rename_i ns e1
      obtain ⟨a, rfl, q⟩ := getIs_ok z rv e1
      split at p
      · rename_i m hm
        refine cr_min hc pins s σ H _ us Q I r ⟨a, ns, rfl, q, ?_, fun k hk h2 => ?_⟩
        · cases ns with
          | nil => cases hm
          | cons n ns => exact Nat.succ_pos _
        · rw [minL_is hm hk h2]
          exact p.done z _ rfl
      · exact p.elim
    · exact p.elim
  · exact p.elim
def bSum : FnM := fun ws S => match ws with
  | [w] => match getIs S w with
    | some ns => .ok (.int ns.sum) S
    | none => .stuck
  | _ => .stuck
theorem bm_sum (hc : X.calm = true) : BltM X ca E (.builtin "sum") bSum := by
  intro pins s σ H vs us Q I r h
  obtain ⟨io, ws, S, z, rvs, p⟩ := h
  unfold bSum at p
  split at p
  · obtain ⟨v, rfl, rv⟩ := rvs.one
    split at p
    · rename_i ns e1
      obtain ⟨a, rfl, q⟩ := getIs_ok z rv e1
      exact cr_sum hc pins s σ H _ us Q I r ⟨a, ns, rfl, q, p.done z _ rfl⟩
    · exact p.elim
  · exact p.elim
def blsOf : List W → Option (List Bool)
  | [] => some []
  | .bl b :: xs => match blsOf xs with
    | some bs => some (b :: bs)
    | none => none
  | _ => none
theorem blsOf_eq : ∀ {xs : List W} {bs : List Bool}, blsOf xs = some bs → xs = bs.map W.bl
  | [], bs, h => by simp [blsOf] at h; subst h; rfl
  | x :: xs, bs, h => by
    cases x <;> simp [blsOf] at h
    cases e : blsOf xs with
    | none => simp [e] at h
    | some is =>
      simp [e] at h
      subst h
      rw [blsOf_eq e]
      rfl
theorem RVs.bls {K : PySem.W.Frag} {io : List Addr} {H : Hp} {bs : List Bool} : ∀ {vs : List V}, RVs K ca io H (bs.map W.bl) vs → vs = bs.map V.bl := by
  induction bs with
  | nil => intro vs h; exact h
  | cons n ns ih =>
    intro vs h
    obtain ⟨v, r, rfl, h1, h2⟩ := h.inv
    rw [ih h2, show v = V.bl n from h1] <;> rfl
def bAll : FnM := fun ws S => match ws with
  | [w] => match getL S w with
    | some xs => match blsOf xs with
      | some bs => .ok (.bl (bs.all id)) S
      | none => .stuck
    | none => .stuck
  | _ => .stuck
theorem bm_all (hc : X.calm = true) : BltM X ca E (.builtin "all") bAll := by
  intro pins s σ H vs us Q I r h
  obtain ⟨io, ws, S, z, rvs, p⟩ := h
  unfold bAll at p
  split at p
  · obtain ⟨v, rfl, rv⟩ := rvs.one
    split at p
    · rename_i xs e1
      obtain ⟨a, vs, rfl, q, rr⟩ := getL_ok z rv e1
      split at p
      · rename_i bs e2
        rw [blsOf_eq e2] at rr
        rw [rr.bls] at q
        exact cr_all hc pins s σ H _ us Q I r ⟨a, bs, rfl, .of q, p.done z _ rfl⟩
      · exact p.elim
    · exact p.elim
  · exact p.elim
def bInt : FnM := fun ws S => match ws with
  | [.int i] => .ok (.int i) S
  | [.bl k] => .ok (.int (if k then 1 else 0)) S
  | _ => .stuck
theorem bm_int : BltM X ca E (.type "int") bInt := by
  intro pins s σ H vs us Q I r h
  obtain ⟨io, ws, S, z, rvs, p⟩ := h
  unfold bInt at p
  split at p
  · obtain ⟨v, rfl, rv⟩ := rvs.one
    cases (show v = _ from rv)
    exact call_int1 pins s σ H _ us Q I r (.inl ⟨_, rfl, p.done z _ rfl⟩)
  · obtain ⟨v, rfl, rv⟩ := rvs.one
    cases (show v = _ from rv)
    exact call_int1 pins s σ H _ us Q I r (.inr ⟨_, rfl, p.done z _ rfl⟩)
  · exact p.elim
/-- list(..): stays as it is | may change -/
def bList : FnM := fun ws S => match ws with
  | [w] => match getQ S w with
    | some xs => .ok (.lst xs) S
    | none => .stuck
  | _ => .stuck
def bListC : FnM := fun ws S => match ws with
  | [w] => match getQ S w with
    | some xs => .ok (.loc S.length) (S ++ [.lst xs])
    | none => .stuck
  | _ => .stuck
theorem bm_list : BltM X ca E (.type "list") bList := by
  intro pins s σ H vs us Q I r h
  obtain ⟨io, ws, S, z, rvs, p⟩ := h
  unfold bList at p
  split at p
  · obtain ⟨v, rfl, rv⟩ := rvs.one
    split at p
    · rename_i xs e1
      obtain ⟨a, vs, rfl, q, rr⟩ := getQ_ok z rv e1
      exact call_list_of pins s σ H _ us Q I r ⟨a, vs, rfl, q, fun l hl => p.newW z hl _ (rv_newL z hl rr)⟩
    · exact p.elim
  · exact p.elim
theorem bm_listC : BltM X ca E (.type "list") bListC := by
  intro pins s σ H vs us Q I r h
  obtain ⟨io, ws, S, z, rvs, p⟩ := h
  unfold bListC at p
  split at p
  · obtain ⟨v, rfl, rv⟩ := rvs.one
    split at p
    · rename_i xs e1
      obtain ⟨a, vs, rfl, q, rr⟩ := getQ_ok z rv e1
      exact call_list_of pins s σ H _ us Q I r ⟨a, vs, rfl, q, fun l hl => newC p z hl ⟨vs, upd_same, rr.mono (ext_cell hl)⟩ _ (rv_cell z)⟩
    · exact p.elim
  · exact p.elim
def bTuple : FnM := fun ws S => match ws with
  | [.tup xs] => .ok (.tup xs) S
  | [w] => match getL S w with
    | some xs => .ok (.tup xs) S
    | none => .stuck
  | _ => .stuck
theorem bm_tuple : BltM X ca E (.type "tuple") bTuple := by
  intro pins s σ H vs us Q I r h
  obtain ⟨io, ws, S, z, rvs, p⟩ := h
  unfold bTuple at p
  split at p
  · obtain ⟨v, rfl, rv⟩ := rvs.one
    obtain ⟨a, vs, rfl, q, rr⟩ := rv.tupI
    exact call_tuple_of pins s σ H _ us Q I r ⟨a, vs, rfl, .inr ⟨q.sq, p.done z _ ⟨a, vs, rfl, q, rr⟩⟩⟩
  · obtain ⟨v, rfl, rv⟩ := rvs.one
    split at p
    · rename_i xs e1
      obtain ⟨a, vs, rfl, q, rr⟩ := getL_ok z rv e1
      exact call_tuple_of pins s σ H _ us Q I r ⟨a, vs, rfl, .inl ⟨.of q, fun l hl => p.newW z hl _ (rv_newT z hl rr)⟩⟩
    · exact p.elim
  · exact p.elim
def bDivmod : FnM := fun ws S => match ws with
  | [.int i, .int j] => if 0 < j ∧ j < 1073741824 then .ok (.tup [.int (i / j), .int (i % j)]) S else .stuck
  | _ => .stuck
theorem bm_divmod : BltM X ca E (.builtin "divmod") bDivmod := by
  intro pins s σ H vs us Q I r h
  obtain ⟨io, ws, S, z, rvs, p⟩ := h
  unfold bDivmod at p
  split at p
  · obtain ⟨v, y, rfl, rv, ry⟩ := rvs.two
    cases (show v = _ from rv)
    cases (show y = _ from ry)
    split at p
    · rename_i hl
      exact call_divmod pins s σ H _ us Q I r ⟨_, _, rfl, hl, fun l hl => p.newW z hl _ (rv_newT z hl (.cons rfl (.cons rfl .nil)))⟩
    · exact p.elim
  · exact p.elim
end
end SL
set_option Elab.async false
set_option linter.all false
set_option maxRecDepth 100000
set_option maxHeartbeats 2000000
namespace SL
open PySem PySem.Spec PyProof.Rows L2
/-! ### statements -/
inductive Fw where
  | nx (r : Rho) | rt (w : W) | bk (r : Rho) | ct (r : Rho)
abbrev MSt := M Fw
def RS (K : PySem.W.Frag) (ca : Ca) (D : Ends) : Fw → List Addr → Hp → Prop
  | .nx r, io, H => ∀ σ, RE K ca io H r σ → D.nx σ H
  | .rt w, io, H => ∀ v, RV K ca io H w v → D.rt v H
  | .bk r, io, H => ∀ σ, RE K ca io H r σ → D.bk σ H
  | .ct r, io, H => ∀ σ, RE K ca io H r σ → D.ct σ H
def tS (K : PySem.W.Frag) (ca : Ca) (E : XK) (m : MSt) : TS := fun D σ H => ∃ io r S, Rl K ca io r S σ H ∧ Post K ca E io H (RS K ca D) (m r S)
abbrev MS (X : Cx) (ca : Ca) (E : XK) (st : Stmt) (m : MSt) : Prop := PS X st (tS X.K ca E m)
abbrev MSs (X : Cx) (ca : Ca) (E : XK) (st : List Stmt) (m : MSt) : Prop := PSs X st (tS X.K ca E m)
theorem PS.weak {X : Cx} {e : Stmt} {t u : TS} (h : PS X e t) (i : ∀ D σ H, u D σ H → t D σ H) : PS X e u := ⟨fun pins s σ H D I hw => h.run pins s σ H D I (i D σ H hw)⟩
theorem PSs.weak {X : Cx} {e : List Stmt} {t u : TS} (h : PSs X e t) (i : ∀ D σ H, u D σ H → t D σ H) : PSs X e u := ⟨fun pins s σ H D I hw => h.run pins s σ H D I (i D σ H hw)⟩
theorem PI.weak {X : Cx} {tg e : Expr} {t u : TI} (h : PI X tg e t) (i : ∀ σ H Q, u σ H Q → t σ H Q) : PI X tg e u := ⟨fun pins s σ H Q I hw => h.run pins s σ H Q I (i σ H Q hw)⟩
def sNext : MSt := fun r S => .ok (.nx r) S
def sSeq (a b : MSt) : MSt := fun r S => match a r S with
  | .ok (.nx r') S' => b r' S'
  | x => x
def sSet (i : Nat) (m : M W) : MSt := do
  let w ← m
  fun r S => .ok (.nx (r.set i (some w))) S
def sExpr (m : M W) : MSt := do
  let _ ← m
  sNext
def sRet (m : M W) : MSt := do
  let w ← m
  pure (.rt w)
def sRetN : MSt := pure (.rt .non)
def sIf (t : M Bool) (a b : MSt) : MSt := mIf t a b
def sBreak : MSt := fun r S => .ok (.bk r) S
def sCont : MSt := fun r S => .ok (.ct r) S
section
variable {K : PySem.W.Frag} {ca : Ca} {E : XK} {io : List Addr} {r : Rho} {S : Sto} {σ : L2.St} {H : Hp}
theorem RE.set {i : Nat} {w : W} {v : V} (h : RE K ca io H r σ) (hv : RV K ca io H w v) : RE K ca io H (r.set i (some w)) (σ.set i (some v)) := by
  refine ⟨by simp [h.1], fun j u q => ?_⟩
  by_cases e : i = j
  · subst e
    have hl : i < r.length := by
      have := (List.getElem?_eq_some_iff.mp q).1
      simpa using this
    rw [List.getElem?_set_self hl] at q
    cases q
    exact ⟨v, by rw [List.getElem?_set_self (by rw [← h.1]; exact hl)], hv⟩
  · rw [List.getElem?_set_ne e] at q
    obtain ⟨v2, h1, h2⟩ := h.2 j u q
    exact ⟨v2, by rw [List.getElem?_set_ne e]; exact h1, h2⟩
theorem RE.del {i : Nat} (h : RE K ca io H r σ) : RE K ca io H (r.set i none) (σ.set i none) := by
  refine ⟨by simp [h.1], fun j u q => ?_⟩
  by_cases e : i = j
  · subst e
    have hl : i < r.length := by
      have := (List.getElem?_eq_some_iff.mp q).1
      simpa using this
    rw [List.getElem?_set_self hl] at q
    cases q
  · rw [List.getElem?_set_ne e] at q
    obtain ⟨v2, h1, h2⟩ := h.2 j u q
    exact ⟨v2, by rw [List.getElem?_set_ne e]; exact h1, h2⟩
end
section
variable {X : Cx} {ca : Ca} {E : XK} {st : Stmt} {rest : List Stmt} {a b : MSt} {m : M W} {e : Expr} {pos : Pos}
theorem ms_nil : MSs X ca E [] sNext := PSs.weak pss_nil fun D σ H h => by
  obtain ⟨io, r, S, l, p⟩ := h
  exact p.done l.z _ l.e
theorem ms_cons (h1 : MS X ca E st a) (h2 : MSs X ca E rest b) : MSs X ca E (st :: rest) (sSeq a b) := PSs.weak (pss_cons h1 h2) fun D σ H h => by
  obtain ⟨io, r, S, l, p⟩ := h
  refine ⟨io, r, S, l, ?_⟩
  unfold sSeq at p
  cases q : a r S with
  | stuck =>
    simp only [q] at p
    exact p
  | exc c ws S' =>
    simp only [q] at p
    exact p
  | ok f S' =>
    cases f with
    | nx r' =>
      simp only [q] at p
      exact fun io' H' e z σ' re => ⟨io', r', S', ⟨z, re⟩, p.mono e⟩
    | rt w =>
      simp only [q] at p
      exact p
    | bk r' =>
      simp only [q] at p
      exact p
    | ct r' =>
      simp only [q] at p
      exact p
theorem ms_one (h : MS X ca E st a) : MSs X ca E [st] a := pss_one h
theorem ms_expr (h : ME X ca E e m) (hs : swapsWith e none pos.line X.env = pure false := by rfl) : MS X ca E (.Expr e pos) (sExpr m) := PS.weak (ps_expr h hs) fun D σ H h => by
  obtain ⟨io, r, S, l, p⟩ := h
  exact tE_imp (tE_bind l p) fun v H1 ⟨io1, S1, w, e1, l1, rv, p1⟩ => Post.done p1 l1.z _ l1.e
theorem ms_ret (h : ME X ca E e m) : MS X ca E (.Return (some e) pos) (sRet m) := PS.weak (ps_ret h) fun D σ H h => by
  obtain ⟨io, r, S, l, p⟩ := h
  exact tE_imp (tE_bind l p) fun v H1 ⟨io1, S1, w, e1, l1, rv, p1⟩ => p1.done l1.z _ rv
theorem ms_set (i : Nat) {x : Str} {pos' : Pos} (hN : X.N.Nodup) (h : ME X ca E e m) (hi : X.N[i]? = some x := by rfl) (hx : Loc X.env.scope x := by first | exact Or.inl rfl | exact Or.inr rfl) (hs : swapsWith e (some (.Name x pos')) pos.line X.env = pure false := by rfl)
    (hf : X.fn x = true ∨ X.env.scope.names.lookup x = some .local := by first | exact .inl rfl | exact .inr rfl | assumption) : MS X ca E (.Assign [.Name x pos'] e pos) (sSet i m) := PS.weak (ps_set (i := i) hN hi hx h hs hf) fun D σ H h => by
  obtain ⟨io, r, S, l, p⟩ := h
  exact tE_imp (tE_bind l p) fun v H1 ⟨io1, S1, w, e1, l1, rv, p1⟩ => Post.done p1 l1.z _ (l1.e.set rv)
theorem ms_if {c : Expr} {xs ys : List Stmt} {mt : M Bool} (hc : MT X ca E c mt) (ha : MSs X ca E xs a) (hb : MSs X ca E ys b) : MS X ca E (.If c xs ys pos) (sIf mt a b) := PS.weak (ps_if hc ha hb) fun D σ H h => by
  obtain ⟨io, r, S, l, p⟩ := h
  refine tT_imp (tT_bind l p) fun k H1 ⟨io1, S1, e1, l1, p1⟩ => ?_
  cases k with
  | true => exact iteT ⟨io1, r, S1, l1, p1⟩
  | false => exact iteF ⟨io1, r, S1, l1, p1⟩
end
/-! ### targets -/
inductive Tg where
  | n (i : Nat) | t (is : List Nat)
def setAll : List Nat → List W → Rho → Option Rho
  | [], [], r => some r
  | i :: is, w :: ws, r => setAll is ws (r.set i (some w))
  | _, _, _ => none
def Tg.run : Tg → W → Rho → Option Rho
  | .n i, w, r => some (r.set i (some w))
  | .t is, .tup ws, r => setAll is ws r
  | _, _, _ => none
def gNs : List Nat → TGs
  | [] => gNil
  | i :: is => gCons (gName i) (gNs is)
def Tg.g (K : PySem.W.Frag) : Tg → TG
  | .n i => gName i
  | .t is => gTup K is.length (gNs is)
def Tg.slots : Tg → List Nat
  | .n i => [i]
  | .t is => is
theorem wipe_get (σ : L2.St) (vs : List Nat) (j : Nat) : (wipe σ vs)[j]? = if j ∈ vs then (σ[j]?.map fun _ => none) else σ[j]? := by
  induction vs with
  | nil => simp [wipe]
  | cons v vs ih =>
    show ((wipe σ vs).set v none)[j]? = _
    by_cases e : v = j
    · subst e
      rw [List.getElem?_set]
      simp only [if_true, List.mem_cons, true_or]
      have hl := wipe_length σ vs
      by_cases h : v < σ.length
      · rw [if_pos (by rw [hl]; exact h)]
        rw [List.getElem?_eq_getElem h]
        rfl
      · rw [if_neg (by rw [hl]; exact h)]
        rw [List.getElem?_eq_none (by omega)]
        rfl
    · rw [List.getElem?_set_ne e, ih]
      simp only [List.mem_cons]
      by_cases hm : j ∈ vs
      · rw [if_pos hm, if_pos (.inr hm)]
      · rw [if_neg hm, if_neg (by intro q; rcases q with q | q; exact e q.symm; exact hm q)]
theorem wipe_set (σ : L2.St) {i : Nat} {x : Option V} {vs : List Nat} (h : i ∈ vs) : wipe (σ.set i x) vs = wipe σ vs := by
  refine List.ext_getElem? fun j => ?_
  rw [wipe_get, wipe_get]
  by_cases hm : j ∈ vs
  · rw [if_pos hm, if_pos hm, List.getElem?_set]
    by_cases e : i = j
    · subst e
      rw [if_pos rfl]
      by_cases hl : i < σ.length
      · rw [if_pos hl, List.getElem?_eq_getElem hl]
        rfl
      · rw [if_neg hl, List.getElem?_eq_none (by omega)]
    · rw [if_neg e]
  · have ne : i ≠ j := fun e => by
      subst e
      exact hm h
    rw [if_neg hm, if_neg hm, List.getElem?_set_ne ne]
section
variable {K : PySem.W.Frag} {ca : Ca} {io : List Addr} {r r1 : Rho} {σ : L2.St} {H : Hp}
theorem gNs_ok : ∀ {is : List Nat} {ws : List W} {vs : List V} {r : Rho} {σ : L2.St} {Q : L2.St → Hp → Prop}, setAll is ws r = some r1 → RVs K ca io H ws vs → RE K ca io H r σ →
    (∀ σ2, RE K ca io H r1 σ2 → (∀ us, (∀ i ∈ is, i ∈ us) → wipe σ2 us = wipe σ us) → Q σ2 H) → gNs is vs σ H Q
  | [], [], vs, r, σ, Q, e, h, re, k => by
    cases (show vs = [] from h)
    simp [setAll] at e
    subst e
    exact ⟨rfl, k σ re fun _ _ => rfl⟩
  | i :: is, w :: ws, vs, r, σ, Q, e, h, re, k => by
    obtain ⟨v, vr, rfl, h1, h2⟩ := h.inv
    refine ⟨v, vr, rfl, ?_⟩
    refine gNs_ok (is := is) (ws := ws) (r := r.set i (some w)) e h2 (re.set h1) fun σ2 h3 h4 => k σ2 h3 fun us hu => ?_
    rw [h4 us (fun j hj => hu j (List.mem_cons_of_mem _ hj)), wipe_set σ (hu i List.mem_cons_self)]
  | [], _ :: _, _, _, _, _, e, _, _, _ => by simp [setAll] at e
  | _ :: _, [], _, _, _, _, e, _, _, _ => by simp [setAll] at e
theorem setAll_len : ∀ {is : List Nat} {ws : List W} {r r1 : Rho}, setAll is ws r = some r1 → ws.length = is.length
  | [], [], _, _, _ => rfl
  | i :: is, w :: ws, r, r1, e => by
    rw [List.length_cons, List.length_cons, setAll_len (is := is) (ws := ws) e]
  | [], _ :: _, _, _, e => by simp [setAll] at e
  | _ :: _, [], _, _, e => by simp [setAll] at e
theorem Tg.ok (T : Tg) {w : W} {v : V} {Q : L2.St → Hp → Prop} (e : T.run w r = some r1) (h : RV K ca io H w v) (re : RE K ca io H r σ)
    (k : ∀ σ2, RE K ca io H r1 σ2 → (∀ us, (∀ i ∈ T.slots, i ∈ us) → wipe σ2 us = wipe σ us) → Q σ2 H) : T.g K v σ H Q := by
  cases T with
  | n i =>
    cases (show some (r.set i (some w)) = some r1 from e)
    exact k _ (re.set h) fun us hu => wipe_set σ (hu i (List.mem_singleton.mpr rfl))
  | t is =>
    cases w <;> first | (simp [Tg.run] at e; done) | skip
    rename_i ws
    obtain ⟨a, vs, rfl, q, rr⟩ := h.tupI
    have e2 : setAll is ws r = some r1 := e
    refine ⟨a, vs, rfl, q.sq, by rw [rr.len, setAll_len e2], gNs_ok e2 rr re k⟩
end
/-! ### what a for walks -/
/-- the items ws come one by one -/
def WalkW (K : PySem.W.Frag) (ca : Ca) (io : List Addr) (H : Hp) (J : It) (ws : List W) : Prop :=
  ∃ (G : Hp → Prop) (Y : Nat → Hp → V → Hp → Prop), Walk J ws.length G Y ∧ (∀ io2 H2, Ext io H io2 H2 → G H2) ∧
    ∀ i io2 S2 H2 x H3, Ext io H io2 H2 → Rl0 K ca io2 S2 H2 → Y i H2 x H3 → i < ws.length → ∃ w, ws[i]? = some w ∧ Ext io2 H2 io2 H3 ∧ Rl0 K ca io2 S2 H3 ∧ RV K ca io2 H3 w x
def tI (K : PySem.W.Frag) (ca : Ca) (E : XK) (m : M (List W)) : TI := fun σ H R => ∃ io r S, Rl K ca io r S σ H ∧ Post K ca E io H (fun ws io' H' => ∀ J, WalkW K ca io' H' J ws → R J H') (m r S)
abbrev MI (X : Cx) (ca : Ca) (E : XK) (tg e : Expr) (m : M (List W)) : Prop := PI X tg e (tI X.K ca E m)
def itL (w : W) (S : Sto) : Res (List W) := match w with
  | .lst xs => .ok xs S
  | .scr ns => .ok (ns.map W.int) S
  | _ => .stuck
def itT (w : W) (S : Sto) : Res (List W) := match w with
  | .tup xs => .ok xs S
  | _ => .stuck
def iL (m : M W) : M (List W) := do
  let w ← m
  fun _ S => itL w S
def iT (m : M W) : M (List W) := do
  let w ← m
  fun _ S => itT w S
/-- lo, lo + c, .. -/
def rngW (lo c : Int) (n : Nat) : List W := (List.range n).map fun (i : Nat) => W.int (lo + (i : Int) * c)
def itR1 (ws : List W) (S : Sto) : Res (List W) := match ws with
  | [.int j] => if -(2 ^ 62) ≤ j ∧ j < 2 ^ 62 then .ok (rngW 0 1 j.toNat) S else .stuck
  | _ => .stuck
def itR2 (ws : List W) (S : Sto) : Res (List W) := match ws with
  | [.int i, .int j] => if -(2 ^ 62) ≤ i ∧ i < 2 ^ 62 ∧ -(2 ^ 62) ≤ j ∧ j < 2 ^ 62 then .ok (rngW i 1 (j - i).toNat) S else .stuck
  | _ => .stuck
def itR3 (ws : List W) (S : Sto) : Res (List W) := match ws with
  | [.int i, .int j, .int c] => if c ≠ 0 ∧ c.natAbs < 1073741824 ∧ Builtin.Range.small i j c = true ∧ 0 ≤ Builtin.Range.rangeSize i j c then .ok (rngW i c (Builtin.Range.rangeSize i j c).toNat) S else .stuck
  | _ => .stuck
def iR1 (m : M (List W)) : M (List W) := do
  let ws ← m
  fun _ S => itR1 ws S
def iR2 (m : M (List W)) : M (List W) := do
  let ws ← m
  fun _ S => itR2 ws S
def iR3 (m : M (List W)) : M (List W) := do
  let ws ← m
  fun _ S => itR3 ws S
def enumW (ws : List W) : List W := (List.range ws.length).zipWith (fun (i : Nat) w => W.tup [.int (i : Int), w]) ws
def itE (w : W) (S : Sto) : Res (List W) := match w with
  | .lst xs => .ok (enumW xs) S
  | _ => .stuck
def iE (m : M W) : M (List W) := do
  let w ← m
  fun _ S => itE w S
section
variable {X : Cx} {ca : Ca} {E : XK} {tg e : Expr} {m : M W}
theorem walk_at {K : PySem.W.Frag} {io : List Addr} {H : Hp} {J : It} {ws : List W} {vs : List V} {G : Hp → Prop} (r : RVs K ca io H ws vs) (w : Walk J vs.length G (YAt vs)) (hG : ∀ io2 H2, Ext io H io2 H2 → G H2) : WalkW K ca io H J ws := by
  refine ⟨G, YAt vs, by rw [← r.len]; exact w, hG, fun i io2 S2 H2 x H3 e z y hi => ?_⟩
  obtain ⟨rfl, hx⟩ := y
  obtain ⟨w, h1, h2⟩ := r.getV hx
  exact ⟨w, h1, Ext.refl _ _, z, h2.mono e⟩
theorem mi_list (h : ME X ca E e m) : MI X ca E tg e (iL m) := PI.weak (pi_list h) fun σ H Q h => by
  obtain ⟨io, r, S, l, p⟩ := h
  refine tE_imp (tE_bind l p) fun v H1 ⟨io1, S1, w, e1, l1, rv, p1⟩ => ?_
  unfold itL at p1
  split at p1
  · obtain ⟨a, vs, rfl, q, rr⟩ := rv.lstI
    exact ⟨a, rfl, ⟨vs, q.sq⟩, p1.done l1.z _ (walk_at rr walk_list fun io2 H2 e => .of (e.keep _ _ q.2 q.1))⟩
  · rename_i ns
    obtain ⟨a, rfl, q⟩ := (show ∃ a, v = .ref a ∧ FzS X.K io1 H1 a (ns.map V.int) from rv)
    refine ⟨a, rfl, ⟨_, q.sq⟩, p1.done l1.z _ (walk_at (RVs.of_ints ns) walk_list fun io2 H2 e => ?_)⟩
    rcases q with ⟨q | ⟨o, q⟩, n⟩ | q
    · exact .inl (.inl (e.keep _ _ n q))
    · exact .inl (.inr ⟨o, e.keep _ _ n q⟩)
    · exact .inr q
  · exact p1.elim
theorem mi_tup (h : ME X ca E e m) : MI X ca E tg e (iT m) := PI.weak (pi_tup h) fun σ H Q h => by
  obtain ⟨io, r, S, l, p⟩ := h
  refine tE_imp (tE_bind l p) fun v H1 ⟨io1, S1, w, e1, l1, rv, p1⟩ => ?_
  unfold itT at p1
  split at p1
  · obtain ⟨a, vs, rfl, q, rr⟩ := rv.tupI
    exact ⟨a, rfl, ⟨vs, q.sq⟩, p1.done l1.z _ (walk_at rr walk_tup fun io2 H2 e => .of (e.keep _ _ q.2 q.1))⟩
  · exact p1.elim
theorem rngW_get {lo c : Int} {n i : Nat} (h : i < n) : (rngW lo c n)[i]? = some (.int (lo + (i : Int) * c)) := by
  unfold rngW
  rw [List.getElem?_map, List.getElem?_range h]
  rfl
theorem rngW_len (lo c : Int) (n : Nat) : (rngW lo c n).length = n := by simp [rngW]
theorem walk_rng {K : PySem.W.Frag} {io : List Addr} {H : Hp} {lo : Int} {n : Nat} : WalkW K ca io H (Itr lo n) (rngW lo 1 n) := by
  refine ⟨fun _ => True, YFn fun i => .int (lo + i), by rw [rngW_len]; exact walk_range, fun _ _ _ => trivial, fun i io2 S2 H2 x H3 e z y hi => ?_⟩
  obtain ⟨rfl, rfl⟩ := y
  rw [rngW_len] at hi
  exact ⟨_, rngW_get hi, Ext.refl _ _, z, by rw [Int.mul_one]; rfl⟩
theorem RVs.int1 {K : PySem.W.Frag} {io : List Addr} {H : Hp} {i : Int} {vs : List V} (h : RVs K ca io H [.int i] vs) : vs = [.int i] := by
  obtain ⟨v, rfl, rv⟩ := h.one
  rw [show v = .int i from rv]
theorem RVs.int2 {K : PySem.W.Frag} {io : List Addr} {H : Hp} {i j : Int} {vs : List V} (h : RVs K ca io H [.int i, .int j] vs) : vs = [.int i, .int j] := by
  obtain ⟨v, y, rfl, rv, ry⟩ := h.two
  rw [show v = .int i from rv, show y = .int j from ry]
theorem mi_range1 {a : Expr} {t : M (List W)} {p pos : Pos} (hm : X.mg "range" = none) (ha : MA X ca E [a] t) (hg : Gl X "range" := by rfl) (hs : starEach [a] X.env = [(false, eval a X.env)] := by rfl) : MI X ca E tg (.Call (.Name "range" p) [a] [] pos) (iR1 t) :=
  PI.weak (pi_range1 hg hm ha hs) fun σ H Q h => by
    obtain ⟨io, r, S, l, p⟩ := h
    refine tA_imp (tA_bind l p) fun vs H1 ⟨io1, S1, ws, e1, l1, rvs, p1⟩ => ?_
    unfold itR1 at p1
    split at p1
    · split at p1
      · rename_i h
        exact ⟨_, rvs.int1, h.1, h.2, p1.done l1.z _ walk_rng⟩
      · exact p1.elim
    · exact p1.elim
theorem mi_range2 {a b : Expr} {t : M (List W)} {p pos : Pos} (hm : X.mg "range" = none) (ha : MA X ca E [a, b] t) (hg : Gl X "range" := by rfl) (hs : starEach [a, b] X.env = [(false, eval a X.env), (false, eval b X.env)] := by rfl)
    (hs2 : starEach [b] X.env = [(false, eval b X.env)] := by rfl) : MI X ca E tg (.Call (.Name "range" p) [a, b] [] pos) (iR2 t) :=
  PI.weak (pi_range2 hg hm ha hs hs2) fun σ H Q h => by
    obtain ⟨io, r, S, l, p⟩ := h
    refine tA_imp (tA_bind l p) fun vs H1 ⟨io1, S1, ws, e1, l1, rvs, p1⟩ => ?_
    unfold itR2 at p1
    split at p1
    · split at p1
      · rename_i h
        exact ⟨_, _, rvs.int2, h, p1.done l1.z _ walk_rng⟩
      · exact p1.elim
    · exact p1.elim
end
end SL
set_option Elab.async false
set_option linter.all false
set_option maxRecDepth 100000
set_option maxHeartbeats 2000000
namespace SL
open PySem PySem.Spec PyProof.Rows L2
section
variable {X : Cx} {ca : Ca} {E : XK} {e : Expr} {m : M W}
theorem enumW_get {ws : List W} {i : Nat} {w : W} (h : ws[i]? = some w) : (enumW ws)[i]? = some (.tup [.int (i : Nat), w]) := by
  have hl := (List.getElem?_eq_some_iff.mp h).1
  unfold enumW
  rw [List.getElem?_zipWith, List.getElem?_range hl, h] <;> rfl
theorem enumW_len (ws : List W) : (enumW ws).length = ws.length := by simp [enumW]
theorem mi_enum {a : Expr} {p pos tpos : Pos} {elts : List Expr} {kk : Nat} (hm : X.mg "enumerate" = none) (ha : ME X ca E a m) (hg : Gl X "enumerate" := by rfl) (hs : starEach [a] X.env = [(false, eval a X.env)] := by rfl) :
    MI X ca E (.Tuple elts kk tpos) (.Call (.Name "enumerate" p) [a] [] pos) (iE m) := by
  refine PI.weak (pi_enum hg hm (ma_cons (m := m) ha (ma_nil (ca := ca) (E := E)) hs) hs) fun σ H Q h => ?_
  obtain ⟨io, r, S, l, p⟩ := h
  have p' : Post X.K ca E io H (fun ws io' H' => ∀ J, WalkW X.K ca io' H' J ws → Q J H') ((mCons m mNil >>= fun ws => (fun _ S => match ws with
      | [w] => itE w S
      | _ => .stuck : M (List W))) r S) := by
    have e : (mCons m mNil >>= fun ws => (fun _ S => match ws with
        | [w] => itE w S
        | _ => .stuck : M (List W))) r S = iE m r S := by
      unfold mCons mNil iE
      simp only [bind_def, pure_def]
      cases m r S <;> rfl
    rw [e]
    exact p
  refine tA_imp (tA_bind l p') fun vs H1 ⟨io1, S1, ws, e1, l1, rvs, p1⟩ => ?_
  split at p1
  · rename_i w
    obtain ⟨v, rfl, rv⟩ := rvs.one
    unfold itE at p1
    split at p1
    · rename_i xs
      obtain ⟨a1, us, rfl, q, rr⟩ := rv.lstI
      refine ⟨a1, us, rfl, q.sq, p1.done l1.z _ ?_⟩
      refine ⟨_, _, by rw [enumW_len, ← rr.len]; exact walk_enum, fun io2 H2 e => SqL.of (e.keep _ _ q.2 q.1), fun i io2 S2 H2 x H3 e z y hi => ?_⟩
      obtain ⟨T, x1, y1, rfl, nT, rfl, h1, h2⟩ := y
      obtain ⟨w1, g1, g2⟩ := rr.getV h2
      cases h1
      exact ⟨_, enumW_get g1, ext_new nT, z.new nT, rv_newT z nT (.cons rfl (.cons (g2.mono e) .nil))⟩
    · exact p1.elim
  · exact p1.elim
/-! ### for -/
def sForL (T : Tg) (b : MSt) : List W → MSt
  | [], r, S => .ok (.nx r) S
  | x :: xs, r, S => match T.run x r with
    | none => .stuck
    | some r1 => match b r1 S with
      | .ok (.nx r2) S2 => sForL T b xs r2 S2
      | .ok (.ct r2) S2 => sForL T b xs r2 S2
      | .ok (.bk r2) S2 => .ok (.nx r2) S2
      | .ok (.rt w) S2 => .ok (.rt w) S2
      | .exc c ws S2 => .exc c ws S2
      | .stuck => .stuck
def sFor (T : Tg) (mi : M (List W)) (b : MSt) : MSt := do
  let xs ← mi
  sForL T b xs
abbrev MG (X : Cx) (tg : Expr) (T : Tg) : Prop := PG X tg (T.g X.K)
theorem mg_name (i : Nat) {x : Str} {pos : Pos} (hN : X.N.Nodup) (hi : X.N[i]? = some x := by rfl) (hx : Loc X.env.scope x := by first | exact Or.inl rfl | exact Or.inr rfl) (hf : X.fn x = true ∨ X.env.scope.names.lookup x = some .local := by first | exact .inl rfl | exact .inr rfl | assumption) :
    MG X (.Name x pos) (.n i) := pg_name hN hi hx hf
abbrev MGs (X : Cx) (es : List Expr) (is : List Nat) : Prop := PGs X es (gNs is)
theorem mgs_nil : MGs X [] [] := pgs_nil
theorem mgs_cons {es : List Expr} {is : List Nat} {e : Expr} {i : Nat} (h : PG X e (gName i)) (t : MGs X es is) (hs : (assignEach (e :: es) X.env).map (·.2) = assign e X.env :: (assignEach es X.env).map (·.2) := by rfl) : MGs X (e :: es) (i :: is) := pgs_cons h t hs
theorem mg_tup {es : List Expr} {k : Nat} {is : List Nat} {pos : Pos} (hc : X.calm = true) (h : MGs X es is) (hl : es.length = is.length := by rfl) (hn : (assignEach es X.env).length = es.length := by rfl) (hst : (assignEach es X.env).findIdx? (·.1) = none := by rfl) : MG X (.Tuple es k pos) (.t is) := by
  have := pg_tup (k := k) (pos := pos) (n := es.length) hc h hn hst
  rw [hl] at this
  exact this
theorem for_turn {K : PySem.W.Frag} {T : Tg} {b : MSt} {x : W} {xs : List W} {io : List Addr} {r : Rho} {S : Sto} {H : Hp} {σ : L2.St} {D : Ends} {v : V} {N : L2.St → Hp → Prop}
    (l : Rl K ca io r S σ H) (rv : RV K ca io H x v) (p : Post K ca E io H (RS K ca D) (sForL T b (x :: xs) r S))
    (hN : ∀ io' r' S' σ' H', Ext io H io' H' → Rl K ca io' r' S' σ' H' → Post K ca E io' H' (RS K ca D) (sForL T b xs r' S') → N σ' H') :
    T.g K v σ H fun σ2 H2 => tS K ca E b { D with nx := N, ct := N, bk := D.nx } σ2 H2 := by
  unfold sForL at p
  cases e : T.run x r with
  | none =>
    simp only [e] at p
    exact p.elim
  | some r1 =>
    simp only [e] at p
    refine T.ok e rv l.e fun σ2 re _ => ⟨io, r1, S, ⟨l.z, re⟩, ?_⟩
    cases q : b r1 S with
    | stuck =>
      simp only [q] at p
      exact p
    | exc c ws S2 =>
      simp only [q] at p
      exact p
    | ok f S2 =>
      cases f with
      | nx r2 =>
        simp only [q] at p
        exact fun io' H' e z σ' re' => hN io' r2 S2 σ' H' e ⟨z, re'⟩ (p.mono e)
      | ct r2 =>
        simp only [q] at p
        exact fun io' H' e z σ' re' => hN io' r2 S2 σ' H' e ⟨z, re'⟩ (p.mono e)
      | bk r2 =>
        simp only [q] at p
        exact p
      | rt w =>
        simp only [q] at p
        exact p
theorem ms_for {T : Tg} {tg iter : Expr} {body : List Stmt} {mi : M (List W)} {b : MSt} {pos : Pos} (hp : PassesOwn (model X.prog X.w) X.A X.env X.xe) (hc : X.calm = true) (hi : MI X ca E tg iter mi) (hg : MG X tg T) (hb : MSs X ca E body b)
    (hs : ∀ x, foldedSetIterable iter X.env x = pure x := by intro _; rfl) : MS X ca E (.For tg iter body [] pos) (sFor T mi b) := by
  refine PS.weak (ps_for hp hc hi hg hb hs) fun D σ H h => ?_
  obtain ⟨io, r, S, l, p⟩ := h
  show tI X.K ca E mi σ H _
  have p0 := p
  unfold sFor at p0
  refine ⟨io, r, S, l, ?_⟩
  rw [bind_def] at p0
  cases q : mi r S with
  | stuck =>
    simp only [q] at p0
    exact p0
  | exc c ws S2 =>
    simp only [q] at p0
    exact p0
  | ok xs S1 =>
    simp only [q] at p0
    intro io1 H1 e1 z1 J ⟨G, Y, wk, hG, hY⟩
    have l1 := l.mono e1 z1
    have p1 := p0.mono e1
    refine for_it wk (fun i σ' H' => ∃ io' r' S', Ext io1 H1 io' H' ∧ Rl X.K ca io' r' S' σ' H' ∧ Post X.K ca E io' H' (RS X.K ca D) (sForL T b (xs.drop i) r' S')) ⟨io1, r, S1, Ext.refl _ _, l1, p1⟩ (fun i σ' H' _ ⟨io', r', S', e, _, _⟩ => hG io' H' e) ?_ ?_
    · rintro i x σ' H' H3 hi ⟨io', r', S', e, l', p'⟩ y
      obtain ⟨w, hw, e3, z3, rv⟩ := hY i io' S' H' x H3 e l'.z y hi
      have hd : xs.drop i = w :: xs.drop (i + 1) := by
        rw [List.drop_eq_getElem_cons hi]
        rw [List.getElem?_eq_getElem hi] at hw
        rw [Option.some.inj hw]
      rw [hd] at p'
      exact for_turn (l'.mono e3 z3) rv (p'.mono e3) fun io4 r4 S4 σ4 H4 e4 l4 p4 => ⟨io4, r4, S4, (e.trans e3).trans e4, l4, p4⟩
    · rintro σ' H' ⟨io', r', S', e, l', p'⟩
      rw [List.drop_length] at p'
      exact Post.done p' l'.z _ l'.e
/-! ### while -/
def sWhileN (t : M Bool) (b : MSt) : Nat → MSt
  | 0, _, _ => .stuck
  | n + 1, r, S => match t r S with
    | .ok false S1 => .ok (.nx r) S1
    | .ok true S1 => match b r S1 with
      | .ok (.nx r2) S2 => sWhileN t b n r2 S2
      | .ok (.ct r2) S2 => sWhileN t b n r2 S2
      | .ok (.bk r2) S2 => .ok (.nx r2) S2
      | .ok (.rt w) S2 => .ok (.rt w) S2
      | .exc c ws S2 => .exc c ws S2
      | .stuck => .stuck
    | .exc c ws S1 => .exc c ws S1
    | .stuck => .stuck
open Classical in
/-- as many turns as it takes -/
noncomputable def sWhile (t : M Bool) (b : MSt) : MSt := fun r S => if h : ∃ n, sWhileN t b n r S ≠ .stuck then sWhileN t b h.choose r S else .stuck
theorem ms_while {c : Expr} {body : List Stmt} {t : M Bool} {b : MSt} {pos : Pos} (hp : PassesOwn (model X.prog X.w) X.A X.env X.xe) (hc : MT X ca E c t) (hb : MSs X ca E body b) : MS X ca E (.While c body [] pos) (sWhile t b) := by
  refine PS.weak (ps_while hp hc hb) fun D σ H h => ?_
  obtain ⟨io, r, S, l, p⟩ := h
  unfold sWhile at p
  split at p
  · rename_i hn
    generalize hn.choose = n at p
    refine ⟨fun n σ H => ∃ io r S, Rl X.K ca io r S σ H ∧ Post X.K ca E io H (RS X.K ca D) (sWhileN t b n r S), ⟨n, io, r, S, l, p⟩, ?_⟩
    rintro n σ H ⟨io, r, S, l, p⟩
    cases n with
    | zero => exact p.elim
    | succ n =>
      unfold sWhileN at p
      refine ⟨io, r, S, l, ?_⟩
      cases q : t r S with
      | stuck =>
        simp only [q] at p
        exact p
      | exc c ws S2 =>
        simp only [q] at p
        exact p
      | ok k S1 =>
        intro io1 H1 e1 z1
        have l1 := l.mono e1 z1
        cases k with
        | false =>
          simp only [q] at p
          exact iteF (Post.done (p.mono e1) z1 _ l1.e)
        | true =>
          simp only [q] at p
          refine iteT ⟨fun σ' H' => ∃ io r S, Rl X.K ca io r S σ' H' ∧ Post X.K ca E io H' (RS X.K ca D) (sWhileN t b n r S), fun σ' H' z => ⟨n, Nat.lt_succ_self n, z⟩, io1, r, S1, l1, ?_⟩
          have p1 := p.mono e1
          cases q2 : b r S1 with
          | stuck =>
            simp only [q2] at p1
            exact p1
          | exc c ws S2 =>
            simp only [q2] at p1
            exact p1
          | ok f S2 =>
            cases f with
            | nx r2 =>
              simp only [q2] at p1
              exact fun io' H' e z σ' re' => ⟨io', r2, S2, ⟨z, re'⟩, p1.mono e⟩
            | ct r2 =>
              simp only [q2] at p1
              exact fun io' H' e z σ' re' => ⟨io', r2, S2, ⟨z, re'⟩, p1.mono e⟩
            | bk r2 =>
              simp only [q2] at p1
              exact p1
            | rt w =>
              simp only [q2] at p1
              exact p1
  · exact p.elim
theorem sWhileN_mono {t : M Bool} {b : MSt} : ∀ (n k : Nat) (r : Rho) (S : Sto), sWhileN t b n r S ≠ .stuck → sWhileN t b (n + k) r S = sWhileN t b n r S
  | 0, k, r, S, h => absurd rfl h
  | n + 1, k, r, S, h => by
    have e : n + 1 + k = (n + k) + 1 := by omega
    rw [e]
    unfold sWhileN at h ⊢
    cases q : t r S with
    | stuck => rfl
    | exc c ws S2 => rfl
    | ok x S1 =>
      cases x with
      | false => rfl
      | true =>
        simp only [q] at h ⊢
        cases q2 : b r S1 with
        | stuck => rfl
        | exc c ws S2 => rfl
        | ok f S2 =>
          cases f with
          | nx r2 =>
            simp only [q2] at h ⊢
            exact sWhileN_mono n k r2 S2 h
          | ct r2 =>
            simp only [q2] at h ⊢
            exact sWhileN_mono n k r2 S2 h
          | bk r2 => rfl
          | rt w => rfl
theorem sWhile_is {t : M Bool} {b : MSt} {n : Nat} {r : Rho} {S : Sto} {x : Res Fw} (h : sWhileN t b n r S = x) (hx : x ≠ .stuck) : sWhile t b r S = x := by
  have hn : ∃ n, sWhileN t b n r S ≠ .stuck := ⟨n, by rw [h]; exact hx⟩
  unfold sWhile
  rw [dif_pos hn]
  have h2 := hn.choose_spec
  generalize hn.choose = j at h2 ⊢
  rw [← sWhileN_mono j n r S h2, Nat.add_comm, sWhileN_mono n j r S (by rw [h]; exact hx), h]
/-! ### comprehensions -/
def wipeR (r : Rho) : List Nat → Rho
  | [] => r
  | v :: vs => (wipeR r vs).set v none
def lcTurn (T : Tg) (tt : M Bool) (te : M W) (x : W) (r : Rho) (S : Sto) : Res (Option W) := match T.run x r with
  | none => .stuck
  | some r1 => match tt r1 S with
    | .ok true S1 => match te r1 S1 with
      | .ok w S2 => .ok (some w) S2
      | _ => .stuck
    | .ok false S1 => .ok none S1
    | _ => .stuck
/-- the new list is the store's n-th object -/
def lcGo (T : Tg) (tt : M Bool) (te : M W) (n : Nat) : List W → M Nat
  | [], _, S => .ok n S
  | x :: xs, r, S => match lcTurn T tt te x r S with
    | .ok (some w) S1 => match S1[n]? with
      | some (.lst acc) => if acc.length < 16000000 then lcGo T tt te n xs r (S1.set n (.lst (acc ++ [w]))) else .stuck
      | _ => .stuck
    | .ok none S1 => lcGo T tt te n xs r S1
    | _ => .stuck
def mYes : M Bool := pure true
def lcAll (vs : List Nat) (T : Tg) (mi : M (List W)) (tt : M Bool) (te : M W) : M Nat := fun r S => match mi r S with
  | .ok xs S1 => if T.slots.all vs.contains then lcGo T tt te S1.length xs (wipeR r vs) (S1 ++ [.lst []]) else .stuck
  | .exc c ws S1 => .exc c ws S1
  | .stuck => .stuck
/-- the list may change behind the comprehension -/
def mLcC (vs : List Nat) (T : Tg) (mi : M (List W)) (tt : M Bool) (te : M W) : M W := do
  let n ← lcAll vs T mi tt te
  pure (.loc n)
open Classical in
/-- it stays as it is; within no object was made that changes -/
noncomputable def mLc (vs : List Nat) (T : Tg) (mi : M (List W)) (tt : M Bool) (te : M W) : M W := fun r S => match mi r S with
  | .ok xs S1 => if T.slots.all vs.contains then match lcGo T tt te S1.length xs (wipeR r vs) (S1 ++ [.lst []]) with
      | .ok n S2 => match S2[n]? with
        | some (.lst acc) => if S2.length = n + 1 ∧ clos n acc = true ∧ Kept S1 S2 then .ok (.lst acc) (S2.take n) else .stuck
        | _ => .stuck
      | _ => .stuck
    else .stuck
  | .exc c ws S1 => .exc c ws S1
  | .stuck => .stuck
theorem RE.wipe {K : PySem.W.Frag} {io : List Addr} {r : Rho} {σ : L2.St} {H : Hp} (h : RE K ca io H r σ) : ∀ vs, RE K ca io H (wipeR r vs) (L2.wipe σ vs)
  | [] => h
  | v :: vs => (RE.wipe h vs).del
theorem wipe_wipe (σ : L2.St) (vs : List Nat) : wipe (wipe σ vs) vs = wipe σ vs := by
  refine List.ext_getElem? fun j => ?_
  rw [wipe_get, wipe_get]
  by_cases hm : j ∈ vs
  · rw [if_pos hm, if_pos hm]
    cases σ[j]? <;> rfl
  · rw [if_neg hm]
/-- what is wanted of a run of turns -/
def PostL (K : PySem.W.Frag) (ca : Ca) (io : List Addr) (H : Hp) (R : List Addr → Sto → Hp → Prop) : Res Nat → Prop
  | .ok _ S' => ∀ io' H', Ext io H io' H' → Rl0 K ca io' S' H' → R io' S' H'
  | _ => False
theorem PostL.mono {K : PySem.W.Frag} {io io' : List Addr} {H H' : Hp} {R : List Addr → Sto → Hp → Prop} {r : Res Nat} (e : Ext io H io' H') (h : PostL K ca io H R r) : PostL K ca io' H' R r := by
  cases r with
  | ok a S => exact fun io2 H2 f z => h io2 H2 (e.trans f) z
  | exc c ws S => exact h
  | stuck => exact h
theorem lc_turn {K : PySem.W.Frag} {T : Tg} {tt : M Bool} {te : M W} {n : Nat} {x : W} {xs : List W} {io : List Addr} {r : Rho} {S : Sto} {H : Hp} {σ : L2.St} {v : V} {vs : List Nat} {R : List Addr → Sto → Hp → Prop} {Dd : Addr} {N : Hp → Prop}
    (z : Rl0 K ca io S H) (re : RE K ca io H (wipeR r vs) (wipe σ vs)) (rv : RV K ca io H x v) (hs : T.slots.all vs.contains = true) (p : PostL K ca io H R (lcGo T tt te n (x :: xs) (wipeR r vs) S)) (hD : io[n]? = some Dd)
    (hN : ∀ io' S' H', Ext io H io' H' → Rl0 K ca io' S' H' → PostL K ca io' H' R (lcGo T tt te n xs (wipeR r vs) S') → N H') :
    T.g K v (wipe σ vs) H fun σ2 H2 => wipe σ2 vs = wipe σ vs ∧ tT K ca (fun _ _ _ => False) tt σ2 H2 fun b H3 =>
      if b = true then tE K ca (fun _ _ _ => False) te σ2 H3 fun y H4 => ∃ acc, H4 Dd = some (.lst acc) ∧ acc.length < sizeLine ∧ N (upd H4 Dd (.lst (acc ++ [y]))) else N H3 := by
  unfold lcGo lcTurn at p
  cases e : T.run x (wipeR r vs) with
  | none =>
    simp only [e] at p
    exact p.elim
  | some r1 =>
    simp only [e] at p
    refine T.ok e rv re fun σ2 re2 hw => ⟨?_, io, r1, S, ⟨z, re2⟩, ?_⟩
    · rw [hw vs fun i hi => by simpa using List.all_eq_true.mp hs i hi, wipe_wipe]
    · cases q : tt r1 S with
      | stuck =>
        simp only [q] at p
        exact p.elim
      | exc c ws S2 =>
        simp only [q] at p
        exact p.elim
      | ok k S1 =>
        intro io1 H1 e1 z1
        cases k with
        | false =>
          simp only [q] at p
          exact iteF (hN io1 S1 H1 e1 z1 (p.mono e1))
        | true =>
          simp only [q] at p
          refine iteT ⟨io1, r1, S1, ⟨z1, re2.mono e1⟩, ?_⟩
          cases q2 : te r1 S1 with
          | stuck =>
            simp only [q2] at p
            exact p.elim
          | exc c ws S2 =>
            simp only [q2] at p
            exact p.elim
          | ok w S2 =>
            simp only [q2] at p
            intro io2 H2 e2 z2 y ry
            have ee := e1.trans e2
            have hD2 := ee.get hD
            cases q3 : S2[n]? with
            | none =>
              simp only [q3] at p
              exact p.elim
            | some c =>
              cases c <;> simp only [q3] at p <;> first | exact p.elim | skip
              rename_i acc
              obtain ⟨a2, g1, us, g2, g3⟩ := z2.at q3
              rw [hD2] at g1
              cases g1
              split at p
              · rename_i hl
                refine ⟨us, g2, by rw [g3.len]; exact lim_lt hl, ?_⟩
                have e3 : Ext io2 H2 io2 (upd H2 Dd (.lst (us ++ [y]))) := ext_put hD2 g2
                refine hN io2 _ _ (ee.trans e3) (z2.put hD2 g2 (c := .lst (acc ++ [w])) ⟨us ++ [y], upd_same, (g3.app (.cons ry .nil)).mono e3⟩) (p.mono (ee.trans e3))
              · exact p.elim
section
variable {elt tg iter : Expr} {ifs : List Expr} {scope : Scope} {own : List (Str × Nat)} {pos : Pos} {T : Tg} {mi : M (List W)} {tt : M Bool} {te : M W}
/-- the reading of a comprehension: all its turns -/
theorem lc_imp {K : PySem.W.Frag} {vs : List Nat} {io : List Addr} {r : Rho} {S : Sto} {σ : L2.St} {H : Hp} {Q : VK} {R : W → List Addr → Hp → Prop} {f : Sto → Sto → Res W} (l : Rl K ca io r S σ H)
    (p : Post K ca E io H R (match mi r S with
      | .ok xs S1 => if T.slots.all vs.contains then match lcGo T tt te S1.length xs (wipeR r vs) (S1 ++ [.lst []]) with
          | .ok n S2 => f S1 S2
          | _ => .stuck
        else .stuck
      | .exc c ws S1 => .exc c ws S1
      | .stuck => .stuck))
    (hf : ∀ io1 S1 H1 Dd io' S2 H2, Rl0 K ca io1 S1 H1 → H1 Dd = none → Ext io H io1 H1 → Ext (io1 ++ [Dd]) (upd H1 Dd (.lst [])) io' H2 → Rl0 K ca io' S2 H2 → Post K ca E io1 H1 R (f S1 S2) → Q (.ref Dd) H2) :
    tLc (tI K ca E mi) (T.g K) (tT K ca (fun _ _ _ => False) tt) (tE K ca (fun _ _ _ => False) te) vs σ H Q := by
  refine ⟨io, r, S, l, ?_⟩
  cases q : mi r S with
  | stuck =>
    simp only [q] at p
    exact p.elim
  | exc c ws S2 =>
    simp only [q] at p
    exact p
  | ok xs S1 =>
    simp only [q] at p
    intro io1 H1 e1 z1 J ⟨G, Y, wk, hG, hY⟩ Dd nD
    have p1 := p.mono e1
    have l1 := l.mono e1 z1
    split at p1
    · rename_i hs
      have e2 : Ext io1 H1 (io1 ++ [Dd]) (upd H1 Dd (.lst [])) := ext_cell nD
      have z2 : Rl0 K ca (io1 ++ [Dd]) (S1 ++ [.lst []]) (upd H1 Dd (.lst [])) := z1.cell nD ⟨[], upd_same, .nil⟩
      have hn : (io1 ++ [Dd])[S1.length]? = some Dd := by
        rw [List.getElem?_append_right (by rw [z1.len]; exact Nat.le_refl _), z1.len, Nat.sub_self]
        rfl
      have p2 : PostL K ca (io1 ++ [Dd]) (upd H1 Dd (.lst [])) (fun io' S2 H2 => Post K ca E io1 H1 R (f S1 S2)) (lcGo T tt te S1.length xs (wipeR r vs) (S1 ++ [.lst []])) := by
        cases g : lcGo T tt te S1.length xs (wipeR r vs) (S1 ++ [.lst []]) with
        | ok n S2 =>
          simp only [g] at p1
          exact fun _ _ _ _ => p1
        | exc c ws S2 =>
          simp only [g] at p1
          exact p1
        | stuck =>
          simp only [g] at p1
          exact p1
      refine lc_it wk (fun i H' => ∃ io' S', Ext (io1 ++ [Dd]) (upd H1 Dd (.lst [])) io' H' ∧ Rl0 K ca io' S' H' ∧ PostL K ca io' H' (fun io' S2 H2 => Post K ca E io1 H1 R (f S1 S2)) (lcGo T tt te S1.length (xs.drop i) (wipeR r vs) S'))
        ⟨_, _, Ext.refl _ _, z2, p2⟩ (fun i H' _ ⟨io', S', e, _, _⟩ => hG io' H' (e2.trans e)) ?_ ?_
      · rintro i x H' H3 hi ⟨io', S', e, z', p'⟩ y
        obtain ⟨w, hw, e3, z3, rv⟩ := hY i io' S' H' x H3 (e2.trans e) z' y hi
        have hd : xs.drop i = w :: xs.drop (i + 1) := by
          rw [List.drop_eq_getElem_cons hi]
          rw [List.getElem?_eq_getElem hi] at hw
          rw [Option.some.inj hw]
        rw [hd] at p'
        have re := ((l1.e.mono e2).mono (e.trans e3)).wipe vs
        exact lc_turn z3 re rv hs (p'.mono e3) (e.trans e3 |>.get hn) fun io4 S4 H4 e4 z4 p4 => ⟨io4, S4, (e.trans e3).trans e4, z4, p4⟩
      · rintro H' ⟨io', S', e, z', p'⟩
        rw [List.drop_length] at p'
        exact hf io1 S1 H1 Dd io' S' H' z1 nD e1 e z' (p' io' H' (Ext.refl _ _) z')
    · exact p1.elim
theorem lcC_imp {K : PySem.W.Frag} {vs : List Nat} {σ : L2.St} {H : Hp} {Q : VK} (h : tE K ca E (mLcC vs T mi tt te) σ H Q) : tLc (tI K ca E mi) (T.g K) (tT K ca (fun _ _ _ => False) tt) (tE K ca (fun _ _ _ => False) te) vs σ H Q := by
  obtain ⟨io, r, S, l, p⟩ := h
  refine lc_imp (f := fun S1 S2 => .ok (.loc S1.length) S2) (R := fun w io' H' => ∀ v, RV K ca io' H' w v → Q v H') l ?_ ?_
  · have e : ∀ n xs r S, ∀ k S2, lcGo T tt te n xs r S = .ok k S2 → k = n := by
      intro n xs
      induction xs with
      | nil =>
        intro r S k S2 h
        cases h
        rfl
      | cons x xs ih =>
        intro r S k S2 h
        unfold lcGo at h
        split at h
        · split at h
          · split at h
            · exact ih _ _ _ _ h
            · cases h
          · cases h
        · exact ih _ _ _ _ h
        · cases h
    unfold mLcC lcAll at p
    rw [bind_def] at p
    cases q : mi r S with
    | stuck =>
      simp only [q] at p ⊢
      exact p
    | exc c ws S2 =>
      simp only [q] at p ⊢
      exact p
    | ok xs S1 =>
      simp only [q] at p ⊢
      by_cases hs : T.slots.all vs.contains = true
      · rw [if_pos hs] at p ⊢
        cases g : lcGo T tt te S1.length xs (wipeR r vs) (S1 ++ [.lst []]) with
        | ok n S2 =>
          have := e _ _ _ _ _ _ g
          subst this
          simp only [g] at p ⊢
          exact p
        | exc c ws S2 =>
          exfalso
          have : ∀ n xs r S, ∀ c ws S2, lcGo T tt te n xs r S ≠ .exc c ws S2 := by
            intro n xs
            induction xs with
            | nil => intro r S c ws S2 h; cases h
            | cons x xs ih =>
              intro r S c ws S2 h
              unfold lcGo at h
              split at h
              · split at h
                · split at h
                  · exact ih _ _ _ _ _ h
                  · cases h
                · cases h
              · exact ih _ _ _ _ _ h
              · cases h
          exact this _ _ _ _ _ _ _ g
        | stuck =>
          simp only [g] at p ⊢
          exact p
      · rw [if_neg hs] at p ⊢
        exact p
  · intro io1 S1 H1 Dd io' S2 H2 z1 nD e1 e z' p'
    refine p' io' H2 ((ext_cell nD).trans e) z' _ ⟨Dd, rfl, e.get ?_⟩
    rw [List.getElem?_append_right (by rw [z1.len]; exact Nat.le_refl _), z1.len, Nat.sub_self]
    rfl
theorem lcF_imp {K : PySem.W.Frag} {vs : List Nat} {σ : L2.St} {H : Hp} {Q : VK} (h : tE K ca E (mLc vs T mi tt te) σ H Q) : tLc (tI K ca E mi) (T.g K) (tT K ca (fun _ _ _ => False) tt) (tE K ca (fun _ _ _ => False) te) vs σ H Q := by
  obtain ⟨io, r, S, l, p⟩ := h
  have key : ∀ n xs r S, ∀ k S2, lcGo T tt te n xs r S = .ok k S2 → k = n := by
    intro n xs
    induction xs with
    | nil =>
      intro r S k S2 h
      cases h
      rfl
    | cons x xs ih =>
      intro r S k S2 h
      unfold lcGo at h
      split at h
      · split at h
        · split at h
          · exact ih _ _ _ _ h
          · cases h
        · cases h
      · exact ih _ _ _ _ h
      · cases h
  unfold mLc at p
  cases q : mi r S with
  | stuck =>
    simp only [q] at p
    exact p.elim
  | exc c ws S2 =>
    simp only [q] at p
    refine lc_imp (E := E) (f := fun _ _ => .stuck) (R := fun w io' H' => ∀ v, RV K ca io' H' w v → Q v H') l (by simp only [q]; exact p) fun _ _ _ _ _ _ _ _ _ _ _ _ p' => p'.elim
  | ok xs S1 =>
    simp only [q] at p
    classical
    refine lc_imp (f := fun S1 S2 => match S2[S1.length]? with
        | some (.lst acc) => if S2.length = S1.length + 1 ∧ clos S1.length acc = true ∧ Kept S1 S2 then .ok (.lst acc) (S2.take S1.length) else .stuck
        | _ => .stuck) (R := fun w io' H' => (∀ v, RV K ca io' H' w v → Q v H')) l ?_ ?_
    · simp only [q]
      by_cases hs : T.slots.all vs.contains = true
      · rw [if_pos hs] at p ⊢
        cases g : lcGo T tt te S1.length xs (wipeR r vs) (S1 ++ [.lst []]) with
        | ok n S2 =>
          have := key _ _ _ _ _ _ g
          subst this
          simp only [g] at p ⊢
          exact p
        | exc c ws S2 =>
          simp only [g] at p
          exact p.elim
        | stuck =>
          simp only [g] at p
          exact p.elim
      · rw [if_neg hs] at p
        exact p.elim
    · intro io1 S1 H1 Dd io' S2 H2 z1 nD e1 e z' p'
      have hn : (io1 ++ [Dd])[S1.length]? = some Dd := by
        rw [List.getElem?_append_right (by rw [z1.len]; exact Nat.le_refl _), z1.len, Nat.sub_self]
        rfl
      split at p'
      · rename_i acc g
        split at p'
        · rename_i hk
          obtain ⟨k1, k2, k3⟩ := hk
          obtain ⟨t, rfl, ht⟩ := e.pre
          have ln := z'.len
          rw [k1] at ln
          simp only [List.length_append, List.length_singleton, z1.len] at ln
          have ht0 : t = [] := List.length_eq_zero_iff.mp (by omega)
          subst ht0
          rw [List.append_nil] at z' e
          obtain ⟨a, g1, us, g2, g3⟩ := z'.at g
          rw [hn] at g1
          cases g1
          rw [← z1.len] at k2
          refine p' io1 H2 ⟨⟨[], by simp, by simp⟩, fun a o na q d => ?_, fun a o q => ?_⟩ (z1.shrink z' k3) _ ⟨Dd, us, rfl, ⟨g2, z1.free nD⟩, g3.shrink k2⟩
          · have ne := ne_of_none q nD
            refine e.kp a o (fun m => ?_) (by rw [upd_ne ne]; exact q) d
            rcases List.mem_append.mp m with m | m
            · exact na m
            · exact ne (List.mem_singleton.mp m)
          · exact e.dom a o (by rw [upd_ne (ne_of_none q nD)]; exact q)
        · exact p'.elim
      · exact p'.elim
/-- [e for x in ..] as a value: it stays as it is | it may change -/
theorem me_lc (vs : List Nat) (hc : X.calm = true) (hN : X.N.Nodup) (hi : MI X ca E tg iter mi) (ok : BlkOk X.N X.env.scope scope own) (hv : own.map (·.2) = vs)
    (hg : ∀ (s : Shared) (H : Hp) (C : Addr) (cl : List (Str × Addr)) (fp : List Addr), MG (X.blk s H scope (compEnvC scope cl C X.env) fp) tg T) (ht : ∀ (s : Shared) (H : Hp) (C : Addr) (cl : List (Str × Addr)) (fp : List Addr), PTs (X.blk s H scope (compEnvC scope cl C X.env) fp) ifs (tT X.K ca (fun _ _ _ => False) tt))
    (he : ∀ (s : Shared) (H : Hp) (C : Addr) (cl : List (Str × Addr)) (fp : List Addr), ME (X.blk s H scope (compEnvC scope cl C X.env) fp) ca (fun _ _ _ => False) elt te) (hs : ∀ x, foldedSetIterable iter X.env x = pure x := by intro _; rfl) :
    ME X ca E (.ListComp elt [⟨tg, iter, ifs, 0⟩] scope pos) (mLc vs T mi tt te) := by
  subst hv
  exact PE.weak (pe_lc hc hN hi ok hg ht he hs) fun σ H Q h => lcF_imp h
theorem me_lcC (vs : List Nat) (hc : X.calm = true) (hN : X.N.Nodup) (hi : MI X ca E tg iter mi) (ok : BlkOk X.N X.env.scope scope own) (hv : own.map (·.2) = vs)
    (hg : ∀ (s : Shared) (H : Hp) (C : Addr) (cl : List (Str × Addr)) (fp : List Addr), MG (X.blk s H scope (compEnvC scope cl C X.env) fp) tg T) (ht : ∀ (s : Shared) (H : Hp) (C : Addr) (cl : List (Str × Addr)) (fp : List Addr), PTs (X.blk s H scope (compEnvC scope cl C X.env) fp) ifs (tT X.K ca (fun _ _ _ => False) tt))
    (he : ∀ (s : Shared) (H : Hp) (C : Addr) (cl : List (Str × Addr)) (fp : List Addr), ME (X.blk s H scope (compEnvC scope cl C X.env) fp) ca (fun _ _ _ => False) elt te) (hs : ∀ x, foldedSetIterable iter X.env x = pure x := by intro _; rfl) :
    ME X ca E (.ListComp elt [⟨tg, iter, ifs, 0⟩] scope pos) (mLcC vs T mi tt te) := by
  subst hv
  exact PE.weak (pe_lc hc hN hi ok hg ht he hs) fun σ H Q h => lcC_imp h
/-- y = [e for x in ..] -/
theorem ms_setLc (i : Nat) (vs : List Nat) {y : Str} {py spos : Pos} (hc : X.calm = true) (hN : X.N.Nodup) (hi : MI X ca E tg iter mi) (ok : BlkOk X.N X.env.scope scope own) (hv : own.map (·.2) = vs)
    (hg : ∀ (s : Shared) (H : Hp) (C : Addr) (cl : List (Str × Addr)) (fp : List Addr), MG (X.blk s H scope (compEnvC scope cl C X.env) fp) tg T) (ht : ∀ (s : Shared) (H : Hp) (C : Addr) (cl : List (Str × Addr)) (fp : List Addr), PTs (X.blk s H scope (compEnvC scope cl C X.env) fp) ifs (tT X.K ca (fun _ _ _ => False) tt))
    (he : ∀ (s : Shared) (H : Hp) (C : Addr) (cl : List (Str × Addr)) (fp : List Addr), ME (X.blk s H scope (compEnvC scope cl C X.env) fp) ca (fun _ _ _ => False) elt te)
    (hy : X.N[i]? = some y := by rfl) (hyl : X.env.scope.names.lookup y = some .local := by rfl) (hsw : swapsWith (.ListComp elt [⟨tg, iter, ifs, 0⟩] scope pos) (some (.Name y py)) spos.line X.env = pure true := by exact sw_true rfl rfl rfl (by decide +kernel)) (hs : ∀ x, foldedSetIterable iter X.env x = pure x := by intro _; rfl) :
    MS X ca E (.Assign [.Name y py] (.ListComp elt [⟨tg, iter, ifs, 0⟩] scope pos) spos) (sSet i (mLc vs T mi tt te)) := by
  subst hv
  refine PS.weak (ps_setLc (i := i) (g := T.g X.K) (te := tE X.K ca (fun _ _ _ => False) te) hc hN hy hyl hsw hi ok hg ht he hs) fun D σ H h => ?_
  obtain ⟨io, r, S, l, p⟩ := h
  exact lcF_imp (tE_imp (tE_bind l p) fun v H1 ⟨io1, S1, w, e1, l1, rv, p1⟩ => Post.done p1 l1.z _ (l1.e.set rv))
theorem mts_nil {X : Cx} {ca : Ca} {E : XK} : PTs X [] (tT X.K ca E mYes) := ⟨fun pins s σ H Q I h => by
  obtain ⟨io, r, S, l, p⟩ := h
  exact pts_nil.run pins s σ H Q I (p.done l.z)⟩
theorem mts_one {X : Cx} {ca : Ca} {E : XK} {c : Expr} {t : M Bool} (h : MT X ca E c t) : PTs X [c] (tT X.K ca E t) := pts_one h
end
end
end SL
set_option Elab.async false
set_option linter.all false
set_option maxRecDepth 100000
set_option maxHeartbeats 2000000
namespace SL
open PySem PySem.Spec PyProof.Rows L2
section
variable {X : Cx} {ca : Ca} {E : XK}
/-! ### methods of built-in types -/
def recvOk (T : String) (S : Sto) (w : W) : Bool := match w with
  | .str _ => decide (T = "str")
  | .lst _ => decide (T = "list")
  | .ktup _ => decide (T = "tuple")
  | .loc n => match S[n]? with
    | some (.lst _) => decide (T = "list")
    | some (.dk _ _) => decide (T = "dict")
    | some (.dt _ _) => decide (T = "dict")
    | _ => false
  | _ => false
theorem recv_ok {K : PySem.W.Frag} {io : List Addr} {S : Sto} {H : Hp} (z : Rl0 K ca io S H) {T : String} {w : W} {v : V} (h : RV K ca io H w v) (g : recvOk T S w = true) : tyV K T v H := by
  cases w <;> first | (simp [recvOk] at g; done) | skip
  · cases (show v = _ from h)
    exact (of_decide_eq_true (show decide (T = "str") = true from g) : T = "str")
  · rename_i n
    obtain ⟨a, rfl, q⟩ := h.locI
    unfold recvOk at g
    cases e : S[n]? with
    | none => simp [e] at g
    | some c =>
      obtain ⟨a2, q2, rc⟩ := z.at e
      rw [q] at q2
      cases q2
      cases c with
      | lst xs =>
        simp only [e] at g
        obtain ⟨vs, h1, _⟩ := rc
        exact .inl ⟨of_decide_eq_true g, vs, .of h1⟩
      | ins c xs => simp [e] at g
      | dk ks xs =>
        simp only [e] at g
        obtain ⟨vs, h1, _⟩ := rc
        exact .inr (.inr (.inl ⟨of_decide_eq_true g, .inl ⟨_, h1⟩⟩))
      | dt ks xs =>
        simp only [e] at g
        obtain ⟨vs, h1, _⟩ := rc
        exact .inr (.inr (.inl ⟨of_decide_eq_true g, .inr ⟨_, h1⟩⟩))
      | fn k xs => simp [e] at g
  · obtain ⟨a, vs, rfl, q, r⟩ := h.lstI
    exact .inl ⟨of_decide_eq_true g, vs, q.sq⟩
  · obtain ⟨a, vs, rfl, q, r⟩ := (show ∃ a vs, v = .ref a ∧ WrT K a vs ∧ RVs K ca io H _ vs from h)
    obtain ⟨o, its, n, h1, h2, h3, h4, h5, h6⟩ := q
    exact .inr (.inl ⟨of_decide_eq_true g, o, h1, h2, h6⟩)
def mBm (T : String) (fm : FnM) (o : M W) (t : M (List W)) : M W := do
  let w ← o
  let w' ← (fun _ S => if recvOk T S w then .ok w S else .stuck : M W)
  let ws ← t
  fun _ S => fm (w' :: ws) S
def MtS (X : Cx) (ca : Ca) (E : XK) (id : String) (fm : FnM) : Prop := MtR X id (fun x xs H Q => spM X.K ca fm (x :: xs) H Q E)
theorem bm_imp {K : PySem.W.Frag} {T : String} {fm : FnM} {mo : M W} {t : M (List W)} {σ : L2.St} {H : Hp} {Q : VK} (h : tE K ca E (mBm T fm mo t) σ H Q) : tBM K T (fun x xs H Q => spM K ca fm (x :: xs) H Q E) (tE K ca E mo) (tA K ca E t) σ H Q := by
  obtain ⟨io, r, S, l, p⟩ := h
  refine tE_imp (tE_bind l p) fun v H1 ⟨io1, S1, w, e1, l1, rv, p1⟩ => ?_
  rw [bind_def] at p1
  by_cases g : recvOk T S1 w = true
  · simp only [g, if_true] at p1
    exact ⟨recv_ok l1.z rv g, tA_imp (tA_bind l1 p1) fun vs H2 ⟨io2, S2, ws, e2, l2, rvs, p2⟩ => ⟨io2, w :: ws, S2, l2.z, .cons (rv.mono e2) rvs, p2⟩⟩
  · simp only [g] at p1
    exact False.elim p1
section
variable {o e : Expr} {es : List Expr} {mo : M W} {t : M (List W)} {name : Str} {apos cpos : Pos} {T id : String} {fm : FnM}
theorem me_bm (pa : PlainAttrs T) (slot : Slot T name id) (hty : typeOf (.builtin id) = pure (.type "method_descriptor")) (hm : MtS X ca E id fm) (ho : ME X ca E o mo) (ha : MA X ca E (e :: es) t)
    (hbase : attributeBase o name X.env (eval o X.env) = eval o X.env := by rfl)
    (hfew : ((backTo cpos (starEach (e :: es) X.env)).all (fun x => !x.1) && (backToKw cpos (keywordEach [] X.env)).all (fun x => x.1.isSome)
      && decide ((e :: es).length + ([] : List Keyword).length + (if ([] : List Keyword).isEmpty then 0 else 1) < 30)) = true := by rfl)
    (hline : (apos.endLine == cpos.line) = true := by rfl) (hs : starEach (e :: es) X.env = (false, eval e X.env) :: starEach es X.env := by rfl) (hplain : (backTo cpos (starEach es X.env)).any (·.1) = false := by rfl) :
    ME X ca E (.Call (.Attribute o name apos) (e :: es) [] cpos) (mBm T fm mo t) := PE.weak (pe_bm pa slot hty hm ho ha hbase hfew hline hs hplain) fun σ H Q h => bm_imp h
end
/-- the cell that w names -/
def cellL (S : Sto) (w : W) : Option (Nat × List W) := match w with
  | .loc n => match S[n]? with
    | some (.lst xs) => some (n, xs)
    | _ => none
  | _ => none
theorem cellL_ok {K : PySem.W.Frag} {io : List Addr} {S : Sto} {H : Hp} (z : Rl0 K ca io S H) {w : W} {v : V} {n : Nat} {xs : List W} (h : RV K ca io H w v) (g : cellL S w = some (n, xs)) : ∃ a vs, v = .ref a ∧ io[n]? = some a ∧ H a = some (.lst vs) ∧ RVs K ca io H xs vs := by
  cases w <;> first | (simp [cellL] at g; done) | skip
  rename_i m
  obtain ⟨a, rfl, q⟩ := h.locI
  unfold cellL at g
  cases e : S[m]? with
  | none => simp [e] at g
  | some c =>
    cases c <;> simp [e] at g
    obtain ⟨rfl, rfl⟩ := g
    obtain ⟨a2, q2, vs, h1, h2⟩ := z.at e
    rw [q] at q2
    cases q2
    exact ⟨a, vs, rfl, q, h1, h2⟩
theorem cell_put {K : PySem.W.Frag} {io : List Addr} {S : Sto} {H : Hp} {n : Nat} {a : Addr} {vs us : List V} {ys : List W} {α : Type} {R : α → List Addr → Hp → Prop} {x : α} (z : Rl0 K ca io S H) (q : io[n]? = some a) (h1 : H a = some (.lst vs)) (h2 : RVs K ca io H ys us)
    (p : Post K ca E io H R (.ok x (S.set n (.lst ys)))) : R x io (upd H a (.lst us)) := by
  have e : Ext io H io (upd H a (.lst us)) := ext_put q h1
  exact p io _ e (z.put q h1 ⟨us, upd_same, h2.mono e⟩)
def fAppend : FnM := fun ws S => match ws with
  | [w, x] => match cellL S w with
    | some (n, xs) => if xs.length < 16000000 then .ok .non (S.set n (.lst (xs ++ [x]))) else .stuck
    | none => .stuck
  | _ => .stuck
theorem fm_append : MtS X ca E "list.append" fAppend := by
  intro pins s σ H x xs v us Q I rx rs h
  obtain ⟨io, ws, S, z, rvs, p⟩ := h
  unfold fAppend at p
  split at p
  · obtain ⟨v1, v2, e, r1, r2⟩ := rvs.two
    cases e
    split at p
    · rename_i n ys g
      obtain ⟨a, vs, rfl, q, h1, h2⟩ := cellL_ok z r1 g
      split at p
      · rename_i hl
        rw [← h2.len] at hl
        exact mt_append pins s σ H _ _ v us Q I rx rs ⟨a, vs, _, rfl, rfl, h1, lim_lt hl, cell_put z q h1 (h2.app (.cons r2 .nil)) p _ rfl⟩
      · exact p.elim
    · exact p.elim
  · exact p.elim
def fPop : FnM := fun ws S => match ws with
  | [w] => match cellL S w with
    | some (n, xs) => match xs[xs.length - 1]? with
      | some y => .ok y (S.set n (.lst xs.dropLast))
      | none => .stuck
    | none => .stuck
  | [w, .int i] => match cellL S w with
    | some (n, xs) => if -(2 ^ 63) ≤ i ∧ i < 2 ^ 63 then match seqIndex? i xs.length with
        | some k => match xs[k]? with
          | some y => .ok y (S.set n (.lst (xs.eraseIdx k)))
          | none => .stuck
        | none => .stuck
      else .stuck
    | none => .stuck
  | _ => .stuck
theorem RVs.dropLast {K : PySem.W.Frag} {io : List Addr} {H : Hp} {ws : List W} {vs : List V} (h : RVs K ca io H ws vs) : RVs K ca io H ws.dropLast vs.dropLast := by
  rw [List.dropLast_eq_take, List.dropLast_eq_take, h.len]
  exact h.take _
theorem fm_pop : MtS X ca E "list.pop" fPop := by
  intro pins s σ H x xs v us Q I rx rs h
  obtain ⟨io, ws, S, z, rvs, p⟩ := h
  unfold fPop at p
  split at p
  · obtain ⟨v1, e, r1⟩ := rvs.one
    cases e
    split at p
    · rename_i n ys g
      obtain ⟨a, vs, rfl, q, h1, h2⟩ := cellL_ok z r1 g
      split at p
      · rename_i y hy
        obtain ⟨v2, g1, g2⟩ := h2.get hy
        rw [← h2.len] at g1
        refine mt_pop pins s σ H _ _ v us Q I rx rs ⟨a, vs, v2, rfl, rfl, h1, g1, ?_⟩
        have e : Ext io H io (upd H a (.lst vs.dropLast)) := ext_put q h1
        exact cell_put z q h1 h2.dropLast p _ (g2.mono e)
      · exact p.elim
    · exact p.elim
  · obtain ⟨v1, v2, e, r1, r2⟩ := rvs.two
    cases e
    cases (show v2 = _ from r2)
    split at p
    · rename_i n ys g
      obtain ⟨a, vs, rfl, q, h1, h2⟩ := cellL_ok z r1 g
      split at p
      · rename_i hi
        split at p
        · rename_i k hk
          split at p
          · rename_i y hy
            obtain ⟨v2, g1, g2⟩ := h2.get hy
            rw [← h2.len] at hk
            refine mt_popAt pins s σ H _ _ v us Q I rx rs ⟨a, vs, _, k, v2, rfl, rfl, h1, hi.1, hi.2, hk, g1, ?_⟩
            have e : Ext io H io (upd H a (.lst (vs.eraseIdx k))) := ext_put q h1
            exact cell_put z q h1 (h2.erase k) p _ (g2.mono e)
          · exact p.elim
        · exact p.elim
      · exact p.elim
    · exact p.elim
  · exact p.elim
/-! ### stores -/
section
variable {o i e : Expr} {mo mi m : M W} {pos pos' : Pos}
def opSetL (o i x : W) (S : Sto) : Res Unit := match i with
  | .int k => match cellL S o with
    | some (n, xs) => match ixN xs.length k with
      | some j => .ok () (S.set n (.lst (xs.set j x)))
      | none => .stuck
    | none => .stuck
  | _ => .stuck
/-- o[i] = e, o a list -/
def sIxSet (mo mi m : M W) : MSt := do
  let x ← m
  let a ← mo
  let b ← mi
  fun r S => match opSetL a b x S with
    | .ok _ S' => .ok (.nx r) S'
    | _ => .stuck
theorem ms_ixset (ho : ME X ca E o mo) (hi : ME X ca E i mi) (h : ME X ca E e m)
    (ha : ∀ v, assign (.Subscript o i pos') X.env v = (do
      let ov ← holding [v] (eval o X.env)
      let iv ← holding [v, ov] (eval i X.env)
      standAt pos'
      holding [v, ov, iv] (setItem ov iv v)
      release [v, ov, iv] []) := by intro _; rfl)
    (hs : swapsWithSole [.Subscript o i pos'] e pos.line X.env = pure false := by rfl) (hw : swappedStores [.Subscript o i pos'] e X.env = pure none := by rfl) (h1 : (assignEach [.Subscript o i pos'] X.env).map (·.2) = [assign (.Subscript o i pos') X.env] := by rfl) :
    MS X ca E (.Assign [.Subscript o i pos'] e pos) (sIxSet mo mi m) := PS.weak (ps_asg h (pg_sub ho hi set_list ha) hs hw h1) fun D σ H h => by
  obtain ⟨io, r, S, l, p⟩ := h
  refine tE_imp (tE_bind l p) fun v H1 ⟨io1, S1, w, e1, l1, rv, p1⟩ => ?_
  refine tE_imp (tE_bind l1 p1) fun v2 H2 ⟨io2, S2, w2, e2, l2, rv2, p2⟩ => ?_
  refine tE_imp (tE_bind l2 p2) fun v3 H3 ⟨io3, S3, w3, e3, l3, rv3, p3⟩ => ?_
  simp only [opSetL] at p3
  cases w3 <;> first | exact False.elim p3 | skip
  rename_i k
  cases (show v3 = _ from rv3)
  cases g : cellL S3 w2 with
  | none =>
    simp only [g] at p3
    exact False.elim p3
  | some nx =>
    obtain ⟨n, xs⟩ := nx
    simp only [g] at p3
    cases g2 : ixN xs.length k with
    | none =>
      simp only [g2] at p3
      exact False.elim p3
    | some j =>
      simp only [g2] at p3
      obtain ⟨a, vs, rfl, q, h1, h2⟩ := cellL_ok l3.z (rv2.mono e3) g
      rw [← h2.len] at g2
      refine ⟨a, vs, k, j, rfl, rfl, h1, g2, ?_⟩
      have rw_ := ((rv.mono e2).mono e3)
      have e : Ext io3 H3 io3 (upd H3 a (.lst (vs.set j v))) := ext_put q h1
      exact cell_put l3.z q h1 (h2.set j rw_) p3 _ (l3.e.mono e)
/-- o.f = e -/
def setO (c : Cl) (f : Fl) (o x : W) (S : Sto) : Res Unit := match o with
  | .loc n => match S[n]?, fix c f with
    | some (.ins d xs), some i => if d = c ∧ i ≤ xs.length then .ok () (S.set n (.ins c (if i < xs.length then xs.set i x else xs ++ [x]))) else .stuck
    | _, _ => .stuck
  | _ => .stuck
def sFldSet (c : Cl) (f : Fl) (mo m : M W) : MSt := do
  let x ← m
  let a ← mo
  fun r S => match setO c f a x S with
    | .ok _ S' => .ok (.nx r) S'
    | _ => .stuck
theorem fix_lt {c : Cl} {f : Fl} {i : Nat} (h : fix c f = some i) : i < (flds c).length := by
  unfold fix at h
  obtain ⟨h1, _⟩ := List.findIdx?_eq_some_iff_getElem.mp h
  exact h1
theorem flds_few (c : Cl) : (flds c).length ≤ 5 := by cases c <;> first | decide | exact Nat.zero_le _
theorem ms_fldset {c : Cl} {f : Fl} {x : Str} (hc : Cls X.K (ca c)) (hn : NoAttr X.K (ca c) (fname f)) (ho : ME X ca E o mo) (h : ME X ca E e m) (hx : x = fname f := by rfl) (hs : swapsWith e (some (.Attribute o x pos')) pos.line X.env = pure false := by rfl) :
    MS X ca E (.Assign [.Attribute o x pos'] e pos) (sFldSet c f mo m) := by
  subst hx
  refine PS.weak (ps_fld ho h hs) fun D σ H h => ?_
  obtain ⟨io, r, S, l, p⟩ := h
  refine tE_imp (tE_bind l p) fun v H1 ⟨io1, S1, w, e1, l1, rv, p1⟩ => ?_
  refine tE_imp (tE_bind l1 p1) fun v2 H2 ⟨io2, S2, w2, e2, l2, rv2, p2⟩ => ?_
  simp only [setO] at p2
  cases w2 <;> first | exact False.elim p2 | skip
  rename_i n
  obtain ⟨a, rfl, q⟩ := rv2.locI
  cases g : S2[n]? with
  | none =>
    simp only [g] at p2
    exact False.elim p2
  | some ce =>
    cases ce <;> simp only [g] at p2 <;> first | exact False.elim p2 | skip
    rename_i d xs
    cases g2 : fix c f with
    | none =>
      simp only [g2] at p2
      exact False.elim p2
    | some i =>
      simp only [g2] at p2
      by_cases hk : d = c ∧ i ≤ xs.length
      · rw [if_pos hk] at p2
        obtain ⟨rfl, hi⟩ := hk
        obtain ⟨a2, q2, dx, vs, h1, h2, h3⟩ := l2.z.at g
        rw [q] at q2
        cases q2
        have hlz : ((fnames d).zip vs).length < 1000 := by
          rw [List.length_zip]
          have := flds_few d
          omega
        refine ⟨a, ca d, dx, _, rfl, h1, hc, hn, hlz, ?_⟩
        have hp := putF_zip f v (flds d) vs i g2 (by rw [h3.len]; exact hi)
        rw [show fnames d = (flds d).map fname from rfl, hp]
        have rw_ := rv.mono e2
        have h4 : RVs X.K ca io2 H2 (if i < xs.length then xs.set i w else xs ++ [w]) (if i < vs.length then vs.set i v else vs ++ [v]) := by
          rw [h3.len]
          split
          · exact h3.set i rw_
          · exact h3.app (.cons rw_ .nil)
        have e : Ext io2 H2 io2 (upd H2 a (.ins (ca d) dx (((flds d).map fname).zip (if i < vs.length then vs.set i v else vs ++ [v])))) := ext_put q h1
        refine p2 io2 _ e (l2.z.put q h1 (c := .ins d (if i < xs.length then xs.set i w else xs ++ [w])) ⟨dx, _, upd_same, ?_, h4.mono e⟩) _ (l2.e.mono e)
        have := fix_lt g2
        split <;> simp <;> omega
      · rw [if_neg hk] at p2
        exact False.elim p2
end
end
end SL
set_option Elab.async false
set_option linter.all false
set_option maxRecDepth 100000
set_option maxHeartbeats 2000000
namespace SL
open PySem PySem.Spec PyProof.Rows L2
section
variable {X : Cx} {ca : Ca} {E : XK}
/-! ### several targets -/
/-- a, b = x, y and a, b, c = x, y, z where no tuple is made -/
def sPar (is : List Nat) (t : M (List W)) : MSt := do
  let ws ← t
  fun r S => match setAll is ws r with
    | some r1 => .ok (.nx r1) S
    | none => .stuck
/-- targets = e, e a tuple -/
def sTg (T : Tg) (m : M W) : MSt := do
  let w ← m
  fun r S => match T.run w r with
    | some r1 => .ok (.nx r1) S
    | none => .stuck
/-- (a, b, ..) = e, e a list -/
def sTgL (is : List Nat) (m : M W) : MSt := do
  let w ← m
  fun r S => match getL S w with
    | some ws => match setAll is ws r with
      | some r1 => .ok (.nx r1) S
      | none => .stuck
    | none => .stuck
section
variable {i j l : Nat} {x y z : Str} {a b c e tg : Expr} {t : M (List W)} {m : M W} {px py pz pt pos pt2 : Pos} {kt k2 : Nat}
theorem ms_par2 (i j : Nat) (hc : X.calm = true) (hN : X.N.Nodup) (ha : MA X ca E [a, b] t) (hi : X.N[i]? = some x := by rfl) (hj : X.N[j]? = some y := by rfl) (hij : i ≠ j := by decide)
    (hx : X.env.scope.names.lookup x = some .local := by rfl) (hy : X.env.scope.names.lookup y = some .local := by rfl)
    (hw : swappedStores [.Tuple [.Name x px, .Name y py] kt pt] (.Tuple [a, b] k2 pt2) X.env = pure (some [x, y]) := by rfl)
    (hs : swapsWithSole [.Tuple [.Name x px, .Name y py] kt pt] (.Tuple [a, b] k2 pt2) pos.line X.env = pure false := by rfl) :
    MS X ca E (.Assign [.Tuple [.Name x px, .Name y py] kt pt] (.Tuple [a, b] k2 pt2) pos) (sPar [i, j] t) := PS.weak (ps_par hc hN hi hj hij hx hy ha hw hs) fun D σ H h => by
  obtain ⟨io, r, S, l, p⟩ := h
  refine tA_imp (tA_bind l p) fun vs H1 ⟨io1, S1, ws, e1, l1, rvs, p1⟩ => ?_
  match ws, rvs, p1 with
  | [w1, w2], rvs, p1 =>
    obtain ⟨v1, v2, rfl, r1, r2⟩ := rvs.two
    exact ⟨v1, v2, rfl, Post.done p1 l1.z _ ((l1.e.set r1).set r2)⟩
  | [], _, p1 => exact False.elim p1
  | [_], _, p1 => exact False.elim p1
  | _ :: _ :: _ :: _, _, p1 => exact False.elim p1
theorem ms_par3 (i j l : Nat) (hc : X.calm = true) (hN : X.N.Nodup) (ha : MA X ca E [a, b, c] t) (hi : X.N[i]? = some x := by rfl) (hj : X.N[j]? = some y := by rfl) (hl : X.N[l]? = some z := by rfl) (hij : i ≠ j := by decide) (hil : i ≠ l := by decide) (hjl : j ≠ l := by decide)
    (hx : X.env.scope.names.lookup x = some .local := by rfl) (hy : X.env.scope.names.lookup y = some .local := by rfl) (hz : X.env.scope.names.lookup z = some .local := by rfl)
    (hw : swappedStores [.Tuple [.Name x px, .Name y py, .Name z pz] kt pt] (.Tuple [a, b, c] k2 pt2) X.env = pure (some [x, y, z]) := by rfl)
    (hs : swapsWithSole [.Tuple [.Name x px, .Name y py, .Name z pz] kt pt] (.Tuple [a, b, c] k2 pt2) pos.line X.env = pure false := by rfl) :
    MS X ca E (.Assign [.Tuple [.Name x px, .Name y py, .Name z pz] kt pt] (.Tuple [a, b, c] k2 pt2) pos) (sPar [i, j, l] t) := PS.weak (ps_par3 hc hN hi hj hl hij hil hjl hx hy hz ha hw hs) fun D σ H h => by
  obtain ⟨io, r, S, l, p⟩ := h
  refine tA_imp (tA_bind l p) fun vs H1 ⟨io1, S1, ws, e1, l1, rvs, p1⟩ => ?_
  match ws, rvs, p1 with
  | [w1, w2, w3], rvs, p1 =>
    obtain ⟨v1, vr, rfl, r1, rr⟩ := rvs.inv
    obtain ⟨v2, v3, rfl, r2, r3⟩ := rr.two
    exact ⟨v1, v2, v3, rfl, Post.done p1 l1.z _ (((l1.e.set r1).set r2).set r3)⟩
  | [], _, p1 => exact False.elim p1
  | [_], _, p1 => exact False.elim p1
  | [_, _], _, p1 => exact False.elim p1
  | _ :: _ :: _ :: _ :: _, _, p1 => exact False.elim p1
theorem ms_tg (T : Tg) (hg : MG X tg T) (h : ME X ca E e m) (hs : swapsWithSole [tg] e pos.line X.env = pure false := by rfl) (hw : swappedStores [tg] e X.env = pure none := by rfl)
    (h1 : (assignEach [tg] X.env).map (·.2) = [assign tg X.env] := by rfl) : MS X ca E (.Assign [tg] e pos) (sTg T m) := PS.weak (ps_asg h hg hs hw h1) fun D σ H h => by
  obtain ⟨io, r, S, l, p⟩ := h
  refine tE_imp (tE_bind l p) fun v H1 ⟨io1, S1, w, e1, l1, rv, p1⟩ => ?_
  cases g : T.run w r with
  | none =>
    simp only [g] at p1
    exact False.elim p1
  | some r1 =>
    simp only [g] at p1
    exact T.ok g rv l1.e fun σ2 re _ => Post.done p1 l1.z _ re
end
/-! ### x += e (whole numbers) -/
def sAug (i : Nat) (m : M W) : MSt := fun r S => match r[i]? with
  | some (some (.int a)) => match m r S with
    | .ok (.int b) S' => .ok (.nx (r.set i (some (.int (a + b))))) S'
    | .ok _ _ => .stuck
    | .exc c ws S' => .exc c ws S'
    | .stuck => .stuck
  | _ => .stuck
theorem ms_aug (i : Nat) {x : Str} {e : Expr} {m : M W} {pos pos' : Pos} (hN : X.N.Nodup) (he : ME X ca E e m) (hi : X.N[i]? = some x := by rfl) (hx : Loc X.env.scope x := by first | exact Or.inl rfl | exact Or.inr rfl)
    (hf : X.fn x = true ∨ X.env.scope.names.lookup x = some .local := by first | exact .inl rfl | exact .inr rfl | assumption) : MS X ca E (.AugAssign (.Name x pos') .Add e pos) (sAug i m) := by
  refine PS.weak (ps_aug (i := i) hN hi hx he ip_add hf) fun D σ H h => ?_
  obtain ⟨io, r, S, l, p⟩ := h
  unfold sAug at p
  split at p
  · rename_i a q
    obtain ⟨v, hv, rv⟩ := l.e.2 i _ q
    cases (show v = _ from rv)
    refine ⟨_, hv, io, r, S, l, ?_⟩
    cases q2 : m r S with
    | stuck =>
      simp only [q2] at p
      exact p
    | exc c ws S' =>
      simp only [q2] at p
      exact p
    | ok w S' =>
      cases w <;> simp only [q2] at p <;> first | exact False.elim p | skip
      intro io1 H1 e1 z1 y ry
      cases (show y = _ from ry)
      exact ⟨_, _, rfl, rfl, p io1 H1 e1 z1 _ ((l.e.mono e1).set (w := .int _) (v := .int _) rfl)⟩
  · exact p.elim
/-! ### a def -/
def endOf : Res Fw → Res W
  | .ok (.nx _) S => .ok .non S
  | .ok (.rt w) S => .ok w S
  | .ok _ _ => .stuck
  | .exc c ws S => .exc c ws S
  | .stuck => .stuck
/-- n slots, k parameters -/
def fnM (n k : Nat) (b : MSt) : FnM := fun ws S => if ws.length = k then endOf (b (ws.map some ++ List.replicate (n - k) none) S) else .stuck
end
section
variable {P : Program} {w : World} {K : PySem.W.Frag} {mg : Str → Option Value} {base : Heap} {ca : Ca}
theorem RE.start {io : List Addr} {H : Hp} {N : List Str} {ws : List W} {vs : List V} (h : RVs K ca io H ws vs) : RE K ca io H (ws.map some ++ List.replicate (N.length - ws.length) none) (L2.start N vs) := by
  unfold L2.start
  refine ⟨by simp [h.len], fun i u q => ?_⟩
  by_cases hi : i < ws.length
  · rw [List.getElem?_append_left (by simpa using hi), List.getElem?_map] at q
    cases e : ws[i]? with
    | none =>
      rw [e] at q
      cases q
    | some w =>
      rw [e] at q
      cases q
      obtain ⟨v, h1, h2⟩ := h.get e
      refine ⟨v, ?_, h2⟩
      rw [List.getElem?_append_left (by rw [List.length_map, h.len]; exact hi), List.getElem?_map, h1]
      rfl
  · rw [List.getElem?_append_right (by simpa using Nat.le_of_not_lt hi), List.getElem?_replicate] at q
    split at q <;> cases q
theorem fo_ok {x qual : Str} {params : Arguments} {body : List Stmt} {scope : Scope} {f : Addr} {fd : FuncData} {N ps : List Str} {k n j : Nat} {m : MSt} (F : FunD K x qual params body scope [] [] f fd) (Sc : FnScope N ps scope) (hn : N.length = n) (hj : ps.length = j)
    (h : ∀ (cdv : Value) (A : Around) (outer : List Env) (s : Shared) (H : Hp) (E : XK), Room k (A.deeper (envOfC qual scope s.heap.objs.size f cdv)) → MSs (cxOf (L2.CX P w) P w K mg base N qual scope f cdv A outer s H E) ca E body m) :
    FnOk P w K mg base (L2.CX P w) (k + 1) f fd ps (spM K ca (fnM n j m)) := by
  subst hn hj
  refine F.ok Sc (fun vs H Q E hs => ?_) (fun cdv A outer s H vs Q E hr hs => ⟨_, h cdv A outer s H E hr, ?_⟩)
  · obtain ⟨io, ws, S, z, rvs, p⟩ := hs
    unfold fnM at p
    split at p
    · rename_i hl
      rw [rvs.len, hl]
    · exact p.elim
  · obtain ⟨io, ws, S, z, rvs, p⟩ := hs
    unfold fnM at p
    split at p
    · rename_i hl
      refine ⟨io, ws.map some ++ List.replicate (N.length - ws.length) none, S, ⟨z, RE.start rvs⟩, ?_⟩
      rw [← hl] at p
      cases q : m (ws.map some ++ List.replicate (N.length - ws.length) none) S with
      | stuck =>
        rw [q] at p
        exact p
      | exc c es S' =>
        rw [q] at p
        exact p
      | ok fw S' =>
        rw [q] at p
        cases fw with
        | nx r => exact fun io' H' e z' σ _ => p io' H' e z' _ rfl
        | rt w => exact fun io' H' e z' v rv => p io' H' e z' v rv
        | bk r => exact p.elim
        | ct r => exact p.elim
    · exact p.elim
theorem fm_of {f : Addr} {fd : FuncData} {ps : List Str} {k : Nat} {g : FnM} (F : FnOk P w K mg base (L2.CX P w) k f fd ps (spM K ca g)) (hb : Binds K fd ps []) : Fm P w K mg base ca k f g :=
  (FnOk.raw F hb .nil).imp fun vs H Q E h => by
    rw [List.append_nil]
    exact h
/-- a def | method | property | class as it stands in the module -/
def FnAt (P : Program) (w : World) (K : PySem.W.Frag) (mg : Str → Option Value) (base : Heap) (ca : Ca) (x : Str) (k : Nat) (g : FnM) : Prop := ∃ f, mg x = some (.ref f) ∧ PySem.W.keepIn K (.ref f) = true ∧ Fm P w K mg base ca k f g
def MethAt (P : Program) (w : World) (K : PySem.W.Frag) (mg : Str → Option Value) (base : Heap) (ca : Ca) (c : Cl) (m : Str) (k : Nat) (g : FnM) : Prop := ∃ f, Cls K (ca c) ∧ Meth K (ca c) m f ∧ Fm P w K mg base ca k f g
def PropAt (P : Program) (w : World) (K : PySem.W.Frag) (mg : Str → Option Value) (base : Heap) (ca : Ca) (c : Cl) (m : Str) (k : Nat) (g : FnM) : Prop := ∃ p q fd, Cls K (ca c) ∧ PropOf K (ca c) m p q ∧ Binds K fd ["self"] [] ∧ FnOk P w K mg base (L2.CX P w) k q fd ["self"] (spM K ca g)
def NewAt (P : Program) (w : World) (K : PySem.W.Frag) (mg : Str → Option Value) (base : Heap) (ca : Ca) (c : Cl) (x : Str) (k : Nat) (g : FnM) : Prop := ∃ f, mg x = some (.ref (ca c)) ∧ Mk K (ca c) f ∧ Fm P w K mg base ca k f g
/-- what a body of a def has around it -/
structure Bd (X : Cx) (E : XK) (k : Nat) : Prop where
  hr : Room k X.A
  pc : Passes (L2.CX X.prog X.w) X E
  calm : X.calm = true
theorem Bd.of {qual : Str} {scope : Scope} {f : Addr} {N : List Str} {cdv : Value} {A : Around} {outer : List Env} {s : Shared} {H : Hp} {E : XK} {k : Nat} (hr : Room k (A.deeper (envOfC qual scope s.heap.objs.size f cdv))) :
    Bd (cxOf (L2.CX P w) P w K mg base N qual scope f cdv A outer s H E) E k := ⟨hr, passes_call (takes_of rfl rfl rfl rfl) fun _ _ _ _ h => h, rfl⟩
/-- .. of a comprehension's block -/
theorem Bd.blk {X : Cx} {E : XK} {k : Nat} (b : Bd X E k) {s : Shared} {H : Hp} {scope : Scope} {cenv : Env} {fp : List Addr} : Bd (X.blk s H scope cenv fp) (fun _ _ _ => False) k := ⟨b.hr, passF, b.calm⟩
end
end SL
set_option Elab.async false
set_option linter.all false
set_option maxRecDepth 100000
set_option maxHeartbeats 2000000
namespace PySem
set_option maxHeartbeats 1000000 in
theorem meets_enumerate_newB1 {v : Value} {o : Obj} {H : Heap → Prop} (B : Begins v o H) :
    Meets (Builtin.«enumerate.__new__» ⟨[.type "enumerate", v], []⟩) (fun _ R s => H s.heap ∧
      R (.ok (.ret (.ref (s.heap.push o).objs.size))) { s with heap := (s.heap.push o).push { cls := .type "enumerate", data := .fields #[.none, .bool false, .ref s.heap.objs.size, rawInt 0, .none, .none] } }) :=
  .of_wp fun prog w A R s h => by
    obtain ⟨hp, g, d, tk, os⟩ := s; obtain ⟨h1, h⟩ := h
    have hsub := sub_enumerate
    have q1 : ∀ {A' : Around} {E : Value → Shared → Prop} {Q : Value → Shared → Prop}, Q (.ref hp.objs.size) ⟨hp.push o, g, d, tk, os⟩ → wpAny (model prog w) A' (pyIter v) Q E ⟨hp, g, d, tk, os⟩ :=
      fun q => B.iter prog w _ _ ⟨hp, g, d, tk, os⟩ _ h1 q
    wp_walk using q1
    refine wpAny_stack_any fun st => wpAny_pure ?_
    split
    · rename_i c _ _ _ _ _
      cases (c == Value.type "enumerate")
      · wp_walk using q1
        exact ⟨_, rfl, h⟩
      · wp_walk using q1
        exact ⟨_, rfl, h⟩
    · wp_walk using q1
      exact ⟨_, rfl, h⟩
section
variable {prog : Program} {w : World} {A : Around} {E : Value → Shared → Prop} {s : Shared}
theorem enum_begins1 {v : Value} {o : Obj} {H : Heap → Prop} {Q : Value → Shared → Prop} (B : Begins v o H) (h1 : H s.heap)
    (h : ∀ h', IsEnum h' (s.heap.objs.size + 1) s.heap.objs.size 0 .none → h'.get? s.heap.objs.size = some o → h'.objs.size = s.heap.objs.size + 2 →
      (∀ b o, s.heap.get? b = some o → h'.get? b = some o) → Q (.ref (s.heap.objs.size + 1)) { s with heap := h' }) :
    wpAny (model prog w) A (call (.type "enumerate") [v]) Q E s := by
  refine callType_new F.called_enumerate (by decide) (F.typeCall_enumerate_1 _) (F.newCall_enumerate_1 _) (fun obj => F.args_object_init_2 obj _) F.entry_enumerate_new
    (meets_enumerate_newB1 B) ⟨h1, ?_⟩
  have hz : (s.heap.push o).objs.size = s.heap.objs.size + 1 := Heap.size_push ..
  show _ ∧ _
  rw [hz]
  have he : IsEnum ((s.heap.push o).push { cls := .type "enumerate", data := .fields #[.none, .bool false, .ref s.heap.objs.size, rawInt 0, .none, .none] }) (s.heap.objs.size + 1) s.heap.objs.size 0 .none := by
    have := Heap.get?_push_size (s.heap.push o) (o := { cls := .type "enumerate", data := .fields #[.none, .bool false, .ref s.heap.objs.size, rawInt 0, .none, .none] }) rfl
    rw [hz] at this; exact this
  refine ⟨⟨_, he, rfl⟩, h _ he (Heap.get?_push_of_some _ (Heap.get?_push_size _ B.free)) (by rw [Heap.size_push, hz]) fun b o x => Heap.get?_push_of_some _ (Heap.get?_push_of_some _ x)⟩
end
end PySem
namespace SL
open PySem PySem.Spec PyProof.Rows L2
theorem isTup_tuple {h : Heap} {a : Addr} {items : Array Value} (x : IsTup h a items) : h.IsTuple a items := by
  obtain ⟨o, e, c, n, d⟩ := x
  exact ⟨o, e, c, n, d⟩
/-- enumerate over the tuple at a -/
def Itet (K : PySem.W.Frag) (a : Addr) : It :=
  ⟨fun i H => ∃ (xs : List V) (x : V), SqT K H a xs ∧ xs[i]? = some x, fun i H v H' => ∃ T x, v = .ref T ∧ H T = none ∧ H' = upd H T (.tup [.int (i : Nat), x]) ∧ ∀ xs, SqT K H a xs → xs[i]? = some x, fun i H => ∃ xs : List V, SqT K H a xs ∧ xs.length ≤ i⟩
theorem turn_enumT {P : Program} {w : World} {K : PySem.W.Frag} {elts : List Expr} {kk : Nat} {tpos : Pos} (a e it : Addr) :
    Turn P w K (.Tuple elts kk tpos) (Itet K a) [e, it] e (fun i h => (∃ old, IsEnum h e it ((i : Nat) : Int) old) ∧ h.IsTupleIter it a i ∧ e ≠ it) where
  mem := by simp
  obj := fun i h st b hb => by
    obtain ⟨⟨old, he⟩, ⟨o, ho, hc, hd⟩, _⟩ := st
    have e' : b = e ∨ b = it := by simpa using hb
    rcases e' with z | z
    · rw [z]; exact ⟨_, he, fun v q => nomatch q⟩
    · rw [z]; exact ⟨o, ho, fun v q => by rw [hd] at q; cases q⟩
  keep := fun i h h' st k => let ⟨⟨old, he⟩, hi, hne⟩ := st; ⟨⟨old, k e (by simp) _ he⟩, hi.at fun o q => k it (by simp) o q, hne⟩
  item := by
    intro X hP hw hK hc i pins s σ H E I hf st hg
    subst hP hw hK
    obtain ⟨⟨old, he⟩, hit, hne⟩ := st
    obtain ⟨xs, x, hq, hx⟩ := hg
    obtain ⟨its, rv, p, hz⟩ := I.tuple hq
    obtain ⟨u, hu, ru⟩ := rv.get hx
    have hel : e < s.heap.objs.size := Heap.lt_size he
    have hil : it < s.heap.objs.size := by obtain ⟨_, q, _⟩ := hit; exact Heap.lt_size q
    have hat : a ≠ it := by
      obtain ⟨o1, q1, c1, _⟩ := hit
      obtain ⟨o2, q2, c2, _⟩ := p
      intro z
      subst z
      rw [q1] at q2
      cases q2
      rw [c1] at c2
      exact absurd (Value.type.inj c2) (by decide)
    have hae : a ≠ e := by
      obtain ⟨o2, q2, c2, _⟩ := p
      intro z
      subst z
      have q1 : s.heap.get? a = some _ := he
      rw [q1] at q2
      cases q2
      exact absurd (Value.type.inj c2) (by decide)
    have D := Draws.tuple (prog := X.prog) (w := X.w) (A := X.A.in1) (I.ok.hd hc) it a hat its.toArray
    have hi : i < its.toArray.size := by
      rw [List.size_toArray]
      exact (List.getElem?_eq_some_iff.mp hu).1
    refine wpAny_pyNext_enum_itemD D he ⟨hit, isTup_tuple p⟩ hi hne (by simp only [List.mem_cons, List.mem_nil_iff, or_false, not_or]; exact ⟨hne, fun z => hae z.symm⟩) fun x' h' tk hP' ho st' hT hsz hk => ?_
    have ex : x' = u := by
      have q : its.toArray[i]? = some x' := hP'
      rw [List.getElem?_toArray, hu] at q
      exact (Option.some.inj q).symm
    subst ex
    refine ⟨_, rfl, wpAny_letOwnedTupleGo_enum (s := { s with heap := h', toks := tk + 1 }) ho fun h'' he' sb => ?_⟩
    have hT2 : h''.get? s.heap.objs.size = some { cls := .type "tuple", data := .seq #[.int i tk, x'] } := (sb.2 _ (Nat.ne_of_gt hel)).trans hT
    have new : ObjOk X.prog X.w (upd H s.heap.objs.size (.tup [.int (i : Nat), x])) h'' s.heap.objs.size (.tup [.int (i : Nat), x]) :=
      ⟨by show 2 ≤ sizeLine; decide, [.int i tk, x'], .cons ⟨_, rfl⟩ (.cons ru .nil), ⟨_, hT2, rfl, _, rfl⟩⟩
    have I1 : Inv X pins σ (upd H s.heap.objs.size (.tup [.int (i : Nat), x])) { s with heap := h'', toks := tk + 1 } :=
      I.turnedNew (ch := [e, it]) (fun b ob hb q => (sb.2 b (fun z => hb (by simp [z]))).trans (hk b ob (fun z => hb (by simp [z])) (fun z => hb (by simp [z])) q)) hf (Nat.le_refl _) new
    refine ⟨.ref s.heap.objs.size, _, I1, rfl, ⟨_, x, rfl, I.hok.fresh (Nat.le_refl _), rfl, fun ys hy => by rw [I.tuple_inj hy hq]; exact hx⟩, ⟨⟨x', ?_⟩, st'.1.at fun o q => (sb.2 it (Ne.symm hne)).trans q, hne⟩, fun b hb => ?_⟩
    · have e1 : ((i + 1 : Nat) : Int) = (i : Int) + 1 := by omega
      rw [e1]; exact he'
    · have hb' : b < s.heap.objs.size := by
        have e' : b = e ∨ b = it := by simpa using hb
        rcases e' with z | z
        · rw [z]; exact hel
        · rw [z]; exact hil
      rw [upd_ne (Nat.ne_of_lt hb')]
      exact (hf b hb).1
  done := by
    intro X hP hw hK hc i pins s σ H E I hf st hg
    subst hP hw hK
    obtain ⟨⟨old, he⟩, hit, hne⟩ := st
    obtain ⟨xs, hq, hx⟩ := hg
    obtain ⟨its, rv, p, hz⟩ := I.tuple hq
    obtain ⟨f0, f1, f2, f3, f4, f5⟩ := hf it (by simp)
    have hl := rv.length
    have hat : a ≠ it := by
      obtain ⟨o1, q1, c1, _⟩ := hit
      obtain ⟨o2, q2, c2, _⟩ := p
      intro z
      subst z
      rw [q1] at q2
      cases q2
      rw [c1] at c2
      exact absurd (Value.type.inj c2) (by decide)
    have hT : s.TypeIs (.ref e) "enumerate" := ⟨_, he, rfl⟩
    unfold pyNext
    refine wpAny_bind (wpAny_attempt (wpAny_callSpecial?_slot (name := Str.ofString "__next__") hT F.slot_enumerate_next
      (wpAny_call_entry F.slot_enumerate_next hT F.entry_enumerate_next ?_ (F.args_enumerate_next_1 _))))
    show wpAny _ _ (field (.ref e) 2 >>= _) _ _ _
    refine wpAny_bind (wpAny_field he rfl (x := .ref it) rfl ?_)
    refine wpAny_bind (wpAny_nextOf_tuple_end (I.ok.hd hc) hit (isTup_tuple p) (by simp; omega) fun h' x he' hx' => ?_)
    obtain ⟨o, ho, hc2⟩ := hx'
    refine wpAny_bind (wpAny_isInstance (T := "StopIteration") (b := true) ⟨o, ho, hc2⟩ isSubtype_stop ?_)
    exact wpAny_pure ⟨rfl, I.turned (t' := s.toks) (fun b o hb q => he' b o hb q) f0 f1 f3 f4 f5⟩
  self := fun A i s Q E st h => let ⟨⟨_, he⟩, _⟩ := st; wpAny_pyIter_enum he h
def iEnumT (K : PySem.W.Frag) (ta : TA) : TI := fun σ H R => ta σ H fun vs H1 => ∃ a xs, vs = [.ref a] ∧ SqT K H1 a xs ∧ R (Itet K a) H1
theorem pi_enumT {X : Cx} {e : Expr} {ta : TA} {p pos tpos : Pos} {elts : List Expr} {kk : Nat} (hg : Gl X "enumerate") (hm : X.mg "enumerate" = none) (ha : PA X [e] ta) (hs : starEach [e] X.env = [(false, eval e X.env)] := by rfl) :
    PI X (.Tuple elts kk tpos) (.Call (.Name "enumerate" p) [e] [] pos) (iEnumT X.K ta) := by
  refine ⟨fun pins s σ H R I h => ?_⟩
  refine Call_ (ld_blt I hg hm boot_enumerate (PyProof.Rows.callWith_type1 (thn (ha.run pos pins s σ H _ I h) fun us s1 ⟨vs, H1, I1, r1, q1⟩ => ?_) hs rfl))
  obtain ⟨a, xs, ex, hq, q⟩ := q1
  subst ex
  cases r1 with
  | cons r rr =>
    cases rr
    cases r
    obtain ⟨its, rv, p', hz⟩ := I1.tuple hq
    refine enum_begins1 (begins_tuple a its.toArray) (isTup_tuple p') fun h' he hit hsz hk => wpAny_pyIter_enum he ?_
    have I2 : Inv X pins σ H1 { s1 with heap := h' } := I1.kept (t' := s1.toks) hk
    refine ⟨s1.heap.objs.size + 1, [s1.heap.objs.size + 1, s1.heap.objs.size], _, _, H1, rfl, I2, turn_enumT a (s1.heap.objs.size + 1) s1.heap.objs.size, ⟨⟨.none, he⟩, ⟨_, hit, rfl, rfl⟩, Nat.succ_ne_self _⟩, fun b hb => ?_, q⟩
    have e' : b = s1.heap.objs.size + 1 ∨ b = s1.heap.objs.size := by simpa using hb
    have hle : s1.heap.objs.size ≤ b := by
      rcases e' with z | z
      · rw [z]; exact Nat.le_add_right _ _
      · rw [z]; exact Nat.le_refl _
    exact I1.fpOk hle (I1.hok.fresh hle)
theorem walk_enumT {K : PySem.W.Frag} {a : Addr} {xs : List V} : Walk (Itet K a) xs.length (fun H => SqT K H a xs) (YPair (fun i => some (.int (i : Nat))) (fun i => xs[i]?)) := by
  refine ⟨fun i _ hi q => ⟨xs, xs[i], q, by simp [hi]⟩, fun _ q => ⟨xs, q, Nat.le_refl _⟩, fun i H v H' _ q y => ?_⟩
  obtain ⟨T, x, h1, h2, h3, h4⟩ := y
  exact ⟨T, .int (i : Nat), x, h1, h2, h3, rfl, h4 xs q⟩
def itET (w : W) (S : Sto) : Res (List W) := match w with
  | .tup xs => .ok (enumW xs) S
  | _ => .stuck
def iET (m : M W) : M (List W) := do
  let w ← m
  fun _ S => itET w S
section
variable {X : Cx} {ca : Ca} {E : XK} {m : M W}
theorem mi_enumT {a : Expr} {p pos tpos : Pos} {elts : List Expr} {kk : Nat} (hm : X.mg "enumerate" = none) (ha : ME X ca E a m) (hg : Gl X "enumerate" := by rfl) (hs : starEach [a] X.env = [(false, eval a X.env)] := by rfl) :
    MI X ca E (.Tuple elts kk tpos) (.Call (.Name "enumerate" p) [a] [] pos) (iET m) := by
  refine PI.weak (pi_enumT hg hm (ma_cons (m := m) ha (ma_nil (ca := ca) (E := E)) hs) hs) fun σ H Q h => ?_
  obtain ⟨io, r, S, l, p⟩ := h
  have p' : Post X.K ca E io H (fun ws io' H' => ∀ J, WalkW X.K ca io' H' J ws → Q J H') ((mCons m mNil >>= fun ws => (fun _ S => match ws with
      | [w] => itET w S
      | _ => .stuck : M (List W))) r S) := by
    have e : (mCons m mNil >>= fun ws => (fun _ S => match ws with
        | [w] => itET w S
        | _ => .stuck : M (List W))) r S = iET m r S := by
      unfold mCons mNil iET
      simp only [bind_def, pure_def]
      cases m r S <;> rfl
    rw [e]
    exact p
  refine tA_imp (tA_bind l p') fun vs H1 ⟨io1, S1, ws, e1, l1, rvs, p1⟩ => ?_
  split at p1
  · rename_i w
    obtain ⟨v, rfl, rv⟩ := rvs.one
    unfold itET at p1
    split at p1
    · rename_i xs
      obtain ⟨a1, us, rfl, q, rr⟩ := rv.tupI
      refine ⟨a1, us, rfl, q.sq, p1.done l1.z _ ?_⟩
      refine ⟨_, _, by rw [enumW_len, ← rr.len]; exact walk_enumT, fun io2 H2 e => SqT.of (e.keep _ _ q.2 q.1), fun i io2 S2 H2 x H3 e z y hi => ?_⟩
      obtain ⟨T, x1, y1, rfl, nT, rfl, h1, h2⟩ := y
      obtain ⟨w1, g1, g2⟩ := rr.getV h2
      cases h1
      exact ⟨_, enumW_get g1, ext_new nT, z.new nT, rv_newT z nT (.cons rfl (.cons (g2.mono e) .nil))⟩
    · exact p1.elim
  · exact p1.elim
/-! ### range with a step -/
end
end SL
set_option Elab.async false
set_option linter.all false
set_option maxRecDepth 100000
set_option maxHeartbeats 2000000
namespace SL
open PySem PySem.Spec PyProof.Rows L2
theorem _root_.L2.OpR.weak {X : Cx} {g : Value → Value → Sem Value} {r q : R2} (h : OpR X g r) (i : ∀ x y H Q, q x y H Q → r x y H Q) : OpR X g q := fun pins s σ H x y v u Q I rx ry hw => h pins s σ H x y v u Q I rx ry (i x y H Q hw)
section
variable {X : Cx} {ca : Ca} {E : XK}
/-! ### what an expression leaves behind is locked -/
noncomputable def mFr (m : M W) : M W := fun r S => frR S (m r S)
theorem me_fr {e : Expr} {m : M W} (h : ME X ca E e m) : ME X ca E e (mFr m) := PE.weak h fun σ H Q h => by
  obtain ⟨io, r, S, l, p⟩ := h
  exact ⟨io, r, S, l, post_fr l.z p⟩
/-! ### whole numbers: powers -/
def opPow : Op2 := fun a b S => match a, b with
  | .int i, .int j => if 0 ≤ j ∧ j ≤ 1000000 ∧ i.natAbs < 2 ^ 64 then .ok (.int (i ^ j.toNat)) S else .stuck
  | _, _ => .stuck
theorem om_pow : OpM X ca E (binaryOp .Pow) opPow := op_pow.weak fun x y H Q h => by
  obtain ⟨io, S, a, b, z, ra, rb, p⟩ := h
  unfold opPow at p
  split at p
  · rename_i i j
    cases (show x = _ from ra)
    cases (show y = _ from rb)
    split at p
    · rename_i hc
      exact ⟨i, j, rfl, rfl, hc, p.done z _ rfl⟩
    · exact p.elim
  · exact p.elim
/-! ### a list made of two, that may change -/
def opAddC : Op2 := fun a b S => match getL S a, getL S b with
  | some xs, some ys => if xs.length + ys.length ≤ 16000000 then .ok (.loc S.length) (S ++ [.lst (xs ++ ys)]) else .stuck
  | _, _ => .stuck
/-! ### flat values in a list or tuple -/
def flatW : W → Bool
  | .non | .bl _ | .int _ | .str _ => true
  | _ => false
def toV : W → V
  | .bl b => .bl b
  | .int i => .int i
  | .str s => .str s
  | _ => .non
def eqW (y x : W) : Bool := eqV (toV y) (toV x)
theorem flat_ok {K : PySem.W.Frag} {io : List Addr} {H : Hp} {w : W} {v : V} (h : RV K ca io H w v) (f : flatW w = true) : v = toV w ∧ flatV v = true := by
  cases w <;> first | (cases f; done) | skip
  · exact ⟨h, by rw [show v = .non from h]; rfl⟩
  · exact ⟨h, by rw [show v = .bl _ from h]; rfl⟩
  · exact ⟨h, by rw [show v = .int _ from h]; rfl⟩
  · exact ⟨h, by rw [show v = .str _ from h]; rfl⟩
theorem flats_ok {K : PySem.W.Frag} {io : List Addr} {H : Hp} : ∀ {ws : List W} {vs : List V}, RVs K ca io H ws vs → ws.all flatW = true → vs = ws.map toV ∧ vs.all flatV = true
  | [], vs, h, f => by
    cases (show vs = [] from h)
    exact ⟨rfl, rfl⟩
  | w :: ws, vs, h, f => by
    obtain ⟨v, r, rfl, h1, h2⟩ := h.inv
    rw [List.all_cons, Bool.and_eq_true] at f
    obtain ⟨e1, f1⟩ := flat_ok h1 f.1
    obtain ⟨e2, f2⟩ := flats_ok h2 f.2
    exact ⟨by rw [List.map_cons, ← e1, ← e2], by rw [List.all_cons, f1, f2]; rfl⟩
def inW (x : W) (xs : List W) : Bool := xs.any fun y => eqW y x
/-- isinstance(x, T) of values that are no instances -/
def tyName (S : Sto) : W → Option String
  | .non => some "NoneType"
  | .bl _ => some "bool"
  | .int _ => some "int"
  | .str _ => some "str"
  | .tup _ => some "tuple"
  | .lst _ => some "list"
  | .loc n => match S[n]? with
    | some (.lst _) => some "list"
    | _ => none
  | _ => none
def isiT (a b : String) : Bool := decide (a = b) || (decide (a = "bool") && decide (b = "int"))
def bIsi : FnM := fun ws S => match ws with
  | [w, .ty n] => match tyName S w with
    | some t => if n = "int" ∨ n = "str" ∨ n = "bool" ∨ n = "tuple" ∨ n = "list" then .ok (.bl (isiT t n)) S else .stuck
    | none => .stuck
  | _ => .stuck
theorem isi_kit {t n : String} (ht : t = "NoneType" ∨ t = "bool" ∨ t = "int" ∨ t = "str" ∨ t = "tuple" ∨ t = "list") (hn : n = "int" ∨ n = "str" ∨ n = "bool" ∨ n = "tuple" ∨ n = "list") : kitB t n = some (isiT t n) := by
  rcases ht with rfl | rfl | rfl | rfl | rfl | rfl <;> rcases hn with rfl | rfl | rfl | rfl | rfl <;> decide +kernel
theorem tyName_ok {K : PySem.W.Frag} {io : List Addr} {S : Sto} {H : Hp} (z : Rl0 K ca io S H) {w : W} {v : V} {t : String} (h : RV K ca io H w v) (g : tyName S w = some t) : TyX K H v (.type t) ∧ (t = "NoneType" ∨ t = "bool" ∨ t = "int" ∨ t = "str" ∨ t = "tuple" ∨ t = "list") := by
  cases w <;> simp only [tyName] at g <;> first | (cases g; done) | skip
  · cases g
    cases (show v = .non from h)
    exact ⟨.base .non, by simp⟩
  · cases g
    cases (show v = .bl _ from h)
    exact ⟨.base (.bl _), by simp⟩
  · cases g
    cases (show v = .int _ from h)
    exact ⟨.base (.int _), by simp⟩
  · cases g
    cases (show v = .str _ from h)
    exact ⟨.base (.str _), by simp⟩
  · rename_i n
    split at g
    · rename_i xs q
      cases g
      obtain ⟨a, vs, rfl, h1, h2⟩ := getL_ok (xs := xs) z h (by simp only [getL, q])
      exact ⟨.base (.lst h1), by simp⟩
    · cases g
  · cases g
    obtain ⟨a, vs, rfl, q, r⟩ := h.tupI
    exact ⟨.base (.tup q.1), by simp⟩
  · cases g
    obtain ⟨a, vs, rfl, q, r⟩ := h.lstI
    exact ⟨.base (.lst q.1), by simp⟩
theorem bm_isi : BltM X ca E (.builtin "isinstance") bIsi := by
  intro pins s σ H xs us Q I r h
  obtain ⟨io, ws, S, z, rvs, p⟩ := h
  unfold bIsi at p
  split at p
  · rename_i w n
    obtain ⟨v, y, rfl, r1, r2⟩ := rvs.two
    cases (show y = .ty n from r2)
    cases g : tyName S w with
    | none =>
      simp only [g] at p
      exact p.elim
    | some t =>
      simp only [g] at p
      split at p
      · rename_i hn
        obtain ⟨ty, ht⟩ := tyName_ok z r1 g
        exact call_isi pins s σ H _ us Q I r ⟨v, .ty n, .type t, .type n, _, rfl, .ty n, ty, kit_ty (isi_kit ht hn), p.done z _ rfl⟩
      · exact p.elim
  · exact p.elim
theorem om_addC : OpM X ca E (binaryOp .Add) opAddC := op_cat.weak fun x y H Q h => by
  obtain ⟨io, S, a, b, z, ra, rb, p⟩ := h
  unfold opAddC at p
  split at p
  · rename_i e1 e2
    obtain ⟨a1, vs, rfl, q, r⟩ := getL_ok z ra e1
    obtain ⟨a2, us, rfl, q2, r2⟩ := getL_ok z rb e2
    split at p
    · rename_i hl
      rw [← r.len, ← r2.len] at hl
      exact ⟨_, _, _, _, rfl, rfl, q, q2, lim_le hl, fun l hl => newC p z hl ⟨_, upd_same, (r.app r2).mono (ext_cell hl)⟩ _ (rv_cell z)⟩
    · exact p.elim
  · exact p.elim
/-! ### the place of a flat value in a list -/
theorem inW_ok (x : W) (xs : List W) : inV (toV x) (xs.map toV) = inW x xs := by
  unfold inV inW eqW
  rw [List.any_map]
  rfl
def opInQ : Op2 := fun a b S => match getQ S b with
  | some xs => if flatW a && xs.all flatW then .ok (.bl (inW a xs)) S else .stuck
  | none => .stuck
theorem om_inQ : OpM X ca E (compareOp .In) opInQ := op_in_seq.weak fun x y H Q h => by
  obtain ⟨io, S, a, b, z, ra, rb, p⟩ := h
  unfold opInQ at p
  cases g : getQ S b with
  | none =>
    simp only [g] at p
    exact p.elim
  | some xs =>
    simp only [g] at p
    obtain ⟨q, vs, rfl, hq, rr⟩ := getQ_ok z rb g
    split at p
    · rename_i f
      rw [Bool.and_eq_true] at f
      obtain ⟨e1, f1⟩ := flat_ok ra f.1
      obtain ⟨e2, f2⟩ := flats_ok rr f.2
      refine ⟨q, vs, rfl, hq, f1, f2, ?_⟩
      have := p.done z
      rw [e1, e2, inW_ok]
      exact p.done z _ rfl
    · exact p.elim
/-! ### dicts -/
section
variable {κ : Type} [DecidableEq κ]
def dVal (ks : List κ) (xs : List W) (k : κ) : Option W := ((ks.zip xs).find? fun kv => decide (kv.1 = k)).map (·.2)
def dPutK (ks : List κ) (k : κ) : List κ := if k ∈ ks then ks else ks ++ [k]
def dPutV (ks : List κ) (xs : List W) (k : κ) (w : W) : List W := if k ∈ ks then (ks.zip xs).map (fun kv => if kv.1 = k then w else kv.2) else xs ++ [w]
theorem dVal_ok {K : PySem.W.Frag} {io : List Addr} {H : Hp} (k : κ) : ∀ {ks : List κ} {xs : List W} {vs : List V}, RVs K ca io H xs vs → match dVal ks xs k with
    | none => valV (ks.zip vs) k = none
    | some w => ∃ v, valV (ks.zip vs) k = some v ∧ RV K ca io H w v
  | [], xs, vs, h => by simp [dVal, valV]
  | j :: ks, [], vs, h => by
    cases (show vs = [] from h)
    simp [dVal, valV]
  | j :: ks, x :: xs, vs, h => by
    obtain ⟨v, r, rfl, h1, h2⟩ := h.inv
    have ih := dVal_ok k (ks := ks) h2
    by_cases e : j = k
    · simp only [dVal, List.zip_cons_cons, List.find?_cons, decide_eq_true e, Option.map_some]
      exact ⟨v, valV_pos e, h1⟩
    · rw [List.zip_cons_cons, valV_neg (p := (j, v)) e]
      unfold dVal at ih ⊢
      simp only [List.zip_cons_cons, List.find?_cons, decide_eq_false e]
      exact ih
theorem any_mem (k : κ) : ∀ (ks : List κ) (vs : List V), vs.length = ks.length → (((ks.zip vs).any fun kv => decide (kv.1 = k)) = true ↔ k ∈ ks)
  | [], vs, h => by simp
  | j :: ks, [], h => by simp at h
  | j :: ks, v :: vs, h => by
    have ih := any_mem k ks vs (by simpa using h)
    simp only [List.zip_cons_cons, List.any_cons, Bool.or_eq_true, decide_eq_true_eq, List.mem_cons, ih]
    exact ⟨fun q => q.elim (fun e => .inl e.symm) .inr, fun q => q.elim (fun e => .inl e.symm) .inr⟩
theorem put_map {K : PySem.W.Frag} {io : List Addr} {H : Hp} (k : κ) {w : W} {v : V} (hv : RV K ca io H w v) : ∀ {ks : List κ} {xs : List W} {vs : List V}, vs.length = ks.length → RVs K ca io H xs vs →
    ∃ us, (ks.zip vs).map (fun kv => if kv.1 = k then (kv.1, v) else kv) = ks.zip us ∧ us.length = ks.length ∧ RVs K ca io H ((ks.zip xs).map (fun kv => if kv.1 = k then w else kv.2)) us
  | [], xs, vs, hl, h => ⟨[], by simp, rfl, by simp [RVs]⟩
  | j :: ks, xs, [], hl, h => by simp at hl
  | j :: ks, [], v2 :: vs, hl, h => by cases (show v2 :: vs = [] from h)
  | j :: ks, x :: xs, vs, hl, h => by
    obtain ⟨v2, r, rfl, h1, h2⟩ := h.inv
    obtain ⟨us, e, l, rr⟩ := put_map k hv (ks := ks) (by simpa using hl) h2
    by_cases q : j = k
    · refine ⟨v :: us, ?_, by simp [l], ?_⟩
      · simp only [List.zip_cons_cons, List.map_cons, e, if_pos q]
      · simp only [List.zip_cons_cons, List.map_cons, if_pos q]
        exact .cons hv rr
    · refine ⟨v2 :: us, ?_, by simp [l], ?_⟩
      · simp only [List.zip_cons_cons, List.map_cons, e, if_neg q]
      · simp only [List.zip_cons_cons, List.map_cons, if_neg q]
        exact .cons h1 rr
theorem dPut_ok {K : PySem.W.Frag} {io : List Addr} {H : Hp} (k : κ) {w : W} {v : V} (hv : RV K ca io H w v) {ks : List κ} {xs : List W} {vs : List V} (hl : vs.length = ks.length) (h : RVs K ca io H xs vs) :
    ∃ us, putK (ks.zip vs) k v = (dPutK ks k).zip us ∧ us.length = (dPutK ks k).length ∧ RVs K ca io H (dPutV ks xs k w) us := by
  have e := any_mem k ks vs hl
  unfold putK dPutK dPutV
  by_cases q : k ∈ ks
  · rw [if_pos (e.mpr q), if_pos q, if_pos q]
    exact put_map k hv hl h
  · rw [if_neg (fun z => q (e.mp z)), if_neg q, if_neg q]
    refine ⟨vs ++ [v], ?_, by simp [hl], h.app (.cons hv .nil)⟩
    rw [List.zip_append hl.symm]
    rfl
end
def keyW : W → Option Key
  | .int i => some (.inl i)
  | .str s => some (.inr s)
  | _ => none
def keysW : List W → Option (List Key)
  | [] => some []
  | x :: xs => match keyW x, keysW xs with
    | some k, some ks => some (k :: ks)
    | _, _ => none
theorem keyW_ok {K : PySem.W.Frag} {io : List Addr} {H : Hp} {w : W} {v : V} {k : Key} (h : RV K ca io H w v) (g : keyW w = some k) : v = kV k := by
  cases w <;> simp only [keyW] at g <;> first | (cases g; done) | skip
  · cases g
    exact h
  · cases g
    exact h
theorem keysW_ok {K : PySem.W.Frag} {io : List Addr} {H : Hp} : ∀ {ws : List W} {vs : List V} {k : List Key}, RVs K ca io H ws vs → keysW ws = some k → vs = k.map kV
  | [], vs, k, h, g => by
    cases (show vs = [] from h)
    cases g
    rfl
  | w :: ws, vs, k, h, g => by
    obtain ⟨v, r, rfl, h1, h2⟩ := h.inv
    unfold keysW at g
    cases e1 : keyW w with
    | none => simp [e1] at g
    | some k1 =>
      cases e2 : keysW ws with
      | none => simp [e1, e2] at g
      | some k2 =>
        simp [e1, e2] at g
        subst g
        rw [List.map_cons, ← keyW_ok h1 e1, ← keysW_ok h2 e2]
/-- what the dict d holds at the key k -/
def dLook (S : Sto) (d k : W) : Option (Option W) := match d with
  | .dct ks xs => (keyW k).map fun q => dVal ks xs q
  | .loc n => match S[n]? with
    | some (.dk ks xs) => (keyW k).map fun q => dVal ks xs q
    | some (.dt ks xs) => match k with
      | .tup us => (keysW us).map fun q => dVal ks xs q
      | _ => none
    | _ => none
  | _ => none
def OptR (K : PySem.W.Frag) (ca : Ca) (io : List Addr) (H : Hp) : Option W → Option V → Prop
  | none, r => r = none
  | some w, r => ∃ v, r = some v ∧ RV K ca io H w v
theorem optR {K : PySem.W.Frag} {io : List Addr} {H : Hp} {κ : Type} [DecidableEq κ] (k : κ) {ks : List κ} {xs : List W} {vs : List V} (h : RVs K ca io H xs vs) : OptR K ca io H (dVal ks xs k) (valV (ks.zip vs) k) := by
  have z := dVal_ok k (ks := ks) h
  cases e : dVal ks xs k with
  | none =>
    rw [e] at z
    exact z
  | some w =>
    rw [e] at z
    exact z
theorem dLook_ok {K : PySem.W.Frag} {io : List Addr} {S : Sto} {H : Hp} (z : Rl0 K ca io S H) {d k : W} {x y : V} {o : Option W} (hd : RV K ca io H d x) (hk : RV K ca io H k y) (g : dLook S d k = some o) :
    ∃ a r, x = .ref a ∧ DGet H a y r ∧ OptR K ca io H o r ∧ IsD H a := by
  unfold dLook at g
  split at g
  · rename_i ks xs
    obtain ⟨a, o, vs, rfl, q, n, l, r⟩ := (show ∃ a o vs, x = .ref a ∧ H a = some (.frz o (.dK (ks.zip vs))) ∧ a ∉ io ∧ vs.length = ks.length ∧ RVs K ca io H xs vs from hd)
    obtain ⟨q1, e1, rfl⟩ := Option.map_eq_some_iff.mp g
    rw [keyW_ok hk e1]
    exact ⟨a, _, rfl, .inl ⟨_, _, .inr ⟨o, q⟩, rfl, rfl⟩, optR q1 r, .inl ⟨_, .inr ⟨o, q⟩⟩⟩
  · rename_i n
    split at g
    · rename_i ks xs e
      obtain ⟨a, rfl, hn⟩ := hd.locI
      obtain ⟨a2, h2, vs, q, l, r⟩ := z.at e
      rw [hn] at h2
      cases h2
      obtain ⟨q1, e1, rfl⟩ := Option.map_eq_some_iff.mp g
      rw [keyW_ok hk e1]
      exact ⟨a, _, rfl, .k q, optR q1 r, .inl ⟨_, .inl q⟩⟩
    · rename_i ks xs e
      split at g
      · rename_i us
        obtain ⟨a, rfl, hn⟩ := hd.locI
        obtain ⟨a2, h2, vs, q, l, r⟩ := z.at e
        rw [hn] at h2
        cases h2
        obtain ⟨q1, e1, rfl⟩ := Option.map_eq_some_iff.mp g
        obtain ⟨b, us2, rfl, qb, rb⟩ := hk.tupI
        refine ⟨a, _, rfl, .t q (k := q1) ?_, optR q1 r, .inr ⟨_, .inl q⟩⟩
        rw [← keysW_ok rb e1]
        exact qb.1
      · cases g
    · cases g
  · cases g
def opDGet : Op2 := fun d k S => match dLook S d k with
  | some (some w) => .ok w S
  | _ => .stuck
def opDIn : Op2 := fun k d S => match dLook S d k with
  | some o => .ok (.bl o.isSome) S
  | _ => .stuck
section
variable {a b e d i : Expr} {m ma mb md mi : M W} {pos pos' apos : Pos}
theorem me_dget (hu : X.A.units + 64 < cLine) (hd : ME X ca E d md) (hi : ME X ca E i mi) (hs : NoSl i := by exact fun _ _ => rfl) : ME X ca E (.Subscript d i pos) (mOp opDGet md mi) := PE.weak (pe_dget (by omega) hd hi hs) fun σ H Q h => by
  obtain ⟨io, r, S, l, p⟩ := h
  refine tE_imp (tE_bind l p) fun v H1 ⟨io1, S1, w1, e1, l1, r1, p1⟩ => ?_
  refine tE_imp (tE_bind l1 p1) fun v2 H2 ⟨io2, S2, w2, e2, l2, r2, p2⟩ => ?_
  unfold opDGet at p2
  split at p2
  · rename_i w g
    obtain ⟨a, o, rfl, dg, ho, _⟩ := dLook_ok l2.z (r1.mono e2) r2 g
    obtain ⟨v3, rfl, r3⟩ := ho
    exact ⟨a, v3, rfl, dg, p2.done l2.z _ r3⟩
  · exact p2.elim
theorem din_imp {K : PySem.W.Frag} {σ : L2.St} {H : Hp} {Q : VK} {mi md : M W} (h : tE K ca E (mOp opDIn mi md) σ H Q) : tDIn (tE K ca E mi) (tE K ca E md) σ H Q := by
  obtain ⟨io, r, S, l, p⟩ := h
  refine tE_imp (tE_bind l p) fun v H1 ⟨io1, S1, w1, e1, l1, r1, p1⟩ => ?_
  refine tE_imp (tE_bind l1 p1) fun v2 H2 ⟨io2, S2, w2, e2, l2, r2, p2⟩ => ?_
  unfold opDIn at p2
  split at p2
  · rename_i o g
    obtain ⟨a, q, rfl, dg, ho, _⟩ := dLook_ok l2.z r2 (r1.mono e2) g
    refine ⟨a, q, rfl, dg, ?_⟩
    have hs : q.isSome = o.isSome := by
      cases o with
      | none =>
        cases (show q = none from ho)
        rfl
      | some w =>
        obtain ⟨v3, rfl, _⟩ := ho
        rfl
    rw [hs]
    exact p2.done l2.z _ rfl
  · exact p2.elim
theorem mt_din (hu : X.A.units + 64 < cLine) (hi : ME X ca E i mi) (hd : ME X ca E d md) (h1 : behindInMarks .In d = false := by first | exact nobehind _ (by decide) (by decide) | rfl) : MT X ca E (.Compare i [.In] [d] pos) (mB (mOp opDIn mi md)) :=
  PT.weak (pt_cmp (pc_din (by omega) hi hd) h1) fun σ H Q h => by
    have := tB_imp h
    exact din_imp this
/-- d[i] = e -/
def opDPut (d k w : W) (S : Sto) : Res Unit := match d with
  | .loc n => match S[n]? with
    | some (.dk ks xs) => match keyW k with
      | some q => if ks.length < 16000000 then .ok () (S.set n (.dk (dPutK ks q) (dPutV ks xs q w))) else .stuck
      | none => .stuck
    | some (.dt ks xs) => match k with
      | .tup us => match keysW us with
        | some q => if ks.length < 16000000 then .ok () (S.set n (.dt (dPutK ks q) (dPutV ks xs q w))) else .stuck
        | none => .stuck
      | _ => .stuck
    | _ => .stuck
  | _ => .stuck
def sDPutM (md mi m : M W) : MSt := do
  let x ← m
  let a ← md
  let b ← mi
  fun r S => match opDPut a b x S with
    | .ok _ S' => .ok (.nx r) S'
    | _ => .stuck
def mDNewK : M W := fun _ S => .ok (.loc S.length) (S ++ [.dk [] []])
def mDNewT : M W := fun _ S => .ok (.loc S.length) (S ++ [.dt [] []])
theorem me_dnewT : ME X ca E (.Dict [] [] pos) mDNewT := PE.weak pe_dnewT fun σ H Q h => by
  obtain ⟨io, r, S, l, p⟩ := h
  exact fun q hq => newC p l.z hq ⟨[], upd_same, rfl, .nil⟩ _ (rv_cell l.z)
end
end
end SL
set_option Elab.async false
set_option linter.all false
set_option maxRecDepth 100000
set_option maxHeartbeats 2000000
namespace SL
open PySem PySem.Spec PyProof.Rows L2
section
variable {X : Cx} {ca : Ca} {E : XK}
section
variable {e d i : Expr} {m md mi : M W} {pos pos' : Pos}
theorem ms_dput (hu : X.A.units + 64 < cLine) (hd : ME X ca E d md) (hi : ME X ca E i mi) (h : ME X ca E e m) (hs : swapsWith e (some (.Subscript d i pos')) pos.line X.env = pure false := by rfl) : MS X ca E (.Assign [.Subscript d i pos'] e pos) (sDPutM md mi m) := PS.weak (ps_dput (by omega) hd hi h hs) fun D σ H h => by
  obtain ⟨io, r, S, l, p⟩ := h
  refine tE_imp (tE_bind l p) fun v H1 ⟨io1, S1, w, e1, l1, rv, p1⟩ => ?_
  refine tE_imp (tE_bind l1 p1) fun v2 H2 ⟨io2, S2, w2, e2, l2, rv2, p2⟩ => ?_
  refine tE_imp (tE_bind l2 p2) fun v3 H3 ⟨io3, S3, w3, e3, l3, rv3, p3⟩ => ?_
  have hv := (rv.mono e2).mono e3
  have hd := rv2.mono e3
  simp only [opDPut] at p3
  cases w2 <;> first | exact False.elim p3 | skip
  rename_i n _
  dsimp only at p3
  cases g : S3[n]? with
  | none =>
    simp only [g] at p3
    exact False.elim p3
  | some c =>
    obtain ⟨a, ha, rc⟩ := l3.z.at g
    obtain ⟨a2, rfl, hn⟩ := hd.locI
    rw [ha] at hn
    cases hn
    cases c with
    | lst _ =>
      simp only [g] at p3
      exact False.elim p3
    | ins _ _ =>
      simp only [g] at p3
      exact False.elim p3
    | dk ks xs =>
      simp only [g] at p3
      obtain ⟨vs, q, hl, r⟩ := rc
      cases gk : keyW w3 with
      | none =>
        simp only [gk] at p3
        exact False.elim p3
      | some k =>
        simp only [gk] at p3
        by_cases hlim : ks.length < 16000000
        · rw [if_pos hlim] at p3
          rw [keyW_ok rv3 gk]
          obtain ⟨us, e4, l4, r4⟩ := dPut_ok k hv hl r
          refine ⟨a, _, rfl, .k q (lim_lt (by rw [List.length_zip, hl, Nat.min_self]; exact hlim)), ?_⟩
          rw [e4]
          have ex : Ext io3 H3 io3 (upd H3 a (.dK ((dPutK ks k).zip us))) := ext_put ha q
          refine p3 io3 _ ex (l3.z.put ha q ⟨us, upd_same, l4, r4.mono ex⟩) _ (l3.e.mono ex)
        · rw [if_neg hlim] at p3
          exact False.elim p3
    | fn k xs =>
      simp only [g] at p3
      exact p3.elim
    | dt ks xs =>
      simp only [g] at p3
      obtain ⟨vs, q, hl, r⟩ := rc
      obtain ⟨us, rfl⟩ : ∃ us, w3 = .tup us := by cases w3 <;> first | exact False.elim p3 | exact ⟨_, rfl⟩
      dsimp only at p3
      cases gk : keysW us with
      | none =>
        simp only [gk] at p3
        exact False.elim p3
      | some k =>
        simp only [gk] at p3
        by_cases hlim : ks.length < 16000000
        · rw [if_pos hlim] at p3
          obtain ⟨b, us2, rfl, qb, rb⟩ := rv3.tupI
          have ek := keysW_ok rb gk
          have qb1 := qb.1
          rw [ek] at qb1
          obtain ⟨us, e4, l4, r4⟩ := dPut_ok k hv hl r
          refine ⟨a, _, rfl, .t q qb1 (lim_lt (by rw [List.length_zip, hl, Nat.min_self]; exact hlim)), ?_⟩
          rw [e4]
          have ex : Ext io3 H3 io3 (upd H3 a (.dT ((dPutK ks k).zip us))) := ext_put ha q
          refine p3 io3 _ ex (l3.z.put ha q ⟨us, upd_same, l4, r4.mono ex⟩) _ (l3.e.mono ex)
        · rw [if_neg hlim] at p3
          exact False.elim p3
end
/-! ### def f(a, .., *v) -/
def fnMS (n k : Nat) (b : MSt) : FnM := fun ws S => if k ≤ ws.length ∧ ws.length - k ≤ 16000000 then endOf (b ((ws.take k).map some ++ some (.tup (ws.drop k)) :: List.replicate (n - k - 1) none) S) else .stuck
end
/-! ### sorted(set(l)), l a list of whole numbers -/
def insS (k : Int) : List Int → List Int
  | [] => [k]
  | x :: xs => if k < x then k :: x :: xs else if k = x then x :: xs else x :: insS k xs
def sortS : List Int → List Int
  | [] => []
  | x :: xs => insS x (sortS xs)
theorem mem_insS (k j : Int) : ∀ xs : List Int, j ∈ insS k xs ↔ j = k ∨ j ∈ xs
  | [] => by simp [insS]
  | x :: xs => by
    unfold insS
    split
    · simp
    · split
      · rename_i e
        subst e
        simp
      · simp only [List.mem_cons, mem_insS k j xs]
        exact ⟨fun h => by rcases h with h | h | h <;> simp [h], fun h => by rcases h with h | h | h <;> simp [h]⟩
theorem mem_sortS (j : Int) : ∀ xs : List Int, j ∈ sortS xs ↔ j ∈ xs
  | [] => by simp [sortS]
  | x :: xs => by simp only [sortS, mem_insS, mem_sortS j xs, List.mem_cons]
theorem insS_pw (k : Int) : ∀ xs : List Int, xs.Pairwise (· < ·) → (insS k xs).Pairwise (· < ·)
  | [], _ => by simp [insS]
  | x :: xs, h => by
    obtain ⟨h1, h2⟩ := List.pairwise_cons.mp h
    unfold insS
    split
    · rename_i e
      refine List.pairwise_cons.mpr ⟨fun y hy => ?_, h⟩
      rcases List.mem_cons.mp hy with rfl | hy
      · exact e
      · exact Int.lt_trans e (h1 y hy)
    · split
      · exact h
      · refine List.pairwise_cons.mpr ⟨fun y hy => ?_, insS_pw k xs h2⟩
        rcases (mem_insS k y xs).mp hy with rfl | hy
        · omega
        · exact h1 y hy
theorem sortS_pw : ∀ xs : List Int, (sortS xs).Pairwise (· < ·)
  | [] => .nil
  | x :: xs => insS_pw x _ (sortS_pw xs)
theorem pw_unique : ∀ {xs ys : List Int}, xs.Pairwise (· < ·) → ys.Pairwise (· < ·) → (∀ k, k ∈ xs ↔ k ∈ ys) → xs = ys
  | [], [], _, _, _ => rfl
  | [], y :: ys, _, _, h => by simpa using (h y)
  | x :: xs, [], _, _, h => by simpa using (h x)
  | x :: xs, y :: ys, hx, hy, h => by
    obtain ⟨x1, x2⟩ := List.pairwise_cons.mp hx
    obtain ⟨y1, y2⟩ := List.pairwise_cons.mp hy
    have e : x = y := by
      rcases List.mem_cons.mp ((h x).mp List.mem_cons_self) with e | m
      · exact e
      · rcases List.mem_cons.mp ((h y).mpr List.mem_cons_self) with e | m2
        · exact e.symm
        · have := y1 x m
          have := x1 y m2
          omega
    subst e
    rw [pw_unique x2 y2 fun k => ⟨fun m => ?_, fun m => ?_⟩]
    · rcases List.mem_cons.mp ((h k).mp (List.mem_cons_of_mem _ m)) with e | m2
      · have := x1 k m
        omega
      · exact m2
    · rcases List.mem_cons.mp ((h k).mpr (List.mem_cons_of_mem _ m)) with e | m2
      · have := y1 k m
        omega
      · exact m2
end SL
set_option Elab.async false
set_option linter.all false
set_option maxRecDepth 100000
set_option maxHeartbeats 6000000
/-! set(l) of a list of whole numbers; sorted of it -/
namespace L2
open PySem PySem.Spec PyProof.Rows
section
variable {P : Program} {w : World} {A : Around} {E : Value → Shared → Prop} {s : Shared}
abbrev esO (w : World) : Obj := { cls := .type "set", dict := none, data := .set #[] 0 (.fresh 0 0 (!w.params.followText "set-order")) }
theorem eset_lstI {l : Addr} {items : Array Value} (ns : List Int) {Q : Value → Shared → Prop} (hh : A.handled = none) (hl : s.heap.IsList l items) (hit : IntsAre items.toList ns) (hb : ns.length + 1 < scanBound)
    (h : ∀ (h' : Heap) (tk c : Nat), SetR w h' s.heap.objs.size (fun j => decide (j ∈ ns)) c → c ≤ ns.length → (∀ b o, s.heap.get? b = some o → h'.get? b = some o) → Q (.ref s.heap.objs.size) { s with heap := h', toks := tk }) :
    wpAny (model P w) A (call (.type "set") [.ref l]) Q E s := by
  have hisz : items.size = ns.length := by rw [← IntsAre.length hit, Array.length_toList]
  obtain ⟨c, tl, hmro⟩ := F.called_set.mro
  have hmade := F.called_set.made
  have hsub := F.called_set.sub
  refine wpAny_call (codeAny_of_tree ?_)
  show wpAny _ _ (callAny (.type "set") _) _ _ _
  refine wpAny_pure ⟨Code.quiet_builtin _ (by decide +kernel), codeAny_builtin F.entry_type_call ?_⟩
  rw [Around.under_plain (weight_type_call_type "set" [.ref l] []) rfl]
  have h1 := F.called_set.notType
  have h2 := F.called_set.canCreate
  have hct := F.typeCall_set_1 (.ref l)
  repeat (any_goals (first | assumption | wp_step))
  refine codeAny_mono (code_set_led1 (.ref l) (E := E) (Q₁ := fun obj s₁ => obj = .ref s.heap.objs.size ∧ s₁ = { s with heap := s.heap.push (esO w) }) ⟨rfl, rfl⟩) fun r s₁ hr => ?_
  cases r with
  | error e => exact hr
  | ok fl =>
    cases fl with
    | ret obj =>
      obtain ⟨rfl, rfl⟩ := hr
      have hS : (s.heap.push (esO w)).get? s.heap.objs.size = some (esO w) := Heap.get?_push_size _ rfl
      have hT : Shared.TypeIs { s with heap := s.heap.push (esO w) } (.ref s.heap.objs.size) "set" := ⟨_, hS, rfl⟩
      have hli := F.called_set.init.lookup
      have hbi := F.called_set.init.bind (.ref s.heap.objs.size)
      repeat (any_goals (first | assumption | wp_step))
      refine codeAny_mono (codeAny_call_builtin (R := wants (fun r s₂ => r = .none ∧ ∃ h' tk c, s₂ = { s with heap := h', toks := tk } ∧ SetR w h' s.heap.objs.size (fun j => decide (j ∈ ns)) c ∧ c ≤ ns.length ∧
          (∀ b o, s.heap.get? b = some o → h'.get? b = some o)) E) F.called_set.init.plain F.entry_set_init (check_set_init_1 hT ?_)) fun r₂ s₂ hr₂ => ?_
      · obtain ⟨⟨ocls, odict, odata, oslots⟩, hol, hcl, nl, hdl⟩ := hl
        simp only at hcl hdl
        subst hcl hdl
        have hol' : (s.heap.push (esO w)).get? l = some { cls := .type "list", dict := odict, data := .seq items nl, slots := oslots } := Heap.get?_push_of_some _ hol
        have hsls := F.sub_list_set
        have hslf := F.sub_list_frozenset
        have hne : (Value.type "list" == Value.type "dict") = false := by decide
        have hl1 : (s.heap.push (esO w)).IsList l items := ⟨_, hol', rfl, nl, rfl⟩
        unfold Builtin.«set.__init__» noKeywords Builtin.Frozenset.updateFrom
        generalize hPI : pyIter = PI
        wp_walk
        subst hPI
        refine wpAny_pyIter_list (s := { s with heap := s.heap.push (esO w) }) hl1 ?_
        refine wpAny_bind (wpAny_runValue ?_)
        have hlS : l < s.heap.objs.size := Heap.lt_size hol
        have hz1 : (s.heap.push (esO w)).objs.size = s.heap.objs.size + 1 := Heap.size_push ..
        have hneI : l ≠ (s.heap.push (esO w)).objs.size := Nat.ne_of_lt (by rw [hz1]; exact Nat.lt_succ_of_lt hlS)
        have hSf : s.heap.objs.size ∉ [(s.heap.push (esO w)).objs.size, l] := by
          rw [hz1]
          intro m
          rcases List.mem_cons.mp m with e | m
          · exact Nat.ne_of_lt (Nat.lt_succ_self _) e
          · exact Nat.ne_of_gt hlS (List.mem_singleton.mp m)
        have hval : ∀ (i : Nat) (v : Value), items[i]? = some v → ∃ k t, ns[i]? = some k ∧ v = .int k t := fun i v hv => by
          have hi : i < ns.length := by rw [← hisz]; exact (Array.getElem?_eq_some_iff.mp hv).1
          obtain ⟨t, e⟩ := PyProof.Rows.IntsAre.int_at hit i v (by rw [Array.getElem?_toList]; exact hv)
          exact ⟨ns[i], t, List.getElem?_eq_getElem hi, by rw [e, List.getD_eq_getElem?_getD, List.getElem?_eq_getElem hi] <;> rfl⟩
        refine set_update_ints ((Walks.list (by simp [hh]) _ l hneI items).toS) s.heap.objs.size hSf ns hisz hb hval (items.size - 0) 0 _ (by omega) (Nat.zero_le _)
          ⟨⟨_, Heap.get?_push_size _ rfl, rfl, rfl⟩, (hl1.push _)⟩ ⟨0, Nat.le_refl 0, setR_new_at (Heap.get?_push_of_some _ hS)⟩ fun s' c' hm hc' hS' => ?_
        obtain ⟨h', g2, d', tk', os'⟩ := s'
        cases (show g2 = s.gens from hm.gens)
        cases (show d' = s.drawn from hm.drawn)
        cases (show os' = s.os from hm.os)
        show wpAny _ _ _ _ _ _
        refine wpAny_pure ?_
        show wpAny _ _ (ret Value.none) _ _ _
        rw [hisz] at hc'
        refine wpAny_pure ⟨rfl, h', tk', c', rfl, hS', hc', fun b o e => ?_⟩
        have hb0 : b < s.heap.objs.size := Heap.lt_size e
        refine hm.heap b o (fun m => ?_) (Heap.get?_push_of_some _ (Heap.get?_push_of_some _ e))
        rcases List.mem_cons.mp m with e | m
        · exact Nat.ne_of_lt hb0 e
        · exact Nat.ne_of_lt (by rw [hz1]; exact Nat.lt_succ_of_lt hb0) (List.mem_singleton.mp m)
      · cases r₂ with
        | error e => exact hr₂
        | ok fl₂ =>
          cases fl₂ with
          | ret r =>
            obtain ⟨rfl, h', tk, c', rfl, hS', hc', hk'⟩ := hr₂
            repeat (any_goals (first | assumption | wp_step))
            exact h _ _ _ hS' hc' hk'
          | _ => exact hr₂.elim
    | _ => exact hr.elim
end
end L2
namespace SL
open PySem PySem.Spec PyProof.Rows L2
section
variable {X : Cx} {ca : Ca} {E : XK}
def rSetL (K : PySem.W.Frag) (w : World) : List V → Hp → VK → Prop := fun vs H Q => ∃ (a : Addr) (ns : List Int), vs = [V.ref a] ∧ SqL K H a (ns.map V.int) ∧ ns.length ≤ 1000 ∧
  ∀ (p : Addr), H p = none → Q (.ref p) (upd H p (SetO w p (fun j => decide (j ∈ ns)) (sortS ns).length))
theorem set_size {w : World} {h : Heap} {a : Addr} {ns : List Int} {c : Nat} (R : SetR w h a (fun j => decide (j ∈ ns)) c) : c = (sortS ns).length := by
  obtain ⟨o, es, ep, t, ho, hex, hd, g, nd, hm, hb, hf, hn, hr, hl⟩ := R
  have h2 : (sortS ns).Nodup := (sortS_pw ns).imp fun h => Int.ne_of_lt h
  have pm := (List.perm_ext_iff_of_nodup nd h2).mpr fun k => by
    rw [mem_sortS, ← decide_eq_true_eq (p := k ∈ ns)]
    exact (hm k).symm
  have := pm.length_eq
  rw [List.length_map, Array.length_toList] at this
  rw [← this, ← hn]
theorem cr_setL (hc : X.calm = true) : CallR X (.type "set") (rSetL X.K X.w) := by
  intro pins s σ H vs us Q I r h
  obtain ⟨a, ns, rfl, hq, hl, q⟩ := h
  obtain ⟨u, rfl, rx⟩ := vals1 r
  cases rx
  obtain ⟨its, rv, pl, hz⟩ := I.list hq
  have hi : IntsAre its.toArray.toList ns := ints_of_vals rv
  refine eset_lstI ns (I.ok.hd hc) pl.isList hi (by unfold scanBound; omega) fun h' tk c R hcn k => ?_
  have hn : H s.heap.objs.size = none := I.hok.fresh (Nat.le_refl _)
  exact ⟨.ref _, _, I.call (ch := []) (t' := tk) (Un.laid k (Nat.le_refl _) hn) (I.hok.laid k (Nat.le_refl _) (setO_new R)) I.bare (fun _ z => nomatch z), rfl, by have := set_size R; subst this; exact q _ hn⟩
/-- sorted(set(l)) -/
def mSortSet (m : M W) : M W := do
  let w ← m
  fun _ S => match getIs S w with
    | some ns => if ns.length ≤ 1000 ∧ (sortS ns).length < 64 then .ok (.lst ((sortS ns).map W.int)) S else .stuck
    | none => .stuck
theorem me_sortset {e : Expr} {m : M W} {p1 p2 pos1 pos2 : Pos} (hc : X.calm = true) (hm : X.mg "sorted" = none) (hm2 : X.mg "set" = none) (he : ME X ca E e m) (hg : Gl X "sorted" := by rfl) (hg2 : Gl X "set" := by rfl)
    (hs : starEach [e] X.env = (false, eval e X.env) :: starEach [] X.env := by rfl)
    (hs2 : starEach [.Call (.Name "set" p2) [e] [] pos2] X.env = (false, eval (.Call (.Name "set" p2) [e] [] pos2) X.env) :: starEach [] X.env := by rfl) (hpl1 : (backTo pos1 (starEach [] X.env)).any (·.1) = false := by rfl) (hpl2 : (backTo pos2 (starEach [] X.env)).any (·.1) = false := by rfl) :
    ME X ca E (.Call (.Name "sorted" p1) [.Call (.Name "set" p2) [e] [] pos2] [] pos1) (mSortSet m) := by
  have h1 : PE X (.Call (.Name "set" p2) [e] [] pos2) _ := pe_callTy (cr_setL hc) hg2 hm2 (by decide +kernel) (pa_cons he pa_nil hs) (by decide) (by decide) hs hpl2
  have h2 : PE X (.Call (.Name "sorted" p1) [.Call (.Name "set" p2) [e] [] pos2] [] pos1) _ := pe_callB (cr_sortedSet hc) hg hm (by decide +kernel) (pa_cons h1 pa_nil hs2) (by decide) (by decide) hs2 hpl1
  refine PE.weak h2 fun σ H Q h => ?_
  obtain ⟨io, r, S, l, p⟩ := h
  refine tE_imp (tE_bind l p) fun v H1 ⟨io1, S1, w, e1, l1, rv, p1⟩ => ?_
  cases g : getIs S1 w with
  | none =>
    simp only [g] at p1
    exact False.elim p1
  | some ns =>
    simp only [g] at p1
    obtain ⟨a, rfl, q⟩ := getIs_ok l1.z rv g
    by_cases hn : ns.length ≤ 1000 ∧ (sortS ns).length < 64
    · rw [if_pos hn] at p1
      refine ⟨a, ns, rfl, q, hn.1, fun p2 np => ?_⟩
      have l2 := l1.z.new (o := SetO X.w p2 (fun j => decide (j ∈ ns)) (sortS ns).length) np
      have e2 : Ext io1 H1 io1 (upd H1 p2 (SetO X.w p2 (fun j => decide (j ∈ ns)) (sortS ns).length)) := ext_new np
      refine ⟨p2, _, (sortS ns).length, rfl, upd_same, hn.2, fun out p3 h1 h2 h3 np3 => ?_⟩
      have eo : out = sortS ns := pw_unique h1 (sortS_pw ns) fun k => by rw [h2 k, decide_eq_true_eq, mem_sortS]
      subst eo
      exact (p1.mono e2).newW l2 np3 _ (rv_newL l2 np3 (RVs.of_ints _))
    · rw [if_neg hn] at p1
      exact False.elim p1
end
end SL
set_option Elab.async false
set_option linter.all false
set_option maxRecDepth 100000
set_option maxHeartbeats 2000000
namespace SL
open PySem PySem.Spec PyProof.Rows L2
def cname : Cl → Str
  | .LightError => "LightError" | .InvalidStairs => "InvalidStairs" | .InvalidTick => "InvalidTick" | .UnknownTrip => "UnknownTrip" | .InvalidCount => "InvalidCount" | .TooManyTrips => "TooManyTrips"
  | .Contradiction => "Contradiction" | .TextFault => "TextFault" | .InvalidCode => "InvalidCode" | .InvalidName => "InvalidName" | .UnknownName => "UnknownName" | .InvalidOperation => "InvalidOperation"
  | .Trip => "Trip" | .Stairs => "Stairs" | .Scene => "Scene" | .Story => "Story" | .Reader => "Reader" | .Electrician => "Electrician" | .Panel => "Panel" | .Trial => "Trial"
  | .lam _ => ""
/-- the functions that were made while the law ran, the tables, what stands as it is -/
structure Lm where
  at_ : Nat → Addr
  tabs : List (Addr × Str)
  pins : List (Addr × HO)
  sites : List Site
abbrev caL (K : PySem.W.Frag) (L : Lm) : Ca := ⟨fun c => match c with
  | .lam n => L.at_ n
  | c => He.ga K (cname c), L.tabs, L.pins, L.sites⟩
section
variable {X : Cx} {ca : Ca} {E : XK} {j k : Nat} {g : FnM} {c : Cl} {x m : Str} {p pos apos : Pos} {e o : Expr} {es : List Expr} {t : M (List W)} {mo : M W}
/-- f(a, ..) -/
theorem me_fn (F : FnAt X.prog X.w X.K X.mg X.base ca x k g) (b : Bd X E j) (ha : MA X ca E (e :: es) t) (hk : k ≤ j := by decide)
    (hg : Gl X x := by rfl) (hdb : (x == ("__debug__" : Str)) = false := by decide) (he : starEach (e :: es) X.env = (false, eval e X.env) :: starEach es X.env := by rfl) (hpl : (backTo pos (starEach es X.env)).any (·.1) = false := by rfl) :
    ME X ca E (.Call (.Name x p) (e :: es) [] pos) (mFr (mCall g t)) := by
  obtain ⟨f, h1, h2, h3⟩ := F
  exact me_fr (me_call h3 (b.hr.mono hk) h1 h2 b.pc ha hg hdb he hpl)
theorem me_fnK (F : FnAt X.prog X.w X.K X.mg X.base ca x k g) (b : Bd X E j) (ha : MA X ca E (e :: es) t) (hk : k ≤ j := by decide)
    (hg : Gl X x := by rfl) (hdb : (x == ("__debug__" : Str)) = false := by decide) (he : starEach (e :: es) X.env = (false, eval e X.env) :: starEach es X.env := by rfl) (hpl : (backTo pos (starEach es X.env)).any (·.1) = false := by rfl) :
    ME X ca E (.Call (.Name x p) (e :: es) [] pos) (mCall g t) := by
  obtain ⟨f, h1, h2, h3⟩ := F
  exact me_call h3 (b.hr.mono hk) h1 h2 b.pc ha hg hdb he hpl
/-- o.m(a, ..) -/
theorem me_mt {pl : Sem Bool} (F : MethAt X.prog X.w X.K X.mg X.base ca c m k g) (b : Bd X E j) (ho : ME X ca E o mo) (ha : MA X ca E (e :: es) t) (hk : k ≤ j := by decide) (hl : (fnames c).contains m = false := by decide)
    (hst : starEach (e :: es) X.env = (false, eval e X.env) :: starEach es X.env := by rfl) (hpl : (backTo pos (starEach es X.env)).any (·.1) = false := by rfl)
    (ht : eval (.Call (.Attribute o m apos) (e :: es) [] pos) X.env = (do
      let ov ← eval o X.env
      standAt apos.atName
      let (f, first) ← holding [ov] (getMethod ov m pl)
      callWith pos f first (backTo pos (starEach (e :: es) X.env)) (backToKw pos (keywordEach [] X.env))) := by rfl) :
    ME X ca E (.Call (.Attribute o m apos) (e :: es) [] pos) (mFr (mMeth c g mo t)) := by
  obtain ⟨f, h1, h2, h3⟩ := F
  exact me_fr (me_meth h3 (b.hr.mono hk) h1 h2 hl b.pc ho ha hst hpl ht)
/-- o.p, p a property -/
theorem me_pr (F : PropAt X.prog X.w X.K X.mg X.base ca c m k g) (b : Bd X E j) (ho : ME X ca E o mo) (hk : k + 1 ≤ j := by decide) (hab : attributeBase o m X.env (eval o X.env) = eval o X.env := by rfl) : ME X ca E (.Attribute o m pos) (mFr (mProp c g mo)) := by
  obtain ⟨p, q, fd, h1, h2, h3, h4⟩ := F
  exact me_fr (me_prop h1 h2 h4 (b.hr.mono hk) h3 ho hab)
/-- C(a, ..) -/
theorem me_nw (F : NewAt X.prog X.w X.K X.mg X.base ca c x k g) (b : Bd X E j) (ha : MA X ca E (e :: es) t) (hk : k + 1 ≤ j := by decide)
    (hg : Gl X x := by rfl) (hdb : (x == ("__debug__" : Str)) = false := by decide) (he : starEach (e :: es) X.env = (false, eval e X.env) :: starEach es X.env := by rfl) (hpl : (backTo pos (starEach es X.env)).any (·.1) = false := by rfl) :
    ME X ca E (.Call (.Name x p) (e :: es) [] pos) (mFr (mCall (newR c g) t)) := by
  obtain ⟨f, h1, h2, h3⟩ := F
  exact me_fr (me_new h3 h2 (b.hr.mono hk) h1 b.pc ha hg hdb he hpl)
theorem me_nwS (F : NewAt X.prog X.w X.K X.mg X.base ca c x k g) (b : Bd X E j) (ha : MA X ca E (e :: es) t) (hk : k + 1 ≤ j := by decide)
    (hg : Gl X x := by rfl) (hdb : (x == ("__debug__" : Str)) = false := by decide) (he : starEach (e :: es) X.env = (false, eval e X.env) :: starEach es X.env := by rfl) (hst : (backTo pos (starEach es X.env)).any (·.1) = true := by rfl) :
    ME X ca E (.Call (.Name x p) (e :: es) [] pos) (mFr (mCall (newR c g) t)) := by
  obtain ⟨f, h1, h2, h3⟩ := F
  exact me_fr (me_newS h3 h2 (b.hr.mono hk) h1 b.pc ha hg hdb he hst)
theorem me_nw1 {m : M W} {sp_ : Pos} (F : NewAt X.prog X.w X.K X.mg X.base ca c x k g) (b : Bd X E j) (he : ME X ca E e m) (hk : k + 1 ≤ j := by decide)
    (hg : Gl X x := by rfl) (hdb : (x == ("__debug__" : Str)) = false := by decide) (hst : starEach [.Starred e sp_] X.env = [(true, eval e X.env)] := by rfl) :
    ME X ca E (.Call (.Name x p) [.Starred e sp_] [] pos) (mFr (mCall (newR c g) (mStar m mNil))) := by
  obtain ⟨f, h1, h2, h3⟩ := F
  exact me_fr (me_new1 h3 h2 (b.hr.mono hk) h1 b.pc he hg hdb hst)
end
/-! ### defs as they stand, from the head's words -/
end SL
set_option Elab.async false
set_option linter.all false
set_option maxRecDepth 100000
set_option maxHeartbeats 2000000
namespace SL
open PySem PySem.Spec PyProof.Rows L2
/-! ### what the head tells of the module: functions by their places, facts -/
inductive Pl where
  | fn (x : Str) | me (C m : Str) | pr (C f : Str) | cm (C f : Str)
def inRec (K : PySem.W.Frag) (p : Addr) (T : String) : Addr := match PySem.W.recIn K p T with
  | some (.ref g :: _) => g
  | _ => 0
def Pl.at (K : PySem.W.Frag) : Pl → Addr
  | .fn x => He.ga K x
  | .me C m => He.ma K (He.ga K C) m
  | .pr C f => inRec K (He.ma K (He.ga K C) f) "property"
  | .cm C f => inRec K (He.ma K (He.ga K C) f) "classmethod"
structure Df where
  pl : Pl
  name : Str
  qual : Str
  params : Arguments
  body : List Stmt
  scope : Scope
def fnV (K : PySem.W.Frag) (p : Addr) : He.FnW := match K.lookup p with
  | some ⟨_, _, .func fd, _⟩ => some (fd.name, fd.qualname, fd.params, fd.body, fd.scope, fd.globals, fd.closure, fd.builtins)
  | _ => none
def Df.val (d : Df) : He.FnW := some (d.name, d.qual, d.params, .stmts d.body, d.scope, mainGlobals, [], builtinsNs)
def Df.ok (K : PySem.W.Frag) (d : Df) : Bool := PySem.W.keepIn K (.ref (d.pl.at K)) && (match K.lookup (d.pl.at K) with
  | some ⟨_, _, .func fd, _⟩ => PySem.W.codeIn K fd.code d.qual && (He.dflB K fd.defaults [] && He.kwdB K fd.kwdefaults [])
  | _ => false)
theorem Df.funD {K : PySem.W.Frag} {d : Df} (e : fnV K (d.pl.at K) = d.val) (c : d.ok K = true) : ∃ fd, FunD K d.name d.qual d.params d.body d.scope [] [] (d.pl.at K) fd := by
  obtain ⟨kp, c2⟩ := He.ba c
  unfold fnV at e
  cases q : K.lookup (d.pl.at K) with
  | none =>
    rw [q] at c2
    cases c2
  | some o =>
    obtain ⟨oc, od, dt, osl⟩ := o
    rw [q] at c2 e
    cases dt with
    | func fd =>
      obtain ⟨n1, n2, n3, n4, n5, n6, n7, n8, n9, n10, n11, n12, n13, n14, n15⟩ := fd
      have e2 : (some (n1, n2, n3, n4, n5, n6, n7, n15) : He.FnW) = some (d.name, d.qual, d.params, .stmts d.body, d.scope, mainGlobals, [], builtinsNs) := e
      simp only [Option.some.injEq, Prod.mk.injEq] at e2
      obtain ⟨h1, h2, h3, h4, h5, h6, h7, h8⟩ := e2
      subst h1 h2 h3 h4 h5 h6 h7 h8
      have c3 : (PySem.W.codeIn K n13 d.qual && (He.dflB K n8 [] && He.kwdB K n9 [])) = true := c2
      obtain ⟨k1, k2⟩ := He.ba c3
      obtain ⟨k3, k4⟩ := He.ba k2
      exact ⟨_, ⟨oc, od, n8, n9, n10, n11, n12, n13, n14, osl, rfl, q, k1, He.dflB_ok k3, He.kwdB_ok k4⟩, kp⟩
    | _ => cases c2
/-- the names' tuple of texts -/
def tupS (K : PySem.W.Frag) (x : Str) (zs : List Str) : Bool := match K.lookup (He.ga K x) with
  | some ⟨.type c, none, .seq its _, _⟩ => decide (c = "tuple") && (decide (its.size ≤ sizeLine) && He.relAll (zs.map V.str) its.toList)
  | _ => false
theorem tupS_ok {K : PySem.W.Frag} {x : Str} {zs : List Str} (h : tupS K x zs = true) : WrT K (He.ga K x) (zs.map V.str) := by
  unfold tupS at h
  cases q : K.lookup (He.ga K x) with
  | none =>
    rw [q] at h
    cases h
  | some o =>
    rw [q] at h
    obtain ⟨oc, od, dt, osl⟩ := o
    cases oc with
    | type c =>
      cases od with
      | some d => cases dt <;> cases h
      | none =>
        cases dt with
        | seq its n =>
          obtain ⟨h1, h2⟩ := He.ba h
          obtain ⟨h3, h4⟩ := He.ba h2
          have ec : c = "tuple" := of_decide_eq_true h1
          subst ec
          exact ⟨_, its, n, q, rfl, rfl, of_decide_eq_true h3, He.relAll_ok h4, rfl⟩
        | _ => cases h
    | _ => cases od <;> cases dt <;> cases h
/-- the errors' classes -/
def xNames : List Str := ["InvalidStairs", "InvalidTick", "UnknownTrip", "InvalidCount", "TooManyTrips", "Contradiction", "TextFault", "InvalidCode", "InvalidName", "UnknownName", "InvalidOperation"]
/-- an error of this class can be asked for its class, its fields -/
def xcB (K : PySem.W.Frag) (C : Addr) : Bool :=
  He.eqO (PySem.W.findIn K (.ref C) "__getattribute__") (some (some (.builtin "BaseException.__getattribute__"))) && (He.eqO (PySem.W.findIn K (.ref C) "__getattr__") (some none) && (decide (PySem.W.subIn K (.ref C) (.type "BaseException") = some true) &&
  (PySem.W.hasDictIn K C && (He.eqO (PySem.W.findIn K (.ref C) "__class__") (some (some (.builtin "object.__class__"))) && (He.eqO (PySem.W.specialIn K (.builtin "object.__class__") "__get__") (some (some (.builtin "getset_descriptor.__get__"))) &&
  (decide (PySem.W.takesIn K (.builtin "object.__class__") = some true) && decide (PySem.W.mroIn K C (.type "object") = some true)))))))
def xsB (K : PySem.W.Frag) : Bool := xNames.all fun c => decide (PySem.W.exmOne K (.ref (He.ga K c)) (.ref (He.ga K "LightError")) = some true) && (xcB K (He.ga K c) && (xNames.all (fun d => decide (PySem.W.kitOne K (.ref (He.ga K c)) (.ref (He.ga K d)) = some (decide (c = d)))) &&
  (decide (PySem.W.kitOne K (.ref (He.ga K c)) (.type "ValueError") = some true) && [("part" : Str), "index", "line", "place"].all fun f => He.eqO (PySem.W.findIn K (.ref (He.ga K c)) f) (some none))))
/-- a class of errors with an own __init__ -/
def oexB (K : PySem.W.Frag) (C : Addr) : Bool := match K.lookup C with
  | some ⟨.type "type", _, .cls cd, sl⟩ => (match cd.mro, sl.toList with
    | .ref C' :: bm, [_, _, _, _, some (.builtin n), _] => decide (C' = C) && (decide (n = "ValueError.__new__") && (!cd.hasDel && (cd.hasDict && PySem.HandSPX.refsVE bm)))
    | _, _ => false)
  | _ => false
def xnB (K : PySem.W.Frag) (c : Str) : Bool := oexB K (He.ga K c) && (He.eqO (PySem.W.findIn K (.ref (He.ga K c)) "__setattr__") (some (some (.builtin "object.__setattr__"))) && (decide (PySem.W.subIn K (.ref (He.ga K c)) (.type "BaseException") = some true) &&
  (decide (PySem.W.typeIn K (.ref (He.ga K c)) = some (.type "type")) && (PySem.W.keepIn K (.ref (He.ga K c)) && (He.eqO (PySem.W.findIn K (.ref (He.ga K c)) "__init__") (some (some (.ref (He.ma K (He.ga K c) "__init__")))) && decide (PySem.W.typeIn K (.ref (He.ma K (He.ga K c) "__init__")) = some (.type "function")))))))
/-- the class whose __init__ is ValueError's -/
def leB (K : PySem.W.Frag) (c : Str) : Bool := PySem.W.readsIn K (He.ga K c) (.type "type") && (match PySem.W.findCls K (.ref (He.ga K c)) (.type "type") "__init__" with
  | some (.val (.builtin n)) => decide (n = "ValueError.__init__")
  | _ => false)
inductive Fx where
  | fa (f : He.Fa) | pr (C f : Str) | tp (x : Str) (zs : List Str) | cm (C m : Str) | xs | xn (C : Str) | le (C : Str) | ns
/-- no error ends an iteration -/
def nsB (K : PySem.W.Frag) : Bool := xNames.all fun c => decide (PySem.W.subIn K (.ref (He.ga K c)) (.type "StopIteration") = some false)
/-- C.m is a classmethod -/
def cmB (K : PySem.W.Frag) (C m : Str) : Bool := He5.wrapB K (He.ga K C) "classmethod" "classmethod.__get__" m && (PySem.W.fnIn K (Pl.at K (.cm C m)) && PySem.W.readsIn K (He.ga K C) (.type "type"))
def prB (K : PySem.W.Frag) (C f : Str) : Bool := He.eqO (PySem.W.findIn K (.ref (He.ga K C)) f) (some (some (.ref (He.ma K (He.ga K C) f)))) &&
  (He.eqO (PySem.W.specialIn K (.ref (He.ma K (He.ga K C) f)) "__get__") (some (some (.builtin "property.__get__"))) && (decide (PySem.W.takesIn K (.ref (He.ma K (He.ga K C) f)) = some true) &&
  (match PySem.W.recIn K (He.ma K (He.ga K C) f) "property" with
    | some (.ref _ :: _) => true
    | _ => false)))
theorem prB_ok {K : PySem.W.Frag} {C f : Str} (h : prB K C f = true) : PropOf K (He.ga K C) f (He.ma K (He.ga K C) f) (Pl.at K (.pr C f)) := by
  obtain ⟨h1, h2⟩ := He.ba h
  obtain ⟨h3, h4⟩ := He.ba h2
  obtain ⟨h5, h6⟩ := He.ba h4
  refine ⟨He.eqO_ok h1, He.eqO_ok h3, of_decide_eq_true h5, ?_⟩
  cases q : PySem.W.recIn K (He.ma K (He.ga K C) f) "property" with
  | none =>
    rw [q] at h6
    cases h6
  | some l =>
    rw [q] at h6
    cases l with
    | nil => cases h6
    | cons v r =>
      cases v with
      | ref g =>
        have e : Pl.at K (.pr C f) = g := by simp only [Pl.at, inRec, q]
        rw [e]
        exact ⟨r, rfl⟩
      | _ => cases h6
def Fx.ok (K : PySem.W.Frag) : Fx → Bool
  | .fa f => f.ok K
  | .pr C f => prB K C f
  | .tp x zs => tupS K x zs
  | .cm C m => cmB K C m
  | .xs => xsB K
  | .xn C => xnB K C
  | .le C => leB K C
  | .ns => nsB K
abbrev AlP : Type := Bool × List He.FnW
/-- what the names reach in n steps, and the interpreter's own statics (a class read looks there) -/
def frX (g : Addr → Option Obj) (n : Nat) : PySem.W.Frag := He.frT g (He.asD g n) ++ He.frG g [PySem.cStatics]
theorem frX_in {n : Nat} {h : Heap} : (frX h.get? n).In h := fun a o e => by
  unfold frX at e
  rw [List.lookup_append] at e
  cases q : (He.frT h.get? (He.asD h.get? n)).lookup a with
  | some u =>
    rw [q] at e
    cases e
    exact He.frT_in _ _ q
  | none =>
    rw [q] at e
    exact He.frG_in _ _ e
def obsP (n : Nat) (fs : List Fx) (ds : List Df) (g : Addr → Option Obj) : AlP :=
  ((fs.all fun f => f.ok (frX g n)) && (ds.all fun d => d.ok (frX g n)), ds.map fun d => fnV (frX g n) (d.pl.at (frX g n)))
structure SaysP (fs : List Fx) (ds : List Df) (K : PySem.W.Frag) : Prop where
  fa : ∀ f ∈ fs, f.ok K = true
  df : ∀ d ∈ ds, ∃ fd, FunD K d.name d.qual d.params d.body d.scope [] [] (d.pl.at K) fd
theorem saysP_of {n : Nat} {fs : List Fx} {ds : List Df} {h : Heap} (e : obsP n fs ds h.get? = (true, ds.map Df.val)) : SaysP fs ds (frX h.get? n) := by
  have e1 := congrArg (fun z : AlP => z.1) e
  have e2 := congrArg (fun z : AlP => z.2) e
  obtain ⟨h1, h2⟩ := He.ba e1
  refine ⟨fun f hf => List.all_eq_true.mp h1 f hf, fun d hd => Df.funD ?_ (List.all_eq_true.mp h2 d hd)⟩
  exact List.map_inj_left.mp e2 d hd
/-- the module as the walk needs it -/
structure Sy (fs : List Fx) (ds : List Df) (K : PySem.W.Frag) (mg : Str → Option Value) : Prop where
  hp : ∃ h : Heap, K.In h ∧ h.Ns mainGlobals mg
  sa : SaysP fs ds K
section
variable {fs : List Fx} {ds : List Df} {K : PySem.W.Frag} {mg : Str → Option Value}
theorem Sy.f (Z : Sy fs ds K mg) (i : Nat) {f : Fx} (h : fs[i]? = some f) : f.ok K = true := Z.sa.fa f (List.mem_of_getElem? h)
theorem Sy.glo (Z : Sy fs ds K mg) (i : Nat) {x : Str} (h : fs[i]? = some (.fa (.glo x)) := by rfl) : mg x = some (.ref (He.ga K x)) := by
  obtain ⟨h1, X, G⟩ := Z.hp
  exact He.glo_ok X G (Z.f i h)
theorem Sy.free (Z : Sy fs ds K mg) (i : Nat) {x : Str} (h : fs[i]? = some (.fa (.free x)) := by rfl) : mg x = none := by
  obtain ⟨h1, X, G⟩ := Z.hp
  exact He.free_ok X G (Z.f i h)
theorem Sy.int (Z : Sy fs ds K mg) (i : Nat) {x : Str} {j : Int} (h : fs[i]? = some (.fa (.int x j)) := by rfl) : ∃ t, mg x = some (.int j t) := by
  obtain ⟨h1, X, G⟩ := Z.hp
  exact He.int_ok X G (Z.f i h)
theorem Sy.str (Z : Sy fs ds K mg) (i : Nat) {x z : Str} (h : fs[i]? = some (.fa (.str x z)) := by rfl) : ∃ t, mg x = some (.str z t) := by
  obtain ⟨h1, X, G⟩ := Z.hp
  exact He.str_ok X G (Z.f i h)
theorem Sy.cls (Z : Sy fs ds K mg) (i : Nat) {x : Str} (h : fs[i]? = some (.fa (.cls x)) := by rfl) : Cls K (He.ga K x) := He.cls_ok (Z.f i h)
theorem Sy.noat (Z : Sy fs ds K mg) (i : Nat) {x f : Str} (h : fs[i]? = some (.fa (.noat x f)) := by rfl) : NoAttr K (He.ga K x) f := He.noat_ok (Z.f i h)
theorem Sy.tp (Z : Sy fs ds K mg) (i : Nat) {x : Str} {zs : List Str} (h : fs[i]? = some (.tp x zs) := by rfl) : WrT K (He.ga K x) (zs.map V.str) := tupS_ok (Z.f i h)
theorem Sy.d (Z : Sy fs ds K mg) (i : Nat) {d : Df} (h : ds[i]? = some d := by rfl) : ∃ fd, FunD K d.name d.qual d.params d.body d.scope [] [] (d.pl.at K) fd := Z.sa.df d (List.mem_of_getElem? h)
theorem rvs_strs {ca : Ca} {io : List Addr} {H : Hp} : ∀ zs : List Str, RVs K ca io H (zs.map W.str) (zs.map V.str)
  | [] => .nil
  | z :: zs => .cons rfl (rvs_strs zs)
theorem me_tp {X : Cx} {ca : Ca} {E : XK} {x : Str} {zs : List Str} {pos : Pos} (h : WrT X.K (He.ga X.K x) (zs.map V.str)) (hm : X.mg x = some (.ref (He.ga X.K x))) (hg : Gl X x := by rfl) (hd : (x == ("__debug__" : Str)) = false := by decide) : ME X ca E (.Name x pos) (mC (.ktup (zs.map W.str))) :=
  me_gtup hm h (fun io H => rvs_strs zs) hg hd
variable {P : Program} {w : World} {base : Heap} {ca : Ca} {x qual m : Str} {c : Cl} {k n j : Nat} {params : Arguments} {body : List Stmt} {scope : Scope} {N ps : List Str} {b : MSt}
abbrev BindOk (x qual : Str) (params : Arguments) (body : List Stmt) (scope : Scope) (ps : List Str) : Prop :=
  ∀ (kV doc pm : Value) (an : Option Addr) (cdv ct : Value) (us : List Value), us.length = ps.length → bindArgs (PySem.W.fnOf x qual params body scope .none kV doc pm an cdv ct) ⟨us, []⟩ = pure (ps.zip us)
abbrev DerOk (P : Program) (w : World) (K : PySem.W.Frag) (mg : Str → Option Value) (base : Heap) (ca : Ca) (N : List Str) (qual : Str) (scope : Scope) (k : Nat) (f : Addr) (body : List Stmt) (b : MSt) : Prop :=
  ∀ (cdv : Value) (A : Around) (outer : List Env) (s : Shared) (H : Hp) (E : XK), Bd (cxOf (L2.CX P w) P w K mg base N qual scope f cdv A outer s H E) E k → MSs (cxOf (L2.CX P w) P w K mg base N qual scope f cdv A outer s H E) ca E body b
theorem Sy.fn (Z : Sy fs ds K mg) (i ig : Nat) (hd : ds[i]? = some ⟨.fn x, x, qual, params, body, scope⟩) (hg : fs[ig]? = some (.fa (.glo x))) (Sc : FnScope N ps scope) (hn : N.length = n) (hj : ps.length = j)
    (hb : BindOk x qual params body scope ps) (h : ∀ f, DerOk P w K mg base ca N qual scope k f body b) : FnAt P w K mg base ca x (k + 1) (fnM n j b) := by
  obtain ⟨fd, F⟩ := Z.d i hd
  exact ⟨_, Z.glo ig hg, F.kp, fm_of (fo_ok F Sc hn hj fun cdv A outer s H E hr => h _ cdv A outer s H E (Bd.of hr)) (F.bindsN hb)⟩
theorem Sy.meth (Z : Sy fs ds K mg) (i ic im : Nat) {C : Str} (hd : ds[i]? = some ⟨.me C x, x, qual, params, body, scope⟩) (hC : ca c = He.ga K C) (hc : fs[ic]? = some (.fa (.cls C))) (hm : fs[im]? = some (.fa (.meth C x))) (Sc : FnScope N ps scope) (hn : N.length = n) (hj : ps.length = j)
    (hb : BindOk x qual params body scope ps) (h : ∀ f, DerOk P w K mg base ca N qual scope k f body b) : MethAt P w K mg base ca c x (k + 1) (fnM n j b) := by
  obtain ⟨fd, F⟩ := Z.d i hd
  refine ⟨_, ?_, ?_, fm_of (fo_ok F Sc hn hj fun cdv A outer s H E hr => h _ cdv A outer s H E (Bd.of hr)) (F.bindsN hb)⟩
  · rw [hC]
    exact Z.cls ic hc
  · rw [hC]
    exact He.meth_ok (Z.f im hm)
theorem Sy.prop (Z : Sy fs ds K mg) (i ic im : Nat) {C : Str} (hd : ds[i]? = some ⟨.pr C x, x, qual, params, body, scope⟩) (hC : ca c = He.ga K C) (hc : fs[ic]? = some (.fa (.cls C))) (hm : fs[im]? = some (.pr C x)) (Sc : FnScope N ["self"] scope) (hn : N.length = n)
    (hb : BindOk x qual params body scope ["self"]) (h : ∀ f, DerOk P w K mg base ca N qual scope k f body b) : PropAt P w K mg base ca c x (k + 1) (fnM n 1 b) := by
  obtain ⟨fd, F⟩ := Z.d i hd
  refine ⟨He.ma K (He.ga K C) x, _, fd, ?_, ?_, F.bindsN hb, fo_ok F Sc hn rfl fun cdv A outer s H E hr => h _ cdv A outer s H E (Bd.of hr)⟩
  · rw [hC]
    exact Z.cls ic hc
  · rw [hC]
    exact prB_ok (Z.f im hm)
theorem Sy.new (Z : Sy fs ds K mg) (i ig im : Nat) (hd : ds[i]? = some ⟨.me x "__init__", "__init__", qual, params, body, scope⟩) (hC : ca c = He.ga K x) (hg : fs[ig]? = some (.fa (.glo x))) (hm : fs[im]? = some (.fa (.mkr x))) (Sc : FnScope N ps scope) (hn : N.length = n) (hj : ps.length = j)
    (hb : BindOk "__init__" qual params body scope ps) (h : ∀ f, DerOk P w K mg base ca N qual scope k f body b) : NewAt P w K mg base ca c x (k + 1) (fnM n j b) := by
  obtain ⟨fd, F⟩ := Z.d i hd
  refine ⟨_, ?_, ?_, fm_of (fo_ok F Sc hn hj fun cdv A outer s H E hr => h _ cdv A outer s H E (Bd.of hr)) (F.bindsN hb)⟩
  · rw [hC]
    exact Z.glo ig hg
  · rw [hC]
    exact He.mkr_ok (Z.f im hm)
theorem fms_ok {pv : Str} {f : Addr} {fd : FuncData} (F : FunD K x qual params body scope [] [] f fd) (Sc : FnScope N (ps ++ [pv]) scope) (hn : N.length = n) (hj : ps.length = j)
    (hb : ∀ (kV doc pm : Value) (an : Option Addr) (cdv ct : Value) (us rest : List Value), us.length = ps.length → bindArgs (PySem.W.fnOf x qual params body scope .none kV doc pm an cdv ct) ⟨us ++ rest, []⟩ = (newTuple rest >>= fun t => pure (ps.zip us ++ [(pv, t)])))
    (h : DerOk P w K mg base ca N qual scope k f body b) : Fm P w K mg base ca (k + 1) f (fnMS n j b) := by
  obtain ⟨oc, od, dV, kV, doc, pm, an, cdv, ct, osl, rfl, lk, hcd, hD, hK⟩ := F.ex
  have eD : dV = .none := by
    rcases hD with ⟨_, rfl⟩ | ⟨e, _⟩
    · rfl
    · exact absurd rfl e
  subst eD hn hj
  refine FnR.imp (StX.fn_star (sp := spM K ca fun ws S => endOf (b (ws.map some ++ List.replicate (N.length - ws.length) none) S)) lk hcd Sc StX.cxUp (hb kV doc pm an cdv ct) fun A outer s H vs Q E hr hsp => ⟨_, h cdv A outer s H E (Bd.of hr), ?_⟩) fun vs H Q E hs => ?_
  · obtain ⟨io, ws, S, z, rvs, p⟩ := hsp
    refine ⟨io, ws.map some ++ List.replicate (N.length - ws.length) none, S, ⟨z, RE.start rvs⟩, ?_⟩
    cases q : b (ws.map some ++ List.replicate (N.length - ws.length) none) S with
    | stuck =>
      simp only [q] at p
      exact p
    | exc c es S' =>
      simp only [q] at p
      exact p
    | ok f S' =>
      simp only [q] at p
      cases f with
      | nx r' => exact fun io' H' e z' σ re => p io' H' e z' _ rfl
      | rt u => exact p
      | bk r' => exact p.elim
      | ct r' => exact p.elim
  · obtain ⟨io, ws, S, z, rvs, p⟩ := hs
    unfold fnMS at p
    split at p
    · rename_i hl
      have h1 : (vs.take ps.length).length = ps.length := by
        rw [List.length_take, rvs.len]
        omega
      refine ⟨vs.take ps.length, vs.drop ps.length, (List.take_append_drop _ _).symm, h1, ?_, fun q hq => ?_⟩
      · rw [List.length_drop, rvs.len]
        exact lim_le hl.2
      · refine ⟨io, ws.take ps.length ++ [.tup (ws.drop ps.length)], S, z.new hq, ((rvs.take _).mono (ext_new hq)).app (.cons (rv_newT z hq (rvs.drop _)) .nil), ?_⟩
        have e2 : (ws.take ps.length ++ [W.tup (ws.drop ps.length)]).map some ++ List.replicate (N.length - (ws.take ps.length ++ [W.tup (ws.drop ps.length)]).length) none = (ws.take ps.length).map some ++ some (.tup (ws.drop ps.length)) :: List.replicate (N.length - ps.length - 1) none := by
          rw [List.map_append, List.append_assoc, List.length_append, List.length_take]
          have e3 : min ps.length ws.length = ps.length := by omega
          rw [e3]
          simp only [List.map_cons, List.map_nil, List.cons_append, List.nil_append, List.length_cons, List.length_nil]
          rw [show N.length - (ps.length + (0 + 1)) = N.length - ps.length - 1 by omega]
        dsimp only
        rw [e2]
        exact p.mono (ext_new hq)
    · exact p.elim
theorem Sy.newS (Z : Sy fs ds K mg) (i ig im : Nat) {pv : Str} (hd : ds[i]? = some ⟨.me x "__init__", "__init__", qual, params, body, scope⟩) (hC : ca c = He.ga K x) (hg : fs[ig]? = some (.fa (.glo x))) (hm : fs[im]? = some (.fa (.mkr x))) (Sc : FnScope N (ps ++ [pv]) scope) (hn : N.length = n) (hj : ps.length = j)
    (hb : ∀ (kV doc pm : Value) (an : Option Addr) (cdv ct : Value) (us rest : List Value), us.length = ps.length → bindArgs (PySem.W.fnOf "__init__" qual params body scope .none kV doc pm an cdv ct) ⟨us ++ rest, []⟩ = (newTuple rest >>= fun t => pure (ps.zip us ++ [(pv, t)])))
    (h : ∀ f, DerOk P w K mg base ca N qual scope k f body b) : NewAt P w K mg base ca c x (k + 1) (fnMS n j b) := by
  obtain ⟨fd, F⟩ := Z.d i hd
  refine ⟨_, ?_, ?_, fms_ok F Sc hn hj hb (h _)⟩
  · rw [hC]
    exact Z.glo ig hg
  · rw [hC]
    exact He.mkr_ok (Z.f im hm)
end
end SL
set_option Elab.async false
set_option linter.all false
set_option maxRecDepth 100000
set_option maxHeartbeats 2000000
namespace SL
open PySem PySem.Spec PyProof.Rows L2
def mNeg (m : M W) : M W := do
  let w ← m
  match w with
  | .int i => pure (.int (-i))
  | _ => fun _ _ => .stuck
section
variable {X : Cx} {ca : Ca} {E : XK}
theorem me_neg {e : Expr} {m : M W} {pos : Pos} (h : ME X ca E e m) : ME X ca E (.UnaryOp .USub e pos) (mNeg m) := PE.weak (pe_un un_neg h) fun σ H Q h => by
  obtain ⟨io, r, S, l, p⟩ := h
  refine tE_imp (tE_bind l p) fun v H1 ⟨io1, S1, w, e1, l1, rv, p1⟩ => ?_
  cases w <;> first | exact False.elim p1 | skip
  exact ⟨_, rv, p1.done l1.z _ rfl⟩
section
variable {elt tg iter : Expr} {ifs : List Expr} {scope : Scope} {own : List (Str × Nat)} {pos : Pos} {T : Tg} {mi : M (List W)} {tt : M Bool} {te : M W} {k : Nat}
abbrev BkOk (X : Cx) (scope : Scope) (k : Nat) (φ : Cx → Prop) : Prop := ∀ (s : Shared) (H : Hp) (C : Addr) (cl : List (Str × Addr)) (fp : List Addr), Bd (X.blk s H scope (compEnvC scope cl C X.env) fp) (fun _ _ _ => False) k → φ (X.blk s H scope (compEnvC scope cl C X.env) fp)
theorem me_lcB (vs : List Nat) (b : Bd X E k) (hN : X.N.Nodup) (hi : MI X ca E tg iter mi) (ok : BlkOk X.N X.env.scope scope own) (hv : own.map (·.2) = vs) (hg : BkOk X scope k fun Y => MG Y tg T) (ht : BkOk X scope k fun Y => PTs Y ifs (tT X.K ca (fun _ _ _ => False) tt))
    (he : BkOk X scope k fun Y => ME Y ca (fun _ _ _ => False) elt te) (hs : ∀ x, foldedSetIterable iter X.env x = pure x := by intro _; rfl) : ME X ca E (.ListComp elt [⟨tg, iter, ifs, 0⟩] scope pos) (mLc vs T mi tt te) :=
  me_lc vs b.calm hN hi ok hv (fun s H C cl fp => hg s H C cl fp b.blk) (fun s H C cl fp => ht s H C cl fp b.blk) (fun s H C cl fp => he s H C cl fp b.blk) hs
theorem me_lcCB (vs : List Nat) (b : Bd X E k) (hN : X.N.Nodup) (hi : MI X ca E tg iter mi) (ok : BlkOk X.N X.env.scope scope own) (hv : own.map (·.2) = vs) (hg : BkOk X scope k fun Y => MG Y tg T) (ht : BkOk X scope k fun Y => PTs Y ifs (tT X.K ca (fun _ _ _ => False) tt))
    (he : BkOk X scope k fun Y => ME Y ca (fun _ _ _ => False) elt te) (hs : ∀ x, foldedSetIterable iter X.env x = pure x := by intro _; rfl) : ME X ca E (.ListComp elt [⟨tg, iter, ifs, 0⟩] scope pos) (mLcC vs T mi tt te) :=
  me_lcC vs b.calm hN hi ok hv (fun s H C cl fp => hg s H C cl fp b.blk) (fun s H C cl fp => ht s H C cl fp b.blk) (fun s H C cl fp => he s H C cl fp b.blk) hs
theorem ms_setLcB (i : Nat) (vs : List Nat) {y : Str} {py spos : Pos} (b : Bd X E k) (hN : X.N.Nodup) (hi : MI X ca E tg iter mi) (ok : BlkOk X.N X.env.scope scope own) (hv : own.map (·.2) = vs) (hg : BkOk X scope k fun Y => MG Y tg T) (ht : BkOk X scope k fun Y => PTs Y ifs (tT X.K ca (fun _ _ _ => False) tt))
    (he : BkOk X scope k fun Y => ME Y ca (fun _ _ _ => False) elt te) (hy : X.N[i]? = some y := by rfl) (hyl : X.env.scope.names.lookup y = some .local := by rfl) (hsw : swapsWith (.ListComp elt [⟨tg, iter, ifs, 0⟩] scope pos) (some (.Name y py)) spos.line X.env = pure true := by exact sw_true rfl rfl rfl (by decide +kernel)) (hs : ∀ x, foldedSetIterable iter X.env x = pure x := by intro _; rfl) :
    MS X ca E (.Assign [.Name y py] (.ListComp elt [⟨tg, iter, ifs, 0⟩] scope pos) spos) (sSet i (mLc vs T mi tt te)) :=
  ms_setLc i vs b.calm hN hi ok hv (fun s H C cl fp => hg s H C cl fp b.blk) (fun s H C cl fp => ht s H C cl fp b.blk) (fun s H C cl fp => he s H C cl fp b.blk) hy hyl hsw hs
end
end
theorem law_spT {K : PySem.W.Frag} {ca : Ca} {g : FnM} {H : Hp} {a : Addr} {ns : List Int} {S' : Sto} (ht : ∀ p ∈ ca.tabs, H p.1 = some (.tbl #[])) (hp : ca.pins = []) (h : SqL K H a (ns.map V.int)) (e : g [.scr ns] [] = .ok (.bl true) S') : spM K ca g [.ref a] H (fun v _ => v = .bl true) fun _ _ _ => False := by
  refine ⟨[], [.scr ns], [], ⟨rfl, .nil, fun n c a q => by simp at q, ⟨fun p q => ⟨by simp, #[], ht p q, True.intro, fun pos cv hc => ?_⟩, fun p q => ?_⟩⟩, .cons ⟨a, rfl, ?_⟩ .nil, ?_⟩
  · have z : codeAmong pos [] = some cv := hc
    simp [codeAmong] at z
  · rw [hp] at q
    exact absurd q (by simp)
  · rcases h with h | h
    · exact .inl ⟨h, by simp⟩
    · exact .inr h
  · rw [e]
    exact fun io' H' _ _ v rv => rv
end SL
set_option Elab.async false
set_option linter.all false
set_option maxRecDepth 100000
set_option maxHeartbeats 2000000
/-! a star in a target: *a, b = t -/
namespace SL
open PySem PySem.Spec PyProof.Rows L2
def starRun (i j : Nat) : W → Rho → Option Rho
  | .tup ws, r => match ws.getLast? with
    | some y => some ((r.set i (some (.lst ws.dropLast))).set j (some y))
    | none => none
  | _, _ => none
def sForSL (i j : Nat) (b : MSt) : List W → MSt
  | [], r, S => .ok (.nx r) S
  | x :: xs, r, S => match starRun i j x r with
    | none => .stuck
    | some r1 => match b r1 S with
      | .ok (.nx r2) S2 => sForSL i j b xs r2 S2
      | .ok (.ct r2) S2 => sForSL i j b xs r2 S2
      | .ok (.bk r2) S2 => .ok (.nx r2) S2
      | .ok (.rt w) S2 => .ok (.rt w) S2
      | .exc c ws S2 => .exc c ws S2
      | .stuck => .stuck
def sForS (i j : Nat) (mi : M (List W)) (b : MSt) : MSt := do
  let xs ← mi
  sForSL i j b xs
end SL
set_option Elab.async false
set_option linter.all false
set_option maxRecDepth 100000
set_option maxHeartbeats 2000000
/-! texts -/
namespace SL
open PySem PySem.Spec PyProof.Rows L2
section
variable {X : Cx} {ca : Ca} {E : XK}
/-! ### str(x), int(x), len(s) -/
/-! ### join, split -/
/-! ### a text's signs -/
def signsW (z : Str) : List W := z.cps.toList.map fun c => W.str ⟨#[c]⟩
def iS (m : M W) : M (List W) := do
  let w ← m
  fun _ S => match w with
    | .str z => .ok (signsW z) S
    | _ => .stuck
/-! ### a class held by a local name, called -/
/-! ### a tuple of written texts: the place of one -/
/-! ### a class by its name; a classmethod called -/
end
end SL
set_option Elab.async false
set_option linter.all false
set_option maxRecDepth 100000
set_option maxHeartbeats 2000000
/-! objects that change -/
namespace SL
open PySem PySem.Spec PyProof.Rows L2
/-- a class held by slot i, called -/
def mNewL (i : Nat) (c : Cl) (g : FnM) (t : M (List W)) : M W := fun r S => match r[i]? with
  | some (some (.cls d)) => if d = c then mCall (newR c g) t r S else .stuck
  | _ => .stuck
def asC (w : Option W) (c : Cl) (k : Res W) : Res W := match w with
  | some (.cls d) => if d = c then k else .stuck
  | _ => .stuck
/-- o.f += m, o a changing object, whole numbers -/
def sFldAdd (c : Cl) (f : Fl) (mo m : M W) : MSt := do
  let w ← mo
  let v ← (fun _ S => match getO c S w, fix c f with
    | some xs, some i => match xs[i]? with
      | some x => .ok x S
      | none => .stuck
    | _, _ => .stuck : M W)
  let y ← m
  fun r S => match v, y with
    | .int a, .int b => match setO c f w (.int (a + b)) S with
      | .ok _ S' => .ok (.nx r) S'
      | _ => .stuck
    | _, _ => .stuck
end SL
set_option Elab.async false
set_option linter.all false
set_option maxRecDepth 100000
set_option maxHeartbeats 2000000
namespace SL
open PySem PySem.Spec PyProof.Rows L2 GenW
/-! ### a for-loop within a generator -/
section
variable {prog : Program} {w : World} {A : Around} {R : GenEnd} {Y : Protocol} {n : Nat} {s₀ : Shared} {fs : List Frame} {s : Shared} {env : Env}
/-- an exception leaves the loop's code -/
def outOf (env : Env) (x : Value) : Sem PySem.Fin := (do noteFrame x env; theTreesLotGoes x : Sem Unit).bind fun _ => .raise x
theorem seg_forLoop {target : Expr} {it : Value} {body : List Stmt}
    (h : wpAny (model prog w) (A.over (.forLoop target it body [] env) fs) (pyNext it) (fun r s1 => match r with
      | none => Seg (model prog w) A R Y n s₀ (.forLoop target it body [] env) (.pure (.again (.block [] env))) fs s1
      | some v => wpAny (model prog w) (A.over (.forLoop target it body [] env) fs) (letOwnedTupleGo target it v) (fun _ s2 =>
          wpAny (model prog w) (A.over (.forLoop target it body [] env) fs) (assign target env v) (fun _ s3 =>
            Seg (model prog w) A R Y n s₀ (.forLoop target it body [] env) ((execs body env).wrap (fun f => match f with
              | .next | .cont => .pure (.again (.forLoop target it body [] env))
              | .brk => .pure (.done .next)
              | .ret v => .pure (.done (.ret v))) (outOf env) id id) fs s3)
            (fun x s' => Seg (model prog w) A R Y n s₀ (.forLoop target it body [] env) (outOf env x) fs s') s2)
          (fun x s' => Seg (model prog w) A R Y n s₀ (.forLoop target it body [] env) (outOf env x) fs s') s1)
      (fun x s' => Seg (model prog w) A R Y n s₀ (.forLoop target it body [] env) (outOf env x) fs s') s) :
    Seg (model prog w) A R Y n s₀ (.forLoop target it body [] env) ((model prog w).den (.forLoop target it body [] env)) fs s := by
  show Seg _ A R Y n s₀ _ ((forTurn target it body [] env).onRaise (fun x => do noteFrame x env; theTreesLotGoes x)) fs s
  unfold forTurn
  rw [Sem.onRaise_eq_wrap]
  refine seg_bind_wrap (wpAny_standAt ?_)
  refine seg_bind_wrap (wpAny_onRaise (wpAny_mono h (fun r s1 h1 => ?_) fun _ _ h' => wpAny_standAt h'))
  cases r with
  | none => exact h1
  | some v =>
    refine seg_bind_wrap (wpAny_mono h1 (fun _ s2 h2 => ?_) fun x s' hx => hx)
    refine seg_bind_wrap (wpAny_mono h2 (fun _ s3 h3 => ?_) fun x s' hx => hx)
    rw [Sem.bind_eq_wrap', Sem.wrap_wrap]
    refine cast (congrArg (fun t => Seg (model prog w) A R Y n s₀ (.forLoop target it body [] env) t fs s3) ?_) h3
    exact Sem.wrap_congr (execs body env) id id (fun f => by cases f <;> rfl) (fun e => rfl)
theorem seg_For {c : Code} {K : Flow → Sem PySem.Fin} {J : Value → Sem PySem.Fin} {gd : Bool → Bool} {lv : List Value → List Value} {target iter : Expr} {body : List Stmt} {pos : Pos} (hs : ∀ x, foldedSetIterable iter env x = pure x)
    (h : wpAny (model prog w) (A.over c fs) (eval iter env) (fun x s1 => wpAny (model prog w) (A.over c fs) (pyIter x) (fun it s2 => ∀ p,
        Seg (model prog w) A R Y n s₀ (.forLoop target it body [] env) ((model prog w).den (.forLoop target it body [] env))
          (.ret (fun r => ((match r with | .ok f => (.pure f : Sem Flow) | .error e => .raise e).onRaise (cameBack env)).wrap K J gd lv) none (gd false) (lv []) c p [] :: fs) s2)
        (fun x s' => Seg (model prog w) A R Y n s₀ c (J x) fs s') s1) (fun x s' => Seg (model prog w) A R Y n s₀ c (J x) fs s') s) :
    Seg (model prog w) A R Y n s₀ c ((exec (.For target iter body [] pos) env).wrap K J gd lv) fs s := by
  rw [exec_For]
  refine seg_bind_wrap (wpAny_standAt ?_)
  refine seg_bind_wrap (wpAny_mono h (fun x s1 h1 => ?_) fun x s' hx => hx)
  refine seg_bind_wrap (wpAny_of_eq (hs x) ?_)
  refine seg_bind_wrap (wpAny_standAt ?_)
  refine seg_bind_wrap (wpAny_holding (wpAny_mono h1 (fun it s2 h2 => ?_) fun x s' hx => hx))
  exact seg_call h2
end
end SL
set_option Elab.async false
set_option linter.all false
set_option maxRecDepth 100000
set_option maxHeartbeats 2000000
namespace SL
open PySem PySem.Spec PyProof.Rows L2 GenW
/-! ### what a generator's body does: all that it hands out, then how it goes on -/
abbrev MGy := List W → M (List W × Fw)
theorem GS.weak {X : Cx} {st : Stmt} {t u : TGn} (h : GS X st t) (i : ∀ D ys σ H, u D ys σ H → t D ys σ H) : GS X st u := ⟨fun A S ip R n ys s₀ c fs K J gd lv s σ H D gc hn k hI hw => h.run A S ip R n ys s₀ c fs K J gd lv s σ H D gc hn k hI (i D ys σ H hw)⟩
theorem GSs.weak {X : Cx} {st : List Stmt} {t u : TGn} (h : GSs X st t) (i : ∀ D ys σ H, u D ys σ H → t D ys σ H) : GSs X st u := ⟨fun A S ip R n ys s₀ c fs K J gd lv s σ H D gc hn k hI hw => h.run A S ip R n ys s₀ c fs K J gd lv s σ H D gc hn k hI (i D ys σ H hw)⟩
def gPl (m : MSt) : MGy := fun ws r S => match m r S with
  | .ok f S' => .ok (ws, f) S'
  | .exc c es S' => .exc c es S'
  | .stuck => .stuck
def gNil : MGy := fun ws r S => .ok (ws, .nx r) S
def gSeq (a b : MGy) : MGy := fun ws r S => match a ws r S with
  | .ok (ws', .nx r') S' => b ws' r' S'
  | x => x
def gYd (m : M W) : MGy := fun ws r S => if ws.length < 16000000 then match m r S with
    | .ok w S' => .ok (ws ++ [w], .nx r) S'
    | .exc c es S' => .exc c es S'
    | .stuck => .stuck
  else .stuck
def gForL (T : Tg) (b : MGy) : List W → MGy
  | [], ws, r, S => .ok (ws, .nx r) S
  | x :: xs, ws, r, S => match T.run x r with
    | none => .stuck
    | some r1 => match b ws r1 S with
      | .ok (ws2, .nx r2) S2 => gForL T b xs ws2 r2 S2
      | .ok (ws2, .ct r2) S2 => gForL T b xs ws2 r2 S2
      | .ok (ws2, .bk r2) S2 => .ok (ws2, .nx r2) S2
      | .ok (ws2, .rt w) S2 => .ok (ws2, .rt w) S2
      | .exc c es S2 => .exc c es S2
      | .stuck => .stuck
def gFor (T : Tg) (mi : M (List W)) (b : MGy) : MGy := fun ws => do
  let xs ← mi
  gForL T b xs ws
/-! ### a generator def -/
abbrev GnM := List W → Sto → Res (List W)
def endG : Res (List W × Fw) → Res (List W)
  | .ok (ws, .nx _) S => .ok ws S
  | .ok (ws, .rt .non) S => .ok ws S
  | .ok _ _ => .stuck
  | .exc c es S => .exc c es S
  | .stuck => .stuck
def fnG (n k : Nat) (b : MGy) : GnM := fun ws S => if ws.length = k then endG (b [] (ws.map some ++ List.replicate (n - k) none) S) else .stuck
section
variable {P : Program} {w : World} {K : PySem.W.Frag} {mg : Str → Option Value} {base : Heap} {ca : Ca}
theorem Bd.gen {qual : Str} {scope : Scope} {f : Addr} {N : List Str} {cdv : Value} {A : Around} {outer : List Env} {s : Shared} {H : Hp} {E : XK} {pn : List (Addr × Obj)} {k : Nat} (hr : Room k (A.deeper (envOfC qual scope s.heap.objs.size f cdv))) :
    Bd (gcxOf P w K mg base N qual scope f cdv A outer s H E pn) E k := ⟨hr, passes_call takes_gcx fun _ _ _ _ h => h, rfl⟩
end
/-! ### list(g(a, ..)) -/
def mListG (g : GnM) (t : M (List W)) : M W := do
  let ws ← t
  fun _ S => match g ws S with
    | .ok ys S' => .ok (.lst ys) S'
    | _ => .stuck
end SL
set_option Elab.async false
set_option linter.all false
set_option maxRecDepth 100000
set_option maxHeartbeats 4000000
namespace SL
open PySem PySem.Spec PyProof.Rows L2 GenW
/-! ### a generator whose consumer works between two values
ch: the consumer's own objects (younger than the generator's call), that it may change -/
/-- what the consumer does between two values: the generator's own objects stay -/
structure Btw (X : Cx) (ch : List Addr) (ip : List (Addr × Obj)) (H' : Hp) (s s' : Shared) : Prop where
  os : s'.os = s.os
  bare : AllBare s'.gens
  un : Un X.fs X.ex X.H_0 H' X.s_0.heap s'.heap
  hok : HOk X.prog X.w H' s'.heap
  own : ∀ b ∈ ch, H' b = none ∧ ∃ o, s'.heap.get? b = some o ∧ ∀ v, o.data ≠ .cell v
  loc : s'.heap.get? X.env.locals = s.heap.get? X.env.locals ∧ H' X.env.locals = none
  pin : ∀ p ∈ X.pn ++ ip, s'.heap.get? p.1 = some p.2 ∧ H' p.1 = none
/-- running: the consumer's own objects stand as they were when it was woken (s₀) -/
def ZI (X : Cx) (ch : List Addr) (ip : List (Addr × Obj)) (σ : L2.St) (H : Hp) (s₀ s : Shared) : Prop :=
  ∃ cp : List (Addr × Obj), cp.map Prod.fst = ch ∧ (∀ p ∈ cp, s₀.heap.get? p.1 = some p.2) ∧ Inv X (cp ++ ip) σ H s
theorem Btw.inv {X : Cx} {ch : List Addr} {ip : List (Addr × Obj)} {σ : L2.St} {H H' : Hp} {s s' : Shared} (I : Inv X ip σ H s) (hce : X.env.cells = []) (z : Btw X ch ip H' s s') : Inv X ip σ H' s' := by
  have noc : ∀ {x : Str} {c : Addr}, X.env.cells.lookup x = some c → False := fun {x c} e => by rw [hce] at e; cases e
  refine ⟨I.ok, z.os.trans I.os, z.bare, z.un, ?_, fun x c e => (noc e).elim, z.loc.2, fun x c e => (noc e).elim, fun p hp => ⟨(z.pin p hp).1, (z.pin p hp).2, (I.pin p hp).2.2⟩, z.hok, I.len⟩
  obtain ⟨m, ⟨o, es, ep, ho, r⟩, hl⟩ := I.loc
  refine ⟨m, ⟨o, es, ep, z.loc.1.trans ho, r⟩, fun i x v e1 e2 e3 => ?_⟩
  obtain ⟨u, r, l⟩ := hl i x v e1 e2 e3
  refine ⟨u, r, ?_⟩
  rcases l with l | ⟨k, c, e, q⟩
  · exact .inl l
  · exact (noc e).elim
theorem pins_for {h : Heap} : ∀ {ch : List Addr}, (∀ b ∈ ch, ∃ o, h.get? b = some o ∧ ∀ v, o.data ≠ .cell v) → ∃ cp : List (Addr × Obj), cp.map Prod.fst = ch ∧ ∀ p ∈ cp, h.get? p.1 = some p.2 ∧ ∀ v, p.2.data ≠ .cell v
  | [], _ => ⟨[], rfl, fun p hp => by cases hp⟩
  | b :: ch, h => by
    obtain ⟨o, e, d⟩ := h b List.mem_cons_self
    obtain ⟨cp, e1, e2⟩ := pins_for (ch := ch) fun x hx => h x (List.mem_cons_of_mem _ hx)
    exact ⟨(b, o) :: cp, by rw [List.map_cons, e1], fun p hp => by
      rcases List.mem_cons.mp hp with rfl | hp
      · exact ⟨e, d⟩
      · exact e2 p hp⟩
/-- where the consumer's objects lie -/
structure Far (X : Cx) (ch : List Addr) (ip : List (Addr × Obj)) : Prop where
  ch : ∀ b ∈ ch, X.s_0.heap.objs.size ≤ b ∧ b ≠ X.env.locals ∧ ∀ p ∈ X.pn ++ ip, p.1 ≠ b
  old : ∀ p ∈ X.pn ++ ip, X.s_0.heap.objs.size ≤ p.1
  cells : X.env.cells = []
  noex : X.ex = []
/-- woken again -/
theorem ZI.woken {X : Cx} {ch : List Addr} {ip : List (Addr × Obj)} {σ : L2.St} {H H' : Hp} {s₀ s s' : Shared} (h : ZI X ch ip σ H s₀ s) (hf : Far X ch ip) (z : Btw X ch ip H' s s') : ZI X ch ip σ H' s' s' := by
  obtain ⟨cp, e, _, I⟩ := h
  have nf : ∀ b ∈ ch, b ∉ X.fs := fun b hb => by
    rw [← e] at hb
    obtain ⟨p, hp, rfl⟩ := List.mem_map.mp hb
    exact (I.pin p (List.mem_append_right _ (List.mem_append_left _ hp))).2.2.2.1
  have I0 : Inv X ip σ H s := I.pins_of fun p hp => I.pin p (List.mem_append_right _ (List.mem_append_right _ hp))
  have I1 := z.inv I0 hf.cells
  obtain ⟨cp', e1, e2⟩ := pins_for fun b hb => (z.own b hb).2
  refine ⟨cp', e1, fun p hp => (e2 p hp).1, I1.pins_of fun p hp => ?_⟩
  rcases List.mem_append.mp hp with hp | hp
  · have hb : p.1 ∈ ch := by rw [← e1]; exact List.mem_map_of_mem hp
    exact ⟨(e2 p hp).1, (z.own _ hb).1, (hf.ch _ hb).2.1, nf _ hb, (e2 p hp).2⟩
  · exact I1.pin p (List.mem_append_right _ hp)
/-- what is wanted behind a statement; what is told of the values as they come; what the consumer does to the heap between -/
structure Zd where
  go : List V → L2.St → Hp → Prop
  back : List V → VK
  brk : List V → L2.St → Hp → Prop := fun _ _ _ => False
  cnt : List V → L2.St → Hp → Prop := fun _ _ _ => False
  say : List V → Hp → Prop
  bet : Nat → Hp → Hp → Prop
abbrev TZ := Zd → List V → L2.St → Hp → Prop
def Zd.fr (D : Zd) (ys : List V) : Ends := { nx := D.go ys, rt := D.back ys, bk := D.brk ys, ct := D.cnt ys }
def ZP (X : Cx) (ch : List Addr) (ip : List (Addr × Obj)) (D : Zd) (ys : List V) (s₀ : Shared) : Flow → Shared → Prop
  | .next, s => ∃ σ H, ZI X ch ip σ H s₀ s ∧ D.go ys σ H
  | .brk, s => ∃ σ H, ZI X ch ip σ H s₀ s ∧ D.brk ys σ H
  | .cont, s => ∃ σ H, ZI X ch ip σ H s₀ s ∧ D.cnt ys σ H
  | .ret u, s => ∃ v σ H, ZI X ch ip σ H s₀ s ∧ RelV v u ∧ D.back ys v H
def ZY (X : Cx) (ch : List Addr) (say : List V → Hp → Prop) (bet : Nat → Hp → Hp → Prop) : Protocol := fun n s₀ v s kap =>
  ∃ ys x ip σ H, n + (ys.length + 1) = sizeLine ∧ RelV x v ∧ ZI X ch ip σ H s₀ s ∧ say (ys ++ [x]) H ∧ Far X ch ip ∧ ∀ s' H', Btw X ch ip H' s s' → bet ys.length H H' → kap (.send .none) s'
/-- where the generator's code stands -/
structure ZC (X : Cx) (ch : List Addr) (ip : List (Addr × Obj)) (A : Around) (c : Code) (fs : List Frame) (gd : Bool → Bool) : Prop where
  far : Far X ch ip
  over : A.over c fs = X.A
  spl : splitAtGen fs = none
  gua : fs.any Frame.guarded = false
  gdf : gd false = false
/-- what follows -/
structure ZK (X : Cx) (ch : List Addr) (ip : List (Addr × Obj)) (A : Around) (R : GenEnd) (c : Code) (fs : List Frame) (K : Flow → Sem PySem.Fin) (J : Value → Sem PySem.Fin) (D : Zd) : Prop where
  fine : ∀ {n : Nat} {ys : List V} {s₀ s : Shared} {f : Flow}, n + ys.length = sizeLine → ZP X ch ip D ys s₀ f s → Seg (model X.prog X.w) A R (ZY X ch D.say D.bet) n s₀ c (K f) fs s
  bad : ∀ {n : Nat} {s₀ s : Shared} {e : Value}, X.xe e s → Seg (model X.prog X.w) A R (ZY X ch D.say D.bet) n s₀ c (J e) fs s
def ZRun (X : Cx) (prog : Sem Flow) (t : TZ) : Prop :=
  ∀ {A : Around} {ch : List Addr} {ip : List (Addr × Obj)} {R : GenEnd} {n : Nat} {ys : List V} {s₀ s : Shared} {c : Code} {fs : List Frame} {K : Flow → Sem PySem.Fin} {J : Value → Sem PySem.Fin} {gd : Bool → Bool} {lv : List Value → List Value} {σ : L2.St} {H : Hp} {D : Zd},
    ZC X ch ip A c fs gd → n + ys.length = sizeLine → ZK X ch ip A R c fs K J D → ZI X ch ip σ H s₀ s → t D ys σ H → Seg (model X.prog X.w) A R (ZY X ch D.say D.bet) n s₀ c (prog.wrap K J gd lv) fs s
structure ZS (X : Cx) (st : Stmt) (t : TZ) : Prop where
  run : ZRun X (exec st X.env) t
structure ZSs (X : Cx) (st : List Stmt) (t : TZ) : Prop where
  run : ZRun X (execs st X.env) t
section
variable {X : Cx} {st : Stmt} {rest : List Stmt}
def zPlain (t : TS) : TZ := fun D ys σ H => t (D.fr ys) σ H
theorem zp_of {ch : List Addr} {cp ip : List (Addr × Obj)} {s₀ s : Shared} {D : Zd} {ys : List V} (e1 : cp.map Prod.fst = ch) (e2 : ∀ p ∈ cp, s₀.heap.get? p.1 = some p.2) : ∀ {f : Flow}, SP X (cp ++ ip) (D.fr ys) f s → ZP X ch ip D ys s₀ f s
  | .next, ⟨σ, H, I, q⟩ => ⟨σ, H, ⟨cp, e1, e2, I⟩, q⟩
  | .brk, ⟨σ, H, I, q⟩ => ⟨σ, H, ⟨cp, e1, e2, I⟩, q⟩
  | .cont, ⟨σ, H, I, q⟩ => ⟨σ, H, ⟨cp, e1, e2, I⟩, q⟩
  | .ret _, ⟨v, σ, H, I, r, q⟩ => ⟨v, σ, H, ⟨cp, e1, e2, I⟩, r, q⟩
theorem zs_plain {t : TS} (h : PS X st t) : ZS X st (zPlain t) := ⟨fun {A ch ip R n ys s₀ s c fs K J gd lv σ H D} p hn k I w => by
  obtain ⟨cp, e1, e2, I⟩ := I
  refine seg_wrap ?_
  rw [p.over]
  exact wpAny_mono (h.run (cp ++ ip) s σ H (D.fr ys) I w) (fun f s' q => k.fine hn (zp_of e1 e2 q)) fun e s' q => k.bad q⟩
def zNil : TZ := fun D ys σ H => D.go ys σ H
theorem zs_nil : ZSs X [] zNil := ⟨fun {A ch ip R n ys s₀ s c fs K J gd lv σ H D} p hn k I w => seg_execs_nil (k.fine (f := .next) hn ⟨σ, H, I, w⟩)⟩
def zThen (t u : TZ) : TZ := fun D ys σ H => t { D with go := u D } ys σ H
theorem zs_cons {t u : TZ} (a : ZS X st t) (b : ZSs X rest u) : ZSs X (st :: rest) (zThen t u) := ⟨fun {A ch ip R n ys s₀ s c fs K J gd lv σ H D} p hn k I w => by
  refine seg_execs_cons (a.run (D := { D with go := u D }) p hn ⟨fun {n' ys' s₀' s' f} hn' q => ?_, fun {n' s₀' s' e} q => k.bad q⟩ I w)
  cases f with
  | next =>
    obtain ⟨σ', H', I', q⟩ := q
    exact b.run (D := D) p hn' k I' q
  | brk => exact k.fine hn' (f := .brk) q
  | cont => exact k.fine hn' (f := .cont) q
  | ret u => exact k.fine hn' (f := .ret u) q⟩
/-! yield -/
def zYield (te : TE) : TZ := fun D ys σ H => ys.length < sizeLine ∧ te σ H fun x H1 => D.say (ys ++ [x]) H1 ∧ ∀ H2, D.bet ys.length H1 H2 → D.go (ys ++ [x]) σ H2
theorem zs_yield {e : Expr} {yp pos : Pos} {te : TE} (he : PE X e te) (hco : X.env.scope.isCoroutine = false := by rfl) (hi : interactive X.env = false := by rfl) : ZS X (.Expr (.Yield (some e) yp) pos) (zYield te) := ⟨fun {A ch ip R n ys s₀ s c fs K J gd lv σ H D} p hn k I w => by
  obtain ⟨hlt, w⟩ := w
  cases n with
  | zero => omega
  | succ n =>
    refine seg_Expr_Yield p.spl p.gdf p.gua ?_ hco hi
    rw [p.over]
    obtain ⟨cp, e1, e2, I⟩ := I
    refine wpAny_mono (he.run (cp ++ ip) s σ H _ I w) (fun v s' hv => ?_) fun x s' hx => k.bad hx
    obtain ⟨x, H1, I1, rv, hs, hg⟩ := hv
    have z1 : ZI X ch ip σ H1 s₀ s' := ⟨cp, e1, e2, I1⟩
    intro kap hk
    refine ⟨ys, x, ip, σ, H1, by omega, rv, z1, hs, p.far, fun s'' H2 z hb => hk .none s'' ?_⟩
    exact k.fine (f := .next) (by rw [List.length_append, List.length_singleton]; omega) ⟨σ, H2, z1.woken p.far z, hg H2 hb⟩⟩
end
end SL
set_option Elab.async false
set_option linter.all false
set_option maxRecDepth 100000
set_option maxHeartbeats 4000000
namespace SL
open PySem PySem.Spec PyProof.Rows L2 GenW
/-! ### for, within such a generator -/
theorem zc_loop {X : Cx} {ch : List Addr} {ip : List (Addr × Obj)} {A : Around} {c c' : Code} {fs : List Frame} {gd : Bool → Bool} {k : Result → Sem PySem.Fin} {l kp : List Value} {p : Pos} (h : ZC X ch ip A c fs gd) (hw : c'.weight = 0) (hu : c'.cUnits = 0) :
    ZC X ch ip A c' (.ret k none (gd false) l c p kp :: fs) id where
  far := h.far
  over := (over_loop hw hu).trans h.over
  spl := by
    show (splitAtGen fs).map _ = none
    rw [h.spl]
    rfl
  gua := by
    show (gd false || fs.any Frame.guarded) = false
    rw [h.gdf, h.gua]
    rfl
  gdf := rfl
section
variable {X : Cx} {ch : List Addr} {ip : List (Addr × Obj)} {A : Around} {R : GenEnd} {c : Code} {fs : List Frame} {K : Flow → Sem PySem.Fin} {J : Value → Sem PySem.Fin} {gd : Bool → Bool} {lv : List Value → List Value} {D : Zd} {n : Nat} {s₀ s : Shared} {e : Value}
theorem zseg_back (h : ZC X ch ip A c fs gd) (k : ZK X ch ip A R c fs K J D) (q : cameBackBy (model X.prog X.w) X.A X.env X.xe e s) :
    Seg (model X.prog X.w) A R (ZY X ch D.say D.bet) n s₀ c (((Sem.raise e : Sem Flow).onRaise (cameBack X.env)).wrap K J gd lv) fs s := by
  show Seg _ _ _ _ _ _ _ (((cameBack X.env e).bind fun _ => (Sem.raise e : Sem Flow)).wrap K J gd lv) _ _
  rw [Sem.bind_eq_wrap, Sem.wrap_wrap]
  refine seg_wrap ?_
  rw [h.over]
  exact wpAny_mono q (fun _ s' hx => k.bad hx) fun x s' hx => k.bad hx
end
section
variable {X : Cx}
def zFor (wi : TI) (g : TG) (tb : TZ) : TZ := fun D ys σ H => wi σ H fun J H1 => ∃ W : Nat → Nat → List V → L2.St → Hp → Prop, (∃ m, W 0 m ys σ H1) ∧ ∀ i m ys σ H, W i m ys σ H →
  (J.stop i H ∧ D.go ys σ H) ∨ (J.go i H ∧ ∃ N : List V → L2.St → Hp → Prop, (∀ ys' σ' H', N ys' σ' H' → ∃ m', m' < m ∧ W (i + 1) m' ys' σ' H') ∧ ∀ x H', J.yld i H x H' → g x σ H' fun σ2 H2 => tb { D with go := N, cnt := N, brk := D.go } ys σ2 H2)
theorem zs_for {tg iter : Expr} {body : List Stmt} {wi : TI} {g : TG} {tb : TZ} {pos : Pos} (hp : PassesOwn (model X.prog X.w) X.A X.env X.xe) (hc : X.calm = true) (hi : PI X tg iter wi) (hg : PG X tg g) (hb : ZSs X body tb)
    (hs : ∀ x, foldedSetIterable iter X.env x = pure x := by intro _; rfl) : ZS X (.For tg iter body [] pos) (zFor wi g tb) := by
  refine ⟨fun {A ch ip R n ys s₀ s c fs K J gd lv σ H D} gc hn k I ht => ?_⟩
  obtain ⟨cp, ce1, ce2, I⟩ := I
  refine seg_For hs ?_
  rw [gc.over]
  refine wpAny_mono (hi.run _ s σ H _ I ht) (fun v s1 h1 => wpAny_mono h1 (fun itv s2 h2 => ?_) fun x s' hx => k.bad hx) fun x s' hx => k.bad hx
  obtain ⟨it, fp, tn, Jt, H2, e, I2, T, st2, f2, W, ⟨m0, w0⟩, turn⟩ := h2
  subst e
  intro p
  have hfar : ∀ b ∈ fp, b ∉ ch := fun b hb hc => by
    rw [← ce1] at hc
    obtain ⟨q, hq, e⟩ := List.mem_map.mp hc
    exact (f2 b hb).2.2.2.2.2 q (List.mem_append_right _ (List.mem_append_left _ hq)) e
  have stat : ∀ {H' : Hp} {cp' : List (Addr × Obj)}, cp'.map Prod.fst = ch → (∀ b ∈ fp, H' b = none) → ∀ b ∈ fp, FpOk X (cp' ++ ip) H' b := fun {H' cp'} e hn b hb => by
    obtain ⟨_, a1, a2, a3, a4, a5⟩ := f2 b hb
    refine ⟨hn b hb, a1, a2, a3, a4, fun p hp => ?_⟩
    rcases List.mem_append.mp hp with hp | hp
    · exact a5 p (List.mem_append_left _ hp)
    · rcases List.mem_append.mp hp with hp | hp
      · exact fun e2 => hfar b hb (by rw [← e2, ← e]; exact List.mem_map_of_mem hp)
      · exact a5 p (List.mem_append_right _ (List.mem_append_right _ hp))
  have gl := fun (kk : Result → Sem PySem.Fin) => zc_loop (k := kk) (c' := .forLoop tg (.ref it) body [] X.env) (l := lv []) (kp := []) (p := p) gc rfl rfl
  have ee : ∀ {n : Nat} {s₀ : Shared} {x : Value} {s' : Shared}, X.xe x s' → Seg (model X.prog X.w) A R (ZY X ch D.say D.bet) n s₀ (.forLoop tg (.ref it) body [] X.env) (outOf X.env x)
      (.ret (fun r => ((match r with | .ok f => (.pure f : Sem Flow) | .error e => .raise e).onRaise (cameBack X.env)).wrap K J gd lv) none (gd false) (lv []) c p [] :: fs) s' := fun {n s₀ x s'} hx => by
    unfold outOf
    rw [Sem.bind_eq_wrap]
    refine seg_wrap ?_
    rw [(gl _).over]
    refine wpAny_bind (wpAny_mono (hp x s' hx) (fun _ s'' hcb => wpAny_theTreesLotGoes ?_) fun y s'' hcb => ?_)
    · exact seg_leaf (.error x) (zseg_back gc k hcb)
    · exact seg_leaf (.error y) (zseg_back gc k hcb)
  have loop : ∀ (m i n : Nat) (ys : List V) (s₀ s : Shared) (σ : L2.St) (H : Hp), n + ys.length = sizeLine → W i m ys σ H → ZI X ch ip σ H s₀ s → tn i s.heap → (∀ b ∈ fp, H b = none) →
      Seg (model X.prog X.w) A R (ZY X ch D.say D.bet) n s₀ (.forLoop tg (.ref it) body [] X.env) ((model X.prog X.w).den (.forLoop tg (.ref it) body [] X.env))
        (.ret (fun r => ((match r with | .ok f => (.pure f : Sem Flow) | .error e => .raise e).onRaise (cameBack X.env)).wrap K J gd lv) none (gd false) (lv []) c p [] :: fs) s := by
    intro m
    induction m using Nat.strongRecOn with
    | ind m ih =>
      intro i n ys s₀ s3 σ3 H3 hn w3 Z3 st3 fr3
      obtain ⟨cp3, c1, c2, I3⟩ := Z3
      refine seg_forLoop ?_
      rw [(gl _).over]
      rcases turn i m ys σ3 H3 w3 with ⟨stop, qn⟩ | ⟨go, N, hN, step⟩
      · refine wpAny_mono (T.done X rfl rfl rfl hc i _ s3 σ3 H3 X.xe I3 (stat c1 fr3) st3 stop) (fun r s4 ⟨hr, I4⟩ => ?_) fun x s' hx => ee hx
        subst hr
        refine seg_again rfl ?_
        exact seg_leaf (.ok .next) (k.fine (f := .next) hn ⟨σ3, H3, ⟨cp3, c1, c2, I4⟩, qn⟩)
      · refine wpAny_mono (T.item X rfl rfl rfl hc i _ s3 σ3 H3 X.xe I3 (stat c1 fr3) st3 go) (fun r s4 ⟨u, hr, h4⟩ => ?_) fun x s' hx => ee hx
        subst hr
        refine wpAny_mono h4 (fun _ s5 ⟨x, H5, I5, r5, y5, st5, fr5⟩ => ?_) fun x s' hx => ee hx
        have I5' := I5.pinned (stat c1 fr5) (T.obj _ _ st5)
        refine wpAny_mono (hg.run _ s5 σ3 H5 x u _ I5' r5 (step x H5 y5)) (fun _ s6 ⟨σ6, H6, I6, q6⟩ => ?_) fun x s' hx => ee hx
        have gl' : ZC X ch (ip ++ pinsAt fp s5.heap) A (.forLoop tg (.ref it) body [] X.env) (.ret (fun r => ((match r with | .ok f => (.pure f : Sem Flow) | .error e => .raise e).onRaise (cameBack X.env)).wrap K J gd lv) none (gd false) (lv []) c p [] :: fs) id := by
          obtain ⟨z1, z2, z3, z4, z5⟩ := gl (fun r => ((match r with | .ok f => (.pure f : Sem Flow) | .error e => .raise e).onRaise (cameBack X.env)).wrap K J gd lv)
          refine ⟨⟨fun b hb => ?_, fun q hq => ?_, z1.cells, z1.noex⟩, z2, z3, z4, z5⟩
          · obtain ⟨a1, a2, a4⟩ := z1.ch b hb
            refine ⟨a1, a2, fun q hq => ?_⟩
            rw [← List.append_assoc] at hq
            rcases List.mem_append.mp hq with hq | hq
            · exact a4 q hq
            · exact fun e => hfar _ (of_pinsAt hq).1 (by rw [e]; exact hb)
          · rw [← List.append_assoc] at hq
            rcases List.mem_append.mp hq with hq | hq
            · exact z1.old q hq
            · rcases (f2 _ (of_pinsAt hq).1).2.2.2.1 with z | z
              · rw [z1.noex] at z
                cases z
              · exact z
        have again : ∀ {n' : Nat} {ys' : List V} {s₀' s7 : Shared} {σ7 : L2.St} {H7 : Hp}, n' + ys'.length = sizeLine → ZI X ch (ip ++ pinsAt fp s5.heap) σ7 H7 s₀' s7 → N ys' σ7 H7 →
            Seg (model X.prog X.w) A R (ZY X ch D.say D.bet) n' s₀' (.forLoop tg (.ref it) body [] X.env) (.pure (.again (.forLoop tg (.ref it) body [] X.env)))
              (.ret (fun r => ((match r with | .ok f => (.pure f : Sem Flow) | .error e => .raise e).onRaise (cameBack X.env)).wrap K J gd lv) none (gd false) (lv []) c p [] :: fs) s7 := fun {n' ys' s₀' s7 σ7 H7} hn' ⟨cp7, d1, d2, I7⟩ n7 => by
          obtain ⟨m', hm, w7⟩ := hN ys' σ7 H7 n7
          have pin7 : ∀ {b : Addr} {o : Obj}, b ∈ fp → s5.heap.get? b = some o → s7.heap.get? b = some o ∧ H7 b = none := fun {b o} hb e => by
            have := I7.pin (b, o) (List.mem_append_right _ (List.mem_append_right _ (List.mem_append_right _ (mem_pinsAt hb e))))
            exact ⟨this.1, this.2.1⟩
          rw [← List.append_assoc] at I7
          refine seg_again rfl (ih m' hm (i + 1) n' ys' s₀' s7 σ7 H7 hn' w7 ⟨cp7, d1, d2, I7.unpinned⟩ ?_ ?_)
          · exact T.keep _ _ _ st5 fun b hb o e => (pin7 hb e).1
          · intro b hb
            obtain ⟨o, e, d⟩ := T.obj _ _ st5 b hb
            exact (pin7 hb e).2
        have drop : ∀ {s₀' s7 : Shared} {σ7 : L2.St} {H7 : Hp}, ZI X ch (ip ++ pinsAt fp s5.heap) σ7 H7 s₀' s7 → ZI X ch ip σ7 H7 s₀' s7 := fun {s₀' s7 σ7 H7} ⟨cp7, d1, d2, I7⟩ => by
          rw [← List.append_assoc] at I7
          exact ⟨cp7, d1, d2, I7.unpinned⟩
        rw [List.append_assoc] at I6
        refine hb.run (D := { D with go := N, cnt := N, brk := D.go }) gl' hn ⟨fun {n' ys' s₀' s7 f} hn' hs => ?_, fun {n' s₀' x s'} hx => ee hx⟩ ⟨cp3, c1, c2, I6⟩ q6
        cases f with
        | next =>
          obtain ⟨σ7, H7, I7, n7⟩ := hs
          exact again hn' I7 n7
        | cont =>
          obtain ⟨σ7, H7, I7, n7⟩ := hs
          exact again hn' I7 n7
        | brk =>
          obtain ⟨σ7, H7, I7, q7⟩ := hs
          exact seg_leaf (.ok .next) (k.fine (f := .next) hn' ⟨σ7, H7, drop I7, q7⟩)
        | ret v =>
          obtain ⟨x7, σ7, H7, I7, r7, q7⟩ := hs
          exact seg_leaf (.ok (.ret v)) (k.fine (f := .ret v) hn' ⟨x7, σ7, H7, drop I7, r7, q7⟩)
  exact loop m0 0 n ys s₀ s2 σ H2 hn w0 ⟨cp, ce1, ce2, I2⟩ st2 fun b hb => (f2 b hb).1
end
end SL
set_option Elab.async false
set_option linter.all false
set_option maxRecDepth 100000
set_option maxHeartbeats 4000000
namespace SL
open PySem PySem.Spec PyProof.Rows L2 GenW
/-! ### a call of a generator def: what the consumer may rely on -/
abbrev noXZ : XK := fun _ _ _ => False
/-- between two wakes the consumer's own objects stay as they were when it woke the generator (s₀) -/
def Kept0 (ch : List Addr) (H : Hp) (s₀ s : Shared) : Prop := ∀ b ∈ ch, H b = none ∧ s.heap.get? b = s₀.heap.get? b
/-- the heap since the call (sc, H0) -/
structure Since (P : Program) (w : World) (outer : List Env) (H0 : Hp) (sc : Shared) (a : Addr) (g : Nat) (H : Hp) (s : Shared) : Prop where
  os : s.os = sc.os
  bare : AllBare s.gens
  lim : s.heap.NoLimit
  gen : s.heap.IsGen a g
  gfree : H a = none
  un : Un (frs outer) [] H0 H sc.heap s.heap
  hok : HOk P w H s.heap
/-- the generator's own objects -/
def Own0 (sc : Shared) (ch : List Addr) (kp : List (Addr × Obj)) (H : Hp) (s : Shared) : Prop := ∀ p ∈ kp, s.heap.get? p.1 = some p.2 ∧ H p.1 = none ∧ sc.heap.objs.size ≤ p.1 ∧ p.1 ∉ ch ∧ ∀ v, p.2.data ≠ .cell v
/-- what the consumer has done -/
structure BtwZ (P : Program) (w : World) (outer : List Env) (H0 : Hp) (sc : Shared) (ch : List Addr) (kp : List (Addr × Obj)) (H' : Hp) (s' : Shared) : Prop where
  os : s'.os = sc.os
  bare : AllBare s'.gens
  un : Un (frs outer) [] H0 H' sc.heap s'.heap
  hok : HOk P w H' s'.heap
  own : ∀ b ∈ ch, H' b = none ∧ ∃ o, s'.heap.get? b = some o ∧ ∀ v, o.data ≠ .cell v
  pin : ∀ p ∈ kp, s'.heap.get? p.1 = some p.2 ∧ H' p.1 = none
def ZItem (P : Program) (w : World) (outer : List Env) (H0 : Hp) (sc : Shared) (a : Addr) (g : Nat) (ch : List Addr) (say : List V → Hp → Prop) (bet : Nat → Hp → Hp → Prop) : Protocol := fun n s₀ v s kap =>
  ∃ ys x H kp, n + (ys.length + 1) = sizeLine ∧ RelV x v ∧ say (ys ++ [x]) H ∧ Since P w outer H0 sc a g H s ∧ Kept0 ch H s₀ s ∧ Own0 sc ch kp H s ∧ ∀ s' H', BtwZ P w outer H0 sc ch kp H' s' → bet ys.length H H' → kap (.send .none) s'
def ZFin (P : Program) (w : World) (outer : List Env) (H0 : Hp) (sc : Shared) (a : Addr) (g : Nat) (ch : List Addr) (Q : List V → Hp → Prop) (n : Nat) (s₀ s : Shared) : Prop :=
  ∃ ys H, n + ys.length = sizeLine ∧ Since P w outer H0 sc a g H s ∧ Kept0 ch H s₀ s ∧ Q ys H
def ZEnd (P : Program) (w : World) (outer : List Env) (H0 : Hp) (sc : Shared) (a : Addr) (g : Nat) (ch : List Addr) (Q : List V → Hp → Prop) : GenEnd := fun n s₀ r s =>
  ((r = .ok (.ret .none) ∨ r = .ok .next) ∧ ZFin P w outer H0 sc a g ch Q n s₀ s) ∨ ∃ e, r = .error e ∧ (fun (_ : Value) (_ : Shared) => False) e s
/-- what is asked at the first wake: the heap there, what is wanted of all values, what is told, what the consumer leaves -/
abbrev SpZ := List V → Hp → (List V → Hp → Prop) → (List V → Hp → Prop) → (Nat → Hp → Hp → Prop) → Prop
/-- a generator that has not begun -/
def ZMade (P : Program) (w : World) (k : Nat) (outer : List Env) (H0 : Hp) (sc : Shared) (sp : Hp → (List V → Hp → Prop) → (List V → Hp → Prop) → (Nat → Hp → Hp → Prop) → Prop) (u : Value) (s' : Shared) : Prop :=
  ∃ (a : Addr) (g : Nat) (c : Code), u = .ref a ∧ sc.heap.objs.size ≤ a ∧ a < s'.heap.objs.size ∧ s'.heap.IsGen a g ∧ s'.gens[g]? = some (.fresh c) ∧ s'.os = sc.os ∧ AllBare s'.gens ∧ s'.heap.NoLimit ∧ (∀ b o, sc.heap.get? b = some o → s'.heap.get? b = some o) ∧
    ∀ (A : Around) (ch : List Addr) (s2 : Shared) (H2 : Hp) (Q say : List V → Hp → Prop) (bet : Nat → Hp → Hp → Prop), Room k A → A.frames = some outer → (∀ b ∈ ch, s'.heap.objs.size ≤ b ∧ H2 b = none ∧ ∃ o, s2.heap.get? b = some o ∧ ∀ v, o.data ≠ .cell v) → (∀ b o, s'.heap.get? b = some o → s2.heap.get? b = some o) → s2.os = sc.os → AllBare s2.gens →
      Un (frs outer) [] H0 H2 sc.heap s2.heap → HOk P w H2 s2.heap → (∀ b, sc.heap.objs.size ≤ b → b < s'.heap.objs.size → H2 b = none) → sp H2 Q say bet →
      Seg (model P w) A (ZEnd P w outer H0 sc a g ch Q) (ZItem P w outer H0 sc a g ch say bet) sizeLine s2 c ((model P w).den c) [] s2
/-- a generator def's promise to such a consumer -/
structure ZFn (P : Program) (w : World) (K : PySem.W.Frag) (mg : Str → Option Value) (base : Heap) (k : Nat) (f : Addr) (fd : FuncData) (ps : List Str) (sp : SpZ) : Prop where
  run : ∀ (A : Around) (outer : List Env) (s : Shared) (H : Hp) (args : Args) (us : List Value) (vs : List V), Room k A → Env0 P w K mg base A outer s H → BindsTo s fd args (ps.zip us) → Vals vs us → vs.length = ps.length →
    codeAny (model P w) A (.call (.ref f) args) (fun r s' => ∃ u, r = .ok (.ret u) ∧ ZMade P w k outer H s (sp vs) u s') s
theorem zfn_of {P : Program} {w : World} {K : PySem.W.Frag} {mg : Str → Option Value} {base : Heap} {k : Nat} {f : Addr} {name qual : Str} {params : Arguments} {body : List Stmt} {scope : Scope} {dV kV doc pm cdv ct oc : Value} {an od : Option Addr}
    {osl : Array (Option Value)} {N ps : List Str} {sp : SpZ} (lk : K.lookup f = some ⟨oc, od, .func (PySem.W.fnOf name qual params body scope dV kV doc pm an cdv ct), osl⟩) (hcd : PySem.W.codeIn K cdv qual = true) (S : GScope N ps scope) (hce : ∀ n, cellsFrom n scope.names [] = [])
    (hbody : ∀ (A : Around) (outer : List Env) (s : Shared) (H : Hp) (vs : List V) (H2 : Hp) (Q say : List V → Hp → Prop) (bet : Nat → Hp → Hp → Prop) (pn : List (Addr × Obj)), Room k (A.deeper (envOfC qual scope s.heap.objs.size f cdv)) → sp vs H2 Q say bet →
      ∃ t, ZSs (gcxOf P w K mg base N qual scope f cdv A outer s H noXZ pn) body t ∧ t { go := fun ys _ H' => Q ys H', back := fun ys v H' => v = .non ∧ Q ys H', say := say, bet := bet } [] (start N vs) H2) :
    ZFn P w K mg base (k + 1) f (PySem.W.fnOf name qual params body scope dV kV doc pm an cdv ct) ps sp := by
  refine ⟨fun A outer s H args us vs hr e0 hb r hl => ?_⟩
  have KX : K.In s.heap := e0.mod.kin.keeps fun b o e => (e0.bs b o e).1
  have lim : s.heap.NoLimit := e0.mod.nolimit.keeps fun b o e => (e0.bs b o e).1
  have hkind : ∀ y ∈ ps.zip us, scope.names.lookup y.1 = some .local ∨ (scope.names.lookup y.1 = some .cell ∧ ((cellsFrom (s.heap.objs.size + 1) scope.names []).lookup y.1).isSome = true) := fun ⟨n, v⟩ hy => by
    rcases S.par n (List.of_mem_zip hy).1 with q | q
    · exact .inl q
    · exact .inr ⟨q, PySem.W.cellsFrom_some _ _ _ (.inl q)⟩
  refine codeAny_call_generator hr.depth (KX _ _ lk) rfl S.co S.gen rfl (PySem.W.codeRec_of KX hcd) (hb _ _ _ _ ?_)
  refine wpAny_newFunctionEnv_cells S.kind hkind fun env he s1 x => ?_
  subst he
  have lim1 : s1.heap.NoLimit := lim.keeps x.toInCall.keep
  refine ⟨lim1, ?_⟩
  obtain ⟨h1, tk, es1, hk1⟩ := x.done
  have os1 : s1.os = s.os := by rw [es1]
  have gen1 : s1.gens = s.gens := by rw [es1]
  have lt1 : s.heap.objs.size < s1.heap.objs.size := x.toInCall.ns.lt
  have sz1 : s.heap.objs.size ≤ s1.heap.objs.size := Nat.le_of_lt lt1
  have kp1 : ∀ b o, s.heap.get? b = some o → s1.heap.get? b = some o := x.toInCall.keep
  obtain ⟨L, hL⟩ : ∃ L, L = s1.heap.objs.size := ⟨_, rfl⟩
  have main : ∀ (go : Obj) (nm qn : Value) (tk2 : Nat), go.cls = .type "generator" → go.data = .fields #[.int s1.gens.size 0, nm, qn] → go.slots = #[] → (∀ h : Heap, (h.push go).get? h.objs.size = some go) →
      ZMade P w (k + 1) outer H s (sp vs) (.ref L) { s1 with gens := s1.gens.push (.fresh (.func body (envOfC qual scope s.heap.objs.size f cdv))), toks := tk2, heap := s1.heap.push go } := by
    intro go nm qn tk2 hgc hgd0 hgs hgp
    have hgen : ∀ h : Heap, h.get? L = some go → h.IsGen L s1.gens.size := fun h e => ⟨go, nm, qn, e, hgc, hgd0, hgs⟩
    have hpushed : (s1.heap.push go).get? L = some go := by rw [hL]; exact hgp _
    refine ⟨L, s1.gens.size, _, rfl, by omega, ?_, hgen _ hpushed, Array.getElem?_push_size .., os1, ?_, lim1.keeps fun b o e => Heap.get?_push_of_some _ e, fun b o e => Heap.get?_push_of_some _ (kp1 b o e), ?_⟩
    · show _ < (s1.heap.push _).objs.size
      rw [Heap.size_push, hL]
      exact Nat.lt_succ_self _
    · exact AllBare.push (by rw [gen1]; exact e0.bare) rfl
    intro Aw ch s2 H2 Q say bet hrw hfr hch hk2 hos hba hun2 hok2 hyo hsp
    have e0w : Env0 P w K mg base Aw outer s H := ⟨hfr, e0.mod, e0.bs, e0.bsz, e0.funs, e0.frf, e0.hok, e0.bare⟩
    obtain ⟨t, ht, hq⟩ := hbody Aw outer s H vs H2 Q say bet [(L, go)] (hrw.deeper _) hsp
    have I1 : Inv (gcxOf P w K mg base N qual scope f cdv Aw outer s H noXZ []) [] (start N vs) H s1 := inv_startG S hrw.hd e0w hl r x
    have kp2 : ∀ b o, s1.heap.get? b = some o → s2.heap.get? b = some o := fun b o e => hk2 b o (Heap.get?_push_of_some _ e)
    have szl : (s1.heap.push go).objs.size = s1.heap.objs.size + 1 := Heap.size_push _ _
    have I2 : Inv (gcxOf P w K mg base N qual scope f cdv Aw outer s H noXZ []) [] (start N vs) H2 s2 := by
      refine Btw.inv (ch := []) I1 (hce _) ⟨hos.trans os1.symm, hba, hun2, hok2, (fun b hb => (by cases hb)), ⟨?_, hyo _ (Nat.le_refl _) ?_⟩, (fun p hp => (by cases hp))⟩
      · obtain ⟨m, ⟨o, es, ep, ho, _⟩, _⟩ := I1.loc
        exact (kp2 _ o ho).trans ho.symm
      · show s.heap.objs.size < (s1.heap.push go).objs.size
        rw [szl]
        omega
    have hgd : ∀ v, go.data ≠ .cell v := fun v q => by rw [hgd0] at q; cases q
    have young : ∀ b, s1.heap.objs.size ≤ b → H b = none ∧ b ≠ s.heap.objs.size ∧ b ∉ frs outer ∧ s.heap.objs.size ≤ b ∧ ∀ y c, (cellsFrom (s.heap.objs.size + 1) scope.names []).lookup y = some c → c ≠ b := fun b hb => by
      refine ⟨I1.hok.fresh hb, by omega, I1.nofs hb, by omega, fun y c e z => ?_⟩
      obtain ⟨v, ob, ho, _⟩ := I1.cell y c e
      exact Nat.not_le_of_lt (z ▸ Heap.lt_size ho) hb
    have hch2 : ∀ b ∈ ch, s1.heap.objs.size ≤ b ∧ b ≠ L := fun b hb => by
      have h1 : (s1.heap.push go).objs.size ≤ b := (hch b hb).1
      rw [Heap.size_push] at h1
      exact ⟨Nat.le_of_succ_le h1, fun e => by
        rw [e, hL] at h1
        exact Nat.not_succ_le_self _ h1⟩
    obtain ⟨cp, c1, c2⟩ := pins_for fun b hb => (hch b hb).2.2
    have cpm : ∀ p ∈ cp, p.1 ∈ ch := fun p hp => by rw [← c1]; exact List.mem_map_of_mem hp
    have hG : ZI (gcxOf P w K mg base N qual scope f cdv Aw outer s H noXZ [(L, go)]) ch [] (start N vs) H2 s2 s2 := by
      refine ⟨cp, c1, fun p hp => (c2 p hp).1, ?_⟩
      rw [List.append_nil]
      refine Inv.pinnedG I2 fun p hp => ?_
      rcases List.mem_append.mp hp with z | z
      · rw [List.mem_singleton.mp z]
        obtain ⟨_, y2, y3, _, _⟩ := young L (by omega)
        refine ⟨hk2 L go hpushed, hyo _ (by show s.heap.objs.size ≤ L; omega) ?_, y2, y3, hgd⟩
        show L < (s1.heap.push go).objs.size
        rw [szl]
        omega
      · obtain ⟨_, y2, y3, _, _⟩ := young p.1 (hch2 _ (cpm p z)).1
        exact ⟨(c2 p z).1, (hch _ (cpm p z)).2.1, y2, y3, (c2 p z).2⟩
    have hC : ZC (gcxOf P w K mg base N qual scope f cdv Aw outer s H noXZ [(L, go)]) ch [] Aw (.func body (envOfC qual scope s.heap.objs.size f cdv)) [] id := by
      refine ⟨⟨fun b hb => ?_, fun p hp => ?_, hce _, rfl⟩, over_func, rfl, rfl, rfl⟩
      · obtain ⟨_, y2, _, y4, y5⟩ := young b (hch2 b hb).1
        refine ⟨y4, y2, fun p hp => ?_⟩
        have hp : p ∈ [(L, go)] ++ ([] : List (Addr × Obj)) := hp
        rw [List.append_nil] at hp
        rw [List.mem_singleton.mp hp]
        exact Ne.symm (hch2 b hb).2
      · have hp : p ∈ [(L, go)] ++ ([] : List (Addr × Obj)) := hp
        rw [List.append_nil] at hp
        rw [List.mem_singleton.mp hp]
        show s.heap.objs.size ≤ L
        omega
    have told : ∀ {ip : List (Addr × Obj)} {s₀ s' : Shared} {σ' : L2.St} {H' : Hp}, ZI (gcxOf P w K mg base N qual scope f cdv Aw outer s H noXZ [(L, go)]) ch ip σ' H' s₀ s' → Since P w outer H s L s1.gens.size H' s' ∧ Kept0 ch H' s₀ s' := fun {ip s₀ s' σ' H'} hI => by
      obtain ⟨cp', d1, d2, J⟩ := hI
      refine ⟨⟨J.os, J.bare, J.nolimit, hgen _ (J.pin (L, go) (List.mem_append_left _ (List.mem_singleton.mpr rfl))).1, (J.pin (L, go) (List.mem_append_left _ (List.mem_singleton.mpr rfl))).2.1, J.base, J.hok⟩, fun b hb => ?_⟩
      rw [← d1] at hb
      obtain ⟨p, hp, rfl⟩ := List.mem_map.mp hb
      have := J.pin p (List.mem_append_right _ (List.mem_append_left _ hp))
      exact ⟨this.2.1, by rw [this.1, d2 p hp]⟩
    refine seg_func ?_
    refine seg_imp (R := fun n s₀ r s' => (∃ u, r = .ok (.ret u)) ∧ ∃ ys ip σ' H', n + ys.length = sizeLine ∧ ZI (gcxOf P w K mg base N qual scope f cdv Aw outer s H noXZ [(L, go)]) ch ip σ' H' s₀ s' ∧ r = .ok (.ret .none) ∧ Q ys H')
      (Y := ZY (gcxOf P w K mg base N qual scope f cdv Aw outer s H noXZ [(L, go)]) ch say bet) (fun n s₀ r s1' hR => ?_) (fun n s₀ v s1' kap kap' hkk hY => ?_) sizeLine ?_
    · obtain ⟨_, ys, ip, σ', H', hn, hI, hr, hQ⟩ := hR
      obtain ⟨t1, t2⟩ := told hI
      exact .inl ⟨.inl hr, ys, H', hn, t1, t2, hQ⟩
    · obtain ⟨ys, xx, ip, σ', H', hn, h2, hI, hs, hf, h3⟩ := hY
      obtain ⟨t1, t2⟩ := told hI
      obtain ⟨cp', d1, d2, J⟩ := hI
      obtain ⟨m, ⟨oL, es, ep, hoL, hdL, r⟩, hl⟩ := J.loc
      refine ⟨ys, xx, H', (s.heap.objs.size, oL) :: ([(L, go)] ++ ip), hn, h2, hs, t1, t2, fun p hp => ?_, fun s' H2 z y => hkk _ _ (h3 s' H2 ?_ y)⟩
      · rcases List.mem_cons.mp hp with rfl | hp
        · refine ⟨hoL, J.free, Nat.le_refl _, fun hc => (hf.ch _ hc).2.1 rfl, fun v q => ?_⟩
          have hdL : oL.data = _ := hdL
          rw [hdL] at q
          cases q
        · have q := J.pin p (by
            rcases List.mem_append.mp hp with z | z
            · exact List.mem_append_left _ z
            · exact List.mem_append_right _ (List.mem_append_right _ z))
          exact ⟨q.1, q.2.1, hf.old p hp, fun hc => (hf.ch _ hc).2.2 p hp rfl, q.2.2.2.2⟩
      · have zl := z.pin (s.heap.objs.size, oL) List.mem_cons_self
        exact ⟨z.os.trans t1.os.symm, z.bare, z.un, z.hok, z.own, ⟨zl.1.trans hoL.symm, zl.2⟩, fun p hp => z.pin p (List.mem_cons_of_mem _ hp)⟩
    · refine ht.run (D := { go := fun ys _ H' => Q ys H', back := fun ys v H' => v = .non ∧ Q ys H', say := say, bet := bet }) hC (Nat.add_zero _) ⟨fun {n ys s₀ s' fl} hn hs => ?_, fun {n s₀ s' e} hx => ?_⟩ hG hq
      · cases fl with
        | next =>
          obtain ⟨σ', H', hI, hQ⟩ := hs
          exact seg_end (.ok (.ret .none)) ⟨⟨_, rfl⟩, ys, [], σ', H', hn, hI, rfl, hQ⟩
        | brk =>
          obtain ⟨_, _, _, q⟩ := hs
          exact False.elim q
        | cont =>
          obtain ⟨_, _, _, q⟩ := hs
          exact False.elim q
        | ret u =>
          obtain ⟨v, σ', H', hI, rv, ev, hQ⟩ := hs
          subst ev
          have eu : u = Value.none := rv
          subst eu
          exact seg_end (.ok (.ret .none)) ⟨⟨_, rfl⟩, ys, [], σ', H', hn, hI, rfl, hQ⟩
      · refine seg_wrap ?_
        rw [over_func]
        refine wpAny_mono (show wpAny (model P w) (Aw.deeper (envOfC qual scope s.heap.objs.size f cdv)) (leaving (envOfC qual scope s.heap.objs.size f cdv) e) (fun _ s'' => CX P w outer H s noXZ e s'' ∧ ∀ p ∈ [(L, go)], s''.heap.get? p.1 = some p.2) (fun _ _ => False) s' from hx) (fun _ s'' q => ?_) fun _ s'' q => q.elim
        obtain ⟨a, B, H', cls, d, _, _, _, _, _, _, _, z⟩ := q.1
        exact z.elim
  refine ⟨_, rfl, ?_⟩
  subst hL
  exact main _ _ _ _ rfl rfl rfl fun h => Heap.get?_push_size _ rfl
end SL
set_option Elab.async false
set_option linter.all false
set_option maxRecDepth 100000
set_option maxHeartbeats 4000000
namespace SL
open PySem PySem.Spec PyProof.Rows L2 GenW
/-! ### the mirror of such a generator: at the i-th value the store is Sq i, behind it Sq (i + 1); what is out is the beginning of zs -/
open Classical in
noncomputable def gYdZ (Sq : Nat → Sto) (zs : List W) (m : M W) : MGy := fun ws r S => if ws.length < 16000000 then match m r S with
    | .ok w S' => if S' = Sq ws.length ∧ ws ++ [w] <+: zs then .ok (ws ++ [w], .nx r) (Sq (ws.length + 1)) else .stuck
    | .exc c es S' => .exc c es S'
    | .stuck => .stuck
  else .stuck
/-- what the consumer wants told, and what it leaves -/
structure ZOk (K : PySem.W.Frag) (ca : Ca) (Sq : Nat → Sto) (zs : List W) (io0 : List Addr) (H0 : Hp) (say : List V → Hp → Prop) (bet : Nat → Hp → Hp → Prop) : Prop where
  len : ∀ i, io0.length = (Sq i).length
  told : ∀ ys H ws w, RVs K ca io0 H (ws ++ [w]) ys → ws ++ [w] <+: zs → Ext io0 H0 io0 H → Rl0 K ca io0 (Sq ws.length) H → say ys H
  left : ∀ i H H', bet i H H' → Rl0 K ca io0 (Sq i) H → Ext io0 H io0 H' ∧ Rl0 K ca io0 (Sq (i + 1)) H'
def RZ (K : PySem.W.Frag) (ca : Ca) (io0 : List Addr) (H0 : Hp) (D : Zd) : List W × Fw → List Addr → Hp → Prop := fun p io H => Ext io0 H0 io H → ∀ ys, RVs K ca io H p.1 ys → RS K ca (D.fr ys) p.2 io H
def tZM (K : PySem.W.Frag) (ca : Ca) (E : XK) (Sq : Nat → Sto) (zs : List W) (m : MGy) : TZ := fun D ys σ H => ∃ io0 H0 io r S ws, ZOk K ca Sq zs io0 H0 D.say D.bet ∧ Ext io0 H0 io H ∧ Rl K ca io r S σ H ∧ RVs K ca io H ws ys ∧ Post K ca E io H (RZ K ca io0 H0 D) (m ws r S)
abbrev MZS (X : Cx) (ca : Ca) (E : XK) (Sq : Nat → Sto) (zs : List W) (st : Stmt) (m : MGy) : Prop := ZS X st (tZM X.K ca E Sq zs m)
abbrev MZSs (X : Cx) (ca : Ca) (E : XK) (Sq : Nat → Sto) (zs : List W) (st : List Stmt) (m : MGy) : Prop := ZSs X st (tZM X.K ca E Sq zs m)
theorem ZS.weak {X : Cx} {st : Stmt} {t u : TZ} (h : ZS X st t) (i : ∀ D ys σ H, u D ys σ H → t D ys σ H) : ZS X st u := ⟨fun g hn k I w => h.run g hn k I (i _ _ _ _ w)⟩
theorem ZSs.weak {X : Cx} {st : List Stmt} {t u : TZ} (h : ZSs X st t) (i : ∀ D ys σ H, u D ys σ H → t D ys σ H) : ZSs X st u := ⟨fun g hn k I w => h.run g hn k I (i _ _ _ _ w)⟩
theorem Ext.px {io io' : List Addr} {H H' : Hp} (e : Ext io H io' H') : io <+: io' := by
  obtain ⟨t, h, _⟩ := e.pre
  exact ⟨t, h.symm⟩
section
variable {X : Cx} {ca : Ca} {E : XK} {Sq : Nat → Sto} {zs : List W}
theorem mz_pl {st : Stmt} {m : MSt} (h : MS X ca E st m) : MZS X ca E Sq zs st (gPl m) := ZS.weak (zs_plain h) fun D ys σ H w => by
  obtain ⟨io0, H0, io, r, S, ws, ok, pre, l, rv, p⟩ := w
  refine ⟨io, r, S, l, ?_⟩
  unfold gPl at p
  cases q : m r S with
  | stuck =>
    simp only [q] at p
    exact p
  | exc c es S' =>
    simp only [q] at p
    exact p
  | ok f S' =>
    simp only [q] at p
    exact fun io' H' e z => p io' H' e z (pre.trans e) ys (rv.mono e)
theorem mz_nil : MZSs X ca E Sq zs [] gNil := ZSs.weak zs_nil fun D ys σ H w => by
  obtain ⟨io0, H0, io, r, S, ws, ok, pre, l, rv, p⟩ := w
  exact p.done l.z pre ys rv σ l.e
theorem mz_cons {st : Stmt} {rest : List Stmt} {a b : MGy} (h1 : MZS X ca E Sq zs st a) (h2 : MZSs X ca E Sq zs rest b) : MZSs X ca E Sq zs (st :: rest) (gSeq a b) := ZSs.weak (zs_cons h1 h2) fun D ys σ H w => by
  obtain ⟨io0, H0, io, r, S, ws, ok, pre, l, rv, p⟩ := w
  refine ⟨io0, H0, io, r, S, ws, ok, pre, l, rv, ?_⟩
  unfold gSeq at p
  cases q : a ws r S with
  | stuck =>
    simp only [q] at p
    exact p
  | exc c es S' =>
    simp only [q] at p
    exact p
  | ok y S' =>
    obtain ⟨ws', f⟩ := y
    cases f with
    | nx r' =>
      simp only [q] at p
      exact fun io' H' e z pre' ys' rvs σ' re => ⟨io0, H0, io', r', S', ws', ok, pre', ⟨z, re⟩, rvs, p.mono e⟩
    | rt w =>
      simp only [q] at p
      exact p
    | bk r' =>
      simp only [q] at p
      exact p
    | ct r' =>
      simp only [q] at p
      exact p
theorem mz_one {st : Stmt} {a : MGy} (h : MZS X ca E Sq zs st a) : MZSs X ca E Sq zs [st] (gSeq a gNil) := mz_cons h mz_nil
theorem mz_yd {e : Expr} {m : M W} {yp pos : Pos} (he : ME X ca E e m) (hco : X.env.scope.isCoroutine = false := by rfl) (hi : interactive X.env = false := by rfl) : MZS X ca E Sq zs (.Expr (.Yield (some e) yp) pos) (gYdZ Sq zs m) := ZS.weak (zs_yield he hco hi) fun D ys σ H w => by
  obtain ⟨io0, H0, io, r, S, ws, ok, pre, l, rv, p⟩ := w
  unfold gYdZ at p
  split at p
  · rename_i hl
    refine ⟨lim_lt (by rw [rv.len]; exact hl), io, r, S, l, ?_⟩
    cases q : m r S with
    | stuck =>
      simp only [q] at p
      exact p
    | exc c es S' =>
      simp only [q] at p
      exact p
    | ok w S' =>
      simp only [q] at p
      split at p
      · rename_i hc
        obtain ⟨hS, hz⟩ := hc
        intro io' H' e z v rw_
        have pre' := pre.trans e
        have eio : io0 = io' := pre'.px.eq_of_length (by rw [ok.len ws.length, z.len, hS])
        subst eio
        rw [hS] at z
        have rvs := (rv.mono e).app (.cons rw_ .nil)
        refine ⟨ok.told _ _ _ _ rvs hz pre' z, fun H2 hb => ?_⟩
        obtain ⟨e2, z2⟩ := ok.left ws.length H' H2 (by rw [← rv.len]; exact hb) z
        exact p io0 H2 (e.trans e2) z2 (pre'.trans e2) _ (rvs.mono e2) σ (l.e.mono (e.trans e2))
      · exact p.elim
  · exact p.elim
theorem for_itZ {J : It} {n : Nat} {G : Hp → Prop} {Y : Nat → Hp → V → Hp → Prop} (w : Walk J n G Y) {g : TG} {tb : TZ} {D : Zd} {ys : List V} {σ : L2.St} {H : Hp} (Pv : Nat → List V → L2.St → Hp → Prop) (h0 : Pv 0 ys σ H) (hG : ∀ i ys σ H, i ≤ n → Pv i ys σ H → G H)
    (hs : ∀ i x ys σ H H', i < n → Pv i ys σ H → Y i H x H' → g x σ H' fun σ2 H2 => tb { D with go := Pv (i + 1), cnt := Pv (i + 1), brk := D.go } ys σ2 H2) (hd : ∀ ys σ H, Pv n ys σ H → D.go ys σ H) :
    ∃ W : Nat → Nat → List V → L2.St → Hp → Prop, (∃ m, W 0 m ys σ H) ∧ ∀ i m ys σ H, W i m ys σ H →
      (J.stop i H ∧ D.go ys σ H) ∨ (J.go i H ∧ ∃ N : List V → L2.St → Hp → Prop, (∀ ys' σ' H', N ys' σ' H' → ∃ m', m' < m ∧ W (i + 1) m' ys' σ' H') ∧ ∀ x H', J.yld i H x H' → g x σ H' fun σ2 H2 => tb { D with go := N, cnt := N, brk := D.go } ys σ2 H2) := by
  refine ⟨fun i m ys σ H => m = n - i ∧ i ≤ n ∧ Pv i ys σ H, ⟨n, by simp, Nat.zero_le _, h0⟩, ?_⟩
  rintro i m ys σ H ⟨rfl, hi, p⟩
  have q := hG i ys σ H hi p
  by_cases hlt : i < n
  · exact .inr ⟨w.goes i H hlt q, Pv (i + 1), fun ys' σ' H' p' => ⟨n - (i + 1), by omega, rfl, hlt, p'⟩, fun x H' y => hs i x ys σ H H' hlt p (w.yields i H x H' hlt q y)⟩
  · have e : i = n := by omega
    subst e
    exact .inl ⟨w.stops H q, hd ys σ H p⟩
theorem for_turnZ {K : PySem.W.Frag} {T : Tg} {b : MGy} {x : W} {xs ws : List W} {io0 io : List Addr} {H0 : Hp} {r : Rho} {S : Sto} {H : Hp} {σ : L2.St} {D : Zd} {v : V} {ys : List V} {N : List V → L2.St → Hp → Prop}
    (ok : ZOk K ca Sq zs io0 H0 D.say D.bet) (pre : Ext io0 H0 io H) (l : Rl K ca io r S σ H) (rvs : RVs K ca io H ws ys) (rv : RV K ca io H x v) (p : Post K ca E io H (RZ K ca io0 H0 D) (gForL T b (x :: xs) ws r S))
    (hN : ∀ io' r' S' ws' ys' σ' H', Ext io H io' H' → Rl K ca io' r' S' σ' H' → RVs K ca io' H' ws' ys' → Post K ca E io' H' (RZ K ca io0 H0 D) (gForL T b xs ws' r' S') → N ys' σ' H') :
    T.g K v σ H fun σ2 H2 => tZM K ca E Sq zs b { D with go := N, cnt := N, brk := D.go } ys σ2 H2 := by
  unfold gForL at p
  cases e : T.run x r with
  | none =>
    simp only [e] at p
    exact p.elim
  | some r1 =>
    simp only [e] at p
    refine T.ok e rv l.e fun σ2 re _ => ⟨io0, H0, io, r1, S, ws, ok, pre, ⟨l.z, re⟩, rvs, ?_⟩
    cases q : b ws r1 S with
    | stuck =>
      simp only [q] at p
      exact p
    | exc c es S2 =>
      simp only [q] at p
      exact p
    | ok y S2 =>
      obtain ⟨ws2, f⟩ := y
      cases f with
      | nx r2 =>
        simp only [q] at p
        exact fun io' H' e z _ ys' rv' σ' re' => hN io' r2 S2 ws2 ys' σ' H' e ⟨z, re'⟩ rv' (p.mono e)
      | ct r2 =>
        simp only [q] at p
        exact fun io' H' e z _ ys' rv' σ' re' => hN io' r2 S2 ws2 ys' σ' H' e ⟨z, re'⟩ rv' (p.mono e)
      | bk r2 =>
        simp only [q] at p
        exact p
      | rt w =>
        simp only [q] at p
        exact p
theorem mz_for {T : Tg} {tg iter : Expr} {body : List Stmt} {mi : M (List W)} {b : MGy} {pos : Pos} (hp : PassesOwn (model X.prog X.w) X.A X.env X.xe) (hc : X.calm = true) (hi : MI X ca E tg iter mi) (hg : MG X tg T) (hb : MZSs X ca E Sq zs body b)
    (hs : ∀ x, foldedSetIterable iter X.env x = pure x := by intro _; rfl) : MZS X ca E Sq zs (.For tg iter body [] pos) (gFor T mi b) := by
  refine ZS.weak (zs_for hp hc hi hg hb hs) fun D ys σ H h => ?_
  obtain ⟨io0, H0, io, r, S, ws, ok, pre, l, rv, p⟩ := h
  show tI X.K ca E mi σ H _
  have p0 := p
  unfold gFor at p0
  refine ⟨io, r, S, l, ?_⟩
  rw [bind_def] at p0
  cases q : mi r S with
  | stuck =>
    simp only [q] at p0
    exact p0
  | exc c es S2 =>
    simp only [q] at p0
    exact p0
  | ok xs S1 =>
    simp only [q] at p0
    intro io1 H1 e1 z1 J ⟨G, Y, wk, hG, hY⟩
    have l1 := l.mono e1 z1
    have p1 := p0.mono e1
    have pre1 := pre.trans e1
    refine for_itZ wk (fun i ys' σ' H' => ∃ io' r' S' ws', Ext io1 H1 io' H' ∧ Rl X.K ca io' r' S' σ' H' ∧ RVs X.K ca io' H' ws' ys' ∧ Post X.K ca E io' H' (RZ X.K ca io0 H0 D) (gForL T b (xs.drop i) ws' r' S')) ⟨io1, r, S1, ws, Ext.refl _ _, l1, rv.mono e1, p1⟩ (fun i ys' σ' H' _ ⟨io', r', S', ws', e, _, _, _⟩ => hG io' H' e) ?_ ?_
    · rintro i x ys' σ' H' H3 hi ⟨io', r', S', ws', e, l', rv', p'⟩ y
      obtain ⟨w, hw, e3, z3, rw_⟩ := hY i io' S' H' x H3 e l'.z y hi
      have hd : xs.drop i = w :: xs.drop (i + 1) := by
        rw [List.drop_eq_getElem_cons hi]
        rw [List.getElem?_eq_getElem hi] at hw
        rw [Option.some.inj hw]
      rw [hd] at p'
      exact for_turnZ ok (pre1.trans (e.trans e3)) (l'.mono e3 z3) (rv'.mono e3) rw_ (p'.mono e3) fun io4 r4 S4 ws4 ys4 σ4 H4 e4 l4 rv4 p4 => ⟨io4, r4, S4, ws4, (e.trans e3).trans e4, l4, rv4, p4⟩
    · rintro ys' σ' H' ⟨io', r', S', ws', e, l', rv', p'⟩
      rw [List.drop_length] at p'
      exact p'.done l'.z (pre1.trans e) ys' rv' σ' l'.e
end
/-! ### a generator def -/
/-- Sq: the stores; zs: all values -/
abbrev GnZ := (Nat → Sto) → List W → GnM
def spZ (K : PySem.W.Frag) (ca : Ca) (g : GnZ) : SpZ := fun vs H Q say bet => ∃ io Sq zs ws, ZOk K ca Sq zs io H say bet ∧ Rl0 K ca io (Sq 0) H ∧ RVs K ca io H ws vs ∧ g Sq zs ws (Sq 0) = .ok zs (Sq zs.length) ∧
  ∀ H', Ext io H io H' → Rl0 K ca io (Sq zs.length) H' → ∀ us, RVs K ca io H' zs us → Q us H'
def GzAt (P : Program) (w : World) (K : PySem.W.Frag) (mg : Str → Option Value) (base : Heap) (ca : Ca) (x : Str) (k : Nat) (g : GnZ) : Prop := ∃ f fd ps, mg x = some (.ref f) ∧ PySem.W.keepIn K (.ref f) = true ∧ Binds K fd ps [] ∧ (∀ Sq zs ws S zs' S', g Sq zs ws S = .ok zs' S' → ws.length = ps.length) ∧ ZFn P w K mg base k f fd ps (spZ K ca g)
section
variable {P : Program} {w : World} {K : PySem.W.Frag} {mg : Str → Option Value} {base : Heap} {ca : Ca}
abbrev DerOkZ (P : Program) (w : World) (K : PySem.W.Frag) (mg : Str → Option Value) (base : Heap) (ca : Ca) (N : List Str) (qual : Str) (scope : Scope) (k : Nat) (f : Addr) (body : List Stmt) (b : (Nat → Sto) → List W → MGy) : Prop :=
  ∀ (Sq : Nat → Sto) (zs : List W) (cdv : Value) (A : Around) (outer : List Env) (s : Shared) (H : Hp) (pn : List (Addr × Obj)), Bd (gcxOf P w K mg base N qual scope f cdv A outer s H noXZ pn) noXZ k → MZSs (gcxOf P w K mg base N qual scope f cdv A outer s H noXZ pn) ca noXZ Sq zs body (b Sq zs)
theorem gfz_ok {x qual : Str} {params : Arguments} {body : List Stmt} {scope : Scope} {f : Addr} {fd : FuncData} {N ps : List Str} {k n j : Nat} {b : (Nat → Sto) → List W → MGy} (F : FunD K x qual params body scope [] [] f fd) (Sc : GScope N ps scope) (hce : ∀ n, cellsFrom n scope.names [] = []) (hn : N.length = n) (hj : ps.length = j)
    (h : DerOkZ P w K mg base ca N qual scope k f body b) : ZFn P w K mg base (k + 1) f fd ps (spZ K ca fun Sq zs => fnG n j (b Sq zs)) := by
  subst hn hj
  obtain ⟨oc, od, dV, kV, doc, pm, an, cdv, ct, osl, rfl, lk, hcd, _, _⟩ := F.ex
  refine zfn_of lk hcd Sc hce fun A outer s H vs H2 Q say bet pn hr hs => ?_
  · obtain ⟨io, Sq, zs, ws, ok, z, rvs, p, fin⟩ := hs
    refine ⟨_, h Sq zs cdv A outer s H pn (Bd.gen hr), ?_⟩
    unfold fnG at p
    dsimp only at p
    split at p
    · rename_i hl
      refine ⟨io, H2, io, ws.map some ++ List.replicate (N.length - ws.length) none, Sq 0, [], ok, Ext.refl _ _, ⟨z, RE.start rvs⟩, .nil, ?_⟩
      rw [← hl] at p
      have last : ∀ {io' : List Addr} {H' : Hp}, Ext io H2 io' H' → Rl0 K ca io' (Sq zs.length) H' → ∀ us, RVs K ca io' H' zs us → Q us H' := fun {io' H'} e z' us rv => by
        have eio : io = io' := e.px.eq_of_length (by rw [ok.len zs.length, z'.len])
        subst eio
        exact fin H' e z' us rv
      cases q : b Sq zs [] (ws.map some ++ List.replicate (N.length - ws.length) none) (Sq 0) with
      | stuck =>
        rw [q] at p
        cases p
      | exc c es S' =>
        rw [q] at p
        cases p
      | ok y S' =>
        rw [q] at p
        obtain ⟨ys, fw⟩ := y
        cases fw with
        | nx r =>
          cases p
          exact fun io' H' e z' _ us rv σ _ => last e z' us rv
        | rt w =>
          cases w <;> first | (cases p; done) | skip
          cases p
          intro io' H' e z' _ us rv v rw_
          exact ⟨rw_, last e z' us rv⟩
        | bk r => cases p
        | ct r => cases p
    · cases p
end
end SL
set_option Elab.async false
set_option linter.all false
set_option maxRecDepth 100000
set_option maxHeartbeats 2000000
namespace SL
open PySem PySem.Spec PyProof.Rows L2
/-! ### lambdas as values -/
structure LamY where
  params : Arguments
  body : Expr
  scope : Scope
/-- the function object of a lambda -/
def LamO (f c' : Addr) (q : Str) (y : LamY) (cl : List (Str × Addr)) : HO := .ext fun h => ∃ pm ctv : Value, h.get? f = some (PySem.W.kla_obj "<lambda>" q y.params y.body y.scope cl pm c' ctv)
structure LamStep (io : List Addr) (f c' P : Addr) (q : Str) (y : LamY) (cl : List (Str × Addr)) (H H1 : Hp) : Prop where
  nf : H f = none
  ne : f ≠ c'
  atf : H1 f = some (LamO f c' q y cl)
  atc : H1 c' = some (LamX.CodeO c' q)
  old : H c' = none ∨ (H c' = some (LamX.CodeO c' q) ∧ c' ∉ io)
  tab : ∃ ps : Array Value, H1 P = some (.tbl ps) ∧ TriplesOk ps.toList ∧ ∀ (pos : Pos) (cv : Value), codeAmong pos ps.toList = some cv → ∃ c, cv = .ref c ∧ (c = c' ∨ (H c = some (LamX.CodeO c q) ∧ c ∉ io))
  rest : ∀ b, b ≠ f → b ≠ c' → b ≠ P → H1 b = H b
def tMkLam (P : Addr) (q : Str) (y : LamY) (cl : List (Str × Addr)) : TE := fun _ H Q => ∃ io, P ∉ io ∧ TbT io H P q ∧ ∀ (f c' : Addr) (H1 : Hp), LamStep io f c' P q y cl H H1 → Q (.ref f) H1
theorem codeO_tbl {c : Addr} {q : Str} {ps : Array Value} : (LamX.CodeO c q : HO) ≠ .tbl ps := LamX.codeO_ne ps
theorem codeO_kpt {c : Addr} {q : Str} : Kpt (LamX.CodeO c q : HO) := ⟨fun ps => codeO_tbl, fun kvs z => by
  unfold LamX.CodeO at z
  cases z⟩
section
variable {X : Cx} {c P : Addr} {q : Str} {params : Arguments} {body : Expr} {scope : Scope} {pos : Pos}
theorem pe_mkLam (TB : LamX.TabB X.base X.mg c P) (hcode : X.env.code = .ref c) (hq : X.env.qual ++ "<lambda>" = q) (hdef : defaultsOf params X.env = ([], [])) (hfree : ∀ y ∈ scope.names, y.2 = .free → ∃ c, X.env.cells.lookup y.1 = some c) :
    PE X (.Lambda params body scope pos) (tMkLam P q ⟨params, body, scope⟩ (cloFrom X.env.cells scope.names [])) := by
  subst hq
  refine ⟨fun pins s σ H Q I h => ?_⟩
  obtain ⟨io, hPi, ⟨ps, hP, ht, ha⟩, h⟩ := h
  refine PySem.W.kla_eval hdef ?_
  have bP : s.heap.BuiltinsAt X.mg P := TB.bm.keeps I.bk
  have hP' : s.heap.get? P = some { cls := .none, data := .fields ps } := I.hok P _ hP
  have lay : ∀ {s1 : Shared} {H1 : Hp} {c' : Addr} {pm ctv : Value} {tk : Tok}, Inv X pins σ H1 s1 → Inv X pins σ (upd H1 s1.heap.objs.size (LamO s1.heap.objs.size c' (X.env.qual ++ "<lambda>") ⟨params, body, scope⟩ (cloFrom X.env.cells scope.names [])))
      { s1 with heap := s1.heap.push (PySem.W.kla_obj "<lambda>" (X.env.qual ++ "<lambda>") params body scope (cloFrom X.env.cells scope.names []) pm c' ctv), toks := tk } := fun {s1 H1 c' pm ctv tk} I1 =>
    I1.laid (fun b u e => Heap.get?_push_of_some _ e) (Nat.le_refl _) ⟨⟨pm, ctv, Heap.get?_push_size _ rfl⟩, ⟨_, Heap.get?_push_size _ rfl⟩, fun h1 h2 ⟨pm, ctv, e⟩ st => ⟨pm, ctv, st _ e⟩⟩
  cases hc : codeAmong pos ps.toList with
  | none =>
    refine PySem.W.kla_makeFunction (mg := X.mg) (c := c) (P := P) (ps := ps) (closure_ok hfree) I.ok.glob (I.mod.glob.keeps I.bk) hcode (TB.code.keeps I.bk) hP' ht hc TB.gP bP fun c' ctv h' tk hx hge hlt hrec htb => ?_
    obtain ⟨c2, oc, vs, t, e2, hoc, hd, hv⟩ := hrec
    cases e2
    have I1 := LamX.inv_table (t' := tk) (more := #[rawInt pos.line, rawInt pos.col, .ref c']) (q := X.env.qual ++ "<lambda>") (h' := h') I hP (fun b o hb e => hx b o hb e) htb hge ⟨oc, vs, t, hoc, hd, hv⟩
    have I2 := lay (tk := tk) (c' := c') (pm := (X.mg "__name__").getD .none) (ctv := ctv) I1
    have nf : H h'.objs.size = none := I.hok.fresh (Nat.le_trans hge (Nat.le_of_lt hlt))
    have nc : H c' = none := I.hok.fresh hge
    have n1 : h'.objs.size ≠ c' := Nat.ne_of_gt hlt
    have n2 : P ≠ h'.objs.size := ne_of_none hP nf
    have n3 : P ≠ c' := ne_of_none hP nc
    refine ⟨.ref h'.objs.size, _, I2, rfl, h _ c' _ ⟨nf, n1, upd_same, ?_, .inl nc, ⟨ps ++ #[rawInt pos.line, rawInt pos.col, .ref c'], ?_, ?_, fun p' cv hcv => ?_⟩, fun b b1 b2 b3 => ?_⟩⟩
    · show upd _ _ _ c' = _
      rw [upd_ne n1.symm, upd_same]
    · show upd _ _ _ P = _
      rw [upd_ne n2, upd_ne n3, upd_same]
    · rw [show (ps ++ #[rawInt pos.line, rawInt pos.col, .ref c']).toList = ps.toList ++ [rawInt pos.line, rawInt pos.col, .ref c'] by simp]
      exact PySem.TriplesOk_snoc _ _ _ _ ht
    · rw [show (ps ++ #[rawInt pos.line, rawInt pos.col, .ref c']).toList = ps.toList ++ [rawInt pos.line, rawInt pos.col, .ref c'] by simp] at hcv
      rcases LamX.among_app _ ht hcv with z | z
      · obtain ⟨c0, e1, e2, e3⟩ := ha p' cv z
        exact ⟨c0, e1, .inr ⟨e2, e3⟩⟩
      · exact ⟨c', z, .inl rfl⟩
    · show upd _ _ _ b = _
      rw [upd_ne b1, upd_ne b2, upd_ne b3]
  | some cv =>
    obtain ⟨c', e, hco, hci⟩ := ha pos cv hc
    subst e
    refine PySem.W.kla_makeFunctionHit (mg := X.mg) (c := c) (P := P) (ps := ps) (closure_ok hfree) I.ok.glob (I.mod.glob.keeps I.bk) hcode (TB.code.keeps I.bk) hP' ht hc bP fun ctv h' tk hx hsz => ?_
    have I1 : Inv X pins σ H { s with heap := h', toks := tk } := I.kept fun b o e => hx b o e
    have I2 := lay (tk := tk) (c' := c') (pm := (X.mg "__name__").getD .none) (ctv := ctv) I1
    have nf : H h'.objs.size = none := I.hok.fresh hsz
    have n1 : h'.objs.size ≠ c' := (ne_of_none hco nf).symm
    have n2 : P ≠ h'.objs.size := ne_of_none hP nf
    refine ⟨.ref h'.objs.size, _, I2, rfl, h _ c' _ ⟨nf, n1, upd_same, ?_, .inr ⟨hco, hci⟩, ⟨ps, ?_, ht, fun p' cv hcv => ?_⟩, fun b b1 b2 b3 => ?_⟩⟩
    · show upd _ _ _ c' = _
      rw [upd_ne n1.symm, hco]
    · show upd _ _ _ P = _
      rw [upd_ne n2, hP]
    · obtain ⟨c0, e1, e2, e3⟩ := ha p' cv hcv
      exact ⟨c0, e1, .inr ⟨e2, e3⟩⟩
    · show upd _ _ _ b = _
      rw [upd_ne b1]
end
/-! ### behind the making of a lambda -/
section
variable {K : PySem.W.Frag} {ca : Ca} {io : List Addr} {S : Sto} {H H1 : Hp} {f c' P : Addr} {q : Str} {y : LamY} {cl : List (Str × Addr)}
theorem LamStep.ext (s : LamStep io f c' P q y cl H H1) (hP : TbT io H P q) : Ext io H io H1 := by
  obtain ⟨ps, e1, _, _⟩ := hP
  refine ⟨⟨[], by simp, by simp⟩, fun a o n e d => ?_, fun a o e => ?_⟩
  · have af : a ≠ f := ne_of_none e s.nf
    by_cases ac : a = c'
    · subst ac
      rcases s.old with z | ⟨z, _⟩
      · rw [z] at e
        cases e
      · rw [z] at e
        cases e
        exact s.atc
    · have ap : a ≠ P := fun z => d.1 ps (Option.some.inj (e.symm.trans (by rw [z]; exact e1)))
      rw [s.rest a af ac ap]
      exact e
  · by_cases af : a = f
    · exact ⟨_, by rw [af]; exact s.atf⟩
    · by_cases ac : a = c'
      · exact ⟨_, by rw [ac]; exact s.atc⟩
      · by_cases ap : a = P
        · obtain ⟨ps', z, _⟩ := s.tab
          exact ⟨_, by rw [ap]; exact z⟩
        · exact ⟨o, by rw [s.rest a af ac ap]; exact e⟩
theorem LamStep.nin (s : LamStep io f c' P q y cl H H1) (z : Rl0 K ca io S H) : f ∉ io ∧ c' ∉ io := by
  refine ⟨z.free s.nf, ?_⟩
  rcases s.old with e | ⟨_, e⟩
  · exact z.free e
  · exact e
theorem LamStep.rl (s : LamStep io f c' P q y cl H H1) (z : Rl0 K ca io S H) (hP : (P, q) ∈ ca.tabs) (hu : ∀ p ∈ ca.tabs, p.1 = P → p.2 = q) : Rl0 K ca io S H1 := by
  obtain ⟨nP, hT⟩ := z.tb.tab _ hP
  have ex := s.ext hT
  obtain ⟨nf, nc⟩ := s.nin z
  obtain ⟨ps, e1, e2, e3⟩ := hT
  have e1 : H P = some (.tbl ps) := e1
  refine ⟨z.len, z.nd, fun n ce a g1 g2 => ?_, ⟨fun p hp => ?_, fun p hp => ?_⟩⟩
  · have h := z.ce n ce a g1 g2
    have ai : a ∈ io := List.mem_of_getElem? g2
    exact h.mono ex (s.rest a (fun e => nf (e ▸ ai)) (fun e => nc (e ▸ ai)) fun e => nP (show P ∈ io from e ▸ ai))
  · obtain ⟨n, t⟩ := z.tb.tab p hp
    refine ⟨n, ?_⟩
    have cd : ∀ c, H c = some (LamX.CodeO c p.2) → c ∉ io → H1 c = some (LamX.CodeO c p.2) := fun c h1 h2 => ex.kp c _ h2 h1 codeO_kpt
    by_cases hb : p.1 = P
    · have hq := hu p hp hb
      obtain ⟨ps', f1, f2, f3⟩ := s.tab
      rw [hb]
      refine ⟨ps', f1, f2, fun pos cv hc => ?_⟩
      obtain ⟨c0, g1, g2⟩ := f3 pos cv hc
      refine ⟨c0, g1, ?_⟩
      rcases g2 with g2 | ⟨g2, g3⟩
      · subst g2
        rw [hq]
        exact ⟨s.atc, nc⟩
      · rw [hq]
        exact ⟨by have := cd c0; rw [hq] at this; exact this g2 g3, g3⟩
    · obtain ⟨ps', f1, f2, f3⟩ := t
      have b1 : p.1 ≠ f := ne_of_none f1 s.nf
      have b2 : p.1 ≠ c' := fun e => by
        rcases s.old with k | ⟨k, _⟩
        · rw [← e, f1] at k
          cases k
        · rw [← e, f1] at k
          exact codeO_tbl (Option.some.inj k).symm
      refine ⟨ps', by rw [s.rest _ b1 b2 hb, f1], f2, fun pos cv hc => ?_⟩
      obtain ⟨c0, g1, g2, g3⟩ := f3 pos cv hc
      exact ⟨c0, g1, cd c0 g2 g3, g3⟩
  · obtain ⟨n, e, d⟩ := z.tb.pin p hp
    exact ⟨n, ex.kp _ _ n e d, d⟩
end
/-! ### the value's number is new -/
mutual
def nlm (n : Nat) : W → Bool
  | .cls c => decide (c ≠ .lam n)
  | .tup xs => nlms n xs
  | .lst xs => nlms n xs
  | .obj c xs => decide (c ≠ .lam n) && nlms n xs
  | .dct _ xs => nlms n xs
  | .ktup xs => nlms n xs
  | .non | .bl _ | .int _ | .str _ | .ty _ | .loc _ | .scr _ => true
def nlms (n : Nat) : List W → Bool
  | [] => true
  | x :: xs => nlm n x && nlms n xs
end
def nlmC (n : Nat) : Ce → Bool
  | .lst xs => nlms n xs
  | .ins c xs => decide (c ≠ .lam n) && nlms n xs
  | .dk _ xs => nlms n xs
  | .dt _ xs => nlms n xs
  | .fn _ xs => xs.all fun x => match x with
    | some w => nlm n w
    | none => true
def mxc : Cl → Nat
  | .lam m => m + 1
  | _ => 0
mutual
def mxw : W → Nat
  | .cls c => mxc c
  | .tup xs => mxs xs
  | .lst xs => mxs xs
  | .obj c xs => mxc c + mxs xs
  | .dct _ xs => mxs xs
  | .ktup xs => mxs xs
  | .non | .bl _ | .int _ | .str _ | .ty _ | .loc _ | .scr _ => 0
def mxs : List W → Nat
  | [] => 0
  | x :: xs => mxw x + mxs xs
end
def mxC : Ce → Nat
  | .lst xs => mxs xs
  | .ins c xs => mxc c + mxs xs
  | .dk _ xs => mxs xs
  | .dt _ xs => mxs xs
  | .fn _ xs => (xs.map fun x => match x with
    | some w => mxw w
    | none => 0).sum
def frN (S : Sto) (ws : List W) : Nat := (S.map mxC).sum + mxs ws
theorem mxc_ne {c : Cl} {n : Nat} (h : mxc c ≤ n) : c ≠ .lam n := fun e => by
  subst e
  have h : n + 1 ≤ n := h
  omega
mutual
theorem nlm_of : ∀ {w : W} {n : Nat}, mxw w ≤ n → nlm n w = true
  | .non, _, _ => rfl
  | .bl _, _, _ => rfl
  | .int _, _, _ => rfl
  | .str _, _, _ => rfl
  | .ty _, _, _ => rfl
  | .loc _, _, _ => rfl
  | .scr _, _, _ => rfl
  | .cls c, n, h => decide_eq_true (mxc_ne h)
  | .tup xs, _, h => nlms_of (w := xs) h
  | .lst xs, _, h => nlms_of (w := xs) h
  | .dct _ xs, _, h => nlms_of (w := xs) h
  | .ktup xs, _, h => nlms_of (w := xs) h
  | .obj c xs, n, h => by
    have h : mxc c + mxs xs ≤ n := h
    unfold nlm
    rw [nlms_of (w := xs) (by omega), decide_eq_true (mxc_ne (show mxc c ≤ n by omega))]
    rfl
theorem nlms_of : ∀ {w : List W} {n : Nat}, mxs w ≤ n → nlms n w = true
  | [], _, _ => rfl
  | x :: xs, n, h => by
    have h : mxw x + mxs xs ≤ n := h
    unfold nlms
    rw [nlm_of (w := x) (by omega), nlms_of (w := xs) (by omega)]
    rfl
end
theorem sum_mem {l : List Nat} {a : Nat} (h : a ∈ l) : a ≤ l.sum := by
  induction l with
  | nil => cases h
  | cons b l ih =>
    rw [List.sum_cons]
    rcases List.mem_cons.mp h with e | e
    · omega
    · have := ih e
      omega
theorem nlmC_of {c : Ce} {n : Nat} (h : mxC c ≤ n) : nlmC n c = true := by
  cases c with
  | lst xs => exact nlms_of (w := xs) h
  | ins c xs =>
    have h : mxc c + mxs xs ≤ n := h
    show (decide (c ≠ .lam n) && nlms n xs) = true
    rw [nlms_of (w := xs) (by omega), decide_eq_true (mxc_ne (show mxc c ≤ n by omega))]
    rfl
  | dk ks xs => exact nlms_of (w := xs) h
  | dt ks xs => exact nlms_of (w := xs) h
  | fn k xs =>
    refine List.all_eq_true.mpr fun x hx => ?_
    cases x with
    | none => rfl
    | some w =>
      have h : (xs.map fun x => match x with
        | some w => mxw w
        | none => 0).sum ≤ n := h
      have := sum_mem (List.mem_map_of_mem (f := fun x : Option W => match x with
        | some w => mxw w
        | none => 0) hx)
      exact nlm_of (w := w) (Nat.le_trans this h)
theorem frN_S {S : Sto} {ws : List W} {c : Ce} (h : c ∈ S) : nlmC (frN S ws) c = true := nlmC_of (by
  have := sum_mem (List.mem_map_of_mem (f := mxC) h)
  unfold frN
  omega)
theorem frN_ws {S : Sto} {ws : List W} : nlms (frN S ws) ws = true := nlms_of (by
  unfold frN
  omega)
section
variable {K : PySem.W.Frag} {ca cb : Ca} {io : List Addr} {S : Sto} {H : Hp} {n : Nat}
mutual
theorem RV.swap (hc : ∀ c, c ≠ .lam n → ca c = cb c) : ∀ {w : W} {v : V}, nlm n w = true → RV K ca io H w v → RV K cb io H w v
  | .non, _, _, h => h
  | .bl _, _, _, h => h
  | .int _, _, _, h => h
  | .str _, _, _, h => h
  | .ty _, _, _, h => h
  | .loc _, _, _, h => h
  | .scr _, _, _, h => h
  | .cls c, v, d, h => by
    have e := hc c (of_decide_eq_true d)
    rw [show v = .ref (ca c) from h, e]
    rfl
  | .tup xs, v, d, h => by
    obtain ⟨a, vs, rfl, q, r⟩ := (show ∃ a vs, v = .ref a ∧ FzT io H a vs ∧ RVs K ca io H xs vs from h)
    exact ⟨a, vs, rfl, q, RVs.swap hc d r⟩
  | .lst xs, v, d, h => by
    obtain ⟨a, vs, rfl, q, r⟩ := (show ∃ a vs, v = .ref a ∧ FzL io H a vs ∧ RVs K ca io H xs vs from h)
    exact ⟨a, vs, rfl, q, RVs.swap hc d r⟩
  | .ktup xs, v, d, h => by
    obtain ⟨a, vs, rfl, q, r⟩ := (show ∃ a vs, v = .ref a ∧ WrT K a vs ∧ RVs K ca io H xs vs from h)
    exact ⟨a, vs, rfl, q, RVs.swap hc d r⟩
  | .obj c xs, v, d, h => by
    obtain ⟨a, dx, vs, rfl, q, m, l, r⟩ := (show ∃ a dx vs, v = .ref a ∧ H a = some (.ins (ca c) dx ((fnames c).zip vs)) ∧ a ∉ io ∧ vs.length ≤ (flds c).length ∧ RVs K ca io H xs vs from h)
    obtain ⟨d1, d2⟩ := Bool.and_eq_true_iff.mp (show (decide (c ≠ .lam n) && nlms n xs) = true from d)
    exact ⟨a, dx, vs, rfl, by rw [← hc c (of_decide_eq_true d1)]; exact q, m, l, RVs.swap hc d2 r⟩
  | .dct ks xs, v, d, h => by
    obtain ⟨a, o, vs, rfl, q, m, l, r⟩ := (show ∃ a o vs, v = .ref a ∧ H a = some (.frz o (.dK (ks.zip vs))) ∧ a ∉ io ∧ vs.length = ks.length ∧ RVs K ca io H xs vs from h)
    exact ⟨a, o, vs, rfl, q, m, l, RVs.swap hc d r⟩
theorem RVs.swap (hc : ∀ c, c ≠ .lam n → ca c = cb c) : ∀ {ws : List W} {vs : List V}, nlms n ws = true → RVs K ca io H ws vs → RVs K cb io H ws vs
  | [], _, _, h => h
  | x :: xs, vs, d, h => by
    obtain ⟨v, r, rfl, h1, h2⟩ := h.inv
    obtain ⟨d1, d2⟩ := Bool.and_eq_true_iff.mp (show (nlm n x && nlms n xs) = true from d)
    exact .cons (RV.swap hc d1 h1) (RVs.swap hc d2 h2)
end
theorem RC.swap (hc : ∀ c, c ≠ .lam n → ca c = cb c) (hs : cb.sites = ca.sites) {a : Addr} {c : Ce} (d : nlmC n c = true) (h : RC K ca io H a c) : RC K cb io H a c := by
  cases c with
  | lst xs =>
    obtain ⟨vs, h1, h2⟩ := h
    exact ⟨vs, h1, h2.swap hc d⟩
  | ins c xs =>
    obtain ⟨dx, vs, h1, h2, h3⟩ := h
    obtain ⟨d1, d2⟩ := Bool.and_eq_true_iff.mp (show (decide (c ≠ .lam n) && nlms n xs) = true from d)
    exact ⟨dx, vs, by rw [← hc c (of_decide_eq_true d1)]; exact h1, h2, h3.swap hc d2⟩
  | dk ks xs =>
    obtain ⟨vs, h1, h2, h3⟩ := h
    exact ⟨vs, h1, h2, h3.swap hc d⟩
  | dt ks xs =>
    obtain ⟨vs, h1, h2, h3⟩ := h
    exact ⟨vs, h1, h2, h3.swap hc d⟩
  | fn k xs =>
    obtain ⟨s, c', dV, h1, h2, h3, h4, h5, h6⟩ := h
    refine ⟨s, c', dV, by rw [hs]; exact h1, h2, h3, h4, h5, fun i w q => ?_⟩
    obtain ⟨v, k1, k2⟩ := h6 i w q
    exact ⟨v, k1, k2.swap hc (List.all_eq_true.mp d _ (List.mem_of_getElem? q))⟩
theorem Rl0.swap (hc : ∀ c, c ≠ .lam n → ca c = cb c) (hs : cb.sites = ca.sites) (h : Rl0 K ca io S H) (d : S.all (nlmC n) = true) (tb : TbOk cb io H) : Rl0 K cb io S H :=
  ⟨h.len, h.nd, fun m c a q q2 => (h.ce m c a q q2).swap hc hs (List.all_eq_true.mp d c (List.mem_of_getElem? q)), tb⟩
end
/-! ### a lambda's body -/
def fnE (n k : Nat) (m : M W) : FnM := fun ws S => if ws.length = k then m (ws.map some ++ List.replicate (n - k) none) S else .stuck
section
variable {P : Program} {w : World} {K : PySem.W.Frag} {mg : Str → Option Value} {base : Heap} {ca : Ca} {f c' : Addr} {q : Str} {y : LamY} {N ps : List Str} {n j k : Nat} {m : M W}
theorem lam_fm (hp : (f, LamO f c' q y []) ∈ ca.pins) (hc : (c', LamX.CodeO c' q) ∈ ca.pins) (Sc : FnScope N ps y.scope) (hn : N.length = n) (hj : ps.length = j)
    (hb : ∀ (pm cdv ctv : Value) (us : List Value), us.length = ps.length → bindArgs (PySem.W.kla_fn "<lambda>" q y.params y.body y.scope [] pm cdv ctv) ⟨us, []⟩ = pure (ps.zip us))
    (h : ∀ (A : Around) (outer : List Env) (s : Shared) (H : Hp) (E : XK), Bd (cxOf (L2.CX P w) P w K mg base N q y.scope f (.ref c') A outer s H E) E k → ME (cxOf (L2.CX P w) P w K mg base N q y.scope f (.ref c') A outer s H E) ca E y.body m) :
    Fm P w K mg base ca (k + 1) f (fnE n j m) := by
  subst hn hj
  intro A outer s H us vs Q E hr e0 r hs
  obtain ⟨io, ws, S, z, rvs, p⟩ := hs
  unfold fnE at p
  split at p
  · rename_i hl
    obtain ⟨_, hf, _⟩ := z.tb.pin _ hp
    obtain ⟨_, hc, _⟩ := z.tb.pin _ hc
    obtain ⟨⟨pm, ctv, of⟩, _, _⟩ := e0.hok f _ hf
    obtain ⟨⟨oc, ws', t, hoc, hdc, hvc⟩, _, _⟩ := e0.hok c' _ hc
    have lim : s.heap.NoLimit := e0.mod.nolimit.keeps fun b o e => (e0.bs b o e).1
    have hlv : vs.length = ps.length := by rw [rvs.len, hl]
    have hlu : us.length = ps.length := by rw [← r.length, hlv]
    have hkind : ∀ y' ∈ ps.zip us, y.scope.names.lookup y'.1 = some .local ∨ (y.scope.names.lookup y'.1 = some .cell ∧ ((cellsFrom (s.heap.objs.size + 1) y.scope.names []).lookup y'.1).isSome = true) := fun ⟨n, v⟩ hy => by
      rcases Sc.par n (List.of_mem_zip hy).1 with q | q
      · exact .inl q
      · exact .inr ⟨q, PySem.W.cellsFrom_some _ _ _ (.inl q)⟩
    refine PySem.W.kla_callFunE hr.depth of rfl Sc.co Sc.gen rfl ⟨c', oc, ws', t, rfl, hoc, hdc, hvc⟩ ?_
    rw [hb _ _ _ us hlu]
    refine wpAny_pure (wpAny_newFunctionEnv_cells Sc.kind hkind fun env he s1 x => ?_)
    subst he
    refine ⟨lim.keeps x.toInCall.keep, ?_⟩
    have I : Inv (cxOf (L2.CX P w) P w K mg base N q y.scope f (.ref c') A outer s H E) [] (L2.start N vs) H s1 := inv_start Sc hr.hd e0 hlv r x
    have hrl : tE K ca E m (L2.start N vs) H Q := ⟨io, ws.map some ++ List.replicate (N.length - ws.length) none, S, ⟨z, RE.start rvs⟩, by rw [hl]; exact p⟩
    refine PySem.W.kla_codeExpr (wpAny_mono ((h A outer s H E (Bd.of (hr.deeper _))).run [] s1 _ H Q I hrl) (fun v s' hq => ?_) fun e s' hq => hq)
    obtain ⟨v', H', J, rv, q⟩ := hq
    exact ⟨v', H', J.os, J.bare, J.base, J.hok, rv, q⟩
  · exact p.elim
end
/-! ### a function value called -/
def mCallV (n : Nat) (g : FnM) (i : Nat) (t : M (List W)) : M W := fun r S => match r[i]? with
  | some (some (.cls (.lam m))) => if m = n then (mCall g t) r S else .stuck
  | _ => .stuck
/-- the function object of number n stands, and does what g does -/
def LamAt (P : Program) (w : World) (K : PySem.W.Frag) (mg : Str → Option Value) (base : Heap) (ca : Ca) (n k : Nat) (g : FnM) : Prop :=
  Fm P w K mg base ca k (ca (.lam n)) g ∧ ∃ c' q y cl, (ca (.lam n), LamO (ca (.lam n)) c' q y cl) ∈ ca.pins
theorem me_callv {X : Cx} {ca : Ca} {E : XK} {n j k i : Nat} {g : FnM} {x : Str} {p pos : Pos} {e : Expr} {es : List Expr} {t : M (List W)} (F : LamAt X.prog X.w X.K X.mg X.base ca n k g) (b : Bd X E j) (ha : MA X ca E (e :: es) t) (hk : k ≤ j := by decide)
    (hN : X.N[i]? = some x := by rfl) (hv : Vis X.env.scope x := by first | exact .inl rfl | exact .inr (.inl rfl) | exact .inr (.inr rfl)) (hd : (x == ("__debug__" : Str)) = false := by decide) (hcd : (x == ("__classdict__" : Str)) = false := by decide)
    (he : starEach (e :: es) X.env = (false, eval e X.env) :: starEach es X.env := by rfl) (hpl : (backTo pos (starEach es X.env)).any (·.1) = false := by rfl) :
    ME X ca E (.Call (.Name x p) (e :: es) [] pos) (mFr (mCallV n g i t)) := by
  refine me_fr ⟨fun pins s σ H Q I h => ?_⟩
  obtain ⟨F, c', q, y, cl, hpin⟩ := F
  obtain ⟨io, r, S, l, pp⟩ := h
  unfold mCallV at pp
  split at pp
  · rename_i m q1
    split at pp
    · rename_i hm
      subst hm
      obtain ⟨v, hv', rv⟩ := l.e.2 i _ q1
      cases (show v = _ from rv)
      have fnat : ∀ {H2 : Hp} {s2 : Shared} {io2 : List Addr} {S2 : Sto}, Inv X pins σ H2 s2 → Rl0 X.K ca io2 S2 H2 → PySem.W.FnAt (ca (.lam m)) s2.heap := fun I2 z2 => by
        obtain ⟨_, hf, _⟩ := z2.tb.pin _ hpin
        obtain ⟨⟨pm, ctv, of⟩, _, _⟩ := I2.hok _ _ hf
        exact ⟨_, _, _, _, of⟩
      refine wpAny_Call_Name_kw (thn ((pe_var (pos := p) hN hv hd hcd).run pins s σ H (fun v H1 => v = .ref (ca (.lam m)) ∧ H1 = H) I ⟨.ref (ca (.lam m)), hv', rfl, rfl⟩) fun u s1 ⟨v, H1, I1, r1, q1⟩ => ?_)
      obtain ⟨rfl, rfl⟩ := q1
      cases r1
      refine PySem.W.callWith_F (fnat I1 l.z) (thn (ha.run pos pins s1 σ _ _ I1 (tA_bind l pp)) fun us s2 ⟨vs, H2, I2, r2, io1, S1, ws, e1, l1, rvs, p1⟩ => ⟨fnat I2 l1.z, ?_⟩) he hpl
      exact wpAny_call (run_fnR F (b.hr.mono hk) b.pc I2 r2 ⟨io1, ws, S1, l1.z, rvs, p1⟩)
    · exact pp.elim
  · exact pp.elim
end SL
set_option Elab.async false
set_option linter.all false
set_option maxRecDepth 100000
set_option maxHeartbeats 2000000
namespace SL
open PySem PySem.Spec PyProof.Rows L2
/-! ### o.m(a, lambda ..) -/
def lamOut (n : Nat) : Res W → Res W
  | .ok w S' => if nlm n w = true ∧ S'.all (nlmC n) = true then .ok w S' else .stuck
  | _ => .stuck
noncomputable def mMtLam (c : Cl) (g : Nat → FnM) (o : M W) (me : M W) : M W := do
  let w ← o
  let w' ← (fun _ S => match getO c S w with
    | some _ => .ok w S
    | none => .stuck : M W)
  let x ← me
  fun _ S => lamOut (frN S [w', x]) (frR S (g (frN S [w', x]) [w', x, .cls (.lam (frN S [w', x]))] S))
/-- a method that gets a function value: for any number of it, any doing of it -/
def MethL (P : Program) (w : World) (K : PySem.W.Frag) (mg : Str → Option Value) (base : Heap) (c : Cl) (m : Str) (kk k : Nat) (g : Nat → FnM → FnM) : Prop :=
  ∃ f, Cls K (He.ga K (cname c)) ∧ Meth K (He.ga K (cname c)) m f ∧ ∀ (L : Lm) (n : Nat) (gam : FnM), LamAt P w K mg base (caL K L) n kk gam → Fm P w K mg base (caL K L) k f (g n gam)
def Lm.add (L : Lm) (n : Nat) (f c' : Addr) (o u : HO) : Lm := ⟨fun m => if m = n then f else L.at_ m, L.tabs, (f, o) :: (c', u) :: L.pins, L.sites⟩
theorem Lm.add_at {L : Lm} {n : Nat} {f c' : Addr} {o u : HO} : (L.add n f c' o u).at_ n = f := if_pos rfl
theorem Lm.add_ne {K : PySem.W.Frag} {L : Lm} {n : Nat} {f c' : Addr} {o u : HO} (c : Cl) (h : c ≠ .lam n) : caL K L c = caL K (L.add n f c' o u) c := by
  cases c with
  | lam m =>
    show L.at_ m = if m = n then f else L.at_ m
    rw [if_neg fun e => h (by rw [e])]
  | _ => rfl
theorem lamAt_mk {P : Program} {w : World} {K : PySem.W.Frag} {mg : Str → Option Value} {base : Heap} {L : Lm} {n k : Nat} {f c' : Addr} {q : Str} {y : LamY} {cl : List (Str × Addr)} {g : FnM} (e : L.at_ n = f) (F : Fm P w K mg base (caL K L) k f g) (hp : (f, LamO f c' q y cl) ∈ L.pins) : LamAt P w K mg base (caL K L) n k g := by
  subst e
  exact ⟨F, _, _, _, _, hp⟩
theorem cloFrom_none {cells : List (Str × Addr)} : ∀ {names : List (Str × NameKind)} {acc : List (Str × Addr)}, (∀ y ∈ names, y.2 ≠ .free) → cloFrom cells names acc = acc
  | [], _, _ => rfl
  | (m, k) :: r, acc, h => by
    unfold cloFrom
    have hk : k ≠ .free := h _ List.mem_cons_self
    rw [if_neg (by simpa using hk)]
    exact cloFrom_none fun y hy => h y (List.mem_cons_of_mem _ hy)
section
variable {X : Cx} {L : Lm} {E : XK} {c : Cl} {m q : Str} {kk k j : Nat} {g : Nat → FnM → FnM} {gam : FnM} {o e : Expr} {mo me : M W} {params : Arguments} {body : Expr} {scope : Scope} {lpos pos apos : Pos} {cd P : Addr}
theorem me_mtLam {pl : Sem Bool} (F : MethL X.prog X.w X.K X.mg X.base c m kk k g)
    (Lf : ∀ (L' : Lm) (f c' : Addr), (f, LamO f c' q ⟨params, body, scope⟩ []) ∈ L'.pins → (c', LamX.CodeO c' q) ∈ L'.pins → L'.tabs = L.tabs → Fm X.prog X.w X.K X.mg X.base (caL X.K L') kk f gam)
    (TB : LamX.TabB X.base X.mg cd P) (hcode : X.env.code = .ref cd) (hP : (P, q) ∈ L.tabs) (hu : ∀ p ∈ L.tabs, p.1 = P → p.2 = q) (hq : X.env.qual ++ "<lambda>" = q) (hcc : caL X.K L c = He.ga X.K (cname c))
    (hdef : defaultsOf params X.env = ([], [])) (hnf : ∀ y ∈ scope.names, y.2 ≠ .free)
    (b : Bd X E j) (ho : ME X (caL X.K L) E o mo) (ha : ME X (caL X.K L) E e me) (hk : k ≤ j := by decide) (hl : (fnames c).contains m = false := by decide)
    (hs2 : starEach [.Lambda params body scope lpos] X.env = (false, eval (.Lambda params body scope lpos) X.env) :: starEach [] X.env := by rfl)
    (hst : starEach [e, .Lambda params body scope lpos] X.env = (false, eval e X.env) :: starEach [.Lambda params body scope lpos] X.env := by rfl) (hpl : (backTo pos (starEach [.Lambda params body scope lpos] X.env)).any (·.1) = false := by rfl)
    (ht : eval (.Call (.Attribute o m apos) [e, .Lambda params body scope lpos] [] pos) X.env = (do
      let ov ← eval o X.env
      standAt apos.atName
      let (f, first) ← holding [ov] (getMethod ov m pl)
      callWith pos f first (backTo pos (starEach [e, .Lambda params body scope lpos] X.env)) (backToKw pos (keywordEach [] X.env))) := by rfl) :
    ME X (caL X.K L) E (.Call (.Attribute o m apos) [e, .Lambda params body scope lpos] [] pos) (mMtLam c (fun n => g n gam) mo me) := by
  obtain ⟨fm, hc, hm, F⟩ := F
  refine ⟨fun pins s σ H Q I h => ?_⟩
  obtain ⟨io, r, S, l, p⟩ := h
  refine PySem.W.methodCall_KW (pl := pl) (thn (ho.run pins s σ H _ I (tE_bind l p)) fun u s1 ⟨x, H1, I1, rx, io1, S1, w, e1, l1, rv, p1⟩ => ?_) ht
  rw [bind_def] at p1
  cases gg : getO c S1 w with
  | none =>
    simp only [gg] at p1
    exact p1.elim
  | some xs =>
    simp only [gg] at p1
    obtain ⟨a, dx, vs, rfl, qa, ll, rr⟩ := getO_ok l1.z rv gg
    obtain rfl : u = Value.ref a := rx
    rw [hcc] at qa
    refine getmeth_ok I1 qa hc hm (lookup_none hl vs) ?_
    have hcl : cloFrom X.env.cells scope.names [] = [] := cloFrom_none hnf
    have mk := pe_mkLam (pos := lpos) (body := body) TB hcode hq hdef (fun y hy e => absurd e (hnf y hy))
    rw [hcl] at mk
    refine PySem.W.callWith_K (first := [.ref a]) (h₀ := X.base) I.ok.mod.kin hm.kp (thn ((pa_cons ha (pa_cons mk pa_nil hs2) hst).run pos pins s1 σ H1
      (fun vs2 H3 => ∃ sp : Sp, FnR X.prog X.w X.K X.mg X.base (L2.CX X.prog X.w) k fm sp ∧ sp (V.ref a :: vs2) H3 Q E) I1 ?_) fun us s2 ⟨vs2, H3, I3, r3, sp, hF, hsp⟩ => ⟨I3.kIn, ?_⟩) hst hpl
    · refine tE_imp (tE_bind l1 p1) fun v H2 ⟨io2, S2, w2, e2, l2, rv2, p2⟩ => ?_
      obtain ⟨nP, hT⟩ := l2.z.tb.tab _ hP
      refine ⟨io2, nP, hT, fun f c' H3 st => ?_⟩
      have z3 := st.rl l2.z hP hu
      have ex := st.ext hT
      obtain ⟨nf, nc⟩ := st.nin l2.z
      have hca : ∀ c, c ≠ .lam (frN S2 [w, w2]) → caL X.K L c = caL X.K (L.add (frN S2 [w, w2]) f c' (LamO f c' q ⟨params, body, scope⟩ []) (LamX.CodeO c' q)) c := Lm.add_ne
      have nw : nlms (frN S2 [w, w2]) [w, w2] = true := frN_ws
      obtain ⟨nw1, nw2⟩ := Bool.and_eq_true_iff.mp (show (nlm _ w && nlms _ [w2]) = true from nw)
      obtain ⟨nw2, _⟩ := Bool.and_eq_true_iff.mp (show (nlm _ w2 && nlms _ []) = true from nw2)
      have tb' : TbOk (caL X.K (L.add (frN S2 [w, w2]) f c' (LamO f c' q ⟨params, body, scope⟩ []) (LamX.CodeO c' q))) io2 H3 := ⟨z3.tb.tab, fun p hp => by
        rcases List.mem_cons.mp hp with rfl | hp
        · exact ⟨nf, st.atf, ⟨fun ps z => (by cases z), fun ps z => (by cases z)⟩⟩
        · rcases List.mem_cons.mp hp with rfl | hp
          · exact ⟨nc, st.atc, codeO_kpt⟩
          · exact z3.tb.pin p hp⟩
      have z4 := z3.swap hca rfl (List.all_eq_true.mpr fun c hc => frN_S hc) tb'
      refine ⟨_, F _ _ gam (lamAt_mk Lm.add_at (Lf _ f c' List.mem_cons_self (List.mem_cons_of_mem _ List.mem_cons_self) rfl) List.mem_cons_self), io2, [w, w2, .cls (.lam (frN S2 [w, w2]))], S2, z4, ?_, ?_⟩
      · exact .cons (((rv.mono e2).mono ex).swap hca nw1) (.cons ((rv2.mono ex).swap hca nw2) (.cons (show V.ref f = V.ref ((L.add (frN S2 [w, w2]) f c' (LamO f c' q ⟨params, body, scope⟩ []) (LamX.CodeO c' q)).at_ (frN S2 [w, w2])) from by rw [Lm.add_at]) .nil))
      · refine post_fr z4 ?_
        cases hres : frR S2 (g (frN S2 [w, w2]) gam [w, w2, .cls (.lam (frN S2 [w, w2]))] S2) with
        | stuck =>
          simp only [hres, lamOut] at p2
          exact p2.elim
        | exc c ws S' =>
          simp only [hres, lamOut] at p2
          exact p2.elim
        | ok w3 S3 =>
          simp only [hres, lamOut] at p2
          split at p2
          · rename_i hn
            intro io' H' e z v rv3
            refine p2 io' H' (ex.trans e) (z.swap (fun c hc => (hca c hc).symm) rfl hn.2 ⟨z.tb.tab, fun p hp => z.tb.pin p (List.mem_cons_of_mem _ (List.mem_cons_of_mem _ hp))⟩) v (rv3.swap (fun c hc => (hca c hc).symm) hn.1)
          · exact p2.elim
    · exact wpAny_call (run_fnR (us := .ref a :: us) (vs := .ref a :: vs2) hF (b.hr.mono hk) b.pc I3 (.cons rfl r3) hsp)
end
/-! ### the tables that a law's defs need -/
abbrev MkD := He.Defn × Str
def lamQ (q : Str) : Str := (q ++ ".<locals>.") ++ "<lambda>"
structure Tb (K : PySem.W.Frag) (mg : Str → Option Value) (base : Heap) (L : Lm) (tf : List MkD) : Prop where
  tab : ∀ d ∈ tf, ((He.cT K d.1).2, lamQ d.2) ∈ L.tabs
  one : ∀ p ∈ L.tabs, ∀ p' ∈ L.tabs, p.1 = p'.1 → p.2 = p'.2
  tb : ∀ d ∈ tf, LamX.TabB base mg (He.cT K d.1).1 (He.cT K d.1).2
theorem Tb.un {K : PySem.W.Frag} {mg : Str → Option Value} {base : Heap} {L : Lm} {tf : List MkD} (T : Tb K mg base L tf) {d : MkD} (h : d ∈ tf) : ∀ p ∈ L.tabs, p.1 = (He.cT K d.1).2 → p.2 = lamQ d.2 := fun p hp e => T.one p hp _ (T.tab d h) e
section
variable {fs : List Fx} {ds : List Df} {P : Program} {w : World} {K : PySem.W.Frag} {mg : Str → Option Value} {base : Heap} {ca : Ca} {x qual : Str} {c : Cl} {k kk n j : Nat} {params : Arguments} {body : List Stmt} {scope : Scope} {N ps : List Str} {b : MSt}
abbrev DerOkC (P : Program) (w : World) (K : PySem.W.Frag) (mg : Str → Option Value) (base : Heap) (ca : Ca) (N : List Str) (qual : Str) (scope : Scope) (k : Nat) (f c : Addr) (body : List Stmt) (b : MSt) : Prop :=
  ∀ (A : Around) (outer : List Env) (s : Shared) (H : Hp) (E : XK), Bd (cxOf (L2.CX P w) P w K mg base N qual scope f (.ref c) A outer s H E) E k → MSs (cxOf (L2.CX P w) P w K mg base N qual scope f (.ref c) A outer s H E) ca E body b
theorem fnM_start {m : MSt} {vs : List V} {H : Hp} {Q : VK} {E : XK} (hs : spM K ca (fnM N.length ps.length m) vs H Q E) :
    vs.length = ps.length ∧ ∃ (io : List Addr) (r : Rho) (S : Sto), Rl K ca io r S (L2.start N vs) H ∧ Post K ca E io H (fun w io' H' => ∀ v, RV K ca io' H' w v → Q v H') (endOf (m r S)) := by
  obtain ⟨io, ws, S, z, rvs, p⟩ := hs
  unfold fnM at p
  split at p
  · rename_i hl
    refine ⟨by rw [rvs.len, hl], io, ws.map some ++ List.replicate (N.length - ws.length) none, S, ⟨z, RE.start rvs⟩, ?_⟩
    rw [← hl] at p
    exact p
  · exact p.elim
theorem Sy.fnC (Z : Sy fs ds K mg) (i ig : Nat) (hd : ds[i]? = some ⟨.fn x, x, qual, params, body, scope⟩) (hg : fs[ig]? = some (.fa (.glo x))) (Sc : FnScope N ps scope) (hn : N.length = n) (hj : ps.length = j)
    (hb : BindOk x qual params body scope ps) (h : ∀ f, DerOkC P w K mg base ca N qual scope k f (He.cT K (x, none)).1 body b) : FnAt P w K mg base ca x (k + 1) (fnM n j b) := by
  subst hn hj
  obtain ⟨fd, F⟩ := Z.d i hd
  refine ⟨_, Z.glo ig hg, F.kp, fm_of ?_ (F.bindsN hb)⟩
  obtain ⟨oc, od, dV, kV, doc, pm, an, cdv, ct, osl, rfl, lk, hcd, _, _⟩ := F.ex
  obtain ⟨c, rfl⟩ := He.codeIn_ref hcd
  have ec : (He.cT K (x, none)).1 = c := He.codeOf_eq (p := (x, none)) lk rfl
  have h2 := h (He.ga K x)
  rw [ec] at h2
  refine L2.fn_of lk hcd Sc (fun vs H Q E hs => (fnM_start hs).1) fun A outer s H vs Q E hr hs => ⟨_, h2 A outer s H E (Bd.of hr), ?_⟩
  obtain ⟨_, io, r, S, l, p⟩ := fnM_start hs
  refine ⟨io, r, S, l, ?_⟩
  cases q : b r S with
  | stuck =>
    rw [q] at p
    exact p
  | exc c es S' =>
    rw [q] at p
    exact p
  | ok fw S' =>
    rw [q] at p
    cases fw with
    | nx r => exact fun io' H' e z' σ _ => p io' H' e z' _ rfl
    | rt w => exact fun io' H' e z' v rv => p io' H' e z' v rv
    | bk r => exact p.elim
    | ct r => exact p.elim
end
end SL
set_option Elab.async false
set_option linter.all false
set_option maxRecDepth 100000
set_option maxHeartbeats 2000000
namespace SL
open PySem PySem.Spec PyProof.Rows L2
/-! ### the head tells of the tables too -/
def tabOk (K : PySem.W.Frag) (tf : List MkD) : Bool := (tf.all fun d => decide (K.lookup (He.cT K d.1).2 = none)) && (decide ((tf.map fun d => (He.cT K d.1).2).Nodup) && tf.all fun d => decide ((He.cT K d.1).2 ≠ mainGlobals))
def obsQ (n : Nat) (fs : List Fx) (ds : List Df) (tf : List MkD) (g : Addr → Option Obj) : AlP × Bool := (obsP n fs ds g, He.tabsB g (tf.map (·.1)) (frX g n) && tabOk (frX g n) tf)
structure SaysQ (fs : List Fx) (ds : List Df) (tf : List MkD) (h : Heap) (K : PySem.W.Frag) : Prop where
  p : SaysP fs ds K
  hd : ∀ d ∈ tf, PySem.W.codeHdIn K (He.cT K d.1).1 (He.cT K d.1).2 = true
  empty : ∀ d ∈ tf, h.get? (He.cT K d.1).2 = some { cls := .none, data := .fields #[] }
  out : ∀ d ∈ tf, K.lookup (He.cT K d.1).2 = none
  nd : (tf.map fun d => (He.cT K d.1).2).Nodup
  ng : ∀ d ∈ tf, (He.cT K d.1).2 ≠ mainGlobals
theorem saysQ_of {n : Nat} {fs : List Fx} {ds : List Df} {tf : List MkD} {h : Heap} (e : obsQ n fs ds tf h.get? = ((true, ds.map Df.val), true)) : SaysQ fs ds tf h (frX h.get? n) := by
  have e1 : obsP n fs ds h.get? = (true, ds.map Df.val) := congrArg (fun z : AlP × Bool => z.1) e
  have e2 : (He.tabsB h.get? (tf.map (·.1)) (frX h.get? n) && tabOk (frX h.get? n) tf) = true := congrArg (fun z : AlP × Bool => z.2) e
  obtain ⟨h1, h2⟩ := He.ba e2
  obtain ⟨h3, h4⟩ := He.ba h2
  obtain ⟨h5, h6⟩ := He.ba h4
  have key : ∀ d ∈ tf, PySem.W.codeHdIn (frX h.get? n) (He.cT (frX h.get? n) d.1).1 (He.cT (frX h.get? n) d.1).2 = true ∧ h.get? (He.cT (frX h.get? n) d.1).2 = some { cls := .none, data := .fields #[] } := fun d hd => by
    obtain ⟨k1, k2⟩ := He.ba (List.all_eq_true.mp h1 d.1 (List.mem_map_of_mem hd))
    refine ⟨k1, ?_⟩
    cases q : h.get? (He.cT (frX h.get? n) d.1).2 with
    | none =>
      rw [q] at k2
      cases k2
    | some o =>
      rw [q] at k2
      rw [He.emptyTab_eq k2]
  exact ⟨saysP_of e1, fun d hd => (key d hd).1, fun d hd => (key d hd).2, fun d hd => of_decide_eq_true (List.all_eq_true.mp h3 d hd), of_decide_eq_true h5, fun d hd => of_decide_eq_true (List.all_eq_true.mp h6 d hd)⟩
def hookQ (n : Nat) (fs : List Fx) (ds : List Df) (tf : List MkD) : PySem.W.Hook where
  α := AlP × Bool
  obs := fun s => obsQ n fs ds tf s.heap.get?
  val := fun _ => ((true, ds.map Df.val), true)
  says := fun _ h => ∃ K : PySem.W.Frag, K.In h ∧ SaysQ fs ds tf h K
  of := fun _ _ e => ⟨_, frX_in, saysQ_of e⟩
  keeps := fun _ _ _ ⟨K, hK, c⟩ k => ⟨K, PySem.W.Frag.In.keeps hK k, ⟨c.p, c.hd, fun d hd => k _ _ (c.empty d hd), c.out, c.nd, c.ng⟩⟩
theorem obsQ_eq {n : Nat} {fs : List Fx} {ds : List Df} {tf : List MkD} {g : Addr → Option Obj} {s : Shared} (h : ∀ a, g a = s.heap.get? a) : obsQ n fs ds tf g = (hookQ n fs ds tf).obs s := by
  have e : g = s.heap.get? := funext h
  rw [e] <;> rfl
/-- where the law starts -/
abbrev caT (K : PySem.W.Frag) (tf : List MkD) : Ca := caL K ⟨fun _ => 0, tf.map fun d => ((He.cT K d.1).2, lamQ d.2), [], []⟩
theorem nodup_one {α β γ : Type} {f : α → β} {g : α → γ} : ∀ {l : List α}, (l.map f).Nodup → ∀ a ∈ l, ∀ b ∈ l, f a = f b → g a = g b
  | [], _, a, ha, _, _, _ => absurd ha (by simp)
  | x :: l, h, a, ha, b, hb, e => by
    rw [List.map_cons] at h
    obtain ⟨h1, h2⟩ := List.nodup_cons.mp h
    rcases List.mem_cons.mp ha with ea | ha2
    · rcases List.mem_cons.mp hb with eb | hb2
      · rw [ea, eb]
      · exact absurd (show f x ∈ l.map f by rw [← ea, e]; exact List.mem_map_of_mem hb2) h1
    · rcases List.mem_cons.mp hb with eb | hb2
      · exact absurd (show f x ∈ l.map f by rw [← eb, ← e]; exact List.mem_map_of_mem ha2) h1
      · exact nodup_one h2 a ha2 b hb2 e
theorem tb_start {fs : List Fx} {ds : List Df} {tf : List MkD} {h base : Heap} {K : PySem.W.Frag} {mg : Str → Option Value} (c : SaysQ fs ds tf h K) (hb : ∀ d ∈ tf, LamX.TabB base mg (He.cT K d.1).1 (He.cT K d.1).2) : Tb K mg base ⟨fun _ => 0, tf.map fun d => ((He.cT K d.1).2, lamQ d.2), [], []⟩ tf where
  tab := fun d hd => List.mem_map_of_mem (f := fun d : MkD => ((He.cT K d.1).2, lamQ d.2)) hd
  one := fun p hp p' hp' e => by
    obtain ⟨d, hd, rfl⟩ := List.mem_map.mp hp
    obtain ⟨d', hd', rfl⟩ := List.mem_map.mp hp'
    exact nodup_one (f := fun d : MkD => (He.cT K d.1).2) (g := fun d : MkD => lamQ d.2) c.nd d hd d' hd' e
  tb := hb
theorem walk_slT {l : PySem.W.OpenLaw} {n k : Nat} {q : Program} {loose : List Str} {XP : (Str → Option Value) → Heap → Prop} {YP : World → Heap → Prop} {d : DefRec} {x : Str} (hn : l.most = some n) (hn2 : n ≤ sizeLine) (hdf : d.params.defaults = []) (hr : Room k callerA)
    (F : ∀ (w : World) (mg : Str → Option Value) (fa : Addr) (h : Heap), YP w h → h.Ns mainGlobals mg → mg d.name = some (.ref fa) → ∃ (K : PySem.W.Frag) (fd : FuncData) (sp : Sp) (cs : List (Addr × Addr)), K.In h ∧ (∀ p ∈ cs, h.get? p.2 = some { cls := .none, data := .fields #[] }) ∧ (∀ p ∈ cs, K.lookup p.2 = none) ∧ (∀ p ∈ cs, PySem.W.CodeHd h p.1 p.2) ∧ (∀ (s : Shared) (u : Value), BindsTo s fd ⟨[u], []⟩ [(x, u)]) ∧
      (∀ (H : Hp) (a : Addr) (ns : List Int), ns.length ≤ n → (∀ p ∈ cs, H p.2 = some (.tbl #[])) → SqL K H a (ns.map V.int) → sp [.ref a] H (fun v _ => v = .bl true) fun _ _ _ => False) ∧
      ∀ base : Heap, K.In base → base.Ns mainGlobals mg → (∀ p ∈ cs, LamX.TabB base mg p.1 p.2) → FnOk l.prog w K mg base (L2.CX l.prog w) k fa fd [x] sp) :
    PySem.W.WalkO q loose XP YP l.row.toRowW d [] (fun f vs => PySem.call f vs) := by
  refine Att.attach_callB hn hdf fun w s₀ s₁ mg mb fa o pm cd doc a vs ns G Y ho hd hcd hmg hobj hints hlen hbits hg => ?_
  obtain ⟨K, fd, sp, cs, KX, hT, nT, C, hb, hsp, hF⟩ := F w mg fa _ Y G.T.g hmg
  refine LamX.law_callTs KX G.T.g G.T.b G.T.builtins G.T.nolimit hg hT nT C G.T.bmain hobj hints (Nat.le_trans hlen hn2) hr hF hb (fun H hH hS => hsp H a ns hlen hH hS) fun H e s' c => ?_
  obtain ⟨_, _, _, _, _, _, _, _, _, _, _, _, z⟩ := c
  exact z
theorem Sy.lawT {fs : List Fx} {ds : List Df} {tf : List MkD} {P : Program} {w : World} {K : PySem.W.Frag} {mg : Str → Option Value} {L : Lm} {x y qual : Str} {params : Arguments} {body : List Stmt} {scope : Scope} {k n : Nat} {N : List Str} {b : MSt} (Z : Sy fs ds K mg) (i : Nat)
    (hd : ds[i]? = some ⟨.fn x, x, qual, params, body, scope⟩) (Sc : FnScope N [y] scope) (hn : N.length = n) (hb : BindOk x qual params body scope [y]) (h : ∀ base f, Tb K mg base L tf → DerOk P w K mg base (caL K L) N qual scope k f body b) :
    ∃ fd, (∀ (s : Shared) (u : Value), BindsTo s fd ⟨[u], []⟩ [(y, u)]) ∧ ∀ base : Heap, Tb K mg base L tf → FnOk P w K mg base (L2.CX P w) (k + 1) (He.ga K x) fd [y] (spM K (caL K L) (fnM n 1 b)) := by
  obtain ⟨fd, F⟩ := Z.d i hd
  exact ⟨fd, fun s u => F.bindsA hb s [u] rfl, fun base T => fo_ok F Sc hn rfl fun cdv A outer s H E hr => h base _ T cdv A outer s H E (Bd.of hr)⟩
end SL
set_option Elab.async false
set_option linter.all false
set_option maxRecDepth 100000
set_option maxHeartbeats 2000000
set_option Elab.async false
set_option linter.all false
set_option maxRecDepth 100000
set_option maxHeartbeats 4000000
set_option Elab.async false
set_option linter.all false
set_option maxRecDepth 100000
set_option maxHeartbeats 4000000
namespace SL
open PySem PySem.Spec PyProof.Rows L2 GenW
/-! ### the consumer: an expression whose value is a generator that has not begun -/
/-- what is asked at the first wake -/
abbrev WkZ := Hp → (List V → Hp → Prop) → (List V → Hp → Prop) → (Nat → Hp → Hp → Prop) → Prop
abbrev TZen := L2.St → Hp → (WkZ → Hp → Prop) → Prop
structure PZen (X : Cx) (k : Nat) (e : Expr) (t : TZen) : Prop where
  run : ∀ (pins : List (Addr × Obj)) (s : Shared) (σ : L2.St) (H : Hp) (C : WkZ → Hp → Prop), Inv X pins σ H s → t σ H C → wpAny (model X.prog X.w) X.A (eval e X.env)
    (fun u s' => ∃ sp H1 sc, C sp H1 ∧ Inv X pins σ H1 sc ∧ ZMade X.prog X.w k X.stack H1 sc sp u s') X.xe s
section
variable {X : Cx} {k : Nat} {f : Addr} {fd : FuncData} {ps : List Str} {sp : SpZ} {x : Str} {p pos : Pos}
def zCall (sp : SpZ) (n : Nat) (t : TA) : TZen := fun σ H C => t σ H fun vs H1 => vs.length = n ∧ C (sp vs) H1
theorem pz_call {e : Expr} {es : List Expr} {t : TA} (F : ZFn X.prog X.w X.K X.mg X.base k f fd ps sp) (hr : Room k X.A) (hg : Gl X x) (hm : X.mg x = some (.ref f)) (hk : PySem.W.keepIn X.K (.ref f) = true) (hb : Binds X.K fd ps [])
    (ha : PA X (e :: es) t) (hdb : (x == ("__debug__" : Str)) = false := by decide) (he : starEach (e :: es) X.env = (false, eval e X.env) :: starEach es X.env := by rfl) (hpl : (backTo pos (starEach es X.env)).any (·.1) = false := by rfl) :
    PZen X k (.Call (.Name x p) (e :: es) [] pos) (zCall sp ps.length t) := by
  refine ⟨fun pins s σ H C I h => ?_⟩
  refine wpAny_Call_Name_kw (ld_glob I hg hm ?_ hdb)
  refine PySem.W.callWith_K (h₀ := X.base) I.ok.mod.kin hk (thn (ha.run pos pins s σ H _ I h) fun us s1 ⟨vs, H1, I1, r, hl, q⟩ => ⟨I1.kIn, ?_⟩) he hpl
  have hl2 : (us ++ []).length = ps.length := by rw [List.append_nil, ← r.length, hl]
  have hb2 := hb s1 us I1.kIn hl2
  rw [List.append_nil] at hb2
  refine wpAny_call (codeAny_mono (F.run X.A X.stack s1 H1 ⟨us, []⟩ us vs hr I1.env0 hb2 r hl) fun r s' hq => ?_)
  obtain ⟨u, e, hz⟩ := hq
  subst e
  exact ⟨sp vs, H1, s1, q, I1, hz⟩
end
/-! ### next -/
/-- a generator that has begun or not, n values still to come at most -/
def ZGo (P : Program) (w : World) (A : Around) (outer : List Env) (H0 : Hp) (sc : Shared) (a : Addr) (g : Nat) (ch : List Addr) (Q say : List V → Hp → Prop) (bet : Nat → Hp → Hp → Prop) (n : Nat) (gs : GenState) (s : Shared) : Prop :=
  gs.Goes (model P w) A (ZEnd P w outer H0 sc a g ch Q) (ZItem P w outer H0 sc a g ch say bet) n (.send .none) s
theorem zgo_next {P : Program} {w : World} {A : Around} {E : Value → Shared → Prop} {s : Shared} {outer : List Env} {H0 : Hp} {sc : Shared} {a : Addr} {g n : Nat} {ch : List Addr} {Qg say : List V → Hp → Prop} {bet : Nat → Hp → Hp → Prop} {gs : GenState} {Q : Option Value → Shared → Prop}
    (hn0 : 0 < n) (hh : A.handled = none) (hl : s.heap.NoLimit) (hroom : A.depth < recursionLimit) (hg : s.heap.IsGen a g) (hgs : s.gens[g]? = some gs) (hgo : ZGo P w A.in1 outer H0 sc a g ch Qg say bet n gs (s.setGen g .running))
    (hY : ∀ v s1 gs' ys x H kp, gs'.bare = true → n = sizeLine - ys.length → RelV x v → say (ys ++ [x]) H → Since P w outer H0 sc a g H s1 → Kept0 ch H s s1 → Own0 sc ch kp H s1 →
      (∀ s' H', BtwZ P w outer H0 sc ch kp H' s' → bet ys.length H H' → ∃ m, n = m + 1 ∧ ZGo P w A.in1 outer H0 sc a g ch Qg say bet m gs' s') → Q (some v) (s1.setGen g gs'))
    (hD : ∀ s1 ys H, n = sizeLine - ys.length → Since P w outer H0 sc a g H s1 → Kept0 ch H s s1 → Qg ys H → ∀ h', (∀ b o, s1.heap.get? b = some o → h'.get? b = some o) → Q none { s1.setGen g .finished with heap := h' }) :
    wpAny (model P w) A (pyNext (.ref a)) Q E s := by
  refine next_genG (F := ZFin P w outer H0 sc a g ch Qg) (Er := fun _ _ => False) (Y := ZItem P w outer H0 sc a g ch say bet) hh hl hroom hg hgs hgo (fun v s1 gs' hb hv => ?_) (fun s1 hp h' hk => ?_) fun e s1 he => he.elim
  · obtain ⟨ys, x, H, kp, hn, rv, hs, t1, t2, t3, t4⟩ := hv
    cases n with
    | zero => exact absurd hn0 (Nat.lt_irrefl _)
    | succ m =>
      refine hY v s1 gs' ys x H kp hb ?_ rv hs t1 t2 t3 fun s' H' z y => ⟨m, rfl, t4 s' H' z y⟩
      have hn : m + (ys.length + 1) = sizeLine := hn
      omega
  · obtain ⟨ys, H, hn, t1, t2, hq⟩ := hp
    exact hD s1 ys H (by omega) t1 t2 hq h' hk
end SL
set_option Elab.async false
set_option linter.all false
set_option maxRecDepth 100000
set_option maxHeartbeats 4000000
namespace SL
open PySem PySem.Spec PyProof.Rows L2 GenW
/-! ### a comprehension over a generator: its mirror -/
open Classical in
/-- the elements, each told while the list that is filled lies behind the store -/
noncomputable def lcZ (T : Tg) (te : M W) (r : Rho) (S0 : Sto) : List W → List W → Option (List W)
  | [], acc => some acc
  | z :: zs, acc => match T.run z r with
    | some r1 => match te r1 (S0 ++ [.lst acc]) with
      | .ok w S' => if S' = S0 ++ [.lst acc] then lcZ T te r S0 zs (acc ++ [w]) else none
      | _ => none
    | none => none
/-- the stores at the generator's wakes -/
def sqZ (S0 : Sto) (res : List W) (i : Nat) : Sto := S0 ++ [.lst (res.take i)]
open Classical in
/-- [te for T in g(t)]: the values are g's; gz tells that they come so while the list grows -/
noncomputable def mLcZ (vs : List Nat) (T : Tg) (g : GnM) (gz : GnZ) (t : M (List W)) (te : M W) : M W := fun r S => match t r S with
  | .ok ws S1 => match g ws S1 with
    | .ok zs _ => match lcZ T te (wipeR r vs) S1 zs [] with
      | some res => if T.slots.all vs.contains = true ∧ zs.length < 16000000 ∧ clos S1.length res = true ∧ gz (sqZ S1 res) zs ws (sqZ S1 res 0) = .ok zs (sqZ S1 res zs.length) then .ok (.lst res) S1 else .stuck
      | none => .stuck
    | _ => .stuck
  | .exc c es S1 => .exc c es S1
  | .stuck => .stuck
theorem lcZ_len {T : Tg} {te : M W} {r : Rho} {S0 : Sto} : ∀ {zs acc res : List W}, lcZ T te r S0 zs acc = some res → res.length = acc.length + zs.length ∧ acc <+: res
  | [], acc, res, h => by
    cases h
    exact ⟨by simp, List.prefix_refl _⟩
  | z :: zs, acc, res, h => by
    unfold lcZ at h
    split at h
    · split at h
      · split at h
        · obtain ⟨h1, h2⟩ := lcZ_len h
          rw [List.length_append, List.length_singleton] at h1
          exact ⟨by rw [List.length_cons]; omega, (List.prefix_append _ _).trans h2⟩
        · cases h
      · cases h
    · cases h
/-! what the consumer wants told, and what it leaves -/
def sayZ (K : PySem.W.Frag) (ca : Ca) (S1 : Sto) (res zs : List W) (io : List Addr) (H0 : Hp) (ys : List V) (H : Hp) : Prop :=
  ∃ ws w, RVs K ca io H (ws ++ [w]) ys ∧ ws ++ [w] <+: zs ∧ Ext io H0 io H ∧ Rl0 K ca io (sqZ S1 res ws.length) H
def betZ (K : PySem.W.Frag) (ca : Ca) (S1 : Sto) (res : List W) (io : List Addr) (i : Nat) (H H' : Hp) : Prop := Ext io H io H' ∧ Rl0 K ca io (sqZ S1 res (i + 1)) H'
theorem zok_of {K : PySem.W.Frag} {ca : Ca} {S1 : Sto} {res zs : List W} {io : List Addr} {H0 : Hp} (hl : io.length = S1.length + 1) : ZOk K ca (sqZ S1 res) zs io H0 (sayZ K ca S1 res zs io H0) (betZ K ca S1 res io) where
  len := fun i => by
    unfold sqZ
    rw [List.length_append, hl]
    rfl
  told := fun ys H ws w r p e z => ⟨ws, w, r, p, e, z⟩
  left := fun i H H' h _ => h
/-- the value that comes is the next of zs -/
theorem say_at {K : PySem.W.Frag} {ca : Ca} {S1 : Sto} {res zs : List W} {io : List Addr} {H0 : Hp} {ys : List V} {x : V} {H : Hp} (h : sayZ K ca S1 res zs io H0 (ys ++ [x]) H) : ∃ z, zs[ys.length]? = some z ∧ RV K ca io H z x ∧ Ext io H0 io H ∧ Rl0 K ca io (sqZ S1 res ys.length) H := by
  obtain ⟨ws, w, r, p, ex, z⟩ := h
  have hl : ws.length = ys.length := by
    have := r.len
    simp only [List.length_append, List.length_singleton] at this
    omega
  have hx : (ys ++ [x])[ys.length]? = some x := by
    rw [List.getElem?_append_right (Nat.le_refl _), Nat.sub_self]
    rfl
  have hw : (ws ++ [w])[ys.length]? = some w := by
    rw [← hl, List.getElem?_append_right (Nat.le_refl _), Nat.sub_self]
    rfl
  refine ⟨w, ?_, ?_, ex, by rw [← hl]; exact z⟩
  · obtain ⟨t, rfl⟩ := p
    rw [List.getElem?_append_left (by rw [List.length_append, hl]; exact Nat.lt_succ_self _), hw]
  · obtain ⟨v, hv, rv⟩ := r.get hw
    rw [hx] at hv
    cases hv
    exact rv
end SL
set_option Elab.async false
set_option linter.all false
set_option maxRecDepth 100000
set_option maxHeartbeats 4000000
namespace SL
open PySem PySem.Spec PyProof.Rows L2 GenW
/-! ### expressions, targets that leave the generators as they stand -/
abbrev Same (s s' : Shared) : Prop := s'.gens = s.gens
structure QE (X : Cx) (e : Expr) (t : TE) : Prop where
  run : ∀ (ip : List (Addr × Obj)) (s : Shared) (σ : L2.St) (H : Hp) (Q : VK), Inv X ip σ H s → t σ H Q → wpAny (model X.prog X.w) X.A (eval e X.env) (fun u s' => EP X ip σ Q u s' ∧ Same s s') X.xe s
structure QA (X : Cx) (es : List Expr) (t : TA) : Prop where
  run : ∀ (pos : Pos) (ip : List (Addr × Obj)) (s : Shared) (σ : L2.St) (H : Hp) (Q : List V → Hp → Prop), Inv X ip σ H s → t σ H Q → wpAny (model X.prog X.w) X.A (spliced (backTo pos (starEach es X.env))) (fun us s' => AP X ip σ Q us s' ∧ Same s s') X.xe s
structure QG (X : Cx) (tg : Expr) (t : TG) : Prop where
  run : ∀ (ip : List (Addr × Obj)) (s : Shared) (σ : L2.St) (H : Hp) (v : V) (u : Value) (Q : L2.St → Hp → Prop), Inv X ip σ H s → RelV v u → t v σ H Q →
    wpAny (model X.prog X.w) X.A (assign tg X.env u) (fun _ s' => (∃ σ' H', Inv X ip σ' H' s' ∧ Q σ' H') ∧ Same s s') X.xe s
structure QGs (X : Cx) (ts : List Expr) (t : TGs) : Prop where
  run : ∀ (ip : List (Addr × Obj)) (s : Shared) (σ : L2.St) (H : Hp) (vs : List V) (us : List Value) (Q : L2.St → Hp → Prop), Inv X ip σ H s → Vals vs us → t vs σ H Q →
    wpAny (model X.prog X.w) X.A (assignInOrder ((assignEach ts X.env).map (·.2)) us) (fun _ s' => (∃ σ' H', Inv X ip σ' H' s' ∧ Q σ' H') ∧ Same s s') X.xe s
theorem QE.weak {X : Cx} {e : Expr} {t u : TE} (h : QE X e t) (i : ∀ σ H Q, u σ H Q → t σ H Q) : QE X e u := ⟨fun ip s σ H Q I hw => h.run ip s σ H Q I (i σ H Q hw)⟩
theorem QA.weak {X : Cx} {es : List Expr} {t u : TA} (h : QA X es t) (i : ∀ σ H Q, u σ H Q → t σ H Q) : QA X es u := ⟨fun pos ip s σ H Q I hw => h.run pos ip s σ H Q I (i σ H Q hw)⟩
section
variable {X : Cx} {pos : Pos} {a b : Expr} {ta tb : TE}
theorem qe_var {i : Nat} {x : Str} (hN : X.N[i]? = some x) (hv : Vis X.env.scope x) (hd : (x == ("__debug__" : Str)) = false := by decide) (hcd : (x == ("__classdict__" : Str)) = false := by decide) : QE X (.Name x pos) (tVar i) := ⟨fun ip s σ H Q I ⟨v, e, h⟩ => by
  obtain ⟨m, hn, hl⟩ := I.loc
  obtain ⟨u, r, l⟩ := hl i x v hN e hv
  have done : EP X ip σ Q u s ∧ Same s s := ⟨⟨v, H, I, r, h⟩, rfl⟩
  rcases l with ⟨hk, hm⟩ | ⟨hk, c, hc, hcell⟩
  · exact wpAny_Name (wpAny_loadName_local I.ok.kind hk hn hm done) hd
  · rcases hk with hk | hk
    · exact wpAny_Name (wpAny_loadName_cell I.ok.kind hk hc hcell done) hd
    · exact wpAny_Name (wpAny_loadName_free I.ok.kind hk hc hcell done hcd) hd⟩
theorem qa_nil : QA X [] tNil := ⟨fun _ _ _ _ H Q I h => Calls.spliced_nil ⟨⟨[], H, I, .nil, h⟩, rfl⟩⟩
theorem qa_cons {e : Expr} {es : List Expr} {te : TE} {t : TA} (ha : QE X e te) (hr : QA X es t) (hs : starEach (e :: es) X.env = (false, eval e X.env) :: starEach es X.env := by rfl) : QA X (e :: es) (tCons te t) := ⟨fun pos ip s σ H Q I h => by
  rw [hs]
  show wpAny _ _ (spliced ((false, eval e X.env) :: backTo pos (starEach es X.env))) _ _ s
  exact Calls.spliced_cons (thn (ha.run ip s σ H _ I h) fun u s1 ⟨⟨x, H1, I1, r1, q1⟩, g1⟩ => thn (hr.run pos ip s1 σ H1 _ I1 q1) fun us s2 ⟨⟨xs, H2, I2, r2, q2⟩, g2⟩ => ⟨⟨x :: xs, H2, I2, .cons r1 r2, q2⟩, g2.trans g1⟩)⟩
theorem qe_tup {x1} {es : List Expr} {t : TA} (h : QA X es t) : QE X (.Tuple es x1 pos) (tTup t) := ⟨fun ip s σ H Q I hq => by
  refine wpAny_Tuple_spliced (thn (h.run pos ip s σ H _ I hq) fun us s1 ⟨⟨xs, H1, I1, r, z, q⟩, g⟩ => ⟨r.length ▸ z, ?_, g⟩)
  have fr : H1 s1.heap.objs.size = none := I1.hok.fresh (Nat.le_refl _)
  exact ⟨.ref s1.heap.objs.size, _, I1.laid (t' := s1.toks) (o := .tup xs) (fun b u e => Heap.get?_push_of_some _ e) (Nat.le_refl _) ⟨z, us, r, _, Heap.get?_push_size _ rfl, rfl, _, rfl⟩, rfl, q _ fr⟩⟩
/-! ### targets -/
theorem qg_name {i : Nat} {x : Str} (hN : X.N.Nodup) (hi : X.N[i]? = some x) (hx : X.env.scope.names.lookup x = some .local) : QG X (.Name x pos) (gName i) := ⟨fun ip s σ H v u Q I r h => by
  obtain ⟨m, hn, hl⟩ := id I.loc
  have hiσ : i < σ.length := by rw [I.len]; exact (List.getElem?_eq_some_iff.mp hi).1
  have young : ∀ {b : Addr} {o : Obj}, X.s_0.heap.get? b = some o → b ≠ X.env.locals := fun e => Nat.ne_of_lt (Nat.lt_of_lt_of_le (Heap.lt_size e) I.ok.above)
  refine wpAny_assign_Name (wpAny_storeName_local hx hn (fun h' hn' sb => ⟨⟨σ.set i (some v), H, ?_, h⟩, rfl⟩) (by rw [I.ok.kind]; rfl))
  refine ⟨I.ok, I.os, I.bare, ⟨fun b o e n hb hq => (sb.2 b (young e)).trans (I.base.keep b o e n hb hq), fun b o e n hb hq => ?_, I.base.free, fun b o e hq => ?_, I.base.tups, I.base.frzs, I.base.tbls⟩,
    ⟨_, hn', fun j y v' e1 e2 e3 => ?_⟩, fun y c e => ?_, I.free, I.freeC, fun p hp => ?_, fun b ob e => ?_, by rw [List.length_set]; exact I.len⟩
  · obtain ⟨sl, e1⟩ := I.base.slot b o e n hb hq
    exact ⟨sl, (sb.2 b (young e)).trans e1⟩
  · obtain ⟨o', e1⟩ := I.base.there b o e hq
    exact ⟨o', (sb.2 b (young e)).trans e1⟩
  · by_cases hj : j = i
    · subst hj
      cases hi.symm.trans e1
      rw [List.getElem?_set_self hiσ] at e2
      cases e2
      exact ⟨u, r, .inl ⟨hx, by simp⟩⟩
    · rw [List.getElem?_set_ne (Ne.symm hj)] at e2
      obtain ⟨u', r', q⟩ := hl j y v' e1 e2 e3
      refine ⟨u', r', q.elim (fun ⟨k, e⟩ => .inl ⟨k, ?_⟩) fun ⟨k, c, e, z⟩ => .inr ⟨k, c, e, z.sameBut sb (I.cne y c e)⟩⟩
      have ne : y ≠ x := fun e => hj (nodup_ix hN e1 (e ▸ hi))
      simp [ne, e]
  · obtain ⟨w', z⟩ := I.cell y c e
    exact ⟨w', z.sameBut sb (I.cne y c e)⟩
  · obtain ⟨e, n, ne, nf, d⟩ := I.pin p hp
    exact ⟨(sb.2 p.1 ne).trans e, n, ne, nf, d⟩
  · refine (I.hok b ob e).stay (fun c w' hc q => (sb.2 c fun z => ?_).trans q) (fun _ q => q) fun _ _ q => q
    have fr := I.free
    rw [← z] at fr
    rcases hc with hc | hc
    · rw [hc, e] at fr
      cases fr
    · rw [fr] at hc
      cases hc⟩
theorem qgs_nil : QGs X [] L2.gNil := ⟨fun ip s σ H vs us Q I r ⟨e, h⟩ => by
  subst e
  cases r
  exact assignInOrder_nil ⟨⟨σ, H, I, h⟩, rfl⟩⟩
theorem qgs_cons {e : Expr} {es : List Expr} {t : TG} {u : TGs} (h1 : QG X e t) (h2 : QGs X es u) (hs : (assignEach (e :: es) X.env).map (·.2) = assign e X.env :: (assignEach es X.env).map (·.2) := by rfl) : QGs X (e :: es) (L2.gCons t u) := ⟨fun ip s σ H vs us Q I r ⟨v, vr, e1, h⟩ => by
  subst e1
  cases r with
  | cons r rr =>
    rw [hs]
    exact assignInOrder_cons (thn (h1.run ip s σ H _ _ _ I r h) fun _ s1 ⟨⟨σ1, H1, I1, q1⟩, g1⟩ => thn (h2.run ip s1 σ1 H1 _ _ Q I1 rr q1) fun _ _ z => ⟨z.1, z.2.trans g1⟩)⟩
theorem qg_tup {es : List Expr} {k : Nat} {t : TGs} {n : Nat} (hc : X.calm = true) (h : QGs X es t) (hn : (assignEach es X.env).length = n := by rfl) (hst : (assignEach es X.env).findIdx? (·.1) = none := by rfl) : QG X (.Tuple es k pos) (L2.gTup X.K n t) := ⟨fun ip s σ H v u Q I r ⟨a, xs, e1, hq, hl, hw⟩ => by
  subst e1
  cases r
  obtain ⟨its, rv, ht, hz⟩ := I.tuple hq
  refine assign_Tuple_tuple (I.ok.hd hc) ht (by simp [hn, ← hl, rv.length]) hst fun h' hx => ?_
  have I1 : Inv X ip σ H { s with heap := h' } := I.kept (t' := s.toks) fun b o e => hx b o (Nat.ne_of_lt (Heap.lt_size e)) e
  exact thn (h.run ip _ σ H xs _ Q I1 (by simpa using rv) hw) fun _ _ z => ⟨z.1, z.2⟩⟩
/-- an item appended to a tracked list -/
theorem qapp {ip : List (Addr × Obj)} {σ : L2.St} {H : Hp} {s : Shared} {E : Value → Shared → Prop} {D : Addr} {xs : List V} {y : V} {v : Value} {Q : Value → Shared → Prop} (I : Inv X ip σ H s) (hD : H D = some (.lst xs)) (hz : xs.length < sizeLine) (r : RelV y v)
    (h : ∀ s', Inv X ip σ (upd H D (.lst (xs ++ [y]))) s' → Same s s' → Q .none s') : wpAny (model X.prog X.w) X.A (call (.builtin "list.append") [.ref D, v]) Q E s := by
  obtain ⟨hz', its, n, ri, e⟩ := I.hok D _ hD
  have hl := ri.length
  refine append_at (hsz := by rw [List.size_toArray]; omega) e fun h' sb ho' => h { s with heap := h' } (I.write (t' := s.toks) (by rw [hD]; trivial) (.inl rfl) (fun b u hb q => (sb.2 b hb).trans q) ⟨_, ho'⟩ ⟨by rw [List.length_append]; exact hz, its ++ [v], n + 1, ri.append (.cons r .nil), ?_⟩) rfl
  rw [ho']
  simp
end
end SL
set_option Elab.async false
set_option linter.all false
set_option maxRecDepth 100000
set_option maxHeartbeats 4000000
namespace SL
open PySem PySem.Spec PyProof.Rows L2 GenW
/-! ### a comprehension over a generator: the consumer's loop -/
/-- what is asked: the generator's wish, what it tells, what a turn leaves -/
def tLcZ (tz : TZen) (g : TG) (te : TE) (vs : List Nat) : TE := fun σ H Q => tz σ H fun sp H1 => ∀ D, H1 D = none → ∃ (Qg say : List V → Hp → Prop) (bet : Nat → Hp → Hp → Prop), sp (upd H1 D (.lst [])) Qg say bet ∧
  (∀ ys x H2, say (ys ++ [x]) H2 → ys.length + 1 < sizeLine ∧ g x (wipe σ vs) H2 fun σ3 H3 => wipe σ3 vs = wipe σ vs ∧ te σ3 H3 fun y H4 => ∃ acc, H4 D = some (.lst acc) ∧ acc.length < sizeLine ∧ bet ys.length H2 (upd H4 D (.lst (acc ++ [y])))) ∧
  ∀ ys H2, Qg ys H2 → Q (.ref D) H2
theorem cells_none {names : List (Str × NameKind)} : ∀ {acc : List (Str × Addr)}, (∀ y ∈ names, y.2 ≠ .cell) → ∀ n, cellsFrom n names acc = acc := by
  induction names with
  | nil => exact fun _ _ => rfl
  | cons p r ih =>
    intro acc h n
    obtain ⟨x, q⟩ := p
    have ne : (q == NameKind.cell) = false := by
      have := h (x, q) List.mem_cons_self
      cases q <;> first | exact absurd rfl this | rfl
    unfold cellsFrom
    rw [ne]
    exact ih (fun y hy => h y (List.mem_cons_of_mem _ hy)) n
section
variable {X : Cx} {k : Nat}
/-- the block's context, its entry laid at the generator's call -/
theorem blk_root {ip : List (Addr × Obj)} {σ σw : L2.St} {H1 H3 H : Hp} {sc s3 s : Shared} {scope : Scope} {cenv : Env} (Ic : Inv X ip σ H1 sc) (lt : sc.heap.objs.size ≤ s3.heap.objs.size) (I4 : Inv (X.blk s3 H3 scope cenv []) [] σw H s)
    (os : s.os = sc.os) (un : Un (frs X.stack) [] H1 H sc.heap s.heap) : Inv (X.blk sc H1 scope cenv []) [] σw H s := by
  have o := I4.ok
  exact ⟨⟨o.mod, o.kind, o.glob, o.blt, Nat.le_trans lt o.above, o.inj, o.has, fun x c h e => Nat.le_trans lt (o.cab x c h e), o.hd, o.frames, o.stk, o.exf, Ic.bs, Nat.le_trans Ic.ok.bsz Ic.sz, o.noex, o.exfs, Ic.stack, Ic.stkFree⟩,
    os, I4.bare, un, I4.loc, I4.cell, I4.free, I4.freeC, I4.pin, I4.hok, I4.len⟩
/-- .. behind a wake -/
theorem blk_back {ip : List (Addr × Obj)} {σ σw : L2.St} {H1 H5 H : Hp} {sc s5 s1 : Shared} {scope : Scope} {cenv : Env} (Ic : Inv X ip σ H1 sc) (hcell : ∀ x c, cenv.cells.lookup x = some c → X.env.cells.lookup x = some c) (I5 : Inv (X.blk sc H1 scope cenv []) [] σw H5 s5)
    (os : s1.os = sc.os) (bare : AllBare s1.gens) (un : Un (frs X.stack) [] H1 H sc.heap s1.heap) (hC : s1.heap.get? cenv.locals = s5.heap.get? cenv.locals) (fC : H cenv.locals = none) (hok : HOk X.prog X.w H s1.heap) : Inv (X.blk sc H1 scope cenv []) [] σw H s1 := by
  have cellK : ∀ {x : Str} {c : Addr} {v : Option Value}, cenv.cells.lookup x = some c → s5.heap.IsCell c v → s1.heap.IsCell c v := fun {x c v} e ⟨o', e5, d5⟩ => by
    have e' := hcell x c e
    obtain ⟨v0, o, ho, hd⟩ := Ic.cell x c e'
    have fr := Ic.freeC x c e'
    obtain ⟨sl, q1⟩ := un.any ho fr (by simp)
    obtain ⟨sl2, q2⟩ := I5.base.any (show (X.blk sc H1 scope cenv []).s_0.heap.get? c = some o from ho) fr (by simp)
    rw [q2] at e5
    cases e5
    exact ⟨_, q1, d5⟩
  refine ⟨I5.ok, os, bare, un, ?_, fun x c e => ?_, fC, fun x c e => ?_, fun p hp => absurd (show p ∈ ([] : List (Addr × Obj)) ++ [] from hp) (by simp), hok, I5.len⟩
  · obtain ⟨m, ⟨o, es, ep, ho, r⟩, hl⟩ := I5.loc
    refine ⟨m, ⟨o, es, ep, hC.trans ho, r⟩, fun i x v e1 e2 e3 => ?_⟩
    obtain ⟨u, r, l⟩ := hl i x v e1 e2 e3
    exact ⟨u, r, l.elim .inl fun ⟨q, c, e, z⟩ => .inr ⟨q, c, e, cellK e z⟩⟩
  · obtain ⟨v, z⟩ := I5.cell x c e
    exact ⟨v, cellK e z⟩
  · have e' := hcell x c e
    obtain ⟨v0, o, ho, hd⟩ := Ic.cell x c e'
    exact un.free c o ho (Ic.freeC x c e') (by simp)
theorem lc_coreZ {pins : List (Addr × Obj)} {s : Shared} {σ : L2.St} {H : Hp} {Q : VK} {elt tg iter : Expr} {scope : Scope} {own : List (Str × Nat)} {pos pos' : Pos} {tz : TZen} {g : TG} {te : TE} {use : Option (Value → Sem Unit)} {Qf : Value → Shared → Prop}
    (hN : X.N.Nodup) (hr : Room (k + 1) X.A) (I : Inv X pins σ H s) (hz : PZen X k iter tz) (ok : BlkOk X.N X.env.scope scope own) (hnc : ∀ y ∈ scope.names, y.2 ≠ .cell)
    (hg : ∀ (s : Shared) (H : Hp) (C : Addr) (cl : List (Str × Addr)) (fp : List Addr), QG (X.blk s H scope (compEnvC scope cl C X.env) fp) tg g) (he : ∀ (s : Shared) (H : Hp) (C : Addr) (cl : List (Str × Addr)) (fp : List Addr), QE (X.blk s H scope (compEnvC scope cl C X.env) fp) elt te)
    (hs : ∀ x, foldedSetIterable iter X.env x = pure x) (h : tLcZ tz g te (own.map (·.2)) σ H Q)
    (fin : ∀ D C s' m H', Inv X pins σ H' s' → Q (.ref D) H' → s'.heap.Ns C m → FpOk X pins H' C → compPost (model X.prog X.w) X.A X.xe use Qf (.ref D) C (.ok .next) s') :
    wpAny (model X.prog X.w) X.A (comprehension (.ListComp elt [⟨tg, iter, [], 0⟩] scope pos) scope X.env pos' (newList []) false (eval iter X.env) use) Qf X.xe s := by
  have fr : ∀ y ∈ scope.names, y.2 = .free → ∃ c, X.env.cells.lookup y.1 = some c := fun y hy e => (ok.free y hy e).elim (fun q => I.ok.has _ (.inl q)) fun q => I.ok.has _ (.inr q)
  refine wpAny_comprehension_free (use := use) rfl hs (closure_ok fr) ok.kind (fun y hy e => by rw [ok.uniq y hy, e]) (thn (hz.run pins s σ H _ I h) fun u s2 hu => ?_)
  obtain ⟨sp, H1, sc, ask, Ic, a, gi, c, rfl, ha1, ha2, hgen, hgs, hos, hba, hlim, hk2, wake⟩ := hu
  refine wpAny_pyIter_gen hgen (wpAny_newObj_type (newEnv_comp ?_) (by show 0 ≤ sizeLine; decide))
  obtain ⟨D, hD⟩ : ∃ D, D = s2.heap.objs.size := ⟨_, rfl⟩
  rw [← hD]
  have I2 : Inv X pins σ H1 s2 := Ic.call' (ch := []) hos (Un.kept hk2) (Ic.hok.kept hk2) hba fun b hb => by cases hb
  have nD : H1 D = none := I2.hok.fresh (Nat.le_of_eq hD.symm)
  obtain ⟨Qg, say, bet, hsp, turn, last⟩ := ask D nD
  obtain ⟨s3, e3⟩ : ∃ s3 : Shared, s3 = { s2 with heap := s2.heap.push { cls := .type "list", data := .seq ([] : List Value).toArray } } := ⟨_, rfl⟩
  have heap3 : s3.heap = s2.heap.push { cls := .type "list", data := .seq ([] : List Value).toArray } := by rw [e3]
  have up : ∀ b o, s2.heap.get? b = some o → s3.heap.get? b = some o := fun b o e => by rw [heap3]; exact Heap.get?_push_of_some _ e
  have I3 : Inv X pins σ (upd H1 D (.lst [])) s3 := by
    rw [e3]
    refine I2.laid (t' := s2.toks) (fun b o e => Heap.get?_push_of_some _ e) (Nat.le_of_eq hD.symm) ⟨Nat.zero_le _, [], 0, .nil, ?_⟩
    rw [hD]
    exact Heap.get?_push_size _ rfl
  have I4 := block_start I3 ok hN (fp := []) fun b hb => by cases hb
  have sz3 : s2.heap.objs.size < s3.heap.objs.size := by rw [heap3, Heap.size_push]; exact Nat.lt_succ_self _
  have szc : sc.heap.objs.size ≤ s2.heap.objs.size := Nat.le_trans ha1 (Nat.le_of_lt ha2)
  have os3 : s3.os = sc.os := by rw [e3]; exact hos
  have gen3 : s3.gens = s2.gens := by rw [e3]
  rw [← e3]
  obtain ⟨s4, e4⟩ : ∃ s4 : Shared, s4 = { s3 with heap := pushCells (s3.heap.push { cls := .type "dict", data := .dict #[] }) scope.names } := ⟨_, rfl⟩
  have up4 : ∀ b o, s2.heap.get? b = some o → s4.heap.get? b = some o := fun b o e => by rw [e4]; exact pushCells_keeps _ _ _ _ (Heap.get?_push_of_some _ (up b o e))
  have os4 : s4.os = sc.os := by rw [e4]; exact os3
  have gen4 : s4.gens = s2.gens := by rw [e4]; exact gen3
  rw [← e4] at I4 ⊢
  have un4 : Un (frs X.stack) [] H1 (upd H1 D (.lst [])) sc.heap s4.heap := Un.laid (fun b o e => up4 b o (hk2 b o e)) (by rw [hD]; exact szc) nD
  have hcell : ∀ x c, (compEnvC scope (cellsFrom (s3.heap.objs.size + 1) scope.names (cloFrom X.env.cells scope.names [])) s3.heap.objs.size X.env).cells.lookup x = some c → X.env.cells.lookup x = some c := fun x c e => by
    have e : (cellsFrom (s3.heap.objs.size + 1) scope.names (cloFrom X.env.cells scope.names [])).lookup x = some c := e
    rw [cells_none hnc] at e
    rcases cloFrom_mem (PySem.mem_of_lookup e) with q | ⟨h1, h2⟩
    · cases q
    · obtain ⟨c', hc'⟩ := fr _ h1 rfl
      have hc' : X.env.cells.lookup x = some c' := hc'
      subst h2
      rw [hc']
      rfl
  have I4 := blk_root Ic (Nat.le_trans szc (Nat.le_of_lt sz3)) I4 os4 un4
  have pg := hg sc H1 s3.heap.objs.size (cellsFrom (s3.heap.objs.size + 1) scope.names (cloFrom X.env.cells scope.names [])) []
  have pe := he sc H1 s3.heap.objs.size (cellsFrom (s3.heap.objs.size + 1) scope.names (cloFrom X.env.cells scope.names [])) []
  show codeAny _ _ (.compStart (.ListComp elt [⟨tg, iter, [], 0⟩] scope pos) 0 (.ref a) (.ref D) (compEnvC scope (cellsFrom (s3.heap.objs.size + 1) scope.names (cloFrom X.env.cells scope.names [])) s3.heap.objs.size X.env)) (compPost (model X.prog X.w) X.A X.xe use Qf (.ref D) s3.heap.objs.size) s4
  obtain ⟨C, hC⟩ : ∃ C, C = s3.heap.objs.size := ⟨_, rfl⟩
  rw [← hC] at I4 pg pe hcell ⊢
  obtain ⟨ce, hce⟩ : ∃ ce, ce = compEnvC scope (cellsFrom (C + 1) scope.names (cloFrom X.env.cells scope.names [])) C X.env := ⟨_, rfl⟩
  have cL : ce.locals = C := by rw [hce]; rfl
  rw [← hce] at I4 pg pe hcell ⊢
  have szC : s2.heap.objs.size < C := by rw [hC]; exact sz3
  have gen_4 : s4.heap.IsGen a gi := hgen.keeps up4
  have nofr : ∀ {b : Addr}, sc.heap.objs.size ≤ b → b ∉ frs X.stack := fun {b} hb m => (List.mem_cons.mp (Ic.stkSub b m)).elim (fun e => Nat.lt_irrefl _ (Nat.lt_of_lt_of_le Ic.lt (by rw [← e]; exact hb))) fun z => Ic.nofs hb z
  have hdl : X.A.handled = none := hr.hd
  have loop : codeAny (model X.prog X.w) X.A (.compLoop (.ListComp elt [⟨tg, iter, [], 0⟩] scope pos) 0 (.ref a) (.ref D) ce) (compPost (model X.prog X.w) X.A X.xe use Qf (.ref D) C) s4 := by
    refine compLoop_any (fun n s' => ∃ H' gs, Inv (X.blk sc H1 scope ce []) [] (wipe σ (own.map (·.2))) H' s' ∧ s'.heap.IsGen a gi ∧ s'.gens[gi]? = some gs ∧ 0 < n ∧ ZGo X.prog X.w X.A.in1 X.stack H1 sc a gi [C] Qg say bet n gs (s'.setGen gi .running)) ?_ sizeLine ⟨_, .fresh c, I4, gen_4, by rw [gen4]; exact hgs, by decide, rfl, ?_⟩
    · rintro n s5 ⟨H5, gs, I5, g5, gs5, hn, go⟩
      have hlt : gi + 1 ≤ s5.gens.size := (Array.getElem?_eq_some_iff.mp gs5).1
      refine wpAny_gsz hlt (zgo_next hn hdl I5.nolimit hr.depth g5 gs5 go (fun v s1 gs' ys x H6 kp hb en rv hsay t1 t2 t3 res hsz => ?_) fun s1 ys H6 en t1 t2 hq h' hk hsz => ?_)
      · obtain ⟨fC, gC⟩ := t2 C (List.mem_singleton.mpr rfl)
        have hsz1 : gi < s1.gens.size := by
          have q : (s1.setGen gi gs').gens.size = s1.gens.size := setGen_size _ _ _
          have hsz : gi + 1 ≤ (s1.setGen gi gs').gens.size := hsz
          omega
        have J1 : Inv (X.blk sc H1 scope ce []) [] (wipe σ (own.map (·.2))) H6 (s1.setGen gi gs') := blk_back Ic hcell I5 t1.os (allBare_setGen t1.bare hb) t1.un (by rw [cL]; exact gC) (by rw [cL]; exact fC) t1.hok
        obtain ⟨oa, nm, qn, hoa, hca, hda, hsa⟩ := t1.gen
        have aC : a ≠ C := Nat.ne_of_lt (Nat.lt_trans ha2 szC)
        have J2 : Inv (X.blk sc H1 scope ce []) ((a, oa) :: kp) (wipe σ (own.map (·.2))) H6 (s1.setGen gi gs') := J1.pins_of fun p hp => by
          rcases List.mem_cons.mp hp with rfl | hp
          · exact ⟨hoa, t1.gfree, by show a ≠ ce.locals; rw [cL]; exact aC, nofr ha1, fun v z => by rw [hda] at z; cases z⟩
          · obtain ⟨q1, q2, q3, q4, q5⟩ := t3 p hp
            exact ⟨q1, q2, by show p.1 ≠ ce.locals; rw [cL]; exact fun e => q4 (List.mem_singleton.mpr e), nofr q3, q5⟩
        refine go_of (show (s1.setGen gi gs').heap.get? a = some oa from hoa) hca hda (by decide) ?_
        obtain ⟨hys, tg⟩ := turn ys x H6 hsay
        refine thnF (pg.run _ _ _ H6 x v _ J2 rv tg) fun _ s7 ⟨⟨σ7, H7, I7, hw, q7⟩, g7⟩ => wpAny_tests_nil ?_
        rw [if_pos rfl]
        refine thnF (pe.run _ s7 σ7 H7 _ I7 q7) fun z s10 ⟨⟨yv, H10, I10, r10, acc, hD10, hz10, nx⟩, g10⟩ => ?_
        refine qapp (X := X.blk sc H1 scope ce []) I10 hD10 hz10 r10 fun s11 I11 g11 => ?_
        have pin11 : ∀ p ∈ (a, oa) :: kp, s11.heap.get? p.1 = some p.2 ∧ upd H10 D (.lst (acc ++ [yv])) p.1 = none := fun p hp => by
          obtain ⟨q1, q2, _⟩ := I11.pin p (List.mem_append_right _ hp)
          exact ⟨q1, q2⟩
        obtain ⟨m, em, gom⟩ := res (s11.setGen gi .running) _ ⟨I11.os, allBare_setGen I11.bare rfl, I11.base, I11.hok, fun b hb => by
          rw [List.mem_singleton.mp hb]
          obtain ⟨mm, ⟨o, es, ep, ho, hd, _⟩, _⟩ := I11.loc
          have ho : s11.heap.get? ce.locals = some o := ho
          have hf : upd H10 D (.lst (acc ++ [yv])) ce.locals = none := I11.free
          rw [cL] at ho hf
          exact ⟨hf, o, ho, fun v z => by rw [hd] at z; cases z⟩, fun p hp => pin11 p (List.mem_cons_of_mem _ hp)⟩ nx
        refine ⟨m, by omega, _, gs', ((show Inv (X.blk sc H1 scope ce []) ([] ++ ((a, oa) :: kp)) σ7 _ s11 from I11).unpinned (pins := [])).weak (by rw [← hw, wipe_length]) (fun j v e => by rw [← hw] at e; exact (wipe_some e).1), ?_, ?_, by omega, gom⟩
        · exact ⟨oa, nm, qn, (pin11 (a, oa) List.mem_cons_self).1, hca, hda, hsa⟩
        · have e : s11.gens = (s1.setGen gi gs').gens := g11.trans (g10.trans g7)
          rw [e]
          exact setGen_at hsz1
      · obtain ⟨fC, gC⟩ := t2 C (List.mem_singleton.mpr rfl)
        obtain ⟨mm, ⟨o, es, ep, ho, r⟩, _⟩ := I5.loc
        have ho : s5.heap.get? ce.locals = some o := ho
        rw [cL] at ho
        have I7 : Inv X pins σ H6 { s1.setGen gi .finished with heap := h' } := Ic.call' (ch := []) t1.os (t1.un.trans (Un.kept hk)) (t1.hok.kept hk) (allBare_setGen t1.bare rfl) fun b hb => by cases hb
        exact fin D C _ mm H6 I7 (last ys H6 hq) ⟨o, es, ep, hk C o (gC.trans ho), r⟩ (Ic.fpOk (Nat.le_trans szc (Nat.le_of_lt szC)) fC)
    · refine wake X.A.in1 [C] (s4.setGen gi .running) _ Qg say bet hr.in1 I.ok.frames (fun b hb => ?_) up4 os4 (allBare_setGen (by rw [gen4]; exact hba) rfl) un4 I4.hok (fun b h1 h2 => ?_) hsp
      · rw [List.mem_singleton.mp hb]
        obtain ⟨mm, ⟨o, es, ep, ho, hd, _⟩, _⟩ := I4.loc
        have ho : s4.heap.get? ce.locals = some o := ho
        have hf : upd H1 D (.lst []) ce.locals = none := I4.free
        rw [cL] at ho hf
        exact ⟨Nat.le_of_lt szC, hf, o, ho, fun v z => by rw [hd] at z; cases z⟩
      · rw [upd_ne (by rw [hD]; exact Nat.ne_of_lt h2)]
        exact Ic.hok.fresh h1
  exact codeAny_compStart_list loop (wpAny_pyIter_gen gen_4 loop)
/-- as a value -/
theorem pe_lcZ {elt tg iter : Expr} {scope : Scope} {own : List (Str × Nat)} {pos : Pos} {tz : TZen} {g : TG} {te : TE} (hN : X.N.Nodup) (hr : Room (k + 1) X.A) (hz : PZen X k iter tz) (ok : BlkOk X.N X.env.scope scope own) (hnc : ∀ y ∈ scope.names, y.2 ≠ .cell)
    (hg : ∀ (s : Shared) (H : Hp) (C : Addr) (cl : List (Str × Addr)) (fp : List Addr), QG (X.blk s H scope (compEnvC scope cl C X.env) fp) tg g) (he : ∀ (s : Shared) (H : Hp) (C : Addr) (cl : List (Str × Addr)) (fp : List Addr), QE (X.blk s H scope (compEnvC scope cl C X.env) fp) elt te)
    (hs : ∀ x, foldedSetIterable iter X.env x = pure x := by intro _; rfl) : PE X (.ListComp elt [⟨tg, iter, [], 0⟩] scope pos) (tLcZ tz g te (own.map (·.2))) := ⟨fun pins s σ H Q I h => by
  rw [eval_ListComp]
  exact lc_coreZ hN hr I hz ok hnc hg he hs h fun D C s' m H' I' q hn ⟨f0, f1, f2, f3, f4, f5⟩ => ⟨m, hn, fun h' sb => ⟨.ref D, H', I'.turned (t' := s'.toks) (fun b o hb e => (sb.2 b hb).trans e) f0 f1 f3 f4 f5, rfl, q⟩⟩⟩
end
end SL
set_option Elab.async false
set_option linter.all false
set_option maxRecDepth 100000
set_option maxHeartbeats 4000000
namespace SL
open PySem PySem.Spec PyProof.Rows L2 GenW
/-! ### mirrors: expressions that leave the generators as they stand -/
abbrev MQ (X : Cx) (ca : Ca) (E : XK) (e : Expr) (m : M W) : Prop := QE X e (tE X.K ca E m)
abbrev MQA (X : Cx) (ca : Ca) (E : XK) (es : List Expr) (m : M (List W)) : Prop := QA X es (tA X.K ca E m)
abbrev MQG (X : Cx) (tg : Expr) (T : Tg) : Prop := QG X tg (T.g X.K)
section
variable {X : Cx} {ca : Ca} {E : XK} {pos : Pos}
theorem mq_var (i : Nat) {x : Str} (hN : X.N[i]? = some x := by rfl) (hv : Vis X.env.scope x := by first | exact Or.inl rfl | exact Or.inr (Or.inl rfl) | exact Or.inr (Or.inr rfl)) (hd : (x == ("__debug__" : Str)) = false := by decide) (hcd : (x == ("__classdict__" : Str)) = false := by decide) : MQ X ca E (.Name x pos) (mVar i) :=
  QE.weak (qe_var hN hv hd hcd) fun σ H Q ⟨io, r, S, l, p⟩ => by
    unfold mVar at p
    split at p
    · rename_i w q
      obtain ⟨v, hv, rv⟩ := l.e.2 i w q
      exact ⟨v, hv, p.done l.z v rv⟩
    · exact p.elim
theorem mqa_nil : MQA X ca E [] mNil := QA.weak qa_nil fun σ H Q ⟨io, r, S, l, p⟩ => p.done l.z _ .nil
theorem mqa_cons {e : Expr} {es : List Expr} {m : M W} {t : M (List W)} (ha : MQ X ca E e m) (hr : MQA X ca E es t) (hs : starEach (e :: es) X.env = (false, eval e X.env) :: starEach es X.env := by rfl) : MQA X ca E (e :: es) (mCons m t) :=
  QA.weak (qa_cons ha hr hs) fun σ H Q ⟨io, r, S, l, p⟩ => tE_imp (tE_bind l p) fun v H1 ⟨io1, S1, w, e1, l1, rv, p1⟩ => tA_imp (tA_bind l1 p1) fun vs H2 ⟨io2, S2, ws, e2, l2, rvs, p2⟩ => p2.done l2.z _ (.cons (rv.mono e2) rvs)
theorem mq_tup {es : List Expr} {x1 : Nat} {t : M (List W)} (h : MQA X ca E es t) : MQ X ca E (.Tuple es x1 pos) (mTup t) := QE.weak (qe_tup h) fun σ H Q ⟨io, r, S, l, p⟩ => by
  refine tA_imp (tA_bind l p) fun vs H1 ⟨io1, S1, ws, e1, l1, rvs, p1⟩ => ?_
  split at p1
  · rename_i hl
    rw [← rvs.len] at hl
    exact ⟨lim_le hl, fun q hq => Post.newW p1 l1.z hq _ (rv_newT l1.z hq rvs)⟩
  · exact p1.elim
theorem mqg_name (i : Nat) {x : Str} (hN : X.N.Nodup) (hi : X.N[i]? = some x := by rfl) (hx : X.env.scope.names.lookup x = some .local := by rfl) : MQG X (.Name x pos) (.n i) := qg_name hN hi hx
theorem mqg_tup {es : List Expr} {k : Nat} {is : List Nat} (hc : X.calm = true) (h : QGs X es (gNs is)) (hl : es.length = is.length := by rfl) (hn : (assignEach es X.env).length = es.length := by rfl) (hst : (assignEach es X.env).findIdx? (·.1) = none := by rfl) : MQG X (.Tuple es k pos) (.t is) := by
  have q := qg_tup (k := k) (pos := pos) (n := es.length) hc h hn hst
  rw [hl] at q
  exact q
theorem mqgs_nil : QGs X [] (gNs []) := qgs_nil
theorem mqgs_cons {es : List Expr} {is : List Nat} {e : Expr} {i : Nat} (h : QG X e (gName i)) (t : QGs X es (gNs is)) (hs : (assignEach (e :: es) X.env).map (·.2) = assign e X.env :: (assignEach es X.env).map (·.2) := by rfl) : QGs X (e :: es) (gNs (i :: is)) := qgs_cons h t hs
end
/-! ### the comprehension's mirror does what it says -/
theorem lcZ_at {T : Tg} {te : M W} {r : Rho} {S0 : Sto} {res : List W} : ∀ {zs acc : List W}, lcZ T te r S0 zs acc = some res → ∀ i z, zs[i]? = some z →
    ∃ r1 w, T.run z r = some r1 ∧ te r1 (S0 ++ [.lst (res.take (acc.length + i))]) = .ok w (S0 ++ [.lst (res.take (acc.length + i))]) ∧ res.take (acc.length + i + 1) = res.take (acc.length + i) ++ [w]
  | [], acc, h, i, z, e => by simp at e
  | x :: zs, acc, h, i, z, e => by
    have pre := (lcZ_len h).2
    unfold lcZ at h
    split at h
    · rename_i r1 e1
      split at h
      · rename_i w S' e2
        split at h
        · rename_i e3
          subst e3
          cases i with
          | zero =>
            cases e
            have q : res.take acc.length = acc := by
              obtain ⟨t, rfl⟩ := pre
              simp
            refine ⟨r1, w, e1, by rw [Nat.add_zero, q]; exact e2, ?_⟩
            obtain ⟨t, ht⟩ := (lcZ_len h).2
            show res.take (acc.length + 1) = res.take acc.length ++ [w]
            rw [q, ← ht, ← List.length_singleton (a := w), ← List.length_append, List.take_left]
          | succ i =>
            have := lcZ_at h i z (by simpa using e)
            rw [List.length_append, List.length_singleton, Nat.add_assoc acc.length 1 i, Nat.add_comm 1 i] at this
            exact this
        · cases h
      · cases h
    · cases h
theorem app_last {S : Sto} {c d : Ce} : (S ++ [c])[S.length]? = some c ∧ (S ++ [c]).set S.length d = S ++ [d] := by
  refine ⟨?_, ?_⟩
  · rw [List.getElem?_append_right (Nat.le_refl _), Nat.sub_self]
    rfl
  · rw [List.set_append_right _ _ (Nat.le_refl _), Nat.sub_self]
    rfl
theorem kept_last (S : Sto) (c : Ce) : Kept S (S ++ [c]) := ⟨by simp, fun n c h q => .inl (by rw [List.getElem?_append_left h] at q; exact q)⟩
theorem lcZ_imp {K : PySem.W.Frag} {ca : Ca} {E : XK} {vs : List Nat} {T : Tg} {g : GnM} {gz : GnZ} {t : M (List W)} {te : M W} {n : Nat} {σ : L2.St} {H : Hp} {Q : VK} (hn : ∀ Sq zs ws S zs' S', gz Sq zs ws S = .ok zs' S' → ws.length = n) (h : tE K ca E (mLcZ vs T g gz t te) σ H Q) :
    tLcZ (zCall (spZ K ca gz) n (tA K ca E t)) (T.g K) (tE K ca (fun _ _ _ => False) te) vs σ H Q := by
  obtain ⟨io, r, S, l, p⟩ := h
  show tA K ca E t σ H _
  refine ⟨io, r, S, l, ?_⟩
  unfold mLcZ at p
  cases q : t r S with
  | stuck =>
    simp only [q] at p
    exact p.elim
  | exc c ws S2 =>
    simp only [q] at p
    exact p
  | ok ws S1 =>
    simp only [q] at p
    intro io1 H1 e1 z1 us rvs
    cases q2 : g ws S1 with
    | stuck =>
      simp only [q2] at p
      exact p.elim
    | exc c es S2 =>
      simp only [q2] at p
      exact p.elim
    | ok zs S2 =>
      simp only [q2] at p
      cases q3 : lcZ T te (wipeR r vs) S1 zs [] with
      | none =>
        simp only [q3] at p
        exact p.elim
      | some res =>
        simp only [q3] at p
        split at p
        · rename_i hcd
          obtain ⟨hT, hlen, hclos, hgz⟩ := hcd
          refine ⟨by rw [rvs.len]; exact hn _ _ _ _ _ _ hgz, fun D nD => ?_⟩
          have hres := (lcZ_len q3).1
          have hres : res.length = zs.length := by simpa using hres
          have eD : Ext io1 H1 (io1 ++ [D]) (upd H1 D (.lst [])) := ext_cell nD
          have hio : (io1 ++ [D]).length = S1.length + 1 := by rw [List.length_append, z1.len]; rfl
          have hDn : (io1 ++ [D])[S1.length]? = some D := by
            rw [List.getElem?_append_right (by rw [z1.len]; exact Nat.le_refl _), z1.len, Nat.sub_self]
            rfl
          have re1 : RE K ca io1 H1 (wipeR r vs) (wipe σ vs) := (l.e.mono e1).wipe vs
          refine ⟨fun ys H2 => RVs K ca (io1 ++ [D]) H2 zs ys ∧ Ext (io1 ++ [D]) (upd H1 D (.lst [])) (io1 ++ [D]) H2 ∧ Rl0 K ca (io1 ++ [D]) (sqZ S1 res zs.length) H2, sayZ K ca S1 res zs (io1 ++ [D]) (upd H1 D (.lst [])), betZ K ca S1 res (io1 ++ [D]), ?_, fun ys x H2 hsay => ?_, fun ys H2 hq => ?_⟩
          · refine ⟨io1 ++ [D], sqZ S1 res, zs, ws, zok_of hio, ?_, rvs.mono eD, hgz, fun H' e z us' r' => ⟨r', e, z⟩⟩
            unfold sqZ
            rw [List.take_zero]
            exact z1.cell nD ⟨[], upd_same, rfl⟩
          · obtain ⟨z, hz, rz, ex, zz⟩ := say_at hsay
            have hi : ys.length < zs.length := (List.getElem?_eq_some_iff.mp hz).1
            obtain ⟨r1, w, h1, h2, h3⟩ := lcZ_at q3 ys.length z hz
            simp only [List.length_nil, Nat.zero_add] at h2 h3
            refine ⟨lim_lt (by omega), T.ok h1 rz (re1.mono (eD.trans ex)) fun σ3 re3 hw => ⟨?_, io1 ++ [D], r1, S1 ++ [.lst (res.take ys.length)], ⟨zz, re3⟩, ?_⟩⟩
            · rw [hw vs fun i hi => by simpa using List.all_eq_true.mp hT i hi, wipe_wipe]
            · rw [h2]
              intro io4 H4 e4 z4 y ry
              have eio : io1 ++ [D] = io4 := e4.px.eq_of_length (by rw [z4.len, hio]; simp)
              subst eio
              obtain ⟨b, b1, us4, b2, b3⟩ := z4.at (app_last (d := .lst [])).1
              rw [hDn] at b1
              cases b1
              have hl4 : us4.length < sizeLine := lim_lt (by rw [b3.len, List.length_take]; omega)
              refine ⟨us4, b2, hl4, e4.trans (ext_put hDn b2), ?_⟩
              have := z4.put hDn b2 (c := .lst (res.take ys.length ++ [w])) ⟨us4 ++ [y], upd_same, (b3.app (.cons ry .nil)).mono (ext_put hDn b2)⟩
              rw [app_last.2, ← h3] at this
              exact this
          · obtain ⟨rz, ex, zz⟩ := hq
            unfold sqZ at zz
            rw [← hres, List.take_length] at zz
            obtain ⟨b, b1, us4, b2, b3⟩ := zz.at (app_last (d := .lst [])).1
            rw [hDn] at b1
            cases b1
            have sh := z1.shrink zz (kept_last S1 _)
            rw [List.take_left] at sh
            rw [← z1.len] at hclos
            have p1 := Post.mono e1 p
            refine p1 io1 H2 ⟨⟨[], by simp, by simp⟩, fun a o na q d => ?_, fun a o q => ?_⟩ sh _ ⟨D, us4, rfl, ⟨b2, z1.free nD⟩, b3.shrink hclos⟩
            · have ne := ne_of_none q nD
              refine ex.kp a o (fun m => ?_) (by rw [upd_ne ne]; exact q) d
              rcases List.mem_append.mp m with m | m
              · exact na m
              · exact ne (List.mem_singleton.mp m)
            · exact ex.dom a o (by rw [upd_ne (ne_of_none q nD)]; exact q)
        · exact p.elim
section
variable {X : Cx} {ca : Ca} {E : XK} {x : Str} {k j n : Nat} {g : GnM} {gz : GnZ} {tg e : Expr} {es : List Expr} {T : Tg} {t : M (List W)} {te : M W} {elt : Expr} {scope : Scope} {own : List (Str × Nat)} {pos p cpos : Pos}
theorem me_lcZ (vs : List Nat) (F : GzAt X.prog X.w X.K X.mg X.base ca x k gz) (b : Bd X E j) (hN : X.N.Nodup) (ha : MA X ca E (e :: es) t) (ok : BlkOk X.N X.env.scope scope own) (hnc : ∀ y ∈ scope.names, y.2 ≠ .cell) (hv : own.map (·.2) = vs)
    (hg : ∀ (s : Shared) (H : Hp) (C : Addr) (cl : List (Str × Addr)) (fp : List Addr), MQG (X.blk s H scope (compEnvC scope cl C X.env) fp) tg T) (he : ∀ (s : Shared) (H : Hp) (C : Addr) (cl : List (Str × Addr)) (fp : List Addr), MQ (X.blk s H scope (compEnvC scope cl C X.env) fp) ca (fun _ _ _ => False) elt te)
    (hk : k + 1 ≤ j := by decide) (hgl : Gl X x := by rfl) (hdb : (x == ("__debug__" : Str)) = false := by decide) (hst : starEach (e :: es) X.env = (false, eval e X.env) :: starEach es X.env := by rfl) (hpl : (backTo cpos (starEach es X.env)).any (·.1) = false := by rfl)
    (hs : ∀ y, foldedSetIterable (.Call (.Name x p) (e :: es) [] cpos) X.env y = pure y := by intro _; rfl) : ME X ca E (.ListComp elt [⟨tg, .Call (.Name x p) (e :: es) [] cpos, [], 0⟩] scope pos) (mLcZ vs T g gz t te) := by
  subst hv
  obtain ⟨f, fd, ps, h1, h2, h3, ha', h4⟩ := F
  have hr : Room (k + 1) X.A := b.hr.mono hk
  exact PE.weak (pe_lcZ hN hr (pz_call h4 (hr.mono (Nat.le_succ k)) hgl h1 h2 h3 ha hdb hst hpl) ok hnc hg he hs) fun σ H Q h => lcZ_imp ha' h
end
/-! ### from what the head tells -/
section
variable {fs : List Fx} {ds : List Df} {P : Program} {w : World} {K : PySem.W.Frag} {mg : Str → Option Value} {base : Heap} {ca : Ca} {x qual : Str} {k n j : Nat} {params : Arguments} {body : List Stmt} {scope : Scope} {N ps : List Str} {b : (Nat → Sto) → List W → MGy}
theorem Sy.gz (Z : Sy fs ds K mg) (i ig : Nat) (hd : ds[i]? = some ⟨.fn x, x, qual, params, body, scope⟩) (hg : fs[ig]? = some (.fa (.glo x))) (Sc : GScope N ps scope) (hce : ∀ n, cellsFrom n scope.names [] = []) (hn : N.length = n) (hj : ps.length = j)
    (hb : BindOk x qual params body scope ps) (h : ∀ f, DerOkZ P w K mg base ca N qual scope k f body b) : GzAt P w K mg base ca x (k + 1) fun Sq zs => fnG n j (b Sq zs) := by
  obtain ⟨fd, F⟩ := Z.d i hd
  refine ⟨_, fd, ps, Z.glo ig hg, F.kp, F.bindsN hb, fun Sq zs ws S zs' S' e => ?_, gfz_ok F Sc hce hn hj (h _)⟩
  unfold fnG at e
  dsimp only at e
  split at e
  · rename_i hl
    rw [hl, hj]
  · cases e
end
end SL
set_option Elab.async false
set_option linter.all false
set_option maxRecDepth 100000
set_option maxHeartbeats 6000000
/-! set(l) of a long list of whole numbers, few of which differ -/
namespace SL
open PySem PySem.Spec PyProof.Rows L2
section
variable {X : Cx} {ca : Ca} {E : XK}
/-- sorted(set(l)), l long -/
def mSortSetF (m : M W) : M W := do
  let w ← m
  fun _ S => match getIs S w with
    | some ns => if (sortS ns).length < 64 then .ok (.lst ((sortS ns).map W.int)) S else .stuck
    | none => .stuck
end
end SL
set_option Elab.async false
set_option linter.all false
set_option maxRecDepth 100000
set_option maxHeartbeats 2000000
namespace SL
open PySem PySem.Spec PyProof.Rows L2
/-! ### cells are no frames -/
/-! ### a part of a heap -/
open NdefX
/-! ### captured values -/
/-! ### the lambda's body -/
/-- a method that gets a function value, over any base -/
def MethLB (P : Program) (w : World) (K : PySem.W.Frag) (mg : Str → Option Value) (c : Cl) (m : Str) (kk k : Nat) (g : Nat → FnM → FnM) : Prop :=
  ∃ f, Cls K (He.ga K (cname c)) ∧ Meth K (He.ga K (cname c)) m f ∧ ∀ (base : Heap) (L : Lm) (n : Nat) (gam : FnM), LamAt P w K mg base (caL K L) n kk gam → Fm P w K mg base (caL K L) k f (g n gam)
theorem MethLB.to {P : Program} {w : World} {K : PySem.W.Frag} {mg : Str → Option Value} {base : Heap} {c : Cl} {m : Str} {kk k : Nat} {g : Nat → FnM → FnM} (h : MethLB P w K mg c m kk k g) : MethL P w K mg base c m kk k g :=
  let ⟨f, h1, h2, h3⟩ := h
  ⟨f, h1, h2, h3 base⟩
section
variable {fs : List Fx} {ds : List Df} {P : Program} {w : World} {K : PySem.W.Frag} {mg : Str → Option Value} {x qual : Str} {c : Cl} {k kk n j : Nat} {params : Arguments} {body : List Stmt} {scope : Scope} {N ps : List Str}
theorem Sy.methLB {bb : Nat → FnM → MSt} (Z : Sy fs ds K mg) (i ic im : Nat) (hd : ds[i]? = some ⟨.me (cname c) x, x, qual, params, body, scope⟩) (hc : fs[ic]? = some (.fa (.cls (cname c)))) (hm : fs[im]? = some (.fa (.meth (cname c) x))) (Sc : FnScope N ps scope) (hn : N.length = n) (hj : ps.length = j)
    (hb : BindOk x qual params body scope ps) (h : ∀ (base : Heap) (L : Lm) (m : Nat) (gam : FnM), LamAt P w K mg base (caL K L) m kk gam → ∀ f, DerOk P w K mg base (caL K L) N qual scope k f body (bb m gam)) : MethLB P w K mg c x kk (k + 1) (fun m gam => fnM n j (bb m gam)) := by
  obtain ⟨fd, F⟩ := Z.d i hd
  exact ⟨_, Z.cls ic hc, He.meth_ok (Z.f im hm), fun base L m gam hL => fm_of (fo_ok F Sc hn hj fun cdv A outer s H E hr => h base L m gam hL _ cdv A outer s H E (Bd.of hr)) (F.bindsN hb)⟩
end
end SL
set_option Elab.async false
set_option linter.all false
set_option maxRecDepth 100000
set_option maxHeartbeats 4000000
namespace SL
open PySem PySem.Spec PyProof.Rows L2
/-! ### functions without a name as values that are kept: one is made -/
structure MkStep (io : List Addr) (f c' P : Addr) (q : Str) (o : HO) (H H1 : Hp) : Prop where
  nf : H f = none
  ne : f ≠ c'
  atf : H1 f = some o
  atc : H1 c' = some (LamX.CodeO c' q)
  old : H c' = none ∨ (H c' = some (LamX.CodeO c' q) ∧ c' ∉ io)
  tab : ∃ ps : Array Value, H1 P = some (.tbl ps) ∧ TriplesOk ps.toList ∧ ∀ (pos : Pos) (cv : Value), codeAmong pos ps.toList = some cv → ∃ c, cv = .ref c ∧ (c = c' ∨ (H c = some (LamX.CodeO c q) ∧ c ∉ io))
  rest : ∀ b, b ≠ f → b ≠ c' → b ≠ P → H1 b = H b
end SL
set_option Elab.async false
set_option linter.all false
set_option maxRecDepth 100000
set_option maxHeartbeats 4000000
namespace SL
open PySem PySem.Spec PyProof.Rows L2
section
variable {K : PySem.W.Frag} {ca : Ca} {io : List Addr} {S : Sto} {H H1 : Hp} {f c' P : Addr} {q : Str} {o : HO}
theorem MkStep.ext (s : MkStep io f c' P q o H H1) (hP : TbT io H P q) : Ext io H (io ++ [f]) H1 := by
  obtain ⟨ps, e1, _, _⟩ := hP
  refine ⟨⟨[f], rfl, fun a m => ?_⟩, fun a o n e d => ?_, fun a o e => ?_⟩
  · rw [List.mem_singleton.mp m]
    exact s.nf
  · have af : a ≠ f := ne_of_none e s.nf
    by_cases ac : a = c'
    · subst ac
      rcases s.old with z | ⟨z, _⟩
      · rw [z] at e
        cases e
      · rw [z] at e
        cases e
        exact s.atc
    · have ap : a ≠ P := fun z => d.1 ps (Option.some.inj (e.symm.trans (by rw [z]; exact e1)))
      rw [s.rest a af ac ap]
      exact e
  · by_cases af : a = f
    · exact ⟨_, by rw [af]; exact s.atf⟩
    · by_cases ac : a = c'
      · exact ⟨_, by rw [ac]; exact s.atc⟩
      · by_cases ap : a = P
        · obtain ⟨ps', z, _⟩ := s.tab
          exact ⟨_, by rw [ap]; exact z⟩
        · exact ⟨o, by rw [s.rest a af ac ap]; exact e⟩
theorem MkStep.nc (s : MkStep io f c' P q o H H1) (z : Rl0 K ca io S H) : c' ∉ io ++ [f] := fun m => by
  rcases List.mem_append.mp m with m | m
  · rcases s.old with e | ⟨_, e⟩
    · exact z.free e m
    · exact e m
  · exact s.ne (List.mem_singleton.mp m).symm
/-- the new function is a new cell -/
theorem MkStep.rl (s : MkStep io f c' P q o H H1) (z : Rl0 K ca io S H) (hP : (P, q) ∈ ca.tabs) (hu : ∀ p ∈ ca.tabs, p.1 = P → p.2 = q) {c : Ce} (hc : RC K ca (io ++ [f]) H1 f c) : Rl0 K ca (io ++ [f]) (S ++ [c]) H1 := by
  obtain ⟨nP, hT⟩ := z.tb.tab _ hP
  have ex := s.ext hT
  have nc := s.nc z
  have nf : f ∉ io := z.free s.nf
  obtain ⟨ps, e1, e2, e3⟩ := hT
  have e1 : H P = some (.tbl ps) := e1
  have out : ∀ a o, a ∉ io → H a = some o → a ∉ io ++ [f] := fun a o n e m => by
    rcases List.mem_append.mp m with m | m
    · exact n m
    · rw [List.mem_singleton.mp m, s.nf] at e
      cases e
  refine ⟨by simp [z.len], ?_, fun n ce a g1 g2 => ?_, ⟨fun p hp => ?_, fun p hp => ?_⟩⟩
  · refine List.nodup_append.mpr ⟨z.nd, by simp, fun a ha b hb e => ?_⟩
    rw [List.mem_singleton.mp hb] at e
    exact nf (e ▸ ha)
  · by_cases hn : n < S.length
    · rw [List.getElem?_append_left hn] at g1
      rw [List.getElem?_append_left (by rw [z.len]; exact hn)] at g2
      have h := z.ce n ce a g1 g2
      have ai : a ∈ io := List.mem_of_getElem? g2
      exact h.mono ex (s.rest a (fun e => nf (e ▸ ai)) (fun e => nc (List.mem_append_left _ (e ▸ ai))) fun e => nP (show P ∈ io from e ▸ ai))
    · have e : n = S.length := by
        have l := (List.getElem?_eq_some_iff.mp g1).1
        rw [List.length_append, List.length_singleton] at l
        omega
      subst e
      rw [List.getElem?_append_right (Nat.le_refl _), Nat.sub_self] at g1
      rw [List.getElem?_append_right (by rw [z.len]; exact Nat.le_refl _), z.len, Nat.sub_self] at g2
      cases g1
      cases g2
      exact hc
  · obtain ⟨n, t⟩ := z.tb.tab p hp
    have cd : ∀ c, H c = some (LamX.CodeO c p.2) → c ∉ io → H1 c = some (LamX.CodeO c p.2) ∧ c ∉ io ++ [f] := fun c h1 h2 => ⟨ex.kp c _ h2 h1 codeO_kpt, out _ _ h2 h1⟩
    refine ⟨by
      obtain ⟨ps', f1, _⟩ := t
      exact out _ _ n f1, ?_⟩
    by_cases hb : p.1 = P
    · have hq := hu p hp hb
      obtain ⟨ps', f1, f2, f3⟩ := s.tab
      rw [hb]
      refine ⟨ps', f1, f2, fun pos cv hc => ?_⟩
      obtain ⟨c0, g1, g2⟩ := f3 pos cv hc
      refine ⟨c0, g1, ?_⟩
      rcases g2 with g2 | ⟨g2, g3⟩
      · subst g2
        rw [hq]
        exact ⟨s.atc, nc⟩
      · rw [hq]
        have := cd c0
        rw [hq] at this
        exact this g2 g3
    · obtain ⟨ps', f1, f2, f3⟩ := t
      have b1 : p.1 ≠ f := ne_of_none f1 s.nf
      have b2 : p.1 ≠ c' := fun e => by
        rcases s.old with k | ⟨k, _⟩
        · rw [← e, f1] at k
          cases k
        · rw [← e, f1] at k
          exact codeO_tbl (Option.some.inj k).symm
      refine ⟨ps', by rw [s.rest _ b1 b2 hb, f1], f2, fun pos cv hc => ?_⟩
      obtain ⟨c0, g1, g2, g3⟩ := f3 pos cv hc
      exact ⟨c0, g1, cd c0 g2 g3⟩
  · obtain ⟨n, e, d⟩ := z.tb.pin p hp
    exact ⟨out _ _ n e, ex.kp _ _ n e d, d⟩
end
def mMkFn (k : Nat) : M W := fun _ S => .ok (.loc S.length) (S ++ [.fn k []])
/-! ### values under other addresses of functions -/
section
variable {K : PySem.W.Frag} {ca cb : Ca} {io : List Addr} {H : Hp}
theorem RV.same (hc : ∀ c, ca c = cb c) {w : W} {v : V} (h : RV K ca io H w v) : RV K cb io H w v := h.swap (n := mxw w) (fun c _ => hc c) (nlm_of (Nat.le_refl _))
theorem RVs.same (hc : ∀ c, ca c = cb c) {ws : List W} {vs : List V} (h : RVs K ca io H ws vs) : RVs K cb io H ws vs := h.swap (n := mxs ws) (fun c _ => hc c) (nlms_of (Nat.le_refl _))
theorem RE.same (hc : ∀ c, ca c = cb c) {r : Rho} {σ : L2.St} (h : RE K ca io H r σ) : RE K cb io H r σ := ⟨h.1, fun i w q => by
  obtain ⟨v, h1, h2⟩ := h.2 i w q
  exact ⟨v, h1, h2.same hc⟩⟩
end
/-! ### the functions' doings, by the places where they are made -/
abbrev FnG := Nat → List (Option W) → Sto → Res W
def spF (K : PySem.W.Frag) (ca : Ca) (k : Nat) (a : Addr) (G : FnG) : Sp := fun vs H Q E => vs = [] ∧ ∃ (io : List Addr) (S : Sto) (n : Nat) (cs : List (Option W)), Rl0 K ca io S H ∧ io[n]? = some a ∧ S[n]? = some (Ce.fn k cs) ∧ Post K ca E io H (fun w io' H' => ∀ v, RV K ca io' H' w v → Q v H') (G k cs S)
/-- each function that stands in a cell does what G says -/
def FnTab (P : Program) (w : World) (K : PySem.W.Frag) (mg : Str → Option Value) (base : Heap) (ca : Ca) (kk : Nat) (G : FnG) : Prop := ∀ (k : Nat) (t : Site), ca.sites[k]? = some t → ∀ a, FnR P w K mg base (L2.CX P w) kk a (spF K ca k a G)
end SL
set_option Elab.async false
set_option linter.all false
set_option maxRecDepth 100000
set_option maxHeartbeats 4000000
namespace SL
open PySem PySem.Spec PyProof.Rows L2
open NdefX (CellsAt Caps cells_of NScope clo_cm slotAt_of startF ncx inv_startN)
/-! ### what the cells hold goes into the functions' cells -/
def backC : Ce → Ce
  | .fn k _ => .fn k []
  | c => c
def backS (S : Sto) : Sto := S.map backC
def fillT (J : List (List Nat)) (σ : L2.St) (T : List Site) : List Site := T.mapIdx fun k t => { t with vs := (J.getD k []).map (NdefX.slotAt σ) }
def Res.back {α : Type} : Res α → Res α
  | .ok a S => .ok a (backS S)
  | .exc c ws S => .exc c ws (backS S)
  | .stuck => .stuck
section
variable {K : PySem.W.Frag} {ca cb : Ca} {io : List Addr} {S : Sto} {H : Hp}
theorem fillT_of {J : List (List Nat)} {σ : L2.St} {T : List Site} {k : Nat} {t : Site} (h : (fillT J σ T)[k]? = some t) : ∃ t0, T[k]? = some t0 ∧ t = { t0 with vs := (J.getD k []).map (NdefX.slotAt σ) } := by
  unfold fillT at h
  rw [List.getElem?_mapIdx] at h
  cases e : T[k]? with
  | none =>
    rw [e] at h
    cases h
  | some t0 =>
    rw [e] at h
    cases h
    exact ⟨t0, rfl, rfl⟩
theorem RC.back {J : List (List Nat)} {σ : L2.St} (hc : ∀ c, cb c = ca c) (hs : cb.sites = fillT J σ ca.sites) {a : Addr} {c : Ce} (rc : RC K cb io H a c) : RC K ca io H a (backC c) := by
  cases c with
  | lst xs =>
    obtain ⟨vs, h1, h2⟩ := rc
    exact ⟨vs, h1, h2.same hc⟩
  | ins c xs =>
    obtain ⟨dx, vs, h1, h2, h3⟩ := rc
    exact ⟨dx, vs, by rw [← hc]; exact h1, h2, h3.same hc⟩
  | dk ks xs =>
    obtain ⟨vs, h1, h2, h3⟩ := rc
    exact ⟨vs, h1, h2, h3.same hc⟩
  | dt ks xs =>
    obtain ⟨vs, h1, h2, h3⟩ := rc
    exact ⟨vs, h1, h2, h3.same hc⟩
  | fn k xs =>
    obtain ⟨t, c', dV, k1, k2, k3, k4, k5, k6⟩ := rc
    rw [hs] at k1
    obtain ⟨t0, z1, rfl⟩ := fillT_of k1
    exact ⟨t0, c', dV, z1, k2, k3, k4, k5, fun i w q => by simp at q⟩
theorem Rl0.map {f : Ce → Ce} (z : Rl0 K ca io S H) (h : ∀ (a : Addr) (c : Ce), RC K ca io H a c → RC K cb io H a (f c)) (tb : TbOk cb io H) : Rl0 K cb io (S.map f) H := by
  refine ⟨by rw [List.length_map]; exact z.len, z.nd, fun n c a q q2 => ?_, tb⟩
  rw [List.getElem?_map] at q
  cases e : S[n]? with
  | none =>
    rw [e] at q
    cases q
  | some c0 =>
    rw [e] at q
    cases q
    exact h a c0 (z.ce n c0 a e q2)
end
/-! ### the callee sees the maker's cells -/
/-- a def that gets functions -/
def FnAtF (P : Program) (w : World) (K : PySem.W.Frag) (mg : Str → Option Value) (x : Str) (kk k : Nat) (g : FnG → FnM) : Prop := ∃ f, mg x = some (.ref f) ∧ PySem.W.keepIn K (.ref f) = true ∧
  ∀ (base : Heap) (L : Lm) (G : FnG), FnTab P w K mg base (caL K L) kk G → Fm P w K mg base (caL K L) k f (g G)
end SL
set_option Elab.async false
set_option linter.all false
set_option maxRecDepth 100000
set_option maxHeartbeats 4000000
set_option Elab.async false
set_option linter.all false
set_option maxRecDepth 100000
set_option maxHeartbeats 4000000
namespace SL
open PySem PySem.Spec PyProof.Rows L2
/-! ### raise C('..'), C without own __init__ -/
def sRaise0 (c : Cl) : MSt := fun _ S => .exc c [] S
structure ExcA (K : PySem.W.Frag) (C : Addr) : Prop where
  ex : PySem.W.excIn K C He.veBase "ValueError.__new__" = true
  kp : PySem.W.keepIn K (.ref C) = true
  sb : PySem.W.subIn K (.ref C) (.type "BaseException") = some true
  ty : PySem.W.typeIn K (.ref C) = some (.type "type")
section
variable {X : Cx} {ca : Ca} {E : XK} {c : Cl}
theorem ms_raise0 {x m : Str} {j : Nat} {p p2 pos pos' : Pos} (A : ExcA X.K (ca c)) (gm : X.mg x = some (.ref (ca c))) (hc : X.calm = true) (tk : Takes X fun cls d _ H => E cls d H := by first | exact takes_of rfl rfl rfl rfl | exact takes_gcx) (hf : flds c = [] := by rfl)
    (hg : Gl X x := by rfl) (hdb : (x == ("__debug__" : Str)) = false := by decide) : MS X ca E (.Raise (some (.Call (.Name x p) [.Constant (.str m) j p2] [] pos)) none pos') (sRaise0 c) :=
  PS.weak (ps_raise hc tk (pmk_own PySem.F.excBase_ValueError A.ex gm A.kp (raises_own A.sb A.ty) hg hdb)) fun D σ H h => by
    obtain ⟨io, r, S, l, p⟩ := h
    refine p io H none (Ext.refl _ _) l.z ?_
    unfold RX
    rw [hf]
/-! ### LightError.__init__(self, ..): nothing of it is told -/
structure LeI (K : PySem.W.Frag) (B : Addr) : Prop where
  rd : ClX.CRead K B (.type "type")
  fi : PySem.W.findCls K (.ref B) (.type "type") "__init__" = some (.val (.builtin "ValueError.__init__"))
theorem pe_leinit {B : Addr} {x : Str} {ta : TA} {e : Expr} {es : List Expr} {p1 p2 pos : Pos} {pl : Sem Bool} (T : LeI X.K B) (gm : X.mg x = some (.ref B)) (ha : PA X (e :: es) ta) (hg : Gl X x := by rfl) (hdb : (x == ("__debug__" : Str)) = false := by decide)
    (ht : eval (.Call (.Attribute (.Name x p1) "__init__" p2) (e :: es) [] pos) X.env = (do
      let ov ← eval (.Name x p1) X.env
      standAt p2.atName
      let (f, first) ← holding [ov] (getMethod ov "__init__" pl)
      callWith pos f first (backTo pos (starEach (e :: es) X.env)) (backToKw pos (keywordEach [] X.env))) := by rfl)
    (he : starEach (e :: es) X.env = (false, eval e X.env) :: starEach es X.env := by rfl) (hpl : (backTo pos (starEach es X.env)).any (·.1) = false := by rfl) :
    PE X (.Call (.Attribute (.Name x p1) "__init__" p2) (e :: es) [] pos) (tVeI X.K ta) := by
  refine ⟨fun pins s σ H Q I h => PySem.W.methodCall_KW (ld_glob I hg gm ?_ hdb) ht⟩
  refine PySem.W.method_cls I.kIn T.rd.ga (PySem.W.cls_value I.kIn T.rd.rd T.fi (by decide +kernel) ?_)
  show wpAny _ _ (callWith pos (Value.builtin "ValueError.__init__") [] (backTo pos (starEach (e :: es) X.env)) []) _ _ _
  refine PyProof.Rows.callWith_method1 (thn (ha.run pos pins _ σ H _ (I.tok _) h) fun us s1 ⟨vs, H1, I1, r1, a, C, ws, ev, hl, T1, ea, q⟩ => ?_) he hpl
  subst ev
  obtain ⟨u0, ur, rfl, ra, rr⟩ : ∃ u0 ur, us = u0 :: ur ∧ RelV (V.ref a) u0 ∧ Vals ws ur := by
    cases r1 with
    | cons x y => exact ⟨_, _, rfl, x, y⟩
  obtain rfl : u0 = Value.ref a := ra
  exact oinit_ok T1 I1 ea (by rw [← Paired.length rr, sizeLine_eq]; omega) fun s' J => ⟨.non, H1, J, rfl, q⟩
end
/-! ### the __init__ of an exception with one field, with two -/
/-- what the class says -/
structure ExcN (K : PySem.W.Frag) (C f : Addr) : Prop where
  ox : OexC K C
  ini : PySem.W.findIn K (.ref C) "__init__" = some (some (.ref f))
  fn : PySem.W.typeIn K (.ref f) = some (.type "function")
def spX2 (K : PySem.W.Frag) (f1 f2 : Str) : Sp := fun vs H Q _ => ∃ (a C : Addr) (x y : V), vs = [.ref a, x, y] ∧ OexC K C ∧ PySem.W.findIn K (.ref C) f1 = some none ∧ PySem.W.findIn K (.ref C) f2 = some none ∧ H a = some (exo a C none) ∧
  ∀ dx, H dx = none → dx ≠ a → Q .non (upd (upd (upd H dx (exd dx [(f1, x)])) a (exo a C (some dx))) dx (exd dx [(f2, y), (f1, x)]))
section
variable {P : Program} {w : World} {K : PySem.W.Frag} {mg : Str → Option Value} {base : Heap} {qual x : Str} {params : Arguments} {body : List Stmt} {scope : Scope} {f B : Addr} {fd : FuncData}
theorem init2_ok {f1 f2 : Str} {st0 : Stmt} {e1 e2 e3 e4 p8 p9 q1 q2 : Pos} (F : FunD K "__init__" qual params body scope [] [] f fd) (Sc : FnScope ["self", f1, f2] ["self", f1, f2] scope) 
    (hcall : ∀ (cdv : Value) (A : Around) (outer : List Env) (s : Shared) (H : Hp) (E : XK), PS (cxOf (L2.CX P w) P w K mg base ["self", f1, f2] qual scope f cdv A outer s H E) st0 (tDrop (tVeI K (tCons (tVar 0) (tCons (tVar 1) (tCons (tVar 2) tNil))))))
    (hb : body = [st0, .Assign [.Attribute (.Name "self" p8) f1 p9] (.Name f1 e1) e2, .Assign [.Attribute (.Name "self" q1) f2 q2] (.Name f2 e3) e4])
    (hv : Vis scope "self" ∧ Vis scope f1 ∧ Vis scope f2) (hd : (f1 == ("__debug__" : Str)) = false ∧ (f1 == ("__classdict__" : Str)) = false) (hd2 : (f2 == ("__debug__" : Str)) = false ∧ (f2 == ("__classdict__" : Str)) = false) : FnOk P w K mg base (L2.CX P w) 1 f fd ["self", f1, f2] (spX2 K f1 f2) := by
  refine F.ok (k := 0) Sc (fun vs H Q E h => ?_) fun cdv A outer s H vs Q E hr h => ?_
  · obtain ⟨a, C, y, z, rfl, _⟩ := h
    rfl
  · obtain ⟨a, C, y, z, rfl, T, h1, h2, ea, q⟩ := h
    have v0 : ∀ {pp : Pos}, PE (cxOf (L2.CX P w) P w K mg base ["self", f1, f2] qual scope f cdv A outer s H E) (.Name "self" pp) (tVar 0) := fun {pp} => pe_var rfl hv.1
    have v1 : ∀ {pp : Pos}, PE (cxOf (L2.CX P w) P w K mg base ["self", f1, f2] qual scope f cdv A outer s H E) (.Name f1 pp) (tVar 1) := fun {pp} => pe_var rfl hv.2.1 hd.1 hd.2
    have v2 : ∀ {pp : Pos}, PE (cxOf (L2.CX P w) P w K mg base ["self", f1, f2] qual scope f cdv A outer s H E) (.Name f2 pp) (tVar 2) := fun {pp} => pe_var rfl hv.2.2 hd2.1 hd2.2
    refine ⟨_, by rw [hb]; exact pss_cons (hcall cdv A outer s H E) (pss_cons (ps_ost v0 v1) (pss_one (ps_ost v0 v2))), ?_⟩
    refine ⟨.ref a, rfl, y, rfl, z, rfl, a, C, [y, z], rfl, by show 2 ≤ 1000; omega, T, ea, ?_⟩
    refine ⟨y, rfl, .ref a, rfl, a, C, rfl, T, h1, .inl ⟨ea, fun dx nd ne => ?_⟩⟩
    refine ⟨z, rfl, .ref a, rfl, a, C, rfl, T, h2, .inr ⟨dx, [(f1, y)], upd_same, ?_, by show 1 ≤ 900; omega, q dx nd ne⟩⟩
    rw [upd_ne ne, upd_same]
end
/-- an exception's __init__ as it stands in the module -/
def XiAt (P : Program) (w : World) (K : PySem.W.Frag) (mg : Str → Option Value) (base : Heap) (C : Addr) (k : Nat) (sp : Sp) : Prop := ∃ f fd ps, ExcN K C f ∧ Binds K fd ps [] ∧ FnOk P w K mg base (L2.CX P w) k f fd ps sp
def sRaiseA (c : Cl) (t : M (List W)) : MSt := fun r S => match t r S with
  | .ok ws S1 => if ws.length = (flds c).length then .exc c ws.reverse S1 else .stuck
  | .exc c es S1 => .exc c es S1
  | .stuck => .stuck
section
variable {X : Cx} {ca : Ca} {E : XK} {c : Cl} {x f1 f2 : Str} {t : M (List W)} {k j : Nat} {e : Expr} {es : List Expr} {p pos pos' : Pos}
theorem ms_raise2 {fl fl2 : Fl} (T : XiAt X.prog X.w X.K X.mg X.base (ca c) k (spX2 X.K f1 f2)) (gm : X.mg x = some (.ref (ca c))) (no : NoAttr X.K (ca c) f1) (no2 : NoAttr X.K (ca c) f2) (b : Bd X E j) (ha : MA X ca E (e :: es) t) (hk : k + 1 ≤ j := by decide) (tk : Takes X fun cls d _ H => E cls d H := by exact takes_of rfl rfl rfl rfl)
    (hf : flds c = [fl2, fl] := by rfl) (hn : fname fl = f1 := by rfl) (hn2 : fname fl2 = f2 := by rfl) (hg : Gl X x := by rfl) (hdb : (x == ("__debug__" : Str)) = false := by decide) (he : starEach (e :: es) X.env = (false, eval e X.env) :: starEach es X.env := by rfl) (hpl : (backTo pos (starEach es X.env)).any (·.1) = false := by rfl) :
    MS X ca E (.Raise (some (.Call (.Name x p) (e :: es) [] pos)) none pos') (sRaiseA c t) := by
  obtain ⟨f, fd, ps, N, hB, F⟩ := T
  refine PS.weak (ps_raise b.calm tk (pmk_oex N.ox N.ini N.fn F (b.hr.mono hk) hB .nil passF hg gm ha hdb he hpl)) fun D σ H h => ?_
  obtain ⟨io, r, S, l, pp⟩ := h
  unfold sRaiseA at pp
  refine ⟨io, r, S, l, ?_⟩
  cases q : t r S with
  | stuck =>
    simp only [q] at pp
    exact pp
  | exc c es S' =>
    simp only [q] at pp
    exact pp
  | ok ws S1 =>
    simp only [q] at pp
    intro io1 H1 e1 z1 vs rvs
    split at pp
    · rename_i hl
      rw [hf] at hl
      obtain ⟨wx, wy, rfl⟩ : ∃ wx wy, ws = [wx, wy] := by
        match ws, hl with
        | [wx, wy], _ => exact ⟨wx, wy, rfl⟩
      obtain ⟨vx, vy, rfl, rx, ry⟩ := rvs.two
      refine ⟨by show 2 ≤ 1000; omega, fun a na => ⟨a, ca c, vx, vy, rfl, N.ox, no, no2, upd_same, fun dx nd ne => ⟨rfl, dx, [(f2, vy), (f1, vx)], ?_, upd_same, ?_, ?_⟩⟩⟩
      · rw [upd_ne (Ne.symm ne), upd_same]
      · rw [upd_ne ne] at nd
        exact nd
      · rw [upd_ne ne] at nd
        have eH : upd (del (upd (upd (upd (upd H1 a (exo a (ca c) none)) dx (exd dx [(f1, vx)])) a (exo a (ca c) (some dx))) dx (exd dx [(f2, vy), (f1, vx)])) a) dx (.xd [(f2, vy), (f1, vx)]) = upd H1 dx (.xd [(f2, vy), (f1, vx)]) := by
          funext b
          by_cases hb : b = dx
          · rw [hb, upd_same, upd_same]
          · rw [upd_ne hb, upd_ne hb]
            by_cases hb2 : b = a
            · rw [hb2, del_same, na]
            · rw [del_ne hb2, upd_ne hb, upd_ne hb2, upd_ne hb, upd_ne hb2]
        rw [eH]
        refine pp io1 _ (some dx) (e1.trans (ext_new nd)) (z1.new nd) ?_
        unfold RX
        rw [hf]
        refine ⟨dx, [vy, vx], rfl, ?_, z1.free nd, rfl, .cons (ry.mono (ext_new nd)) (.cons (rx.mono (ext_new nd)) .nil)⟩
        rw [upd_same]
        show _ = some (HO.xd (((flds c).map fname).zip [vy, vx]))
        rw [hf, ← hn, ← hn2]
        rfl
    · exact pp.elim
end
end SL
set_option Elab.async false
set_option linter.all false
set_option maxRecDepth 100000
set_option maxHeartbeats 2000000
/-! how runs are computed -/
namespace SL
open PySem PySem.Spec PyProof.Rows L2
/-- beside a term that is not to be looked into -/
inductive Dm {α : Type} (k : α) : Type where
  | mk
def Res.bd {α β : Type} (x : Res α) (k : α → Sto → Res β) (d : Dm k := .mk) : Res β := match x with
  | .ok a S => k a S
  | .exc c ws S => .exc c ws S
  | .stuck => .stuck
section
variable {α β : Type}
@[simp] theorem bd_ok (a : α) (S : Sto) (k : α → Sto → Res β) : (Res.ok a S).bd k = k a S := rfl
@[simp] theorem bd_exc (c : Cl) (ws : List W) (S : Sto) (k : α → Sto → Res β) : (Res.exc c ws S : Res α).bd k = .exc c ws S := rfl
@[simp] theorem bd_stuck (k : α → Sto → Res β) : (Res.stuck : Res α).bd k = .stuck := rfl
@[simp] theorem bind_ev (m : M α) (f : α → M β) (r : Rho) (S : Sto) : (m >>= f) r S = (m r S).bd fun a S1 => f a r S1 := by
  rw [bind_def]
  cases m r S <;> rfl
theorem bd_ext {x : Res α} {k k' : α → Sto → Res β} (h : ∀ a S, k a S = k' a S) : x.bd k = x.bd k' := by
  have e : k = k' := funext fun a => funext fun S => h a S
  rw [e]
@[simp] theorem pure_ev (a : α) (r : Rho) (S : Sto) : (pure a : M α) r S = .ok a S := rfl
end
/-- an option's two ways -/
def oc {α β : Type} (o : Option α) (k : α → β) (z : β) (d : Dm k := .mk) : β := match o with
  | some a => k a
  | none => z
section
variable {α β : Type}
@[simp] theorem oc_some (a : α) (k : α → β) (z : β) : oc (some a) k z = k a := rfl
@[simp] theorem oc_none (k : α → β) (z : β) : oc (none : Option α) k z = z := rfl
/-- two ways by a truth value -/
def bc (b : Bool) (x y : β) (d : Dm x := .mk) (e : Dm y := .mk) : β := match b with
  | true => x
  | false => y
@[simp] theorem bc_true (x y : β) : bc true x y = x := rfl
@[simp] theorem bc_false (x y : β) : bc false x y = y := rfl
end
section
variable {r : Rho} {S : Sto}
@[simp] theorem mVar_ev (i : Nat) : mVar i r S = oc (r[i]?) (fun o => oc o (fun w => .ok w S) .stuck) .stuck := by
  unfold mVar
  cases r[i]? with
  | none => rfl
  | some o => cases o <;> rfl
@[simp] theorem mC_ev (w : W) : mC w r S = .ok w S := rfl
@[simp] theorem mOp_ev (f : Op2) (a b : M W) : mOp f a b r S = (a r S).bd fun x S1 => (b r S1).bd fun y S2 => f x y S2 := by
  unfold mOp
  rw [bind_ev]
  exact bd_ext fun x S1 => by rw [bind_ev]
def asB (w : W) (k : Bool → Sto → Res α) (S : Sto) (d : Dm k := .mk) : Res α := match w with
  | .bl b => k b S
  | _ => .stuck
@[simp] theorem asB_bl (b : Bool) (k : Bool → Sto → Res α) : asB (.bl b) k S = k b S := rfl
@[simp] theorem mB_ev (m : M W) : mB m r S = (m r S).bd fun w S1 => asB w .ok S1 := by
  simp only [mB, bind_ev]
  cases m r S with
  | ok w S1 => cases w <;> rfl
  | exc c ws S1 => rfl
  | stuck => rfl
@[simp] theorem mNot_ev (m : M Bool) : mNot m r S = (m r S).bd fun b S1 => .ok (!b) S1 := by simp [mNot]
@[simp] theorem mIf_ev {α : Type} (t : M Bool) (a b : M α) : mIf t a b r S = (t r S).bd fun c S1 => bc c (a r S1) (b r S1) := by
  simp only [mIf, bind_ev]
  cases t r S with
  | ok c S1 => cases c <;> rfl
  | exc c ws S1 => rfl
  | stuck => rfl
@[simp] theorem mAnd_ev (a b : M Bool) : mAnd a b r S = (a r S).bd fun c S1 => bc c (b r S1) (.ok false S1) := by
  simp only [mAnd, bind_ev]
  cases a r S with
  | ok c S1 => cases c <;> rfl
  | exc c ws S1 => rfl
  | stuck => rfl
@[simp] theorem mOr_ev (a b : M Bool) : mOr a b r S = (a r S).bd fun c S1 => bc c (.ok true S1) (b r S1) := by
  simp only [mOr, bind_ev]
  cases a r S with
  | ok c S1 => cases c <;> rfl
  | exc c ws S1 => rfl
  | stuck => rfl
@[simp] theorem mAndV_ev (a b : M W) : mAndV a b r S = (a r S).bd fun w S1 => asB w (fun c S1 => bc c (b r S1) (.ok (.bl false) S1)) S1 := by
  simp only [mAndV, bind_ev]
  cases a r S with
  | ok w S1 =>
    cases w <;> first | rfl | skip
    rename_i c
    cases c <;> rfl
  | exc c ws S1 => rfl
  | stuck => rfl
@[simp] theorem mOrV_ev (a b : M W) : mOrV a b r S = (a r S).bd fun w S1 => asB w (fun c S1 => bc c (.ok (.bl true) S1) (b r S1)) S1 := by
  simp only [mOrV, bind_ev]
  cases a r S with
  | ok w S1 =>
    cases w <;> first | rfl | skip
    rename_i c
    cases c <;> rfl
  | exc c ws S1 => rfl
  | stuck => rfl
@[simp] theorem mNotV_ev (a : M W) : mNotV a r S = (a r S).bd fun w S1 => asB w (fun c S1 => .ok (.bl (!c)) S1) S1 := by
  simp only [mNotV, bind_ev]
  cases a r S with
  | ok w S1 => cases w <;> rfl
  | exc c ws S1 => rfl
  | stuck => rfl
@[simp] theorem mChain_ev (f g : Op2) (a b c : M W) : mChain f g a b c r S = (a r S).bd fun x S1 => (b r S1).bd fun y S2 => (f x y S2).bd fun z S3 => asB z (fun q S3 => bc q ((c r S3).bd fun u S4 => g y u S4) (.ok (.bl false) S3)) S3 := by
  unfold mChain
  rw [bind_ev]
  refine bd_ext fun x S1 => ?_
  rw [bind_ev]
  refine bd_ext fun y S2 => ?_
  rw [bind_ev]
  refine bd_ext fun z S3 => ?_
  cases z <;> first | rfl | skip
  rename_i q
  cases q
  · rfl
  · show (c >>= _) r S3 = _
    rw [bind_ev]
    rfl
@[simp] theorem mIx_ev (a b : M W) : mIx a b r S = (a r S).bd fun x S1 => (b r S1).bd fun y S2 => opIx x y S2 := mOp_ev _ _ _
@[simp] theorem mNil_ev : mNil r S = .ok [] S := rfl
@[simp] theorem mCons_ev (a : M W) (t : M (List W)) : mCons a t r S = (a r S).bd fun x S1 => (t r S1).bd fun xs S2 => .ok (x :: xs) S2 := by
  unfold mCons
  rw [bind_ev]
  exact bd_ext fun x S1 => by rw [bind_ev]; rfl
@[simp] theorem mStar_ev (a : M W) (t : M (List W)) : mStar a t r S = (a r S).bd fun x S1 => oc (getQ S1 x) (fun xs => (t r S1).bd fun ys S2 => .ok (xs ++ ys) S2) .stuck := by
  unfold mStar
  rw [bind_ev]
  refine bd_ext fun x S1 => ?_
  rw [bind_ev]
  cases getQ S1 x with
  | none => rfl
  | some xs =>
    show (t >>= _) r S1 = _
    rw [bind_ev]
    rfl
@[simp] theorem mTup_ev (t : M (List W)) : mTup t r S = (t r S).bd fun xs S1 => bc (decide (xs.length ≤ 16000000)) (.ok (.tup xs) S1) .stuck := by
  simp only [mTup, bind_ev]
  cases t r S with
  | ok xs S1 =>
    simp only [bd_ok]
    by_cases h : xs.length ≤ 16000000
    · rw [if_pos h, decide_eq_true h]
      rfl
    · rw [if_neg h, decide_eq_false h]
      rfl
  | exc c ws S1 => rfl
  | stuck => rfl
@[simp] theorem mLst_ev (t : M (List W)) : mLst t r S = (t r S).bd fun xs S1 => bc (decide (xs.length ≤ 16000000)) (.ok (.lst xs) S1) .stuck := by
  simp only [mLst, bind_ev]
  cases t r S with
  | ok xs S1 =>
    simp only [bd_ok]
    by_cases h : xs.length ≤ 16000000
    · rw [if_pos h, decide_eq_true h]
      rfl
    · rw [if_neg h, decide_eq_false h]
      rfl
  | exc c ws S1 => rfl
  | stuck => rfl
@[simp] theorem mLstC_ev (t : M (List W)) : mLstC t r S = (t r S).bd fun xs S1 => bc (decide (xs.length ≤ 16000000)) (.ok (.loc S1.length) (S1 ++ [.lst xs])) .stuck := by
  simp only [mLstC, bind_ev]
  cases t r S with
  | ok xs S1 =>
    simp only [bd_ok]
    by_cases h : xs.length ≤ 16000000
    · rw [if_pos h, decide_eq_true h]
      rfl
    · rw [if_neg h, decide_eq_false h]
      rfl
  | exc c ws S1 => rfl
  | stuck => rfl
def asO (w : W) (k : Option Int → Sto → Res α) (S : Sto) (d : Dm k := .mk) : Res α := match w with
  | .int i => k (some i) S
  | _ => .stuck
@[simp] theorem asO_int (i : Int) (k : Option Int → Sto → Res α) : asO (.int i) k S = k (some i) S := rfl
@[simp] theorem mPart_ev (m : M W) : mPart m r S = (m r S).bd fun w S1 => asO w .ok S1 := by
  simp only [mPart, bind_ev]
  cases m r S with
  | ok w S1 => cases w <;> rfl
  | exc c ws S1 => rfl
  | stuck => rfl
@[simp] theorem mNoPart_ev : mNoPart r S = .ok none S := rfl
@[simp] theorem mCut_ev (m : M W) (lo hi : M (Option Int)) : mCut m lo hi r S = (m r S).bd fun x S1 => (lo r S1).bd fun l S2 => (hi r S2).bd fun u S3 => opCut l u x S3 := by
  unfold mCut
  rw [bind_ev]
  refine bd_ext fun x S1 => ?_
  rw [bind_ev]
  exact bd_ext fun l S2 => by rw [bind_ev]
/-- the field f of w -/
def fld (c : Cl) (f : Fl) (w : W) (S : Sto) : Res W := oc (getO c S w) (fun xs => oc (fix c f) (fun i => oc (xs[i]?) (fun x => .ok x S) .stuck) .stuck) .stuck
@[simp] theorem mFld_ev (c : Cl) (f : Fl) (m : M W) : mFld c f m r S = (m r S).bd fun w S1 => fld c f w S1 := by
  simp only [mFld, bind_ev]
  cases m r S with
  | ok w S1 =>
    simp only [bd_ok, fld]
    cases getO c S1 w with
    | none => rfl
    | some xs =>
      cases fix c f with
      | none => rfl
      | some i =>
        simp only [oc_some]
        cases xs[i]? <;> rfl
  | exc c ws S1 => rfl
  | stuck => rfl
@[simp] theorem mCall_ev (g : FnM) (t : M (List W)) : mCall g t r S = (t r S).bd fun ws S1 => g ws S1 := by simp [mCall]
@[simp] theorem mMeth_ev (c : Cl) (g : FnM) (o : M W) (t : M (List W)) : mMeth c g o t r S = (o r S).bd fun w S1 => oc (getO c S1 w) (fun _ => (t r S1).bd fun ws S2 => g (w :: ws) S2) .stuck := by
  unfold mMeth
  rw [bind_ev]
  refine bd_ext fun w S1 => ?_
  rw [bind_ev]
  cases getO c S1 w with
  | none => rfl
  | some xs =>
    show (t >>= _) r S1 = _
    rw [bind_ev]
    rfl
@[simp] theorem mProp_ev (c : Cl) (g : FnM) (o : M W) : mProp c g o r S = (o r S).bd fun w S1 => oc (getO c S1 w) (fun _ => noX (g [w] S1)) .stuck := by
  simp only [mProp, bind_ev]
  cases o r S with
  | ok w S1 =>
    simp only [bd_ok]
    cases getO c S1 w <;> rfl
  | exc c ws S1 => rfl
  | stuck => rfl
@[simp] theorem mFr_ev (m : M W) : mFr m r S = frR S (m r S) := rfl
@[simp] theorem mBm_ev (T : String) (fm : FnM) (o : M W) (t : M (List W)) : mBm T fm o t r S = (o r S).bd fun w S1 => bc (recvOk T S1 w) ((t r S1).bd fun ws S2 => fm (w :: ws) S2) .stuck := by
  unfold mBm
  rw [bind_ev]
  refine bd_ext fun w S1 => ?_
  rw [bind_ev]
  cases recvOk T S1 w with
  | false => rfl
  | true =>
    show (t >>= _) r S1 = _
    rw [bind_ev]
    rfl
def asI (w : W) (k : Int → Sto → Res α) (S : Sto) (d : Dm k := .mk) : Res α := match w with
  | .int i => k i S
  | _ => .stuck
@[simp] theorem asI_int (i : Int) (k : Int → Sto → Res α) : asI (.int i) k S = k i S := rfl
@[simp] theorem mNeg_ev (m : M W) : mNeg m r S = (m r S).bd fun w S1 => asI w (fun i S1 => .ok (.int (-i)) S1) S1 := by
  simp only [mNeg, bind_ev]
  cases m r S with
  | ok w S1 => cases w <;> rfl
  | exc c ws S1 => rfl
  | stuck => rfl
@[simp] theorem mSortSet_ev (m : M W) : mSortSet m r S = (m r S).bd fun w S1 => oc (getIs S1 w) (fun ns => bc (decide (ns.length ≤ 1000 ∧ (sortS ns).length < 64)) (.ok (.lst ((sortS ns).map W.int)) S1) .stuck) .stuck := by
  simp only [mSortSet, bind_ev]
  cases m r S with
  | ok w S1 =>
    simp only [bd_ok]
    cases getIs S1 w with
    | none => rfl
    | some ns =>
      simp only [oc_some]
      by_cases h : ns.length ≤ 1000 ∧ (sortS ns).length < 64
      · rw [if_pos h, decide_eq_true h]
        rfl
      · rw [if_neg h, decide_eq_false h]
        rfl
  | exc c ws S1 => rfl
  | stuck => rfl
@[simp] theorem mDNewK_ev : mDNewK r S = .ok (.loc S.length) (S ++ [.dk [] []]) := rfl
@[simp] theorem mDNewT_ev : mDNewT r S = .ok (.loc S.length) (S ++ [.dt [] []]) := rfl
/-! ### statements -/
def Res.sq (x : Res Fw) (k : Rho → Sto → Res Fw) (d : Dm k := .mk) : Res Fw := match x with
  | .ok (.nx r) S => k r S
  | x => x
@[simp] theorem sq_nx (r : Rho) (k : Rho → Sto → Res Fw) : (Res.ok (.nx r) S).sq k = k r S := rfl
@[simp] theorem sq_rt (w : W) (k : Rho → Sto → Res Fw) : (Res.ok (.rt w) S).sq k = .ok (.rt w) S := rfl
@[simp] theorem sq_bk (r : Rho) (k : Rho → Sto → Res Fw) : (Res.ok (.bk r) S).sq k = .ok (.bk r) S := rfl
@[simp] theorem sq_ct (r : Rho) (k : Rho → Sto → Res Fw) : (Res.ok (.ct r) S).sq k = .ok (.ct r) S := rfl
@[simp] theorem sq_exc (c : Cl) (ws : List W) (k : Rho → Sto → Res Fw) : (Res.exc c ws S : Res Fw).sq k = .exc c ws S := rfl
@[simp] theorem sq_stuck (k : Rho → Sto → Res Fw) : (Res.stuck : Res Fw).sq k = .stuck := rfl
@[simp] theorem sSeq_ev (a b : MSt) : sSeq a b r S = (a r S).sq fun r' S' => b r' S' := by
  unfold sSeq
  cases a r S with
  | ok f S1 => cases f <;> rfl
  | exc c ws S1 => rfl
  | stuck => rfl
@[simp] theorem sNext_ev : sNext r S = .ok (.nx r) S := rfl
@[simp] theorem sSet_ev (i : Nat) (m : M W) : sSet i m r S = (m r S).bd fun w S1 => .ok (.nx (r.set i (some w))) S1 := by simp [sSet]
@[simp] theorem sExpr_ev (m : M W) : sExpr m r S = (m r S).bd fun _ S1 => .ok (.nx r) S1 := by simp [sExpr]
@[simp] theorem sRet_ev (m : M W) : sRet m r S = (m r S).bd fun w S1 => .ok (.rt w) S1 := by simp [sRet]
@[simp] theorem sRetN_ev : sRetN r S = .ok (.rt .non) S := rfl
@[simp] theorem sIf_ev (t : M Bool) (a b : MSt) : sIf t a b r S = (t r S).bd fun c S1 => bc c (a r S1) (b r S1) := mIf_ev _ _ _
@[simp] theorem sBreak_ev : sBreak r S = .ok (.bk r) S := rfl
@[simp] theorem sCont_ev : sCont r S = .ok (.ct r) S := rfl
@[simp] theorem sPar_ev (is : List Nat) (t : M (List W)) : sPar is t r S = (t r S).bd fun ws S1 => oc (setAll is ws r) (fun r1 => .ok (.nx r1) S1) .stuck := by
  simp only [sPar, bind_ev]
  cases t r S with
  | ok ws S1 =>
    simp only [bd_ok]
    cases setAll is ws r <;> rfl
  | exc c ws S1 => rfl
  | stuck => rfl
@[simp] theorem sTg_ev (T : Tg) (m : M W) : sTg T m r S = (m r S).bd fun w S1 => oc (T.run w r) (fun r1 => .ok (.nx r1) S1) .stuck := by
  simp only [sTg, bind_ev]
  cases m r S with
  | ok w S1 =>
    simp only [bd_ok]
    cases T.run w r <;> rfl
  | exc c ws S1 => rfl
  | stuck => rfl
@[simp] theorem run_n (i : Nat) (w : W) : (Tg.n i).run w r = some (r.set i (some w)) := rfl
@[simp] theorem run_t (is : List Nat) (ws : List W) : (Tg.t is).run (.tup ws) r = setAll is ws r := rfl
@[simp] theorem setAll_nil : setAll [] [] r = some r := rfl
@[simp] theorem setAll_cons (i : Nat) (is : List Nat) (w : W) (ws : List W) : setAll (i :: is) (w :: ws) r = setAll is ws (r.set i (some w)) := rfl
@[simp] theorem sAug_ev (i : Nat) (m : M W) : sAug i m r S = oc (r[i]?) (fun o => oc o (fun v => asI v (fun a S => (m r S).bd fun w S1 => asI w (fun b S1 => .ok (.nx (r.set i (some (.int (a + b))))) S1) S1) S) .stuck) .stuck := by
  unfold sAug
  cases r[i]? with
  | none => rfl
  | some o =>
    cases o with
    | none => rfl
    | some v =>
      cases v <;> first | rfl | skip
      simp only [oc_some, asI_int]
      cases m r S with
      | ok w S1 => cases w <;> rfl
      | exc c ws S1 => rfl
      | stuck => rfl
/-- a store's new state -/
def Res.st (x : Res Unit) (r : Rho) : Res Fw := match x with
  | .ok _ S => .ok (.nx r) S
  | _ => .stuck
@[simp] theorem st_ok (r : Rho) : (Res.ok () S : Res Unit).st r = .ok (.nx r) S := rfl
@[simp] theorem st_stuck (r : Rho) : (Res.stuck : Res Unit).st r = .stuck := rfl
@[simp] theorem sIxSet_ev (mo mi m : M W) : sIxSet mo mi m r S = (m r S).bd fun x S1 => (mo r S1).bd fun a S2 => (mi r S2).bd fun b S3 => (opSetL a b x S3).st r := by
  simp only [sIxSet, bind_ev]
  rfl
@[simp] theorem sFldSet_ev (c : Cl) (f : Fl) (mo m : M W) : sFldSet c f mo m r S = (m r S).bd fun x S1 => (mo r S1).bd fun a S2 => (setO c f a x S2).st r := by
  simp only [sFldSet, bind_ev]
  rfl
@[simp] theorem sDPutM_ev (md mi m : M W) : sDPutM md mi m r S = (m r S).bd fun x S1 => (md r S1).bd fun a S2 => (mi r S2).bd fun b S3 => (opDPut a b x S3).st r := by
  simp only [sDPutM, bind_ev]
  rfl
@[simp] theorem sFor_ev (T : Tg) (mi : M (List W)) (b : MSt) : sFor T mi b r S = (mi r S).bd fun xs S1 => sForL T b xs r S1 := by simp [sFor]
@[simp] theorem iL_ev (m : M W) : iL m r S = (m r S).bd fun w S1 => itL w S1 := by simp [iL]
@[simp] theorem iT_ev (m : M W) : iT m r S = (m r S).bd fun w S1 => itT w S1 := by simp [iT]
@[simp] theorem iE_ev (m : M W) : iE m r S = (m r S).bd fun w S1 => itE w S1 := by simp [iE]
@[simp] theorem iET_ev (m : M W) : iET m r S = (m r S).bd fun w S1 => itET w S1 := by simp [iET]
@[simp] theorem iR1_ev (m : M (List W)) : iR1 m r S = (m r S).bd fun ws S1 => itR1 ws S1 := by simp [iR1]
@[simp] theorem iR2_ev (m : M (List W)) : iR2 m r S = (m r S).bd fun ws S1 => itR2 ws S1 := by simp [iR2]
@[simp] theorem iR3_ev (m : M (List W)) : iR3 m r S = (m r S).bd fun ws S1 => itR3 ws S1 := by simp [iR3]
@[simp] theorem itL_lst (xs : List W) : itL (.lst xs) S = .ok xs S := rfl
@[simp] theorem itL_scr (ns : List Int) : itL (.scr ns) S = .ok (ns.map W.int) S := rfl
@[simp] theorem itT_tup (xs : List W) : itT (.tup xs) S = .ok xs S := rfl
@[simp] theorem itE_lst (xs : List W) : itE (.lst xs) S = .ok (enumW xs) S := rfl
@[simp] theorem itET_tup (xs : List W) : itET (.tup xs) S = .ok (enumW xs) S := rfl
end
end SL
set_option Elab.async false
set_option linter.all false
set_option maxRecDepth 100000
set_option maxHeartbeats 2000000
/-! values: what the operators, the built-in functions, the stores do with them -/
namespace SL
open PySem PySem.Spec PyProof.Rows L2
section
variable {S T : Sto} {i j : Int} {α : Type}
@[simp] theorem fix_Trip_start : fix .Trip .start = some 0 := rfl
@[simp] theorem fix_Trip_source : fix .Trip .source = some 1 := rfl
@[simp] theorem fix_Trip_target : fix .Trip .target = some 2 := rfl
@[simp] theorem fix_Trip_pace : fix .Trip .pace = some 3 := rfl
@[simp] theorem fix_Trip_habit : fix .Trip .habit = some 4 := rfl
@[simp] theorem fix_Stairs_top : fix .Stairs .top = some 0 := rfl
@[simp] theorem fix_Stairs_length : fix .Stairs .length = some 1 := rfl
@[simp] theorem fix_Stairs_time : fix .Stairs .time = some 2 := rfl
@[simp] theorem fix_Stairs_trips : fix .Stairs .trips = some 3 := rfl
@[simp] theorem fix_Scene_burning : fix .Scene .burning = some 0 := rfl
@[simp] theorem fix_Scene_presses : fix .Scene .presses = some 1 := rfl
@[simp] theorem fix_Scene_dark : fix .Scene .dark = some 2 := rfl
@[simp] theorem fix_Story_scenes : fix .Story .scenes = some 0 := rfl
@[simp] theorem fix_Story_start : fix .Story .start = some 1 := rfl
@[simp] theorem fix_Reader_code : fix .Reader .code = some 0 := rfl
@[simp] theorem fix_Reader_place : fix .Reader .place = some 1 := rfl
@[simp] theorem fix_Electrician_stories : fix .Electrician .stories = some 0 := rfl
@[simp] theorem fix_Electrician_facts : fix .Electrician .facts = some 1 := rfl
@[simp] theorem fix_Panel_now : fix .Panel .now = some 0 := rfl
@[simp] theorem fix_Panel_past : fix .Panel .past = some 1 := rfl
@[simp] theorem fix_Panel_undone : fix .Panel .undone = some 2 := rfl
@[simp] theorem fix_Panel_saved : fix .Panel .saved = some 3 := rfl
@[simp] theorem fix_Trial_panel : fix .Trial .panel = some 0 := rfl
@[simp] theorem fix_Trial_now : fix .Trial .now = some 1 := rfl
@[simp] theorem fix_Trial_past : fix .Trial .past = some 2 := rfl
@[simp] theorem fix_Trial_undone : fix .Trial .undone = some 3 := rfl
@[simp] theorem fix_Trial_isKept : fix .Trial .isKept = some 4 := rfl
theorem ite_bc (p : Prop) [Decidable p] (x y : α) : (if p then x else y) = bc (decide p) x y := by
  by_cases h : p
  · rw [if_pos h, decide_eq_true h]
    rfl
  · rw [if_neg h, decide_eq_false h]
    rfl
/-! ### places of a list -/
@[simp] theorem atI_nat {xs : List α} (k : Nat) : atI xs (k : Int) = xs[k]? := by
  unfold atI ixN
  rw [if_pos (Int.natCast_nonneg k)]
  by_cases h : k < xs.length
  · rw [if_pos (Int.ofNat_lt.mpr h)]
    rfl
  · rw [if_neg (fun z => h (Int.ofNat_lt.mp z))]
    rw [List.getElem?_eq_none (by omega)]
    rfl
@[simp] theorem atI_lit {xs : List α} (n : Nat) : atI xs (OfNat.ofNat n : Int) = xs[n]? := atI_nat n
@[simp] theorem atI_zero {xs : List α} : atI xs (0 : Int) = xs[0]? := atI_nat 0
@[simp] theorem atI_one {xs : List α} : atI xs (1 : Int) = xs[1]? := atI_nat 1
theorem atI_last {xs : List α} {x : α} : atI (xs ++ [x]) (-1) = some x := by
  unfold atI ixN
  have e0 : (xs ++ [x]).length = xs.length + 1 := by simp
  rw [e0, if_neg (by omega), if_pos (by omega)]
  have e : ((xs.length + 1 : Nat) + (-1) : Int).toNat = xs.length := by omega
  have e2 : ((-1) + (xs.length + 1 : Nat) : Int).toNat = xs.length := by omega
  first | rw [e] | rw [e2]
  show (xs ++ [x])[xs.length]? = some x
  simp
theorem ixN_nat {n k : Nat} (h : k < n) : ixN n (k : Int) = some k := by
  unfold ixN
  rw [if_pos (Int.natCast_nonneg k), if_pos (Int.ofNat_lt.mpr h)]
  rfl
/-! ### the store -/
@[simp] theorem at_app0 {c : Ce} : (S ++ c :: T)[S.length]? = some c := by
  rw [List.getElem?_append_right (Nat.le_refl _), Nat.sub_self]
  rfl
@[simp] theorem at_app (k : Nat) : (S ++ T)[S.length + k]? = T[k]? := by
  rw [List.getElem?_append_right (Nat.le_add_right _ _), Nat.add_sub_cancel_left]
@[simp] theorem set_app0 {c d : Ce} : (S ++ c :: T).set S.length d = S ++ d :: T := by
  rw [List.set_append_right _ _ (Nat.le_refl _), Nat.sub_self]
  rfl
@[simp] theorem set_app (k : Nat) {d : Ce} : (S ++ T).set (S.length + k) d = S ++ T.set k d := by
  rw [List.set_append_right _ _ (Nat.le_add_right _ _), Nat.add_sub_cancel_left]
/-! ### operators -/
@[simp] theorem opAdd_int : opAdd (.int i) (.int j) S = .ok (.int (i + j)) S := rfl
@[simp] theorem opSub_int : opSub (.int i) (.int j) S = .ok (.int (i - j)) S := rfl
def mulOk (i j : Int) : Bool := decide ((-(2 ^ 64) < i ∧ i < 2 ^ 64) ∨ (-(2 ^ 64) < j ∧ j < 2 ^ 64))
@[simp] theorem opMul_int : opMul (.int i) (.int j) S = bc (mulOk i j) (.ok (.int (i * j)) S) .stuck := ite_bc _ _ _
theorem mulOk_r (h : -(2 ^ 64) < j) (h2 : j < 2 ^ 64) : mulOk i j = true := decide_eq_true (.inr ⟨h, h2⟩)
theorem mulOk_l (h : -(2 ^ 64) < i) (h2 : i < 2 ^ 64) : mulOk i j = true := decide_eq_true (.inl ⟨h, h2⟩)
@[simp] theorem opFDiv_int : opFDiv (.int i) (.int j) S = bc (decide (0 < j ∧ j < 1073741824)) (.ok (.int (i / j)) S) .stuck := ite_bc _ _ _
@[simp] theorem opMod_int : opMod (.int i) (.int j) S = bc (decide (0 < j)) (.ok (.int (i % j)) S) .stuck := ite_bc _ _ _
@[simp] theorem opPow_int : opPow (.int i) (.int j) S = bc (decide (0 ≤ j ∧ j ≤ 1000000 ∧ i.natAbs < 2 ^ 64)) (.ok (.int (i ^ j.toNat)) S) .stuck := ite_bc _ _ _
@[simp] theorem opLt_int : opLt (.int i) (.int j) S = .ok (.bl (decide (i < j))) S := rfl
@[simp] theorem opLe_int : opLe (.int i) (.int j) S = .ok (.bl (decide (i ≤ j))) S := rfl
@[simp] theorem opGt_int : opGt (.int i) (.int j) S = .ok (.bl (decide (j < i))) S := rfl
@[simp] theorem opGe_int : opGe (.int i) (.int j) S = .ok (.bl (decide (j ≤ i))) S := rfl
theorem opEq_ok {a b : W} {d e : PyData} (ha : dat (seeL S a) = some d) (hb : dat (seeL S b) = some e) (h : SeqAt.shaped d = true) (h2 : SeqAt.shaped e = true) : opEq a b S = .ok (.bl (PyData.eqv d e)) S := by
  unfold opEq
  rw [ha, hb]
  dsimp only
  rw [if_pos (by rw [h, h2]; rfl)]
theorem opNe_ok {a b : W} {d e : PyData} (ha : dat (seeL S a) = some d) (hb : dat (seeL S b) = some e) (h : SeqAt.shaped d = true) (h2 : SeqAt.shaped e = true) : opNe a b S = .ok (.bl (!PyData.eqv d e)) S := by
  unfold opNe
  rw [ha, hb]
  dsimp only
  rw [if_pos (by rw [h, h2]; rfl)]
theorem shaped_int : SeqAt.shaped (.int i) = true := rfl
theorem shaped_bl {x : Bool} : SeqAt.shaped (.bool x) = true := rfl
theorem shaped_str {x : Str} (h : PyData.canLay0 (.str x) = true) : SeqAt.shaped (.str x) = true := by
  unfold SeqAt.shaped
  rw [h]
  rfl
@[simp] theorem opEq_int : opEq (.int i) (.int j) S = .ok (.bl (decide (i = j))) S := (opEq_ok rfl rfl shaped_int shaped_int).trans rfl
@[simp] theorem opNe_int : opNe (.int i) (.int j) S = .ok (.bl (!decide (i = j))) S := (opNe_ok rfl rfl shaped_int shaped_int).trans rfl
theorem opEq_str {x y : Str} (h : PyData.canLay0 (.str x) = true) (h2 : PyData.canLay0 (.str y) = true) : opEq (.str x) (.str y) S = .ok (.bl (decide (x = y))) S := by
  rw [opEq_ok (d := .str x) (e := .str y) rfl rfl (shaped_str h) (shaped_str h2)]
  show Res.ok (W.bl (x == y)) S = _
  rw [Bool.beq_eq_decide_eq]
@[simp] theorem opEq_bl {x y : Bool} : opEq (.bl x) (.bl y) S = .ok (.bl (x == y)) S := (opEq_ok rfl rfl shaped_bl shaped_bl).trans rfl
@[simp] theorem opNe_bl {x y : Bool} : opNe (.bl x) (.bl y) S = .ok (.bl (!(x == y))) S := (opNe_ok rfl rfl shaped_bl shaped_bl).trans rfl
@[simp] theorem opIsN_ev {w : W} : opIsN w .non S = .ok (.bl (isNon w)) S := rfl
@[simp] theorem opNotN_ev {w : W} : opNotN w .non S = .ok (.bl (!isNon w)) S := rfl
@[simp] theorem isNon_non : isNon .non = true := rfl
@[simp] theorem isNon_int : isNon (.int i) = false := rfl
@[simp] theorem isNon_tup {xs : List W} : isNon (.tup xs) = false := rfl
@[simp] theorem isNon_str {x : Str} : isNon (.str x) = false := rfl
@[simp] theorem isNon_bl {x : Bool} : isNon (.bl x) = false := rfl
@[simp] theorem isNon_lst {xs : List W} : isNon (.lst xs) = false := rfl
@[simp] theorem isNon_loc {n : Nat} : isNon (.loc n) = false := rfl
/-- w != [] -/
theorem opNe_nil {w : W} {xs : List W} {ds : List PyData} (h : getL S w = some xs) (hd : dats xs = some ds) (hs : SeqAt.shaped (.list ds) = true) : opNe w (.lst []) S = .ok (.bl (!xs.isEmpty)) S := by
  have e : dat (seeL S w) = some (.list ds) := by
    cases w with
    | lst ys =>
      cases (show some ys = some xs from h)
      simp [seeL, dat, hd]
    | loc n =>
      have h' : (match S[n]? with
        | some (.lst xs) => some xs
        | _ => none) = some xs := h
      unfold seeL
      dsimp only
      cases q : S[n]? with
      | none => simp [q] at h'
      | some c =>
        rw [q] at h'
        cases c with
        | lst ys =>
          cases h'
          simp [dat, hd]
        | _ => cases h'
    | _ => cases h
  unfold opNe
  rw [e]
  have e2 : dat (seeL S (.lst [])) = some (.list []) := by simp [seeL, dat, dats]
  rw [e2]
  dsimp only
  rw [if_pos (by rw [hs]; decide +kernel)]
  cases xs with
  | nil =>
    cases hd
    rfl
  | cons x xs =>
    unfold dats at hd
    cases q1 : dat x with
    | none => simp [q1] at hd
    | some d =>
      cases q2 : dats xs with
      | none => simp [q1, q2] at hd
      | some ds2 =>
        simp [q1, q2] at hd
        subst hd
        rfl
@[simp] theorem opIx_tup {xs : List W} : opIx (.tup xs) (.int i) S = oc (atI xs i) (fun w => .ok w S) .stuck := by
  show (match atI xs i with | some w => Res.ok w S | none => .stuck) = _
  cases atI xs i <;> rfl
@[simp] theorem opIx_lst {xs : List W} : opIx (.lst xs) (.int i) S = oc (atI xs i) (fun w => .ok w S) .stuck := by
  show (match atI xs i with | some w => Res.ok w S | none => .stuck) = _
  cases atI xs i <;> rfl
@[simp] theorem getL_lst {xs : List W} : getL S (.lst xs) = some xs := rfl
@[simp] theorem getQ_lst {xs : List W} : getQ S (.lst xs) = some xs := rfl
@[simp] theorem getQ_tup {xs : List W} : getQ S (.tup xs) = some xs := rfl
@[simp] theorem getQ_ktup {xs : List W} : getQ S (.ktup xs) = some xs := rfl
theorem cellL_at {n : Nat} {xs : List W} (h : S[n]? = some (.lst xs)) : cellL S (.loc n) = some (n, xs) := by
  show (match S[n]? with | some (.lst xs) => some (n, xs) | _ => none) = _
  rw [h]
theorem recv_at {n : Nat} {xs : List W} (h : S[n]? = some (.lst xs)) : recvOk "list" S (.loc n) = true := by
  unfold recvOk
  dsimp only
  rw [h]
  rfl
@[simp] theorem recv_lst {xs : List W} : recvOk "list" S (.lst xs) = true := by
  unfold recvOk
  rfl
@[simp] theorem getO_obj {c : Cl} {xs : List W} : getO c S (.obj c xs) = some xs := if_pos rfl
theorem setO_at {n : Nat} {c : Cl} {f : Fl} {xs : List W} {k : Nat} {x : W} (h : S[n]? = some (.ins c xs)) (hf : fix c f = some k) (hk : k ≤ xs.length) : setO c f (.loc n) x S = .ok () (S.set n (.ins c (if k < xs.length then xs.set k x else xs ++ [x]))) := by
  show (match S[n]?, fix c f with | some (.ins d xs), some i => if d = c ∧ i ≤ xs.length then Res.ok () (S.set n (.ins c (if i < xs.length then xs.set i x else xs ++ [x]))) else .stuck | _, _ => .stuck) = _
  rw [h, hf]
  exact if_pos ⟨rfl, hk⟩
/-! ### built-in functions -/
@[simp] theorem bLen_lst {xs : List W} : bLen [.lst xs] S = .ok (.int xs.length) S := rfl
@[simp] theorem bLen_tup {xs : List W} : bLen [.tup xs] S = .ok (.int xs.length) S := rfl
@[simp] theorem bAbs_int : bAbs [.int i] S = .ok (.int (if i < 0 then -i else i)) S := rfl
@[simp] theorem bMax_int : bMax [.int i, .int j] S = .ok (.int (if j > i then j else i)) S := rfl
@[simp] theorem bMin_int : bMin [.int i, .int j] S = .ok (.int (if j < i then j else i)) S := rfl
@[simp] theorem bDivmod_int : bDivmod [.int i, .int j] S = bc (decide (0 < j ∧ j < 1073741824)) (.ok (.tup [.int (i / j), .int (i % j)]) S) .stuck := ite_bc _ _ _
@[simp] theorem bList_lst {xs : List W} : bList [.lst xs] S = .ok (.lst xs) S := rfl
@[simp] theorem bList_tup {xs : List W} : bList [.tup xs] S = .ok (.lst xs) S := rfl
@[simp] theorem bTuple_lst {xs : List W} : bTuple [.lst xs] S = .ok (.tup xs) S := rfl
@[simp] theorem bTuple_tup {xs : List W} : bTuple [.tup xs] S = .ok (.tup xs) S := rfl
@[simp] theorem bListC_lst {xs : List W} : bListC [.lst xs] S = .ok (.loc S.length) (S ++ [.lst xs]) := rfl
/-- isinstance's names -/
theorem bIsi_ev {w : W} {n t : String} (h : tyName S w = some t) (hn : n = "int" ∨ n = "str" ∨ n = "bool" ∨ n = "tuple" ∨ n = "list") : bIsi [w, .ty n] S = .ok (.bl (isiT t n)) S := by
  show (match tyName S w with | some t => if n = "int" ∨ n = "str" ∨ n = "bool" ∨ n = "tuple" ∨ n = "list" then Res.ok (W.bl (isiT t n)) S else .stuck | none => .stuck) = _
  rw [h]
  exact if_pos hn
theorem fAppend_at {n : Nat} {xs : List W} {x : W} (h : S[n]? = some (.lst xs)) (hl : xs.length < 16000000) : fAppend [.loc n, x] S = .ok .non (S.set n (.lst (xs ++ [x]))) := by
  show (match cellL S (.loc n) with | some (n, xs) => if xs.length < 16000000 then Res.ok W.non (S.set n (.lst (xs ++ [x]))) else .stuck | none => .stuck) = _
  rw [cellL_at h]
  exact if_pos hl
end
/-! ### values without changing objects -/
def nol : Nat → W → Bool
  | 0, _ => false
  | k + 1, w => match w with
    | .loc _ => false
    | .tup xs | .lst xs | .obj _ xs | .dct _ xs | .ktup xs => xs.all (nol k)
    | _ => true
theorem frzL_all {f : W → Option W} : ∀ {xs : List W}, (∀ x ∈ xs, f x = some x) → frzL f xs = some xs
  | [], _ => rfl
  | x :: xs, h => by
    unfold frzL
    rw [h x List.mem_cons_self, frzL_all fun y hy => h y (List.mem_cons_of_mem _ hy)]
theorem frz_nol {S : Sto} {n : Nat} : ∀ (k : Nat) (w : W), nol k w = true → frz k S n w = some w
  | 0, _, h => by cases h
  | k + 1, w, h => by
    have ih := frz_nol (S := S) (n := n) k
    cases w <;> unfold nol at h <;> unfold frz <;> dsimp only at h ⊢ <;> first | (cases h; done) | rfl | skip
    all_goals rw [frzL_all fun x hx => ih x (List.all_eq_true.mp h x hx)]; rfl
theorem clo_nol {n : Nat} : ∀ (k : Nat) (w : W), nol k w = true → clo n w = true
  | 0, _, h => by cases h
  | k + 1, w, h => by
    have ih := clo_nol (n := n) k
    have hs : ∀ xs : List W, xs.all (nol k) = true → clos n xs = true := fun xs => by
      induction xs with
      | nil => exact fun _ => rfl
      | cons x xs ihx =>
        intro h
        rw [List.all_cons, Bool.and_eq_true] at h
        unfold clos
        rw [ih x h.1, ihx h.2]
        rfl
    cases w <;> unfold nol at h <;> unfold clo <;> dsimp only at h ⊢ <;> first | (cases h; done) | rfl | exact hs _ h
theorem clos_nol {n : Nat} {k : Nat} : ∀ {xs : List W}, xs.all (nol k) = true → clos n xs = true
  | [], _ => rfl
  | x :: xs, h => by
    rw [List.all_cons, Bool.and_eq_true] at h
    unfold clos
    rw [clo_nol k x h.1, clos_nol h.2]
    rfl
theorem nol_succ : ∀ (k : Nat) (w : W), nol k w = true → nol (k + 1) w = true
  | 0, _, h => by cases h
  | k + 1, w, h => by
    have ih := nol_succ k
    cases w <;> unfold nol at h ⊢ <;> dsimp only at h ⊢ <;> first | (cases h; done) | rfl | exact List.all_eq_true.mpr fun x hx => ih x (List.all_eq_true.mp h x hx)
theorem nol_le {k j : Nat} {w : W} (h : nol k w = true) (hl : k ≤ j) : nol j w = true := by
  induction hl with
  | refl => exact h
  | step _ ih => exact nol_succ _ _ ih
theorem frz_locL {S : Sto} {n m k : Nat} {xs ys : List W} (h : S[m]? = some (.lst xs)) (hm : n ≤ m) (hx : frzL (frz k S n) xs = some ys) : frz (k + 1) S n (.loc m) = some (.lst ys) := by
  unfold frz
  dsimp only
  rw [if_neg (by omega), h]
  dsimp only
  rw [hx]
  rfl
theorem frz_locI {S : Sto} {n m k : Nat} {c : Cl} {xs ys : List W} (h : S[m]? = some (.ins c xs)) (hm : n ≤ m) (hx : frzL (frz k S n) xs = some ys) : frz (k + 1) S n (.loc m) = some (.obj c ys) := by
  unfold frz
  dsimp only
  rw [if_neg (by omega), h]
  dsimp only
  rw [hx]
  rfl
theorem frz_low {S : Sto} {n m k : Nat} (hm : m < n) : frz (k + 1) S n (.loc m) = some (.loc m) := by
  unfold frz
  dsimp only
  rw [if_pos hm]
theorem frz_obj {S : Sto} {n k : Nat} {c : Cl} {xs ys : List W} (hx : frzL (frz k S n) xs = some ys) : frz (k + 1) S n (.obj c xs) = some (.obj c ys) := by
  unfold frz
  dsimp only
  rw [hx]
  rfl
theorem frz_tup {S : Sto} {n k : Nat} {xs ys : List W} (hx : frzL (frz k S n) xs = some ys) : frz (k + 1) S n (.tup xs) = some (.tup ys) := by
  unfold frz
  dsimp only
  rw [hx]
  rfl
theorem frzL_cons {f : W → Option W} {x y : W} {xs ys : List W} (h : f x = some y) (t : frzL f xs = some ys) : frzL f (x :: xs) = some (y :: ys) := by
  unfold frzL
  rw [h, t]
theorem frzL_nil {f : W → Option W} : frzL f [] = some [] := rfl
theorem kept_app (S T : Sto) : Kept S (S ++ T) := ⟨by simp, fun n c h q => .inl (by rw [List.getElem?_append_left h] at q; exact q)⟩
theorem kept_refl (S : Sto) : Kept S S := ⟨Nat.le_refl _, fun n c h q => .inl q⟩
theorem kept_head {c d : Ce} {T U : Sto} (h : cloC (T.length + 1) d = true) : Kept (c :: T) (d :: (T ++ U)) := by
  refine ⟨by simp, fun n e hn q => ?_⟩
  cases n with
  | zero =>
    cases q
    exact .inr h
  | succ n =>
    refine .inl ?_
    have q2 : (T ++ U)[n]? = some e := q
    rw [List.getElem?_append_left (by simpa using hn)] at q2
    exact q2
theorem frR_ok {S S' : Sto} {w u : W} (hk : Kept S S') (h : frz 16 S' S.length w = some u) : frR S (.ok w S') = .ok u (S'.take S.length) := by
  dsimp only [frR]
  rw [if_pos hk, h]
theorem frR_app {S T : Sto} {w u : W} (h : frz 16 (S ++ T) S.length w = some u) : frR S (.ok w (S ++ T)) = .ok u S := by
  rw [frR_ok (kept_app S T) h, List.take_left]
theorem frR_same {S : Sto} {w u : W} (h : frz 16 S S.length w = some u) : frR S (.ok w S) = .ok u S := by
  rw [frR_ok (kept_refl S) h, List.take_length]
theorem frR_nol {S T : Sto} {w : W} (h : nol 16 w = true) : frR S (.ok w (S ++ T)) = .ok w S := frR_app (frz_nol 16 w h)
theorem frR_nols {S : Sto} {w : W} (h : nol 16 w = true) : frR S (.ok w S) = .ok w S := frR_same (frz_nol 16 w h)
@[simp] theorem frR_int {S : Sto} {i : Int} : frR S (.ok (.int i) S) = .ok (.int i) S := frR_nols rfl
@[simp] theorem frR_bl {S : Sto} {i : Bool} : frR S (.ok (.bl i) S) = .ok (.bl i) S := frR_nols rfl
@[simp] theorem frR_str {S : Sto} {i : Str} : frR S (.ok (.str i) S) = .ok (.str i) S := frR_nols rfl
@[simp] theorem frR_non {S : Sto} : frR S (.ok .non S) = .ok .non S := frR_nols rfl
@[simp] theorem noX_ok {S : Sto} {w : W} : noX (.ok w S) = .ok w S := rfl
@[simp] theorem endOf_rt {S : Sto} {w : W} : endOf (.ok (.rt w) S) = .ok w S := rfl
@[simp] theorem endOf_nx {S : Sto} {r : Rho} : endOf (.ok (.nx r) S) = .ok .non S := rfl
theorem fnM_ev {n k : Nat} {b : MSt} {ws : List W} {S : Sto} (h : ws.length = k) : fnM n k b ws S = endOf (b (ws.map some ++ List.replicate (n - k) none) S) := if_pos h
end SL
namespace SL
open PySem PySem.Spec PyProof.Rows L2
/-! ### loops, lists -/
theorem sForL_nx {T : Tg} {b : MSt} {x : W} {xs : List W} {r r1 r2 : Rho} {S S2 : Sto} (h : T.run x r = some r1) (hb : b r1 S = .ok (.nx r2) S2) : sForL T b (x :: xs) r S = sForL T b xs r2 S2 := by
  rw [sForL, h]
  dsimp only
  rw [hb]
theorem sForL_rt {T : Tg} {b : MSt} {x w : W} {xs : List W} {r r1 : Rho} {S S2 : Sto} (h : T.run x r = some r1) (hb : b r1 S = .ok (.rt w) S2) : sForL T b (x :: xs) r S = .ok (.rt w) S2 := by
  rw [sForL, h]
  dsimp only
  rw [hb]
@[simp] theorem sForL_nil {T : Tg} {b : MSt} {r : Rho} {S : Sto} : sForL T b [] r S = .ok (.nx r) S := rfl
def enumA (k : Nat) : List W → List W
  | [] => []
  | x :: xs => .tup [.int (k : Nat), x] :: enumA (k + 1) xs
theorem enumW_eq (ws : List W) : enumW ws = enumA 0 ws := by
  have h : ∀ (ws : List W) (k : Nat), (List.range' k ws.length).zipWith (fun (i : Nat) w => W.tup [.int (i : Int), w]) ws = enumA k ws := by
    intro ws
    induction ws with
    | nil => intro k; rfl
    | cons x xs ih =>
      intro k
      rw [List.length_cons, List.range'_succ, List.zipWith_cons_cons, ih (k + 1)]
      rfl
  unfold enumW
  rw [List.range_eq_range']
  exact h ws 0
theorem dats_ints : ∀ ns : List Int, dats (ns.map W.int) = some (ns.map PyData.int)
  | [] => rfl
  | n :: ns => by
    simp [dats, dat, dats_ints ns]
theorem shaped_ints (ns : List Int) : SeqAt.shaped (.list (ns.map PyData.int)) = true := by
  have h1 : ∀ ns : List Int, PyData.canLayAll0 (ns.map PyData.int) = true := fun ns => by
    induction ns with
    | nil => rfl
    | cons n ns ih =>
      show (true && PyData.canLayAll0 (ns.map PyData.int)) = true
      rw [ih]
      rfl
  have h2 : ∀ ns : List Int, PyData.depthAll (ns.map PyData.int) = 0 := fun ns => by
    induction ns with
    | nil => rfl
    | cons n ns ih =>
      show max 0 (PyData.depthAll (ns.map PyData.int)) = 0
      rw [ih]
      rfl
  show (PyData.canLayAll0 (ns.map PyData.int) && decide (PyData.depthAll (ns.map PyData.int) + 1 ≤ 64)) = true
  rw [h1, h2]
  rfl
theorem opNe_ints {S : Sto} {w : W} {ns : List Int} (h : getL S w = some (ns.map W.int)) : opNe w (.lst []) S = .ok (.bl (!ns.isEmpty)) S := by
  rw [opNe_nil h (dats_ints ns) (shaped_ints ns)]
  cases ns <;> rfl
end SL
namespace SL
open PySem PySem.Spec PyProof.Rows L2
/-! ### comprehensions whose elements change nothing -/
section
variable {α : Type} (i j : α → W) (g : α → Bool)
theorem lcGo_map {T : Tg} {tt : M Bool} {te : M W} {r : Rho} {S : Sto} : ∀ (as : List α) (acc : List W), (∀ a ∈ as, ∃ r1, T.run (i a) r = some r1 ∧ (∀ U, tt r1 U = .ok (g a) U) ∧ (g a = true → ∀ U, te r1 U = .ok (j a) U)) → acc.length + as.length ≤ 16000000 →
    lcGo T tt te S.length (as.map i) r (S ++ [.lst acc]) = .ok S.length (S ++ [.lst (acc ++ (as.filter g).map j)])
  | [], acc, _, _ => by simp [lcGo]
  | x :: xs, acc, h, hl => by
    simp only [List.length_cons] at hl
    obtain ⟨r1, h1, h2, h3⟩ := h x List.mem_cons_self
    have ih := fun acc => lcGo_map (S := S) xs acc fun y hy => h y (List.mem_cons_of_mem _ hy)
    rw [List.map_cons]
    unfold lcGo lcTurn
    rw [h1]
    dsimp only
    rw [h2]
    cases hg : g x with
    | false =>
      dsimp only
      rw [ih acc (by omega), List.filter_cons_of_neg (by simp [hg])]
    | true =>
      dsimp only
      rw [h3 hg]
      dsimp only
      rw [at_app0]
      dsimp only
      rw [if_pos (by omega), set_app0, ih (acc ++ [j x]) (by simp; omega), List.filter_cons_of_pos hg]
      simp
theorem mLc_if {vs : List Nat} {T : Tg} {mi : M (List W)} {tt : M Bool} {te : M W} {r : Rho} {S S1 : Sto} (as : List α) (hm : mi r S = .ok (as.map i) S1) (hv : T.slots.all vs.contains = true)
    (h : ∀ a ∈ as, ∃ r1, T.run (i a) (wipeR r vs) = some r1 ∧ (∀ U, tt r1 U = .ok (g a) U) ∧ (g a = true → ∀ U, te r1 U = .ok (j a) U)) (hn : ∀ a ∈ as, g a = true → nol 14 (j a) = true) (hl : as.length ≤ 16000000) :
    mLc vs T mi tt te r S = .ok (.lst ((as.filter g).map j)) S1 := by
  have e := lcGo_map i j g (S := S1) as [] h (by simpa using hl)
  have hc : clos S1.length ((as.filter g).map j) = true := clos_nol (k := 14) (List.all_eq_true.mpr fun y hy => by
    obtain ⟨x, hx, rfl⟩ := List.mem_map.mp hy
    obtain ⟨h1, h2⟩ := List.mem_filter.mp hx
    exact hn x h1 h2)
  unfold mLc
  rw [hm]
  dsimp only
  rw [if_pos hv, e]
  dsimp only
  rw [at_app0]
  dsimp only [List.nil_append]
  rw [if_pos ⟨by simp, hc, kept_app _ _⟩, List.take_left]
theorem mLc_map {vs : List Nat} {T : Tg} {mi : M (List W)} {te : M W} {r : Rho} {S S1 : Sto} (as : List α) (hm : mi r S = .ok (as.map i) S1) (hv : T.slots.all vs.contains = true)
    (h : ∀ a ∈ as, ∃ r1, T.run (i a) (wipeR r vs) = some r1 ∧ (∀ U, te r1 U = .ok (j a) U)) (hn : ∀ a ∈ as, nol 14 (j a) = true) (hl : as.length ≤ 16000000) : mLc vs T mi mYes te r S = .ok (.lst (as.map j)) S1 := by
  rw [mLc_if i j (fun _ => true) as hm hv (fun x hx => by
    obtain ⟨r1, h1, h2⟩ := h x hx
    exact ⟨r1, h1, fun _ => rfl, fun _ => h2⟩) (fun x hx _ => hn x hx) hl]
  rw [List.filter_eq_self.mpr (by simp)]
end
/-! ### dicts with keys of two whole numbers -/
abbrev Sn := List ((Int × Int) × Int)
def snK (s : Sn) : List (List Key) := s.map fun q => [Sum.inl q.1.1, Sum.inl q.1.2]
def snV (s : Sn) : List W := s.map fun q => W.int q.2
def snGet (s : Sn) (k : Int × Int) : Option Int := (s.find? fun q => decide (q.1 = k)).map (·.2)
theorem sn_val (k : Int × Int) : ∀ s : Sn, dVal (snK s) (snV s) [Sum.inl k.1, Sum.inl k.2] = (snGet s k).map W.int
  | [] => rfl
  | q :: s => by
    have ih := sn_val k s
    have e : decide (([Sum.inl q.1.1, Sum.inl q.1.2] : List Key) = [Sum.inl k.1, Sum.inl k.2]) = decide (q.1 = k) := decide_eq_decide.mpr ⟨fun h => by
      simp at h
      exact Prod.ext h.1 h.2, fun h => by rw [h]⟩
    unfold dVal snGet at ih ⊢
    simp only [snK, snV, List.map_cons, List.zip_cons_cons, List.find?_cons, e]
    cases decide (q.1 = k) with
    | true => rfl
    | false => exact ih
theorem sn_new {s : Sn} {k : Int × Int} (h : snGet s k = none) : dPutK (snK s) [Sum.inl k.1, Sum.inl k.2] = snK (s ++ [(k, i)]) ∧ ∀ w, dPutV (snK s) (snV s) [Sum.inl k.1, Sum.inl k.2] w = snV s ++ [w] := by
  have nm : ([Sum.inl k.1, Sum.inl k.2] : List Key) ∉ snK s := fun m => by
    obtain ⟨q, hq, e⟩ := List.mem_map.mp m
    simp at e
    unfold snGet at h
    rw [Option.map_eq_none_iff, List.find?_eq_none] at h
    exact h q hq (decide_eq_true (Prod.ext e.1 e.2))
  unfold dPutK dPutV
  rw [if_neg nm]
  exact ⟨by simp [snK], fun w => by rw [if_neg nm]⟩
section
variable {S : Sto} {n : Nat} {s : Sn} {a b i : Int}
theorem look_sn (h : S[n]? = some (.dt (snK s) (snV s))) : dLook S (.loc n) (.tup [.int a, .int b]) = some ((snGet s (a, b)).map W.int) := by
  unfold dLook
  dsimp only
  rw [h]
  dsimp only
  rw [show keysW [.int a, .int b] = some [Sum.inl a, Sum.inl b] from rfl]
  exact congrArg some (sn_val (a, b) s)
theorem din_sn (h : S[n]? = some (.dt (snK s) (snV s))) : opDIn (.tup [.int a, .int b]) (.loc n) S = .ok (.bl (snGet s (a, b)).isSome) S := by
  unfold opDIn
  rw [look_sn h]
  dsimp only
  rw [Option.isSome_map]
theorem dget_sn (h : S[n]? = some (.dt (snK s) (snV s))) (hg : snGet s (a, b) = some i) : opDGet (.loc n) (.tup [.int a, .int b]) S = .ok (.int i) S := by
  unfold opDGet
  rw [look_sn h, hg]
  rfl
theorem dput_sn (h : S[n]? = some (.dt (snK s) (snV s))) (hg : snGet s (a, b) = none) (hl : s.length < 16000000) : opDPut (.loc n) (.tup [.int a, .int b]) (.int i) S = .ok () (S.set n (.dt (snK (s ++ [((a, b), i)])) (snV (s ++ [((a, b), i)])))) := by
  unfold opDPut
  dsimp only
  rw [h]
  dsimp only
  rw [show keysW [.int a, .int b] = some [Sum.inl a, Sum.inl b] from rfl]
  dsimp only
  rw [if_pos (by simpa [snK] using hl), (sn_new (i := i) hg).1, (sn_new (i := i) hg).2]
  simp [snV]
end
end SL
namespace SL
open PySem PySem.Spec PyProof.Rows L2
/-! ### changing objects, looked up in the store -/
def cl : Option Ce → Option (List W)
  | some (.lst xs) => some xs
  | _ => none
def ci (c : Cl) : Option Ce → Option (List W)
  | some (.ins d xs) => if d = c then some xs else none
  | _ => none
section
variable {S : Sto} {n : Nat} {x : W} {i : Int}
@[simp] theorem cl_lst {xs : List W} : cl (some (.lst xs)) = some xs := rfl
@[simp] theorem ci_ins {c : Cl} {xs : List W} : ci c (some (.ins c xs)) = some xs := if_pos rfl
@[simp] theorem getL_loc : getL S (.loc n) = cl S[n]? := by
  show (match S[n]? with | some (.lst xs) => some xs | _ => none) = _
  cases S[n]? with
  | none => rfl
  | some c => cases c <;> rfl
@[simp] theorem getQ_loc : getQ S (.loc n) = cl S[n]? := getL_loc
@[simp] theorem recv_loc : recvOk "list" S (.loc n) = (match S[n]? with
    | some (.lst _) => true
    | some (.dk _ _) => decide ("list" = "dict")
    | some (.dt _ _) => decide ("list" = "dict")
    | _ => false) := by
  unfold recvOk
  dsimp only
  cases S[n]? with
  | none => rfl
  | some c => cases c <;> rfl
@[simp] theorem fAppend_loc : fAppend [.loc n, x] S = oc (cl S[n]?) (fun xs => bc (decide (xs.length < 16000000)) (.ok .non (S.set n (.lst (xs ++ [x])))) .stuck) .stuck := by
  unfold fAppend cellL
  dsimp only
  cases S[n]? with
  | none => rfl
  | some c =>
    cases c <;> first | rfl | skip
    exact ite_bc _ _ _
@[simp] theorem opIx_loc : opIx (.loc n) (.int i) S = oc (cl S[n]?) (fun xs => oc (atI xs i) (fun w => .ok w S) .stuck) .stuck := by
  show (match getQ S (.loc n) with | some xs => (match atI xs i with | some w => Res.ok w S | none => .stuck) | none => .stuck) = _
  rw [getQ_loc]
  cases cl S[n]? with
  | none => rfl
  | some xs =>
    rw [oc_some]
    dsimp only
    cases atI xs i <;> rfl
@[simp] theorem getO_loc {c : Cl} : getO c S (.loc n) = ci c S[n]? := by
  show (match S[n]? with | some (.ins d xs) => if d = c then some xs else none | _ => none) = _
  cases S[n]? with
  | none => rfl
  | some e => cases e <;> rfl
@[simp] theorem setO_loc {c : Cl} {f : Fl} : setO c f (.loc n) x S = oc (ci c S[n]?) (fun xs => oc (fix c f) (fun k => bc (decide (k ≤ xs.length)) (.ok () (S.set n (.ins c (if k < xs.length then xs.set k x else xs ++ [x])))) .stuck) .stuck) .stuck := by
  unfold setO
  dsimp only
  cases S[n]? with
  | none => rfl
  | some e =>
    cases e <;> first | rfl | skip
    rename_i d xs
    by_cases h : d = c
    · subst h
      rw [ci_ins, oc_some]
      cases fix d f with
      | none => rfl
      | some k =>
        dsimp only [oc_some]
        rw [ite_bc, show decide (d = d ∧ k ≤ xs.length) = decide (k ≤ xs.length) from decide_eq_decide.mpr ⟨fun z => z.2, fun z => ⟨rfl, z⟩⟩]
    · rw [show ci c (some (.ins d xs)) = none from if_neg h]
      cases fix c f with
      | none => rfl
      | some k =>
        dsimp only
        rw [if_neg (fun z => h z.1)]
        first | done | rfl
@[simp] theorem bLen_loc : bLen [.loc n] S = oc (cl S[n]?) (fun xs => .ok (.int xs.length) S) .stuck := by
  show (match getQ S (.loc n) with | some xs => Res.ok (W.int xs.length) S | none => .stuck) = _
  rw [getQ_loc]
  cases cl S[n]? <;> rfl
theorem fld_ev {c : Cl} {f : Fl} {w : W} : fld c f w S = oc (getO c S w) (fun xs => oc (fix c f) (fun k => oc (xs[k]?) (fun x => .ok x S) .stuck) .stuck) .stuck := rfl
@[simp] theorem opSetL_loc (k : Nat) : opSetL (.loc n) (.int (k : Int)) x S = oc (cl S[n]?) (fun xs => bc (decide (k < xs.length)) (.ok () (S.set n (.lst (xs.set k x)))) .stuck) .stuck := by
  unfold opSetL cellL
  dsimp only
  cases S[n]? with
  | none => rfl
  | some c =>
    cases c <;> first | rfl | skip
    rename_i xs
    dsimp only [cl_lst, oc_some]
    by_cases h : k < xs.length
    · rw [ixN_nat h, decide_eq_true h]
      rfl
    · have : ixN xs.length (k : Int) = none := by
        unfold ixN
        rw [if_pos (Int.natCast_nonneg k), if_neg (fun z => h (Int.ofNat_lt.mp z))]
      rw [this, decide_eq_false h]
      rfl
@[simp] theorem opSetL_zero : opSetL (.loc n) (.int 0) x S = oc (cl S[n]?) (fun xs => bc (decide (0 < xs.length)) (.ok () (S.set n (.lst (xs.set 0 x)))) .stuck) .stuck := opSetL_loc 0
@[simp] theorem opSetL_one : opSetL (.loc n) (.int 1) x S = oc (cl S[n]?) (fun xs => bc (decide (1 < xs.length)) (.ok () (S.set n (.lst (xs.set 1 x)))) .stuck) .stuck := opSetL_loc 1
end
end SL
namespace SL
open PySem PySem.Spec PyProof.Rows L2
section
variable {S : Sto} {i : Int}
@[simp] theorem getIs_ints {ns : List Int} : getIs S (.lst (ns.map W.int)) = some ns := by
  unfold getIs
  rw [getL_lst]
  exact intsOf_map ns
theorem bMax_ints {ns : List Int} {m : Int} (h : maxL ns = some m) : bMax [.lst (ns.map W.int)] S = .ok (.int m) S := by
  show (match getIs S (.lst (ns.map W.int)) with | some ns => (match maxL ns with | some m => Res.ok (W.int m) S | none => .stuck) | none => .stuck) = _
  rw [getIs_ints]
  dsimp only
  rw [h]
theorem opAdd_lst {xs ys : List W} (h : xs.length + ys.length ≤ 16000000) : opAdd (.lst xs) (.lst ys) S = .ok (.lst (xs ++ ys)) S := if_pos h
theorem opAddC_lst {xs ys : List W} (h : xs.length + ys.length ≤ 16000000) : opAddC (.lst xs) (.lst ys) S = .ok (.loc S.length) (S ++ [.lst (xs ++ ys)]) := if_pos h
end
end SL
set_option Elab.async false
set_option linter.all false
set_option maxRecDepth 100000
set_option maxHeartbeats 4000000
namespace SL
open PySem PySem.Spec PyProof.Rows L2
/-! ### the order of nested values -/
def tupD : PyData → Bool
  | .tuple (_ :: _) => true
  | _ => false
theorem tupD_ok {d : PyData} (h : tupD d = true) : ∃ x r, d = .tuple (x :: r) := by
  unfold tupD at h
  split at h
  · exact ⟨_, _, rfl⟩
  · cases h
section
variable {X : Cx} {ca : Ca} {E : XK}
/-! ### sorted(list) of such -/
def datD (w : W) : PyData := (dat w).getD .none
def sortOk (xs : List W) : Bool := xs.all fun w => (dat w).isSome && (tupD (datD w) && (decide ((datD w).depth ≤ 60) && xs.all fun u => PySem.W.alike (datD w) (datD u)))
def leW (a b : W) : Bool := !PySem.W.dataLt (datD b) (datD a)
def bSortD : FnM := fun ws S => match ws with
  | [w] => match getL S w with
    | some xs => if sortOk xs = true ∧ xs.length ≤ 16000000 then .ok (.lst (xs.mergeSort leW)) S else .stuck
    | none => .stuck
  | _ => .stuck
theorem datD_reads {pins : List (Addr × Obj)} {σ : L2.St} {H : Hp} {s : Shared} {io : List Addr} (I : Inv X pins σ H s) : ∀ {xs : List W} {vs : List V} {us : List Value}, RVs X.K ca io H xs vs → Vals vs us → (∀ w ∈ xs, (dat w).isSome = true) →
    PySem.W.EachIs (fun (u : Value) (q : W × V) => RV X.K ca io H q.1 q.2 ∧ L2.RelV q.2 u ∧ ∃ as, Reads s.heap u (datD q.1) as) us (xs.zip vs)
  | [], vs, us, h, r, _ => by
    cases (show vs = [] from h)
    cases r
    exact .nil
  | x :: xs, vs, us, h, r, ho => by
    obtain ⟨v, vr, rfl, h1, h2⟩ := h.inv
    cases r with
    | cons r1 r2 =>
      have hs := ho x List.mem_cons_self
      obtain ⟨d, hd⟩ := Option.isSome_iff_exists.mp hs
      have e : datD x = d := by unfold datD; rw [hd]; rfl
      exact .cons ⟨h1, r1, by rw [e]; exact Dp.reads I d _ _ (dat_ok h1 hd) r1⟩ (datD_reads I h2 r2 fun w hw => ho w (List.mem_cons_of_mem _ hw))
theorem each_back {K : PySem.W.Frag} {io : List Addr} {H : Hp} {P : Value → W × V → Prop} : ∀ {us : List Value} {qs : List (W × V)}, PySem.W.EachIs (fun u q => RV K ca io H q.1 q.2 ∧ L2.RelV q.2 u ∧ P u q) us qs → RVs K ca io H (qs.map Prod.fst) (qs.map Prod.snd) ∧ Vals (qs.map Prod.snd) us
  | _, _, .nil => ⟨.nil, .nil⟩
  | _, _, .cons h t => by
    obtain ⟨h1, h2⟩ := each_back t
    exact ⟨.cons h.1 h1, .cons h.2.1 h2⟩
theorem bm_sortD (hu : X.A.units + 64 < cLine) : BltM X ca E (.builtin "sorted") bSortD := by
  intro pins s σ H vs us Q I r h
  obtain ⟨io, ws, S, z, rvs, p⟩ := h
  unfold bSortD at p
  split at p
  · obtain ⟨v, rfl, rv⟩ := rvs.one
    split at p
    · rename_i xs e1
      obtain ⟨a, vs, rfl, q, rr⟩ := getL_ok z rv e1
      split at p
      · rename_i hc
        obtain ⟨its, rv2, hl, hz⟩ := I.list (.of q)
        obtain ⟨u, rfl, ru⟩ := vals1 r
        obtain rfl : u = Value.ref a := ru
        have ho : ∀ w ∈ xs, (dat w).isSome = true ∧ tupD (datD w) = true ∧ (datD w).depth ≤ 60 ∧ ∀ u ∈ xs, PySem.W.alike (datD w) (datD u) = true := fun w hw => by
          have := List.all_eq_true.mp hc.1 w hw
          simp only [Bool.and_eq_true, decide_eq_true_eq, List.all_eq_true] at this
          exact this
        have hE := datD_reads (ca := ca) (io := io) I rr rv2 fun w hw => (ho w hw).1
        have hm : ∀ q ∈ xs.zip vs, q.1 ∈ xs := fun q hq => (List.of_mem_zip hq).1
        have hzl : (xs.zip vs).length = xs.length := by rw [List.length_zip, rr.len, Nat.min_self]
        refine PySem.W.sorted_data (enc := fun q : W × V => datD q.1) (bs := xs.zip vs) hl.isList hE (hE.mono fun _ _ h => h.2.2) (fun d hd d' hd' => ?_) (.inl fun d hd => ?_) (by rw [hzl]; exact lim_le hc.2) (fun b hb => ?_) fun out hlen ho2 => ?_
        · obtain ⟨q, hq, rfl⟩ := List.mem_map.mp hd
          obtain ⟨q', hq', rfl⟩ := List.mem_map.mp hd'
          exact (ho _ (hm q hq)).2.2.2 _ (hm q' hq')
        · obtain ⟨q, hq, rfl⟩ := List.mem_map.mp hd
          exact tupD_ok (ho _ (hm q hq)).2.1
        · have := (ho _ (hm b hb)).2.2.1
          omega
        · obtain ⟨h1, h2⟩ := each_back ho2
          have e : ((xs.zip vs).mergeSort (PySem.W.dataLe false fun q : W × V => datD q.1)).map Prod.fst = xs.mergeSort leW := by
            rw [List.map_mergeSort (r := PySem.W.dataLe false fun q : W × V => datD q.1) (s := leW) (f := Prod.fst) (fun a _ b _ => rfl)]
            rw [List.map_fst_zip (by rw [rr.len]; exact Nat.le_refl _)]
          rw [e] at h1
          generalize ((xs.zip vs).mergeSort (PySem.W.dataLe false fun q : W × V => datD q.1)).map Prod.snd = ys at h1 h2
          have np : H (s.heap.objs.size + 1) = none := I.hok.fresh (Nat.le_succ _)
          obtain ⟨n, hn⟩ := sortedAll_at s.heap its out.toArray
          refine ⟨.ref (s.heap.objs.size + 1), upd H (s.heap.objs.size + 1) (.lst ys), I.laid (t' := s.toks) (fun b o e => sortedAll_old e) (Nat.le_succ _) ⟨?_, out, n, h2, hn⟩, rfl, p.newL z np _ (rv_newL z np h1)⟩
          rw [h2.length, hlen, hzl]
          exact lim_le hc.2
      · exact p.elim
    · exact p.elim
  · exact p.elim
/-! ### list(range(a, b)) -/
end
end SL
set_option Elab.async false
set_option linter.all false
set_option maxRecDepth 100000
set_option maxHeartbeats 4000000
set_option Elab.async false
set_option linter.all false
set_option maxRecDepth 100000
set_option maxHeartbeats 4000000
namespace SL
open PySem PySem.Spec PyProof.Rows L2
/-- room for comparisons -/
structure RoomU (A : Around) : Prop where
  un : A.units + 64 < cLine
theorem RoomU.units {A : Around} (h : RoomU A) : A.units + 64 < cLine := h.un
theorem RoomU.units0 {A : Around} (h : RoomU A) : A.units < cLine := by
  have := h.un
  omega
/-! ### try: .. except LightError as e: suite that returns -/
/-- the errors -/
def exB : Cl → Bool
  | .InvalidStairs | .InvalidTick | .UnknownTrip | .InvalidCount | .TooManyTrips | .Contradiction | .TextFault | .InvalidCode | .InvalidName | .UnknownName | .InvalidOperation => true
  | _ => false
structure ExcS (K : PySem.W.Frag) : Prop where
  xm : ∀ c, exB c = true → PySem.W.exmOne K (.ref (He.ga K (cname c))) (.ref (He.ga K "LightError")) = some true
  xc : ∀ c, exB c = true → ExcC K (He.ga K (cname c))
  pr : ∀ c d, exB c = true → exB d = true → PySem.W.kitOne K (.ref (He.ga K (cname c))) (.ref (He.ga K (cname d))) = some (decide (c = d))
  ve : ∀ c, exB c = true → PySem.W.kitOne K (.ref (He.ga K (cname c))) (.type "ValueError") = some true
  nf : ∀ c, exB c = true → ∀ f ∈ [("part" : Str), "index", "line", "place"], PySem.W.findIn K (.ref (He.ga K (cname c))) f = some none
end SL
set_option Elab.async false
set_option linter.all false
set_option maxRecDepth 100000
set_option maxHeartbeats 4000000
namespace SL
open PySem PySem.Spec PyProof.Rows L2
/-! ### what the head tells of the errors' classes -/
section
variable {K : PySem.W.Frag} {c : Str}
theorem xcB_ok {C : Addr} (h : xcB K C = true) : ExcC K C := by
  unfold xcB at h
  obtain ⟨h1, h⟩ := He.ba h
  obtain ⟨h2, h⟩ := He.ba h
  obtain ⟨h3, h⟩ := He.ba h
  obtain ⟨h4, h⟩ := He.ba h
  obtain ⟨h5, h⟩ := He.ba h
  obtain ⟨h6, h⟩ := He.ba h
  obtain ⟨h7, h8⟩ := He.ba h
  exact ⟨He.eqO_ok h1, He.eqO_ok h2, of_decide_eq_true h3, h4, He.eqO_ok h5, He.eqO_ok h6, of_decide_eq_true h7, of_decide_eq_true h8⟩
theorem exB_in {c : Cl} (h : exB c = true) : cname c ∈ xNames := by cases c <;> first | decide | cases h
theorem cname_inj {c d : Cl} (h : exB c = true) (h2 : exB d = true) : (cname c = cname d) ↔ c = d := by
  constructor
  · intro e
    cases c <;> first | (cases h; done) | (cases d <;> first | rfl | (cases h2; done) | (exact absurd e (by decide)))
  · rintro rfl
    rfl
theorem xsB_ok (h : xsB K = true) : ExcS K := by
  have key : ∀ c, exB c = true → PySem.W.exmOne K (.ref (He.ga K (cname c))) (.ref (He.ga K "LightError")) = some true ∧ ExcC K (He.ga K (cname c)) ∧ (∀ d ∈ xNames, PySem.W.kitOne K (.ref (He.ga K (cname c))) (.ref (He.ga K d)) = some (decide (cname c = d))) ∧
      PySem.W.kitOne K (.ref (He.ga K (cname c))) (.type "ValueError") = some true ∧ ∀ f ∈ [("part" : Str), "index", "line", "place"], PySem.W.findIn K (.ref (He.ga K (cname c))) f = some none := fun c hc => by
    have g := List.all_eq_true.mp h _ (exB_in hc)
    obtain ⟨h1, g⟩ := He.ba g
    obtain ⟨h2, g⟩ := He.ba g
    obtain ⟨h3, g⟩ := He.ba g
    obtain ⟨h4, h5⟩ := He.ba g
    exact ⟨of_decide_eq_true h1, xcB_ok h2, fun d hd => of_decide_eq_true (List.all_eq_true.mp h3 d hd), of_decide_eq_true h4, fun f hf => He.eqO_ok (List.all_eq_true.mp h5 f hf)⟩
  refine ⟨fun c hc => (key c hc).1, fun c hc => (key c hc).2.1, fun c d hc hd => ?_, fun c hc => (key c hc).2.2.2.1, fun c hc => (key c hc).2.2.2.2⟩
  rw [(key c hc).2.2.1 _ (exB_in hd)]
  congr 1
  exact decide_eq_decide.mpr (cname_inj hc hd)
theorem oexB_ok {C : Addr} (h : oexB K C = true) : ∃ nm q N bs bm sn sub ab col dd k0 k1 k2 k3 k5, K.lookup C = some (excClassObj nm q C N bs bm true sn sub ab col dd k0 k1 k2 k3 k5 "ValueError.__new__") ∧ PySem.HandSPX.refsVE bm = true := by
  unfold oexB at h
  split at h
  · rename_i dd cd sl ho
    split at h
    · rename_i C' bm k0 k1 k2 k3 n k5 hm hs
      obtain ⟨h1, h⟩ := He.ba h
      obtain ⟨h2, h⟩ := He.ba h
      obtain ⟨h3, h⟩ := He.ba h
      obtain ⟨h4, h5⟩ := He.ba h
      have e1 := of_decide_eq_true h1
      have e2 := of_decide_eq_true h2
      subst e1 e2
      obtain ⟨nm, bs, mro, ns, qn, hd, sn, sub, ab, col, del⟩ := cd
      dsimp only at hm h3 h4
      have e3 : del = false := by simpa using h3
      subst hm h4 e3
      obtain ⟨l⟩ := sl
      have hs : l = _ := hs
      subst hs
      exact ⟨nm, qn, ns, bs, bm, sn, sub, ab, col, dd, k0, k1, k2, k3, k5, ho, h5⟩
    · cases h
  · cases h
theorem xnB_ok (h : xnB K c = true) : ExcN K (He.ga K c) (He.ma K (He.ga K c) "__init__") := by
  unfold xnB at h
  obtain ⟨h1, h⟩ := He.ba h
  obtain ⟨h2, h⟩ := He.ba h
  obtain ⟨h3, h⟩ := He.ba h
  obtain ⟨h4, h⟩ := He.ba h
  obtain ⟨h5, h⟩ := He.ba h
  obtain ⟨h6, h7⟩ := He.ba h
  exact ⟨⟨oexB_ok h1, He.eqO_ok h2, of_decide_eq_true h3, of_decide_eq_true h4, h5⟩, He.eqO_ok h6, of_decide_eq_true h7⟩
theorem leB_ok (h : leB K c = true) : LeI K (He.ga K c) := by
  unfold leB at h
  obtain ⟨h1, h2⟩ := He.ba h
  refine ⟨⟨h1, ?_⟩, ?_⟩
  · have g := h1
    unfold PySem.W.readsIn at g
    obtain ⟨g, _⟩ := He.ba g
    obtain ⟨g, _⟩ := He.ba g
    obtain ⟨g, g3⟩ := He.ba g
    obtain ⟨_, g2⟩ := He.ba g
    unfold PySem.W.specialIn
    rw [beq_iff_eq.mp g2, Option.bind_some]
    exact beq_iff_eq.mp g3
  · split at h2
    · rename_i n e
      rw [e, of_decide_eq_true h2]
    · cases h2
end
section
variable {fs : List Fx} {ds : List Df} {P : Program} {w : World} {K : PySem.W.Frag} {mg : Str → Option Value} {base : Heap}
theorem Sy.xs (Z : Sy fs ds K mg) (i : Nat) (h : fs[i]? = some .xs := by rfl) : ExcS K := xsB_ok (Z.f i h)
theorem Sy.xa (Z : Sy fs ds K mg) (i : Nat) {C : Str} (h : fs[i]? = some (.fa (.exc C)) := by rfl) : ExcA K (He.ga K C) := by
  obtain ⟨h1, h2, h3, h4⟩ := He.exc_ok (Z.f i h)
  exact ⟨h1, h2, h3, h4⟩
theorem Sy.le (Z : Sy fs ds K mg) (i : Nat) {C : Str} (h : fs[i]? = some (.le C) := by rfl) : LeI K (He.ga K C) := leB_ok (Z.f i h)
theorem Sy.xi2 {C f1 f2 qual : Str} {params : Arguments} {body : List Stmt} {scope : Scope} {st0 : Stmt} {e1 e2 e3 e4 p8 p9 q1 q2 : Pos} (Z : Sy fs ds K mg) (i ix : Nat) (hd : ds[i]? = some ⟨.me C "__init__", "__init__", qual, params, body, scope⟩) (hx : fs[ix]? = some (.xn C)) (Sc : FnScope ["self", f1, f2] ["self", f1, f2] scope)
    (hb : BindOk "__init__" qual params body scope ["self", f1, f2]) (hcall : ∀ (f : Addr) (cdv : Value) (A : Around) (outer : List Env) (s : Shared) (H : Hp) (E : XK), PS (cxOf (L2.CX P w) P w K mg base ["self", f1, f2] qual scope f cdv A outer s H E) st0 (tDrop (tVeI K (tCons (tVar 0) (tCons (tVar 1) (tCons (tVar 2) tNil))))))
    (hbo : body = [st0, .Assign [.Attribute (.Name "self" p8) f1 p9] (.Name f1 e1) e2, .Assign [.Attribute (.Name "self" q1) f2 q2] (.Name f2 e3) e4]) (hv : Vis scope "self" ∧ Vis scope f1 ∧ Vis scope f2) (hn : (f1 == ("__debug__" : Str)) = false ∧ (f1 == ("__classdict__" : Str)) = false) (hn2 : (f2 == ("__debug__" : Str)) = false ∧ (f2 == ("__classdict__" : Str)) = false) : XiAt P w K mg base (He.ga K C) 1 (spX2 K f1 f2) := by
  obtain ⟨fd, F⟩ := Z.d i hd
  exact ⟨_, fd, _, xnB_ok (Z.f ix hx), F.bindsN hb, init2_ok F Sc (hcall _) hbo hv hn hn2⟩
end
end SL
set_option Elab.async false
set_option linter.all false
set_option maxRecDepth 100000
set_option maxHeartbeats 4000000
namespace SL
open PySem PySem.Spec PyProof.Rows L2
/-! ### where functions without a name stand in a text -/
section
variable {P : Program} {w : World} {K : PySem.W.Frag} {mg : Str → Option Value} {base : Heap} {L : Lm} {x : Str} {kk k : Nat} {g : FnG → FnM} {G : FnG}
theorem FnAtF.at (F : FnAtF P w K mg x kk k g) (hT : FnTab P w K mg base (caL K L) kk G) : FnAt P w K mg base (caL K L) x k (g G) := by
  obtain ⟨f, h1, h2, h3⟩ := F
  exact ⟨f, h1, h2, h3 base L G hT⟩
variable {fs : List Fx} {ds : List Df} {qual : Str} {params : Arguments} {body : List Stmt} {scope : Scope} {N ps : List Str} {n j : Nat}
end
end SL
set_option Elab.async false
set_option linter.all false
set_option maxRecDepth 100000
set_option maxHeartbeats 2000000
namespace SL
open PySem PySem.Spec PyProof.Rows L2
section
variable {r : Rho} {S : Sto}
@[simp] theorem sRaise0_ev (c : Cl) : sRaise0 c r S = .exc c [] S := rfl
@[simp] theorem sRaiseA_ev (c : Cl) (t : M (List W)) : sRaiseA c t r S = (t r S).bd fun ws S1 => bc (decide (ws.length = (flds c).length)) (.exc c ws.reverse S1) .stuck := by
  unfold sRaiseA
  cases t r S with
  | ok ws S1 =>
    simp only [bd_ok]
    by_cases h : ws.length = (flds c).length
    · rw [if_pos h, decide_eq_true h]
      rfl
    · rw [if_neg h, decide_eq_false h]
      rfl
  | exc c es S1 => rfl
  | stuck => rfl
@[simp] theorem mMkFn_ev (k : Nat) : mMkFn k r S = .ok (.loc S.length) (S ++ [.fn k []]) := rfl
end
end SL
set_option Elab.async false
set_option linter.all false
set_option maxRecDepth 100000
set_option maxHeartbeats 0
namespace SL
open PySem PySem.Spec PyProof.Rows L2
/-! random -/
noncomputable def f_l_random_1 : MSt := sSet 2 (mOp opMod (mOp opAdd (mOp opMul (mVar 2) (mC (.int 31))) (mCall bAbs (mCons (mVar 3) (mNil)))) (mC (.int 2147483647)))
noncomputable def e_l_random_1 : M W := mVar 3
noncomputable def i_l_random_1 : M Bool := mB (mOp opGe (mVar 3) (mOp opPow (mC (.int 10)) (mC (.int 18))))
noncomputable def b_l_random : MSt := sSeq (sSet 2 (mVar 1)) (sSeq (sFor (.n 3) (iL (mVar 0)) (f_l_random_1)) (sRet (mOp opAddC (mLst (mCons (mVar 2) (mCons (mC (.int 0)) (mNil)))) (mLc [3] (.n 3) (iL (mVar 0)) (i_l_random_1) (e_l_random_1)))))
noncomputable abbrev m_l_random : FnM := fnM 4 2 b_l_random
/-! below -/
noncomputable def b_l_below : MSt := sSeq (sIf (mAnd (mB (mOp opEq (mIx (mVar 0) (mC (.int 1))) (mC (.int 0)))) (mB (mOp opGt (mCall bLen (mCons (mVar 0) (mNil))) (mC (.int 2))))) (sIxSet (mVar 0) (mC (.int 1)) (mBm "list" fPop (mVar 0) (mCons (mC (.int 2)) (mNil)))) (sNext)) (sSeq (sIf (mB (mOp opGt (mIx (mVar 0) (mC (.int 1))) (mC (.int 0)))) (sSeq (sSet 2 (mOp opMod (mIx (mVar 0) (mC (.int 1))) (mVar 1))) (sSeq (sIxSet (mVar 0) (mC (.int 1)) (mOp opFDiv (mIx (mVar 0) (mC (.int 1))) (mVar 1))) (sRet (mVar 2)))) (sNext)) (sSeq (sIxSet (mVar 0) (mC (.int 0)) (mOp opMod (mOp opAdd (mOp opMul (mIx (mVar 0) (mC (.int 0))) (mC (.int 48271))) (mC (.int 11))) (mC (.int 2147483647)))) (sRet (mOp opMod (mOp opFDiv (mIx (mVar 0) (mC (.int 0))) (mC (.int 64))) (mVar 1)))))
noncomputable abbrev m_l_below : FnM := fnM 3 2 b_l_below
/-! trip -/
noncomputable def b_l_trip : MSt := sSeq (sSet 3 (mFr (mCall m_l_below (mCons (mVar 0) (mCons (mOp opAdd (mVar 1) (mC (.int 1))) (mNil)))))) (sSeq (sSet 4 (mOp opMod (mOp opAdd (mOp opAdd (mVar 3) (mC (.int 1))) (mFr (mCall m_l_below (mCons (mVar 0) (mCons (mVar 1) (mNil)))))) (mOp opAdd (mVar 1) (mC (.int 1))))) (sSeq (sSet 5 (mIx (mLst (mCons (mC (.str "dark")) (mCons (mC (.str "dark")) (mCons (mC (.str "always")) (mCons (mC (.str "never")) (mNil)))))) (mFr (mCall m_l_below (mCons (mVar 0) (mCons (mC (.int 4)) (mNil))))))) (sRet (mTup (mCons (mFr (mCall m_l_below (mCons (mVar 0) (mCons (mVar 2) (mNil))))) (mCons (mVar 3) (mCons (mVar 4) (mCons (mOp opAdd (mC (.int 1)) (mFr (mCall m_l_below (mCons (mVar 0) (mCons (mIx (mLst (mCons (mC (.int 2)) (mCons (mC (.int 5)) (mNil)))) (mFr (mCall m_l_below (mCons (mVar 0) (mCons (mC (.int 2)) (mNil)))))) (mNil)))))) (mCons (mVar 5) (mNil))))))))))
noncomputable abbrev m_l_trip : FnM := fnM 6 3 b_l_trip
/-! parts -/
noncomputable def e_l_parts_1 : M W := mFr (mCall m_l_trip (mCons (mVar 0) (mCons (mVar 2) (mCons (mVar 3) (mNil)))))
noncomputable def b_l_parts : MSt := sSeq (sTg (.t [2, 3]) (mTup (mCons (mOp opAdd (mC (.int 1)) (mFr (mCall m_l_below (mCons (mVar 0) (mCons (mIx (mLst (mCons (mC (.int 3)) (mCons (mC (.int 9)) (mNil)))) (mFr (mCall m_l_below (mCons (mVar 0) (mCons (mC (.int 2)) (mNil)))))) (mNil)))))) (mCons (mOp opAdd (mC (.int 1)) (mFr (mCall m_l_below (mCons (mVar 0) (mCons (mIx (mLst (mCons (mC (.int 12)) (mCons (mC (.int 48)) (mNil)))) (mFr (mCall m_l_below (mCons (mVar 0) (mCons (mC (.int 2)) (mNil)))))) (mNil)))))) (mNil))))) (sSeq (sSet 4 (mOp opAdd (mC (.int 1)) (mFr (mCall m_l_below (mCons (mVar 0) (mCons (mIx (mLst (mCons (mC (.int 6)) (mCons (mC (.int 15)) (mCons (mC (.int 60)) (mNil))))) (mFr (mCall m_l_below (mCons (mVar 0) (mCons (mC (.int 3)) (mNil)))))) (mNil))))))) (sRet (mTup (mCons (mVar 2) (mCons (mVar 3) (mCons (mVar 4) (mCons (mCall bTuple (mCons (mLc [5] (.n 5) (iR1 (mCons (mFr (mCall m_l_below (mCons (mVar 0) (mCons (mOp opAdd (mVar 1) (mC (.int 1))) (mNil))))) (mNil))) (mYes) (e_l_parts_1)) (mNil))) (mNil))))))))
noncomputable abbrev m_l_parts : FnM := fnM 6 2 b_l_parts
/-! is_int_in -/
noncomputable def b_is_int_in : MSt := sRet (mAndV (mCall bIsi (mCons (mVar 0) (mCons (mC (.ty "int")) (mNil)))) (mAndV (mNotV (mCall bIsi (mCons (mVar 0) (mCons (mC (.ty "bool")) (mNil))))) (mChain opLe opLe (mVar 1) (mVar 0) (mVar 2))))
noncomputable abbrev m_is_int_in : FnM := fnM 3 3 b_is_int_in
/-! InvalidStairs.__init__ -/
/-! is_trip -/
noncomputable def b_is_trip : MSt := sSeq (sIf (mOr (mNot (mB (mCall bIsi (mCons (mVar 0) (mCons (mC (.ty "tuple")) (mNil)))))) (mB (mOp opNe (mCall bLen (mCons (mVar 0) (mNil))) (mC (.int 5))))) (sRet (mC (.bl false))) (sNext)) (sSeq (sTg (.t [3, 4, 5, 6, 7]) (mVar 0)) (sSeq (sIf (mOr (mNot (mB (mFr (mCall m_is_int_in (mCons (mVar 3) (mCons (mC (.int 0)) (mCons (mOp opSub (mVar 2) (mC (.int 1))) (mNil)))))))) (mNot (mB (mFr (mCall m_is_int_in (mCons (mVar 6) (mCons (mC (.int 1)) (mCons (mC (.int 5)) (mNil))))))))) (sRet (mC (.bl false))) (sNext)) (sSeq (sIf (mOr (mNot (mB (mFr (mCall m_is_int_in (mCons (mVar 4) (mCons (mC (.int 0)) (mCons (mVar 1) (mNil)))))))) (mOr (mNot (mB (mFr (mCall m_is_int_in (mCons (mVar 5) (mCons (mC (.int 0)) (mCons (mVar 1) (mNil)))))))) (mB (mOp opEq (mVar 4) (mVar 5))))) (sRet (mC (.bl false))) (sNext)) (sRet (mAndV (mCall bIsi (mCons (mVar 7) (mCons (mC (.ty "str")) (mNil)))) (mOp opInQ (mVar 7) (mC (.ktup (List.map W.str ["dark", "always", "never"])))))))))
noncomputable abbrev m_is_trip : FnM := fnM 8 3 b_is_trip
/-! Trip.__init__ -/
noncomputable def b_Trip___init__ : MSt := sSeq (sFldSet .Trip .start (mVar 0) (mVar 1)) (sSeq (sFldSet .Trip .source (mVar 0) (mVar 2)) (sSeq (sFldSet .Trip .target (mVar 0) (mVar 3)) (sSeq (sFldSet .Trip .pace (mVar 0) (mVar 4)) (sFldSet .Trip .habit (mVar 0) (mVar 5)))))
noncomputable abbrev m_Trip___init__ : FnM := fnM 6 6 b_Trip___init__
/-! Stairs.__init__ -/
noncomputable def f_Stairs___init___1 : MSt := sIf (mOr (mB (mOp opEq (mVar 5) (mC (.int 8)))) (mNot (mB (mFr (mCall m_is_trip (mCons (mVar 6) (mCons (mVar 1) (mCons (mVar 2) (mNil))))))))) (sRaiseA .InvalidStairs (mCons (mC (.str "trips")) (mCons (mVar 5) (mNil)))) (sNext)
noncomputable def e_Stairs___init___1 : M W := mFr (mCall (newR .Trip m_Trip___init__) (mStar (mVar 6) mNil))
noncomputable def b_Stairs___init__ : MSt := sSeq (sIf (mNot (mB (mFr (mCall m_is_int_in (mCons (mVar 1) (mCons (mC (.int 1)) (mCons (mC (.int 9)) (mNil)))))))) (sRaiseA .InvalidStairs (mCons (mC (.str "top")) (mCons (mC (.int 0)) (mNil)))) (sNext)) (sSeq (sIf (mNot (mB (mFr (mCall m_is_int_in (mCons (mVar 2) (mCons (mC (.int 1)) (mCons (mC (.int 48)) (mNil)))))))) (sRaiseA .InvalidStairs (mCons (mC (.str "length")) (mCons (mC (.int 0)) (mNil)))) (sNext)) (sSeq (sIf (mNot (mB (mFr (mCall m_is_int_in (mCons (mVar 3) (mCons (mC (.int 1)) (mCons (mC (.int 60)) (mNil)))))))) (sRaiseA .InvalidStairs (mCons (mC (.str "time")) (mCons (mC (.int 0)) (mNil)))) (sNext)) (sSeq (sFor (.t [5, 6]) (iET (mVar 4)) (f_Stairs___init___1)) (sSeq (sFldSet .Stairs .top (mVar 0) (mVar 1)) (sSeq (sFldSet .Stairs .length (mVar 0) (mVar 2)) (sSeq (sFldSet .Stairs .time (mVar 0) (mVar 3)) (sFldSet .Stairs .trips (mVar 0) (mLc [6] (.n 6) (iT (mVar 4)) (mYes) (e_Stairs___init___1)))))))))
noncomputable abbrev m_Stairs___init__ : FnM := fnMS 7 4 b_Stairs___init__
/-! Stairs.with_trips -/
noncomputable def b_Stairs_with_trips : MSt := sRet (mFr (mCall (newR .Stairs m_Stairs___init__) (mCons (mFld .Stairs .top (mVar 0)) (mCons (mFld .Stairs .length (mVar 0)) (mCons (mFld .Stairs .time (mVar 0)) (mStar (mVar 1) (mNil)))))))
noncomputable abbrev m_Stairs_with_trips : FnM := fnM 2 2 b_Stairs_with_trips
/-! made -/
noncomputable def b_l_made : MSt := sRet (mFr (mMeth .Stairs m_Stairs_with_trips (mFr (mCall (newR .Stairs m_Stairs___init__) (mCons (mIx (mVar 0) (mC (.int 0))) (mCons (mIx (mVar 0) (mC (.int 1))) (mCons (mIx (mVar 0) (mC (.int 2))) (mNil)))))) (mCons (mCall bList (mCons (mIx (mVar 0) (mC (.int 3))) (mNil))) (mNil))))
noncomputable abbrev m_l_made : FnM := fnM 1 1 b_l_made
/-! duration -/
/-! walks -/
/-! tick -/
/-! cycle -/
/-! Trip.duration -/
noncomputable def b_Trip_duration : MSt := sRet (mOp opMul (mCall bAbs (mCons (mOp opSub (mFld .Trip .target (mVar 0)) (mFld .Trip .source (mVar 0))) (mNil))) (mFld .Trip .pace (mVar 0)))
noncomputable abbrev m_Trip_duration : FnM := fnM 1 1 b_Trip_duration
/-! Stairs.ages -/
noncomputable def t_Stairs_ages_1 : M Bool := mAnd (mB (mOp opLt (mVar 4) (mFr (mProp .Trip m_Trip_duration (mVar 3))))) (mB (mOp opLe (mVar 4) (mVar 2)))
noncomputable def f_Stairs_ages_1 : MSt := sSeq (sExpr (mBm "list" fAppend (mVar 5) (mCons (mVar 4) (mNil)))) (sAug 4 (mFld .Stairs .length (mVar 0)))
noncomputable def b_Stairs_ages : MSt := sSeq (sSet 3 (mIx (mFld .Stairs .trips (mVar 0)) (mVar 1))) (sSeq (sSet 4 (mOp opMod (mOp opSub (mVar 2) (mFld .Trip .start (mVar 3))) (mFld .Stairs .length (mVar 0)))) (sSeq (sSet 5 (mLstC (mNil))) (sSeq (sWhile (t_Stairs_ages_1) (f_Stairs_ages_1)) (sRet (mVar 5)))))
noncomputable abbrev m_Stairs_ages : FnM := fnM 6 3 b_Stairs_ages
/-! Trip.floor_at -/
noncomputable def b_Trip_floor_at : MSt := sSeq (sTg (.t [2, 3]) (mCall bDivmod (mCons (mVar 1) (mCons (mFld .Trip .pace (mVar 0)) (mNil))))) (sSeq (sIf (mB (mOp opGt (mVar 3) (mC (.int 0)))) (sRet (mC .non)) (sNext)) (sRet (mIf (mB (mOp opGt (mFld .Trip .target (mVar 0)) (mFld .Trip .source (mVar 0)))) (mOp opAdd (mFld .Trip .source (mVar 0)) (mVar 2)) (mOp opSub (mFld .Trip .source (mVar 0)) (mVar 2)))))
noncomputable abbrev m_Trip_floor_at : FnM := fnM 4 2 b_Trip_floor_at
/-! Scene.__init__ -/
noncomputable def b_Scene___init__ : MSt := sSeq (sFldSet .Scene .burning (mVar 0) (mVar 1)) (sSeq (sFldSet .Scene .presses (mVar 0) (mVar 2)) (sFldSet .Scene .dark (mVar 0) (mVar 3)))
noncomputable abbrev m_Scene___init__ : FnM := fnM 4 4 b_Scene___init__
/-! next_scene -/
noncomputable def f_next_scene_1 : MSt := sSeq (sSet 10 (mFr (mMeth .Trip m_Trip_floor_at (mVar 7) (mCons (mVar 9) (mNil))))) (sIf (mAnd (mB (mOp opNotN (mVar 10) (mC .non))) (mOr (mB (mOp opEq (mFld .Trip .habit (mVar 7)) (mC (.str "always")))) (mAnd (mB (mOp opEq (mFld .Trip .habit (mVar 7)) (mC (.str "dark")))) (mB (mOp opEq (mVar 3) (mC (.int 0))))))) (sSeq (sExpr (mBm "list" fAppend (mVar 4) (mCons (mTup (mCons (mVar 6) (mCons (mVar 10) (mNil)))) (mNil)))) (sSet 3 (mFld .Stairs .time (mVar 0)))) (sNext))
noncomputable def f_next_scene_2 : MSt := sSeq (sSet 8 (mFr (mMeth .Stairs m_Stairs_ages (mVar 0) (mCons (mVar 6) (mCons (mVar 2) (mNil)))))) (sSeq (sIf (mB (mOp opNe (mVar 8) (mLst (mNil)))) (sExpr (mBm "list" fAppend (mVar 5) (mCons (mVar 6) (mNil)))) (sNext)) (sFor (.n 9) (iL (mVar 8)) (f_next_scene_1)))
noncomputable def b_next_scene : MSt := sSeq (sPar [3, 4, 5] (mCons (mCall bMax (mCons (mC (.int 0)) (mCons (mOp opSub (mVar 1) (mC (.int 1))) (mNil)))) (mCons (mLstC (mNil)) (mCons (mLstC (mNil)) (mNil))))) (sSeq (sFor (.t [6, 7]) (iE (mFld .Stairs .trips (mVar 0))) (f_next_scene_2)) (sRet (mFr (mCall (newR .Scene m_Scene___init__) (mCons (mVar 3) (mCons (mVar 4) (mCons (mIf (mB (mOp opEq (mVar 3) (mC (.int 0)))) (mVar 5) (mLst (mNil))) (mNil))))))))
noncomputable abbrev m_next_scene : FnM := fnM 11 3 b_next_scene
/-! Story.__init__ -/
noncomputable def e_Story___init___1 : M W := mFr (mProp .Trip m_Trip_duration (mVar 7))
noncomputable def t_Story___init___1 : M Bool := mB (mOp opIsN (mFld .Story .start (mVar 0)) (mC .non))
noncomputable def f_Story___init___1 : MSt := sSeq (sSet 5 (mCall bLen (mCons (mFld .Story .scenes (mVar 0)) (mNil)))) (sSeq (sSet 6 (mTup (mCons (mOp opMod (mVar 5) (mFld .Stairs .length (mVar 1))) (mCons (mVar 3) (mNil))))) (sIf (mAnd (mB (mOp opGe (mVar 5) (mVar 2))) (mB (mOp opDIn (mVar 6) (mVar 4)))) (sFldSet .Story .start (mVar 0) (mOp opDGet (mVar 4) (mVar 6))) (sSeq (sIf (mB (mOp opGe (mVar 5) (mVar 2))) (sDPutM (mVar 4) (mVar 6) (mVar 5)) (sNext)) (sSeq (sExpr (mBm "list" fAppend (mFld .Story .scenes (mVar 0)) (mCons (mFr (mCall m_next_scene (mCons (mVar 1) (mCons (mVar 3) (mCons (mVar 5) (mNil)))))) (mNil)))) (sSet 3 (mFld .Scene .burning (mIx (mFld .Story .scenes (mVar 0)) (mNeg (mC (.int 1))))))))))
noncomputable def b_Story___init__ : MSt := sSeq (sFldSet .Story .scenes (mVar 0) (mLstC (mNil))) (sSeq (sFldSet .Story .start (mVar 0) (mC .non)) (sSeq (sSet 2 (mCall bMax (mCons (mOp opAdd (mLst (mCons (mC (.int 0)) (mNil))) (mLc [7] (.n 7) (iL (mFld .Stairs .trips (mVar 1))) (mYes) (e_Story___init___1))) (mNil)))) (sSeq (sPar [3, 4] (mCons (mC (.int 0)) (mCons (mDNewT) (mNil)))) (sWhile (t_Story___init___1) (f_Story___init___1)))))
noncomputable abbrev m_Story___init__ : FnM := fnM 8 2 b_Story___init__
/-! first_dark -/
noncomputable def f_first_dark_1 : MSt := sIf (mB (mOp opNe (mFld .Scene .dark (mVar 2)) (mLst (mNil)))) (sRet (mTup (mCons (mVar 1) (mCons (mCall bListC (mCons (mFld .Scene .dark (mVar 2)) (mNil))) (mNil))))) (sNext)
noncomputable def b_first_dark : MSt := sSeq (sFor (.t [1, 2]) (iE (mFld .Story .scenes (mFr (mCall (newR .Story m_Story___init__) (mCons (mVar 0) (mNil)))))) (f_first_dark_1)) (sRet (mC .non))
noncomputable abbrev m_first_dark : FnM := fnM 3 1 b_first_dark
/-! equal -/
/-! darkest_tick -/
/-! is_bright -/
/-! is_bright -/
noncomputable def e_is_bright_1 : M W := mOp opEq (mFld .Scene .dark (mVar 1)) (mLst (mNil))
noncomputable def b_is_bright : MSt := sRet (mCall bAll (mCons (mLc [1] (.n 1) (iL (mFld .Story .scenes (mFr (mCall (newR .Story m_Story___init__) (mCons (mVar 0) (mNil)))))) (mYes) (e_is_bright_1)) (mNil)))
noncomputable abbrev m_is_bright : FnM := fnM 2 1 b_is_bright
/-! Trip.parts -/
noncomputable def b_Trip_parts : MSt := sRet (mTup (mCons (mFld .Trip .start (mVar 0)) (mCons (mFld .Trip .source (mVar 0)) (mCons (mFld .Trip .target (mVar 0)) (mCons (mFld .Trip .pace (mVar 0)) (mCons (mFld .Trip .habit (mVar 0)) (mNil)))))))
noncomputable abbrev m_Trip_parts : FnM := fnM 1 1 b_Trip_parts
/-! Stairs.all_trips -/
noncomputable def e_Stairs_all_trips_1 : M W := mFr (mProp .Trip m_Trip_parts (mVar 1))
noncomputable def b_Stairs_all_trips : MSt := sRet (mCall bTuple (mCons (mLc [1] (.n 1) (iL (mFld .Stairs .trips (mVar 0))) (mYes) (e_Stairs_all_trips_1)) (mNil)))
noncomputable abbrev m_Stairs_all_trips : FnM := fnM 2 1 b_Stairs_all_trips
/-! Stairs.with_time -/
noncomputable def b_Stairs_with_time : MSt := sSeq (sSet 2 (mFr (mProp .Stairs m_Stairs_all_trips (mVar 0)))) (sRet (mFr (mCall (newR .Stairs m_Stairs___init__) (mCons (mFld .Stairs .top (mVar 0)) (mCons (mFld .Stairs .length (mVar 0)) (mCons (mVar 1) (mStar (mVar 2) (mNil))))))))
noncomputable abbrev m_Stairs_with_time : FnM := fnM 3 2 b_Stairs_with_time
/-! bright_times -/
noncomputable def e_bright_times_1 : M W := mVar 1
noncomputable def i_bright_times_1 : M Bool := mB (mFr (mCall m_is_bright (mCons (mFr (mMeth .Stairs m_Stairs_with_time (mVar 0) (mCons (mVar 1) (mNil)))) (mNil))))
noncomputable def b_bright_times : MSt := sRet (mLcC [1] (.n 1) (iR2 (mCons (mC (.int 1)) (mCons (mOp opAdd (mC (.int 60)) (mC (.int 1))) (mNil)))) (i_bright_times_1) (e_bright_times_1))
noncomputable abbrev m_bright_times : FnM := fnM 2 1 b_bright_times
/-! least_time -/
/-! Story.size -/
noncomputable def b_Story_size : MSt := sRet (mOp opSub (mCall bLen (mCons (mFld .Story .scenes (mVar 0)) (mNil))) (mFld .Story .start (mVar 0)))
noncomputable abbrev m_Story_size : FnM := fnM 1 1 b_Story_size
/-! cheapest_time -/
end SL
set_option Elab.async false
set_option linter.all false
set_option maxRecDepth 100000
set_option maxHeartbeats 2000000
/-! what the program's defs do -/
namespace SL
open PySem PySem.Spec PyProof.Rows L2
structure Tr where
  start : Int
  source : Int
  target : Int
  pace : Int
  habit : Str
structure Pt where
  top : Int
  length : Int
  time : Int
  trips : List Tr
def wT (t : Tr) : W := .obj .Trip [.int t.start, .int t.source, .int t.target, .int t.pace, .str t.habit]
def wS (p : Pt) : W := .obj .Stairs [.int p.top, .int p.length, .int p.time, .lst (p.trips.map wT)]
def habitOk (h : Str) : Prop := h = "dark" ∨ h = "always" ∨ h = "never"
structure Tr.Ok (top length : Int) (t : Tr) : Prop where
  s0 : 0 ≤ t.start
  s1 : t.start < length
  a0 : 0 ≤ t.source
  a1 : t.source ≤ top
  b0 : 0 ≤ t.target
  b1 : t.target ≤ top
  ne : t.source ≠ t.target
  p0 : 1 ≤ t.pace
  p1 : t.pace ≤ 5
  hb : habitOk t.habit
structure Pt.Ok (p : Pt) : Prop where
  t0 : 1 ≤ p.top
  t1 : p.top ≤ 9
  l0 : 1 ≤ p.length
  l1 : p.length ≤ 48
  m0 : 1 ≤ p.time
  m1 : p.time ≤ 60
  n : p.trips.length ≤ 8
  ok : ∀ t ∈ p.trips, t.Ok p.top p.length
def Tr.dur (t : Tr) : Int := (if t.target - t.source < 0 then -(t.target - t.source) else t.target - t.source) * t.pace
theorem lit_dark : PyData.canLay0 (.str "dark") = true := by decide +kernel
theorem lit_always : PyData.canLay0 (.str "always") = true := by decide +kernel
theorem lit_never : PyData.canLay0 (.str "never") = true := by decide +kernel
theorem habit_lay {h : Str} (q : habitOk h) : PyData.canLay0 (.str h) = true := by
  rcases q with rfl | rfl | rfl
  · exact lit_dark
  · exact lit_always
  · exact lit_never
section
variable {p : Pt} {t : Tr} {top length : Int} {S : Sto}
@[simp] theorem fld_wT_start : fld .Trip .start (wT t) S = .ok (.int t.start) S := rfl
@[simp] theorem fld_wT_source : fld .Trip .source (wT t) S = .ok (.int t.source) S := rfl
@[simp] theorem fld_wT_target : fld .Trip .target (wT t) S = .ok (.int t.target) S := rfl
@[simp] theorem fld_wT_pace : fld .Trip .pace (wT t) S = .ok (.int t.pace) S := rfl
@[simp] theorem fld_wT_habit : fld .Trip .habit (wT t) S = .ok (.str t.habit) S := rfl
@[simp] theorem fld_wS_top : fld .Stairs .top (wS p) S = .ok (.int p.top) S := rfl
@[simp] theorem fld_wS_length : fld .Stairs .length (wS p) S = .ok (.int p.length) S := rfl
@[simp] theorem fld_wS_time : fld .Stairs .time (wS p) S = .ok (.int p.time) S := rfl
@[simp] theorem fld_wS_trips : fld .Stairs .trips (wS p) S = .ok (.lst (p.trips.map wT)) S := rfl
@[simp] theorem getO_wT : getO .Trip S (wT t) = some [.int t.start, .int t.source, .int t.target, .int t.pace, .str t.habit] := rfl
@[simp] theorem getO_wS : getO .Stairs S (wS p) = some [.int p.top, .int p.length, .int p.time, .lst (p.trips.map wT)] := rfl
theorem nol_wT : nol 2 (wT t) = true := rfl
theorem nol_wS : nol 4 (wS p) = true := by
  show ([W.int p.top, .int p.length, .int p.time, .lst (p.trips.map wT)].all (nol 3)) = true
  simp only [List.all_cons, List.all_nil, Bool.and_true]
  show (true && (true && (true && (p.trips.map wT).all (nol 2)))) = true
  simp [nol_wT]
theorem run_duration (ok : t.Ok top length) : m_Trip_duration [wT t] S = .ok (.int t.dur) S := by
  refine (fnM_ev rfl).trans ?_
  simp [b_Trip_duration, mulOk_r (j := t.pace) (by have := ok.p0; omega) (by have := ok.p1; omega)]
  rfl
/-! ### floor_at -/
def wO : Option Int → W
  | none => .non
  | some i => .int i
def Tr.fl (t : Tr) (age : Int) : Option Int := if age % t.pace > 0 then none else some (if t.target > t.source then t.source + age / t.pace else t.source - age / t.pace)
theorem run_floor (ok : t.Ok top length) (age : Int) : m_Trip_floor_at [wT t, .int age] S = .ok (wO (t.fl age)) (S ++ []) := by
  refine (fnM_ev rfl).trans ?_
  have h : decide (0 < t.pace ∧ t.pace < 1073741824) = true := decide_eq_true ⟨by have := ok.p0; omega, by have := ok.p1; omega⟩
  by_cases h1 : age % t.pace > 0
  · simp [b_Trip_floor_at, h, h1, Tr.fl, wO]
  · by_cases h2 : t.target > t.source
    · simp [b_Trip_floor_at, h, h1, h2, Tr.fl, wO]
    · simp [b_Trip_floor_at, h, h1, h2, Tr.fl, wO]
/-! ### ages -/
def agesN : Nat → Int → Int → Int → List Int
  | 0, _, _, _ => []
  | n + 1, a, lim, L => if a < lim then a :: agesN n (a + L) lim L else []
theorem agesN_len : ∀ (n : Nat) (a lim L : Int), (agesN n a lim L).length ≤ n
  | 0, _, _, _ => Nat.le_refl _
  | n + 1, a, lim, L => by
    unfold agesN
    split
    · exact Nat.succ_le_succ (agesN_len n _ _ _)
    · exact Nat.zero_le _
def Tr.lim (t : Tr) (tick : Int) : Int := if t.dur ≤ tick + 1 then t.dur else tick + 1
/-- the ages of a trip at a tick -/
def ages (p : Pt) (t : Tr) (tick : Int) : List Int := agesN 50 ((tick - t.start) % p.length) (t.lim tick) p.length
theorem dur_le (ok : t.Ok top length) (h : top ≤ 9) : t.dur ≤ 45 := by
  have h1 := ok.a0
  have h2 := ok.a1
  have h3 := ok.b0
  have h4 := ok.b1
  have h5 := ok.p0
  have h6 := ok.p1
  unfold Tr.dur
  have hd : (if t.target - t.source < 0 then -(t.target - t.source) else t.target - t.source) ≤ 9 := by split <;> omega
  have hd0 : 0 ≤ (if t.target - t.source < 0 then -(t.target - t.source) else t.target - t.source) := by split <;> omega
  calc _ ≤ 9 * t.pace := Int.mul_le_mul_of_nonneg_right hd (by omega)
    _ ≤ 45 := by omega
theorem ages_loop (ok : t.Ok top length) (pl : 1 ≤ p.length) (num tick : Int) : ∀ (n : Nat) (a : Int) (acc : List Int), t.lim tick - a ≤ n → acc.length + n < 1000 →
    ∃ a', sWhileN t_Stairs_ages_1 f_Stairs_ages_1 (n + 1) [some (wS p), some (.int num), some (.int tick), some (wT t), some (.int a), some (.loc S.length)] (S ++ [.lst (acc.map W.int)]) =
      .ok (.nx [some (wS p), some (.int num), some (.int tick), some (wT t), some (.int a'), some (.loc S.length)]) (S ++ [.lst ((acc ++ agesN n a (t.lim tick) p.length).map W.int)])
  | n, a, acc, h, hl => by
    have ht : ∀ S', t_Stairs_ages_1 [some (wS p), some (.int num), some (.int tick), some (wT t), some (.int a), some (.loc S.length)] S' = .ok (decide (a < t.lim tick)) S' := by
      intro S'
      have e : (decide (a < t.dur) && decide (a ≤ tick)) = decide (a < t.lim tick) := by
        rw [← Bool.decide_and]
        refine decide_eq_decide.mpr ?_
        unfold Tr.lim
        split <;> omega
      rw [← e]
      by_cases h1 : a < t.dur
      · simp [t_Stairs_ages_1, run_duration ok, h1]
      · simp [t_Stairs_ages_1, run_duration ok, h1]
    unfold sWhileN
    rw [ht]
    by_cases h1 : a < t.lim tick
    · rw [decide_eq_true h1]
      dsimp only
      cases n with
      | zero => omega
      | succ n =>
        have hb : f_Stairs_ages_1 [some (wS p), some (.int num), some (.int tick), some (wT t), some (.int a), some (.loc S.length)] (S ++ [.lst (acc.map W.int)]) =
            .ok (.nx [some (wS p), some (.int num), some (.int tick), some (wT t), some (.int (a + p.length)), some (.loc S.length)]) (S ++ [.lst ((acc ++ [a]).map W.int)]) := by
          simp [f_Stairs_ages_1, recv_at (S := S ++ [.lst (acc.map W.int)]) (n := S.length) (xs := acc.map W.int) at_app0, fAppend_at (S := S ++ [.lst (acc.map W.int)]) (n := S.length) (xs := acc.map W.int) at_app0 (by rw [List.length_map]; omega)]
        rw [hb]
        dsimp only
        obtain ⟨a', e⟩ := ages_loop ok pl num tick n (a + p.length) (acc ++ [a]) (by omega) (by simp; omega)
        refine ⟨a', ?_⟩
        rw [e, show agesN (n + 1) a (t.lim tick) p.length = a :: agesN n (a + p.length) (t.lim tick) p.length from if_pos h1]
        simp
    · rw [decide_eq_false h1]
      refine ⟨a, ?_⟩
      have e : agesN n a (t.lim tick) p.length = [] := by
        cases n with
        | zero => rfl
        | succ n => exact if_neg h1
      rw [e]
      simp
theorem frz_ints {S : Sto} {n : Nat} {ns : List Int} (k : Nat) : frzL (frz (k + 1) S n) (ns.map W.int) = some (ns.map W.int) := frzL_all fun x hx => by
  obtain ⟨i, _, rfl⟩ := List.mem_map.mp hx
  rfl
theorem run_ages (ok : t.Ok top length) (h9 : top ≤ 9) (pl : 1 ≤ p.length) (k : Nat) (hk : p.trips[k]? = some t) (tick : Int) :
    frR S (m_Stairs_ages [wS p, .int (k : Nat), .int tick] S) = .ok (.lst ((ages p t tick).map W.int)) S := by
  have h0 : 0 ≤ (tick - t.start) % p.length := Int.emod_nonneg _ (by omega)
  have hd := dur_le ok h9
  obtain ⟨a', e⟩ := ages_loop (S := S) (p := p) ok pl (k : Nat) tick 50 ((tick - t.start) % p.length) [] (by unfold Tr.lim; split <;> omega) (by simp)
  have hm : m_Stairs_ages [wS p, .int (k : Nat), .int tick] S = .ok (.loc S.length) (S ++ [.lst ((ages p t tick).map W.int)]) := by
    refine (fnM_ev rfl).trans ?_
    have e2 := sWhile_is e (by simp)
    simp only [List.map_nil, List.nil_append] at e2
    simp [b_Stairs_ages, hk, show decide (0 < p.length) = true from decide_eq_true (by omega), e2]
    rfl
  rw [hm]
  exact frR_app (frz_locL at_app0 (Nat.le_refl _) (frz_ints 14))
theorem run_floorF (ok : t.Ok top length) (age : Int) : frR S (m_Trip_floor_at [wT t, .int age] S) = .ok (wO (t.fl age)) S := by
  rw [run_floor ok]
  refine frR_nol ?_
  cases t.fl age <;> rfl
/-! ### next_scene -/
abbrev Prs := List (Int × Int)
def wPr (q : Int × Int) : W := .tup [.int q.1, .int q.2]
/-- does the walker press here -/
def Tr.press (t : Tr) (now : Int) : Bool := decide (t.habit = "always") || (decide (t.habit = "dark") && decide (now = 0))
def inner (time : Int) (t : Tr) (k : Int) : Int → Prs → List Int → Int × Prs
  | now, ps, [] => (now, ps)
  | now, ps, a :: as => match t.fl a with
    | none => inner time t k now ps as
    | some f => bif t.press now then inner time t k time (ps ++ [(k, f)]) as else inner time t k now ps as
theorem inner_len (time : Int) (t : Tr) (k : Int) : ∀ (as : List Int) (now : Int) (ps : Prs), (inner time t k now ps as).2.length ≤ ps.length + as.length
  | [], _, _ => Nat.le_refl _
  | a :: as, now, ps => by
    unfold inner
    cases t.fl a with
    | none =>
      have := inner_len time t k as now ps
      simp only [List.length_cons]
      omega
    | some f =>
      cases t.press now with
      | true =>
        have := inner_len time t k as time (ps ++ [(k, f)])
        simp only [cond_true, List.length_cons, List.length_append, List.length_nil] at this ⊢
        omega
      | false =>
        have := inner_len time t k as now ps
        simp only [cond_false, List.length_cons] at this ⊢
        omega
theorem inner_loop (ok : t.Ok top length) (l tk k : Int) (xs : W) (wk : List W) : ∀ (as : List Int) (now : Int) (ps : Prs) (x9 x10 : Option W), ps.length + as.length < 1000000 → ∃ y9 y10,
    sForL (.n 9) f_next_scene_1 (as.map W.int) [some (wS p), some (.int l), some (.int tk), some (.int now), some (.loc S.length), some (.loc (S.length + 1)), some (.int k), some (wT t), some xs, x9, x10] (S ++ [.lst (ps.map wPr), .lst wk]) =
      .ok (.nx [some (wS p), some (.int l), some (.int tk), some (.int (inner p.time t k now ps as).1), some (.loc S.length), some (.loc (S.length + 1)), some (.int k), some (wT t), some xs, y9, y10]) (S ++ [.lst ((inner p.time t k now ps as).2.map wPr), .lst wk])
  | [], now, ps, x9, x10, _ => ⟨x9, x10, rfl⟩
  | a :: as, now, ps, x9, x10, h => by
    simp only [List.length_cons] at h
    have hb : f_next_scene_1 [some (wS p), some (.int l), some (.int tk), some (.int now), some (.loc S.length), some (.loc (S.length + 1)), some (.int k), some (wT t), some xs, some (.int a), x10] (S ++ [.lst (ps.map wPr), .lst wk]) =
        .ok (.nx [some (wS p), some (.int l), some (.int tk), some (.int (inner p.time t k now ps [a]).1), some (.loc S.length), some (.loc (S.length + 1)), some (.int k), some (wT t), some xs, some (.int a), some (wO (t.fl a))]) (S ++ [.lst ((inner p.time t k now ps [a]).2.map wPr), .lst wk]) := by
      have e1 : ∀ S', frR S' (m_Trip_floor_at [wT t, .int a] S') = .ok (wO (t.fl a)) S' := fun S' => run_floorF ok a
      have e2 : ∀ (S' : Sto), opEq (.str t.habit) (.str "always") S' = .ok (.bl (decide (t.habit = "always"))) S' := fun S' => opEq_str (habit_lay ok.hb) lit_always
      have e3 : ∀ (S' : Sto), opEq (.str t.habit) (.str "dark") S' = .ok (.bl (decide (t.habit = "dark"))) S' := fun S' => opEq_str (habit_lay ok.hb) lit_dark
      have e4 := recv_at (S := S ++ [.lst (ps.map wPr), .lst wk]) (n := S.length) (xs := ps.map wPr) at_app0
      have e5 := fun x => fAppend_at (S := S ++ [.lst (ps.map wPr), .lst wk]) (n := S.length) (xs := ps.map wPr) (x := x) at_app0 (by rw [List.length_map]; omega)
      cases hf : t.fl a with
      | none => simp [f_next_scene_1, e1, hf, wO, inner]
      | some f =>
        cases h1 : decide (t.habit = "always") with
        | true => simp [f_next_scene_1, e1, e2, e3, e4, e5, hf, wO, inner, Tr.press, h1, wPr]
        | false =>
          cases h2 : decide (t.habit = "dark") with
          | false => simp [f_next_scene_1, e1, e2, e3, e4, e5, hf, wO, inner, Tr.press, h1, h2, wPr]
          | true =>
            cases h3 : decide (now = 0) with
            | true => simp [f_next_scene_1, e1, e2, e3, e4, e5, hf, wO, inner, Tr.press, h1, h2, h3, wPr]
            | false => simp [f_next_scene_1, e1, e2, e3, e4, e5, hf, wO, inner, Tr.press, h1, h2, h3, wPr]
    have e0 : inner p.time t k now ps (a :: as) = inner p.time t k (inner p.time t k now ps [a]).1 (inner p.time t k now ps [a]).2 as := by
      simp only [inner]
      cases t.fl a with
      | none => rfl
      | some f => cases t.press now <;> rfl
    have hl := inner_len p.time t k [a] now ps
    simp only [List.length_cons, List.length_nil] at hl
    obtain ⟨y9, y10, e⟩ := inner_loop ok l tk k xs wk as (inner p.time t k now ps [a]).1 (inner p.time t k now ps [a]).2 (some (.int a)) (some (wO (t.fl a))) (by omega)
    refine ⟨y9, y10, ?_⟩
    rw [List.map_cons, sForL_nx (r1 := _) rfl hb, e, e0]
def outer (p : Pt) (tick : Int) : Nat → List Tr → Int → Prs → List Int → Int × Prs × List Int
  | _, [], now, ps, wk => (now, ps, wk)
  | k, t :: ts, now, ps, wk => outer p tick (k + 1) ts (inner p.time t k now ps (ages p t tick)).1 (inner p.time t k now ps (ages p t tick)).2 (if (ages p t tick).isEmpty then wk else wk ++ [(k : Int)])
theorem outer_loop (ok : p.Ok) (l tk : Int) : ∀ (ts : List Tr) (k : Nat) (now : Int) (ps : Prs) (wk : List Int) (x6 x7 x8 x9 x10 : Option W), p.trips.drop k = ts → ps.length + 50 * ts.length < 1000000 → wk.length + ts.length < 1000000 → ∃ y6 y7 y8 y9 y10,
    sForL (.t [6, 7]) f_next_scene_2 (enumA k (ts.map wT)) [some (wS p), some (.int l), some (.int tk), some (.int now), some (.loc S.length), some (.loc (S.length + 1)), x6, x7, x8, x9, x10] (S ++ [.lst (ps.map wPr), .lst (wk.map W.int)]) =
      .ok (.nx [some (wS p), some (.int l), some (.int tk), some (.int (outer p tk k ts now ps wk).1), some (.loc S.length), some (.loc (S.length + 1)), y6, y7, y8, y9, y10]) (S ++ [.lst ((outer p tk k ts now ps wk).2.1.map wPr), .lst ((outer p tk k ts now ps wk).2.2.map W.int)])
  | [], k, now, ps, wk, x6, x7, x8, x9, x10, _, _, _ => ⟨x6, x7, x8, x9, x10, rfl⟩
  | t :: ts, k, now, ps, wk, x6, x7, x8, x9, x10, hd, hl, hl2 => by
    simp only [List.length_cons] at hl hl2
    have ht : p.trips[k]? = some t := by
      have := congrArg (fun l => l[0]?) hd
      simpa using this
    have hd2 : p.trips.drop (k + 1) = ts := by
      have := congrArg List.tail hd
      simpa using this
    have tok : t.Ok p.top p.length := ok.ok t (List.mem_of_getElem? ht)
    have al : (ages p t tk).length ≤ 50 := agesN_len _ _ _ _
    have e1 : ∀ S', frR S' (m_Stairs_ages [wS p, .int (k : Nat), .int tk] S') = .ok (.lst ((ages p t tk).map W.int)) S' := fun S' => run_ages tok ok.t1 ok.l0 k ht tk
    have e2 : ∀ S', opNe (.lst ((ages p t tk).map W.int)) (.lst []) S' = .ok (.bl (!(ages p t tk).isEmpty)) S' := fun S' => opNe_ints rfl
    have hb : ∃ y9 y10, f_next_scene_2 [some (wS p), some (.int l), some (.int tk), some (.int now), some (.loc S.length), some (.loc (S.length + 1)), some (.int (k : Nat)), some (wT t), x8, x9, x10] (S ++ [.lst (ps.map wPr), .lst (wk.map W.int)]) =
        .ok (.nx [some (wS p), some (.int l), some (.int tk), some (.int (inner p.time t k now ps (ages p t tk)).1), some (.loc S.length), some (.loc (S.length + 1)), some (.int (k : Nat)), some (wT t), some (.lst ((ages p t tk).map W.int)), y9, y10])
          (S ++ [.lst ((inner p.time t k now ps (ages p t tk)).2.map wPr), .lst ((if (ages p t tk).isEmpty then wk else wk ++ [(k : Int)]).map W.int)]) := by
      have e4 := recv_at (S := S ++ [.lst (ps.map wPr), .lst (wk.map W.int)]) (n := S.length + 1) (xs := wk.map W.int) (by simp)
      have e5 := fun x => fAppend_at (S := S ++ [.lst (ps.map wPr), .lst (wk.map W.int)]) (n := S.length + 1) (xs := wk.map W.int) (x := x) (by simp) (by rw [List.length_map]; omega)
      obtain ⟨y9, y10, e⟩ := inner_loop (p := p) (S := S) tok l tk k (.lst ((ages p t tk).map W.int)) ((if (ages p t tk).isEmpty then wk else wk ++ [(k : Int)]).map W.int) (ages p t tk) now ps x9 x10 (by omega)
      refine ⟨y9, y10, ?_⟩
      cases he : (ages p t tk).isEmpty with
      | true =>
        rw [he] at e
        simp only [if_true] at e
        simp [f_next_scene_2, e1, e2, he, e]
      | false =>
        rw [he] at e
        simp only [Bool.false_eq_true, if_false] at e
        simp only [List.map_append, List.map_cons, List.map_nil] at e
        simp [f_next_scene_2, e1, e2, e4, e5, he, e]
    obtain ⟨z9, z10, hb⟩ := hb
    have il := inner_len p.time t k (ages p t tk) now ps
    have wl : (if (ages p t tk).isEmpty then wk else wk ++ [(k : Int)]).length ≤ wk.length + 1 := by
      split <;> simp
    obtain ⟨y6, y7, y8, y9, y10, e⟩ := outer_loop ok l tk ts (k + 1) (inner p.time t k now ps (ages p t tk)).1 (inner p.time t k now ps (ages p t tk)).2 (if (ages p t tk).isEmpty then wk else wk ++ [(k : Int)]) (some (.int (k : Nat))) (some (wT t)) (some (.lst ((ages p t tk).map W.int))) z9 z10 hd2 (by omega) (by omega)
    refine ⟨y6, y7, y8, y9, y10, ?_⟩
    rw [List.map_cons]
    show sForL _ _ (.tup [.int (k : Nat), wT t] :: enumA (k + 1) (ts.map wT)) _ _ = _
    rw [sForL_nx (r1 := _) rfl hb, e]
    rfl
structure Sc where
  light : Int
  presses : Prs
  dark : List Int
def wSc (s : Sc) : W := .obj .Scene [.int s.light, .lst (s.presses.map wPr), .lst (s.dark.map W.int)]
def dim (light : Int) : Int := if 1 < light then light - 1 else 0
def scene (p : Pt) (light tick : Int) : Sc := ⟨(outer p tick 0 p.trips (dim light) [] []).1, (outer p tick 0 p.trips (dim light) [] []).2.1, if (outer p tick 0 p.trips (dim light) [] []).1 = 0 then (outer p tick 0 p.trips (dim light) [] []).2.2 else []⟩
theorem run_Scene (a b c : W) : m_Scene___init__ [.loc S.length, a, b, c] (S ++ [.ins .Scene []]) = .ok .non (S ++ [.ins .Scene [a, b, c]]) := by
  refine (fnM_ev rfl).trans ?_
  simp [b_Scene___init__, setO_at (S := S ++ [.ins .Scene []]) (n := S.length) at_app0 fix_Scene_burning (Nat.zero_le _), setO_at (S := S ++ [.ins .Scene [a]]) (n := S.length) at_app0 fix_Scene_presses (Nat.le_refl _), setO_at (S := S ++ [.ins .Scene [a, b]]) (n := S.length) at_app0 fix_Scene_dark (Nat.le_refl _)]
theorem new_Scene (a b c : W) : newR .Scene m_Scene___init__ [a, b, c] S = .ok (.loc S.length) (S ++ [.ins .Scene [a, b, c]]) := by
  unfold newR
  rw [run_Scene]
theorem frz_wPr {S : Sto} {n k : Nat} {ps : Prs} : frzL (frz (k + 2) S n) (ps.map wPr) = some (ps.map wPr) := frzL_all fun x hx => by
  obtain ⟨i, _, rfl⟩ := List.mem_map.mp hx
  exact frz_nol _ _ rfl
theorem run_scene (ok : p.Ok) (light tick : Int) : frR S (m_next_scene [wS p, .int light, .int tick] S) = .ok (wSc (scene p light tick)) S := by
  obtain ⟨y6, y7, y8, y9, y10, e⟩ := outer_loop (S := S) ok light tick p.trips 0 (dim light) [] [] none none none none none rfl (by have := ok.n; simp; omega) (by have := ok.n; simp; omega)
  have e' := e
  simp only [List.map_nil] at e'
  have key : m_next_scene [wS p, .int light, .int tick] S = .ok (.obj .Scene [.int (scene p light tick).light, .loc S.length, if (scene p light tick).light = 0 then .loc (S.length + 1) else .lst []])
      (S ++ [.lst ((scene p light tick).presses.map wPr), .lst ((outer p tick 0 p.trips (dim light) [] []).2.2.map W.int)]) := by
    refine (fnM_ev rfl).trans ?_
    have ed : (if 1 < light then light - 1 else 0) = dim light := rfl
    have e2 := enumW_eq (p.trips.map wT)
    have e3 := fun a b c => new_Scene (S := S ++ [.lst ((scene p light tick).presses.map wPr), .lst ((outer p tick 0 p.trips (dim light) [] []).2.2.map W.int)]) a b c
    have e4 : ∀ x : W, x = .loc (S.length + 1) ∨ x = .lst [] → frR (S ++ [.lst ((scene p light tick).presses.map wPr), .lst ((outer p tick 0 p.trips (dim light) [] []).2.2.map W.int)])
        (.ok (.loc (S ++ [.lst ((scene p light tick).presses.map wPr), .lst ((outer p tick 0 p.trips (dim light) [] []).2.2.map W.int)] : Sto).length) (S ++ [.lst ((scene p light tick).presses.map wPr), .lst ((outer p tick 0 p.trips (dim light) [] []).2.2.map W.int)] ++ [.ins .Scene [.int (scene p light tick).light, .loc S.length, x]])) =
        .ok (.obj .Scene [.int (scene p light tick).light, .loc S.length, x]) (S ++ [.lst ((scene p light tick).presses.map wPr), .lst ((outer p tick 0 p.trips (dim light) [] []).2.2.map W.int)]) := fun x hx => by
      refine frR_app (frz_locI at_app0 (Nat.le_refl _) (frzL_cons rfl (frzL_cons (frz_low (by simp)) (frzL_cons ?_ frzL_nil))))
      rcases hx with rfl | rfl
      · exact frz_low (by simp)
      · rfl
    by_cases h0 : (scene p light tick).light = 0
    · have e5 := e4 (.loc (S.length + 1)) (.inl rfl)
      rw [← e3] at e5
      rw [if_pos h0]
      have h1 : (outer p tick 0 p.trips (dim light) [] []).1 = 0 := h0
      simp [b_next_scene, e2, ed, e', h1]
      have : (scene p light tick).light = 0 := h0
      rw [this] at e5 ⊢
      exact congrArg endOf (congrArg (fun x => Res.bd x fun w S1 => Res.ok (Fw.rt w) S1) e5)
    · have e5 := e4 (.lst []) (.inr rfl)
      rw [← e3] at e5
      rw [if_neg h0]
      have h1 : ¬ (outer p tick 0 p.trips (dim light) [] []).1 = 0 := h0
      simp [b_next_scene, e2, ed, e', h1]
      exact congrArg endOf (congrArg (fun x => Res.bd x fun w S1 => Res.ok (Fw.rt w) S1) e5)
  rw [key]
  refine frR_app (frz_obj (frzL_cons rfl (frzL_cons (frz_locL (by simp) (Nat.le_refl _) frz_wPr) (frzL_cons ?_ frzL_nil))))
  by_cases h0 : (scene p light tick).light = 0
  · rw [if_pos h0]
    have e6 : (scene p light tick).dark = (outer p tick 0 p.trips (dim light) [] []).2.2 := if_pos h0
    rw [e6]
    exact frz_locL (by simp) (by omega) (frz_ints _)
  · rw [if_neg h0]
    have e6 : (scene p light tick).dark = [] := if_neg h0
    rw [e6]
    rfl
/-! ### the story -/
def longest (p : Pt) : Int := (p.trips.map Tr.dur).foldl max 0
def cycN (p : Pt) : Nat → List Sc → Int → Sn → Option (List Sc × Int)
  | 0, _, _, _ => none
  | n + 1, found, light, seen =>
    if longest p ≤ found.length then match snGet seen ((found.length : Int) % p.length, light) with
      | some s => some (found, s)
      | none => cycN p n (found ++ [scene p light found.length]) (scene p light found.length).light (seen ++ [(((found.length : Int) % p.length, light), (found.length : Int))])
    else cycN p n (found ++ [scene p light found.length]) (scene p light found.length).light seen
@[simp] theorem fld_wSc_light {s : Sc} : fld .Scene .burning (wSc s) S = .ok (.int s.light) S := rfl
@[simp] theorem fld_wSc_presses {s : Sc} : fld .Scene .presses (wSc s) S = .ok (.lst (s.presses.map wPr)) S := rfl
@[simp] theorem fld_wSc_dark {s : Sc} : fld .Scene .dark (wSc s) S = .ok (.lst (s.dark.map W.int)) S := rfl
@[simp] theorem getO_wSc {s : Sc} : getO .Scene S (wSc s) = some [.int s.light, .lst (s.presses.map wPr), .lst (s.dark.map W.int)] := rfl
theorem story_loop (ok : p.Ok) : ∀ (n : Nat) (found : List Sc) (light : Int) (seen : Sn) (fs : List Sc) (s : Int) (x5 x6 x7 : Option W), cycN p n found light seen = some (fs, s) → found.length + n < 1000000 → seen.length + n < 1000000 → ∃ r' D,
    sWhileN t_Story___init___1 f_Story___init___1 (n + 1) [some (.loc S.length), some (wS p), some (.int (longest p)), some (.int light), some (.loc (S.length + 2)), x5, x6, x7] (S ++ [.ins .Story [.loc (S.length + 1), .non], .lst (found.map wSc), .dt (snK seen) (snV seen)]) =
      .ok (.nx r') (S ++ [.ins .Story [.loc (S.length + 1), .int s], .lst (fs.map wSc), D])
  | 0, _, _, _, _, _, _, _, _, h, _, _ => by cases h
  | n + 1, found, light, seen, fs, s, x5, x6, x7, h, hl, hl2 => by
    have hL : decide (0 < p.length) = true := decide_eq_true (by have := ok.l0; omega)
    have e1 : ∀ S', frR S' (m_next_scene [wS p, .int light, .int (found.length : Int)] S') = .ok (wSc (scene p light found.length)) S' := fun S' => run_scene ok light _
    have hfl : found.length < 16000000 := by omega
    have ht : t_Story___init___1 [some (.loc S.length), some (wS p), some (.int (longest p)), some (.int light), some (.loc (S.length + 2)), x5, x6, x7] (S ++ [.ins .Story [.loc (S.length + 1), .non], .lst (found.map wSc), .dt (snK seen) (snV seen)]) =
        .ok true (S ++ [.ins .Story [.loc (S.length + 1), .non], .lst (found.map wSc), .dt (snK seen) (snV seen)]) := by
      simp [t_Story___init___1, fld_ev]
    have d1 := fun a b => din_sn (S := S ++ [.ins .Story [.loc (S.length + 1), .non], .lst (found.map wSc), .dt (snK seen) (snV seen)]) (n := S.length + 2) (s := seen) (a := a) (b := b) (by simp)
    have d2 := fun a b i => dget_sn (S := S ++ [.ins .Story [.loc (S.length + 1), .non], .lst (found.map wSc), .dt (snK seen) (snV seen)]) (n := S.length + 2) (s := seen) (a := a) (b := b) (i := i) (by simp)
    have d3 := fun a b i h => dput_sn (S := S ++ [.ins .Story [.loc (S.length + 1), .non], .lst (found.map wSc), .dt (snK seen) (snV seen)]) (n := S.length + 2) (s := seen) (a := a) (b := b) (i := i) (by simp) h (by omega)
    have la : atI (found.map wSc ++ [wSc (scene p light found.length)]) (-1) = some (wSc (scene p light found.length)) := atI_last
    rw [sWhileN, ht]
    dsimp only
    by_cases h1 : longest p ≤ found.length
    · cases hg : snGet seen ((found.length : Int) % p.length, light) with
      | some s2 =>
        have hc : cycN p (n + 1) found light seen = some (found, s2) := by
          unfold cycN
          rw [if_pos h1, hg]
        rw [hc] at h
        cases h
        have hb : f_Story___init___1 [some (.loc S.length), some (wS p), some (.int (longest p)), some (.int light), some (.loc (S.length + 2)), x5, x6, x7] (S ++ [.ins .Story [.loc (S.length + 1), .non], .lst (found.map wSc), .dt (snK seen) (snV seen)]) =
            .ok (.nx [some (.loc S.length), some (wS p), some (.int (longest p)), some (.int light), some (.loc (S.length + 2)), some (.int found.length), some (.tup [.int ((found.length : Int) % p.length), .int light]), x7]) (S ++ [.ins .Story [.loc (S.length + 1), .int s], .lst (found.map wSc), .dt (snK seen) (snV seen)]) := by
          simp [f_Story___init___1, fld_ev, hL, h1, d1, hg, d2 _ _ _ hg]
        rw [hb]
        dsimp only
        refine ⟨[some (.loc S.length), some (wS p), some (.int (longest p)), some (.int light), some (.loc (S.length + 2)), some (.int found.length), some (.tup [.int ((found.length : Int) % p.length), .int light]), x7], .dt (snK seen) (snV seen), ?_⟩
        rw [sWhileN]
        simp [t_Story___init___1, fld_ev]
      | none =>
        have hc : cycN p (n + 1) found light seen = cycN p n (found ++ [scene p light found.length]) (scene p light found.length).light (seen ++ [(((found.length : Int) % p.length, light), (found.length : Int))]) := by
          conv => lhs; unfold cycN
          rw [if_pos h1, hg]
        rw [hc] at h
        have hb : f_Story___init___1 [some (.loc S.length), some (wS p), some (.int (longest p)), some (.int light), some (.loc (S.length + 2)), x5, x6, x7] (S ++ [.ins .Story [.loc (S.length + 1), .non], .lst (found.map wSc), .dt (snK seen) (snV seen)]) =
            .ok (.nx [some (.loc S.length), some (wS p), some (.int (longest p)), some (.int (scene p light found.length).light), some (.loc (S.length + 2)), some (.int found.length), some (.tup [.int ((found.length : Int) % p.length), .int light]), x7])
              (S ++ [.ins .Story [.loc (S.length + 1), .non], .lst ((found ++ [scene p light found.length]).map wSc), .dt (snK (seen ++ [(((found.length : Int) % p.length, light), (found.length : Int))])) (snV (seen ++ [(((found.length : Int) % p.length, light), (found.length : Int))]))]) := by
          simp [f_Story___init___1, fld_ev, hL, h1, d1, hg, d3 _ _ _ hg, e1, hfl, la]
        rw [hb]
        dsimp only
        exact story_loop ok n _ _ _ fs s _ _ _ h (by simp; omega) (by simp; omega)
    · have hc : cycN p (n + 1) found light seen = cycN p n (found ++ [scene p light found.length]) (scene p light found.length).light seen := by
        conv => lhs; unfold cycN
        rw [if_neg h1]
      rw [hc] at h
      have hb : f_Story___init___1 [some (.loc S.length), some (wS p), some (.int (longest p)), some (.int light), some (.loc (S.length + 2)), x5, x6, x7] (S ++ [.ins .Story [.loc (S.length + 1), .non], .lst (found.map wSc), .dt (snK seen) (snV seen)]) =
          .ok (.nx [some (.loc S.length), some (wS p), some (.int (longest p)), some (.int (scene p light found.length).light), some (.loc (S.length + 2)), some (.int found.length), some (.tup [.int ((found.length : Int) % p.length), .int light]), x7])
            (S ++ [.ins .Story [.loc (S.length + 1), .non], .lst ((found ++ [scene p light found.length]).map wSc), .dt (snK seen) (snV seen)]) := by
        simp [f_Story___init___1, fld_ev, hL, h1, e1, hfl, la]
      rw [hb]
      dsimp only
      exact story_loop ok n _ _ _ fs s _ _ _ h (by simp; omega) (by omega)
end
end SL
set_option Elab.async false
set_option linter.all false
set_option maxRecDepth 100000
set_option maxHeartbeats 2000000
namespace SL
open PySem PySem.Spec PyProof.Rows L2
section
variable {p : Pt} {t : Tr} {top length : Int} {S : Sto}
theorem run_Story (ok : p.Ok) {n : Nat} {fs : List Sc} {s : Int} (h : cycN p n [] 0 [] = some (fs, s)) (hn : n < 900000) : frR S (newR .Story m_Story___init__ [wS p] S) = .ok (.obj .Story [.lst (fs.map wSc), .int s]) S := by
  have h8 := ok.n
  obtain ⟨r', D, e⟩ := story_loop (S := S) ok n [] 0 [] fs s none none none h (by simp; omega) (by simp; omega)
  have e2 := sWhile_is e (by simp)
  have e3 : ∀ (U : Sto) (r : Rho), mLc [7] (.n 7) (iL (mFld .Stairs .trips (mVar 1))) mYes e_Story___init___1 (some (.loc S.length) :: some (wS p) :: none :: none :: none :: none :: none :: none :: []) U = .ok (.lst ((p.trips.map Tr.dur).map W.int)) U := fun U r => by
    rw [List.map_map]
    refine mLc_map wT (fun t => .int t.dur) p.trips (by simp) (by decide) (fun t ht => ⟨_, rfl, fun U => ?_⟩) (fun _ _ => rfl) (by omega)
    simp [e_Story___init___1, wipeR, run_duration (ok.ok t ht)]
  have e4 : ∀ U, bMax [.lst (.int 0 :: (p.trips.map Tr.dur).map W.int)] U = .ok (.int (longest p)) U := fun U => bMax_ints (ns := 0 :: p.trips.map Tr.dur) rfl
  have e5 : ∀ U, opAdd (.lst [.int 0]) (.lst ((p.trips.map Tr.dur).map W.int)) U = .ok (.lst (.int 0 :: (p.trips.map Tr.dur).map W.int)) U := fun U => opAdd_lst (by simp; omega)
  have key : m_Story___init__ [.loc S.length, wS p] (S ++ [.ins .Story []]) = .ok .non (S ++ [.ins .Story [.loc (S.length + 1), .int s], .lst (fs.map wSc), D]) := by
    refine (fnM_ev rfl).trans ?_
    have e2' : sWhile t_Story___init___1 f_Story___init___1 [some (.loc S.length), some (wS p), some (.int (longest p)), some (.int 0), some (.loc (S.length + 2)), none, none, none] (S ++ [.ins .Story [.loc (S.length + 1), .non], .lst [], .dt [] []]) = .ok (.nx r') (S ++ [.ins .Story [.loc (S.length + 1), .int s], .lst (fs.map wSc), D]) := e2
    simp [b_Story___init__, e3 _ [], e4, e5, e2', -List.map_map]
  have h2 : newR .Story m_Story___init__ [wS p] S = .ok (.loc S.length) (S ++ [.ins .Story [.loc (S.length + 1), .int s], .lst (fs.map wSc), D]) := by
    unfold newR
    rw [key]
  rw [h2]
  refine frR_app (frz_locI (c := .Story) (xs := [.loc (S.length + 1), .int s]) (by simp) (Nat.le_refl _) (frzL_cons (frz_locL (xs := fs.map wSc) (ys := fs.map wSc) (by simp) (by omega) (frzL_all fun x hx => ?_)) (frzL_cons rfl frzL_nil)))
  obtain ⟨sc, _, rfl⟩ := List.mem_map.mp hx
  refine frz_nol _ _ (nol_le (k := 6) ?_ (by omega))
  show ([W.int sc.light, .lst (sc.presses.map wPr), .lst (sc.dark.map W.int)].all (nol 5)) = true
  have a1 : (sc.presses.map wPr).all (nol 4) = true := by rw [List.all_map]; exact List.all_eq_true.mpr fun _ _ => rfl
  have a2 : (sc.dark.map W.int).all (nol 4) = true := by rw [List.all_map]; exact List.all_eq_true.mpr fun _ _ => rfl
  show (true && ((sc.presses.map wPr).all (nol 4) && ((sc.dark.map W.int).all (nol 4) && true))) = true
  rw [a1, a2]
  rfl
end
end SL
set_option Elab.async false
set_option linter.all false
set_option maxRecDepth 100000
set_option maxHeartbeats 2000000
/-! the story ends: a situation comes again -/
namespace SL
open PySem PySem.Spec PyProof.Rows L2
theorem nodup_lt : ∀ (N : Nat) (l : List Nat), l.Nodup → (∀ x ∈ l, x < N) → l.length ≤ N
  | 0, [], _, _ => Nat.le_refl _
  | 0, x :: l, _, h => absurd (h x List.mem_cons_self) (Nat.not_lt_zero _)
  | N + 1, l, hn, h => by
    by_cases m : N ∈ l
    · have ih := nodup_lt N (l.erase N) (hn.erase N) fun x hx => by
        have h1 := (hn.mem_erase_iff).mp hx
        have := h x h1.2
        have := h1.1
        omega
      rw [List.length_erase_of_mem m] at ih
      omega
    · have ih := nodup_lt N l hn fun x hx => by
        have := h x hx
        have : x ≠ N := fun e => m (e ▸ hx)
        omega
      omega
section
variable {p : Pt} {t : Tr} {top length : Int} {S : Sto}
theorem inner_now (time : Int) (t : Tr) (k : Int) : ∀ (as : List Int) (now : Int) (ps : Prs), (inner time t k now ps as).1 = now ∨ (inner time t k now ps as).1 = time
  | [], _, _ => .inl rfl
  | a :: as, now, ps => by
    unfold inner
    cases t.fl a with
    | none => exact inner_now time t k as now ps
    | some f =>
      cases t.press now with
      | true =>
        have := inner_now time t k as time (ps ++ [(k, f)])
        simp only [cond_true]
        rcases this with h | h <;> exact .inr h
      | false => exact inner_now time t k as now ps
theorem outer_now (p : Pt) (tick : Int) : ∀ (ts : List Tr) (k : Nat) (now : Int) (ps : Prs) (wk : List Int), (outer p tick k ts now ps wk).1 = now ∨ (outer p tick k ts now ps wk).1 = p.time
  | [], _, _, _, _ => .inl rfl
  | t :: ts, k, now, ps, wk => by
    unfold outer
    rcases outer_now p tick ts (k + 1) _ _ _ with h | h
    · rw [h]
      exact inner_now p.time t k _ now ps
    · exact .inr h
theorem dim_range {l : Int} (h : l ≤ 60) : 0 ≤ dim l ∧ dim l ≤ 60 := by
  unfold dim
  split <;> omega
theorem scene_light (ok : p.Ok) {light : Int} (h : light ≤ 60) (tick : Int) : 0 ≤ (scene p light tick).light ∧ (scene p light tick).light ≤ 60 := by
  have h1 := ok.m0
  have h2 := ok.m1
  have h3 := dim_range h
  rcases outer_now p tick p.trips 0 (dim light) [] [] with e | e
  · have : (scene p light tick).light = dim light := e
    omega
  · have : (scene p light tick).light = p.time := e
    omega
def snOk (p : Pt) (s : Sn) : Prop := (s.map (·.1)).Nodup ∧ ∀ q ∈ s, 0 ≤ q.1.1 ∧ q.1.1 < p.length ∧ 0 ≤ q.1.2 ∧ q.1.2 ≤ 60
theorem snOk_len (ok : p.Ok) {s : Sn} (h : snOk p s) : s.length ≤ 2928 := by
  have hl := ok.l1
  have e : (s.map fun q => (q.1.1 * 61 + q.1.2).toNat).Nodup := by
    have h1 := h.1
    have h2 := h.2
    clear h
    induction s with
    | nil => exact .nil
    | cons q s ih =>
      rw [List.map_cons, List.nodup_cons] at h1 ⊢
      refine ⟨fun m => h1.1 ?_, ih h1.2 fun r hr => h2 r (List.mem_cons_of_mem _ hr)⟩
      obtain ⟨r, hr, e⟩ := List.mem_map.mp m
      have a := h2 q List.mem_cons_self
      have b := h2 r (List.mem_cons_of_mem _ hr)
      have e1 : r.1.1 = q.1.1 := by omega
      have e2 : r.1.2 = q.1.2 := by omega
      exact List.mem_map.mpr ⟨r, hr, Prod.ext e1 e2⟩
  have := nodup_lt 2928 _ e fun x hx => by
    obtain ⟨q, hq, rfl⟩ := List.mem_map.mp hx
    have a := h.2 q hq
    omega
  simpa using this
theorem snGet_none {s : Sn} {k : Int × Int} (h : snGet s k = none) : k ∉ s.map (·.1) := fun m => by
  obtain ⟨q, hq, e⟩ := List.mem_map.mp m
  unfold snGet at h
  rw [Option.map_eq_none_iff, List.find?_eq_none] at h
  exact h q hq (decide_eq_true e)
theorem cycN_ends (ok : p.Ok) : ∀ (n : Nat) (found : List Sc) (light : Int) (seen : Sn), 0 ≤ light → light ≤ 60 → snOk p seen → (longest p - found.length).toNat + (2928 - seen.length) < n → ∃ r, cycN p n found light seen = some r
  | 0, _, _, _, _, _, _, h => by omega
  | n + 1, found, light, seen, h0, h1, hs, h => by
    have hsc := scene_light ok h1 found.length
    have hl := ok.l0
    by_cases hL : longest p ≤ found.length
    · cases hg : snGet seen ((found.length : Int) % p.length, light) with
      | some s2 => exact ⟨(found, s2), by unfold cycN; rw [if_pos hL, hg]⟩
      | none =>
        have hs2 : snOk p (seen ++ [(((found.length : Int) % p.length, light), (found.length : Int))]) := by
          refine ⟨?_, fun q hq => ?_⟩
          · rw [List.map_append, List.nodup_append]
            refine ⟨hs.1, by simp, fun a ha b hb => ?_⟩
            rw [List.map_cons, List.map_nil, List.mem_singleton] at hb
            subst hb
            intro e
            rw [show a = ((found.length : Int) % p.length, light) from e] at ha
            exact snGet_none hg ha
          · rcases List.mem_append.mp hq with hq | hq
            · exact hs.2 q hq
            · rw [List.mem_singleton] at hq
              subst hq
              exact ⟨Int.emod_nonneg _ (by omega), Int.emod_lt_of_pos _ (by omega), h0, h1⟩
        have hlen := snOk_len ok hs2
        rw [List.length_append, List.length_singleton] at hlen
        obtain ⟨r, e⟩ := cycN_ends ok n (found ++ [scene p light found.length]) (scene p light found.length).light _ hsc.1 hsc.2 hs2 (by simp only [List.length_append, List.length_singleton]; omega)
        exact ⟨r, by unfold cycN; rw [if_pos hL, hg]; exact e⟩
    · obtain ⟨r, e⟩ := cycN_ends ok n (found ++ [scene p light found.length]) (scene p light found.length).light seen hsc.1 hsc.2 hs (by simp only [List.length_append, List.length_singleton]; omega)
      exact ⟨r, by unfold cycN; rw [if_neg hL]; exact e⟩
theorem foldl_max_le {m : Int} : ∀ (xs : List Int) (a : Int), a ≤ m → (∀ x ∈ xs, x ≤ m) → xs.foldl max a ≤ m
  | [], _, h, _ => h
  | x :: xs, a, h, hx => foldl_max_le xs (max a x) (Int.max_le.mpr ⟨h, hx x List.mem_cons_self⟩) fun y hy => hx y (List.mem_cons_of_mem _ hy)
theorem longest_le (ok : p.Ok) : longest p ≤ 45 := foldl_max_le _ _ (by omega) fun x hx => by
  obtain ⟨t, ht, rfl⟩ := List.mem_map.mp hx
  exact dur_le (ok.ok t ht) ok.t1
/-- a staircase's story: its scenes, where the cycle starts -/
def story (p : Pt) : List Sc × Int := (cycN p 3000 [] 0 []).getD ([], 0)
theorem story_is (ok : p.Ok) : cycN p 3000 [] 0 [] = some (story p) := by
  have := longest_le ok
  obtain ⟨r, e⟩ := cycN_ends ok 3000 [] 0 [] (by omega) (by omega) ⟨.nil, by simp⟩ (by simp; omega)
  unfold story
  rw [e]
  rfl
theorem run_Story2 (ok : p.Ok) : frR S (newR .Story m_Story___init__ [wS p] S) = .ok (.obj .Story [.lst ((story p).1.map wSc), .int (story p).2]) S := run_Story ok (story_is ok) (by omega)
theorem cycN_len : ∀ (n : Nat) (found : List Sc) (light : Int) (seen : Sn) (r : List Sc × Int), cycN p n found light seen = some r → found.length ≤ r.1.length ∧ r.1.length ≤ found.length + n
  | 0, _, _, _, _, h => by cases h
  | n + 1, found, light, seen, r, h => by
    unfold cycN at h
    split at h
    · split at h
      · cases h
        exact ⟨Nat.le_refl _, by dsimp only; omega⟩
      · have := cycN_len n _ _ _ r h
        simp at this
        omega
    · have := cycN_len n _ _ _ r h
      simp at this
      omega
theorem story_len (ok : p.Ok) : (story p).1.length ≤ 3000 := by
  have := (cycN_len 3000 [] 0 [] _ (story_is ok)).2
  simpa using this
theorem story_pos (ok : p.Ok) : 0 < (story p).1.length := by
  have h := story_is ok
  unfold cycN at h
  split at h
  · rw [show snGet [] _ = none from rfl] at h
    have := (cycN_len _ _ _ _ _ h).1
    simp at this
    omega
  · have := (cycN_len _ _ _ _ _ h).1
    simp at this
    omega
end
end SL
set_option Elab.async false
set_option linter.all false
set_option maxRecDepth 100000
set_option maxHeartbeats 0
namespace SL
open PySem PySem.Spec PyProof.Rows L2
/-! place -/
/-! common_multiple -/
noncomputable def t_common_multiple_1 : M Bool := mB (mOp opNe (mOp opMul (mOp opFDiv (mVar 2) (mVar 1)) (mVar 1)) (mVar 2))
noncomputable def f_common_multiple_1 : MSt := sAug 2 (mVar 0)
noncomputable def b_common_multiple : MSt := sSeq (sSet 2 (mVar 0)) (sSeq (sWhile (t_common_multiple_1) (f_common_multiple_1)) (sRet (mVar 2)))
noncomputable abbrev m_common_multiple : FnM := fnM 3 2 b_common_multiple
/-! Story.scene -/
noncomputable def b_Story_scene : MSt := sRet (mIx (mFld .Story .scenes (mVar 0)) (mIf (mB (mOp opLt (mVar 1) (mCall bLen (mCons (mFld .Story .scenes (mVar 0)) (mNil))))) (mVar 1) (mOp opAdd (mFld .Story .start (mVar 0)) (mOp opMod (mOp opSub (mVar 1) (mFld .Story .start (mVar 0))) (mFr (mProp .Story m_Story_size (mVar 0)))))))
noncomputable abbrev m_Story_scene : FnM := fnM 2 2 b_Story_scene
/-! first_difference -/
noncomputable def f_first_difference_1 : MSt := sSeq (sSet 5 (mOp opGt (mFld .Scene .burning (mFr (mMeth .Story m_Story_scene (mVar 2) (mCons (mVar 4) (mNil))))) (mC (.int 0)))) (sIf (mB (mOp opNe (mVar 5) (mOp opGt (mFld .Scene .burning (mFr (mMeth .Story m_Story_scene (mVar 3) (mCons (mVar 4) (mNil))))) (mC (.int 0))))) (sRet (mTup (mCons (mVar 4) (mCons (mVar 5) (mNil))))) (sNext))
noncomputable def b_first_difference : MSt := sSeq (sPar [2, 3] (mCons (mFr (mCall (newR .Story m_Story___init__) (mCons (mVar 0) (mNil)))) (mCons (mFr (mCall (newR .Story m_Story___init__) (mCons (mVar 1) (mNil)))) (mNil)))) (sSeq (sFor (.n 4) (iR1 (mCons (mOp opAdd (mCall bMax (mCons (mFld .Story .start (mVar 2)) (mCons (mFld .Story .start (mVar 3)) (mNil)))) (mFr (mCall m_common_multiple (mCons (mFr (mProp .Story m_Story_size (mVar 2))) (mCons (mFr (mProp .Story m_Story_size (mVar 3))) (mNil)))))) (mNil))) (f_first_difference_1)) (sRet (mC .non)))
noncomputable abbrev m_first_difference : FnM := fnM 6 2 b_first_difference
/-! first_error -/
/-! checks -/
end SL
set_option Elab.async false
set_option linter.all false
set_option maxRecDepth 100000
set_option maxHeartbeats 0
set_option Elab.async false
set_option linter.all false
set_option maxRecDepth 100000
set_option maxHeartbeats 2000000
set_option Elab.async false
set_option linter.all false
set_option maxRecDepth 100000
set_option maxHeartbeats 0
set_option Elab.async false
set_option linter.all false
set_option maxRecDepth 100000
set_option maxHeartbeats 2000000
set_option Elab.async false
set_option linter.all false
set_option maxRecDepth 100000
set_option maxHeartbeats 0
namespace SL
open PySem PySem.Spec PyProof.Rows L2
/-! shuffled -/
/-! check_tick -/
noncomputable def b_check_tick : MSt := sIf (mNot (mB (mFr (mCall m_is_int_in (mCons (mVar 0) (mCons (mC (.int 0)) (mCons (mC (.int 1000000000000000000)) (mNil)))))))) (sRaise0 .InvalidTick) (sNext)
noncomputable abbrev m_check_tick : FnM := fnM 1 1 b_check_tick
/-! light -/
noncomputable def b_light : MSt := sSeq (sExpr (mFr (mCall m_check_tick (mCons (mVar 1) (mNil))))) (sRet (mFld .Scene .burning (mFr (mMeth .Story m_Story_scene (mFr (mCall (newR .Story m_Story___init__) (mCons (mVar 0) (mNil)))) (mCons (mVar 1) (mNil))))))
noncomputable abbrev m_light : FnM := fnM 2 2 b_light
/-! Story.count -/
noncomputable def e_Story_count_1 (n : Nat) (gam : FnM) : M W := mFr (mCallV n gam 2 (mCons (mVar 6) (mNil)))
noncomputable def b_Story_count (n : Nat) (gam : FnM) : MSt := sSeq (sSet 3 (mLc [6] (.n 6) (iL (mFld .Story .scenes (mVar 0))) (mYes) ((e_Story_count_1 n gam)))) (sSeq (sIf (mB (mOp opLe (mVar 1) (mCall bLen (mCons (mVar 3) (mNil))))) (sRet (mCall bSum (mCons (mCut (mVar 3) (mNoPart) (mPart (mVar 1))) (mNil)))) (sNext)) (sSeq (sTg (.t [4, 5]) (mCall bDivmod (mCons (mOp opSub (mVar 1) (mFld .Story .start (mVar 0))) (mCons (mFr (mProp .Story m_Story_size (mVar 0))) (mNil))))) (sRet (mOp opAdd (mCall bSum (mCons (mCut (mVar 3) (mNoPart) (mPart (mOp opAdd (mFld .Story .start (mVar 0)) (mVar 5)))) (mNil))) (mOp opMul (mVar 4) (mCall bSum (mCons (mCut (mVar 3) (mPart (mFld .Story .start (mVar 0))) (mNoPart)) (mNil))))))))
noncomputable abbrev m_Story_count (n : Nat) (gam : FnM) : FnM := fnM 7 3 (b_Story_count n gam)
/-! count_lit -/
noncomputable def l_count_lit_1 : FnM := fnE 1 1 (mCall bInt (mCons (mOp opGt (mFld .Scene .burning (mVar 0)) (mC (.int 0))) (mNil)))
noncomputable def b_count_lit : MSt := sSeq (sExpr (mFr (mCall m_check_tick (mCons (mVar 1) (mNil))))) (sRet (mMtLam .Story (fun n => m_Story_count n l_count_lit_1) (mFr (mCall (newR .Story m_Story___init__) (mCons (mVar 0) (mNil)))) (mVar 1)))
noncomputable abbrev m_count_lit : FnM := fnM 2 2 b_count_lit
end SL
set_option Elab.async false
set_option linter.all false
set_option maxRecDepth 100000
set_option maxHeartbeats 2000000
set_option Elab.async false
set_option linter.all false
set_option maxRecDepth 100000
set_option maxHeartbeats 0
namespace SL
open PySem PySem.Spec PyProof.Rows L2
/-! late -/
/-! some_tick -/
noncomputable def b_l_some_tick : MSt := sRet (mIx (mLst (mCons (mFr (mCall m_l_below (mCons (mVar 0) (mCons (mC (.int 120)) (mNil))))) (mCons (mOp opSub (mOp opPow (mC (.int 10)) (mC (.int 18))) (mFr (mCall m_l_below (mCons (mVar 0) (mCons (mOp opPow (mC (.int 10)) (mC (.int 6))) (mNil)))))) (mNil)))) (mFr (mCall m_l_below (mCons (mVar 0) (mCons (mC (.int 2)) (mNil))))))
noncomputable abbrev m_l_some_tick : FnM := fnM 1 1 b_l_some_tick
/-! sum -/
/-! count_presses -/
noncomputable def l_count_presses_1 : FnM := fnE 1 1 (mCall bLen (mCons (mFld .Scene .presses (mVar 0)) (mNil)))
noncomputable def b_count_presses : MSt := sSeq (sExpr (mFr (mCall m_check_tick (mCons (mVar 1) (mNil))))) (sRet (mMtLam .Story (fun n => m_Story_count n l_count_presses_1) (mFr (mCall (newR .Story m_Story___init__) (mCons (mVar 0) (mNil)))) (mVar 1)))
noncomputable abbrev m_count_presses : FnM := fnM 2 2 b_count_presses
/-! idle_trips -/
end SL
set_option Elab.async false
set_option linter.all false
set_option maxRecDepth 100000
set_option maxHeartbeats 0
namespace SL
open PySem PySem.Spec PyProof.Rows L2
/-! days -/
/-! in_dark -/
noncomputable def b_in_dark : MSt := sSeq (sExpr (mFr (mCall m_check_tick (mCons (mVar 1) (mNil))))) (sRet (mCall bListC (mCons (mFld .Scene .dark (mFr (mMeth .Story m_Story_scene (mFr (mCall (newR .Story m_Story___init__) (mCons (mVar 0) (mNil)))) (mCons (mVar 1) (mNil))))) (mNil))))
noncomputable abbrev m_in_dark : FnM := fnM 2 2 b_in_dark
/-! presses_between -/
noncomputable def f_presses_between_1 : MGy := gSeq (gYd (mTup (mCons (mVar 4) (mCons (mVar 5) (mCons (mVar 6) (mNil)))))) gNil
noncomputable def f_presses_between_2 : MGy := gSeq (gFor (.t [5, 6]) (iL (mFld .Scene .presses (mFr (mMeth .Story m_Story_scene (mVar 3) (mCons (mVar 4) (mNil)))))) (f_presses_between_1)) gNil
noncomputable def b_presses_between : MGy := gSeq (gPl (sExpr (mFr (mCall m_check_tick (mCons (mVar 1) (mNil)))))) (gSeq (gPl (sIf (mNot (mB (mFr (mCall m_is_int_in (mCons (mVar 2) (mCons (mOp opSub (mVar 1) (mC (.int 1))) (mCons (mCall bMin (mCons (mC (.int 1000000000000000000)) (mCons (mOp opSub (mOp opAdd (mVar 1) (mC (.int 1000))) (mC (.int 1))) (mNil)))) (mNil)))))))) (sRaise0 .InvalidTick) (sNext))) (gSeq (gPl (sSet 3 (mFr (mCall (newR .Story m_Story___init__) (mCons (mVar 0) (mNil)))))) (gSeq (gFor (.n 4) (iR2 (mCons (mVar 1) (mCons (mOp opAdd (mVar 2) (mC (.int 1))) (mNil)))) (f_presses_between_2)) gNil)))
noncomputable abbrev m_presses_between : GnM := fnG 7 3 b_presses_between
/-! find_cycle -/
end SL
set_option Elab.async false
set_option linter.all false
set_option maxRecDepth 100000
set_option maxHeartbeats 0
set_option Elab.async false
set_option linter.all false
set_option maxRecDepth 100000
set_option maxHeartbeats 2000000
set_option Elab.async false
set_option linter.all false
set_option maxRecDepth 100000
set_option maxHeartbeats 0
set_option Elab.async false
set_option linter.all false
set_option maxRecDepth 100000
set_option maxHeartbeats 0
set_option Elab.async false
set_option linter.all false
set_option maxRecDepth 100000
set_option maxHeartbeats 4000000
set_option Elab.async false
set_option linter.all false
set_option maxRecDepth 100000
set_option maxHeartbeats 0
set_option Elab.async false
set_option linter.all false
set_option maxRecDepth 100000
set_option maxHeartbeats 4000000
set_option Elab.async false
set_option linter.all false
set_option maxRecDepth 100000
set_option maxHeartbeats 4000000
set_option Elab.async false
set_option linter.all false
set_option maxRecDepth 100000
set_option maxHeartbeats 0
set_option Elab.async false
set_option linter.all false
set_option maxRecDepth 100000
set_option maxHeartbeats 4000000
set_option Elab.async false
set_option linter.all false
set_option maxRecDepth 100000
set_option maxHeartbeats 0
set_option Elab.async false
set_option linter.all false
set_option maxRecDepth 100000
set_option maxHeartbeats 4000000
namespace SL
open PySem PySem.Spec PyProof.Rows L2
/-! a part of a list as a list that changes -/
def opCutC (lo hi : Option Int) : W → Sto → Res W := fun a S => match getL S a with
  | some xs => .ok (.loc S.length) (S ++ [.lst (cutX xs lo hi)])
  | none => .stuck
def mCutC (m : M W) (lo hi : M (Option Int)) : M W := do
  let x ← m
  let l ← lo
  let u ← hi
  fun _ S => opCutC l u x S
@[simp] theorem mCutC_ev {r : Rho} {S : Sto} (m : M W) (lo hi : M (Option Int)) : mCutC m lo hi r S = (m r S).bd fun x S1 => (lo r S1).bd fun l S2 => (hi r S2).bd fun u S3 => opCutC l u x S3 := by
  unfold mCutC
  exact (bind_ev ..).trans (bd_ext fun x S1 => (bind_ev ..).trans (bd_ext fun l S2 => bind_ev ..))
end SL
set_option Elab.async false
set_option linter.all false
set_option maxRecDepth 100000
set_option maxHeartbeats 0
set_option Elab.async false
set_option linter.all false
set_option maxRecDepth 100000
set_option maxHeartbeats 0
set_option Elab.async false
set_option linter.all false
set_option maxRecDepth 100000
set_option maxHeartbeats 4000000
namespace SL
open PySem PySem.Spec PyProof.Rows L2
/-! ### what panels need -/
/-- a call whose leavings are cut off behind its arguments -/
theorem FnAt.fr {P : Program} {w : World} {K : PySem.W.Frag} {mg : Str → Option Value} {base : Heap} {ca : Ca} {x : Str} {k : Nat} {g : FnM} (F : FnAt P w K mg base ca x k g) : FnAt P w K mg base ca x k (frF g) := by
  obtain ⟨f, h1, h2, h3⟩ := F
  exact ⟨f, h1, h2, h3.fr⟩
end SL
set_option Elab.async false
set_option linter.all false
set_option maxRecDepth 100000
set_option maxHeartbeats 0
set_option Elab.async false
set_option linter.all false
set_option maxRecDepth 100000
set_option maxHeartbeats 4000000
namespace SL
open PySem PySem.Spec PyProof.Rows L2
/-! ### a tuple unpacked into variables and fields -/
inductive Tx where
  | sl (i : Nat) | fl (c : Cl) (f : Fl) (j : Nat)
def runX : List Tx → List W → Rho → Sto → Option (Rho × Sto)
  | [], [], r, S => some (r, S)
  | .sl i :: ts, w :: ws, r, S => runX ts ws (r.set i (some w)) S
  | .fl c f j :: ts, w :: ws, r, S => match r[j]? with
    | some (some o) => match setO c f o w S with
      | .ok _ S' => runX ts ws r S'
      | _ => none
    | _ => none
  | _, _, _, _ => none
def sTgX (ts : List Tx) (m : M W) : MSt := do
  let w ← m
  fun r S => match w with
    | .tup ws => match runX ts ws r S with
      | some (r1, S1) => .ok (.nx r1) S1
      | none => .stuck
    | _ => .stuck
@[simp] theorem sTgX_ev {r : Rho} {S : Sto} (ts : List Tx) (m : M W) : sTgX ts m r S = (m r S).bd fun w S1 => match w with
    | .tup ws => match runX ts ws r S1 with
      | some (r1, S2) => .ok (.nx r1) S2
      | none => .stuck
    | _ => .stuck := by
  unfold sTgX
  refine (bind_ev ..).trans (bd_ext fun w S1 => ?_)
  cases w <;> rfl
end SL
set_option Elab.async false
set_option linter.all false
set_option maxRecDepth 100000
set_option maxHeartbeats 0
set_option Elab.async false
set_option linter.all false
set_option maxRecDepth 100000
set_option maxHeartbeats 2000000
namespace SL
open PySem PySem.Spec PyProof.Rows L2 GenW
/-! ### list(g(a, ..)) where the generator may raise -/
structure NsK (K : PySem.W.Frag) : Prop where
  ns : ∀ c, exB c = true → PySem.W.subIn K (.ref (He.ga K (cname c))) (.type "StopIteration") = some false
theorem Sy.ns {fs : List Fx} {ds : List Df} {K : PySem.W.Frag} {mg : PySem.Str → Option Value} (Z : Sy fs ds K mg) (i : Nat) (h : fs[i]? = some .ns := by rfl) : NsK K := ⟨fun c hc => of_decide_eq_true (List.all_eq_true.mp (Z.f i h) _ (exB_in hc))⟩
end SL
set_option Elab.async false
set_option linter.all false
set_option maxRecDepth 100000
set_option maxHeartbeats 0
set_option Elab.async false
set_option linter.all false
set_option maxRecDepth 100000
set_option maxHeartbeats 4000000
namespace SL
open PySem PySem.Spec PyProof.Rows L2
/-! ### its run -/
def PostLX (K : PySem.W.Frag) (ca : Ca) (E : XK) (io : List Addr) (H : Hp) (R : List Addr → Sto → Hp → Prop) : Res Unit → Prop
  | .ok _ S' => ∀ io' H', Ext io H io' H' → Rl0 K ca io' S' H' → R io' S' H'
  | .exc c ws S' => ∀ io' H' d, Ext io H io' H' → Rl0 K ca io' S' H' → RX K ca io' H' c ws d → E (.ref (ca c)) d H'
  | .stuck => False
theorem PostLX.mono {K : PySem.W.Frag} {ca : Ca} {E : XK} {io io' : List Addr} {H H' : Hp} {R : List Addr → Sto → Hp → Prop} {r : Res Unit} (e : Ext io H io' H') (h : PostLX K ca E io H R r) : PostLX K ca E io' H' R r := by
  cases r with
  | ok a S => exact fun io2 H2 f z => h io2 H2 (e.trans f) z
  | exc c ws S => exact fun io2 H2 d f z x => h io2 H2 d (e.trans f) z x
  | stuck => exact h
end SL
set_option Elab.async false
set_option linter.all false
set_option maxRecDepth 100000
set_option maxHeartbeats 0
set_option Elab.async false
set_option linter.all false
set_option maxRecDepth 100000
set_option maxHeartbeats 4000000
set_option Elab.async false
set_option linter.all false
set_option maxRecDepth 100000
set_option maxHeartbeats 0
set_option Elab.async false
set_option linter.all false
set_option maxRecDepth 100000
set_option maxHeartbeats 4000000
namespace SL
open PySem PySem.Spec PyProof.Rows L2
/-! ### match on a tuple: `case ["word", a, b]` -/
inductive Caps : List Pattern → List Str → Prop where
  | nil : Caps [] []
  | cons {x : Str} {p : Pos} {ps : List Pattern} {xs : List Str} (h : Caps ps xs) : Caps (.MatchAs none (some x) p :: ps) (x :: xs)
theorem Caps.len {ps : List Pattern} {xs : List Str} (c : Caps ps xs) : ps.length = xs.length := by
  induction c with
  | nil => rfl
  | cons h ih => simp [ih]
structure PCa (X : Cx) (cs : List MatchCase) (t : V → TS) : Prop where
  run : ∀ (pins : List (Addr × Obj)) (s : Shared) (σ : L2.St) (H : Hp) (D : Ends) (v : V) (u : Value) (f : Bool), Inv X pins σ H s → RelV v u → t v D σ H →
    wpAny (model X.prog X.w) X.A (matchCases cs X.env u f) (SP X pins D) X.xe s
section
variable {X : Cx}
/-- the names of a case and their slots -/
inductive Sls (X : Cx) : List Str → List Nat → Prop where
  | nil : Sls X [] []
  | cons {x : Str} {i : Nat} {xs : List Str} {is : List Nat} (hi : X.N[i]? = some x) (hx : Loc X.env.scope x) (hf : X.fn x = true ∨ X.env.scope.names.lookup x = some .local) (h : Sls X xs is) : Sls X (x :: xs) (i :: is)
theorem Sls.len {xs : List Str} {is : List Nat} (h : Sls X xs is) : xs.length = is.length := by
  induction h with
  | nil => rfl
  | cons _ _ _ _ ih => simp [ih]
end
/-! ### the mirror -/
def sMatch (m : M W) (c : W → MSt) : MSt := do
  let w ← m
  c w
theorem PCa.weak {X : Cx} {cs : List MatchCase} {t u : V → TS} (h : PCa X cs t) (i : ∀ v D σ H, u v D σ H → t v D σ H) : PCa X cs u := ⟨fun pins s σ H D v u f I r hw => h.run pins s σ H D v u f I r (i v D σ H hw)⟩
@[simp] theorem sMatch_ev {r : Rho} {S : Sto} (m : M W) (c : W → MSt) : sMatch m c r S = (m r S).bd fun w S1 => c w r S1 := by
  unfold sMatch
  exact bind_ev ..
end SL
set_option Elab.async false
set_option linter.all false
set_option maxRecDepth 100000
set_option maxHeartbeats 4000000
set_option Elab.async false
set_option linter.all false
set_option maxRecDepth 100000
set_option maxHeartbeats 2000000
set_option Elab.async false
set_option linter.all false
set_option maxRecDepth 100000
set_option maxHeartbeats 4000000
namespace SL
open PySem PySem.Spec PyProof.Rows L2
/-! ### a dict of the module: texts to numbers -/
def litE (e : DictEntry) (q : Str × Int) : Bool := (match e.key with
  | .str x _ => x == q.1
  | _ => false) && (match e.val with
  | .int i _ => decide (i = q.2)
  | _ => false)
def litL : List DictEntry → List (Str × Int) → Bool
  | [], [] => true
  | e :: es, q :: qs => litE e q && litL es qs
  | _, _ => false
def litB (K : PySem.W.Frag) (a : Addr) (qs : List (Str × Int)) : Bool := match K.lookup a with
  | some ⟨_, _, .dict es _, _⟩ => litL es.toList qs
  | _ => false
def lookS : List (Str × Int) → Str → Option Int
  | [], _ => none
  | q :: qs, z => if q.1 == z then some q.2 else lookS qs z
theorem litL_find : ∀ {es : List DictEntry} {qs : List (Str × Int)} (z : Str), litL es qs = true → (∀ i, lookS qs z = some i → ∃ e t, es.find? (·.key.isStr z) = some e ∧ e.val = .int i t) ∧ (lookS qs z = none → es.find? (·.key.isStr z) = none ∧ es.any (·.refKey) = false)
  | [], [], z, _ => ⟨fun i h => (by cases h), fun _ => ⟨rfl, rfl⟩⟩
  | [], _ :: _, z, h => by cases h
  | _ :: _, [], z, h => by cases h
  | e :: es, q :: qs, z, h => by
    obtain ⟨h1, h2⟩ := He.ba (show (litE e q && litL es qs) = true from h)
    obtain ⟨k1, k2⟩ := He.ba h1
    obtain ⟨i1, i2⟩ := litL_find z h2
    obtain ⟨hs, ky, vl⟩ := e
    dsimp only at k1 k2
    cases ky <;> first | (cases k1; done) | skip
    rename_i x t
    cases vl <;> first | (cases k2; done) | skip
    rename_i j t2
    dsimp only at k1 k2
    have k2 := of_decide_eq_true k2
    have k1 : x = q.1 := by simpa using k1
    subst k1 k2
    unfold lookS
    by_cases hz : (q.1 == z) = true
    · rw [if_pos hz]
      refine ⟨fun i hi => ?_, fun hn => by cases hn⟩
      cases hi
      exact ⟨_, t2, by rw [List.find?_cons_of_pos (by exact hz)], rfl⟩
    · rw [if_neg hz]
      refine ⟨fun i hi => ?_, fun hn => ?_⟩
      · obtain ⟨e, t, f1, f2⟩ := i1 i hi
        exact ⟨e, t, by rw [List.find?_cons_of_neg (by exact hz)]; exact f1, f2⟩
      · obtain ⟨f1, f2⟩ := i2 hn
        refine ⟨by rw [List.find?_cons_of_neg (by exact hz)]; exact f1, ?_⟩
        rw [List.any_cons, f2]
        rfl
/-- such a dict, as the module has it -/
structure KLen (K : PySem.W.Frag) (w : World) (a : Addr) (qs : List (Str × Int)) : Prop where
  dic : He.dicW K a = some (He.keysIn w.params (qs.map Prod.fst))
  lit : litB K a qs = true
section
variable {X : Cx} {ca : Ca} {E : XK} {d : Addr} {qs : List (Str × Int)} {x : Str}
theorem KLen.ns {K : PySem.W.Frag} {w : World} (h : KLen K w d qs) : ∃ es n, KDict K w d es n ∧ ∀ z, (∀ i, lookS qs z = some i → ∃ t, PySem.W.nsIn K d z = some (some (.int i t))) ∧ (lookS qs z = none → PySem.W.nsIn K d z = some none) := by
  obtain ⟨es, n, D⟩ := He.dicW_ok h.dic
  refine ⟨es, n, D, fun z => ?_⟩
  have hl := h.lit
  unfold litB at hl
  rw [D.at_] at hl
  obtain ⟨i1, i2⟩ := litL_find z hl
  have e : ∀ r, (match es.toList.find? (·.key.isStr z) with
      | some e => some (some e.val)
      | none => if es.toList.any (·.refKey) then none else some none) = r → PySem.W.nsIn K d z = r := fun r hr => by
    unfold PySem.W.nsIn
    rw [D.at_]
    exact hr
  refine ⟨fun i hi => ?_, fun hn => ?_⟩
  · obtain ⟨en, t, f1, f2⟩ := i1 i hi
    refine ⟨t, e _ ?_⟩
    rw [f1]
    dsimp only
    rw [f2]
  · obtain ⟨f1, f2⟩ := i2 hn
    refine e _ ?_
    rw [f1]
    dsimp only
    rw [f2]
    rfl
end
/-! ### isinstance of an instance of an own class -/
def isCB (K : PySem.W.Frag) (C : Addr) : Bool := He.eqO (PySem.W.findIn K (.ref C) "__class__") (some (some (.builtin "object.__class__"))) && (He.eqO (PySem.W.specialIn K (.builtin "object.__class__") "__get__") (some (some (.builtin "getset_descriptor.__get__"))) &&
  (decide (PySem.W.takesIn K (.builtin "object.__class__") = some true) && (decide (PySem.W.mroIn K C (.type "object") = some true) && decide (PySem.W.kitOne K (.ref C) (.ref C) = some true))))
/-! ### the head tells of it -/
abbrev TabS : Type := Str × List (Str × Int)
/-- the module, with its dicts -/
structure SyU (fs : List Fx) (ds : List Df) (ts : List TabS) (K : PySem.W.Frag) (mg : Str → Option Value) (w : World) : Prop extends Sy fs ds K mg where
  t : ∀ t ∈ ts, KLen K w (He.ga K t.1) t.2
  pc : isCB K (He.ga K "Panel") = true
theorem SyU.len {fs : List Fx} {ds : List Df} {ts : List TabS} {K : PySem.W.Frag} {mg : Str → Option Value} {w : World} (Z : SyU fs ds ts K mg w) (i : Nat) {x : Str} {qs : List (Str × Int)} (h : ts[i]? = some (x, qs) := by rfl) : KLen K w (He.ga K x) qs := Z.t _ (List.mem_of_getElem? h)
end SL
set_option Elab.async false
set_option linter.all false
set_option maxRecDepth 100000
set_option maxHeartbeats 4000000
set_option Elab.async false
set_option linter.all false
set_option maxRecDepth 100000
set_option maxHeartbeats 0
set_option Elab.async false
set_option linter.all false
set_option maxRecDepth 100000
set_option maxHeartbeats 4000000
set_option Elab.async false
set_option linter.all false
set_option maxRecDepth 100000
set_option maxHeartbeats 0
set_option Elab.async false
set_option linter.all false
set_option maxRecDepth 100000
set_option maxHeartbeats 0
set_option Elab.async false
set_option linter.all false
set_option maxRecDepth 100000
set_option maxHeartbeats 4000000
set_option Elab.async false
set_option linter.all false
set_option maxRecDepth 100000
set_option maxHeartbeats 0
set_option Elab.async false
set_option linter.all false
set_option maxRecDepth 100000
set_option maxHeartbeats 4000000
set_option Elab.async false
set_option linter.all false
set_option maxRecDepth 100000
set_option maxHeartbeats 0
set_option Elab.async false
set_option linter.all false
set_option maxRecDepth 100000
set_option maxHeartbeats 4000000
set_option Elab.async false
set_option linter.all false
set_option maxRecDepth 100000
set_option maxHeartbeats 0
set_option Elab.async false
set_option linter.all false
set_option maxRecDepth 100000
set_option maxHeartbeats 0
namespace SL
open PySem PySem.Spec PyProof.Rows L2
/-! presses_between for a consumer that works between two values -/
noncomputable def f_presses_betweenZ_1 (Sq : Nat → Sto) (zs : List W) : MGy := gSeq (gYdZ Sq zs (mTup (mCons (mVar 4) (mCons (mVar 5) (mCons (mVar 6) (mNil)))))) gNil
noncomputable def f_presses_betweenZ_2 (Sq : Nat → Sto) (zs : List W) : MGy := gSeq (gFor (.t [5, 6]) (iL (mFld .Scene .presses (mFr (mMeth .Story m_Story_scene (mVar 3) (mCons (mVar 4) (mNil)))))) (f_presses_betweenZ_1 Sq zs)) gNil
noncomputable def b_presses_betweenZ (Sq : Nat → Sto) (zs : List W) : MGy := gSeq (gPl (sExpr (mFr (mCall m_check_tick (mCons (mVar 1) (mNil)))))) (gSeq (gPl (sIf (mNot (mB (mFr (mCall m_is_int_in (mCons (mVar 2) (mCons (mOp opSub (mVar 1) (mC (.int 1))) (mCons (mCall bMin (mCons (mC (.int 1000000000000000000)) (mCons (mOp opSub (mOp opAdd (mVar 1) (mC (.int 1000))) (mC (.int 1))) (mNil)))) (mNil)))))))) (sRaise0 .InvalidTick) (sNext))) (gSeq (gPl (sSet 3 (mFr (mCall (newR .Story m_Story___init__) (mCons (mVar 0) (mNil)))))) (gSeq (gFor (.n 4) (iR2 (mCons (mVar 1) (mCons (mOp opAdd (mVar 2) (mC (.int 1))) (mNil)))) (f_presses_betweenZ_2 Sq zs)) gNil)))
noncomputable abbrev mz_presses_between : GnZ := fun Sq zs => fnG 7 3 (b_presses_betweenZ Sq zs)
end SL
set_option Elab.async false
set_option linter.all false
set_option maxRecDepth 100000
set_option maxHeartbeats 0
set_option Elab.async false
set_option linter.all false
set_option maxRecDepth 100000
set_option maxHeartbeats 0
namespace SL
open PySem PySem.Spec PyProof.Rows L2
/-! law -/
noncomputable def e_k37_law_1 : M W := mOp opAdd (mTup (mCons (mOp opMod (mCall bInt (mCons (mIx (mVar 8) (mC (.int 0))) (mNil))) (mVar 4)) (mNil))) (mCut (mVar 8) (mPart (mC (.int 1))) (mNoPart))
noncomputable def f_k37_law_1 : MSt := sSet 7 (mOp opAdd (mVar 7) (mLst (mCons (mVar 8) (mCons (mOp opAdd (mTup (mCons (mOp opAdd (mIx (mVar 8) (mC (.int 0))) (mVar 4)) (mNil))) (mCut (mVar 8) (mPart (mC (.int 1))) (mNoPart))) (mNil)))))
noncomputable def e_k37_law_2 : M W := mOp opFDiv (mVar 15) (mC (.int 2))
noncomputable def c_k37_law_1 : MSt := sSeq (sIf (mB (mOp opNe (mFr (mCall m_count_presses (mCons (mVar 9) (mCons (mVar 11) (mNil))))) (mFr (mCall m_count_presses (mCons (mVar 10) (mCons (mVar 11) (mNil))))))) (sRet (mC (.bl false))) (sNext)) (sIf (mB (mOp opNe (mSortSet (mLc [15] (.n 15) (iL (mFr (mCall m_in_dark (mCons (mVar 10) (mCons (mVar 11) (mNil)))))) (mYes) (e_k37_law_2))) (mFr (mCall m_in_dark (mCons (mVar 9) (mCons (mVar 11) (mNil))))))) (sRet (mC (.bl false))) (sNext))
noncomputable def f_k37_law_2 : MSt := sSeq (sIf (mOr (mB (mOp opNe (mFr (mCall m_light (mCons (mVar 9) (mCons (mVar 11) (mNil))))) (mFr (mCall m_light (mCons (mVar 10) (mCons (mVar 11) (mNil))))))) (mB (mOp opNe (mFr (mCall m_count_lit (mCons (mVar 9) (mCons (mVar 11) (mNil))))) (mFr (mCall m_count_lit (mCons (mVar 10) (mCons (mVar 11) (mNil)))))))) (sRet (mC (.bl false))) (sNext)) (c_k37_law_1)
noncomputable def e_k37_law_3 : M W := mTup (mCons (mVar 11) (mCons (mVar 16) (mNil)))
noncomputable def e_k37_law_4 : M W := mLcZ [11, 15, 16] (.t [11, 15, 16]) m_presses_between mz_presses_between (mCons (mVar 14) (mCons (mC (.int 0)) (mCons (mC (.int 99)) (mNil)))) (e_k37_law_3)
noncomputable def e_k37_law_5 : M W := mIx (mVar 8) (mC (.int 4))
noncomputable def c_k37_law_2 : MSt := sSeq (sSet 12 (mLc [14] (.n 14) (iT (mTup (mCons (mVar 9) (mCons (mVar 10) (mNil))))) (mYes) (e_k37_law_4))) (sSeq (sSet 13 (mLc [8] (.n 8) (iT (mVar 6)) (mYes) (e_k37_law_5))) (sRet (mOrV (mOp opInQ (mC (.str "dark")) (mVar 13)) (mOp opEq (mCall bSortD (mCons (mIx (mVar 12) (mC (.int 0))) (mNil))) (mCall bSortD (mCons (mIx (mVar 12) (mC (.int 1))) (mNil)))))))
noncomputable def c_k37_law_3 : MSt := sSeq (sIf (mOr (mB (mOp opNe (mFr (mCall m_bright_times (mCons (mVar 9) (mNil)))) (mFr (mCall m_bright_times (mCons (mVar 10) (mNil)))))) (mB (mOp opNe (mOp opIsN (mFr (mCall m_first_dark (mCons (mVar 9) (mNil)))) (mC .non)) (mOp opIsN (mFr (mCall m_first_dark (mCons (mVar 10) (mNil)))) (mC .non))))) (sRet (mC (.bl false))) (sNext)) (c_k37_law_2)
noncomputable def c_k37_law_4 : MSt := sSeq (sFor (.n 11) (iL (mLst (mCons (mFr (mCall m_l_below (mCons (mVar 1) (mCons (mC (.int 200)) (mNil))))) (mCons (mFr (mCall m_l_below (mCons (mVar 1) (mCons (mC (.int 200)) (mNil))))) (mCons (mFr (mCall m_l_some_tick (mCons (mVar 1) (mNil)))) (mNil)))))) (f_k37_law_2)) (c_k37_law_3)
noncomputable def c_k37_law_5 : MSt := sSeq (sPar [9, 10] (mCons (mFr (mCall m_l_made (mCons (mTup (mCons (mVar 3) (mCons (mVar 4) (mCons (mVar 5) (mCons (mVar 6) (mNil)))))) (mNil)))) (mCons (mFr (mCall m_l_made (mCons (mTup (mCons (mVar 3) (mCons (mOp opMul (mC (.int 2)) (mVar 4)) (mCons (mVar 5) (mCons (mCall bTuple (mCons (mVar 7) (mNil))) (mNil)))))) (mNil)))) (mNil)))) (sSeq (sIf (mOr (mB (mOp opNotN (mFr (mCall m_first_difference (mCons (mVar 9) (mCons (mVar 10) (mNil))))) (mC .non))) (mB (mOp opNotN (mFr (mCall m_first_difference (mCons (mVar 10) (mCons (mVar 9) (mNil))))) (mC .non)))) (sRet (mC (.bl false))) (sNext)) (c_k37_law_4))
noncomputable def b_k37_law : MSt := sSeq (sSet 1 (mCall m_l_random (mCons (mVar 0) (mCons (mC (.int 37)) (mNil))))) (sSeq (sSet 2 (mFr (mCall m_l_parts (mCons (mVar 1) (mCons (mC (.int 4)) (mNil)))))) (sSeq (sTg (.t [3, 4, 5, 6]) (mTup (mCons (mIx (mVar 2) (mC (.int 0))) (mCons (mOp opAdd (mC (.int 1)) (mOp opMod (mCall bInt (mCons (mIx (mVar 2) (mC (.int 1))) (mNil))) (mC (.int 24)))) (mCons (mIx (mVar 2) (mC (.int 2))) (mCons (mIx (mVar 2) (mC (.int 3))) (mNil))))))) (sSeq (sSet 6 (mCall bTuple (mCons (mLc [8] (.n 8) (iT (mVar 6)) (mYes) (e_k37_law_1)) (mNil)))) (sSeq (sSet 7 (mLst (mNil))) (sSeq (sFor (.n 8) (iT (mVar 6)) (f_k37_law_1)) (c_k37_law_5))))))
noncomputable abbrev m_k37_law : FnM := fnM 17 1 b_k37_law
end SL
set_option Elab.async false
set_option linter.all false
set_option maxRecDepth 100000
set_option maxHeartbeats 2000000
set_option Elab.async false
set_option linter.all false
set_option maxRecDepth 100000
set_option maxHeartbeats 0
set_option Elab.async false
set_option linter.all false
set_option maxRecDepth 100000
set_option maxHeartbeats 0
set_option Elab.async false
set_option linter.all false
set_option maxRecDepth 100000
set_option maxHeartbeats 2000000
/-! what the law draws -/
namespace SL
open PySem PySem.Spec PyProof.Rows L2
theorem fPop_at {S : Sto} {n k : Nat} {xs : List W} {y : W} (h : S[n]? = some (.lst xs)) (hk : xs[k]? = some y) (hs : k < 1000000) : fPop [.loc n, .int (k : Nat)] S = .ok y (S.set n (.lst (xs.eraseIdx k))) := by
  have hl : k < xs.length := by
    rcases Nat.lt_or_ge k xs.length with z | z
    · exact z
    · rw [List.getElem?_eq_none z] at hk
      cases hk
  show (match cellL S (.loc n) with | some (n, xs) => if -(2 ^ 63) ≤ ((k : Nat) : Int) ∧ ((k : Nat) : Int) < 2 ^ 63 then _ else Res.stuck | none => .stuck) = _
  rw [cellL_at h]
  dsimp only
  rw [if_pos (by omega)]
  have e : seqIndex? ((k : Nat) : Int) xs.length = some k := by
    simp [seqIndex?, hl, show ¬ ((k : Int) < 0) by omega]
  rw [e]
  dsimp only
  rw [hk]
@[simp] theorem atI_2 {α : Type} {xs : List α} : atI xs (2 : Int) = xs[2]? := atI_nat 2
@[simp] theorem atI_3 {α : Type} {xs : List α} : atI xs (3 : Int) = xs[3]? := atI_nat 3
@[simp] theorem atI_4 {α : Type} {xs : List α} : atI xs (4 : Int) = xs[4]? := atI_nat 4
@[simp] theorem atI_5 {α : Type} {xs : List α} : atI xs (5 : Int) = xs[5]? := atI_nat 5
@[simp] theorem atI_6 {α : Type} {xs : List α} : atI xs (6 : Int) = xs[6]? := atI_nat 6
@[simp] theorem atI_7 {α : Type} {xs : List α} : atI xs (7 : Int) = xs[7]? := atI_nat 7
@[simp] theorem atI_8 {α : Type} {xs : List α} : atI xs (8 : Int) = xs[8]? := atI_nat 8
@[simp] theorem atI_9 {α : Type} {xs : List α} : atI xs (9 : Int) = xs[9]? := atI_nat 9
@[simp] theorem atI_10 {α : Type} {xs : List α} : atI xs (10 : Int) = xs[10]? := atI_nat 10
@[simp] theorem atI_11 {α : Type} {xs : List α} : atI xs (11 : Int) = xs[11]? := atI_nat 11
@[simp] theorem atI_12 {α : Type} {xs : List α} : atI xs (12 : Int) = xs[12]? := atI_nat 12
/-- the law's draws: a seed, a rest, big numbers -/
structure Dr (D : List Int) : Prop where
  ex : ∃ s a rest, D = s :: a :: rest ∧ 0 ≤ s ∧ 0 ≤ a ∧ ∀ x ∈ rest, 0 ≤ x
def dst (D : List Int) (T : Sto) : Sto := .lst (D.map W.int) :: T
theorem kept_dst (D D' : List Int) (T : Sto) : Kept (dst D T) (dst D' T) := by
  have := kept_head (c := .lst (D.map W.int)) (d := .lst (D'.map W.int)) (T := T) (U := []) (clos_nol (k := 1) (by rw [List.all_map]; exact List.all_eq_true.mpr fun _ _ => rfl))
  rw [List.append_nil] at this
  exact this
theorem fr_dst {D D' : List Int} {T : Sto} {w : W} (hw : nol 16 w = true) : frR (dst D T) (.ok w (dst D' T)) = .ok w (dst D' T) := by
  rw [frR_ok (kept_dst D D' T) (frz_nol 16 w hw)]
  have : (dst D T).length = (dst D' T).length := rfl
  rw [this, List.take_length]
theorem run_below {D : List Int} (g : Dr D) {lim : Int} (h0 : 0 < lim) (h1 : lim < 1073741824) : ∃ v D', Dr D' ∧ 0 ≤ v ∧ v < lim ∧ ∀ T, m_l_below [.loc 0, .int lim] (dst D T) = .ok (.int v) (dst D' T) := by
  obtain ⟨s, a, rest, rfl, hs, ha, hr⟩ := g.ex
  have e1 : decide (0 < lim) = true := decide_eq_true h0
  have e2 : decide (0 < lim ∧ lim < 1073741824) = true := decide_eq_true ⟨h0, h1⟩
  have e3 : ∀ i : Int, mulOk i 48271 = true := fun i => mulOk_r (by decide) (by decide)
  have run : ∀ a rest, 0 ≤ a → (∀ x ∈ rest, 0 ≤ x) → (a = 0 → rest = []) → ∃ v D', Dr D' ∧ 0 ≤ v ∧ v < lim ∧ ∀ T, m_l_below [.loc 0, .int lim] (dst (s :: a :: rest) T) = .ok (.int v) (dst D' T) := by
    intro a rest ha hr hz
    by_cases h : 0 < a
    · refine ⟨a % lim, s :: a / lim :: rest, ⟨⟨s, _, rest, rfl, hs, Int.ediv_nonneg ha (by omega), hr⟩⟩, Int.emod_nonneg _ (by omega), Int.emod_lt_of_pos _ h0, fun T => (fnM_ev rfl).trans ?_⟩
      have hne : ¬ a = 0 := by omega
      simp [b_l_below, dst, h, hne, e1, e2]
    · have ea : a = 0 := by omega
      subst ea
      rw [hz rfl]
      refine ⟨(s * 48271 + 11) % 2147483647 / 64 % lim, [(s * 48271 + 11) % 2147483647, 0], ⟨⟨_, 0, [], rfl, Int.emod_nonneg _ (by decide), Int.le_refl _, by simp⟩⟩, Int.emod_nonneg _ (by omega), Int.emod_lt_of_pos _ h0, fun T => (fnM_ev rfl).trans ?_⟩
      simp [b_l_below, dst, e1, e2, e3]
  by_cases hz : a = 0 ∧ rest ≠ []
  · obtain ⟨rfl, hne⟩ := hz
    obtain ⟨b, rest, rfl⟩ := List.exists_cons_of_ne_nil hne
    have hb : 0 ≤ b := hr b List.mem_cons_self
    have hr' : ∀ x ∈ rest, 0 ≤ x := fun x hx => hr x (List.mem_cons_of_mem _ hx)
    have hp : ∀ T : Sto, fPop [.loc 0, .int 2] (.lst (.int s :: .int 0 :: .int b :: rest.map W.int) :: T) = .ok (.int b) (.lst (.int s :: .int 0 :: rest.map W.int) :: T) := fun T => fPop_at (S := .lst (.int s :: .int 0 :: .int b :: rest.map W.int) :: T) (n := 0) (k := 2) (xs := .int s :: .int 0 :: .int b :: rest.map W.int) (y := .int b) rfl rfl (by decide)
    have hl : (2 : Int) < (rest.length : Int) + 1 + 1 + 1 := by omega
    by_cases h : 0 < b
    · refine ⟨b % lim, s :: b / lim :: rest, ⟨⟨s, _, rest, rfl, hs, Int.ediv_nonneg hb (by omega), hr'⟩⟩, Int.emod_nonneg _ (by omega), Int.emod_lt_of_pos _ h0, fun T => (fnM_ev rfl).trans ?_⟩
      simp [b_l_below, dst, hp, h, e1, e2, hl]
    · have eb : b = 0 := by omega
      subst eb
      refine ⟨(s * 48271 + 11) % 2147483647 / 64 % lim, (s * 48271 + 11) % 2147483647 :: 0 :: rest, ⟨⟨_, 0, rest, rfl, Int.emod_nonneg _ (by decide), Int.le_refl _, hr'⟩⟩, Int.emod_nonneg _ (by omega), Int.emod_lt_of_pos _ h0, fun T => (fnM_ev rfl).trans ?_⟩
      simp [b_l_below, dst, hp, e1, e2, e3, hl]
  · exact run a rest ha hr fun e => Classical.byContradiction fun z => hz ⟨e, z⟩
theorem draw {D : List Int} (g : Dr D) {lim : Int} (h0 : 0 < lim) (h1 : lim < 1073741824) : ∃ v D', Dr D' ∧ 0 ≤ v ∧ v < lim ∧ ∀ D0 T, frR (dst D0 T) (m_l_below [.loc 0, .int lim] (dst D T)) = .ok (.int v) (dst D' T) := by
  obtain ⟨v, D', g', v0, v1, e⟩ := run_below g h0 h1
  refine ⟨v, D', g', v0, v1, fun D0 T => ?_⟩
  rw [e]
  exact fr_dst rfl
theorem mod_2 {x m : Int} (h0 : 0 ≤ x) (h : x < 2 * m) : x % m = if x < m then x else x - m := by
  split
  · exact Int.emod_eq_of_lt h0 (by assumption)
  · have e : x % m = (x - m) % m := by
      conv => lhs; rw [show x = (x - m) + m by omega]
      simp
    rw [e]
    exact Int.emod_eq_of_lt (by omega) (by omega)
def wTt (t : Tr) : W := .tup [.int t.start, .int t.source, .int t.target, .int t.pace, .str t.habit]
theorem run_trip {D : List Int} (g : Dr D) {top length : Int} (t0 : 1 ≤ top) (t1 : top ≤ 9) (l0 : 1 ≤ length) (l1 : length ≤ 48) : ∃ t D', Dr D' ∧ t.Ok top length ∧ ∀ D0 T, frR (dst D0 T) (m_l_trip [.loc 0, .int top, .int length] (dst D T)) = .ok (wTt t) (dst D' T) := by
  obtain ⟨v1, D1, g1, a1, b1, e1⟩ := draw g (lim := top + 1) (by omega) (by omega)
  obtain ⟨v2, D2, g2, a2, b2, e2⟩ := draw g1 (lim := top) (by omega) (by omega)
  obtain ⟨v3, D3, g3, a3, b3, e3⟩ := draw g2 (lim := 4) (by omega) (by omega)
  obtain ⟨v4, D4, g4, a4, b4, e4⟩ := draw g3 (lim := length) (by omega) (by omega)
  obtain ⟨v5, D5, g5, a5, b5, e5⟩ := draw g4 (lim := 2) (by omega) (by omega)
  have hx : ∃ x : Int, 0 < x ∧ x ≤ 5 ∧ atI [W.int 2, .int 5] v5 = some (.int x) := by
    rcases (show v5 = 0 ∨ v5 = 1 by omega) with rfl | rfl
    · exact ⟨2, by omega, by omega, rfl⟩
    · exact ⟨5, by omega, by omega, rfl⟩
  obtain ⟨x, x0, x5, ex⟩ := hx
  obtain ⟨v6, D6, g6, a6, b6, e6⟩ := draw g5 (lim := x) (by omega) (by omega)
  have hh : ∃ h : Str, habitOk h ∧ atI [W.str "dark", .str "dark", .str "always", .str "never"] v3 = some (.str h) := by
    rcases (show v3 = 0 ∨ v3 = 1 ∨ v3 = 2 ∨ v3 = 3 by omega) with rfl | rfl | rfl | rfl
    · exact ⟨"dark", .inl rfl, rfl⟩
    · exact ⟨"dark", .inl rfl, rfl⟩
    · exact ⟨"always", .inr (.inl rfl), rfl⟩
    · exact ⟨"never", .inr (.inr rfl), rfl⟩
  obtain ⟨h, ho, eh⟩ := hh
  have em := mod_2 (x := v1 + 1 + v2) (m := top + 1) (by omega) (by omega)
  have dt : decide (0 < top + 1) = true := decide_eq_true (by omega)
  refine ⟨⟨v4, v1, (v1 + 1 + v2) % (top + 1), 1 + v6, h⟩, D6, g6, ⟨a4, b4, a1, by dsimp only; omega, ?_, ?_, ?_, by dsimp only; omega, by dsimp only; omega, ho⟩, fun D0 T => ?_⟩
  · dsimp only
    rw [em]
    split <;> omega
  · dsimp only
    rw [em]
    split <;> omega
  · dsimp only
    rw [em]
    split <;> omega
  · have key : m_l_trip [.loc 0, .int top, .int length] (dst D T) = .ok (wTt ⟨v4, v1, (v1 + 1 + v2) % (top + 1), 1 + v6, h⟩) (dst D6 T) := by
      refine (fnM_ev rfl).trans ?_
      simp [b_l_trip, e1, e2, e3, e4, e5, e6, ex, eh, dt, wTt]
    rw [key]
    exact fr_dst rfl
end SL
set_option Elab.async false
set_option linter.all false
set_option maxRecDepth 100000
set_option maxHeartbeats 2000000
namespace SL
open PySem PySem.Spec PyProof.Rows L2
def wP (p : Pt) : W := .tup [.int p.top, .int p.length, .int p.time, .tup (p.trips.map wTt)]
theorem nol_wTt {t : Tr} : nol 2 (wTt t) = true := rfl
theorem nol_wP {p : Pt} : nol 4 (wP p) = true := by
  show (true && (true && (true && ((p.trips.map wTt).all (nol 2) && true)))) = true
  simp [nol_wTt]
theorem lc_trips {top length time : Int} (t0 : 1 ≤ top) (t1 : top ≤ 9) (l0 : 1 ≤ length) (l1 : length ≤ 48) : ∀ (xs : List W) (D : List Int) (acc : List Tr), Dr D → acc.length + xs.length < 1000 → ∃ ts D', Dr D' ∧ ts.length = xs.length ∧ (∀ t ∈ ts, t.Ok top length) ∧
    ∀ T (m : W), lcGo (.n 5) mYes e_l_parts_1 (T.length + 1) xs [some (.loc 0), some m, some (.int top), some (.int length), some (.int time), none] (dst D (T ++ [.lst (acc.map wTt)])) = .ok (T.length + 1) (dst D' (T ++ [.lst ((acc ++ ts).map wTt)]))
  | [], D, acc, g, _ => ⟨[], D, g, rfl, by simp, fun T m => by simp [lcGo]⟩
  | x :: xs, D, acc, g, hl => by
    simp only [List.length_cons] at hl
    obtain ⟨t, D1, g1, tok, e⟩ := run_trip g t0 t1 l0 l1
    obtain ⟨ts, D2, g2, hn, hok, ih⟩ := lc_trips t0 t1 l0 l1 xs D1 (acc ++ [t]) g1 (by simp; omega)
    refine ⟨t :: ts, D2, g2, by simp [hn], fun u hu => ?_, fun T m => ?_⟩
    · rcases List.mem_cons.mp hu with rfl | hu
      · exact tok
      · exact hok u hu
    · have he : e_l_parts_1 [some (.loc 0), some m, some (.int top), some (.int length), some (.int time), some x] (dst D (T ++ [.lst (acc.map wTt)])) = .ok (wTt t) (dst D1 (T ++ [.lst (acc.map wTt)])) := by
        simp [e_l_parts_1, e]
      have hg : (dst D1 (T ++ [.lst (acc.map wTt)]))[T.length + 1]? = some (.lst (acc.map wTt)) := by
        unfold dst
        simp
      have hs : (dst D1 (T ++ [.lst (acc.map wTt)])).set (T.length + 1) (.lst (acc.map wTt ++ [wTt t])) = dst D1 (T ++ [.lst ((acc ++ [t]).map wTt)]) := by
        unfold dst
        simp
      unfold lcGo lcTurn
      rw [run_n]
      dsimp only [List.set_cons_succ, List.set_cons_zero]
      rw [show mYes [some (.loc 0), some m, some (.int top), some (.int length), some (.int time), some x] (dst D (T ++ [.lst (acc.map wTt)])) = .ok true _ from rfl]
      dsimp only
      rw [he]
      dsimp only
      rw [hg]
      dsimp only
      rw [if_pos (by rw [List.length_map]; omega), hs, ih T m]
      simp
theorem run_parts {D : List Int} (g : Dr D) {most : Int} (m0 : 0 ≤ most) (m1 : most ≤ 8) : ∃ p D', Dr D' ∧ p.Ok ∧ (p.trips.length : Int) ≤ most ∧ ∀ D0 T, frR (dst D0 T) (m_l_parts [.loc 0, .int most] (dst D T)) = .ok (wP p) (dst D' T) := by
  obtain ⟨v1, D1, g1, a1, b1, e1⟩ := draw g (lim := 2) (by omega) (by omega)
  have hx1 : ∃ x : Int, 0 < x ∧ x ≤ 9 ∧ atI [W.int 3, .int 9] v1 = some (.int x) := by
    rcases (show v1 = 0 ∨ v1 = 1 by omega) with rfl | rfl
    · exact ⟨3, by omega, by omega, rfl⟩
    · exact ⟨9, by omega, by omega, rfl⟩
  obtain ⟨x1, xa, xb, ex1⟩ := hx1
  obtain ⟨v2, D2, g2, a2, b2, e2⟩ := draw g1 (lim := x1) (by omega) (by omega)
  obtain ⟨v3, D3, g3, a3, b3, e3⟩ := draw g2 (lim := 2) (by omega) (by omega)
  have hx2 : ∃ x : Int, 0 < x ∧ x ≤ 48 ∧ atI [W.int 12, .int 48] v3 = some (.int x) := by
    rcases (show v3 = 0 ∨ v3 = 1 by omega) with rfl | rfl
    · exact ⟨12, by omega, by omega, rfl⟩
    · exact ⟨48, by omega, by omega, rfl⟩
  obtain ⟨x2, ya, yb, ex2⟩ := hx2
  obtain ⟨v4, D4, g4, a4, b4, e4⟩ := draw g3 (lim := x2) (by omega) (by omega)
  obtain ⟨v5, D5, g5, a5, b5, e5⟩ := draw g4 (lim := 3) (by omega) (by omega)
  have hx3 : ∃ x : Int, 0 < x ∧ x ≤ 60 ∧ atI [W.int 6, .int 15, .int 60] v5 = some (.int x) := by
    rcases (show v5 = 0 ∨ v5 = 1 ∨ v5 = 2 by omega) with rfl | rfl | rfl
    · exact ⟨6, by omega, by omega, rfl⟩
    · exact ⟨15, by omega, by omega, rfl⟩
    · exact ⟨60, by omega, by omega, rfl⟩
  obtain ⟨x3, za, zb, ex3⟩ := hx3
  obtain ⟨v6, D6, g6, a6, b6, e6⟩ := draw g5 (lim := x3) (by omega) (by omega)
  obtain ⟨v7, D7, g7, a7, b7, e7⟩ := draw g6 (lim := most + 1) (by omega) (by omega)
  obtain ⟨ts, D8, g8, hn, hok, e8⟩ := lc_trips (time := 1 + v6) (top := 1 + v2) (length := 1 + v4) (by omega) (by omega) (by omega) (by omega) (rngW 0 1 v7.toNat) D7 [] g7 (by rw [rngW_len]; simp; omega)
  rw [rngW_len] at hn
  refine ⟨⟨1 + v2, 1 + v4, 1 + v6, ts⟩, D8, g8, ⟨by dsimp only; omega, by dsimp only; omega, by dsimp only; omega, by dsimp only; omega, by dsimp only; omega, by dsimp only; omega, by dsimp only; omega, hok⟩, by dsimp only; omega, fun D0 T => ?_⟩
  have hL : mLc [5] (.n 5) (iR1 (mCons (mFr (mCall m_l_below (mCons (mVar 0) (mCons (mOp opAdd (mVar 1) (mC (.int 1))) (mNil))))) (mNil))) mYes e_l_parts_1 [some (.loc 0), some (.int most), some (.int (1 + v2)), some (.int (1 + v4)), some (.int (1 + v6)), none] (dst D6 T) = .ok (.lst (ts.map wTt)) (dst D8 T) := by
    have hi : iR1 (mCons (mFr (mCall m_l_below (mCons (mVar 0) (mCons (mOp opAdd (mVar 1) (mC (.int 1))) (mNil))))) (mNil)) [some (.loc 0), some (.int most), some (.int (1 + v2)), some (.int (1 + v4)), some (.int (1 + v6)), none] (dst D6 T) = .ok (rngW 0 1 v7.toNat) (dst D7 T) := by
      have : itR1 [.int v7] (dst D7 T) = .ok (rngW 0 1 v7.toNat) (dst D7 T) := if_pos (by omega)
      simp [e7, this]
    have hlen : (dst D7 T).length = T.length + 1 := rfl
    have happ : ∀ (D : List Int) (c : Ce), dst D T ++ [c] = dst D (T ++ [c]) := fun D c => rfl
    unfold mLc
    rw [hi]
    dsimp only
    rw [if_pos (by decide), hlen, happ]
    have e9 := e8 T (.int most)
    rw [show wipeR [some (.loc 0), some (.int most), some (.int (1 + v2)), some (.int (1 + v4)), some (.int (1 + v6)), none] [5] = [some (.loc 0), some (.int most), some (.int (1 + v2)), some (.int (1 + v4)), some (.int (1 + v6)), none] from rfl]
    rw [show ([] : List Tr).map wTt = [] from rfl] at e9
    rw [e9]
    dsimp only
    have hg : (dst D8 (T ++ [.lst (([] ++ ts : List Tr).map wTt)]))[T.length + 1]? = some (.lst (ts.map wTt)) := by
      unfold dst
      simp
    rw [hg]
    dsimp only
    rw [if_pos ⟨by simp [dst], clos_nol (k := 2) (by rw [List.all_map]; exact List.all_eq_true.mpr fun _ _ => rfl), kept_head (U := [_]) (clos_nol (k := 1) (by rw [List.all_map]; exact List.all_eq_true.mpr fun _ _ => rfl))⟩]
    congr 1
    unfold dst
    simp
  have key : m_l_parts [.loc 0, .int most] (dst D T) = .ok (wP ⟨1 + v2, 1 + v4, 1 + v6, ts⟩) (dst D8 T) := by
    refine (fnM_ev rfl).trans ?_
    simp [b_l_parts, e1, e2, e3, e4, e5, e6, ex1, ex2, ex3, hL, wP]
  rw [key]
  exact fr_dst (nol_le nol_wP (by omega))
end SL
set_option Elab.async false
set_option linter.all false
set_option maxRecDepth 100000
set_option maxHeartbeats 2000000
/-! isinstance of plain values -/
namespace SL
open PySem PySem.Spec PyProof.Rows L2
@[simp] theorem isi_non_int {S : Sto} : bIsi [.non, .ty "int"] S = .ok (.bl false) S := (bIsi_ev (t := "NoneType") rfl (by decide)).trans rfl
@[simp] theorem isi_non_str {S : Sto} : bIsi [.non, .ty "str"] S = .ok (.bl false) S := (bIsi_ev (t := "NoneType") rfl (by decide)).trans rfl
@[simp] theorem isi_non_bool {S : Sto} : bIsi [.non, .ty "bool"] S = .ok (.bl false) S := (bIsi_ev (t := "NoneType") rfl (by decide)).trans rfl
@[simp] theorem isi_non_tuple {S : Sto} : bIsi [.non, .ty "tuple"] S = .ok (.bl false) S := (bIsi_ev (t := "NoneType") rfl (by decide)).trans rfl
@[simp] theorem isi_non_list {S : Sto} : bIsi [.non, .ty "list"] S = .ok (.bl false) S := (bIsi_ev (t := "NoneType") rfl (by decide)).trans rfl
@[simp] theorem isi_bl_int {S : Sto} {x : Bool} : bIsi [.bl x, .ty "int"] S = .ok (.bl true) S := (bIsi_ev (t := "bool") rfl (by decide)).trans rfl
@[simp] theorem isi_bl_str {S : Sto} {x : Bool} : bIsi [.bl x, .ty "str"] S = .ok (.bl false) S := (bIsi_ev (t := "bool") rfl (by decide)).trans rfl
@[simp] theorem isi_bl_bool {S : Sto} {x : Bool} : bIsi [.bl x, .ty "bool"] S = .ok (.bl true) S := (bIsi_ev (t := "bool") rfl (by decide)).trans rfl
@[simp] theorem isi_bl_tuple {S : Sto} {x : Bool} : bIsi [.bl x, .ty "tuple"] S = .ok (.bl false) S := (bIsi_ev (t := "bool") rfl (by decide)).trans rfl
@[simp] theorem isi_bl_list {S : Sto} {x : Bool} : bIsi [.bl x, .ty "list"] S = .ok (.bl false) S := (bIsi_ev (t := "bool") rfl (by decide)).trans rfl
@[simp] theorem isi_int_int {S : Sto} {i : Int} : bIsi [.int i, .ty "int"] S = .ok (.bl true) S := (bIsi_ev (t := "int") rfl (by decide)).trans rfl
@[simp] theorem isi_int_str {S : Sto} {i : Int} : bIsi [.int i, .ty "str"] S = .ok (.bl false) S := (bIsi_ev (t := "int") rfl (by decide)).trans rfl
@[simp] theorem isi_int_bool {S : Sto} {i : Int} : bIsi [.int i, .ty "bool"] S = .ok (.bl false) S := (bIsi_ev (t := "int") rfl (by decide)).trans rfl
@[simp] theorem isi_int_tuple {S : Sto} {i : Int} : bIsi [.int i, .ty "tuple"] S = .ok (.bl false) S := (bIsi_ev (t := "int") rfl (by decide)).trans rfl
@[simp] theorem isi_int_list {S : Sto} {i : Int} : bIsi [.int i, .ty "list"] S = .ok (.bl false) S := (bIsi_ev (t := "int") rfl (by decide)).trans rfl
@[simp] theorem isi_str_int {S : Sto} {x : Str} : bIsi [.str x, .ty "int"] S = .ok (.bl false) S := (bIsi_ev (t := "str") rfl (by decide)).trans rfl
@[simp] theorem isi_str_str {S : Sto} {x : Str} : bIsi [.str x, .ty "str"] S = .ok (.bl true) S := (bIsi_ev (t := "str") rfl (by decide)).trans rfl
@[simp] theorem isi_str_bool {S : Sto} {x : Str} : bIsi [.str x, .ty "bool"] S = .ok (.bl false) S := (bIsi_ev (t := "str") rfl (by decide)).trans rfl
@[simp] theorem isi_str_tuple {S : Sto} {x : Str} : bIsi [.str x, .ty "tuple"] S = .ok (.bl false) S := (bIsi_ev (t := "str") rfl (by decide)).trans rfl
@[simp] theorem isi_str_list {S : Sto} {x : Str} : bIsi [.str x, .ty "list"] S = .ok (.bl false) S := (bIsi_ev (t := "str") rfl (by decide)).trans rfl
@[simp] theorem isi_tup_int {S : Sto} {xs : List W} : bIsi [.tup xs, .ty "int"] S = .ok (.bl false) S := (bIsi_ev (t := "tuple") rfl (by decide)).trans rfl
@[simp] theorem isi_tup_str {S : Sto} {xs : List W} : bIsi [.tup xs, .ty "str"] S = .ok (.bl false) S := (bIsi_ev (t := "tuple") rfl (by decide)).trans rfl
@[simp] theorem isi_tup_bool {S : Sto} {xs : List W} : bIsi [.tup xs, .ty "bool"] S = .ok (.bl false) S := (bIsi_ev (t := "tuple") rfl (by decide)).trans rfl
@[simp] theorem isi_tup_tuple {S : Sto} {xs : List W} : bIsi [.tup xs, .ty "tuple"] S = .ok (.bl true) S := (bIsi_ev (t := "tuple") rfl (by decide)).trans rfl
@[simp] theorem isi_tup_list {S : Sto} {xs : List W} : bIsi [.tup xs, .ty "list"] S = .ok (.bl false) S := (bIsi_ev (t := "tuple") rfl (by decide)).trans rfl
@[simp] theorem isi_lst_int {S : Sto} {xs : List W} : bIsi [.lst xs, .ty "int"] S = .ok (.bl false) S := (bIsi_ev (t := "list") rfl (by decide)).trans rfl
@[simp] theorem isi_lst_str {S : Sto} {xs : List W} : bIsi [.lst xs, .ty "str"] S = .ok (.bl false) S := (bIsi_ev (t := "list") rfl (by decide)).trans rfl
@[simp] theorem isi_lst_bool {S : Sto} {xs : List W} : bIsi [.lst xs, .ty "bool"] S = .ok (.bl false) S := (bIsi_ev (t := "list") rfl (by decide)).trans rfl
@[simp] theorem isi_lst_tuple {S : Sto} {xs : List W} : bIsi [.lst xs, .ty "tuple"] S = .ok (.bl false) S := (bIsi_ev (t := "list") rfl (by decide)).trans rfl
@[simp] theorem isi_lst_list {S : Sto} {xs : List W} : bIsi [.lst xs, .ty "list"] S = .ok (.bl true) S := (bIsi_ev (t := "list") rfl (by decide)).trans rfl
@[simp] theorem isi_loc_int {S : Sto} {n : Nat} : bIsi [.loc n, .ty "int"] S = oc (cl S[n]?) (fun _ => .ok (.bl false) S) .stuck := by
  cases h : S[n]? with
  | none =>
    unfold bIsi tyName
    simp [h, cl]
  | some c =>
    cases c with
    | lst xs => exact (bIsi_ev (t := "list") (by unfold tyName; simp [h]) (by decide)).trans rfl
    | _ =>
      unfold bIsi tyName
      simp [h, cl]
@[simp] theorem isi_loc_str {S : Sto} {n : Nat} : bIsi [.loc n, .ty "str"] S = oc (cl S[n]?) (fun _ => .ok (.bl false) S) .stuck := by
  cases h : S[n]? with
  | none =>
    unfold bIsi tyName
    simp [h, cl]
  | some c =>
    cases c with
    | lst xs => exact (bIsi_ev (t := "list") (by unfold tyName; simp [h]) (by decide)).trans rfl
    | _ =>
      unfold bIsi tyName
      simp [h, cl]
@[simp] theorem isi_loc_bool {S : Sto} {n : Nat} : bIsi [.loc n, .ty "bool"] S = oc (cl S[n]?) (fun _ => .ok (.bl false) S) .stuck := by
  cases h : S[n]? with
  | none =>
    unfold bIsi tyName
    simp [h, cl]
  | some c =>
    cases c with
    | lst xs => exact (bIsi_ev (t := "list") (by unfold tyName; simp [h]) (by decide)).trans rfl
    | _ =>
      unfold bIsi tyName
      simp [h, cl]
@[simp] theorem isi_loc_tuple {S : Sto} {n : Nat} : bIsi [.loc n, .ty "tuple"] S = oc (cl S[n]?) (fun _ => .ok (.bl false) S) .stuck := by
  cases h : S[n]? with
  | none =>
    unfold bIsi tyName
    simp [h, cl]
  | some c =>
    cases c with
    | lst xs => exact (bIsi_ev (t := "list") (by unfold tyName; simp [h]) (by decide)).trans rfl
    | _ =>
      unfold bIsi tyName
      simp [h, cl]
@[simp] theorem isi_loc_list {S : Sto} {n : Nat} : bIsi [.loc n, .ty "list"] S = oc (cl S[n]?) (fun _ => .ok (.bl true) S) .stuck := by
  cases h : S[n]? with
  | none =>
    unfold bIsi tyName
    simp [h, cl]
  | some c =>
    cases c with
    | lst xs => exact (bIsi_ev (t := "list") (by unfold tyName; simp [h]) (by decide)).trans rfl
    | _ =>
      unfold bIsi tyName
      simp [h, cl]
end SL
set_option Elab.async false
set_option linter.all false
set_option maxRecDepth 100000
set_option maxHeartbeats 2000000
namespace SL
open PySem PySem.Spec PyProof.Rows L2
section
variable {p : Pt} {t : Tr} {top length : Int} {S : Sto}
theorem run_in {v lo hi : Int} (h0 : lo ≤ v) (h1 : v ≤ hi) : m_is_int_in [.int v, .int lo, .int hi] S = .ok (.bl true) S := by
  refine (fnM_ev rfl).trans ?_
  simp [b_is_int_in, h0, h1]
theorem habit_in {h : Str} (q : habitOk h) : inW (.str h) (List.map W.str ["dark", "always", "never"]) = true := by
  rcases q with rfl | rfl | rfl <;> decide +kernel
theorem run_is_trip (ok : t.Ok top length) (h1 : 1 ≤ length) : m_is_trip [wTt t, .int top, .int length] S = .ok (.bl true) S := by
  refine (fnM_ev rfl).trans ?_
  have e : ∀ U, opInQ (.str t.habit) (.ktup [.str "dark", .str "always", .str "never"]) U = .ok (.bl true) U := fun U => by
    unfold opInQ
    rw [getQ_ktup]
    dsimp only
    rw [if_pos (by rfl), show inW (.str t.habit) [.str "dark", .str "always", .str "never"] = true from habit_in ok.hb]
  have hs1 := ok.s1
  simp [b_is_trip, wTt, run_in ok.s0 (show t.start ≤ length - 1 by omega), run_in ok.p0 ok.p1, run_in ok.a0 ok.a1, run_in ok.b0 ok.b1, ok.ne, e]
theorem new_Trip (a b c d e : W) : newR .Trip m_Trip___init__ [a, b, c, d, e] S = .ok (.loc S.length) (S ++ [.ins .Trip [a, b, c, d, e]]) := by
  unfold newR
  have key : m_Trip___init__ [.loc S.length, a, b, c, d, e] (S ++ [.ins .Trip []]) = .ok .non (S ++ [.ins .Trip [a, b, c, d, e]]) := by
    refine (fnM_ev rfl).trans ?_
    simp [b_Trip___init__]
  rw [key]
theorem new_TripF : frR S (newR .Trip m_Trip___init__ [.int t.start, .int t.source, .int t.target, .int t.pace, .str t.habit] S) = .ok (wT t) S := by
  rw [new_Trip]
  exact frR_app (frz_locI at_app0 (Nat.le_refl _) rfl)
theorem stairs_loop : ∀ (ts : List Tr) (k : Nat) (x5 x6 : Option W) (a b c d e : Option W), b = some (.int top) → c = some (.int length) → 1 ≤ length → (∀ t ∈ ts, t.Ok top length) → k + ts.length ≤ 8 → ∃ y5 y6,
    sForL (.t [5, 6]) f_Stairs___init___1 (enumA k (ts.map wTt)) [a, b, c, d, e, x5, x6] S = .ok (.nx [a, b, c, d, e, y5, y6]) S
  | [], k, x5, x6, a, b, c, d, e, _, _, _, _, _ => ⟨x5, x6, rfl⟩
  | t :: ts, k, x5, x6, a, b, c, d, e, hb, hc, h1, hok, hk => by
    simp only [List.length_cons] at hk
    obtain ⟨y5, y6, ih⟩ := stairs_loop ts (k + 1) (some (.int k)) (some (wTt t)) a b c d e hb hc h1 (fun u hu => hok u (List.mem_cons_of_mem _ hu)) (by omega)
    refine ⟨y5, y6, ?_⟩
    have tok := hok t List.mem_cons_self
    have hbody : f_Stairs___init___1 [a, b, c, d, e, some (.int k), some (wTt t)] S = .ok (.nx [a, b, c, d, e, some (.int k), some (wTt t)]) S := by
      subst hb hc
      have h8 : ¬ (k : Int) = 8 := by omega
      simp [f_Stairs___init___1, run_is_trip tok h1, h8]
    rw [List.map_cons]
    show sForL _ _ (.tup [.int (k : Nat), wTt t] :: enumA (k + 1) (ts.map wTt)) _ _ = _
    rw [sForL_nx (r1 := _) rfl hbody, ih]
theorem run_Stairs (ok : p.Ok) {ts : List Tr} (h : p.trips = ts) : newR .Stairs m_Stairs___init__ (.int p.top :: .int p.length :: .int p.time :: ts.map wTt) S = .ok (.loc S.length) (S ++ [.ins .Stairs [.int p.top, .int p.length, .int p.time, .lst (ts.map wT)]]) := by
  subst h
  obtain ⟨y5, y6, e⟩ := stairs_loop (S := S ++ [.ins .Stairs []]) (top := p.top) (length := p.length) p.trips 0 none none (some (.loc S.length)) (some (.int p.top)) (some (.int p.length)) (some (.int p.time)) (some (.tup (p.trips.map wTt))) rfl rfl ok.l0 ok.ok (by have := ok.n; omega)
  have hn := ok.n
  have e2 := enumW_eq (p.trips.map wTt)
  have e3 : ∀ (U : Sto), mLc [6] (.n 6) (iT (mVar 4)) mYes e_Stairs___init___1 [some (.loc S.length), some (.int p.top), some (.int p.length), some (.int p.time), some (.tup (p.trips.map wTt)), y5, y6] U = .ok (.lst (p.trips.map wT)) U := fun U => by
    refine mLc_map wTt wT p.trips (by simp) (by decide) (fun t ht => ⟨_, rfl, fun U => ?_⟩) (fun _ _ => rfl) (by omega)
    simp [e_Stairs___init___1, wipeR, wTt, new_TripF]
  have key : m_Stairs___init__ (.loc S.length :: .int p.top :: .int p.length :: .int p.time :: p.trips.map wTt) (S ++ [.ins .Stairs []]) = .ok .non (S ++ [.ins .Stairs [.int p.top, .int p.length, .int p.time, .lst (p.trips.map wT)]]) := by
    refine (if_pos ⟨by simp, by simp; omega⟩ : fnMS _ _ _ _ _ = _).trans ?_
    simp [b_Stairs___init__, run_in ok.t0 ok.t1, run_in ok.l0 ok.l1, run_in ok.m0 ok.m1, e2, e, e3]
  unfold newR
  rw [key]
theorem run_StairsF (ok : p.Ok) : frR S (newR .Stairs m_Stairs___init__ (.int p.top :: .int p.length :: .int p.time :: p.trips.map wTt) S) = .ok (wS p) S := by
  rw [run_Stairs ok rfl]
  refine frR_app (frz_locI at_app0 (Nat.le_refl _) (frzL_cons rfl (frzL_cons rfl (frzL_cons rfl (frzL_cons ?_ frzL_nil)))))
  refine frz_nol _ _ (nol_le (k := 3) ?_ (by omega))
  show (p.trips.map wT).all (nol 2) = true
  rw [List.all_map]
  exact List.all_eq_true.mpr fun _ _ => rfl
end
end SL
set_option Elab.async false
set_option linter.all false
set_option maxRecDepth 100000
set_option maxHeartbeats 2000000
/-! the law's own walking through the ticks -/
namespace SL
open PySem PySem.Spec PyProof.Rows L2
section
variable {p : Pt} {t : Tr} {top length : Int} {S : Sto}
/-! ### ages, found by trying all -/
/-- is the trip's walker so old at this tick -/
def hit (p : Pt) (t : Tr) (tick : Int) (i : Nat) : Bool := decide ((tick - (i : Int) - t.start) % p.length = 0)
end
end SL
set_option Elab.async false
set_option linter.all false
set_option maxRecDepth 100000
set_option maxHeartbeats 2000000
namespace SL
open PySem PySem.Spec PyProof.Rows L2
section
variable {p : Pt} {t : Tr} {top length : Int} {S : Sto}
/-- who walks, how old -/
def walks (p : Pt) (tick : Int) : Nat → List Tr → Prs
  | _, [] => []
  | k, t :: ts => (ages p t tick).map (fun a => ((k : Int), a)) ++ walks p tick (k + 1) ts
end
end SL
set_option Elab.async false
set_option linter.all false
set_option maxRecDepth 100000
set_option maxHeartbeats 2000000
set_option Elab.async false
set_option linter.all false
set_option maxRecDepth 100000
set_option maxHeartbeats 2000000
namespace SL
open PySem PySem.Spec PyProof.Rows L2
section
variable {p : Pt} {t : Tr} {top length : Int} {S : Sto}
theorem inner_cons (time : Int) (t : Tr) (k now : Int) (ps : Prs) (a : Int) (as : List Int) : inner time t k now ps (a :: as) = inner time t k (inner time t k now ps [a]).1 (inner time t k now ps [a]).2 as := by
  simp only [inner]
  cases t.fl a with
  | none => rfl
  | some f => cases t.press now <;> rfl
/-- the law's loop over those who walk -/
def tickF (p : Pt) : Int → Prs → Prs → Int × Prs
  | now, ps, [] => (now, ps)
  | now, ps, q :: r => match p.trips[q.1.toNat]? with
    | none => (now, ps)
    | some t => tickF p (inner p.time t q.1 now ps [q.2]).1 (inner p.time t q.1 now ps [q.2]).2 r
theorem tickF_ages {k : Nat} (h : p.trips[k]? = some t) (r : Prs) : ∀ (as : List Int) (now : Int) (ps : Prs), tickF p now ps (as.map (fun a => ((k : Int), a)) ++ r) = tickF p (inner p.time t k now ps as).1 (inner p.time t k now ps as).2 r
  | [], _, _ => rfl
  | a :: as, now, ps => by
    rw [inner_cons]
    show (match p.trips[((k : Int)).toNat]? with | none => _ | some t => _) = _
    rw [Int.toNat_natCast, h]
    exact tickF_ages h r as _ _
def wkl (p : Pt) (tick : Int) : Nat → List Tr → List Int
  | _, [] => []
  | k, t :: ts => (if (ages p t tick).isEmpty then [] else [(k : Int)]) ++ wkl p tick (k + 1) ts
theorem outer_is (tick : Int) : ∀ (ts : List Tr) (k : Nat) (now : Int) (ps : Prs) (wk : List Int), p.trips.drop k = ts → outer p tick k ts now ps wk = ((tickF p now ps (walks p tick k ts)).1, (tickF p now ps (walks p tick k ts)).2, wk ++ wkl p tick k ts)
  | [], k, now, ps, wk, _ => by simp [outer, walks, tickF, wkl]
  | t :: ts, k, now, ps, wk, hd => by
    have ht : p.trips[k]? = some t := by
      have := congrArg (fun l => l[0]?) hd
      simpa using this
    have hd2 : p.trips.drop (k + 1) = ts := by
      have := congrArg List.tail hd
      simpa using this
    show outer p tick (k + 1) ts _ _ _ = _
    rw [outer_is tick ts (k + 1) _ _ _ hd2]
    show _ = ((tickF p now ps ((ages p t tick).map (fun a => ((k : Int), a)) ++ walks p tick (k + 1) ts)).1, (tickF p now ps ((ages p t tick).map (fun a => ((k : Int), a)) ++ walks p tick (k + 1) ts)).2, wk ++ ((if (ages p t tick).isEmpty then [] else [(k : Int)]) ++ wkl p tick (k + 1) ts))
    rw [tickF_ages ht]
    cases (ages p t tick).isEmpty <;> simp
theorem wkl_mem (tick : Int) : ∀ (ts : List Tr) (k : Nat) (x : Int), (x ∈ wkl p tick k ts ↔ x ∈ (walks p tick k ts).map (·.1)) ∧ (x ∈ wkl p tick k ts → (k : Int) ≤ x)
  | [], _, _ => by simp [wkl, walks]
  | t :: ts, k, x => by
    obtain ⟨h1, h2⟩ := wkl_mem tick ts (k + 1) x
    constructor
    · simp only [wkl, walks, List.mem_append, List.map_append, h1]
      refine or_congr ?_ Iff.rfl
      cases hA : ages p t tick with
      | nil => simp
      | cons a as =>
        simp
        exact fun _ _ h => h.symm
    · intro h
      rcases List.mem_append.mp h with h | h
      · split at h
        · cases h
        · rw [List.mem_singleton.mp h]
          exact Int.le_refl _
      · have := h2 h
        omega
theorem wkl_pw (tick : Int) : ∀ (ts : List Tr) (k : Nat), (wkl p tick k ts).Pairwise (· < ·) ∧ (wkl p tick k ts).length ≤ ts.length
  | [], _ => ⟨.nil, Nat.le_refl _⟩
  | t :: ts, k => by
    obtain ⟨h1, h2⟩ := wkl_pw tick ts (k + 1)
    unfold wkl
    split
    · exact ⟨h1, by simp; omega⟩
    · refine ⟨List.pairwise_cons.mpr ⟨fun y hy => ?_, h1⟩, by simp; omega⟩
      have := (wkl_mem (p := p) tick ts (k + 1) y).2 hy
      omega
def wPr3 (tick : Int) (q : Int × Int) : W := .tup [.int tick, .int q.1, .int q.2]
end
end SL
set_option Elab.async false
set_option linter.all false
set_option maxRecDepth 100000
set_option maxHeartbeats 2000000
namespace SL
open PySem PySem.Spec PyProof.Rows L2
section
variable {p : Pt} {t : Tr} {top length : Int} {S : Sto}
def wTk (tick : Int) (s : Sc) : W := .tup [.int s.light, .lst (s.presses.map (wPr3 tick)), .lst (s.dark.map W.int)]
theorem scene_is (light tick : Int) : scene p light tick = ⟨(tickF p (dim light) [] (walks p tick 0 p.trips)).1, (tickF p (dim light) [] (walks p tick 0 p.trips)).2, if (tickF p (dim light) [] (walks p tick 0 p.trips)).1 = 0 then wkl p tick 0 p.trips else []⟩ := by
  unfold scene
  rw [outer_is tick p.trips 0 (dim light) [] [] rfl]
  simp
end
end SL
set_option Elab.async false
set_option linter.all false
set_option maxRecDepth 100000
set_option maxHeartbeats 2000000
namespace SL
open PySem PySem.Spec PyProof.Rows L2
section
variable {p : Pt} {t : Tr} {top length : Int} {S : Sto}
def wFs : Nat → List Sc → List W
  | _, [] => []
  | k, s :: r => wTk k s :: wFs (k + 1) r
end
end SL
set_option Elab.async false
set_option linter.all false
set_option maxRecDepth 100000
set_option maxHeartbeats 2000000
namespace SL
open PySem PySem.Spec PyProof.Rows L2
section
variable {p : Pt} {t : Tr} {top length : Int} {S : Sto}
theorem run_l_made (ok : p.Ok) : frR S (m_l_made [wP p] S) = .ok (wS p) S := by
  have ok0 : (⟨p.top, p.length, p.time, []⟩ : Pt).Ok := ⟨ok.t0, ok.t1, ok.l0, ok.l1, ok.m0, ok.m1, by simp, by simp⟩
  have e1 : ∀ U, frR U (newR .Stairs m_Stairs___init__ [.int p.top, .int p.length, .int p.time] U) = .ok (wS ⟨p.top, p.length, p.time, []⟩) U := fun U => run_StairsF ok0
  have e2 : ∀ U, frR U (newR .Stairs m_Stairs___init__ (.int p.top :: .int p.length :: .int p.time :: p.trips.map wTt) U) = .ok (wS p) U := fun U => run_StairsF ok
  have e3 : ∀ U, m_Stairs_with_trips [wS ⟨p.top, p.length, p.time, []⟩, .lst (p.trips.map wTt)] U = .ok (wS p) U := fun U => by
    refine (fnM_ev rfl).trans ?_
    simp -implicitDefEqProofs [b_Stairs_with_trips, e2]
  have e4 : ∀ U, frR U (.ok (wS p) U) = .ok (wS p) U := fun U => frR_nols (nol_le nol_wS (by omega))
  have key : m_l_made [wP p] S = .ok (wS p) S := by
    refine (fnM_ev rfl).trans ?_
    simp -implicitDefEqProofs [b_l_made, wP, e1, e3, e4]
  rw [key, e4]
end
end SL
set_option Elab.async false
set_option linter.all false
set_option maxRecDepth 100000
set_option maxHeartbeats 2000000
set_option Elab.async false
set_option linter.all false
set_option maxRecDepth 100000
set_option maxHeartbeats 2000000
/-! bright times (k06, k07, k31 ..) -/
namespace SL
open PySem PySem.Spec PyProof.Rows L2
def withTime (p : Pt) (x : Int) : Pt := ⟨p.top, p.length, x, p.trips⟩
theorem withTime_ok {p : Pt} (ok : p.Ok) {x : Int} (h0 : 1 ≤ x) (h1 : x ≤ 60) : (withTime p x).Ok := ⟨ok.t0, ok.t1, ok.l0, ok.l1, h0, h1, ok.n, ok.ok⟩
def bright (p : Pt) : Bool := (story p).1.all fun s => s.dark.isEmpty
section
variable {p : Pt} {S : Sto}
theorem opEq_nil {w : W} {xs : List W} {ds : List PyData} (h : getL S w = some xs) (hd : dats xs = some ds) (hs : SeqAt.shaped (.list ds) = true) : opEq w (.lst []) S = .ok (.bl xs.isEmpty) S := by
  have e := opNe_nil h hd hs
  unfold opNe at e
  unfold opEq
  split at e
  · rename_i d d2 h1 h2
    split at e
    · rename_i h3
      rw [if_pos h3]
      have e2 : (!PyData.eqv d d2) = !xs.isEmpty := by
        injection e with e3
        injection e3
      rw [show PyData.eqv d d2 = xs.isEmpty by cases hx : PyData.eqv d d2 <;> cases hy : xs.isEmpty <;> simp_all]
    · cases e
  · cases e
theorem opEq_ints {w : W} {ns : List Int} (h : getL S w = some (ns.map W.int)) : opEq w (.lst []) S = .ok (.bl ns.isEmpty) S := by
  rw [opEq_nil h (dats_ints ns) (shaped_ints ns)]
  cases ns <;> rfl
theorem bAll_map {α : Type} (as : List α) (g : α → Bool) : bAll [.lst (as.map fun a => W.bl (g a))] S = .ok (.bl (as.all g)) S := by
  have h1 : ∀ l : List α, blsOf (l.map fun a => W.bl (g a)) = some (l.map g) := fun l => by
    induction l with
    | nil => rfl
    | cons x l ih => simp [blsOf, ih]
  show (match getL S (.lst (as.map fun a => W.bl (g a))) with | some xs => (match blsOf xs with | some bs => Res.ok (W.bl (bs.all id)) S | none => .stuck) | none => .stuck) = _
  rw [getL_lst]
  dsimp only
  rw [h1]
  dsimp only
  rw [List.all_map]
  rfl
theorem run_is_bright (ok : p.Ok) : m_is_bright [wS p] S = .ok (.bl (bright p)) S := by
  have hlen := story_len ok
  have e1 : ∀ U, frR U (newR .Story m_Story___init__ [wS p] U) = .ok (.obj .Story [.lst ((story p).1.map wSc), .int (story p).2]) U := fun U => run_Story2 ok
  have e3 : ∀ U xs y, fld .Story .scenes (.obj .Story [.lst xs, y]) U = .ok (.lst xs) U := fun U xs y => rfl
  have e4 : ∀ U, mLc [1] (.n 1) (iL (mFld .Story .scenes (mFr (mCall (newR .Story m_Story___init__) (mCons (mVar 0) mNil))))) mYes e_is_bright_1 [some (wS p), none] U = .ok (.lst ((story p).1.map fun s => W.bl s.dark.isEmpty)) U := fun U => by
    refine mLc_map wSc (fun s => .bl s.dark.isEmpty) (story p).1 (by simp -implicitDefEqProofs [e1, e3]) (by decide) (fun s hs => ⟨_, rfl, fun U => ?_⟩) (fun _ _ => rfl) (by omega)
    have e5 : opEq (.lst (s.dark.map W.int)) (.lst []) U = .ok (.bl s.dark.isEmpty) U := opEq_ints rfl
    simp -implicitDefEqProofs [e_is_bright_1, wipeR, e5]
  refine (fnM_ev rfl).trans ?_
  simp -implicitDefEqProofs [b_is_bright, e4, bAll_map, bright]
theorem run_parts_of {t : Tr} : m_Trip_parts [wT t] S = .ok (wTt t) S := by
  refine (fnM_ev rfl).trans ?_
  simp -implicitDefEqProofs [b_Trip_parts, wTt]
theorem run_all_trips (ok : p.Ok) : m_Stairs_all_trips [wS p] S = .ok (.tup (p.trips.map wTt)) S := by
  have hn := ok.n
  have e4 : ∀ U, mLc [1] (.n 1) (iL (mFld .Stairs .trips (mVar 0))) mYes e_Stairs_all_trips_1 [some (wS p), none] U = .ok (.lst (p.trips.map wTt)) U := fun U => by
    refine mLc_map wT wTt p.trips (by simp) (by decide) (fun t ht => ⟨_, rfl, fun U => ?_⟩) (fun _ _ => nol_le nol_wTt (by omega)) (by omega)
    have e5 : frR U (.ok (wTt t) U) = .ok (wTt t) U := frR_nols (nol_le nol_wTt (by omega))
    simp -implicitDefEqProofs [e_Stairs_all_trips_1, wipeR, run_parts_of, e5]
  refine (fnM_ev rfl).trans ?_
  simp -implicitDefEqProofs [b_Stairs_all_trips, e4]
theorem run_with_time (ok : p.Ok) {x : Int} (h0 : 1 ≤ x) (h1 : x ≤ 60) : frR S (m_Stairs_with_time [wS p, .int x] S) = .ok (wS (withTime p x)) S := by
  have e2 : ∀ U, frR U (newR .Stairs m_Stairs___init__ (.int p.top :: .int p.length :: .int x :: p.trips.map wTt) U) = .ok (wS (withTime p x)) U := fun U => run_StairsF (withTime_ok ok h0 h1)
  have e3 : ∀ U, frR U (.ok (.tup (p.trips.map wTt)) U) = .ok (.tup (p.trips.map wTt)) U := fun U => frR_nols (by
    show (p.trips.map wTt).all (nol 15) = true
    rw [List.all_map]
    exact List.all_eq_true.mpr fun t _ => nol_le nol_wTt (by omega))
  have key : m_Stairs_with_time [wS p, .int x] S = .ok (wS (withTime p x)) S := by
    refine (fnM_ev rfl).trans ?_
    simp -implicitDefEqProofs [b_Stairs_with_time, run_all_trips ok, e3, e2]
  rw [key]
  exact frR_nols (nol_le nol_wS (by omega))
end
end SL
set_option Elab.async false
set_option linter.all false
set_option maxRecDepth 100000
set_option maxHeartbeats 2000000
namespace SL
open PySem PySem.Spec PyProof.Rows L2
theorem rand_loop {S : Sto} {x0 x1 : Option W} : ∀ (ns : List Int) (seed : Int) (x3 : Option W), 0 ≤ seed → ∃ s' y3, 0 ≤ s' ∧ sForL (.n 3) f_l_random_1 (ns.map W.int) [x0, x1, some (.int seed), x3] S = .ok (.nx [x0, x1, some (.int s'), y3]) S
  | [], seed, x3, h => ⟨seed, x3, h, rfl⟩
  | n :: ns, seed, x3, h => by
    have e3 : mulOk seed 31 = true := mulOk_r (by decide) (by decide)
    have hm : 0 ≤ (seed * 31 + (if n < 0 then -n else n)) % 2147483647 := Int.emod_nonneg _ (by decide)
    obtain ⟨s', y3, h', e⟩ := rand_loop (S := S) (x0 := x0) (x1 := x1) ns _ (some (.int n)) hm
    refine ⟨s', y3, h', ?_⟩
    have hb : f_l_random_1 [x0, x1, some (.int seed), some (.int n)] S = .ok (.nx [x0, x1, some (.int ((seed * 31 + (if n < 0 then -n else n)) % 2147483647)), some (.int n)]) S := by
      simp -implicitDefEqProofs [f_l_random_1, e3]
    rw [List.map_cons, sForL_nx (r1 := _) rfl hb, e]
theorem run_random (ns : List Int) (hn : ns.length ≤ 63) (salt : Int) (h0 : 0 ≤ salt) : ∃ D, Dr D ∧ m_l_random [.scr ns, .int salt] [] = .ok (.loc 0) (dst D []) := by
  obtain ⟨s', y3, h', e⟩ := rand_loop (S := []) (x0 := some (.scr ns)) (x1 := some (.int salt)) ns salt none h0
  refine ⟨s' :: 0 :: ns.filter (fun x => decide ((10 : Int) ^ (18 : Int).toNat ≤ x)), ⟨s', 0, _, rfl, h', Int.le_refl _, fun x hx => ?_⟩, ?_⟩
  · have := of_decide_eq_true (List.mem_filter.mp hx).2
    have h10 : (0 : Int) ≤ (10 : Int) ^ (18 : Int).toNat := by decide
    omega
  · have hl : mLc [3] (.n 3) (iL (mVar 0)) i_l_random_1 e_l_random_1 [some (.scr ns), some (.int salt), some (.int s'), y3] [] = .ok (.lst ((ns.filter (fun x => decide ((10 : Int) ^ (18 : Int).toNat ≤ x))).map W.int)) [] := by
      refine mLc_if W.int W.int (fun x => decide ((10 : Int) ^ (18 : Int).toNat ≤ x)) ns (by simp) (by decide) (fun x hx => ⟨_, rfl, fun U => ?_, fun _ U => ?_⟩) (fun _ _ _ => rfl) (by omega)
      · simp -implicitDefEqProofs [i_l_random_1, wipeR, -Int.reduceToNat, -Int.reducePow]
      · simp [e_l_random_1, wipeR]
    have hfl : (ns.filter (fun x => decide ((10 : Int) ^ (18 : Int).toNat ≤ x))).length ≤ 63 := Nat.le_trans (List.length_filter_le _ _) hn
    have ha := opAddC_lst (S := []) (xs := [.int s', .int 0]) (ys := (ns.filter (fun x => decide ((10 : Int) ^ (18 : Int).toNat ≤ x))).map W.int) (by rw [List.length_map]; simp only [List.length_cons, List.length_nil]; omega)
    refine (fnM_ev rfl).trans ?_
    simp -implicitDefEqProofs [b_l_random, e, hl, ha, dst, -Int.reduceToNat, -Int.reducePow]
end SL
set_option Elab.async false
set_option linter.all false
set_option maxRecDepth 100000
set_option maxHeartbeats 2000000
/-! texts of staircases -/
namespace SL
open PySem PySem.Spec PyProof.Rows L2
def num (n : Int) : Str := ((toString n : String) : Str)
end SL
set_option Elab.async false
set_option linter.all false
set_option maxRecDepth 100000
set_option maxHeartbeats 0
set_option Elab.async false
set_option linter.all false
set_option maxRecDepth 100000
set_option maxHeartbeats 0
set_option Elab.async false
set_option linter.all false
set_option maxRecDepth 100000
set_option maxHeartbeats 2000000
namespace SL
open PySem PySem.Spec PyProof.Rows L2
theorem mLcC_if {α : Type} (i j : α → W) (g : α → Bool) {vs : List Nat} {T : Tg} {mi : M (List W)} {tt : M Bool} {te : M W} {r : Rho} {S S1 : Sto} (as : List α) (hm : mi r S = .ok (as.map i) S1) (hv : T.slots.all vs.contains = true)
    (h : ∀ a ∈ as, ∃ r1, T.run (i a) (wipeR r vs) = some r1 ∧ (∀ U, tt r1 U = .ok (g a) U) ∧ (g a = true → ∀ U, te r1 U = .ok (j a) U)) (hl : as.length ≤ 16000000) :
    mLcC vs T mi tt te r S = .ok (.loc S1.length) (S1 ++ [.lst ((as.filter g).map j)]) := by
  have e := lcGo_map i j g (S := S1) as [] h (by simpa using hl)
  unfold mLcC
  rw [bind_ev]
  have e2 : lcAll vs T mi tt te r S = .ok S1.length (S1 ++ [.lst ((as.filter g).map j)]) := by
    unfold lcAll
    rw [hm]
    dsimp only
    rw [if_pos hv, e]
    rfl
  rw [e2]
  rfl
/-- lo, .., hi - 1 -/
def seqI (lo : Int) (n : Nat) : List Int := (List.range n).map fun (i : Nat) => lo + (i : Int)
theorem rngW_seqI (lo : Int) (n : Nat) : rngW lo 1 n = (seqI lo n).map W.int := by
  unfold rngW seqI
  rw [List.map_map]
  refine List.map_congr_left fun i _ => ?_
  simp
theorem itR2_ev {S : Sto} {i j : Int} (h : -(2 ^ 62) ≤ i) (h2 : i < 2 ^ 62) (h3 : -(2 ^ 62) ≤ j) (h4 : j < 2 ^ 62) : itR2 [.int i, .int j] S = .ok (rngW i 1 (j - i).toNat) S := if_pos ⟨h, h2, h3, h4⟩
def times : List Int := seqI 1 60
theorem itR2_times {S : Sto} : itR2 [.int 1, .int 61] S = .ok (times.map W.int) S := by
  have h : ∀ i j : Int, i = 1 → j = 61 → itR2 [.int i, .int j] S = .ok (times.map W.int) S := fun i j hi hj => by
    rw [itR2_ev (by omega) (by omega) (by omega) (by omega), hi, hj, rngW_seqI]
    rfl
  exact h 1 61 rfl rfl
theorem times_range {x : Int} (h : x ∈ times) : 1 ≤ x ∧ x ≤ 60 := by
  unfold times seqI at h
  obtain ⟨i, hi, rfl⟩ := List.mem_map.mp h
  have := List.mem_range.mp hi
  omega
section
variable {p : Pt} {S : Sto}
def brightTimes (p : Pt) : List Int := times.filter fun x => bright (withTime p x)
theorem run_bright_times (ok : p.Ok) : m_bright_times [wS p] S = .ok (.loc S.length) (S ++ [.lst ((brightTimes p).map W.int)]) := by
  have e4 : ∀ U, mLcC [1] (.n 1) (iR2 (mCons (mC (.int 1)) (mCons (mOp opAdd (mC (.int 60)) (mC (.int 1))) mNil))) i_bright_times_1 e_bright_times_1 [some (wS p), none] U = .ok (.loc U.length) (U ++ [.lst ((brightTimes p).map W.int)]) := fun U => by
    have hi : iR2 (mCons (mC (.int 1)) (mCons (mOp opAdd (mC (.int 60)) (mC (.int 1))) mNil)) [some (wS p), none] U = .ok (times.map W.int) U := by
      rw [iR2_ev, mCons_ev, mC_ev, bd_ok, mCons_ev, mOp_ev, mC_ev, bd_ok, mC_ev, bd_ok, opAdd_int, bd_ok, mNil_ev, bd_ok, bd_ok, bd_ok]
      exact itR2_times
    refine mLcC_if W.int W.int (fun x => bright (withTime p x)) times hi (by decide) (fun x hx => ⟨_, rfl, fun U => ?_, fun _ U => ?_⟩) (by decide)
    · obtain ⟨h0, h1⟩ := times_range hx
      have e5 : ∀ V, frR V (m_Stairs_with_time [wS p, .int x] V) = .ok (wS (withTime p x)) V := fun V => run_with_time ok h0 h1
      simp -implicitDefEqProofs [i_bright_times_1, wipeR, e5, run_is_bright (withTime_ok ok h0 h1)]
    · simp [e_bright_times_1, wipeR]
  refine (fnM_ev rfl).trans ?_
  simp -implicitDefEqProofs [b_bright_times, e4]
end
end SL
set_option Elab.async false
set_option linter.all false
set_option maxRecDepth 100000
set_option maxHeartbeats 2000000
namespace SL
open PySem PySem.Spec PyProof.Rows L2
theorem snGet_mem {s : Sn} {k : Int × Int} {i : Int} (h : snGet s k = some i) : ∃ q ∈ s, q.2 = i := by
  unfold snGet at h
  obtain ⟨q, h1, h2⟩ := Option.map_eq_some_iff.mp h
  exact ⟨q, List.mem_of_find?_eq_some h1, h2⟩
theorem cycN_start {p : Pt} : ∀ (n : Nat) (found : List Sc) (light : Int) (seen : Sn) (r : List Sc × Int), (∀ q ∈ seen, 0 ≤ q.2 ∧ q.2 < found.length) → cycN p n found light seen = some r → 0 ≤ r.2 ∧ r.2 < r.1.length
  | 0, _, _, _, _, _, h => by cases h
  | n + 1, found, light, seen, r, hs, h => by
    unfold cycN at h
    split at h
    · split at h
      · rename_i s hg
        cases h
        obtain ⟨q, hq, rfl⟩ := snGet_mem hg
        exact hs q hq
      · refine cycN_start n _ _ _ r (fun q hq => ?_) h
        rw [List.length_append, List.length_singleton]
        rcases List.mem_append.mp hq with hq | hq
        · have := hs q hq
          omega
        · rw [List.mem_singleton.mp hq]
          dsimp only
          omega
    · refine cycN_start n _ _ _ r (fun q hq => ?_) h
      rw [List.length_append, List.length_singleton]
      have := hs q hq
      omega
theorem story_start {p : Pt} (ok : p.Ok) : 0 ≤ (story p).2 ∧ (story p).2 < (story p).1.length := cycN_start 3000 [] 0 [] _ (by simp) (story_is ok)
theorem cut_from {α : Type} (xs : List α) {k : Int} (h0 : 0 ≤ k) (h1 : k ≤ xs.length) : cutX xs (some k) none = xs.drop k.toNat := by
  unfold cutX
  have e1 : HT.sIx xs.length 0 (some k) = k.toNat := by
    show (if k < 0 then (k + (xs.length : Int)).toNat else min k.toNat xs.length) = _
    rw [if_neg (by omega)]
    omega
  have e2 : HT.sIx xs.length xs.length none = xs.length := rfl
  rw [e1, e2, List.take_of_length_le (by rw [List.length_drop]; omega)]
section
variable {p : Pt} {S : Sto}
/-- the cycle's part of a story -/
def late (p : Pt) : List Sc := (story p).1.drop (story p).2.toNat
def lit (p : Pt) : Nat := ((late p).filter fun s => decide (0 < s.light)).length
theorem late_len (ok : p.Ok) : ((late p).length : Int) = (story p).1.length - (story p).2 := by
  have := story_start ok
  unfold late
  rw [List.length_drop]
  omega
theorem size_run (ok : p.Ok) : m_Story_size [.obj .Story [.lst ((story p).1.map wSc), .int (story p).2]] S = .ok (.int ((late p).length : Int)) S := by
  refine (fnM_ev rfl).trans ?_
  rw [late_len ok]
  simp -implicitDefEqProofs [b_Story_size, fld_ev]
end
end SL
set_option Elab.async false
set_option linter.all false
set_option maxRecDepth 100000
set_option maxHeartbeats 2000000
/-! scenes at any tick; comparing two staircases -/
namespace SL
open PySem PySem.Spec PyProof.Rows L2
def plc (n : Nat) (s : Int) (tick : Int) : Int := if tick < n then tick else s + (tick - s) % (n - s)
theorem plc_range {n : Nat} {s tick : Int} (h0 : 0 ≤ s) (h1 : s < n) (ht : 0 ≤ tick) : 0 ≤ plc n s tick ∧ plc n s tick < n := by
  unfold plc
  have a := Int.emod_nonneg (tick - s) (b := (n : Int) - s) (by omega)
  have b := Int.emod_lt_of_pos (tick - s) (b := (n : Int) - s) (by omega)
  split <;> omega
/-- the scene of a tick -/
def scn (p : Pt) (tick : Int) : Sc := ((story p).1[(plc (story p).1.length (story p).2 tick).toNat]?).getD ⟨0, [], []⟩
def burn (p : Pt) (tick : Int) : Bool := decide (0 < (scn p tick).light)
def wSy (p : Pt) : W := .obj .Story [.lst ((story p).1.map wSc), .int (story p).2]
theorem nol_wSc {s : Sc} : nol 6 (wSc s) = true := by
  show ([W.int s.light, .lst (s.presses.map wPr), .lst (s.dark.map W.int)].all (nol 5)) = true
  have a1 : (s.presses.map wPr).all (nol 4) = true := by rw [List.all_map]; exact List.all_eq_true.mpr fun _ _ => rfl
  have a2 : (s.dark.map W.int).all (nol 4) = true := by rw [List.all_map]; exact List.all_eq_true.mpr fun _ _ => rfl
  show (true && ((s.presses.map wPr).all (nol 4) && ((s.dark.map W.int).all (nol 4) && true))) = true
  rw [a1, a2]
  rfl
section
variable {p q : Pt} {S : Sto}
@[simp] theorem fld_wSy_scenes : fld .Story .scenes (wSy p) S = .ok (.lst ((story p).1.map wSc)) S := rfl
@[simp] theorem fld_wSy_start : fld .Story .start (wSy p) S = .ok (.int (story p).2) S := rfl
@[simp] theorem getO_wSy : getO .Story S (wSy p) = some [.lst ((story p).1.map wSc), .int (story p).2] := rfl
theorem new_wSy (ok : p.Ok) : frR S (newR .Story m_Story___init__ [wS p] S) = .ok (wSy p) S := run_Story2 ok
theorem size_wSy (ok : p.Ok) : frR S (noX (m_Story_size [wSy p] S)) = .ok (.int ((late p).length : Int)) S := by
  unfold wSy
  rw [size_run ok, noX_ok, frR_int]
theorem plc_at (ok : p.Ok) {tick : Int} (ht : 0 ≤ tick) : (story p).1[(plc (story p).1.length (story p).2 tick).toNat]? = some (scn p tick) := by
  have hs := story_start ok
  have hp := plc_range hs.1 hs.2 ht
  have hl : (plc (story p).1.length (story p).2 tick).toNat < (story p).1.length := by omega
  unfold scn
  rw [List.getElem?_eq_getElem hl]
  rfl
theorem run_sceneAt (ok : p.Ok) {tick : Int} (ht : 0 ≤ tick) : frR S (m_Story_scene [wSy p, .int tick] S) = .ok (wSc (scn p tick)) S := by
  have hs := story_start ok
  have hp := plc_range hs.1 hs.2 ht
  have ha := plc_at ok ht
  have hsz := late_len ok
  have e1 : ∀ U, frR U (noX (m_Story_size [wSy p] U)) = .ok (.int ((late p).length : Int)) U := fun U => size_wSy ok
  have ep : plc (story p).1.length (story p).2 tick = (((plc (story p).1.length (story p).2 tick).toNat : Nat) : Int) := by omega
  have e2 : ∀ U, opIx (.lst ((story p).1.map wSc)) (.int (plc (story p).1.length (story p).2 tick)) U = .ok (wSc (scn p tick)) U := fun U => by
    rw [opIx_lst, ep, atI_nat, List.getElem?_map, ha]
    rfl
  have key : m_Story_scene [wSy p, .int tick] S = .ok (wSc (scn p tick)) S := by
    refine (fnM_ev rfl).trans ?_
    have h0 : decide (0 < (late p).length) = true := decide_eq_true (by omega)
    by_cases h : tick < (story p).1.length
    · have : plc (story p).1.length (story p).2 tick = tick := if_pos h
      rw [this] at e2
      simp -implicitDefEqProofs [b_Story_scene, h, e2, -opIx_lst]
    · have : plc (story p).1.length (story p).2 tick = (story p).2 + (tick - (story p).2) % ((late p).length : Int) := by rw [hsz]; exact if_neg h
      rw [this] at e2
      simp -implicitDefEqProofs [b_Story_scene, h, e1, h0, e2, -opIx_lst]
  rw [key]
  exact frR_nols (nol_le nol_wSc (by omega))
/-! ### the least common multiple -/
def mulF : Nat → Int → Int → Int → Option Int
  | 0, _, _, _ => none
  | n + 1, a, b, m => if m % b = 0 then some m else mulF n a b (m + a)
theorem mulF_ex {a b : Int} (ha : 0 < a) (hb : 0 < b) : ∀ (n : Nat) (k : Int), 1 ≤ k → k ≤ b → b - k < n → ∃ r, mulF n a b (k * a) = some r ∧ 0 < r ∧ r ≤ b * a
  | 0, k, _, _, h => by omega
  | n + 1, k, h1, h2, h3 => by
    unfold mulF
    by_cases h : k * a % b = 0
    · rw [if_pos h]
      exact ⟨_, rfl, Int.mul_pos (by omega) ha, Int.mul_le_mul_of_nonneg_right h2 (by omega)⟩
    · rw [if_neg h]
      have hk : k ≠ b := fun e => h (by rw [e]; exact Int.mul_emod_right _ _)
      obtain ⟨r, e, h4⟩ := mulF_ex ha hb n (k + 1) (by omega) (by omega) (by omega)
      rw [Int.add_mul, Int.one_mul] at e
      exact ⟨r, e, h4⟩
/-- the least common multiple, as it is found -/
def lcmF (a b : Int) : Int := (mulF (b.toNat + 1) a b a).getD 0
theorem lcmF_is {a b : Int} (ha : 0 < a) (hb : 0 < b) : mulF (b.toNat + 1) a b a = some (lcmF a b) ∧ 0 < lcmF a b ∧ lcmF a b ≤ b * a := by
  obtain ⟨r, e, h⟩ := mulF_ex ha hb (b.toNat + 1) 1 (by omega) (by omega) (by omega)
  rw [Int.one_mul] at e
  unfold lcmF
  rw [e]
  exact ⟨rfl, h⟩
theorem div_mod_iff {m b : Int} (hb : 0 < b) : m / b * b = m ↔ m % b = 0 := by
  have := Int.emod_add_mul_ediv m b
  rw [Int.mul_comm] at this
  constructor <;> intro h <;> omega
theorem common_loop {a b : Int} (hb : 0 < b) (hb2 : b < 100000) : ∀ (n : Nat) (m r : Int), mulF n a b m = some r →
    sWhileN t_common_multiple_1 f_common_multiple_1 n [some (.int a), some (.int b), some (.int m)] S = .ok (.nx [some (.int a), some (.int b), some (.int r)]) S
  | 0, _, _, h => by cases h
  | n + 1, m, r, h => by
    have h1 : decide (0 < b ∧ b < 1073741824) = true := decide_eq_true ⟨hb, by omega⟩
    have h2 : ∀ i : Int, mulOk i b = true := fun i => mulOk_r (by omega) (by omega)
    have ht : t_common_multiple_1 [some (.int a), some (.int b), some (.int m)] S = .ok (!decide (m % b = 0)) S := by
      have e : decide (m / b * b = m) = decide (m % b = 0) := decide_eq_decide.mpr (div_mod_iff hb)
      simp -implicitDefEqProofs [t_common_multiple_1, h1, h2, e]
    unfold mulF at h
    unfold sWhileN
    rw [ht]
    by_cases hm : m % b = 0
    · rw [if_pos hm] at h
      cases h
      rw [decide_eq_true hm]
      rfl
    · rw [if_neg hm] at h
      rw [decide_eq_false hm]
      have hb : f_common_multiple_1 [some (.int a), some (.int b), some (.int m)] S = .ok (.nx [some (.int a), some (.int b), some (.int (m + a))]) S := by
        simp -implicitDefEqProofs [f_common_multiple_1]
      show (match f_common_multiple_1 [some (.int a), some (.int b), some (.int m)] S with | .ok (.nx r2) S2 => sWhileN t_common_multiple_1 f_common_multiple_1 n r2 S2 | .ok (.ct r2) S2 => sWhileN t_common_multiple_1 f_common_multiple_1 n r2 S2 | .ok (.bk r2) S2 => .ok (.nx r2) S2 | .ok (.rt w) S2 => .ok (.rt w) S2 | .exc c ws S2 => .exc c ws S2 | .stuck => .stuck) = _
      rw [hb]
      exact common_loop (by assumption) hb2 n (m + a) r h
theorem run_common {a b : Int} (ha : 0 < a) (hb : 0 < b) (hb2 : b < 100000) : frR S (m_common_multiple [.int a, .int b] S) = .ok (.int (lcmF a b)) S := by
  have e := sWhile_is (common_loop (S := S) hb hb2 _ _ _ (lcmF_is ha hb).1) (by simp)
  have key : m_common_multiple [.int a, .int b] S = .ok (.int (lcmF a b)) S := by
    refine (fnM_ev rfl).trans ?_
    simp -implicitDefEqProofs [b_common_multiple, e]
  rw [key, frR_int]
/-! ### the first difference -/
def fdN (p q : Pt) : List Nat → Option (Nat × Bool)
  | [] => none
  | t :: ts => if burn p t != burn q t then some (t, burn p t) else fdN p q ts
def fdW : Option (Nat × Bool) → W
  | none => .non
  | some (t, b) => .tup [.int (t : Nat), .bl b]
def span (p q : Pt) : Int := (if (story q).2 > (story p).2 then (story q).2 else (story p).2) + lcmF (late p).length (late q).length
def firstDiff (p q : Pt) : Option (Nat × Bool) := fdN p q (List.range (span p q).toNat)
theorem diff_loop (okp : p.Ok) (okq : q.Ok) (x0 x1 : Option W) : ∀ (ts : List Nat) (x4 x5 : Option W), match fdN p q ts with
    | none => ∃ y4 y5, sForL (.n 4) f_first_difference_1 (ts.map fun (t : Nat) => W.int (t : Int)) [x0, x1, some (wSy p), some (wSy q), x4, x5] S = .ok (.nx [x0, x1, some (wSy p), some (wSy q), y4, y5]) S
    | some r => sForL (.n 4) f_first_difference_1 (ts.map fun (t : Nat) => W.int (t : Int)) [x0, x1, some (wSy p), some (wSy q), x4, x5] S = .ok (.rt (fdW (some r))) S
  | [], x4, x5 => ⟨x4, x5, rfl⟩
  | t :: ts, x4, x5 => by
    have e1 : ∀ U, frR U (m_Story_scene [wSy p, .int (t : Int)] U) = .ok (wSc (scn p t)) U := fun U => run_sceneAt okp (by omega)
    have e2 : ∀ U, frR U (m_Story_scene [wSy q, .int (t : Int)] U) = .ok (wSc (scn q t)) U := fun U => run_sceneAt okq (by omega)
    have b1 : decide (0 < (scn p t).light) = burn p t := rfl
    have b2 : decide (0 < (scn q t).light) = burn q t := rfl
    unfold fdN
    cases hb : (burn p t != burn q t) with
    | true =>
      rw [if_pos rfl]
      have hbb : f_first_difference_1 [x0, x1, some (wSy p), some (wSy q), some (.int (t : Int)), x5] S = .ok (.rt (fdW (some (t, burn p t)))) S := by
        have hb' : (burn p t == burn q t) = false := by simpa using hb
        simp -implicitDefEqProofs [f_first_difference_1, e1, e2, b1, b2, hb', fdW]
      exact sForL_rt (r1 := _) rfl hbb
    | false =>
      rw [if_neg (by simp)]
      have hbb : f_first_difference_1 [x0, x1, some (wSy p), some (wSy q), some (.int (t : Int)), x5] S = .ok (.nx [x0, x1, some (wSy p), some (wSy q), some (.int (t : Int)), some (.bl (burn p t))]) S := by
        have hb' : (burn p t == burn q t) = true := by simpa using hb
        simp -implicitDefEqProofs [f_first_difference_1, e1, e2, b1, b2, hb']
      have ih := diff_loop okp okq x0 x1 ts (some (.int (t : Int))) (some (.bl (burn p t)))
      rw [List.map_cons, sForL_nx (r1 := _) rfl hbb]
      exact ih
theorem late_pos (ok : p.Ok) : 0 < (late p).length := by
  have := late_len ok
  have := story_start ok
  omega
theorem span_range (okp : p.Ok) (okq : q.Ok) : 0 ≤ span p q ∧ span p q < 20000000 := by
  have h1 := story_start okp
  have h2 := story_start okq
  have l1 := story_len okp
  have l2 := story_len okq
  have p1 := late_pos okp
  have p2 := late_pos okq
  have k1 := late_len okp
  have k2 := late_len okq
  obtain ⟨_, a, b⟩ := lcmF_is (a := (late p).length) (b := (late q).length) (by omega) (by omega)
  have : ((late q).length : Int) * ((late p).length : Int) ≤ 3000 * 3000 := Int.mul_le_mul (by omega) (by omega) (by omega) (by omega)
  unfold span
  split <;> omega
theorem run_first_difference (okp : p.Ok) (okq : q.Ok) : frR S (m_first_difference [wS p, wS q] S) = .ok (fdW (firstDiff p q)) S := by
  have n1 : ∀ U, frR U (newR .Story m_Story___init__ [wS p] U) = .ok (wSy p) U := fun U => new_wSy okp
  have n2 : ∀ U, frR U (newR .Story m_Story___init__ [wS q] U) = .ok (wSy q) U := fun U => new_wSy okq
  have z1 : ∀ U, frR U (noX (m_Story_size [wSy p] U)) = .ok (.int ((late p).length : Int)) U := fun U => size_wSy okp
  have z2 : ∀ U, frR U (noX (m_Story_size [wSy q] U)) = .ok (.int ((late q).length : Int)) U := fun U => size_wSy okq
  have p1 := late_pos okp
  have p2 := late_pos okq
  have k2 := late_len okq
  have l2 := story_len okq
  have s2 := story_start okq
  have c1 : ∀ U, frR U (m_common_multiple [.int ((late p).length : Int), .int ((late q).length : Int)] U) = .ok (.int (lcmF (late p).length (late q).length)) U := fun U => run_common (by omega) (by omega) (by omega)
  have sr := span_range okp okq
  have hsp : (if (story q).2 > (story p).2 then (story q).2 else (story p).2) + lcmF (late p).length (late q).length = span p q := rfl
  have r1 : ∀ U, itR1 [.int (span p q)] U = .ok ((List.range (span p q).toNat).map fun (t : Nat) => W.int (t : Int)) U := fun U => by
    have : itR1 [.int (span p q)] U = .ok (rngW 0 1 (span p q).toNat) U := if_pos (by omega)
    rw [this]
    unfold rngW
    congr 1
    refine List.map_congr_left fun i _ => ?_
    simp
  have h := diff_loop (S := S) okp okq (some (wS p)) (some (wS q)) (List.range (span p q).toNat) none none
  have key : m_first_difference [wS p, wS q] S = .ok (fdW (firstDiff p q)) S := by
    refine (fnM_ev rfl).trans ?_
    unfold firstDiff
    cases hf : fdN p q (List.range (span p q).toNat) with
    | none =>
      rw [hf] at h
      obtain ⟨y4, y5, e⟩ := h
      simp -implicitDefEqProofs [b_first_difference, n1, n2, z1, z2, c1, hsp, r1, e, fdW]
    | some r =>
      rw [hf] at h
      dsimp only at h
      simp -implicitDefEqProofs [b_first_difference, n1, n2, z1, z2, c1, hsp, r1, h]
  rw [key]
  refine frR_nols ?_
  cases firstDiff p q with
  | none => rfl
  | some r => rfl
end
end SL
set_option Elab.async false
set_option linter.all false
set_option maxRecDepth 100000
set_option maxHeartbeats 2000000
set_option Elab.async false
set_option linter.all false
set_option maxRecDepth 100000
set_option maxHeartbeats 0
set_option Elab.async false
set_option linter.all false
set_option maxRecDepth 100000
set_option maxHeartbeats 2000000
namespace SL
open PySem PySem.Spec PyProof.Rows L2
section
variable {p : Pt} {S : Sto}
theorem opCut_lst {xs : List W} {lo hi : Option Int} : opCut lo hi (.lst xs) S = .ok (.lst (cutX xs lo hi)) S := rfl
end
end SL
set_option Elab.async false
set_option linter.all false
set_option maxRecDepth 100000
set_option maxHeartbeats 2000000
set_option Elab.async false
set_option linter.all false
set_option maxRecDepth 100000
set_option maxHeartbeats 2000000
namespace SL
open PySem PySem.Spec PyProof.Rows L2
/-- a datum that can be compared, not deeper than n -/
def okD (n : Nat) (d : PyData) : Prop := d.canLay0 = true ∧ d.depth ≤ n
theorem okD_list {n : Nat} : ∀ {ds : List PyData}, (∀ d ∈ ds, okD n d) → PyData.canLayAll0 ds = true ∧ PyData.depthAll ds ≤ n
  | [], _ => ⟨rfl, Nat.zero_le _⟩
  | d :: ds, h => by
    obtain ⟨h1, h2⟩ := okD_list fun x hx => h x (List.mem_cons_of_mem d hx)
    obtain ⟨h3, h4⟩ := h d List.mem_cons_self
    refine ⟨?_, ?_⟩
    · show (d.canLay0 && PyData.canLayAll0 ds) = true
      rw [h1, h3]
      rfl
    · show max d.depth (PyData.depthAll ds) ≤ n
      omega
theorem okD_lst {n : Nat} {ds : List PyData} (h : ∀ d ∈ ds, okD n d) : okD (n + 1) (.list ds) := by
  obtain ⟨h1, h2⟩ := okD_list h
  exact ⟨h1, Nat.succ_le_succ h2⟩
theorem okD_tup {n : Nat} {ds : List PyData} (h : ∀ d ∈ ds, okD n d) : okD (n + 1) (.tuple ds) := by
  obtain ⟨h1, h2⟩ := okD_list h
  exact ⟨h1, Nat.succ_le_succ h2⟩
theorem okD_int (n : Nat) (i : Int) : okD n (.int i) := ⟨rfl, Nat.zero_le _⟩
theorem okD_shaped {n : Nat} {d : PyData} (h : okD n d) (hn : n ≤ 64) : SeqAt.shaped d = true := by
  unfold SeqAt.shaped
  rw [h.1, decide_eq_true (Nat.le_trans h.2 hn)]
  rfl
theorem dats_map {α : Type} (f : α → W) (g : α → PyData) (h : ∀ a, dat (f a) = some (g a)) : ∀ as : List α, dats (as.map f) = some (as.map g)
  | [] => rfl
  | a :: as => by simp [dats, h a, dats_map f g h as]
end SL
set_option Elab.async false
set_option linter.all false
set_option maxRecDepth 100000
set_option maxHeartbeats 2000000
set_option Elab.async false
set_option linter.all false
set_option maxRecDepth 100000
set_option maxHeartbeats 2000000
namespace SL
open PySem PySem.Spec PyProof.Rows L2
section
variable {p : Pt} {S : Sto}
@[simp] theorem ix_wP0 : opIx (wP p) (.int 0) S = .ok (.int p.top) S := by simp [wP]
@[simp] theorem ix_wP1 : opIx (wP p) (.int 1) S = .ok (.int p.length) S := by simp [wP]
@[simp] theorem ix_wP2 : opIx (wP p) (.int 2) S = .ok (.int p.time) S := by simp [wP]
@[simp] theorem ix_wP3 : opIx (wP p) (.int 3) S = .ok (.tup (p.trips.map wTt)) S := by simp [wP]
theorem opAdd_tup {xs ys : List W} (h : xs.length + ys.length ≤ 16000000) : opAdd (.tup xs) (.tup ys) S = .ok (.tup (xs ++ ys)) S := if_pos h
@[simp] theorem ix_wTt0 {t : Tr} : opIx (wTt t) (.int 0) S = .ok (.int t.start) S := by simp [wTt]
end
end SL
set_option Elab.async false
set_option linter.all false
set_option maxRecDepth 100000
set_option maxHeartbeats 2000000
namespace SL
open PySem PySem.Spec PyProof.Rows L2
theorem cut_to {α : Type} (xs : List α) {k : Int} (h0 : 0 ≤ k) : cutX xs none (some k) = xs.take k.toNat := by
  unfold cutX
  have e1 : HT.sIx xs.length 0 none = 0 := rfl
  have e2 : HT.sIx xs.length xs.length (some k) = min k.toNat xs.length := by
    show (if k < 0 then (k + (xs.length : Int)).toNat else min k.toNat xs.length) = _
    rw [if_neg (by omega)]
  rw [e1, e2, List.drop_zero, Nat.sub_zero]
  rcases Nat.le_total k.toNat xs.length with h | h
  · rw [Nat.min_eq_left h]
  · rw [Nat.min_eq_right h, List.take_length, List.take_of_length_le h]
def wCy (p : Pt) : W := .tup [.lst (wFs 0 (story p).1), .int (story p).2]
section
variable {p q : Pt} {S : Sto}
@[simp] theorem ix_wCy0 : opIx (wCy p) (.int 0) S = .ok (.lst (wFs 0 (story p).1)) S := rfl
@[simp] theorem ix_wCy1 : opIx (wCy p) (.int 1) S = .ok (.int (story p).2) S := rfl
@[simp] theorem ix_wTk0 {tick : Int} {s : Sc} : opIx (wTk tick s) (.int 0) S = .ok (.int s.light) S := rfl
@[simp] theorem ix_wTk1 {tick : Int} {s : Sc} : opIx (wTk tick s) (.int 1) S = .ok (.lst (s.presses.map (wPr3 tick))) S := rfl
@[simp] theorem ix_wTk2 {tick : Int} {s : Sc} : opIx (wTk tick s) (.int 2) S = .ok (.lst (s.dark.map W.int)) S := rfl
/-! ### logs -/
end
end SL
set_option Elab.async false
set_option linter.all false
set_option maxRecDepth 100000
set_option maxHeartbeats 2000000
/-! staircases as lists of bytes -/
namespace SL
open PySem PySem.Spec PyProof.Rows L2
section
variable {S : Sto} {r : Rho} {n : Nat}
@[simp] theorem sForS_ev (i j : Nat) (mi : M (List W)) (b : MSt) : sForS i j mi b r S = (mi r S).bd fun xs S1 => sForSL i j b xs r S1 := by simp [sForS]
@[simp] theorem sForSL_nil {i j : Nat} {b : MSt} : sForSL i j b [] r S = .ok (.nx r) S := rfl
@[simp] theorem sFldAdd_ev {c : Cl} {f : Fl} (mo m : M W) : sFldAdd c f mo m r S = (mo r S).bd fun w S1 => (fld c f w S1).bd fun v S2 => (m r S2).bd fun y S3 => asI v (fun a S4 => asI y (fun b S5 => (setO c f w (.int (a + b)) S5).st r) S4) S3 := by
  simp only [sFldAdd, bind_ev]
  cases mo r S with
  | ok w S1 =>
    simp only [bd_ok]
    have e : (match getO c S1 w, fix c f with
        | some xs, some i => match xs[i]? with
          | some x => Res.ok x S1
          | none => Res.stuck
        | _, _ => Res.stuck) = fld c f w S1 := by
      unfold fld
      cases getO c S1 w with
      | none => rfl
      | some xs =>
        cases fix c f with
        | none => rfl
        | some i =>
          simp only [oc_some]
          cases xs[i]? <;> rfl
    rw [bind_ev]
    refine (congrArg (fun z => Res.bd z _) e).trans ?_
    cases fld c f w S1 with
    | ok v S2 =>
      simp only [bd_ok]
      rw [bind_ev]
      cases m r S2 with
      | ok y S3 =>
        simp only [bd_ok]
        by_cases hv : ∃ a, v = .int a
        · obtain ⟨a, rfl⟩ := hv
          by_cases hy : ∃ b, y = .int b
          · obtain ⟨b, rfl⟩ := hy
            simp only [asI_int]
            unfold Res.st
            rfl
          · cases y <;> first | rfl | exact absurd ⟨_, rfl⟩ hy
        · cases v <;> first | rfl | exact absurd ⟨_, rfl⟩ hv
      | exc c ws S1 => rfl
      | stuck => rfl
    | exc c ws S1 => rfl
    | stuck => rfl
  | exc c ws S1 => rfl
  | stuck => rfl
theorem bSum_ev {w : W} {ns : List Int} (h : getIs S w = some ns) : bSum [w] S = .ok (.int ns.sum) S := by
  show (match getIs S w with | some ns => Res.ok (W.int ns.sum) S | none => .stuck) = _
  rw [h]
end
def hnum (h : Str) : Int := if h = "dark" then 0 else if h = "always" then 1 else 2
def codeT (t : Tr) : List Int := [t.start, t.source, t.target, t.pace, hnum t.habit]
def codeTs (ts : List Tr) : List Int := ts.flatMap codeT
def encB (p : Pt) : List Int := [83, p.top, p.length, p.time, (p.trips.length : Int)] ++ codeTs p.trips
def sumI (ns : List Int) : Int := ns.sum
def enc (p : Pt) : List Int := encB p ++ [sumI (encB p) % 256]
end SL
set_option Elab.async false
set_option linter.all false
set_option maxRecDepth 100000
set_option maxHeartbeats 2000000
/-! staircases read from lists of bytes -/
namespace SL
open PySem PySem.Spec PyProof.Rows L2
/-- cw is the list L -/
def CodeAt (U : Sto) (cw : W) (L : List Int) : Prop := cw = .lst (L.map W.int) ∨ ∃ n, cw = .loc n ∧ U[n]? = some (.lst (L.map W.int))
section
variable {U : Sto} {cw : W} {L : List Int}
theorem CodeAt.app (h : CodeAt U cw L) (T : Sto) : CodeAt (U ++ T) cw L := by
  rcases h with h | ⟨n, h, q⟩
  · exact .inl h
  · refine .inr ⟨n, h, ?_⟩
    rw [List.getElem?_append_left (List.getElem?_eq_some_iff.mp q).1]
    exact q
theorem CodeAt.set (h : CodeAt U cw L) {R : Nat} {c : Cl} {xs : List W} {d : Ce} (hR : U[R]? = some (.ins c xs)) : CodeAt (U.set R d) cw L := by
  rcases h with h | ⟨n, h, q⟩
  · exact .inl h
  · refine .inr ⟨n, h, ?_⟩
    have : R ≠ n := fun e => by
      rw [e, q] at hR
      cases hR
    rw [List.getElem?_set_ne this]
    exact q
theorem CodeAt.len (h : CodeAt U cw L) : bLen [cw] U = .ok (.int L.length) U := by
  rcases h with rfl | ⟨n, rfl, q⟩
  · simp
  · simp [q]
theorem CodeAt.cut (h : CodeAt U cw L) (k : Nat) : opCut none (some (k : Int)) cw U = .ok (.lst ((L.take k).map W.int)) U := by
  have : opCut none (some (k : Int)) cw U = .ok (.lst (cutX (L.map W.int) none (some (k : Int)))) U := by
    rcases h with rfl | ⟨n, rfl, q⟩
    · rfl
    · show (match SL.getL U (.loc n) with | some xs => Res.ok (W.lst (cutX xs none (some (k : Int)))) U | none => .stuck) = _
      rw [getL_loc, q]
      rfl
  rw [this, cut_to _ (by omega), Int.toNat_natCast, List.map_take]
end
end SL
set_option Elab.async false
set_option linter.all false
set_option maxRecDepth 100000
set_option maxHeartbeats 2000000
namespace SL
open PySem PySem.Spec PyProof.Rows L2
section
variable {p : Pt} {S : Sto} {cw : W}
theorem CodeAt.clo (h : CodeAt S cw (enc p)) : clo (S.length + 1) cw = true := by
  rcases h with rfl | ⟨n, rfl, q⟩
  · have := clos_nol (n := S.length + 1) (k := 1) (xs := (enc p).map W.int) (by rw [List.all_map]; exact List.all_eq_true.mpr fun _ _ => rfl)
    unfold SL.clo
    exact this
  · have := (List.getElem?_eq_some_iff.mp q).1
    unfold SL.clo
    exact decide_eq_true (by omega)
end
end SL
set_option Elab.async false
set_option linter.all false
set_option maxRecDepth 100000
set_option maxHeartbeats 2000000
set_option Elab.async false
set_option linter.all false
set_option maxRecDepth 100000
set_option maxHeartbeats 4000000
set_option Elab.async false
set_option linter.all false
set_option maxRecDepth 100000
set_option maxHeartbeats 4000000
namespace SL
open PySem PySem.Spec PyProof.Rows L2
section
variable {p : Pt} {S : Sto}
theorem opNe_self {a b : W} {d : PyData} (ha : dat (seeL S a) = some d) (hb : dat (seeL S b) = some d) (h : SeqAt.shaped d = true) : opNe a b S = .ok (.bl false) S := by
  have hc : d.canLay0 = true := by
    unfold SeqAt.shaped at h
    exact (Bool.and_eq_true_iff.mp h).1
  rw [opNe_ok ha hb h h, SeqAt.eqv_refl d hc]
  rfl
end
end SL
set_option Elab.async false
set_option linter.all false
set_option maxRecDepth 100000
set_option maxHeartbeats 2000000
/-! texts read -/
namespace SL
open PySem PySem.Spec PyProof.Rows L2
section
variable {S : Sto} {r : Rho}
@[simp] theorem sTgL_ev (is : List Nat) (m : M W) : sTgL is m r S = (m r S).bd fun w S1 => oc (getL S1 w) (fun ws => oc (setAll is ws r) (fun r1 => .ok (.nx r1) S1) .stuck) .stuck := by
  simp only [sTgL, bind_ev]
  cases m r S with
  | ok w S1 =>
    simp only [bd_ok]
    cases getL S1 w with
    | none => rfl
    | some ws =>
      simp only [oc_some]
      cases setAll is ws r <;> rfl
  | exc c ws S1 => rfl
  | stuck => rfl
@[simp] theorem mNewL_ev (i : Nat) (c : Cl) (g : FnM) (t : M (List W)) : mNewL i c g t r S = oc (r[i]?) (fun o => asC o c (mCall (newR c g) t r S)) .stuck := by
  unfold mNewL
  cases r[i]? with
  | none => rfl
  | some o =>
    cases o with
    | none => rfl
    | some w => cases w <;> rfl
@[simp] theorem asC_cls (c : Cl) (k : Res W) : asC (some (.cls c)) c k = k := if_pos rfl
@[simp] theorem iS_ev (m : M W) : iS m r S = (m r S).bd fun w S1 => (match w with
    | .str z => .ok (signsW z) S1
    | _ => .stuck) := by
  unfold iS
  refine (bind_ev ..).trans (bd_ext fun w S1 => ?_)
  cases w <;> rfl
end
end SL
set_option Elab.async false
set_option linter.all false
set_option maxRecDepth 100000
set_option maxHeartbeats 4000000
set_option Elab.async false
set_option linter.all false
set_option maxRecDepth 100000
set_option maxHeartbeats 4000000
set_option Elab.async false
set_option linter.all false
set_option maxRecDepth 100000
set_option maxHeartbeats 4000000
namespace SL
open PySem PySem.Spec PyProof.Rows L2
section
variable {p q : Pt} {S : Sto}
theorem opNe_ints_self {ns : List Int} : opNe (.lst (ns.map W.int)) (.lst (ns.map W.int)) S = .ok (.bl false) S := by
  have h : dat (seeL S (.lst (ns.map W.int))) = some (.list (ns.map PyData.int)) := by simp [seeL, dat, dats_ints]
  exact opNe_self h h (shaped_ints ns)
end
end SL
set_option Elab.async false
set_option linter.all false
set_option maxRecDepth 100000
set_option maxHeartbeats 4000000
set_option Elab.async false
set_option linter.all false
set_option maxRecDepth 100000
set_option maxHeartbeats 0
set_option Elab.async false
set_option linter.all false
set_option maxRecDepth 100000
set_option maxHeartbeats 2000000
/-! the sum of a measure over the first ticks -/
namespace SL
open PySem PySem.Spec PyProof.Rows L2
theorem mCallV_ev {n i : Nat} {g : FnM} {t : M (List W)} {r : Rho} {S : Sto} (h : r[i]? = some (some (.cls (.lam n)))) : mCallV n g i t r S = mCall g t r S := by
  unfold mCallV
  rw [h]
  exact if_pos rfl
/-- the sum over the first t ticks, as the program finds it -/
def cntF (μ : Sc → Int) (p : Pt) (t : Int) : Int :=
  if t ≤ (story p).1.length then (((story p).1.map μ).take t.toNat).sum
  else (((story p).1.map μ).take ((story p).2 + (t - (story p).2) % ((late p).length : Int)).toNat).sum + (t - (story p).2) / ((late p).length : Int) * (((story p).1.map μ).drop (story p).2.toNat).sum
section
variable {p : Pt} {S : Sto} {μ : Sc → Int} {gam : FnM} {n : Nat}
theorem run_count (ok : p.Ok) (hg : ∀ s U, gam [wSc s] U = .ok (.int (μ s)) U) {t : Int} (ht : 0 ≤ t) (hb : t ≤ 2000000000000000000) : m_Story_count n gam [wSy p, .int t, .cls (.lam n)] S = .ok (.int (cntF μ p t)) S := by
  have hs := story_start ok
  have hl := story_len ok
  have k1 := late_len ok
  have p1 := late_pos ok
  have e1 : ∀ U, frR U (noX (m_Story_size [wSy p] U)) = .ok (.int ((late p).length : Int)) U := fun U => size_wSy ok
  have h0 : decide (0 < (late p).length) = true := decide_eq_true p1
  have h2 : decide (((late p).length : Int) < 1073741824) = true := decide_eq_true (by omega)
  have hL : mLc [6] (.n 6) (iL (mFld .Story .scenes (mVar 0))) mYes (e_Story_count_1 n gam) [some (wSy p), some (.int t), some (.cls (.lam n)), none, none, none, none] S = .ok (.lst (((story p).1.map μ).map W.int)) S := by
    rw [List.map_map]
    refine mLc_map wSc (fun s => W.int (μ s)) (story p).1 (by simp) (by decide) (fun s _ => ⟨_, rfl, fun U => ?_⟩) (fun _ _ => rfl) (by omega)
    unfold e_Story_count_1
    show frR U (mCallV n gam 2 (mCons (mVar 6) mNil) _ U) = _
    rw [mCallV_ev (by rfl)]
    have : mCall gam (mCons (mVar 6) mNil) [some (wSy p), some (.int t), some (.cls (.lam n)), none, none, none, some (wSc s)] U = .ok (.int (μ s)) U := by
      simp -implicitDefEqProofs [hg]
    rw [show (wipeR [some (wSy p), some (.int t), some (.cls (.lam n)), none, none, none, none] [6]).set 6 (some (wSc s)) = [some (wSy p), some (.int t), some (.cls (.lam n)), none, none, none, some (wSc s)] from rfl] at *
    rw [this, frR_int]
  have hlen : ((story p).1.map μ).length = (story p).1.length := List.length_map _
  generalize hxs : (story p).1.map μ = xs at hL hlen
  have hsum : ∀ (ys : List Int) U, bSum [.lst (ys.map W.int)] U = .ok (.int ys.sum) U := fun ys U => bSum_ev getIs_ints
  have st : ∀ k U, bSum [.lst ((xs.map W.int).take k)] U = .ok (.int (xs.take k).sum) U := fun k U => by rw [← List.map_take]; exact hsum _ U
  have sd : ∀ k U, bSum [.lst ((xs.map W.int).drop k)] U = .ok (.int (xs.drop k).sum) U := fun k U => by rw [← List.map_drop]; exact hsum _ U
  have c1 : ∀ {k : Int} U, 0 ≤ k → opCut none (some k) (.lst (xs.map W.int)) U = .ok (.lst ((xs.take k.toNat).map W.int)) U := fun U h => by
    rw [opCut_lst, cut_to _ h, List.map_take]
  have c2 : ∀ U, opCut (some (story p).2) none (.lst (xs.map W.int)) U = .ok (.lst ((xs.drop (story p).2.toNat).map W.int)) U := fun U => by
    rw [opCut_lst, cut_from _ hs.1 (by rw [List.length_map]; omega), List.map_drop]
  refine (fnM_ev rfl).trans ?_
  unfold cntF
  rw [hxs]
  by_cases h : t ≤ (story p).1.length
  · rw [if_pos h]
    have h' : t ≤ (xs.length : Int) := by omega
    simp -implicitDefEqProofs [b_Story_count, hL, h', c1 _ ht, st, sd, -opCut_lst]
  · rw [if_neg h]
    have h' : ¬ t ≤ (xs.length : Int) := by omega
    have hm := Int.emod_nonneg (t - (story p).2) (b := ((late p).length : Int)) (by omega)
    have m1 : mulOk ((t - (story p).2) / ((late p).length : Int)) (xs.drop (story p).2.toNat).sum = true := mulOk_l (by
      have := Int.ediv_nonneg (a := t - (story p).2) (b := ((late p).length : Int)) (by omega) (by omega)
      omega) (by
      have := Int.ediv_le_self (a := t - (story p).2) (b := ((late p).length : Int)) (by omega)
      omega)
    have c3 : ∀ U, opCut none (some ((story p).2 + (t - (story p).2) % ((late p).length : Int))) (.lst (xs.map W.int)) U = .ok (.lst ((xs.take ((story p).2 + (t - (story p).2) % ((late p).length : Int)).toNat).map W.int)) U := fun U => c1 U (by omega)
    simp -implicitDefEqProofs [b_Story_count, hL, h', c2, c3, st, sd, e1, h0, h2, m1, -opCut_lst]
end
end SL
set_option Elab.async false
set_option linter.all false
set_option maxRecDepth 100000
set_option maxHeartbeats 2000000
namespace SL
open PySem PySem.Spec PyProof.Rows L2
/-! it is the sum over the ticks -/
theorem isum_app (xs ys : List Int) : (xs ++ ys).sum = xs.sum + ys.sum := by
  induction xs with
  | nil => simp
  | cons x xs ih =>
    rw [List.cons_append, List.sum_cons, List.sum_cons, ih]
    omega
theorem isum_take {xs : List Int} {k : Nat} (h : k < xs.length) : (xs.take (k + 1)).sum = (xs.take k).sum + xs[k] := by
  rw [List.take_succ_eq_append_getElem h, isum_app, List.sum_cons, List.sum_nil]
  omega
theorem isum_split (xs : List Int) (k : Nat) : (xs.take k).sum + (xs.drop k).sum = xs.sum := by
  rw [← isum_app, List.take_append_drop]
def gsum (xs : List Int) (s L t : Nat) : Int := (xs.take (s + (t - s) % L)).sum + (((t - s) / L : Nat) : Int) * (xs.drop s).sum
theorem gsum_step {xs : List Int} {s L t : Nat} (hN : xs.length = s + L) (hL : 0 < L) (hs : s ≤ t) : gsum xs s L (t + 1) = gsum xs s L t + xs[s + (t - s) % L]'(by have := Nat.mod_lt (t - s) hL; omega) := by
  unfold gsum
  have hm := Nat.mod_lt (t - s) hL
  have hd := Nat.div_add_mod (t - s) L
  by_cases h : (t - s) % L + 1 < L
  · have e1 : (t + 1 - s) % L = (t - s) % L + 1 := by
      rw [show t + 1 - s = L * ((t - s) / L) + ((t - s) % L + 1) by omega, Nat.mul_add_mod, Nat.mod_eq_of_lt h]
    have e2 : (t + 1 - s) / L = (t - s) / L := by
      rw [show t + 1 - s = L * ((t - s) / L) + ((t - s) % L + 1) by omega, Nat.mul_add_div hL, Nat.div_eq_of_lt h, Nat.add_zero]
    rw [e1, e2, ← Nat.add_assoc, isum_take (by omega)]
    omega
  · have e1 : (t + 1 - s) % L = 0 := by
      rw [show t + 1 - s = L * ((t - s) / L + 1) by rw [Nat.mul_add, Nat.mul_one]; omega, Nat.mul_mod_right]
    have e2 : (t + 1 - s) / L = (t - s) / L + 1 := by
      rw [show t + 1 - s = L * ((t - s) / L + 1) by rw [Nat.mul_add, Nat.mul_one]; omega, Nat.mul_div_cancel_left _ hL]
    have e3 : (xs.take (s + (t - s) % L)).sum + xs[s + (t - s) % L]'(by omega) = xs.sum := by
      rw [← isum_take (by omega), List.take_of_length_le (by omega)]
    have e4 := isum_split xs s
    rw [e1, e2, Nat.add_zero]
    have e5 : (((t - s) / L + 1 : Nat) : Int) * (xs.drop s).sum = (((t - s) / L : Nat) : Int) * (xs.drop s).sum + (xs.drop s).sum := by
      rw [Int.natCast_add, Int.add_mul]
      simp
    omega
/-- the sum of a measure over the first t ticks -/
def cnt (μ : Sc → Int) (p : Pt) (t : Nat) : Int := ((List.range t).map fun (i : Nat) => μ (scn p (i : Int))).sum
theorem cnt_succ (μ : Sc → Int) (p : Pt) (t : Nat) : cnt μ p (t + 1) = cnt μ p t + μ (scn p (t : Int)) := by
  unfold cnt
  rw [List.range_succ, List.map_append, isum_app, List.map_cons, List.map_nil, List.sum_cons, List.sum_nil]
  omega
section
variable {p : Pt} {μ : Sc → Int}
theorem mu_at (ok : p.Ok) (t : Nat) : ((story p).1.map μ)[(plc (story p).1.length (story p).2 (t : Int)).toNat]? = some (μ (scn p (t : Int))) := by
  rw [List.getElem?_map, plc_at ok (by omega)]
  rfl
theorem cnt_first (ok : p.Ok) : ∀ t : Nat, t ≤ (story p).1.length → cnt μ p t = (((story p).1.map μ).take t).sum
  | 0, _ => rfl
  | t + 1, h => by
    have ht : t < ((story p).1.map μ).length := by rw [List.length_map]; omega
    rw [cnt_succ, cnt_first ok t (by omega), isum_take ht]
    have e := mu_at (μ := μ) ok t
    have ep : plc (story p).1.length (story p).2 (t : Int) = (t : Int) := if_pos (by omega)
    rw [ep, Int.toNat_natCast, List.getElem?_eq_getElem ht] at e
    rw [Option.some.inj e]
theorem cnt_late (ok : p.Ok) : ∀ k : Nat, cnt μ p ((story p).2.toNat + k) = gsum ((story p).1.map μ) (story p).2.toNat (late p).length ((story p).2.toNat + k)
  | 0 => by
    have hs := story_start ok
    rw [cnt_first ok _ (by omega)]
    unfold gsum
    simp
  | k + 1 => by
    have hs := story_start ok
    have kl := late_len ok
    have pl := late_pos ok
    have hN : ((story p).1.map μ).length = (story p).2.toNat + (late p).length := by rw [List.length_map]; omega
    rw [← Nat.add_assoc, cnt_succ, cnt_late ok k, gsum_step hN pl (by omega)]
    have e := mu_at (μ := μ) ok ((story p).2.toNat + k)
    have hm := Nat.mod_lt k pl
    have ep : (plc (story p).1.length (story p).2 (((story p).2.toNat + k : Nat) : Int)).toNat = (story p).2.toNat + ((story p).2.toNat + k - (story p).2.toNat) % (late p).length := by
      rw [Nat.add_sub_cancel_left]
      unfold plc
      rw [← kl, show (((story p).2.toNat + k : Nat) : Int) - (story p).2 = (k : Int) by omega, ← Int.natCast_emod]
      split
      · rw [Nat.mod_eq_of_lt (by omega)]
        omega
      · omega
    rw [ep] at e
    have hlt : (story p).2.toNat + ((story p).2.toNat + k - (story p).2.toNat) % (late p).length < ((story p).1.map μ).length := by
      rw [Nat.add_sub_cancel_left]
      omega
    rw [List.getElem?_eq_getElem hlt] at e
    rw [Option.some.inj e]
theorem cntF_is (ok : p.Ok) (t : Nat) : cntF μ p (t : Int) = cnt μ p t := by
  have hs := story_start ok
  have kl := late_len ok
  have pl := late_pos ok
  unfold cntF
  split
  · rw [Int.toNat_natCast, cnt_first ok t (by omega)]
  · rename_i h
    obtain ⟨k, rfl⟩ : ∃ k, t = (story p).2.toNat + k := ⟨t - (story p).2.toNat, by omega⟩
    rw [cnt_late ok k]
    unfold gsum
    rw [show (((story p).2.toNat + k : Nat) : Int) - (story p).2 = (k : Int) by omega, Nat.add_sub_cancel_left, ← Int.natCast_emod, ← Int.natCast_ediv]
    rw [show ((story p).2 + ((k % (late p).length : Nat) : Int)).toNat = (story p).2.toNat + k % (late p).length by omega]
theorem cnt_congr {q : Pt} {t : Nat} (h : ∀ i : Nat, i < t → μ (scn p i) = μ (scn q i)) : cnt μ p t = cnt μ q t := by
  unfold cnt
  congr 1
  exact List.map_congr_left fun i hi => h i (List.mem_range.mp hi)
end
end SL
set_option Elab.async false
set_option linter.all false
set_option maxRecDepth 100000
set_option maxHeartbeats 2000000
/-! the first difference is the first of all ticks -/
namespace SL
open PySem PySem.Spec PyProof.Rows L2
theorem plc_late {n : Nat} {s t : Int} (h1 : s < n) (h : s ≤ t) : plc n s t = s + (t - s) % (n - s) := by
  unfold plc
  split
  · rw [Int.emod_eq_of_lt (by omega) (by omega)]
    omega
  · rfl
theorem mulF_spec {a b : Int} : ∀ (n : Nat) (m r : Int), mulF n a b m = some r → ∃ k : Nat, r = m + k * a ∧ r % b = 0 ∧ ∀ j : Nat, j < k → (m + j * a) % b ≠ 0
  | 0, _, _, h => by cases h
  | n + 1, m, r, h => by
    unfold mulF at h
    split at h
    · rename_i hm
      cases h
      exact ⟨0, by simp, hm, fun j hj => absurd hj (by omega)⟩
    · rename_i hm
      obtain ⟨k, h1, h2, h3⟩ := mulF_spec n _ r h
      refine ⟨k + 1, by rw [h1, Int.natCast_add, Int.add_mul]; omega, h2, fun j hj => ?_⟩
      cases j with
      | zero => simpa using hm
      | succ j =>
        have := h3 j (by omega)
        rwa [show m + a + (j : Int) * a = m + ((j + 1 : Nat) : Int) * a by rw [Int.natCast_add, Int.add_mul]; omega] at this
theorem lcmF_spec {a b : Int} (ha : 0 < a) (hb : 0 < b) : a ∣ lcmF a b ∧ b ∣ lcmF a b ∧ ∀ x : Int, 0 < x → a ∣ x → b ∣ x → lcmF a b ≤ x := by
  obtain ⟨e, h0, _⟩ := lcmF_is ha hb
  obtain ⟨k, h1, h2, h3⟩ := mulF_spec _ _ _ e
  refine ⟨⟨1 + k, by rw [h1, Int.mul_add, Int.mul_one, Int.mul_comm a]⟩, Int.dvd_of_emod_eq_zero h2, fun x hx ⟨c, hc⟩ hbx => ?_⟩
  by_cases hlt : lcmF a b ≤ x
  · exact hlt
  · exfalso
    have hc0 : 0 < c := by
      by_cases z : 0 < c
      · exact z
      · have := Int.mul_le_mul_of_nonneg_left (a := c) (b := 0) (c := a) (by omega) (Int.le_of_lt ha)
        rw [Int.mul_zero] at this
        omega
    obtain ⟨j, rfl⟩ : ∃ j : Nat, c = (j : Int) + 1 := ⟨(c - 1).toNat, by omega⟩
    have hx2 : x = a + (j : Int) * a := by rw [hc, Int.mul_add, Int.mul_one, Int.mul_comm a]; omega
    have hjk : j < k := by
      rcases Nat.lt_or_ge j k with z | z
      · exact z
      · exfalso
        have : (k : Int) * a ≤ (j : Int) * a := Int.mul_le_mul_of_nonneg_right (by omega) (Int.le_of_lt ha)
        omega
    exact h3 j hjk (by rw [← hx2]; exact Int.emod_eq_zero_of_dvd hbx)
theorem emod_shift {x y l d : Int} (h : d ∣ l) (e : l ∣ x - y) : x % d = y % d := by
  obtain ⟨c, hc⟩ := Int.dvd_trans h e
  rw [show x = y + d * c by omega, Int.add_mul_emod_self_left]
theorem fdN_spec (p q : Pt) : ∀ (n k : Nat), match fdN p q (List.range' k n) with
    | none => ∀ t : Nat, k ≤ t → t < k + n → burn p (t : Int) = burn q (t : Int)
    | some (t, b) => k ≤ t ∧ t < k + n ∧ b = burn p (t : Int) ∧ burn p (t : Int) ≠ burn q (t : Int) ∧ ∀ i : Nat, k ≤ i → i < t → burn p (i : Int) = burn q (i : Int)
  | 0, k => fun t h1 h2 => absurd h2 (by omega)
  | n + 1, k => by
    rw [List.range'_succ]
    unfold fdN
    by_cases h : (burn p (k : Int) != burn q (k : Int)) = true
    · rw [if_pos h]
      exact ⟨Nat.le_refl _, by omega, rfl, by simpa using h, fun i h1 h2 => absurd h2 (by omega)⟩
    · rw [if_neg h]
      have hk : burn p (k : Int) = burn q (k : Int) := by simpa using h
      have ih := fdN_spec p q n (k + 1)
      cases hf : fdN p q (List.range' (k + 1) n) with
      | none =>
        rw [hf] at ih
        intro t h1 h2
        rcases Nat.eq_or_lt_of_le h1 with z | z
        · rw [← z]
          exact hk
        · exact ih t z (by omega)
      | some r =>
        obtain ⟨t, b⟩ := r
        rw [hf] at ih
        obtain ⟨h1, h2, h3, h4, h5⟩ := ih
        refine ⟨by omega, by omega, h3, h4, fun i i1 i2 => ?_⟩
        rcases Nat.eq_or_lt_of_le i1 with z | z
        · rw [← z]
          exact hk
        · exact h5 i z i2
section
variable {p q : Pt}
theorem scn_shift (ok : p.Ok) {t t' : Int} (h : (story p).2 ≤ t) (h' : (story p).2 ≤ t') (e : (t - (story p).2) % ((late p).length : Int) = (t' - (story p).2) % ((late p).length : Int)) : scn p t = scn p t' := by
  have hs := story_start ok
  have kl := late_len ok
  unfold scn
  rw [plc_late hs.2 h, plc_late hs.2 h', ← kl, e]
theorem firstDiff_spec (okp : p.Ok) (okq : q.Ok) : match firstDiff p q with
    | none => ∀ t : Nat, burn p (t : Int) = burn q (t : Int)
    | some (t, b) => t < 20000000 ∧ b = burn p (t : Int) ∧ burn p (t : Int) ≠ burn q (t : Int) ∧ ∀ i : Nat, i < t → burn p (i : Int) = burn q (i : Int) := by
  have sr := span_range okp okq
  have h := fdN_spec p q (span p q).toNat 0
  rw [← List.range_eq_range'] at h
  unfold firstDiff
  cases hf : fdN p q (List.range (span p q).toNat) with
  | some r =>
    obtain ⟨t, b⟩ := r
    rw [hf] at h
    obtain ⟨h1, h2, h3, h4, h5⟩ := h
    exact ⟨by omega, h3, h4, fun i hi => h5 i (by omega) hi⟩
  | none =>
    rw [hf] at h
    intro t
    by_cases ht : t < (span p q).toNat
    · exact h t (by omega) (by omega)
    · have s1 := story_start okp
      have s2 := story_start okq
      have p1 := late_pos okp
      have p2 := late_pos okq
      obtain ⟨d1, d2, _⟩ := lcmF_spec (a := ((late p).length : Int)) (b := ((late q).length : Int)) (by omega) (by omega)
      have l0 := (lcmF_is (a := ((late p).length : Int)) (b := ((late q).length : Int)) (by omega) (by omega)).2.1
      obtain ⟨m, hm, m1, m2⟩ : ∃ m : Int, span p q = m + lcmF (late p).length (late q).length ∧ (story p).2 ≤ m ∧ (story q).2 ≤ m := by
        refine ⟨_, rfl, ?_, ?_⟩ <;> split <;> omega
      generalize lcmF ((late p).length : Int) ((late q).length : Int) = l at d1 d2 l0 hm
      have r0 := Int.emod_nonneg ((t : Int) - m) (b := l) (by omega)
      have r1 := Int.emod_lt_of_pos ((t : Int) - m) (b := l) l0
      obtain ⟨u, hu⟩ : ∃ u : Nat, (u : Int) = m + ((t : Int) - m) % l := ⟨(m + ((t : Int) - m) % l).toNat, by omega⟩
      have hd : l ∣ (t : Int) - (u : Int) := by
        have := Int.emod_add_mul_ediv ((t : Int) - m) l
        exact ⟨((t : Int) - m) / l, by omega⟩
      have e1 : scn p (t : Int) = scn p (u : Int) := scn_shift okp (by omega) (by omega) (emod_shift d1 (by rw [show (t : Int) - (story p).2 - ((u : Int) - (story p).2) = (t : Int) - u by omega]; exact hd))
      have e2 : scn q (t : Int) = scn q (u : Int) := scn_shift okq (by omega) (by omega) (emod_shift d2 (by rw [show (t : Int) - (story q).2 - ((u : Int) - (story q).2) = (t : Int) - u by omega]; exact hd))
      have := h u (by omega) (by omega)
      unfold burn at this ⊢
      rw [e1, e2]
      exact this
end
end SL
set_option Elab.async false
set_option linter.all false
set_option maxRecDepth 100000
set_option maxHeartbeats 0
set_option Elab.async false
set_option linter.all false
set_option maxRecDepth 100000
set_option maxHeartbeats 4000000
namespace SL
open PySem PySem.Spec PyProof.Rows L2
def litM (s : Sc) : Int := if 0 < s.light then 1 else 0
section
variable {p q : Pt} {S : Sto}
theorem run_check_tick {t : Int} (h0 : 0 ≤ t) (h1 : t ≤ 1000000000000000000) : frR S (m_check_tick [.int t] S) = .ok .non S := by
  have e : ∀ U, frR U (m_is_int_in [.int t, .int 0, .int 1000000000000000000] U) = .ok (.bl true) U := fun U => by rw [run_in h0 h1, frR_bl]
  have key : m_check_tick [.int t] S = .ok .non S := by
    refine (fnM_ev rfl).trans ?_
    simp -implicitDefEqProofs [b_check_tick, e]
  rw [key]
  exact frR_nols rfl
theorem run_light (ok : p.Ok) {t : Int} (h0 : 0 ≤ t) (h1 : t ≤ 1000000000000000000) : frR S (m_light [wS p, .int t] S) = .ok (.int (scn p t).light) S := by
  have e1 : ∀ U, frR U (m_check_tick [.int t] U) = .ok .non U := fun U => run_check_tick h0 h1
  have e2 : ∀ U, frR U (newR .Story m_Story___init__ [wS p] U) = .ok (wSy p) U := fun U => new_wSy ok
  have e3 : ∀ U, frR U (m_Story_scene [wSy p, .int t] U) = .ok (wSc (scn p t)) U := fun U => run_sceneAt ok h0
  have key : m_light [wS p, .int t] S = .ok (.int (scn p t).light) S := by
    refine (fnM_ev rfl).trans ?_
    simp -implicitDefEqProofs [b_light, e1, e2, e3]
  rw [key, frR_int]
theorem mMtLam_ev {c : Cl} {g : Nat → FnM} {mo me : M W} {r : Rho} {w x : W} {xs : List W} {v : Int} (ho : mo r S = .ok w S) (hg : getO c S w = some xs) (he : me r S = .ok x S) (hr : ∀ n, g n [w, x, .cls (.lam n)] S = .ok (.int v) S) : mMtLam c g mo me r S = .ok (.int v) S := by
  have hn : S.all (nlmC (frN S [w, x])) = true := List.all_eq_true.mpr fun c hc => frN_S hc
  unfold mMtLam
  rw [bind_def, ho]
  dsimp only
  rw [bind_def, hg]
  dsimp only
  rw [bind_def, he]
  dsimp only
  rw [hr, frR_int]
  exact if_pos ⟨rfl, hn⟩
theorem run_count_lit (ok : p.Ok) {t : Nat} (h1 : t ≤ 1000000000000000000) : frR S (m_count_lit [wS p, .int (t : Int)] S) = .ok (.int (cnt litM p t)) S := by
  have e1 : ∀ U, frR U (m_check_tick [.int (t : Int)] U) = .ok .non U := fun U => run_check_tick (by omega) (by omega)
  have hl : ∀ s U, l_count_lit_1 [wSc s] U = .ok (.int (litM s)) U := fun s U => by
    have : l_count_lit_1 [wSc s] U = mCall bInt (mCons (mOp opGt (mFld .Scene .burning (mVar 0)) (mC (.int 0))) (mNil)) [some (wSc s)] U := by
      unfold l_count_lit_1 fnE
      exact if_pos rfl
    rw [this]
    simp -implicitDefEqProofs [bInt, litM]
  have e4 : mMtLam .Story (fun n => m_Story_count n l_count_lit_1) (mFr (mCall (newR .Story m_Story___init__) (mCons (mVar 0) (mNil)))) (mVar 1) [some (wS p), some (.int (t : Int))] S = .ok (.int (cnt litM p t)) S := by
    refine mMtLam_ev (w := wSy p) (x := .int (t : Int)) ?_ getO_wSy (by simp) fun n => ?_
    · simp -implicitDefEqProofs [new_wSy ok]
    · rw [run_count ok hl (by omega) (by omega), cntF_is ok]
  have key : m_count_lit [wS p, .int (t : Int)] S = .ok (.int (cnt litM p t)) S := by
    refine (fnM_ev rfl).trans ?_
    simp -implicitDefEqProofs [b_count_lit, e1, e4]
  rw [key, frR_int]
/-! ### shuffled -/
end
end SL
set_option Elab.async false
set_option linter.all false
set_option maxRecDepth 100000
set_option maxHeartbeats 4000000
namespace SL
open PySem PySem.Spec PyProof.Rows L2
def preM (s : Sc) : Int := (s.presses.length : Int)
section
variable {p : Pt} {S : Sto}
theorem run_count_presses (ok : p.Ok) {t : Nat} (h1 : t ≤ 1000000000000000000) : frR S (m_count_presses [wS p, .int (t : Int)] S) = .ok (.int (cnt preM p t)) S := by
  have e1 : ∀ U, frR U (m_check_tick [.int (t : Int)] U) = .ok .non U := fun U => run_check_tick (by omega) (by omega)
  have hl : ∀ s U, l_count_presses_1 [wSc s] U = .ok (.int (preM s)) U := fun s U => by
    have : l_count_presses_1 [wSc s] U = mCall bLen (mCons (mFld .Scene .presses (mVar 0)) (mNil)) [some (wSc s)] U := by
      unfold l_count_presses_1 fnE
      exact if_pos rfl
    rw [this]
    simp -implicitDefEqProofs [preM]
  have e4 : mMtLam .Story (fun n => m_Story_count n l_count_presses_1) (mFr (mCall (newR .Story m_Story___init__) (mCons (mVar 0) (mNil)))) (mVar 1) [some (wS p), some (.int (t : Int))] S = .ok (.int (cnt preM p t)) S := by
    refine mMtLam_ev (w := wSy p) (x := .int (t : Int)) ?_ getO_wSy (by simp) fun n => ?_
    · simp -implicitDefEqProofs [new_wSy ok]
    · rw [run_count ok hl (by omega) (by omega), cntF_is ok]
  have key : m_count_presses [wS p, .int (t : Int)] S = .ok (.int (cnt preM p t)) S := by
    refine (fnM_ev rfl).trans ?_
    simp -implicitDefEqProofs [b_count_presses, e1, e4]
  rw [key, frR_int]
end
end SL
set_option Elab.async false
set_option linter.all false
set_option maxRecDepth 100000
set_option maxHeartbeats 4000000
namespace SL
open PySem PySem.Spec PyProof.Rows L2
section
variable {p : Pt} {S : Sto}
theorem outer_len (p : Pt) (tick : Int) : ∀ (k : Nat) (ts : List Tr) (now : Int) (ps : Prs) (wk : List Int), (outer p tick k ts now ps wk).2.1.length ≤ ps.length + 50 * ts.length
  | _, [], _, _, _ => Nat.le_refl _
  | k, t :: ts, now, ps, wk => by
    unfold outer
    have h1 := inner_len p.time t k (ages p t tick) now ps
    have h2 : (ages p t tick).length ≤ 50 := agesN_len _ _ _ _
    have h3 := outer_len p tick (k + 1) ts (inner p.time t k now ps (ages p t tick)).1 (inner p.time t k now ps (ages p t tick)).2 (if (ages p t tick).isEmpty then wk else wk ++ [(k : Int)])
    rw [List.length_cons]
    omega
theorem cycN_few (p : Pt) : ∀ (n : Nat) (found : List Sc) (light : Int) (seen : Sn) (r : List Sc × Int), cycN p n found light seen = some r → (∀ s ∈ found, s.presses.length ≤ 50 * p.trips.length) → ∀ s ∈ r.1, s.presses.length ≤ 50 * p.trips.length
  | 0, _, _, _, _, h, _ => by cases h
  | n + 1, found, light, seen, r, h, hf => by
    have hs : ∀ s ∈ found ++ [scene p light found.length], s.presses.length ≤ 50 * p.trips.length := fun s hs => by
      rcases List.mem_append.mp hs with hs | hs
      · exact hf s hs
      · rw [List.mem_singleton.mp hs]
        have := outer_len p found.length 0 p.trips (dim light) [] []
        simpa [scene] using this
    unfold cycN at h
    split at h
    · split at h
      · cases h
        exact hf
      · exact cycN_few p n _ _ _ r h hs
    · exact cycN_few p n _ _ _ r h hs
theorem story_few (ok : p.Ok) : ∀ s ∈ (story p).1, s.presses.length ≤ 400 := fun s hs => by
  have := cycN_few p 3000 [] 0 [] _ (story_is ok) (by simp) s hs
  have := ok.n
  omega
end
end SL
set_option Elab.async false
set_option linter.all false
set_option maxRecDepth 100000
set_option maxHeartbeats 2000000
/-! the scenes of all ticks, one by the other -/
namespace SL
open PySem PySem.Spec PyProof.Rows L2
theorem foldl_max_mem : ∀ (xs : List Int) (a : Int), a ≤ xs.foldl max a ∧ ∀ x ∈ xs, x ≤ xs.foldl max a
  | [], a => ⟨Int.le_refl _, by simp⟩
  | y :: xs, a => by
    have ih := foldl_max_mem xs (max a y)
    refine ⟨Int.le_trans (Int.le_max_left a y) ih.1, fun x hx => ?_⟩
    rcases List.mem_cons.mp hx with rfl | hx
    · exact Int.le_trans (Int.le_max_right a x) ih.1
    · exact ih.2 x hx
section
variable {p : Pt}
theorem dur_longest {t : Tr} (h : t ∈ p.trips) : t.dur ≤ longest p := (foldl_max_mem _ 0).2 _ (List.mem_map_of_mem h)
theorem ages_per {t : Tr} (h : t ∈ p.trips) {a b : Int} (ha : longest p ≤ a) (hb : longest p ≤ b) (e : a % p.length = b % p.length) : ages p t a = ages p t b := by
  have hd := dur_longest h
  have e1 : t.lim a = t.lim b := by
    unfold Tr.lim
    rw [if_pos (by omega), if_pos (by omega)]
  have e2 : (a - t.start) % p.length = (b - t.start) % p.length := by rw [Int.sub_emod, e, ← Int.sub_emod]
  unfold ages
  rw [e1, e2]
theorem outer_congr {q : Pt} {a b : Int} (ht : p.time = q.time) : ∀ (ts : List Tr) (k : Nat) (now : Int) (ps : Prs) (wk : List Int), (∀ t ∈ ts, ages p t a = ages q t b) → outer p a k ts now ps wk = outer q b k ts now ps wk
  | [], _, _, _, _, _ => rfl
  | t :: ts, k, now, ps, wk, h => by
    unfold outer
    rw [h t List.mem_cons_self, ht]
    exact outer_congr ht ts _ _ _ _ fun u hu => h u (List.mem_cons_of_mem _ hu)
theorem scene_per {l a b : Int} (ha : longest p ≤ a) (hb : longest p ≤ b) (e : a % p.length = b % p.length) : scene p l a = scene p l b := by
  unfold scene
  rw [outer_congr rfl p.trips 0 (dim l) [] [] fun t ht => ages_per ht ha hb e]
/-- the light behind the first i scenes -/
def lightB (fs : List Sc) : Nat → Int
  | 0 => 0
  | i + 1 => ((fs[i]?).map Sc.light).getD 0
theorem lightB_succ {fs : List Sc} {i : Nat} : lightB fs (i + 1) = ((fs[i]?).map Sc.light).getD 0 := rfl
theorem lightB_app {fs gs : List Sc} : ∀ {i : Nat}, i ≤ fs.length → lightB (fs ++ gs) i = lightB fs i
  | 0, _ => rfl
  | i + 1, h => by
    rw [lightB_succ, lightB_succ, List.getElem?_append_left (by omega)]
def Linked (p : Pt) (fs : List Sc) : Prop := ∀ (i : Nat) (s : Sc), fs[i]? = some s → s = scene p (lightB fs i) (i : Int)
theorem Linked.snoc {fs : List Sc} (h : Linked p fs) : Linked p (fs ++ [scene p (lightB fs fs.length) (fs.length : Int)]) := fun i s e => by
  by_cases hi : i < fs.length
  · rw [List.getElem?_append_left hi] at e
    rw [lightB_app (by omega)]
    exact h i s e
  · have hl := (List.getElem?_eq_some_iff.mp e).1
    rw [List.length_append, List.length_singleton] at hl
    have : i = fs.length := by omega
    subst this
    rw [List.getElem?_append_right (Nat.le_refl _), Nat.sub_self] at e
    rw [lightB_app (Nat.le_refl _)]
    exact (Option.some.inj e).symm
theorem lightB_snoc {fs : List Sc} {x : Sc} : lightB (fs ++ [x]) (fs ++ [x]).length = x.light := by
  rw [List.length_append, List.length_singleton, lightB_succ, List.getElem?_append_right (Nat.le_refl _), Nat.sub_self]
  rfl
def SeenOk (p : Pt) (fs : List Sc) (seen : Sn) : Prop := ∀ q ∈ seen, ∃ j : Nat, q.2 = (j : Int) ∧ j < fs.length ∧ longest p ≤ j ∧ q.1 = ((j : Int) % p.length, lightB fs j)
theorem SeenOk.app {fs gs : List Sc} {seen : Sn} (h : SeenOk p fs seen) : SeenOk p (fs ++ gs) seen := fun q hq => by
  obtain ⟨j, h1, h2, h3, h4⟩ := h q hq
  exact ⟨j, h1, by rw [List.length_append]; omega, h3, by rw [lightB_app (by omega)]; exact h4⟩
theorem snGet_at {s : Sn} {k : Int × Int} {i : Int} (h : snGet s k = some i) : (k, i) ∈ s := by
  unfold snGet at h
  obtain ⟨q, hq, e⟩ := Option.map_eq_some_iff.mp h
  have h1 := List.mem_of_find?_eq_some hq
  have h2 : q.1 = k := by simpa using List.find?_some hq
  have e : q.2 = i := e
  rw [← h2, ← e]
  exact h1
theorem cycN_spec : ∀ (n : Nat) (found : List Sc) (seen : Sn) (r : List Sc × Int), Linked p found → SeenOk p found seen → cycN p n found (lightB found found.length) seen = some r →
    Linked p r.1 ∧ ∃ j : Nat, r.2 = (j : Int) ∧ j < r.1.length ∧ longest p ≤ j ∧ (r.1.length : Int) % p.length = (j : Int) % p.length ∧ lightB r.1 r.1.length = lightB r.1 j
  | 0, _, _, _, _, _, h => by cases h
  | n + 1, found, seen, r, hl, hs, h => by
    have next : ∀ seen', SeenOk p (found ++ [scene p (lightB found found.length) found.length]) seen' → cycN p n (found ++ [scene p (lightB found found.length) found.length]) (scene p (lightB found found.length) found.length).light seen' = some r →
        Linked p r.1 ∧ ∃ j : Nat, r.2 = (j : Int) ∧ j < r.1.length ∧ longest p ≤ j ∧ (r.1.length : Int) % p.length = (j : Int) % p.length ∧ lightB r.1 r.1.length = lightB r.1 j := fun seen' hs' h' => by
      refine cycN_spec n _ seen' r hl.snoc hs' ?_
      rw [lightB_snoc]
      exact h'
    unfold cycN at h
    by_cases h1 : longest p ≤ found.length
    · rw [if_pos h1] at h
      cases hg : snGet seen ((found.length : Int) % p.length, lightB found found.length) with
      | some s2 =>
        rw [hg] at h
        have h : some (found, s2) = some r := h
        cases h
        obtain ⟨j, e1, e2, e3, e4⟩ := hs _ (snGet_at hg)
        obtain ⟨e5, e6⟩ := Prod.mk.inj e4
        exact ⟨hl, j, e1, e2, e3, e5, e6⟩
      | none =>
        rw [hg] at h
        refine next _ (fun q hq => ?_) h
        rcases List.mem_append.mp hq with hq | hq
        · exact hs.app q hq
        · rw [List.mem_singleton] at hq
          subst hq
          exact ⟨found.length, rfl, by simp, h1, by rw [lightB_app (Nat.le_refl _)]⟩
    · rw [if_neg h1] at h
      exact next _ hs.app h
theorem story_spec (ok : p.Ok) : Linked p (story p).1 ∧ ∃ j : Nat, (story p).2 = (j : Int) ∧ j < (story p).1.length ∧ longest p ≤ j ∧ ((story p).1.length : Int) % p.length = (j : Int) % p.length ∧ lightB (story p).1 (story p).1.length = lightB (story p).1 j :=
  cycN_spec 3000 [] [] _ (fun i s e => by simp at e) (fun q hq => by simp at hq) (story_is ok)
theorem scn_at (ok : p.Ok) {i : Nat} (h : i < (story p).1.length) : (story p).1[i]? = some (scn p (i : Int)) := by
  have := plc_at ok (tick := (i : Int)) (by omega)
  have e : plc (story p).1.length (story p).2 (i : Int) = (i : Int) := if_pos (by omega)
  rw [e, Int.toNat_natCast] at this
  exact this
theorem scn_plc {i : Nat} {t : Int} (h : (plc (story p).1.length (story p).2 t).toNat = i) (hi : (i : Int) < (story p).1.length) : scn p t = scn p (i : Int) := by
  have e : plc (story p).1.length (story p).2 (i : Int) = (i : Int) := if_pos hi
  unfold scn
  rw [h, e, Int.toNat_natCast]
theorem lightB_scn (ok : p.Ok) {i : Nat} (h : i < (story p).1.length) : lightB (story p).1 (i + 1) = (scn p (i : Int)).light := by
  rw [lightB_succ, scn_at ok h]
  rfl
theorem scn_zero (ok : p.Ok) : scn p 0 = scene p 0 0 := (story_spec ok).1 0 _ (scn_at ok (i := 0) (story_pos ok))
/-- each scene by the one before -/
theorem scn_step (ok : p.Ok) (t : Nat) : scn p ((t : Int) + 1) = scene p (scn p (t : Int)).light ((t : Int) + 1) := by
  obtain ⟨hl, j, e1, e2, e3, e4, e5⟩ := story_spec ok
  have hL := ok.l0
  by_cases h1 : t + 1 < (story p).1.length
  · have h := hl (t + 1) _ (scn_at ok h1)
    rw [lightB_scn ok (by omega)] at h
    exact h
  · -- beyond: t stands at the place m, t + 1 at the next one
    have key : ∃ m : Nat, m < (story p).1.length ∧ scn p (t : Int) = scn p (m : Int) ∧ (m : Int) % p.length = (t : Int) % p.length ∧ (longest p ≤ (m : Int) + 1) ∧ ((m + 1 < (story p).1.length ∧ scn p ((t : Int) + 1) = scn p ((m + 1 : Nat) : Int)) ∨ (m + 1 = (story p).1.length ∧ scn p ((t : Int) + 1) = scn p (j : Int))) := by
      obtain ⟨M, hM⟩ : ∃ M : Nat, M = (story p).1.length - j := ⟨_, rfl⟩
      have hM0 : 0 < M := by omega
      have hd : ((M : Nat) : Int) % p.length = 0 := by
        have : ((M : Nat) : Int) = (story p).1.length - (j : Int) := by omega
        rw [this, Int.sub_emod, e4, ← Int.sub_emod, Int.sub_self, Int.zero_emod]
      have pl : ∀ u : Nat, (story p).1.length ≤ u → (plc (story p).1.length (story p).2 (u : Int)).toNat = j + (u - j) % M := fun u hu => by
        unfold plc
        rw [if_neg (by omega), e1, show ((story p).1.length : Int) - (j : Int) = ((M : Nat) : Int) by omega, show (u : Int) - (j : Int) = ((u - j : Nat) : Int) by omega, ← Int.natCast_emod]
        omega
      by_cases h2 : t < (story p).1.length
      · have ht : t + 1 = (story p).1.length := by omega
        refine ⟨t, h2, rfl, rfl, by omega, .inr ⟨ht, ?_⟩⟩
        have q := pl (t + 1) (by omega)
        rw [show t + 1 - j = M by omega, Nat.mod_self, Nat.add_zero] at q
        exact scn_plc q (by omega)
      · have q := pl t (by omega)
        have q2 := pl (t + 1) (by omega)
        have hm := Nat.mod_lt (t - j) hM0
        have dv := Nat.div_add_mod (t - j) M
        refine ⟨j + (t - j) % M, by omega, scn_plc q (by omega), ?_, by omega, ?_⟩
        · have : (t : Int) = ((j + (t - j) % M : Nat) : Int) + (M : Int) * (((t - j) / M : Nat) : Int) := by
            rw [← Int.natCast_mul, ← Int.natCast_add]
            omega
          rw [this, Int.add_emod, Int.mul_emod, hd]
          simp
        · by_cases h3 : (t - j) % M + 1 < M
          · refine .inl ⟨by omega, ?_⟩
            have : (t + 1 - j) % M = (t - j) % M + 1 := by
              rw [show t + 1 - j = M * ((t - j) / M) + ((t - j) % M + 1) by omega, Nat.mul_add_mod, Nat.mod_eq_of_lt h3]
            rw [this] at q2
            exact scn_plc (by rw [show ((t : Int) + 1) = ((t + 1 : Nat) : Int) by omega]; omega) (by omega)
          · refine .inr ⟨by omega, ?_⟩
            have : (t + 1 - j) % M = 0 := by
              rw [show t + 1 - j = M * ((t - j) / M + 1) by rw [Nat.mul_add, Nat.mul_one]; omega, Nat.mul_mod_right]
            rw [this] at q2
            exact scn_plc (by rw [show ((t : Int) + 1) = ((t + 1 : Nat) : Int) by omega]; omega) (by omega)
    have bey : (longest p : Int) ≤ (t : Int) + 1 := by omega
    obtain ⟨m, hm, k1, k2, k3, k4⟩ := key
    have k5 : ((m : Int) + 1) % p.length = ((t : Int) + 1) % p.length := by rw [Int.add_emod, k2, ← Int.add_emod]
    rcases k4 with ⟨h4, k4⟩ | ⟨h4, k4⟩
    · have h := hl (m + 1) _ (scn_at ok h4)
      rw [lightB_scn ok hm] at h
      rw [k4, h, k1]
      exact scene_per (by omega) bey (by rw [show ((m + 1 : Nat) : Int) = (m : Int) + 1 by omega]; exact k5)
    · have h := hl j _ (scn_at ok e2)
      rw [k4, h, k1, ← lightB_scn ok hm, h4, e5]
      exact scene_per e3 bey (by rw [← e4, ← k5]; congr 1; omega)
end
end SL
set_option Elab.async false
set_option linter.all false
set_option maxRecDepth 100000
set_option maxHeartbeats 4000000
namespace SL
open PySem PySem.Spec PyProof.Rows L2
/-! ### generators -/
section
variable {a b : MGy} {m : MSt} {ws ws' xs ys : List W} {r r' : Rho} {S S' : Sto}
theorem gSeq_nx (h : a ws r S = .ok (ws', .nx r') S') : gSeq a b ws r S = b ws' r' S' := by
  unfold gSeq
  rw [h]
theorem gPl_ok {f : Fw} (h : m r S = .ok f S') : gPl m ws r S = .ok (ws, f) S' := by
  unfold gPl
  rw [h]
theorem gFor_ok {T : Tg} {mi : M (List W)} (h : mi r S = .ok xs S') : gFor T mi b ws r S = gForL T b xs ws r S' := by
  unfold gFor
  rw [bind_def, h]
theorem gYd_ok {e : M W} {w : W} (h : e r S = .ok w S') (hl : ws.length < 16000000) : gYd e ws r S = .ok (ws ++ [w], .nx r) S' := by
  unfold gYd
  rw [if_pos hl, h]
theorem gForL_nx {T : Tg} {x : W} {r1 r2 : Rho} (h1 : T.run x r = some r1) (h2 : b ws r1 S = .ok (ws', .nx r2) S') : gForL T b (x :: xs) ws r S = gForL T b xs ws' r2 S' := by
  rw [gForL, h1]
  dsimp only
  rw [h2]
theorem fnG_ev {n k : Nat} (h : ws.length = k) : fnG n k b ws S = endG (b [] (ws.map some ++ List.replicate (n - k) none) S) := if_pos h
def lgR : Res (List W) → Res W
  | .ok ys S => .ok (.lst ys) S
  | _ => .stuck
@[simp] theorem lgR_ok : lgR (.ok ys S) = .ok (.lst ys) S := rfl
@[simp] theorem mListG_ev {g : GnM} {t : M (List W)} : mListG g t r S = (t r S).bd fun ws S1 => lgR (g ws S1) := by
  unfold mListG
  rw [bind_ev]
  refine bd_ext fun w S1 => ?_
  cases g w S1 <;> rfl
end
section
variable {p : Pt} {S : Sto}
theorem yd_press {t : Int} {a c : Int} {x0 x1 x2 x3 : Option W} {ws : List W} (hl : ws.length < 16000000) : f_presses_between_1 ws [x0, x1, x2, x3, some (.int t), some (.int a), some (.int c)] S = .ok (ws ++ [wPr3 t (a, c)], .nx [x0, x1, x2, x3, some (.int t), some (.int a), some (.int c)]) S := by
  have e : mTup (mCons (mVar 4) (mCons (mVar 5) (mCons (mVar 6) mNil))) [x0, x1, x2, x3, some (.int t), some (.int a), some (.int c)] S = .ok (wPr3 t (a, c)) S := by simp [wPr3]
  exact gSeq_nx (gYd_ok e hl)
theorem press_in {t : Int} (x0 x1 x2 x3 : Option W) : ∀ (ps : Prs) (x5 x6 : Option W) (ws : List W), ws.length + ps.length < 16000000 → ∃ y5 y6,
    gForL (.t [5, 6]) f_presses_between_1 (ps.map wPr) ws [x0, x1, x2, x3, some (.int t), x5, x6] S = .ok (ws ++ ps.map (wPr3 t), .nx [x0, x1, x2, x3, some (.int t), y5, y6]) S
  | [], x5, x6, ws, _ => ⟨x5, x6, by rw [List.map_nil, List.map_nil, List.append_nil]; rfl⟩
  | (a, c) :: ps, x5, x6, ws, h => by
    simp only [List.length_cons] at h
    obtain ⟨y5, y6, e⟩ := press_in x0 x1 x2 x3 ps (some (.int a)) (some (.int c)) (ws ++ [wPr3 t (a, c)]) (by simp; omega)
    refine ⟨y5, y6, ?_⟩
    rw [List.map_cons, gForL_nx (r1 := [x0, x1, x2, x3, some (.int t), some (.int a), some (.int c)]) rfl (yd_press (by omega)), e, List.map_cons, List.append_assoc]
    rfl
/-- all presses of some ticks -/
def tellP (p : Pt) (ts : List Int) : List W := ts.flatMap fun t => (scn p t).presses.map (wPr3 t)
theorem scn_few (ok : p.Ok) {t : Int} (h : 0 ≤ t) : (scn p t).presses.length ≤ 400 := story_few ok _ (List.mem_of_getElem? (plc_at ok h))
theorem press_out (ok : p.Ok) (x0 x1 x2 : Option W) : ∀ (ts : List Int) (x4 x5 x6 : Option W) (ws : List W), (∀ t ∈ ts, 0 ≤ t) → ws.length + 400 * ts.length < 16000000 → ∃ y4 y5 y6,
    gForL (.n 4) f_presses_between_2 (ts.map W.int) ws [x0, x1, x2, some (wSy p), x4, x5, x6] S = .ok (ws ++ tellP p ts, .nx [x0, x1, x2, some (wSy p), y4, y5, y6]) S
  | [], x4, x5, x6, ws, _, _ => ⟨x4, x5, x6, by show _ = Res.ok (ws ++ [], _) S; rw [List.append_nil]; rfl⟩
  | t :: ts, x4, x5, x6, ws, h0, h => by
    have ht := h0 t List.mem_cons_self
    have hf := scn_few ok ht
    simp only [List.length_cons] at h
    have e1 : ∀ U, frR U (m_Story_scene [wSy p, .int t] U) = .ok (wSc (scn p t)) U := fun U => run_sceneAt ok ht
    obtain ⟨z5, z6, e2⟩ := press_in (S := S) (t := t) x0 x1 x2 (some (wSy p)) (scn p t).presses x5 x6 ws (by omega)
    have hi : iL (mFld .Scene .presses (mFr (mMeth .Story m_Story_scene (mVar 3) (mCons (mVar 4) mNil)))) [x0, x1, x2, some (wSy p), some (.int t), x5, x6] S = .ok ((scn p t).presses.map wPr) S := by
      simp -implicitDefEqProofs [e1]
    have hb : f_presses_between_2 ws [x0, x1, x2, some (wSy p), some (.int t), x5, x6] S = .ok (ws ++ (scn p t).presses.map (wPr3 t), .nx [x0, x1, x2, some (wSy p), some (.int t), z5, z6]) S :=
      gSeq_nx ((gFor_ok hi).trans e2)
    obtain ⟨y4, y5, y6, e⟩ := press_out ok x0 x1 x2 ts (some (.int t)) z5 z6 (ws ++ (scn p t).presses.map (wPr3 t)) (fun u hu => h0 u (List.mem_cons_of_mem _ hu)) (by simp; omega)
    refine ⟨y4, y5, y6, ?_⟩
    rw [List.map_cons, gForL_nx (r1 := [x0, x1, x2, some (wSy p), some (.int t), x5, x6]) rfl hb, e]
    show Res.ok (_, _) S = Res.ok (ws ++ (t :: ts).flatMap _, _) S
    rw [List.flatMap_cons, List.append_assoc]
    rfl
theorem seqI_mem {lo x : Int} {n : Nat} (h : x ∈ seqI lo n) : lo ≤ x ∧ x < lo + n := by
  unfold seqI at h
  obtain ⟨i, hi, rfl⟩ := List.mem_map.mp h
  have := List.mem_range.mp hi
  omega
theorem seqI_len {lo : Int} {n : Nat} : (seqI lo n).length = n := by simp [seqI]
theorem run_presses (ok : p.Ok) {a c : Int} (h0 : 0 ≤ a) (h1 : a ≤ 1000000000000000000) (h2 : a - 1 ≤ c) (h3 : c ≤ 1000000000000000000) (h4 : c ≤ a + 999) :
    m_presses_between [wS p, .int a, .int c] S = .ok (tellP p (seqI a (c + 1 - a).toNat)) S := by
  have e1 : ∀ U, frR U (m_check_tick [.int a] U) = .ok .non U := fun U => run_check_tick h0 h1
  have e2 : ∀ U, frR U (newR .Story m_Story___init__ [wS p] U) = .ok (wSy p) U := fun U => new_wSy ok
  have em : ∀ U, bMin [.int 1000000000000000000, .int (a + 1000 - 1)] U = .ok (.int (if a + 1000 - 1 < 1000000000000000000 then a + 1000 - 1 else 1000000000000000000)) U := fun U => by
    simp [bMin]
  have e3 : ∀ U, frR U (m_is_int_in [.int c, .int (a - 1), .int (if a + 1000 - 1 < 1000000000000000000 then a + 1000 - 1 else 1000000000000000000)] U) = .ok (.bl true) U := fun U => by
    rw [run_in h2 (by split <;> omega), frR_bl]
  have e4 : ∀ U, itR2 [.int a, .int (c + 1)] U = .ok ((seqI a (c + 1 - a).toNat).map W.int) U := fun U => by rw [itR2_ev (by omega) (by omega) (by omega) (by omega), rngW_seqI]
  obtain ⟨y4, y5, y6, e5⟩ := press_out (S := S) ok (some (wS p)) (some (.int a)) (some (.int c)) (seqI a (c + 1 - a).toNat) none none none [] (fun t ht => by have := seqI_mem ht; omega) (by rw [seqI_len, List.length_nil]; omega)
  refine (fnG_ev rfl).trans ?_
  have s1 : sExpr (mFr (mCall m_check_tick (mCons (mVar 1) mNil))) [some (wS p), some (.int a), some (.int c), none, none, none, none] S = .ok (.nx [some (wS p), some (.int a), some (.int c), none, none, none, none]) S := by simp -implicitDefEqProofs [e1]
  have s2 : sIf (mNot (mB (mFr (mCall m_is_int_in (mCons (mVar 2) (mCons (mOp opSub (mVar 1) (mC (.int 1))) (mCons (mCall bMin (mCons (mC (.int 1000000000000000000)) (mCons (mOp opSub (mOp opAdd (mVar 1) (mC (.int 1000))) (mC (.int 1))) mNil))) mNil))))))) (sRaise0 .InvalidTick) sNext [some (wS p), some (.int a), some (.int c), none, none, none, none] S = .ok (.nx [some (wS p), some (.int a), some (.int c), none, none, none, none]) S := by
    simp -implicitDefEqProofs [em, e3]
  have s3 : sSet 3 (mFr (mCall (newR .Story m_Story___init__) (mCons (mVar 0) mNil))) [some (wS p), some (.int a), some (.int c), none, none, none, none] S = .ok (.nx [some (wS p), some (.int a), some (.int c), some (wSy p), none, none, none]) S := by simp -implicitDefEqProofs [e2]
  have s4 : iR2 (mCons (mVar 1) (mCons (mOp opAdd (mVar 2) (mC (.int 1))) mNil)) [some (wS p), some (.int a), some (.int c), some (wSy p), none, none, none] S = .ok ((seqI a (c + 1 - a).toNat).map W.int) S := by simp -implicitDefEqProofs [e4]
  have key : b_presses_between [] [some (wS p), some (.int a), some (.int c), none, none, none, none] S = .ok (tellP p (seqI a (c + 1 - a).toNat), .nx [some (wS p), some (.int a), some (.int c), some (wSy p), y4, y5, y6]) S := by
    unfold b_presses_between
    rw [gSeq_nx (gPl_ok s1), gSeq_nx (gPl_ok s2), gSeq_nx (gPl_ok s3), gSeq_nx ((gFor_ok s4).trans e5)]
    rfl
  exact congrArg endG key
/-! ### who stands in the dark -/
theorem run_in_dark (ok : p.Ok) {t : Int} (h0 : 0 ≤ t) (h1 : t ≤ 1000000000000000000) : m_in_dark [wS p, .int t] S = .ok (.loc S.length) (S ++ [.lst ((scn p t).dark.map W.int)]) := by
  have e1 : ∀ U, frR U (m_check_tick [.int t] U) = .ok .non U := fun U => run_check_tick h0 h1
  have e2 : ∀ U, frR U (newR .Story m_Story___init__ [wS p] U) = .ok (wSy p) U := fun U => new_wSy ok
  have e3 : ∀ U, frR U (m_Story_scene [wSy p, .int t] U) = .ok (wSc (scn p t)) U := fun U => run_sceneAt ok h0
  refine (fnM_ev rfl).trans ?_
  simp -implicitDefEqProofs [b_in_dark, e1, e2, e3]
theorem run_in_darkF (ok : p.Ok) {t : Int} (h0 : 0 ≤ t) (h1 : t ≤ 1000000000000000000) : frR S (m_in_dark [wS p, .int t] S) = .ok (.lst ((scn p t).dark.map W.int)) S := by
  rw [run_in_dark ok h0 h1]
  exact frR_app (frz_locL at_app0 (Nat.le_refl _) (frz_ints 14))
/-! ### the first ticks, one by the other -/
def dayL (p : Pt) : Nat → Int
  | 0 => 0
  | k + 1 => (scn p (k : Int)).light
theorem dayL_succ {k : Nat} : dayL p (k + 1) = (scn p (k : Int)).light := rfl
theorem scn_day (ok : p.Ok) : ∀ k : Nat, scn p (k : Int) = scene p (dayL p k) (k : Int)
  | 0 => scn_zero ok
  | k + 1 => scn_step ok k
end
end SL
set_option Elab.async false
set_option linter.all false
set_option maxRecDepth 100000
set_option maxHeartbeats 4000000
namespace SL
open PySem PySem.Spec PyProof.Rows L2
section
variable {p : Pt} {S : Sto}
theorem run_some_tick {D : List Int} (g : Dr D) : ∃ (t : Nat) (D' : List Int), Dr D' ∧ t ≤ 1000000000000000000 ∧ ∀ D0 T, frR (dst D0 T) (m_l_some_tick [.loc 0] (dst D T)) = .ok (.int (t : Int)) (dst D' T) := by
  obtain ⟨a, D1, g1, a1, b1, e1⟩ := draw g (lim := 120) (by omega) (by omega)
  obtain ⟨b, D2, g2, a2, b2, e2⟩ := draw g1 (lim := 1000000) (by omega) (by omega)
  obtain ⟨c, D3, g3, a3, b3, e3⟩ := draw g2 (lim := 2) (by omega) (by omega)
  have p1 : ∀ U, opPow (.int 10) (.int 18) U = .ok (.int 1000000000000000000) U := fun U => by
    show (if 0 ≤ (18 : Int) ∧ (18 : Int) ≤ 1000000 ∧ (10 : Int).natAbs < 2 ^ 64 then (Res.ok (W.int ((10 : Int) ^ (18 : Int).toNat)) U : Res W) else .stuck) = _
    rw [if_pos (by decide)]
    rfl
  have p2 : ∀ U, opPow (.int 10) (.int 6) U = .ok (.int 1000000) U := fun U => by
    show (if 0 ≤ (6 : Int) ∧ (6 : Int) ≤ 1000000 ∧ (10 : Int).natAbs < 2 ^ 64 then (Res.ok (W.int ((10 : Int) ^ (6 : Int).toNat)) U : Res W) else .stuck) = _
    rw [if_pos (by decide)]
    rfl
  have fin : ∀ t : Nat, (∀ U, opIx (.lst [.int a, .int (1000000000000000000 - b)]) (.int c) U = .ok (.int (t : Int)) U) → ∀ D0 T, frR (dst D0 T) (m_l_some_tick [.loc 0] (dst D T)) = .ok (.int (t : Int)) (dst D3 T) := fun t ht D0 T => by
    have key : m_l_some_tick [.loc 0] (dst D T) = .ok (.int (t : Int)) (dst D3 T) := by
      refine (fnM_ev rfl).trans ?_
      simp -implicitDefEqProofs [b_l_some_tick, e1, p1, p2, e2, e3, ht, -opIx_lst]
    rw [key]
    exact fr_dst (D := D0) rfl
  rcases (show c = 0 ∨ c = 1 by omega) with rfl | rfl
  · exact ⟨a.toNat, D3, g3, by omega, fin _ fun U => by rw [show ((a.toNat : Nat) : Int) = a by omega]; rfl⟩
  · exact ⟨(1000000000000000000 - b).toNat, D3, g3, by omega, fin _ fun U => by rw [show (((1000000000000000000 - b).toNat : Nat) : Int) = 1000000000000000000 - b by omega]; rfl⟩
end
end SL
set_option Elab.async false
set_option linter.all false
set_option maxRecDepth 100000
set_option maxHeartbeats 4000000
set_option Elab.async false
set_option linter.all false
set_option maxRecDepth 100000
set_option maxHeartbeats 4000000
set_option Elab.async false
set_option linter.all false
set_option maxRecDepth 100000
set_option maxHeartbeats 4000000
set_option Elab.async false
set_option linter.all false
set_option maxRecDepth 100000
set_option maxHeartbeats 2000000
namespace SL
open PySem PySem.Spec PyProof.Rows L2
section
variable {p : Pt} {S : Sto}
/-! ### first_dark, darkest_tick -/
def firstD : Nat → List Sc → Option (Nat × List Int)
  | _, [] => none
  | k, s :: r => if s.dark.isEmpty then firstD (k + 1) r else some (k, s.dark)
theorem first_loop : ∀ (fs : List Sc) (k : Nat) (x0 x1 x2 : Option W), match firstD k fs with
    | none => ∃ y1 y2, sForL (.t [1, 2]) f_first_dark_1 (enumA k (fs.map wSc)) [x0, x1, x2] S = .ok (.nx [x0, y1, y2]) S
    | some (j, d) => sForL (.t [1, 2]) f_first_dark_1 (enumA k (fs.map wSc)) [x0, x1, x2] S = .ok (.rt (.tup [.int j, .loc S.length])) (S ++ [.lst (d.map W.int)])
  | [], k, x0, x1, x2 => ⟨x1, x2, rfl⟩
  | s :: fs, k, x0, x1, x2 => by
    have e2 : ∀ S', opNe (.lst (s.dark.map W.int)) (.lst []) S' = .ok (.bl (!s.dark.isEmpty)) S' := fun S' => opNe_ints rfl
    unfold firstD
    cases h : s.dark.isEmpty with
    | true =>
      rw [if_pos rfl]
      have hb : f_first_dark_1 [x0, some (.int k), some (wSc s)] S = .ok (.nx [x0, some (.int k), some (wSc s)]) S := by
        simp -implicitDefEqProofs [f_first_dark_1, e2, h]
      have ih := first_loop fs (k + 1) x0 (some (.int k)) (some (wSc s))
      have hs : sForL (.t [1, 2]) f_first_dark_1 (enumA k ((s :: fs).map wSc)) [x0, x1, x2] S = sForL (.t [1, 2]) f_first_dark_1 (enumA (k + 1) (fs.map wSc)) [x0, some (.int k), some (wSc s)] S := sForL_nx (r1 := _) rfl hb
      rw [hs]
      exact ih
    | false =>
      rw [if_neg (by simp)]
      have hb : f_first_dark_1 [x0, some (.int k), some (wSc s)] S = .ok (.rt (.tup [.int k, .loc S.length])) (S ++ [.lst (s.dark.map W.int)]) := by
        simp -implicitDefEqProofs [f_first_dark_1, e2, h]
      exact sForL_rt (r1 := _) rfl hb
def firstW (n : Nat) : Option (Nat × List Int) → W
  | none => .non
  | some (j, _) => .tup [.int j, .loc n]
def firstS (S : Sto) : Option (Nat × List Int) → Sto
  | none => S
  | some (_, d) => S ++ [.lst (d.map W.int)]
theorem run_first_dark (ok : p.Ok) : m_first_dark [wS p] S = .ok (firstW S.length (firstD 0 (story p).1)) (firstS S (firstD 0 (story p).1)) := by
  have e1 : ∀ U, frR U (newR .Story m_Story___init__ [wS p] U) = .ok (.obj .Story [.lst ((story p).1.map wSc), .int (story p).2]) U := fun U => run_Story2 ok
  have e2 := enumW_eq ((story p).1.map wSc)
  have e3 : ∀ U xs y, fld .Story .scenes (.obj .Story [.lst xs, y]) U = .ok (.lst xs) U := fun U xs y => rfl
  have h := first_loop (S := S) (story p).1 0 (some (wS p)) none none
  refine (fnM_ev rfl).trans ?_
  cases hf : firstD 0 (story p).1 with
  | none =>
    rw [hf] at h
    obtain ⟨y1, y2, e⟩ := h
    simp -implicitDefEqProofs [b_first_dark, e1, e2, e3, e, firstW, firstS]
  | some q =>
    obtain ⟨j, d⟩ := q
    rw [hf] at h
    dsimp only at h
    simp -implicitDefEqProofs [b_first_dark, e1, e2, e3, h, firstW, firstS]
end
end SL
set_option Elab.async false
set_option linter.all false
set_option maxRecDepth 100000
set_option maxHeartbeats 4000000
set_option Elab.async false
set_option linter.all false
set_option maxRecDepth 100000
set_option maxHeartbeats 4000000
set_option Elab.async false
set_option linter.all false
set_option maxRecDepth 100000
set_option maxHeartbeats 0
set_option Elab.async false
set_option linter.all false
set_option maxRecDepth 100000
set_option maxHeartbeats 2000000
set_option Elab.async false
set_option linter.all false
set_option maxRecDepth 100000
set_option maxHeartbeats 0
set_option Elab.async false
set_option linter.all false
set_option maxRecDepth 100000
set_option maxHeartbeats 4000000
namespace SL
open PySem PySem.Spec PyProof.Rows L2
section
variable {p : Pt} {S : Sto}
theorem scn_dark (ok : p.Ok) (k : Nat) : (scn p (k : Int)).dark.length ≤ 8 := by
  have hn := ok.n
  have h := (wkl_pw (p := p) (k : Int) p.trips 0).2
  rw [scn_day ok k, scene_is]
  dsimp only
  split
  · omega
  · simp
theorem tellP_few (ok : p.Ok) : ∀ us : List Int, (∀ t ∈ us, 0 ≤ t) → (tellP p us).length ≤ 400 * us.length
  | [], _ => by simp [tellP]
  | u :: us, hu => by
    have h1 := tellP_few ok us fun v hv => hu v (List.mem_cons_of_mem _ hv)
    have h2 := scn_few ok (hu u List.mem_cons_self)
    unfold tellP at h1 ⊢
    rw [List.flatMap_cons, List.length_append, List.length_map, List.length_cons]
    omega
end
end SL
set_option Elab.async false
set_option linter.all false
set_option maxRecDepth 100000
set_option maxHeartbeats 4000000
namespace SL
open PySem PySem.Spec PyProof.Rows L2
section
variable {p : Pt} {S : Sto} {i : Int}
def fkW : Option (Nat × List Int) → W
  | none => .non
  | some (j, d) => .tup [.int j, .lst (d.map W.int)]
theorem run_first_darkF (ok : p.Ok) : frR S (m_first_dark [wS p] S) = .ok (fkW (firstD 0 (story p).1)) S := by
  rw [run_first_dark ok]
  cases firstD 0 (story p).1 with
  | none =>
    have : frR S (.ok .non (S ++ [])) = .ok .non S := frR_app rfl
    rw [List.append_nil] at this
    exact this
  | some q =>
    obtain ⟨j, d⟩ := q
    exact frR_app (frz_tup (frzL_cons rfl (frzL_cons (frz_locL at_app0 (Nat.le_refl _) (frz_ints 13)) frzL_nil)))
theorem opEq_self {a b : W} {d : PyData} (ha : dat (seeL S a) = some d) (hb : dat (seeL S b) = some d) (h : SeqAt.shaped d = true) : opEq a b S = .ok (.bl true) S := by
  have := opNe_self ha hb h
  rw [opNe_ok ha hb h h] at this
  rw [opEq_ok ha hb h h]
  have e : (!PyData.eqv d d) = false := by
    have := Res.ok.inj this
    exact W.bl.inj this.1
  rw [show PyData.eqv d d = true by simpa using e]
end
end SL
set_option Elab.async false
set_option linter.all false
set_option maxRecDepth 100000
set_option maxHeartbeats 0
set_option Elab.async false
set_option linter.all false
set_option maxRecDepth 100000
set_option maxHeartbeats 4000000
set_option Elab.async false
set_option linter.all false
set_option maxRecDepth 100000
set_option maxHeartbeats 4000000
namespace SL
open PySem PySem.Spec PyProof.Rows L2
/-! ### rounds, presses -/
section
variable {p : Pt} {S : Sto} {μ : Sc → Int}
theorem firstD_all : ∀ (fs : List Sc) (k : Nat), (firstD k fs).isNone = fs.all fun s => s.dark.isEmpty
  | [], _ => rfl
  | s :: fs, k => by
    unfold firstD
    rw [List.all_cons]
    cases h : s.dark.isEmpty with
    | true => rw [if_pos rfl, firstD_all fs (k + 1)]; rfl
    | false => rfl
theorem isNon_fk (p : Pt) : isNon (fkW (firstD 0 (story p).1)) = bright p := by
  have h := firstD_all (story p).1 0
  unfold bright
  rw [← h]
  cases firstD 0 (story p).1 <;> rfl
end
end SL
set_option Elab.async false
set_option linter.all false
set_option maxRecDepth 100000
set_option maxHeartbeats 0
set_option Elab.async false
set_option linter.all false
set_option maxRecDepth 100000
set_option maxHeartbeats 4000000
namespace SL
open PySem PySem.Spec PyProof.Rows L2
section
variable {p : Pt} {S : Sto}
/-- the presses of a hundred ticks -/
theorem tell_at (p : Pt) (ts : List Int) : tellP p ts = (ts.flatMap fun t => (scn p t).presses.map fun a => (t, a)).map fun q : Int × (Int × Int) => wPr3 q.1 q.2 := by
  unfold tellP
  rw [List.map_flatMap]
  congr 1
  funext t
  rw [List.map_map]
  rfl
end
end SL
set_option Elab.async false
set_option linter.all false
set_option maxRecDepth 100000
set_option maxHeartbeats 4000000
namespace SL
open PySem PySem.Spec PyProof.Rows L2
/-! ### presses_between, told to a consumer that works between two values -/
section
variable {p : Pt} {S : Sto} {Sq : Nat → Sto} {zs : List W}
theorem gYdZ_ok {e : M W} {w : W} {ws : List W} {r : Rho} (h : e r (Sq ws.length) = .ok w (Sq ws.length)) (hl : ws.length < 16000000) (hz : ws ++ [w] <+: zs) : gYdZ Sq zs e ws r (Sq ws.length) = .ok (ws ++ [w], .nx r) (Sq (ws.length + 1)) := by
  unfold gYdZ
  rw [if_pos hl, h]
  exact if_pos ⟨rfl, hz⟩
theorem yd_pressZ {t : Int} {a c : Int} {x0 x1 x2 x3 : Option W} {ws : List W} (hl : ws.length < 16000000) (hz : ws ++ [wPr3 t (a, c)] <+: zs) : f_presses_betweenZ_1 Sq zs ws [x0, x1, x2, x3, some (.int t), some (.int a), some (.int c)] (Sq ws.length) = .ok (ws ++ [wPr3 t (a, c)], .nx [x0, x1, x2, x3, some (.int t), some (.int a), some (.int c)]) (Sq (ws.length + 1)) := by
  have e : ∀ U, mTup (mCons (mVar 4) (mCons (mVar 5) (mCons (mVar 6) mNil))) [x0, x1, x2, x3, some (.int t), some (.int a), some (.int c)] U = .ok (wPr3 t (a, c)) U := fun U => by simp [wPr3]
  exact gSeq_nx (gYdZ_ok (e _) hl hz)
theorem press_inZ {t : Int} (x0 x1 x2 x3 : Option W) : ∀ (ps : Prs) (x5 x6 : Option W) (ws : List W), ws.length + ps.length < 16000000 → ws ++ ps.map (wPr3 t) <+: zs → ∃ y5 y6,
    gForL (.t [5, 6]) (f_presses_betweenZ_1 Sq zs) (ps.map wPr) ws [x0, x1, x2, x3, some (.int t), x5, x6] (Sq ws.length) = .ok (ws ++ ps.map (wPr3 t), .nx [x0, x1, x2, x3, some (.int t), y5, y6]) (Sq (ws.length + ps.length))
  | [], x5, x6, ws, _, _ => ⟨x5, x6, by rw [List.map_nil, List.map_nil, List.append_nil]; rfl⟩
  | (a, c) :: ps, x5, x6, ws, h, hz => by
    simp only [List.length_cons] at h
    have hz1 : ws ++ [wPr3 t (a, c)] ++ ps.map (wPr3 t) <+: zs := by
      rw [List.append_assoc]
      exact hz
    obtain ⟨y5, y6, e⟩ := press_inZ x0 x1 x2 x3 ps (some (.int a)) (some (.int c)) (ws ++ [wPr3 t (a, c)]) (by simp; omega) hz1
    refine ⟨y5, y6, ?_⟩
    rw [List.length_append, List.length_singleton] at e
    rw [List.map_cons, gForL_nx (r1 := [x0, x1, x2, x3, some (.int t), some (.int a), some (.int c)]) rfl (yd_pressZ (by omega) ((List.prefix_append _ _).trans hz1)), e, List.map_cons, List.append_assoc, List.length_cons, Nat.add_assoc ws.length 1, Nat.add_comm 1]
    rfl
theorem press_outZ (ok : p.Ok) (x0 x1 x2 : Option W) : ∀ (ts : List Int) (x4 x5 x6 : Option W) (ws : List W), (∀ t ∈ ts, 0 ≤ t) → ws.length + 400 * ts.length < 16000000 → ws ++ tellP p ts <+: zs → ∃ y4 y5 y6,
    gForL (.n 4) (f_presses_betweenZ_2 Sq zs) (ts.map W.int) ws [x0, x1, x2, some (wSy p), x4, x5, x6] (Sq ws.length) = .ok (ws ++ tellP p ts, .nx [x0, x1, x2, some (wSy p), y4, y5, y6]) (Sq (ws.length + (tellP p ts).length))
  | [], x4, x5, x6, ws, _, _, _ => ⟨x4, x5, x6, by show _ = Res.ok (ws ++ [], _) (Sq (ws.length + 0)); rw [List.append_nil]; rfl⟩
  | t :: ts, x4, x5, x6, ws, h0, h, hz => by
    have ht := h0 t List.mem_cons_self
    have hf := scn_few ok ht
    have tc : tellP p (t :: ts) = (scn p t).presses.map (wPr3 t) ++ tellP p ts := rfl
    rw [tc, ← List.append_assoc] at hz
    simp only [List.length_cons] at h
    have e1 : ∀ U, frR U (m_Story_scene [wSy p, .int t] U) = .ok (wSc (scn p t)) U := fun U => run_sceneAt ok ht
    obtain ⟨z5, z6, e2⟩ := press_inZ (t := t) x0 x1 x2 (some (wSy p)) (scn p t).presses x5 x6 ws (by omega) ((List.prefix_append _ _).trans hz)
    have hi : iL (mFld .Scene .presses (mFr (mMeth .Story m_Story_scene (mVar 3) (mCons (mVar 4) mNil)))) [x0, x1, x2, some (wSy p), some (.int t), x5, x6] (Sq ws.length) = .ok ((scn p t).presses.map wPr) (Sq ws.length) := by
      simp -implicitDefEqProofs [e1]
    have hb : f_presses_betweenZ_2 Sq zs ws [x0, x1, x2, some (wSy p), some (.int t), x5, x6] (Sq ws.length) = .ok (ws ++ (scn p t).presses.map (wPr3 t), .nx [x0, x1, x2, some (wSy p), some (.int t), z5, z6]) (Sq (ws.length + (scn p t).presses.length)) :=
      gSeq_nx ((gFor_ok hi).trans e2)
    obtain ⟨y4, y5, y6, e⟩ := press_outZ ok x0 x1 x2 ts (some (.int t)) z5 z6 (ws ++ (scn p t).presses.map (wPr3 t)) (fun u hu => h0 u (List.mem_cons_of_mem _ hu)) (by simp; omega) hz
    refine ⟨y4, y5, y6, ?_⟩
    rw [List.length_append, List.length_map] at e
    rw [List.map_cons, gForL_nx (r1 := [x0, x1, x2, some (wSy p), some (.int t), x5, x6]) rfl hb, e, tc, List.append_assoc, List.length_append, List.length_map, Nat.add_assoc]
theorem run_pressesZ (ok : p.Ok) {a c : Int} (h0 : 0 ≤ a) (h1 : a ≤ 1000000000000000000) (h2 : a - 1 ≤ c) (h3 : c ≤ 1000000000000000000) (h4 : c ≤ a + 999) :
    mz_presses_between Sq (tellP p (seqI a (c + 1 - a).toNat)) [wS p, .int a, .int c] (Sq 0) = .ok (tellP p (seqI a (c + 1 - a).toNat)) (Sq (tellP p (seqI a (c + 1 - a).toNat)).length) := by
  have e1 : ∀ U, frR U (m_check_tick [.int a] U) = .ok .non U := fun U => run_check_tick h0 h1
  have e2 : ∀ U, frR U (newR .Story m_Story___init__ [wS p] U) = .ok (wSy p) U := fun U => new_wSy ok
  have em : ∀ U, bMin [.int 1000000000000000000, .int (a + 1000 - 1)] U = .ok (.int (if a + 1000 - 1 < 1000000000000000000 then a + 1000 - 1 else 1000000000000000000)) U := fun U => by
    simp [bMin]
  have e3 : ∀ U, frR U (m_is_int_in [.int c, .int (a - 1), .int (if a + 1000 - 1 < 1000000000000000000 then a + 1000 - 1 else 1000000000000000000)] U) = .ok (.bl true) U := fun U => by
    rw [run_in h2 (by split <;> omega), frR_bl]
  have e4 : ∀ U, itR2 [.int a, .int (c + 1)] U = .ok ((seqI a (c + 1 - a).toNat).map W.int) U := fun U => by rw [itR2_ev (by omega) (by omega) (by omega) (by omega), rngW_seqI]
  obtain ⟨zs, hzs⟩ : ∃ zs, zs = tellP p (seqI a (c + 1 - a).toNat) := ⟨_, rfl⟩
  obtain ⟨y4, y5, y6, e5⟩ := press_outZ (Sq := Sq) (zs := zs) ok (some (wS p)) (some (.int a)) (some (.int c)) (seqI a (c + 1 - a).toNat) none none none [] (fun t ht => by have := seqI_mem ht; omega) (by rw [seqI_len, List.length_nil]; omega) (by rw [hzs]; exact List.prefix_refl _)
  rw [← hzs] at e5 ⊢
  refine (fnG_ev rfl).trans ?_
  have s1 : sExpr (mFr (mCall m_check_tick (mCons (mVar 1) mNil))) [some (wS p), some (.int a), some (.int c), none, none, none, none] (Sq 0) = .ok (.nx [some (wS p), some (.int a), some (.int c), none, none, none, none]) (Sq 0) := by simp -implicitDefEqProofs [e1]
  have s2 : sIf (mNot (mB (mFr (mCall m_is_int_in (mCons (mVar 2) (mCons (mOp opSub (mVar 1) (mC (.int 1))) (mCons (mCall bMin (mCons (mC (.int 1000000000000000000)) (mCons (mOp opSub (mOp opAdd (mVar 1) (mC (.int 1000))) (mC (.int 1))) mNil))) mNil))))))) (sRaise0 .InvalidTick) sNext [some (wS p), some (.int a), some (.int c), none, none, none, none] (Sq 0) = .ok (.nx [some (wS p), some (.int a), some (.int c), none, none, none, none]) (Sq 0) := by
    simp -implicitDefEqProofs [em, e3]
  have s3 : sSet 3 (mFr (mCall (newR .Story m_Story___init__) (mCons (mVar 0) mNil))) [some (wS p), some (.int a), some (.int c), none, none, none, none] (Sq 0) = .ok (.nx [some (wS p), some (.int a), some (.int c), some (wSy p), none, none, none]) (Sq 0) := by simp -implicitDefEqProofs [e2]
  have s4 : iR2 (mCons (mVar 1) (mCons (mOp opAdd (mVar 2) (mC (.int 1))) mNil)) [some (wS p), some (.int a), some (.int c), some (wSy p), none, none, none] (Sq 0) = .ok ((seqI a (c + 1 - a).toNat).map W.int) (Sq 0) := by simp -implicitDefEqProofs [e4]
  have key : b_presses_betweenZ Sq zs [] [some (wS p), some (.int a), some (.int c), none, none, none, none] (Sq 0) = .ok (zs, .nx [some (wS p), some (.int a), some (.int c), some (wSy p), y4, y5, y6]) (Sq zs.length) := by
    unfold b_presses_betweenZ
    rw [List.length_nil, Nat.zero_add, List.nil_append] at e5
    rw [gSeq_nx (gPl_ok s1), gSeq_nx (gPl_ok s2), gSeq_nx (gPl_ok s3), gSeq_nx ((gFor_ok s4).trans e5)]
    rfl
  exact congrArg endG key
end
/-! ### the comprehension -/
theorem lcZ_map {α : Type} (i j : α → W) {T : Tg} {te : M W} {r : Rho} {S0 : Sto} : ∀ (as : List α) (acc : List W), (∀ a ∈ as, ∃ r1, T.run (i a) r = some r1 ∧ ∀ U, te r1 U = .ok (j a) U) → lcZ T te r S0 (as.map i) acc = some (acc ++ as.map j)
  | [], acc, _ => by rw [List.map_nil, List.map_nil, List.append_nil]; rfl
  | a :: as, acc, h => by
    obtain ⟨r1, h1, h2⟩ := h a List.mem_cons_self
    rw [List.map_cons, lcZ, h1]
    dsimp only
    rw [h2]
    dsimp only
    rw [if_pos rfl, lcZ_map i j as _ (fun b hb => h b (List.mem_cons_of_mem _ hb)), List.map_cons, List.append_assoc]
    rfl
theorem mLcZ_map {α : Type} (i j : α → W) {vs : List Nat} {T : Tg} {g : GnM} {gz : GnZ} {t : M (List W)} {te : M W} {r : Rho} {S S1 S2 : Sto} {ws : List W} (as : List α) (ht : t r S = .ok ws S1) (hg : g ws S1 = .ok (as.map i) S2) (hv : T.slots.all vs.contains = true)
    (h : ∀ a ∈ as, ∃ r1, T.run (i a) (wipeR r vs) = some r1 ∧ ∀ U, te r1 U = .ok (j a) U) (hn : ∀ a ∈ as, nol 14 (j a) = true) (hl : as.length < 16000000) (hz : ∀ Sq : Nat → Sto, gz Sq (as.map i) ws (Sq 0) = .ok (as.map i) (Sq (as.map i).length)) :
    mLcZ vs T g gz t te r S = .ok (.lst (as.map j)) S1 := by
  have hc : clos S1.length (as.map j) = true := clos_nol (k := 14) (List.all_eq_true.mpr fun y hy => by
    obtain ⟨x, hx, rfl⟩ := List.mem_map.mp hy
    exact hn x hx)
  unfold mLcZ
  rw [ht]
  dsimp only
  rw [hg]
  dsimp only
  rw [lcZ_map i j as [] h, List.nil_append]
  dsimp only
  rw [if_pos ⟨hv, by rw [List.length_map]; exact hl, hc, hz _⟩]
end SL
set_option Elab.async false
set_option linter.all false
set_option maxRecDepth 100000
set_option maxHeartbeats 4000000
set_option Elab.async false
set_option linter.all false
set_option maxRecDepth 100000
set_option maxHeartbeats 4000000
namespace SL
open PySem PySem.Spec PyProof.Rows L2
/-! ### what the story tells, by the scenes of all ticks -/
section
variable {p q : Pt} {S : Sto}
theorem story_mem (ok : p.Ok) {s : Sc} : s ∈ (story p).1 ↔ ∃ t : Nat, s = scn p (t : Int) := by
  refine ⟨fun h => ?_, fun ⟨t, e⟩ => ?_⟩
  · obtain ⟨i, hi, e⟩ := List.mem_iff_getElem.mp h
    have := scn_at ok hi
    rw [List.getElem?_eq_getElem hi, e] at this
    exact ⟨i, Option.some.inj this⟩
  · subst e
    exact List.mem_of_getElem? (plc_at ok (by omega))
theorem bright_all (ok : p.Ok) : bright p = true ↔ ∀ t : Nat, (scn p (t : Int)).dark = [] := by
  unfold bright
  rw [List.all_eq_true]
  exact ⟨fun h t => List.isEmpty_iff.mp (h _ ((story_mem ok).mpr ⟨t, rfl⟩)), fun h s hs => by
    obtain ⟨t, rfl⟩ := (story_mem ok).mp hs
    exact List.isEmpty_iff.mpr (h t)⟩
theorem bright_congr (okp : p.Ok) (okq : q.Ok) (h : (∀ t : Nat, (scn p (t : Int)).dark = []) ↔ ∀ t : Nat, (scn q (t : Int)).dark = []) : bright p = bright q :=
  Bool.eq_iff_iff.mpr ((bright_all okp).trans (h.trans (bright_all okq).symm))
theorem brightTimes_congr (h : ∀ x : Int, 1 ≤ x → x ≤ 60 → bright (withTime p x) = bright (withTime q x)) : brightTimes p = brightTimes q := by
  unfold brightTimes
  exact List.filter_congr fun x hx => h x (times_range hx).1 (times_range hx).2
end
end SL
set_option Elab.async false
set_option linter.all false
set_option maxRecDepth 100000
set_option maxHeartbeats 8000000
set_option Elab.async false
set_option linter.all false
set_option maxRecDepth 100000
set_option maxHeartbeats 8000000
set_option Elab.async false
set_option linter.all false
set_option maxRecDepth 100000
set_option maxHeartbeats 4000000
namespace SL
open PySem PySem.Spec PyProof.Rows L2
section
variable {p : Pt} {S : Sto}
@[simp] theorem mSortSetF_ev {r : Rho} (m : M W) : mSortSetF m r S = (m r S).bd fun w S1 => oc (getIs S1 w) (fun ns => bc (decide ((sortS ns).length < 64)) (.ok (.lst ((sortS ns).map W.int)) S1) .stuck) .stuck := by
  simp only [mSortSetF, bind_ev]
  cases m r S with
  | ok w S1 =>
    simp only [bd_ok]
    cases getIs S1 w with
    | none => rfl
    | some ns =>
      simp only [oc_some]
      split
      · rename_i h
        rw [decide_eq_true h, bc_true]
      · rename_i h
        rw [decide_eq_false h, bc_false]
  | exc c ws S1 => rfl
  | stuck => rfl
/-- all presses of some ticks: (tick, (trip, floor)) -/
def tellQ (p : Pt) (ts : List Int) : List (Int × (Int × Int)) := ts.flatMap fun t => (scn p t).presses.map fun a => (t, a)
theorem tellP_Q (p : Pt) (ts : List Int) : tellP p ts = (tellQ p ts).map fun q => wPr3 q.1 q.2 := tell_at p ts
theorem tellQ_len (p : Pt) (ts : List Int) : (tellQ p ts).length = (tellP p ts).length := by rw [tellP_Q, List.length_map]
end
end SL
set_option Elab.async false
set_option linter.all false
set_option maxRecDepth 100000
set_option maxHeartbeats 4000000
namespace SL
open PySem PySem.Spec PyProof.Rows L2
/-! ### a scene, part by part -/
section
variable {p : Pt} {S : Sto}
def innerF (time : Int) (t : Tr) : Int → List Int → Int × List Int
  | now, [] => (now, [])
  | now, a :: as => match t.fl a with
    | none => innerF time t now as
    | some f => bif t.press now then ((innerF time t time as).1, f :: (innerF time t time as).2) else innerF time t now as
theorem inner_eq (time : Int) (t : Tr) (k : Int) : ∀ (as : List Int) (now : Int) (ps : Prs), inner time t k now ps as = ((innerF time t now as).1, ps ++ (innerF time t now as).2.map fun f => (k, f))
  | [], now, ps => by
    show (now, ps) = (now, ps ++ [])
    rw [List.append_nil]
  | a :: as, now, ps => by
    unfold inner innerF
    cases t.fl a with
    | none => exact inner_eq time t k as now ps
    | some f =>
      cases t.press now with
      | true =>
        simp only [cond_true]
        rw [inner_eq time t k as time (ps ++ [(k, f)]), List.append_assoc]
        rfl
      | false => exact inner_eq time t k as now ps
theorem innerF_never (time : Int) {t : Tr} (ht : t.habit = "never") : ∀ (as : List Int) (now : Int), innerF time t now as = (now, [])
  | [], _ => rfl
  | a :: as, now => by
    have hp : t.press now = false := by
      unfold Tr.press
      rw [ht, show decide (("never" : Str) = "always") = false by decide, show decide (("never" : Str) = "dark") = false by decide]
      rfl
    unfold innerF
    cases t.fl a with
    | none => exact innerF_never time ht as now
    | some f =>
      dsimp only
      rw [hp]
      exact innerF_never time ht as now
def outF (p : Pt) (tick : Int) : Nat → List Tr → Int → Int × Prs × List Int
  | _, [], now => (now, [], [])
  | k, t :: ts, now => ((outF p tick (k + 1) ts (innerF p.time t now (ages p t tick)).1).1, (innerF p.time t now (ages p t tick)).2.map (fun f => ((k : Int), f)) ++ (outF p tick (k + 1) ts (innerF p.time t now (ages p t tick)).1).2.1,
      (if (ages p t tick).isEmpty then [] else [(k : Int)]) ++ (outF p tick (k + 1) ts (innerF p.time t now (ages p t tick)).1).2.2)
theorem outer_eq (tick : Int) : ∀ (ts : List Tr) (k : Nat) (now : Int) (ps : Prs) (wk : List Int), outer p tick k ts now ps wk = ((outF p tick k ts now).1, ps ++ (outF p tick k ts now).2.1, wk ++ (outF p tick k ts now).2.2)
  | [], k, now, ps, wk => by
    show (now, ps, wk) = (now, ps ++ [], wk ++ [])
    rw [List.append_nil, List.append_nil]
  | t :: ts, k, now, ps, wk => by
    unfold outer outF
    rw [inner_eq, outer_eq tick ts (k + 1)]
    dsimp only
    rw [List.append_assoc]
    cases (ages p t tick).isEmpty with
    | true => rfl
    | false =>
      simp only [Bool.false_eq_true, if_false]
      rw [List.append_assoc]
theorem scene_F (light tick : Int) : scene p light tick = ⟨(outF p tick 0 p.trips (dim light)).1, (outF p tick 0 p.trips (dim light)).2.1, if (outF p tick 0 p.trips (dim light)).1 = 0 then (outF p tick 0 p.trips (dim light)).2.2 else []⟩ := by
  unfold scene
  rw [outer_eq]
  rfl
/-! ### some of the trips -/
theorem fd_none {q : Pt} (okp : p.Ok) (okq : q.Ok) (h : ∀ t : Nat, (scn p (t : Int)).light = (scn q (t : Int)).light) : firstDiff p q = none := by
  have hs := firstDiff_spec okp okq
  cases hf : firstDiff p q with
  | none => rfl
  | some r =>
    obtain ⟨t, b⟩ := r
    rw [hf] at hs
    refine absurd ?_ hs.2.2.1
    unfold burn
    rw [h t]
end
end SL
set_option Elab.async false
set_option linter.all false
set_option maxRecDepth 100000
set_option maxHeartbeats 4000000
namespace SL
open PySem PySem.Spec PyProof.Rows L2
/-! ### rounds of twice the length -/
section
variable {p : Pt} {S : Sto}
def shT (L : Int) (t : Tr) : Tr := ⟨t.start + L, t.source, t.target, t.pace, t.habit⟩
def dblT (L : Int) : List Tr → List Tr
  | [] => []
  | t :: ts => t :: shT L t :: dblT L ts
def dbl (p : Pt) : Pt := ⟨p.top, 2 * p.length, p.time, dblT p.length p.trips⟩
theorem dblT_len (L : Int) : ∀ ts : List Tr, (dblT L ts).length = 2 * ts.length
  | [] => rfl
  | t :: ts => by
    show (dblT L ts).length + 1 + 1 = 2 * (ts.length + 1)
    rw [dblT_len L ts]
    omega
theorem dblT_mem {L : Int} {u : Tr} : ∀ {ts : List Tr}, u ∈ dblT L ts → ∃ t ∈ ts, u = t ∨ u = shT L t
  | t :: ts, h => by
    rcases List.mem_cons.mp h with rfl | h
    · exact ⟨_, List.mem_cons_self, .inl rfl⟩
    · rcases List.mem_cons.mp h with rfl | h
      · exact ⟨t, List.mem_cons_self, .inr rfl⟩
      · obtain ⟨v, hv, e⟩ := dblT_mem h
        exact ⟨v, List.mem_cons_of_mem _ hv, e⟩
theorem dbl_ok (ok : p.Ok) (h2 : 2 * p.length ≤ 48) (h4 : p.trips.length ≤ 4) : (dbl p).Ok := by
  have l0 := ok.l0
  refine ⟨ok.t0, ok.t1, by show 1 ≤ 2 * p.length; omega, h2, ok.m0, ok.m1, by show (dblT p.length p.trips).length ≤ 8; rw [dblT_len]; omega, fun u hu => ?_⟩
  obtain ⟨t, ht, e⟩ := dblT_mem (show u ∈ dblT p.length p.trips from hu)
  have h := ok.ok t ht
  have s0 := h.s0
  have s1 := h.s1
  rcases e with rfl | rfl
  · exact ⟨s0, by show u.start < 2 * p.length; omega, h.a0, h.a1, h.b0, h.b1, h.ne, h.p0, h.p1, h.hb⟩
  · exact ⟨by show 0 ≤ t.start + p.length; omega, by show t.start + p.length < 2 * p.length; omega, h.a0, h.a1, h.b0, h.b1, h.ne, h.p0, h.p1, h.hb⟩
/-! ages -/
theorem agesN_none {n : Nat} {a lim L : Int} (h : lim ≤ a) : agesN n a lim L = [] := by
  cases n with
  | zero => rfl
  | succ n =>
    unfold agesN
    rw [if_neg (by omega)]
theorem agesN_fuel {lim L : Int} (hL : 1 ≤ L) : ∀ (n m : Nat) (a : Int), lim - a ≤ n → agesN (n + m) a lim L = agesN n a lim L
  | 0, m, a, h => by rw [agesN_none (by omega), agesN_none (by omega)]
  | n + 1, m, a, h => by
    rw [show n + 1 + m = (n + m) + 1 by omega]
    unfold agesN
    split
    · rw [agesN_fuel hL n m (a + L) (by omega)]
    · rfl
theorem agesN_two {lim L : Int} (hL : 0 ≤ L) : ∀ (n : Nat) (a : Int), (agesN (2 * n) a lim L).Perm (agesN n a lim (2 * L) ++ agesN n (a + L) lim (2 * L))
  | 0, _ => List.Perm.refl _
  | n + 1, a => by
    rw [show 2 * (n + 1) = 2 * n + 1 + 1 by omega]
    by_cases h1 : a < lim
    · have e1 : agesN (2 * n + 1 + 1) a lim L = a :: agesN (2 * n + 1) (a + L) lim L := by
        rw [agesN, if_pos h1]
      have e2 : agesN (n + 1) a lim (2 * L) = a :: agesN n (a + 2 * L) lim (2 * L) := by
        rw [agesN, if_pos h1]
      rw [e1, e2]
      by_cases h2 : a + L < lim
      · have e3 : agesN (2 * n + 1) (a + L) lim L = (a + L) :: agesN (2 * n) (a + 2 * L) lim L := by
          rw [agesN, if_pos h2, show a + L + L = a + 2 * L by omega]
        have e4 : agesN (n + 1) (a + L) lim (2 * L) = (a + L) :: agesN n (a + 2 * L + L) lim (2 * L) := by
          rw [agesN, if_pos h2, show a + L + 2 * L = a + 2 * L + L by omega]
        rw [e3, e4, List.cons_append]
        refine List.Perm.cons a ((List.Perm.cons (a + L) (agesN_two hL n (a + 2 * L))).trans ?_)
        exact List.perm_middle.symm
      · rw [agesN_none (a := a + L) (by omega), agesN_none (a := a + L) (by omega), agesN_none (a := a + 2 * L) (by omega)]
        exact List.Perm.refl _
    · rw [agesN_none (by omega), agesN_none (by omega), agesN_none (by omega)]
      exact List.Perm.refl _
theorem mod_two {x L : Int} (hL : 1 ≤ L) : (x % (2 * L) = x % L ∧ (x - L) % (2 * L) = x % L + L) ∨ (x % (2 * L) = x % L + L ∧ (x - L) % (2 * L) = x % L) := by
  have h0 := Int.emod_nonneg x (b := L) (by omega)
  have h1 := Int.emod_lt_of_pos x (b := L) (by omega)
  have hx := Int.emod_add_mul_ediv x L
  obtain ⟨k, hk⟩ : ∃ k, k = x / L := ⟨_, rfl⟩
  obtain ⟨r, hr⟩ : ∃ r, r = x % L := ⟨_, rfl⟩
  rw [← hk, ← hr] at hx
  rw [← hr] at h0 h1 ⊢
  have key : ∀ (y s j : Int), 0 ≤ s → s < 2 * L → y = s + (2 * L) * j → y % (2 * L) = s := fun y s j a b e => by
    rw [e, Int.add_mul_emod_self_left, Int.emod_eq_of_lt a b]
  rcases (show k % 2 = 0 ∨ k % 2 = 1 by omega) with hp | hp
  · obtain ⟨j, hj⟩ : ∃ j, k = 2 * j := ⟨k / 2, by omega⟩
    have e : L * k = 2 * L * j := by rw [hj, ← Int.mul_assoc, Int.mul_comm L 2]
    refine .inl ⟨key x r j h0 (by omega) (by omega), key (x - L) (r + L) (j - 1) (by omega) (by omega) ?_⟩
    rw [Int.mul_sub, Int.mul_one]
    omega
  · obtain ⟨j, hj⟩ : ∃ j, k = 2 * j + 1 := ⟨k / 2, by omega⟩
    have e : L * k = 2 * L * j + L := by rw [hj, Int.mul_add, ← Int.mul_assoc, Int.mul_comm L 2, Int.mul_one]
    exact .inr ⟨key x (r + L) j (by omega) (by omega) (by omega), key (x - L) r j h0 (by omega) (by omega)⟩
theorem ages_two (ok : p.Ok) {t : Tr} (tok : t.Ok p.top p.length) (tick : Int) : (ages (dbl p) t tick ++ ages (dbl p) (shT p.length t) tick).Perm (ages p t tick) := by
  have l0 := ok.l0
  have hd := dur_le tok ok.t1
  have hlim : t.lim tick ≤ 45 := by
    unfold Tr.lim
    split <;> omega
  have h0 := Int.emod_nonneg (tick - t.start) (b := p.length) (by omega)
  have hA : ages p t tick = agesN (2 * 50) ((tick - t.start) % p.length) (t.lim tick) p.length := (agesN_fuel l0 50 50 _ (by omega)).symm
  have hP := agesN_two (lim := t.lim tick) (L := p.length) (by omega) 50 ((tick - t.start) % p.length)
  have hB0 : ages (dbl p) t tick = agesN 50 ((tick - t.start) % (2 * p.length)) (t.lim tick) (2 * p.length) := rfl
  have hB1 : ages (dbl p) (shT p.length t) tick = agesN 50 ((tick - t.start - p.length) % (2 * p.length)) (t.lim tick) (2 * p.length) := by
    have : ages (dbl p) (shT p.length t) tick = agesN 50 ((tick - (t.start + p.length)) % (2 * p.length)) (t.lim tick) (2 * p.length) := rfl
    rw [this, show tick - (t.start + p.length) = tick - t.start - p.length by omega]
  rw [hA, hB0, hB1]
  rcases mod_two (x := tick - t.start) l0 with ⟨e1, e2⟩ | ⟨e1, e2⟩
  · rw [e1, e2]
    exact hP.symm
  · rw [e1, e2]
    exact List.perm_append_comm.trans hP.symm
/-! one trip in two parts -/
theorem innerF_sh (time L : Int) (t : Tr) : ∀ (as : List Int) (now : Int), innerF time (shT L t) now as = innerF time t now as
  | [], _ => rfl
  | a :: as, now => by
    unfold innerF
    show (match t.fl a with
      | none => innerF time (shT L t) now as
      | some f => bif t.press now then ((innerF time (shT L t) time as).1, f :: (innerF time (shT L t) time as).2) else innerF time (shT L t) now as) = _
    rw [innerF_sh time L t as now, innerF_sh time L t as time] <;> rfl
theorem innerF_always (time : Int) {t : Tr} (ht : t.habit = "always") : ∀ (as : List Int) (now : Int), innerF time t now as = (if as.filterMap t.fl = [] then now else time, as.filterMap t.fl)
  | [], _ => rfl
  | a :: as, now => by
    have hp : t.press now = true := by
      unfold Tr.press
      rw [ht, show decide (("always" : Str) = "always") = true by decide]
      rfl
    have ih := innerF_always time ht as
    cases hf : t.fl a with
    | none =>
      have e : (a :: as).filterMap t.fl = as.filterMap t.fl := List.filterMap_cons_none hf
      rw [e, ← ih now, innerF, hf]
    | some f =>
      have e : (a :: as).filterMap t.fl = f :: as.filterMap t.fl := List.filterMap_cons_some hf
      rw [e, innerF, hf]
      dsimp only
      have q1 : (if (f :: as.filterMap t.fl) = [] then now else time) = time := if_neg (List.cons_ne_nil _ _)
      have q2 : (if as.filterMap t.fl = [] then time else time) = time := by split <;> rfl
      rw [hp, cond_true, ih time, q1]
      dsimp only
      rw [q2]
theorem innerF_dark0 (time : Int) {t : Tr} (ht : t.habit = "dark") {now : Int} (hn : now ≠ 0) : ∀ (as : List Int), innerF time t now as = (now, [])
  | [] => rfl
  | a :: as => by
    have hp : t.press now = false := by
      unfold Tr.press
      rw [ht, show decide (("dark" : Str) = "always") = false by decide, decide_eq_false hn, Bool.and_false]
      rfl
    have ih := innerF_dark0 time ht hn as
    rw [innerF]
    cases t.fl a with
    | none => exact ih
    | some f =>
      dsimp only
      rw [hp]
      exact ih
theorem innerF_dark (time : Int) (h0 : time ≠ 0) {t : Tr} (ht : t.habit = "dark") : ∀ (as : List Int), (as.filterMap t.fl = [] ∧ innerF time t 0 as = (0, [])) ∨ ∃ f fs, as.filterMap t.fl = f :: fs ∧ innerF time t 0 as = (time, [f])
  | [] => .inl ⟨rfl, rfl⟩
  | a :: as => by
    have hp : t.press 0 = true := by
      unfold Tr.press
      rw [ht, show decide (("dark" : Str) = "always") = false by decide, show decide (("dark" : Str) = "dark") = true by decide]
      rfl
    cases hf : t.fl a with
    | none =>
      have e : (a :: as).filterMap t.fl = as.filterMap t.fl := List.filterMap_cons_none hf
      rw [e, innerF, hf]
      exact innerF_dark time h0 ht as
    | some f =>
      have e : (a :: as).filterMap t.fl = f :: as.filterMap t.fl := List.filterMap_cons_some hf
      refine .inr ⟨f, as.filterMap t.fl, e, ?_⟩
      rw [innerF, hf]
      dsimp only
      rw [hp, cond_true, innerF_dark0 time ht h0 as]
/-- walked in two parts -/
theorem inner_two (time : Int) (h0 : time ≠ 0) {t : Tr} (hb : habitOk t.habit) {A B0 B1 : List Int} (hp : (B0 ++ B1).Perm A) (now : Int) :
    (innerF time t (innerF time t now B0).1 B1).1 = (innerF time t now A).1 ∧ ((innerF time t now B0).2 ++ (innerF time t (innerF time t now B0).1 B1).2).length = (innerF time t now A).2.length ∧ (t.habit ≠ "dark" → ((innerF time t now B0).2 ++ (innerF time t (innerF time t now B0).1 B1).2).Perm (innerF time t now A).2) := by
  have hF : (B0.filterMap t.fl ++ B1.filterMap t.fl).Perm (A.filterMap t.fl) := by
    rw [← List.filterMap_append]
    exact hp.filterMap _
  rcases hb with hb | hb | hb
  · by_cases hn : now = 0
    · subst hn
      rcases innerF_dark time h0 hb B0 with ⟨f0, e0⟩ | ⟨f, fs, f0, e0⟩
      · rw [e0]
        rcases innerF_dark time h0 hb B1 with ⟨f1, e1⟩ | ⟨g, gs, f1, e1⟩
        · rw [f0, f1] at hF
          rcases innerF_dark time h0 hb A with ⟨fa, ea⟩ | ⟨x, xs, fa, ea⟩
          · rw [e1, ea]
            exact ⟨rfl, rfl, fun _ => List.Perm.refl _⟩
          · rw [fa] at hF
            exact absurd hF.length_eq (by simp)
        · rw [f0, f1] at hF
          rcases innerF_dark time h0 hb A with ⟨fa, ea⟩ | ⟨x, xs, fa, ea⟩
          · rw [fa] at hF
            exact absurd hF.length_eq (by simp)
          · rw [e1, ea]
            exact ⟨rfl, rfl, fun h => absurd hb h⟩
      · rw [e0, innerF_dark0 time hb h0 B1]
        rw [f0] at hF
        rcases innerF_dark time h0 hb A with ⟨fa, ea⟩ | ⟨x, xs, fa, ea⟩
        · rw [fa] at hF
          exact absurd hF.length_eq (by simp)
        · rw [ea]
          exact ⟨rfl, rfl, fun h => absurd hb h⟩
    · rw [innerF_dark0 time hb hn B0, innerF_dark0 time hb hn B1, innerF_dark0 time hb hn A]
      exact ⟨rfl, rfl, fun _ => List.Perm.refl _⟩
  · rw [innerF_always time hb B0, innerF_always time hb B1, innerF_always time hb A]
    refine ⟨?_, by rw [← hF.length_eq], fun _ => hF⟩
    dsimp only
    cases h1 : B0.filterMap t.fl with
    | nil =>
      rw [h1, List.nil_append] at hF
      cases h2 : B1.filterMap t.fl with
      | nil =>
        rw [h2] at hF
        rw [List.nil_perm.mp hF]
        rfl
      | cons g gs =>
        rw [h2] at hF
        have : A.filterMap t.fl ≠ [] := fun e => by rw [e] at hF; exact absurd hF.length_eq (by simp)
        rw [if_neg this, if_neg (by simp)]
    | cons f fs =>
      rw [h1] at hF
      have : A.filterMap t.fl ≠ [] := fun e => by rw [e] at hF; exact absurd hF.length_eq (by simp)
      rw [if_neg this, if_neg (show f :: fs ≠ [] by simp)]
      split <;> rfl
  · rw [innerF_never time hb, innerF_never time hb, innerF_never time hb]
    exact ⟨rfl, rfl, fun _ => List.Perm.refl _⟩
/-! a tick -/
theorem dbl_out (ok : p.Ok) (tick : Int) : ∀ (ts : List Tr) (k : Nat) (now : Int), (∀ t ∈ ts, t.Ok p.top p.length) →
    (outF (dbl p) tick (2 * k) (dblT p.length ts) now).1 = (outF p tick k ts now).1 ∧ (outF (dbl p) tick (2 * k) (dblT p.length ts) now).2.1.length = (outF p tick k ts now).2.1.length ∧
    ((∀ t ∈ ts, t.habit ≠ "dark") → ((outF (dbl p) tick (2 * k) (dblT p.length ts) now).2.1.map Prod.snd).Perm ((outF p tick k ts now).2.1.map Prod.snd)) ∧
    ∀ x : Int, x ∈ (outF p tick k ts now).2.2 ↔ ∃ y ∈ (outF (dbl p) tick (2 * k) (dblT p.length ts) now).2.2, y / 2 = x
  | [], _, _, _ => ⟨rfl, rfl, fun _ => List.Perm.refl _, fun x => by
      show x ∈ ([] : List Int) ↔ ∃ y ∈ ([] : List Int), y / 2 = x
      simp⟩
  | t :: ts, k, now, h => by
    have tok := h t List.mem_cons_self
    have hm : p.time ≠ 0 := by have := ok.m0; omega
    have hp := ages_two ok tok tick
    obtain ⟨A, hA⟩ : ∃ A, A = ages p t tick := ⟨_, rfl⟩
    obtain ⟨B0, hB0⟩ : ∃ B0, B0 = ages (dbl p) t tick := ⟨_, rfl⟩
    obtain ⟨B1, hB1⟩ : ∃ B1, B1 = ages (dbl p) (shT p.length t) tick := ⟨_, rfl⟩
    rw [← hA, ← hB0, ← hB1] at hp
    obtain ⟨i1, i2, i3⟩ := inner_two p.time hm tok.hb hp now
    obtain ⟨r, hr⟩ : ∃ r, r = innerF p.time t now A := ⟨_, rfl⟩
    obtain ⟨r0, hr0⟩ : ∃ r0, r0 = innerF p.time t now B0 := ⟨_, rfl⟩
    obtain ⟨r1, hr1⟩ : ∃ r1, r1 = innerF p.time t r0.1 B1 := ⟨_, rfl⟩
    rw [← hr0, ← hr1, ← hr] at i1 i2 i3
    have e0 : outF p tick k (t :: ts) now = ((outF p tick (k + 1) ts r.1).1, r.2.map (fun f => ((k : Int), f)) ++ (outF p tick (k + 1) ts r.1).2.1, (if A.isEmpty then [] else [(k : Int)]) ++ (outF p tick (k + 1) ts r.1).2.2) := by rw [hr, hA]; rfl
    have e1 : outF (dbl p) tick (2 * k) (dblT p.length (t :: ts)) now = ((outF (dbl p) tick (2 * k + 1 + 1) (dblT p.length ts) r1.1).1, r0.2.map (fun f => (((2 * k : Nat) : Int), f)) ++ (r1.2.map (fun f => (((2 * k + 1 : Nat) : Int), f)) ++ (outF (dbl p) tick (2 * k + 1 + 1) (dblT p.length ts) r1.1).2.1),
        (if B0.isEmpty then [] else [((2 * k : Nat) : Int)]) ++ ((if B1.isEmpty then [] else [((2 * k + 1 : Nat) : Int)]) ++ (outF (dbl p) tick (2 * k + 1 + 1) (dblT p.length ts) r1.1).2.2)) := by
      rw [hr1, hr0, hB0, hB1, ← innerF_sh p.time p.length t]
      rfl
    obtain ⟨j1, j2, j3, j4⟩ := dbl_out ok tick ts (k + 1) r.1 fun u hu => h u (List.mem_cons_of_mem _ hu)
    rw [show 2 * (k + 1) = 2 * k + 1 + 1 by omega] at j1 j2 j3 j4
    rw [e0, e1, i1]
    dsimp only
    refine ⟨j1, ?_, fun hh => ?_, fun x => ?_⟩
    · simp only [List.length_append, List.length_map] at i2 ⊢
      omega
    · have q3 := i3 (hh t List.mem_cons_self)
      have q4 := j3 fun u hu => hh u (List.mem_cons_of_mem _ hu)
      simp only [List.map_append, List.map_map]
      rw [← List.append_assoc]
      refine List.Perm.append ?_ q4
      have z : ∀ (c : Int) (fs : List Int), fs.map (Prod.snd ∘ fun f => (c, f)) = fs := fun c fs => (List.map_congr_left fun _ _ => rfl).trans (List.map_id _)
      rw [z, z, z]
      exact q3
    · have ne : A.isEmpty = true ↔ B0.isEmpty = true ∧ B1.isEmpty = true := by
        rw [List.isEmpty_iff, List.isEmpty_iff, List.isEmpty_iff]
        constructor
        · intro e
          rw [e] at hp
          exact List.append_eq_nil_iff.mp (List.perm_nil.mp hp)
        · rintro ⟨e2, e3⟩
          rw [e2, e3] at hp
          exact List.nil_perm.mp hp
      have a2 : ((2 * k : Nat) : Int) / 2 = (k : Int) := by omega
      have a3 : ((2 * k + 1 : Nat) : Int) / 2 = (k : Int) := by omega
      rw [List.mem_append, j4 x]
      constructor
      · rintro (hx | ⟨y, hy, e⟩)
        · cases hE : A.isEmpty with
          | true =>
            rw [hE] at hx
            cases hx
          | false =>
            rw [hE] at hx
            have hx : x = (k : Int) := List.mem_singleton.mp hx
            cases h2 : B0.isEmpty with
            | false => exact ⟨_, List.mem_append_left _ (List.mem_singleton.mpr rfl), by rw [a2, hx]⟩
            | true =>
              cases h3 : B1.isEmpty with
              | false => exact ⟨_, List.mem_append_right _ (List.mem_append_left _ (List.mem_singleton.mpr rfl)), by rw [a3, hx]⟩
              | true =>
                rw [ne.mpr ⟨h2, h3⟩] at hE
                cases hE
        · exact ⟨y, List.mem_append_right _ (List.mem_append_right _ hy), e⟩
      · rintro ⟨y, hy, e⟩
        rcases List.mem_append.mp hy with hy | hy
        · cases h2 : B0.isEmpty with
          | true =>
            rw [h2] at hy
            cases hy
          | false =>
            rw [h2] at hy
            have hy : y = ((2 * k : Nat) : Int) := List.mem_singleton.mp hy
            have hE : A.isEmpty = false := by
              cases hE : A.isEmpty with
              | false => rfl
              | true =>
                rw [(ne.mp hE).1] at h2
                cases h2
            rw [hE]
            exact .inl (List.mem_singleton.mpr (by rw [← e, hy, a2]))
        · rcases List.mem_append.mp hy with hy | hy
          · cases h2 : B1.isEmpty with
            | true =>
              rw [h2] at hy
              cases hy
            | false =>
              rw [h2] at hy
              have hy : y = ((2 * k + 1 : Nat) : Int) := List.mem_singleton.mp hy
              have hE : A.isEmpty = false := by
                cases hE : A.isEmpty with
                | false => rfl
                | true =>
                  rw [(ne.mp hE).2] at h2
                  cases h2
              rw [hE]
              exact .inl (List.mem_singleton.mpr (by rw [← e, hy, a3]))
          · exact .inr ⟨y, hy, e⟩
theorem outF_pw (tick : Int) : ∀ (ts : List Tr) (k : Nat) (now : Int), (outF p tick k ts now).2.2.Pairwise (· < ·) ∧ ∀ x ∈ (outF p tick k ts now).2.2, (k : Int) ≤ x
  | [], _, _ => ⟨List.Pairwise.nil, fun x hx => by cases hx⟩
  | t :: ts, k, now => by
    obtain ⟨h1, h2⟩ := outF_pw tick ts (k + 1) (innerF p.time t now (ages p t tick)).1
    unfold outF
    cases (ages p t tick).isEmpty with
    | true => exact ⟨h1, fun x hx => by have := h2 x hx; omega⟩
    | false =>
      refine ⟨List.pairwise_cons.mpr ⟨fun x hx => by have := h2 x hx; omega, h1⟩, fun x hx => ?_⟩
      rcases List.mem_cons.mp hx with rfl | hx
      · exact Int.le_refl _
      · have := h2 x hx
        omega
theorem scn_dbl (ok : p.Ok) (okq : (dbl p).Ok) : ∀ t : Nat, dayL (dbl p) t = dayL p t ∧ (scn (dbl p) (t : Int)).light = (scn p (t : Int)).light ∧ (scn (dbl p) (t : Int)).presses.length = (scn p (t : Int)).presses.length ∧
    ((∀ u ∈ p.trips, u.habit ≠ "dark") → ((scn (dbl p) (t : Int)).presses.map Prod.snd).Perm ((scn p (t : Int)).presses.map Prod.snd)) ∧ ((scn p (t : Int)).dark.Pairwise (· < ·) ∧ ∀ x : Int, x ∈ (scn p (t : Int)).dark ↔ ∃ y ∈ (scn (dbl p) (t : Int)).dark, y / 2 = x) := by
  have step : ∀ t : Nat, dayL (dbl p) t = dayL p t → (scn (dbl p) (t : Int)).light = (scn p (t : Int)).light ∧ (scn (dbl p) (t : Int)).presses.length = (scn p (t : Int)).presses.length ∧
      ((∀ u ∈ p.trips, u.habit ≠ "dark") → ((scn (dbl p) (t : Int)).presses.map Prod.snd).Perm ((scn p (t : Int)).presses.map Prod.snd)) ∧ ((scn p (t : Int)).dark.Pairwise (· < ·) ∧ ∀ x : Int, x ∈ (scn p (t : Int)).dark ↔ ∃ y ∈ (scn (dbl p) (t : Int)).dark, y / 2 = x) := fun t e => by
    rw [scn_day ok, scn_day okq, e, scene_F, scene_F]
    obtain ⟨i1, i2, i3, i4⟩ := dbl_out ok (t : Int) p.trips 0 (dim (dayL p t)) ok.ok
    rw [Nat.mul_zero] at i1 i2 i3 i4
    have pw := (outF_pw (p := p) (t : Int) p.trips 0 (dim (dayL p t))).1
    refine ⟨i1, i2, i3, ?_⟩
    dsimp only
    show _ ∧ ∀ x : Int, _ ↔ ∃ y ∈ (if (outF (dbl p) (t : Int) 0 (dblT p.length p.trips) (dim (dayL p t))).1 = 0 then (outF (dbl p) (t : Int) 0 (dblT p.length p.trips) (dim (dayL p t))).2.2 else []), y / 2 = x
    rw [i1]
    split
    · exact ⟨pw, i4⟩
    · exact ⟨List.Pairwise.nil, fun x => by simp⟩
  intro t
  induction t with
  | zero => exact ⟨rfl, step 0 rfl⟩
  | succ t ih =>
    have e : dayL (dbl p) (t + 1) = dayL p (t + 1) := by rw [dayL_succ, dayL_succ, ih.2.1]
    exact ⟨e, step _ e⟩
theorem dark_dbl (ok : p.Ok) (okq : (dbl p).Ok) : (∀ t : Nat, (scn p (t : Int)).dark = []) ↔ ∀ t : Nat, (scn (dbl p) (t : Int)).dark = [] := by
  have key : ∀ t : Nat, (scn p (t : Int)).dark = [] ↔ (scn (dbl p) (t : Int)).dark = [] := fun t => by
    have hm := (scn_dbl ok okq t).2.2.2.2.2
    constructor
    · intro h
      refine List.eq_nil_iff_forall_not_mem.mpr fun y hy => ?_
      have := (hm (y / 2)).mpr ⟨y, hy, rfl⟩
      rw [h] at this
      cases this
    · intro h
      refine List.eq_nil_iff_forall_not_mem.mpr fun x hx => ?_
      obtain ⟨y, hy, _⟩ := (hm x).mp hx
      rw [h] at hy
      cases hy
  exact ⟨fun h t => (key t).mp (h t), fun h t => (key t).mpr (h t)⟩
theorem bright_dbl (ok : p.Ok) (okq : (dbl p).Ok) : bright p = bright (dbl p) := bright_congr ok okq (dark_dbl ok okq)
theorem brightTimes_dbl (ok : p.Ok) (okq : (dbl p).Ok) : brightTimes p = brightTimes (dbl p) := brightTimes_congr fun x h0 h1 => bright_dbl (p := withTime p x) (withTime_ok ok h0 h1) (withTime_ok okq h0 h1)
theorem half_dark (ok : p.Ok) (okq : (dbl p).Ok) (t : Nat) : sortS ((scn (dbl p) (t : Int)).dark.map fun y => y / 2) = (scn p (t : Int)).dark := by
  obtain ⟨_, _, _, _, pw, hm⟩ := scn_dbl ok okq t
  refine pw_unique (sortS_pw _) pw fun x => ?_
  rw [mem_sortS, List.mem_map, hm x]
theorem cnt_dbl (ok : p.Ok) (okq : (dbl p).Ok) (t : Nat) : cnt preM (dbl p) t = cnt preM p t ∧ cnt litM (dbl p) t = cnt litM p t := by
  refine ⟨cnt_congr fun i _ => ?_, cnt_congr fun i _ => ?_⟩
  · show ((scn (dbl p) (i : Int)).presses.length : Int) = ((scn p (i : Int)).presses.length : Int)
    rw [(scn_dbl ok okq i).2.2.1]
  · show (if 0 < (scn (dbl p) (i : Int)).light then (1 : Int) else 0) = if 0 < (scn p (i : Int)).light then 1 else 0
    rw [(scn_dbl ok okq i).2.1]
end
end SL
set_option Elab.async false
set_option linter.all false
set_option maxRecDepth 100000
set_option maxHeartbeats 4000000
namespace SL
open PySem PySem.Spec PyProof.Rows L2
/-! ### k37 -/
/-! pairs of numbers in order -/
def prW (x : Int × Int) : W := .tup [.int x.1, .int x.2]
def prD (x : Int × Int) : PyData := .tuple [.int x.1, .int x.2]
theorem dat_pr (x : Int × Int) : dat (prW x) = some (prD x) := rfl
theorem datD_pr (x : Int × Int) : datD (prW x) = prD x := rfl
def leP (a b : Int × Int) : Bool := decide (a.1 < b.1 ∨ (a.1 = b.1 ∧ a.2 ≤ b.2))
theorem leW_pr (a b : Int × Int) : leW (prW a) (prW b) = leP a b := by
  unfold leW leP
  rw [datD_pr, datD_pr]
  unfold prD
  rw [PySem.W.dataLt_pair rfl rfl, PySem.W.dataLt_int, PySem.W.dataLt_int, show PyData.eqv (.int b.1) (.int a.1) = decide (b.1 = a.1) from rfl, show PyData.eqv (.int b.2) (.int a.2) = decide (b.2 = a.2) from rfl]
  by_cases h1 : b.1 = a.1
  · by_cases h2 : b.2 = a.2
    · simp [h1, h2]
    · rw [if_pos (decide_eq_true h1), if_neg (by simpa using h2), ← decide_not]
      exact decide_eq_decide.mpr (by omega)
  · rw [if_neg (by simpa using h1), ← decide_not]
    exact decide_eq_decide.mpr (by omega)
theorem sortOk_pr (xs : List (Int × Int)) : sortOk (xs.map prW) = true := by
  unfold sortOk
  rw [List.all_map]
  refine List.all_eq_true.mpr fun s _ => ?_
  show ((dat (prW s)).isSome && (tupD (datD (prW s)) && (decide ((datD (prW s)).depth ≤ 60) && (xs.map prW).all fun u => PySem.W.alike (datD (prW s)) (datD u)))) = true
  have hd : (datD (prW s)).depth ≤ 60 := by
    have := (okD_tup (n := 0) (ds := [.int s.1, .int s.2]) fun d hd => by
      simp only [List.mem_cons, List.not_mem_nil, or_false] at hd
      rcases hd with rfl | rfl <;> exact okD_int 0 _).2
    show (PyData.tuple [.int s.1, .int s.2]).depth ≤ 60
    omega
  rw [dat_pr, decide_eq_true hd, List.all_map]
  have : (xs.all ((fun u => PySem.W.alike (datD (prW s)) (datD u)) ∘ prW)) = true := List.all_eq_true.mpr fun b _ => rfl
  rw [this]
  rfl
theorem bSortD_pr {S : Sto} {xs : List (Int × Int)} (h : xs.length ≤ 16000000) : bSortD [.lst (xs.map prW)] S = .ok (.lst ((xs.mergeSort leP).map prW)) S := by
  show (if sortOk (xs.map prW) = true ∧ (xs.map prW).length ≤ 16000000 then Res.ok (W.lst ((xs.map prW).mergeSort leW)) S else .stuck) = _
  rw [if_pos ⟨sortOk_pr _, by rw [List.length_map]; exact h⟩]
  rw [List.map_mergeSort (r := leP) (s := leW) (f := prW) (fun a _ b _ => (leW_pr a b).symm)]
theorem leP_pw (xs : List (Int × Int)) : (xs.mergeSort leP).Pairwise fun a b => leP a b = true := by
  have h := List.pairwise_mergeSort (le := leP) (fun a b c h1 h2 => by
    unfold leP at h1 h2 ⊢
    rw [decide_eq_true_eq] at h1 h2 ⊢
    omega) (fun a b => by
    unfold leP
    rw [Bool.or_eq_true, decide_eq_true_eq, decide_eq_true_eq]
    omega) xs
  exact h
theorem sort_perm {xs ys : List (Int × Int)} (h : xs.Perm ys) : xs.mergeSort leP = ys.mergeSort leP := by
  refine List.Perm.eq_of_pairwise (le := fun a b => leP a b = true) (fun a b _ _ h1 h2 => ?_) (leP_pw xs) (leP_pw ys) (((List.mergeSort_perm xs leP).trans h).trans (List.mergeSort_perm ys leP).symm)
  unfold leP at h1 h2
  rw [decide_eq_true_eq] at h1 h2
  obtain ⟨a1, a2⟩ := a
  obtain ⟨b1, b2⟩ := b
  dsimp only at h1 h2
  have e1 : a1 = b1 := by omega
  have e2 : a2 = b2 := by omega
  rw [e1, e2]
section
variable {p : Pt} {S : Sto}
theorem eq_prs (xs : List (Int × Int)) : opEq (.lst (xs.map prW)) (.lst (xs.map prW)) S = .ok (.bl true) S := by
  have h1 := dats_map prW prD dat_pr xs
  have e : dat (seeL S (.lst (xs.map prW))) = some (.list (xs.map prD)) := by simp [seeL, dat, h1]
  refine opEq_self e e (okD_shaped (n := 2) (okD_lst fun d hd => ?_) (by omega))
  obtain ⟨x, _, rfl⟩ := List.mem_map.mp hd
  exact okD_tup fun d hd => by
    simp only [List.mem_cons, List.not_mem_nil, or_false] at hd
    rcases hd with rfl | rfl <;> exact okD_int 0 _
def prL (z : Pt) : List (Int × Int) := (tellQ z (seqI 0 100)).map fun x => (x.1, x.2.2)
theorem prL_few (ok : p.Ok) : (prL p).length ≤ 40000 := by
  have few := tellP_few (p := p) ok (seqI 0 100) fun t ht => by have := seqI_mem ht; omega
  rw [seqI_len] at few
  unfold prL
  rw [List.length_map, tellQ_len]
  omega
theorem prs37 (ok : p.Ok) (x0 x1 x2 x3 x4 x5 x6 x7 x8 x9 x10 x11 x12 x13 x15 x16 : Option W) : e_k37_law_4 [x0, x1, x2, x3, x4, x5, x6, x7, x8, x9, x10, x11, x12, x13, some (wS p), x15, x16] S = .ok (.lst ((prL p).map prW)) S := by
  have few := tellP_few (p := p) ok (seqI 0 100) fun t ht => by have := seqI_mem ht; omega
  rw [seqI_len] at few
  unfold prL
  rw [List.map_map]
  refine mLcZ_map (S := S) (S1 := S) (S2 := S) (ws := [wS p, .int 0, .int 99]) (fun q : Int × (Int × Int) => wPr3 q.1 q.2) (fun q => prW (q.1, q.2.2)) (tellQ p (seqI 0 100)) (by simp) ?_ (by decide) (fun q _ => ⟨_, rfl, fun U => ?_⟩) (fun _ _ => rfl) (by rw [tellQ_len]; omega) fun Sq => ?_
  · rw [← tellP_Q, run_presses ok (by omega) (by omega) (by omega) (by omega) (by omega), show ((99 : Int) + 1 - 0).toNat = 100 by omega]
  · simp -implicitDefEqProofs [e_k37_law_3, wipeR, wPr3, prW]
  · rw [← tellP_Q]
    have := run_pressesZ (Sq := Sq) ok (a := 0) (c := 99) (by omega) (by omega) (by omega) (by omega) (by omega)
    rw [show ((99 : Int) + 1 - 0).toNat = 100 by omega] at this
    exact this
theorem tellQ_cons (z : Pt) (t : Int) (ts : List Int) : (tellQ z (t :: ts)).map (fun x => (x.1, x.2.2)) = (((scn z t).presses.map Prod.snd).map fun f => (t, f)) ++ (tellQ z ts).map fun x => (x.1, x.2.2) := by
  have e : tellQ z (t :: ts) = (scn z t).presses.map (fun a => (t, a)) ++ tellQ z ts := by
    unfold tellQ
    rw [List.flatMap_cons]
  rw [e, List.map_append, List.map_map, List.map_map]
  congr 1
theorem tellQ_perm (ok : p.Ok) (okq : (dbl p).Ok) (h : ∀ u ∈ p.trips, u.habit ≠ "dark") : ∀ ts : List Int, (∀ t ∈ ts, 0 ≤ t) → ((tellQ (dbl p) ts).map fun x => (x.1, x.2.2)).Perm ((tellQ p ts).map fun x => (x.1, x.2.2))
  | [], _ => by
    have e : ∀ z : Pt, tellQ z [] = [] := fun z => rfl
    rw [e, e]
  | t :: ts, h0 => by
    rw [tellQ_cons, tellQ_cons]
    have ht := h0 t List.mem_cons_self
    have h1 := (scn_dbl ok okq t.toNat).2.2.2.1 h
    rw [show ((t.toNat : Nat) : Int) = t by omega] at h1
    exact (h1.map _).append (tellQ_perm ok okq h ts fun u hu => h0 u (List.mem_cons_of_mem _ hu))
theorem prL_perm (ok : p.Ok) (okq : (dbl p).Ok) (h : ∀ u ∈ p.trips, u.habit ≠ "dark") : (prL (dbl p)).Perm (prL p) := by
  have h1 := tellQ_perm ok okq h (seqI 0 100) fun t ht => (seqI_mem ht).1
  unfold prL
  exact h1
/-! the doubled trips -/
theorem dbl_loop {L : Int} (x0 x1 x2 x3 x5 x6 x9 x10 x11 x12 x13 x14 x15 x16 : Option W) : ∀ (ts : List Tr) (acc : List Tr) (x8 : Option W), acc.length + 2 * ts.length ≤ 1000 → ∃ y8,
    sForL (.n 8) f_k37_law_1 (ts.map wTt) [x0, x1, x2, x3, some (.int L), x5, x6, some (.lst (acc.map wTt)), x8, x9, x10, x11, x12, x13, x14, x15, x16] S = .ok (.nx [x0, x1, x2, x3, some (.int L), x5, x6, some (.lst ((acc ++ dblT L ts).map wTt)), y8, x9, x10, x11, x12, x13, x14, x15, x16]) S
  | [], acc, x8, _ => ⟨x8, by rw [dblT, List.append_nil]; rfl⟩
  | t :: ts, acc, x8, h => by
    simp only [List.length_cons] at h
    obtain ⟨y8, e⟩ := dbl_loop (L := L) x0 x1 x2 x3 x5 x6 x9 x10 x11 x12 x13 x14 x15 x16 ts (acc ++ [t, shT L t]) (some (wTt t)) (by simp; omega)
    have w1 : ∀ V, opCut (some 1) none (wTt t) V = .ok (.tup [.int t.source, .int t.target, .int t.pace, .str t.habit]) V := fun V => rfl
    have w2 : ∀ V, opAdd (.tup [.int (t.start + L)]) (.tup [.int t.source, .int t.target, .int t.pace, .str t.habit]) V = .ok (wTt (shT L t)) V := fun V => (opAdd_tup (by simp)).trans rfl
    have w3 : ∀ V, opIx (wTt t) (.int 0) V = .ok (.int t.start) V := fun V => rfl
    have w4 : ∀ V, opAdd (.lst (acc.map wTt)) (.lst [wTt t, wTt (shT L t)]) V = .ok (.lst ((acc ++ [t, shT L t]).map wTt)) V := fun V => by
      rw [opAdd_lst (by simp; omega), List.map_append]
      rfl
    have hb : f_k37_law_1 [x0, x1, x2, x3, some (.int L), x5, x6, some (.lst (acc.map wTt)), some (wTt t), x9, x10, x11, x12, x13, x14, x15, x16] S = .ok (.nx [x0, x1, x2, x3, some (.int L), x5, x6, some (.lst ((acc ++ [t, shT L t]).map wTt)), some (wTt t), x9, x10, x11, x12, x13, x14, x15, x16]) S := by
      simp -implicitDefEqProofs [f_k37_law_1, w1, w2, w3, w4, -List.map_append]
    refine ⟨y8, ?_⟩
    rw [List.map_cons, sForL_nx (r1 := _) rfl hb, e, List.append_assoc]
    rfl
def mdT (L : Int) (t : Tr) : Tr := ⟨t.start % L, t.source, t.target, t.pace, t.habit⟩
theorem turn37 (ok : p.Ok) (okq : (dbl p).Ok) (t : Nat) (ht : t ≤ 1000000000000000000) (x0 x1 x2 x3 x4 x5 x6 x7 x8 x12 x13 x14 x15 x16 : Option W) :
    f_k37_law_2 [x0, x1, x2, x3, x4, x5, x6, x7, x8, some (wS p), some (wS (dbl p)), some (.int (t : Int)), x12, x13, x14, x15, x16] S = .ok (.nx [x0, x1, x2, x3, x4, x5, x6, x7, x8, some (wS p), some (wS (dbl p)), some (.int (t : Int)), x12, x13, x14, x15, x16]) S := by
  have h := scn_dbl ok okq t
  have a1 : ∀ U, frR U (m_light [wS p, .int (t : Int)] U) = .ok (.int (scn p (t : Int)).light) U := fun U => run_light ok (by omega) (by omega)
  have a2 : ∀ U, frR U (m_light [wS (dbl p), .int (t : Int)] U) = .ok (.int (scn p (t : Int)).light) U := fun U => by rw [← h.2.1]; exact run_light okq (by omega) (by omega)
  have c1 : ∀ U, frR U (m_count_presses [wS p, .int (t : Int)] U) = .ok (.int (cnt preM p t)) U := fun U => run_count_presses ok (by omega)
  have c2 : ∀ U, frR U (m_count_presses [wS (dbl p), .int (t : Int)] U) = .ok (.int (cnt preM p t)) U := fun U => by rw [← (cnt_dbl ok okq t).1]; exact run_count_presses okq (by omega)
  have l1 : ∀ U, frR U (m_count_lit [wS p, .int (t : Int)] U) = .ok (.int (cnt litM p t)) U := fun U => run_count_lit ok (by omega)
  have l2 : ∀ U, frR U (m_count_lit [wS (dbl p), .int (t : Int)] U) = .ok (.int (cnt litM p t)) U := fun U => by rw [← (cnt_dbl ok okq t).2]; exact run_count_lit okq (by omega)
  have d1 : ∀ U, frR U (m_in_dark [wS p, .int (t : Int)] U) = .ok (.lst ((scn p (t : Int)).dark.map W.int)) U := fun U => run_in_darkF ok (by omega) (by omega)
  have d2 : ∀ U, frR U (m_in_dark [wS (dbl p), .int (t : Int)] U) = .ok (.lst ((scn (dbl p) (t : Int)).dark.map W.int)) U := fun U => run_in_darkF okq (by omega) (by omega)
  have hd := scn_dark okq t
  have hd1 := scn_dark ok t
  have lc : ∀ U, mLc [15] (.n 15) (iL (mFr (mCall m_in_dark (mCons (mVar 10) (mCons (mVar 11) (mNil)))))) (mYes) (e_k37_law_2) [x0, x1, x2, x3, x4, x5, x6, x7, x8, some (wS p), some (wS (dbl p)), some (.int (t : Int)), x12, x13, x14, x15, x16] U = .ok (.lst (((scn (dbl p) (t : Int)).dark.map fun y => y / 2).map W.int)) U := fun U => by
    rw [List.map_map]
    refine mLc_map W.int (fun y => W.int (y / 2)) (scn (dbl p) (t : Int)).dark (by simp -implicitDefEqProofs [d2]) (by decide) (fun x _ => ⟨_, rfl, fun V => ?_⟩) (fun _ _ => rfl) (by omega)
    simp -implicitDefEqProofs [e_k37_law_2, wipeR]
  have st : ∀ U, mSortSet (mLc [15] (.n 15) (iL (mFr (mCall m_in_dark (mCons (mVar 10) (mCons (mVar 11) (mNil)))))) (mYes) (e_k37_law_2)) [x0, x1, x2, x3, x4, x5, x6, x7, x8, some (wS p), some (wS (dbl p)), some (.int (t : Int)), x12, x13, x14, x15, x16] U = .ok (.lst ((scn p (t : Int)).dark.map W.int)) U := fun U => by
    rw [mSortSet_ev, lc, bd_ok, getIs_ints, oc_some, half_dark ok okq, decide_eq_true (by rw [List.length_map]; omega), bc_true]
  have nd : ∀ U, opNe (.lst ((scn p (t : Int)).dark.map W.int)) (.lst ((scn p (t : Int)).dark.map W.int)) U = .ok (.bl false) U := fun U => opNe_ints_self
  simp -implicitDefEqProofs [f_k37_law_2, a1, a2, l1, l2, c_k37_law_1, c1, c2, st, d1, nd, -mSortSet_ev]
theorem loop37 (ok : p.Ok) (okq : (dbl p).Ok) (x0 x1 x2 x3 x4 x5 x6 x7 x8 x12 x13 x14 x15 x16 : Option W) : ∀ (vs : List Int) (x11 : Option W), (∀ v ∈ vs, 0 ≤ v ∧ v ≤ 1000000000000000000) → ∃ y11,
    sForL (.n 11) f_k37_law_2 (vs.map W.int) [x0, x1, x2, x3, x4, x5, x6, x7, x8, some (wS p), some (wS (dbl p)), x11, x12, x13, x14, x15, x16] S = .ok (.nx [x0, x1, x2, x3, x4, x5, x6, x7, x8, some (wS p), some (wS (dbl p)), y11, x12, x13, x14, x15, x16]) S
  | [], x11, _ => ⟨x11, rfl⟩
  | v :: vs, x11, h => by
    obtain ⟨h0, h1⟩ := h v List.mem_cons_self
    obtain ⟨n, rfl⟩ : ∃ n : Nat, v = (n : Int) := ⟨v.toNat, by omega⟩
    obtain ⟨y11, e⟩ := loop37 ok okq x0 x1 x2 x3 x4 x5 x6 x7 x8 x12 x13 x14 x15 x16 vs (some (.int (n : Int))) fun u hu => h u (List.mem_cons_of_mem _ hu)
    exact ⟨y11, by rw [List.map_cons, sForL_nx (r1 := _) rfl (turn37 ok okq n (by omega) x0 x1 x2 x3 x4 x5 x6 x7 x8 x12 x13 x14 x15 x16), e]⟩
theorem bright_timesG (ok : p.Ok) : frR S (m_bright_times [wS p] S) = .ok (.lst ((brightTimes p).map W.int)) S := by
  rw [run_bright_times ok]
  exact frR_app (frz_locL at_app0 (Nat.le_refl _) (frz_ints 14))
theorem inW_dark : ∀ hs : List Str, inW (.str "dark") (hs.map W.str) = false → ∀ h ∈ hs, h ≠ "dark"
  | [], _, _, h => by cases h
  | x :: hs, e, h, hm => by
    have e : (eqW (.str x) (.str "dark") || inW (.str "dark") (hs.map W.str)) = false := e
    rw [Bool.or_eq_false_iff] at e
    rcases List.mem_cons.mp hm with rfl | hm
    · intro z
      rw [z] at e
      exact absurd e.1 (by decide +kernel)
    · exact inW_dark hs e.2 h hm
theorem tail37 (ok : p.Ok) (okq : (dbl p).Ok) (x0 x1 x2 x3 x4 x5 x7 x8 x11 x12 x13 x14 x15 x16 : Option W) :
    c_k37_law_3 [x0, x1, x2, x3, x4, x5, some (.tup (p.trips.map wTt)), x7, x8, some (wS p), some (wS (dbl p)), x11, x12, x13, x14, x15, x16] S = .ok (.rt (.bl true)) S := by
  have bt1 : ∀ U, frR U (m_bright_times [wS p] U) = .ok (.lst ((brightTimes p).map W.int)) U := fun U => bright_timesG ok
  have bt2 : ∀ U, frR U (m_bright_times [wS (dbl p)] U) = .ok (.lst ((brightTimes p).map W.int)) U := fun U => by rw [brightTimes_dbl ok okq]; exact bright_timesG okq
  have nb : ∀ U, opNe (.lst ((brightTimes p).map W.int)) (.lst ((brightTimes p).map W.int)) U = .ok (.bl false) U := fun U => opNe_ints_self
  have k1 : ∀ U, frR U (m_first_dark [wS p] U) = .ok (fkW (firstD 0 (story p).1)) U := fun U => run_first_darkF ok
  have k2 : ∀ U, frR U (m_first_dark [wS (dbl p)] U) = .ok (fkW (firstD 0 (story (dbl p)).1)) U := fun U => run_first_darkF okq
  have n1 := isNon_fk p
  have n2 : isNon (fkW (firstD 0 (story (dbl p)).1)) = bright p := by rw [isNon_fk, bright_dbl ok okq]
  have lc : ∀ U, mLc [14] (.n 14) (iT (mTup (mCons (mVar 9) (mCons (mVar 10) (mNil))))) (mYes) (e_k37_law_4) [x0, x1, x2, x3, x4, x5, some (.tup (p.trips.map wTt)), x7, x8, some (wS p), some (wS (dbl p)), x11, x12, x13, x14, x15, x16] U = .ok (.lst [.lst ((prL p).map prW), .lst ((prL (dbl p)).map prW)]) U := fun U => by
    refine mLc_map (S := U) (S1 := U) (fun z : { z : Pt // z.Ok } => wS z.1) (fun z => W.lst ((prL z.1).map prW)) [⟨p, ok⟩, ⟨dbl p, okq⟩] (by simp) (by decide) (fun z _ => ⟨_, rfl, fun V => prs37 z.2 _ _ _ _ _ _ _ _ _ _ _ _ _ _ _ _⟩) (fun z _ => ?_) (by simp)
    show ((prL z.1).map prW).all (nol 13) = true
    rw [List.all_map]
    exact List.all_eq_true.mpr fun _ _ => rfl
  have lh : ∀ U x12, mLc [8] (.n 8) (iT (mVar 6)) (mYes) (e_k37_law_5) [x0, x1, x2, x3, x4, x5, some (.tup (p.trips.map wTt)), x7, x8, some (wS p), some (wS (dbl p)), x11, x12, x13, x14, x15, x16] U = .ok (.lst ((p.trips.map Tr.habit).map W.str)) U := fun U x12 => by
    rw [List.map_map]
    refine mLc_map wTt (fun t => .str t.habit) p.trips (by simp) (by decide) (fun t ht => ⟨_, rfl, fun V => ?_⟩) (fun _ _ => rfl) (by have := ok.n; omega)
    have w : ∀ V, opIx (wTt t) (.int 4) V = .ok (.str t.habit) V := fun V => rfl
    simp -implicitDefEqProofs [e_k37_law_5, wipeR, w]
  have q : ∀ U, opInQ (.str "dark") (.lst ((p.trips.map Tr.habit).map W.str)) U = .ok (.bl (inW (.str "dark") ((p.trips.map Tr.habit).map W.str))) U := fun U => by
    unfold opInQ
    rw [getQ_lst]
    dsimp only
    rw [if_pos]
    rw [Bool.and_eq_true]
    exact ⟨rfl, by rw [List.all_map]; exact List.all_eq_true.mpr fun _ _ => rfl⟩
  have s1 : ∀ U, bSortD [.lst ((prL p).map prW)] U = .ok (.lst (((prL p).mergeSort leP).map prW)) U := fun U => bSortD_pr (by have := prL_few ok; omega)
  have s2 : ∀ U, bSortD [.lst ((prL (dbl p)).map prW)] U = .ok (.lst (((prL (dbl p)).mergeSort leP).map prW)) U := fun U => bSortD_pr (by have := prL_few okq; omega)
  cases hq : inW (.str "dark") ((p.trips.map Tr.habit).map W.str) with
  | true =>
    rw [hq] at q
    simp -implicitDefEqProofs [c_k37_law_3, bt1, bt2, nb, k1, k2, n1, n2, c_k37_law_2, lc, lh, q, -List.map_map]
  | false =>
    rw [hq] at q
    have hh : ∀ u ∈ p.trips, u.habit ≠ "dark" := fun u hu => inW_dark _ hq _ (List.mem_map_of_mem hu)
    rw [sort_perm (prL_perm ok okq hh)] at s2
    have es : ∀ U, opEq (.lst (((prL p).mergeSort leP).map prW)) (.lst (((prL p).mergeSort leP).map prW)) U = .ok (.bl true) U := fun U => eq_prs _
    simp -implicitDefEqProofs [c_k37_law_3, bt1, bt2, nb, k1, k2, n1, n2, c_k37_law_2, lc, lh, q, s1, s2, es, -List.map_map]
theorem k37_law_is (ns : List Int) (h : ns.length ≤ 63) : ∃ S, m_k37_law [.scr ns] [] = .ok (.bl true) S := by
  obtain ⟨D, g, e1⟩ := run_random ns h 37 (by omega)
  obtain ⟨p0, D2, g2, ok0, h4, e2⟩ := run_parts g (most := 4) (by omega) (by omega)
  have hm0 := Int.emod_nonneg p0.length (b := 24) (by omega)
  have hm1 := Int.emod_lt_of_pos p0.length (b := 24) (by omega)
  obtain ⟨L, hL⟩ : ∃ L, L = 1 + p0.length % 24 := ⟨_, rfl⟩
  obtain ⟨p, hp⟩ : ∃ p : Pt, p = ⟨p0.top, L, p0.time, p0.trips.map (mdT L)⟩ := ⟨_, rfl⟩
  have pT : p.trips = p0.trips.map (mdT L) := by rw [hp]
  have pL : p.length = L := by rw [hp]
  have hl : p.trips.length = p0.trips.length := by rw [pT, List.length_map]
  have ok : p.Ok := by
    rw [hp]
    refine ⟨ok0.t0, ok0.t1, by show 1 ≤ L; omega, by show L ≤ 48; omega, ok0.m0, ok0.m1, by show (p0.trips.map (mdT L)).length ≤ 8; rw [List.length_map]; exact ok0.n, fun t ht => ?_⟩
    obtain ⟨z, hz, rfl⟩ := List.mem_map.mp (show t ∈ p0.trips.map (mdT L) from ht)
    have k := ok0.ok z hz
    exact ⟨Int.emod_nonneg _ (by omega), Int.emod_lt_of_pos _ (by omega), k.a0, k.a1, k.b0, k.b1, k.ne, k.p0, k.p1, k.hb⟩
  have okq : (dbl p).Ok := dbl_ok ok (by omega) (by omega)
  obtain ⟨a, D3, g3, a0, a1, e3⟩ := draw g2 (lim := 200) (by omega) (by omega)
  obtain ⟨b, D4, g4, b0, b1, e4⟩ := draw g3 (lim := 200) (by omega) (by omega)
  obtain ⟨t, D5, g5, ht, e5⟩ := run_some_tick g4
  have i0 : ∀ U, opIx (wP p0) (.int 0) U = .ok (.int p0.top) U := fun U => rfl
  have i1 : ∀ U, opIx (wP p0) (.int 1) U = .ok (.int p0.length) U := fun U => rfl
  have i2 : ∀ U, opIx (wP p0) (.int 2) U = .ok (.int p0.time) U := fun U => rfl
  have i3 : ∀ U, opIx (wP p0) (.int 3) U = .ok (.tup (p0.trips.map wTt)) U := fun U => rfl
  have bi : ∀ (x : Int) U, bInt [.int x] U = .ok (.int x) U := fun x U => rfl
  have q1 : ∀ U, mLc [8] (.n 8) (iT (mVar 6)) (mYes) (e_k37_law_1) [some (.scr ns), some (.loc 0), some (wP p0), some (.int p0.top), some (.int L), some (.int p0.time), some (.tup (p0.trips.map wTt)), none, none, none, none, none, none, none, none, none, none] U = .ok (.lst (p.trips.map wTt)) U := fun U => by
    rw [pT, List.map_map]
    refine mLc_map wTt (fun t => wTt (mdT L t)) p0.trips (by simp) (by decide) (fun t ht => ⟨_, rfl, fun V => ?_⟩) (fun _ _ => nol_le nol_wTt (by omega)) (by have := ok0.n; omega)
    have w1 : ∀ V, opCut (some 1) none (wTt t) V = .ok (.tup [.int t.source, .int t.target, .int t.pace, .str t.habit]) V := fun V => rfl
    have w2 : ∀ V, opAdd (.tup [.int (t.start % L)]) (.tup [.int t.source, .int t.target, .int t.pace, .str t.habit]) V = .ok (wTt (mdT L t)) V := fun V => (opAdd_tup (by simp)).trans rfl
    have w3 : ∀ V, opIx (wTt t) (.int 0) V = .ok (.int t.start) V := fun V => rfl
    simp -implicitDefEqProofs [e_k37_law_1, wipeR, w1, w2, w3, bi, show (0 : Int) < L by omega, show ((0 : Int) < L ∧ L < 1073741824) from ⟨by omega, by omega⟩]
  obtain ⟨y8, lp⟩ := dbl_loop (S := dst D2 []) (L := L) (some (.scr ns)) (some (.loc 0)) (some (wP p0)) (some (.int p0.top)) (some (.int p0.time)) (some (.tup (p.trips.map wTt))) none none none none none none none none p.trips [] none (by simp; omega)
  rw [List.nil_append] at lp
  have lp : sForL (.n 8) f_k37_law_1 (p.trips.map wTt) [some (.scr ns), some (.loc 0), some (wP p0), some (.int p0.top), some (.int L), some (.int p0.time), some (.tup (p.trips.map wTt)), some (.lst []), none, none, none, none, none, none, none, none, none] (dst D2 []) = _ := lp
  have r1 : ∀ U, frR U (m_l_made [.tup [.int p0.top, .int L, .int p0.time, .tup (p.trips.map wTt)]] U) = .ok (wS p) U := fun U => by
    have e : W.tup [.int p0.top, .int L, .int p0.time, .tup (p.trips.map wTt)] = wP p := by rw [hp]; rfl
    rw [e]
    exact run_l_made ok
  have r2 : ∀ U, frR U (m_l_made [.tup [.int p0.top, .int (2 * L), .int p0.time, .tup ((dblT L p.trips).map wTt)]] U) = .ok (wS (dbl p)) U := fun U => by
    have e : W.tup [.int p0.top, .int (2 * L), .int p0.time, .tup ((dblT L p.trips).map wTt)] = wP (dbl p) := by rw [hp]; rfl
    rw [e]
    exact run_l_made okq
  have mk : mulOk 2 L = true := mulOk_l (by omega) (by omega)
  have lt1 : ∀ t : Nat, (scn p (t : Int)).light = (scn (dbl p) (t : Int)).light := fun t => (scn_dbl ok okq t).2.1.symm
  have f1 : ∀ U, frR U (m_first_difference [wS p, wS (dbl p)] U) = .ok .non U := fun U => by rw [run_first_difference ok okq, fd_none ok okq lt1]; rfl
  have f2 : ∀ U, frR U (m_first_difference [wS (dbl p), wS p] U) = .ok .non U := fun U => by rw [run_first_difference okq ok, fd_none okq ok fun t => (lt1 t).symm]; rfl
  obtain ⟨y11, l2⟩ := loop37 (S := dst D5 []) ok okq (some (.scr ns)) (some (.loc 0)) (some (wP p0)) (some (.int p0.top)) (some (.int L)) (some (.int p0.time)) (some (.tup (p.trips.map wTt))) (some (.lst ((dblT L p.trips).map wTt))) y8 none none none none none [a, b, (t : Int)] none fun u hu => by
    simp only [List.mem_cons, List.not_mem_nil, or_false] at hu
    rcases hu with rfl | rfl | rfl <;> omega
  have l2 : sForL (.n 11) f_k37_law_2 [.int a, .int b, .int (t : Int)] _ _ = _ := l2
  have tl := tail37 (S := dst D5 []) ok okq (some (.scr ns)) (some (.loc 0)) (some (wP p0)) (some (.int p0.top)) (some (.int L)) (some (.int p0.time)) (some (.lst ((dblT L p.trips).map wTt))) y8 y11 none none none none none
  refine ⟨dst D5 [], (fnM_ev rfl).trans ?_⟩
  simp -implicitDefEqProofs [b_k37_law, e1, e2, i0, i1, i2, i3, bi, show (0 : Int) < 24 by omega, ← hL, q1, lp, c_k37_law_5, r1, mk, r2, f1, f2, c_k37_law_4, e3, e4, e5, l2, tl, -List.map_map, -opIx_tup]
end
end SL
set_option maxHeartbeats 0
namespace SL
open PySem PySem.Spec PyProof.Rows L2
def top (i : Nat) : Stmt := PySem.Challenge.pw_stairlights_k37_whole_doubled_rounds.main.body.getD i (.Pass ⟨0, 0, 0, 0⟩)
def clsBody (s : Stmt) : List Stmt := match s with
  | .ClassDef _ _ _ body _ _ _ _ _ _ _ => body
  | _ => []
def inC (s : Stmt) (j : Nat) : Stmt := (clsBody s).getD j (.Pass ⟨0, 0, 0, 0⟩)
def FS : List Fx := [
  .fa (.glo "law"),
  .fa (.free "abs"),
  .fa (.glo "_law_random"),
  .fa (.free "len"),
  .fa (.glo "_law_below"),
  .fa (.free "range"),
  .fa (.glo "_law_trip"),
  .fa (.free "tuple"),
  .fa (.glo "_law_parts"),
  .fa (.free "int"),
  .fa (.free "isinstance"),
  .fa (.free "bool"),
  .fa (.glo "is_int_in"),
  .fa (.int "MAX_TOP" 9),
  .xn "InvalidStairs",
  .le "LightError",
  .fa (.glo "LightError"),
  .fa (.noat "InvalidStairs" "part"),
  .fa (.noat "InvalidStairs" "index"),
  .fa (.glo "InvalidStairs"),
  .fa (.int "MAX_ROUND" 48),
  .fa (.int "MAX_TIME" 60),
  .fa (.free "enumerate"),
  .fa (.int "MAX_TRIPS" 8),
  .fa (.int "MAX_PACE" 5),
  .fa (.free "str"),
  .tp "HABITS" ["dark", "always", "never"],
  .fa (.glo "HABITS"),
  .fa (.glo "is_trip"),
  .fa (.cls "Stairs"),
  .fa (.noat "Stairs" "top"),
  .fa (.noat "Stairs" "length"),
  .fa (.noat "Stairs" "time"),
  .fa (.cls "Trip"),
  .fa (.noat "Trip" "start"),
  .fa (.noat "Trip" "source"),
  .fa (.noat "Trip" "target"),
  .fa (.noat "Trip" "pace"),
  .fa (.noat "Trip" "habit"),
  .fa (.glo "Trip"),
  .fa (.mkr "Trip"),
  .fa (.noat "Stairs" "trips"),
  .fa (.glo "Stairs"),
  .fa (.mkr "Stairs"),
  .fa (.meth "Stairs" "with_trips"),
  .fa (.free "list"),
  .fa (.glo "_law_made"),
  .fa (.cls "Story"),
  .fa (.noat "Story" "scenes"),
  .fa (.noat "Story" "start"),
  .pr "Trip" "duration",
  .fa (.free "max"),
  .fa (.meth "Stairs" "ages"),
  .fa (.free "divmod"),
  .fa (.meth "Trip" "floor_at"),
  .fa (.str "ALWAYS" "always"),
  .fa (.str "DARK" "dark"),
  .fa (.cls "Scene"),
  .fa (.noat "Scene" "burning"),
  .fa (.noat "Scene" "presses"),
  .fa (.noat "Scene" "dark"),
  .fa (.glo "Scene"),
  .fa (.mkr "Scene"),
  .fa (.glo "next_scene"),
  .fa (.glo "Story"),
  .fa (.mkr "Story"),
  .fa (.glo "common_multiple"),
  .pr "Story" "size",
  .fa (.meth "Story" "scene"),
  .fa (.glo "first_difference"),
  .fa (.glo "_law_some_tick"),
  .fa (.int "MAX_TICK" 1000000000000000000),
  .fa (.exc "InvalidTick"),
  .fa (.glo "InvalidTick"),
  .fa (.glo "check_tick"),
  .fa (.glo "light"),
  .fa (.free "sum"),
  .fa (.meth "Story" "count"),
  .fa (.glo "count_lit"),
  .fa (.glo "count_presses"),
  .fa (.glo "in_dark"),
  .fa (.free "sorted"),
  .fa (.free "set"),
  .fa (.free "all"),
  .fa (.glo "is_bright"),
  .pr "Trip" "parts",
  .pr "Stairs" "all_trips",
  .fa (.meth "Stairs" "with_time"),
  .fa (.glo "bright_times"),
  .fa (.glo "first_dark"),
  .fa (.int "MAX_LISTED" 1000),
  .fa (.free "min"),
  .fa (.glo "presses_between")]
def DS : List Df := [
  ⟨.fn "_law_random", "_law_random", "_law_random", defArgs (top 40), defBody (top 40), defScope (top 40)⟩,
  ⟨.fn "_law_below", "_law_below", "_law_below", defArgs (top 41), defBody (top 41), defScope (top 41)⟩,
  ⟨.fn "_law_trip", "_law_trip", "_law_trip", defArgs (top 42), defBody (top 42), defScope (top 42)⟩,
  ⟨.fn "_law_parts", "_law_parts", "_law_parts", defArgs (top 43), defBody (top 43), defScope (top 43)⟩,
  ⟨.fn "is_int_in", "is_int_in", "is_int_in", defArgs (top 16), defBody (top 16), defScope (top 16)⟩,
  ⟨.me "InvalidStairs" "__init__", "__init__", "InvalidStairs.__init__", defArgs (inC (top 3) 0), defBody (inC (top 3) 0), defScope (inC (top 3) 0)⟩,
  ⟨.fn "is_trip", "is_trip", "is_trip", defArgs (top 18), defBody (top 18), defScope (top 18)⟩,
  ⟨.me "Trip" "__init__", "__init__", "Trip.__init__", defArgs (inC (top 17) 0), defBody (inC (top 17) 0), defScope (inC (top 17) 0)⟩,
  ⟨.me "Stairs" "__init__", "__init__", "Stairs.__init__", defArgs (inC (top 19) 0), defBody (inC (top 19) 0), defScope (inC (top 19) 0)⟩,
  ⟨.me "Stairs" "with_trips", "with_trips", "Stairs.with_trips", defArgs (inC (top 19) 5), defBody (inC (top 19) 5), defScope (inC (top 19) 5)⟩,
  ⟨.fn "_law_made", "_law_made", "_law_made", defArgs (top 44), defBody (top 44), defScope (top 44)⟩,
  ⟨.pr "Trip" "duration", "duration", "Trip.duration", defArgs (inC (top 17) 2), defBody (inC (top 17) 2), defScope (inC (top 17) 2)⟩,
  ⟨.me "Stairs" "ages", "ages", "Stairs.ages", defArgs (inC (top 19) 6), defBody (inC (top 19) 6), defScope (inC (top 19) 6)⟩,
  ⟨.me "Trip" "floor_at", "floor_at", "Trip.floor_at", defArgs (inC (top 17) 3), defBody (inC (top 17) 3), defScope (inC (top 17) 3)⟩,
  ⟨.me "Scene" "__init__", "__init__", "Scene.__init__", defArgs (inC (top 23) 0), defBody (inC (top 23) 0), defScope (inC (top 23) 0)⟩,
  ⟨.fn "next_scene", "next_scene", "next_scene", defArgs (top 24), defBody (top 24), defScope (top 24)⟩,
  ⟨.me "Story" "__init__", "__init__", "Story.__init__", defArgs (inC (top 25) 0), defBody (inC (top 25) 0), defScope (inC (top 25) 0)⟩,
  ⟨.fn "common_multiple", "common_multiple", "common_multiple", defArgs (top 31), defBody (top 31), defScope (top 31)⟩,
  ⟨.pr "Story" "size", "size", "Story.size", defArgs (inC (top 25) 1), defBody (inC (top 25) 1), defScope (inC (top 25) 1)⟩,
  ⟨.me "Story" "scene", "scene", "Story.scene", defArgs (inC (top 25) 2), defBody (inC (top 25) 2), defScope (inC (top 25) 2)⟩,
  ⟨.fn "first_difference", "first_difference", "first_difference", defArgs (top 32), defBody (top 32), defScope (top 32)⟩,
  ⟨.fn "_law_some_tick", "_law_some_tick", "_law_some_tick", defArgs (top 45), defBody (top 45), defScope (top 45)⟩,
  ⟨.fn "check_tick", "check_tick", "check_tick", defArgs (top 20), defBody (top 20), defScope (top 20)⟩,
  ⟨.fn "light", "light", "light", defArgs (top 26), defBody (top 26), defScope (top 26)⟩,
  ⟨.me "Story" "count", "count", "Story.count", defArgs (inC (top 25) 3), defBody (inC (top 25) 3), defScope (inC (top 25) 3)⟩,
  ⟨.fn "count_lit", "count_lit", "count_lit", defArgs (top 29), defBody (top 29), defScope (top 29)⟩,
  ⟨.fn "count_presses", "count_presses", "count_presses", defArgs (top 28), defBody (top 28), defScope (top 28)⟩,
  ⟨.fn "in_dark", "in_dark", "in_dark", defArgs (top 34), defBody (top 34), defScope (top 34)⟩,
  ⟨.fn "is_bright", "is_bright", "is_bright", defArgs (top 37), defBody (top 37), defScope (top 37)⟩,
  ⟨.pr "Trip" "parts", "parts", "Trip.parts", defArgs (inC (top 17) 1), defBody (inC (top 17) 1), defScope (inC (top 17) 1)⟩,
  ⟨.pr "Stairs" "all_trips", "all_trips", "Stairs.all_trips", defArgs (inC (top 19) 3), defBody (inC (top 19) 3), defScope (inC (top 19) 3)⟩,
  ⟨.me "Stairs" "with_time", "with_time", "Stairs.with_time", defArgs (inC (top 19) 4), defBody (inC (top 19) 4), defScope (inC (top 19) 4)⟩,
  ⟨.fn "bright_times", "bright_times", "bright_times", defArgs (top 38), defBody (top 38), defScope (top 38)⟩,
  ⟨.fn "first_dark", "first_dark", "first_dark", defArgs (top 35), defBody (top 35), defScope (top 35)⟩,
  ⟨.fn "presses_between", "presses_between", "presses_between", defArgs (top 27), defBody (top 27), defScope (top 27)⟩,
  ⟨.fn "law", "law", "law", defArgs (top 46), defBody (top 46), defScope (top 46)⟩]
def TF : List MkD := [(("count_lit", none), "count_lit"), (("count_presses", none), "count_presses")]
def NX_l_random : List PySem.Str := ["_law_script", "_law_salt", "_law_seed", "_law_cell"]
theorem sc_l_random : FnScope NX_l_random ["_law_script", "_law_salt"] (defScope (top 40)) := ⟨rfl, rfl, rfl, by decide +kernel, rfl, by decide +kernel, by decide +kernel⟩
theorem ok_l_random {P : Program} {w : World} {K : PySem.W.Frag} {mg : PySem.Str → Option Value} {base : Heap} {lam : Lm} (Z : Sy FS DS K mg) : FnAt P w K mg base (caL K lam) "_law_random" 1 m_l_random := by
  exact Z.fn (N := NX_l_random) (ps := ["_law_script", "_law_salt"]) 0 2 rfl rfl sc_l_random rfl rfl (fun _ _ _ _ _ _ us hl => match us, hl with | [_, _], _ => rfl) (fun f cdv A outer s H E b => by
    have nd := sc_l_random.nd
    exact ms_cons (ms_set 2 nd (me_var 1)) (ms_cons (ms_for (passes_of rfl) b.calm (mi_list (me_var 0)) (mg_name 3 nd) (ms_one (ms_set 2 nd (me_op om_mod (me_op om_add (me_op om_mul (me_var 2) (me_int)) (me_callB (bm_abs) (Z.free 1) (ma_cons (me_var 3) (ma_nil)))) (me_int))))) (ms_one (ms_ret (me_op om_addC (me_lst (ma_cons (me_var 2) (ma_cons (me_int) (ma_nil)))) (me_lcB [3] b nd (mi_list (me_var 0)) (blkOk_by (own := [("_law_cell", 3)]) (N := NX_l_random) (sc := defScope (top 40)) (by decide +kernel)) rfl (fun _ _ _ _ _ b => mg_name 3 nd) (fun _ _ _ _ _ b => mts_one (mt_cmp om_ge (me_var 3) (me_op om_pow (me_int) (me_int)))) (fun _ _ _ _ _ b => me_var 3)))))))
def NX_l_below : List PySem.Str := ["_law_d", "_law_limit", "_law_result"]
theorem sc_l_below : FnScope NX_l_below ["_law_d", "_law_limit"] (defScope (top 41)) := ⟨rfl, rfl, rfl, by decide +kernel, rfl, by decide +kernel, by decide +kernel⟩
theorem ok_l_below {P : Program} {w : World} {K : PySem.W.Frag} {mg : PySem.Str → Option Value} {base : Heap} {lam : Lm} (Z : Sy FS DS K mg) : FnAt P w K mg base (caL K lam) "_law_below" 1 m_l_below := by
  exact Z.fn (N := NX_l_below) (ps := ["_law_d", "_law_limit"]) 1 4 rfl rfl sc_l_below rfl rfl (fun _ _ _ _ _ _ us hl => match us, hl with | [_, _], _ => rfl) (fun f cdv A outer s H E b => by
    have nd := sc_l_below.nd
    exact ms_cons (ms_if (mt_bool (mw_and (mt_cmp (om_eq b.hr.units) (me_ix (me_var 0) (me_int)) (me_int)) (mw_and1 (mt_cmp om_gt (me_callB (bm_len) (Z.free 3) (ma_cons (me_var 0) (ma_nil))) (me_int))))) (ms_one (ms_ixset (me_var 0) (me_int) (me_bm PySem.F.plainAttrs_list PySem.F.slot_list_pop PySem.F.type_list_pop fm_pop (me_var 0) (ma_cons (me_int) (ma_nil))))) (ms_nil)) (ms_cons (ms_if (mt_cmp om_gt (me_ix (me_var 0) (me_int)) (me_int)) (ms_cons (ms_set 2 nd (me_op om_mod (me_ix (me_var 0) (me_int)) (me_var 1))) (ms_cons (ms_ixset (me_var 0) (me_int) (me_op om_fdiv (me_ix (me_var 0) (me_int)) (me_var 1))) (ms_one (ms_ret (me_var 2))))) (ms_nil)) (ms_cons (ms_ixset (me_var 0) (me_int) (me_op om_mod (me_op om_add (me_op om_mul (me_ix (me_var 0) (me_int)) (me_int)) (me_int)) (me_int))) (ms_one (ms_ret (me_op om_mod (me_op om_fdiv (me_ix (me_var 0) (me_int)) (me_int)) (me_var 1)))))))
def NX_l_trip : List PySem.Str := ["_law_d", "_law_top", "_law_length", "_law_source", "_law_target", "_law_habit"]
theorem sc_l_trip : FnScope NX_l_trip ["_law_d", "_law_top", "_law_length"] (defScope (top 42)) := ⟨rfl, rfl, rfl, by decide +kernel, rfl, by decide +kernel, by decide +kernel⟩
theorem ok_l_trip {P : Program} {w : World} {K : PySem.W.Frag} {mg : PySem.Str → Option Value} {base : Heap} {lam : Lm} (Z : Sy FS DS K mg) : FnAt P w K mg base (caL K lam) "_law_trip" 2 m_l_trip := by
  exact Z.fn (N := NX_l_trip) (ps := ["_law_d", "_law_top", "_law_length"]) 2 6 rfl rfl sc_l_trip rfl rfl (fun _ _ _ _ _ _ us hl => match us, hl with | [_, _, _], _ => rfl) (fun f cdv A outer s H E b => by
    have nd := sc_l_trip.nd
    exact ms_cons (ms_set 3 nd (me_fn (ok_l_below Z) b (ma_cons (me_var 0) (ma_cons (me_op om_add (me_var 1) (me_int)) (ma_nil))))) (ms_cons (ms_set 4 nd (me_op om_mod (me_op om_add (me_op om_add (me_var 3) (me_int)) (me_fn (ok_l_below Z) b (ma_cons (me_var 0) (ma_cons (me_var 1) (ma_nil))))) (me_op om_add (me_var 1) (me_int)))) (ms_cons (ms_set 5 nd (me_ix (me_lst (ma_cons (me_str) (ma_cons (me_str) (ma_cons (me_str) (ma_cons (me_str) (ma_nil)))))) (me_fn (ok_l_below Z) b (ma_cons (me_var 0) (ma_cons (me_int) (ma_nil)))))) (ms_one (ms_ret (me_tup (ma_cons (me_fn (ok_l_below Z) b (ma_cons (me_var 0) (ma_cons (me_var 2) (ma_nil)))) (ma_cons (me_var 3) (ma_cons (me_var 4) (ma_cons (me_op om_add (me_int) (me_fn (ok_l_below Z) b (ma_cons (me_var 0) (ma_cons (me_ix (me_lst (ma_cons (me_int) (ma_cons (me_int) (ma_nil)))) (me_fn (ok_l_below Z) b (ma_cons (me_var 0) (ma_cons (me_int) (ma_nil))))) (ma_nil))))) (ma_cons (me_var 5) (ma_nil))))))))))))
def NX_l_parts : List PySem.Str := ["_law_d", "_law_most", "_law_top", "_law_length", "_law_time", "_law_k"]
theorem sc_l_parts : FnScope NX_l_parts ["_law_d", "_law_most"] (defScope (top 43)) := ⟨rfl, rfl, rfl, by decide +kernel, rfl, by decide +kernel, by decide +kernel⟩
theorem ok_l_parts {P : Program} {w : World} {K : PySem.W.Frag} {mg : PySem.Str → Option Value} {base : Heap} {lam : Lm} (Z : Sy FS DS K mg) : FnAt P w K mg base (caL K lam) "_law_parts" 3 m_l_parts := by
  exact Z.fn (N := NX_l_parts) (ps := ["_law_d", "_law_most"]) 3 8 rfl rfl sc_l_parts rfl rfl (fun _ _ _ _ _ _ us hl => match us, hl with | [_, _], _ => rfl) (fun f cdv A outer s H E b => by
    have nd := sc_l_parts.nd
    exact ms_cons (ms_tg (.t [2, 3]) (mg_tup b.calm (mgs_cons (mg_name 2 nd) (mgs_cons (mg_name 3 nd) (mgs_nil)))) (me_tup (ma_cons (me_op om_add (me_int) (me_fn (ok_l_below Z) b (ma_cons (me_var 0) (ma_cons (me_ix (me_lst (ma_cons (me_int) (ma_cons (me_int) (ma_nil)))) (me_fn (ok_l_below Z) b (ma_cons (me_var 0) (ma_cons (me_int) (ma_nil))))) (ma_nil))))) (ma_cons (me_op om_add (me_int) (me_fn (ok_l_below Z) b (ma_cons (me_var 0) (ma_cons (me_ix (me_lst (ma_cons (me_int) (ma_cons (me_int) (ma_nil)))) (me_fn (ok_l_below Z) b (ma_cons (me_var 0) (ma_cons (me_int) (ma_nil))))) (ma_nil))))) (ma_nil))))) (ms_cons (ms_set 4 nd (me_op om_add (me_int) (me_fn (ok_l_below Z) b (ma_cons (me_var 0) (ma_cons (me_ix (me_lst (ma_cons (me_int) (ma_cons (me_int) (ma_cons (me_int) (ma_nil))))) (me_fn (ok_l_below Z) b (ma_cons (me_var 0) (ma_cons (me_int) (ma_nil))))) (ma_nil)))))) (ms_one (ms_ret (me_tup (ma_cons (me_var 2) (ma_cons (me_var 3) (ma_cons (me_var 4) (ma_cons (me_callTy bm_tuple (Z.free 7) (ma_cons (me_lcB [5] b nd (mi_range1 (Z.free 5) (ma_cons (me_fn (ok_l_below Z) b (ma_cons (me_var 0) (ma_cons (me_op om_add (me_var 1) (me_int)) (ma_nil)))) (ma_nil))) (blkOk_by (own := [("_law_k", 5)]) (N := NX_l_parts) (sc := defScope (top 43)) (by decide +kernel)) rfl (fun _ _ _ _ _ b => mg_name 5 nd) (fun _ _ _ _ _ b => mts_nil) (fun _ _ _ _ _ b => me_fn (ok_l_trip Z) b (ma_cons (me_var 0) (ma_cons (me_var 2) (ma_cons (me_var 3) (ma_nil)))))) (ma_nil))) (ma_nil))))))))))
def NX_is_int_in : List PySem.Str := ["value", "low", "high"]
theorem sc_is_int_in : FnScope NX_is_int_in ["value", "low", "high"] (defScope (top 16)) := ⟨rfl, rfl, rfl, by decide +kernel, rfl, by decide +kernel, by decide +kernel⟩
theorem ok_is_int_in {P : Program} {w : World} {K : PySem.W.Frag} {mg : PySem.Str → Option Value} {base : Heap} {lam : Lm} (Z : Sy FS DS K mg) : FnAt P w K mg base (caL K lam) "is_int_in" 1 m_is_int_in := by
  exact Z.fn (N := NX_is_int_in) (ps := ["value", "low", "high"]) 4 12 rfl rfl sc_is_int_in rfl rfl (fun _ _ _ _ _ _ us hl => match us, hl with | [_, _, _], _ => rfl) (fun f cdv A outer s H E b => by
    have nd := sc_is_int_in.nd
    exact ms_one (ms_ret (me_and (me_callB (bm_isi) (Z.free 10) (ma_cons (me_var 0) (ma_cons (me_bty (Z.free 9) (by decide +kernel)) (ma_nil)))) (me_and (me_not (me_callB (bm_isi) (Z.free 10) (ma_cons (me_var 0) (ma_cons (me_bty (Z.free 11) (by decide +kernel)) (ma_nil))))) (me_one (me_chain om_le om_le (me_var 1) (me_var 0) (me_var 2)))))))
theorem ok_InvalidStairs___init__ {P : Program} {w : World} {K : PySem.W.Frag} {mg : PySem.Str → Option Value} {base : Heap} (Z : Sy FS DS K mg) : XiAt P w K mg base (He.ga K "InvalidStairs") 1 (spX2 K "part" "index") :=
  Z.xi2 5 14 rfl rfl ⟨rfl, rfl, rfl, by decide +kernel, rfl, by decide +kernel, by decide +kernel⟩ (fun _ _ _ _ _ _ us hl => match us, hl with | [_, _, _], _ => rfl) (fun f cdv A outer s H E => ps_expr (pe_leinit (Z.le 15) (Z.glo 16) (pa_cons (pe_var rfl (.inl rfl)) (pa_cons (pe_var rfl (.inl rfl)) (pa_cons (pe_var rfl (.inl rfl)) (pa_nil)))))) rfl ⟨.inl rfl, .inl rfl, .inl rfl⟩ ⟨by decide, by decide⟩ ⟨by decide, by decide⟩
def NX_is_trip : List PySem.Str := ["value", "top", "length", "start", "source", "target", "pace", "habit"]
theorem sc_is_trip : FnScope NX_is_trip ["value", "top", "length"] (defScope (top 18)) := ⟨rfl, rfl, rfl, by decide +kernel, rfl, by decide +kernel, by decide +kernel⟩
theorem ok_is_trip {P : Program} {w : World} {K : PySem.W.Frag} {mg : PySem.Str → Option Value} {base : Heap} {lam : Lm} (Z : Sy FS DS K mg) : FnAt P w K mg base (caL K lam) "is_trip" 2 m_is_trip := by
  exact Z.fn (N := NX_is_trip) (ps := ["value", "top", "length"]) 6 28 rfl rfl sc_is_trip rfl rfl (fun _ _ _ _ _ _ us hl => match us, hl with | [_, _, _], _ => rfl) (fun f cdv A outer s H E b => by
    have nd := sc_is_trip.nd
    exact ms_cons (ms_if (mt_bool (mw_or (mt_not (mt_val (me_callB (bm_isi) (Z.free 10) (ma_cons (me_var 0) (ma_cons (me_bty (Z.free 7) (by decide +kernel)) (ma_nil)))))) (mw_or1 (mt_cmp (om_ne b.hr.units) (me_callB (bm_len) (Z.free 3) (ma_cons (me_var 0) (ma_nil))) (me_int))))) (ms_one (ms_ret (me_bl))) (ms_nil)) (ms_cons (ms_tg (.t [3, 4, 5, 6, 7]) (mg_tup b.calm (mgs_cons (mg_name 3 nd) (mgs_cons (mg_name 4 nd) (mgs_cons (mg_name 5 nd) (mgs_cons (mg_name 6 nd) (mgs_cons (mg_name 7 nd) (mgs_nil))))))) (me_var 0)) (ms_cons (ms_if (mt_bool (mw_or (mt_not (mt_val (me_fn (ok_is_int_in Z) b (ma_cons (me_var 3) (ma_cons (me_int) (ma_cons (me_op om_sub (me_var 2) (me_int)) (ma_nil))))))) (mw_or1 (mt_not (mt_val (me_fn (ok_is_int_in Z) b (ma_cons (me_var 6) (ma_cons (me_int) (ma_cons (me_gint (Z.int 24)) (ma_nil)))))))))) (ms_one (ms_ret (me_bl))) (ms_nil)) (ms_cons (ms_if (mt_bool (mw_or (mt_not (mt_val (me_fn (ok_is_int_in Z) b (ma_cons (me_var 4) (ma_cons (me_int) (ma_cons (me_var 1) (ma_nil))))))) (mw_or (mt_not (mt_val (me_fn (ok_is_int_in Z) b (ma_cons (me_var 5) (ma_cons (me_int) (ma_cons (me_var 1) (ma_nil))))))) (mw_or1 (mt_cmp (om_eq b.hr.units) (me_var 4) (me_var 5)))))) (ms_one (ms_ret (me_bl))) (ms_nil)) (ms_one (ms_ret (me_and (me_callB (bm_isi) (Z.free 10) (ma_cons (me_var 7) (ma_cons (me_bty (Z.free 25) (by decide +kernel)) (ma_nil)))) (me_one (me_cmp om_inQ (me_var 7) (me_tp (zs := ["dark", "always", "never"]) (Z.tp 26) (Z.glo 27)))))))))))
def NX_Trip___init__ : List PySem.Str := ["self", "start", "source", "target", "pace", "habit"]
theorem sc_Trip___init__ : FnScope NX_Trip___init__ ["self", "start", "source", "target", "pace", "habit"] (defScope (inC (top 17) 0)) := ⟨rfl, rfl, rfl, by decide +kernel, rfl, by decide +kernel, by decide +kernel⟩
theorem ok_Trip___init__ {P : Program} {w : World} {K : PySem.W.Frag} {mg : PySem.Str → Option Value} {base : Heap} {lam : Lm} (Z : Sy FS DS K mg) : NewAt P w K mg base (caL K lam) .Trip "Trip" 1 m_Trip___init__ := by
  exact Z.new (N := NX_Trip___init__) (ps := ["self", "start", "source", "target", "pace", "habit"]) 7 39 40 rfl rfl rfl rfl sc_Trip___init__ rfl rfl (fun _ _ _ _ _ _ us hl => match us, hl with | [_, _, _, _, _, _], _ => rfl) (fun f cdv A outer s H E b => by
    have nd := sc_Trip___init__.nd
    exact ms_cons (ms_fldset (c := .Trip) (f := .start) (Z.cls 33) (Z.noat 34) (me_var 0) (me_var 1)) (ms_cons (ms_fldset (c := .Trip) (f := .source) (Z.cls 33) (Z.noat 35) (me_var 0) (me_var 2)) (ms_cons (ms_fldset (c := .Trip) (f := .target) (Z.cls 33) (Z.noat 36) (me_var 0) (me_var 3)) (ms_cons (ms_fldset (c := .Trip) (f := .pace) (Z.cls 33) (Z.noat 37) (me_var 0) (me_var 4)) (ms_one (ms_fldset (c := .Trip) (f := .habit) (Z.cls 33) (Z.noat 38) (me_var 0) (me_var 5)))))))
def NX_Stairs___init__ : List PySem.Str := ["self", "top", "length", "time", "trips", "index", "trip"]
theorem sc_Stairs___init__ : FnScope NX_Stairs___init__ ["self", "top", "length", "time", "trips"] (defScope (inC (top 19) 0)) := ⟨rfl, rfl, rfl, by decide +kernel, rfl, by decide +kernel, by decide +kernel⟩
theorem ok_Stairs___init__ {P : Program} {w : World} {K : PySem.W.Frag} {mg : PySem.Str → Option Value} {base : Heap} {lam : Lm} (Z : Sy FS DS K mg) : NewAt P w K mg base (caL K lam) .Stairs "Stairs" 3 m_Stairs___init__ := by
  exact Z.newS (N := NX_Stairs___init__) (ps := ["self", "top", "length", "time"]) 8 42 43 rfl rfl rfl rfl sc_Stairs___init__ rfl rfl (fun _ _ _ _ _ _ us rest hl => match us, rest, hl with | [a0, a1, a2, a3], [], _ => rfl | [a0, a1, a2, a3], _ :: _, _ => rfl) (fun f cdv A outer s H E b => by
    have nd := sc_Stairs___init__.nd
    exact ms_cons (ms_if (mt_not (mt_val (me_fn (ok_is_int_in Z) b (ma_cons (me_var 1) (ma_cons (me_int) (ma_cons (me_gint (Z.int 13)) (ma_nil))))))) (ms_one (ms_raise2 (ok_InvalidStairs___init__ Z) (Z.glo 19) (Z.noat 17) (Z.noat 18) b (ma_cons (me_str) (ma_cons (me_int) (ma_nil))))) (ms_nil)) (ms_cons (ms_if (mt_not (mt_val (me_fn (ok_is_int_in Z) b (ma_cons (me_var 2) (ma_cons (me_int) (ma_cons (me_gint (Z.int 20)) (ma_nil))))))) (ms_one (ms_raise2 (ok_InvalidStairs___init__ Z) (Z.glo 19) (Z.noat 17) (Z.noat 18) b (ma_cons (me_str) (ma_cons (me_int) (ma_nil))))) (ms_nil)) (ms_cons (ms_if (mt_not (mt_val (me_fn (ok_is_int_in Z) b (ma_cons (me_var 3) (ma_cons (me_int) (ma_cons (me_gint (Z.int 21)) (ma_nil))))))) (ms_one (ms_raise2 (ok_InvalidStairs___init__ Z) (Z.glo 19) (Z.noat 17) (Z.noat 18) b (ma_cons (me_str) (ma_cons (me_int) (ma_nil))))) (ms_nil)) (ms_cons (ms_for (passes_of rfl) b.calm (mi_enumT (Z.free 22) (me_var 4)) (mg_tup b.calm (mgs_cons (mg_name 5 nd) (mgs_cons (mg_name 6 nd) (mgs_nil)))) (ms_one (ms_if (mt_bool (mw_or (mt_cmp (om_eq b.hr.units) (me_var 5) (me_gint (Z.int 23))) (mw_or1 (mt_not (mt_val (me_fn (ok_is_trip Z) b (ma_cons (me_var 6) (ma_cons (me_var 1) (ma_cons (me_var 2) (ma_nil)))))))))) (ms_one (ms_raise2 (ok_InvalidStairs___init__ Z) (Z.glo 19) (Z.noat 17) (Z.noat 18) b (ma_cons (me_str) (ma_cons (me_var 5) (ma_nil))))) (ms_nil)))) (ms_cons (ms_fldset (c := .Stairs) (f := .top) (Z.cls 29) (Z.noat 30) (me_var 0) (me_var 1)) (ms_cons (ms_fldset (c := .Stairs) (f := .length) (Z.cls 29) (Z.noat 31) (me_var 0) (me_var 2)) (ms_cons (ms_fldset (c := .Stairs) (f := .time) (Z.cls 29) (Z.noat 32) (me_var 0) (me_var 3)) (ms_one (ms_fldset (c := .Stairs) (f := .trips) (Z.cls 29) (Z.noat 41) (me_var 0) (me_lcB [6] b nd (mi_tup (me_var 4)) (blkOk_by (own := [("trip", 6)]) (N := NX_Stairs___init__) (sc := defScope (inC (top 19) 0)) (by decide +kernel)) rfl (fun _ _ _ _ _ b => mg_name 6 nd) (fun _ _ _ _ _ b => mts_nil) (fun _ _ _ _ _ b => me_nw1 (ok_Trip___init__ Z) b (me_var 6))))))))))))
def NX_Stairs_with_trips : List PySem.Str := ["self", "trips"]
theorem sc_Stairs_with_trips : FnScope NX_Stairs_with_trips ["self", "trips"] (defScope (inC (top 19) 5)) := ⟨rfl, rfl, rfl, by decide +kernel, rfl, by decide +kernel, by decide +kernel⟩
theorem ok_Stairs_with_trips {P : Program} {w : World} {K : PySem.W.Frag} {mg : PySem.Str → Option Value} {base : Heap} {lam : Lm} (Z : Sy FS DS K mg) : MethAt P w K mg base (caL K lam) .Stairs "with_trips" 5 m_Stairs_with_trips := by
  exact Z.meth (N := NX_Stairs_with_trips) (ps := ["self", "trips"]) (C := "Stairs") 9 29 44 rfl rfl rfl rfl sc_Stairs_with_trips rfl rfl (fun _ _ _ _ _ _ us hl => match us, hl with | [_, _], _ => rfl) (fun f cdv A outer s H E b => by
    have nd := sc_Stairs_with_trips.nd
    exact ms_one (ms_ret (me_nwS (ok_Stairs___init__ Z) b (ma_cons (me_fld (c := .Stairs) (f := .top) (Z.cls 29) (Z.noat 30) (me_var 0)) (ma_cons (me_fld (c := .Stairs) (f := .length) (Z.cls 29) (Z.noat 31) (me_var 0)) (ma_cons (me_fld (c := .Stairs) (f := .time) (Z.cls 29) (Z.noat 32) (me_var 0)) (ma_star (me_var 1) (ma_nil))))))))
def NX_l_made : List PySem.Str := ["_law_parts_here"]
theorem sc_l_made : FnScope NX_l_made ["_law_parts_here"] (defScope (top 44)) := ⟨rfl, rfl, rfl, by decide +kernel, rfl, by decide +kernel, by decide +kernel⟩
theorem ok_l_made {P : Program} {w : World} {K : PySem.W.Frag} {mg : PySem.Str → Option Value} {base : Heap} {lam : Lm} (Z : Sy FS DS K mg) : FnAt P w K mg base (caL K lam) "_law_made" 6 m_l_made := by
  exact Z.fn (N := NX_l_made) (ps := ["_law_parts_here"]) 10 46 rfl rfl sc_l_made rfl rfl (fun _ _ _ _ _ _ us hl => match us, hl with | [_], _ => rfl) (fun f cdv A outer s H E b => by
    have nd := sc_l_made.nd
    exact ms_one (ms_ret (me_mt (ok_Stairs_with_trips Z) b (me_nw (ok_Stairs___init__ Z) b (ma_cons (me_ix (me_var 0) (me_int)) (ma_cons (me_ix (me_var 0) (me_int)) (ma_cons (me_ix (me_var 0) (me_int)) (ma_nil))))) (ma_cons (me_callTy bm_list (Z.free 45) (ma_cons (me_ix (me_var 0) (me_int)) (ma_nil))) (ma_nil)))))
def NX_Trip_duration : List PySem.Str := ["self"]
theorem sc_Trip_duration : FnScope NX_Trip_duration ["self"] (defScope (inC (top 17) 2)) := ⟨rfl, rfl, rfl, by decide +kernel, rfl, by decide +kernel, by decide +kernel⟩
theorem ok_Trip_duration {P : Program} {w : World} {K : PySem.W.Frag} {mg : PySem.Str → Option Value} {base : Heap} {lam : Lm} (Z : Sy FS DS K mg) : PropAt P w K mg base (caL K lam) .Trip "duration" 1 m_Trip_duration := by
  exact Z.prop (N := NX_Trip_duration) (C := "Trip") 11 33 50 rfl rfl rfl rfl sc_Trip_duration rfl (fun _ _ _ _ _ _ us hl => match us, hl with | [_], _ => rfl) (fun f cdv A outer s H E b => by
    have nd := sc_Trip_duration.nd
    exact ms_one (ms_ret (me_op om_mul (me_callB (bm_abs) (Z.free 1) (ma_cons (me_op om_sub (me_fld (c := .Trip) (f := .target) (Z.cls 33) (Z.noat 36) (me_var 0)) (me_fld (c := .Trip) (f := .source) (Z.cls 33) (Z.noat 35) (me_var 0))) (ma_nil))) (me_fld (c := .Trip) (f := .pace) (Z.cls 33) (Z.noat 37) (me_var 0)))))
def NX_Stairs_ages : List PySem.Str := ["self", "number", "tick", "trip", "age", "found"]
theorem sc_Stairs_ages : FnScope NX_Stairs_ages ["self", "number", "tick"] (defScope (inC (top 19) 6)) := ⟨rfl, rfl, rfl, by decide +kernel, rfl, by decide +kernel, by decide +kernel⟩
theorem ok_Stairs_ages {P : Program} {w : World} {K : PySem.W.Frag} {mg : PySem.Str → Option Value} {base : Heap} {lam : Lm} (Z : Sy FS DS K mg) : MethAt P w K mg base (caL K lam) .Stairs "ages" 3 m_Stairs_ages := by
  exact Z.meth (N := NX_Stairs_ages) (ps := ["self", "number", "tick"]) (C := "Stairs") 12 29 52 rfl rfl rfl rfl sc_Stairs_ages rfl rfl (fun _ _ _ _ _ _ us hl => match us, hl with | [_, _, _], _ => rfl) (fun f cdv A outer s H E b => by
    have nd := sc_Stairs_ages.nd
    exact ms_cons (ms_set 3 nd (me_ix (me_fld (c := .Stairs) (f := .trips) (Z.cls 29) (Z.noat 41) (me_var 0)) (me_var 1))) (ms_cons (ms_set 4 nd (me_op om_mod (me_op om_sub (me_var 2) (me_fld (c := .Trip) (f := .start) (Z.cls 33) (Z.noat 34) (me_var 3))) (me_fld (c := .Stairs) (f := .length) (Z.cls 29) (Z.noat 31) (me_var 0)))) (ms_cons (ms_set 5 nd (me_lstC (ma_nil))) (ms_cons (ms_while (passes_of rfl) (mt_bool (mw_and (mt_cmp (om_lt b.hr.units0) (me_var 4) (me_pr (ok_Trip_duration Z) b (me_var 3))) (mw_and1 (mt_cmp om_le (me_var 4) (me_var 2))))) (ms_cons (ms_expr (me_bm PySem.F.plainAttrs_list PySem.F.slot_list_append PySem.F.type_list_append fm_append (me_var 5) (ma_cons (me_var 4) (ma_nil)))) (ms_one (ms_aug 4 nd (me_fld (c := .Stairs) (f := .length) (Z.cls 29) (Z.noat 31) (me_var 0)))))) (ms_one (ms_ret (me_var 5)))))))
def NX_Trip_floor_at : List PySem.Str := ["self", "age", "floors", "rest"]
theorem sc_Trip_floor_at : FnScope NX_Trip_floor_at ["self", "age"] (defScope (inC (top 17) 3)) := ⟨rfl, rfl, rfl, by decide +kernel, rfl, by decide +kernel, by decide +kernel⟩
theorem ok_Trip_floor_at {P : Program} {w : World} {K : PySem.W.Frag} {mg : PySem.Str → Option Value} {base : Heap} {lam : Lm} (Z : Sy FS DS K mg) : MethAt P w K mg base (caL K lam) .Trip "floor_at" 1 m_Trip_floor_at := by
  exact Z.meth (N := NX_Trip_floor_at) (ps := ["self", "age"]) (C := "Trip") 13 33 54 rfl rfl rfl rfl sc_Trip_floor_at rfl rfl (fun _ _ _ _ _ _ us hl => match us, hl with | [_, _], _ => rfl) (fun f cdv A outer s H E b => by
    have nd := sc_Trip_floor_at.nd
    exact ms_cons (ms_tg (.t [2, 3]) (mg_tup b.calm (mgs_cons (mg_name 2 nd) (mgs_cons (mg_name 3 nd) (mgs_nil)))) (me_callB (bm_divmod) (Z.free 53) (ma_cons (me_var 1) (ma_cons (me_fld (c := .Trip) (f := .pace) (Z.cls 33) (Z.noat 37) (me_var 0)) (ma_nil))))) (ms_cons (ms_if (mt_cmp om_gt (me_var 3) (me_int)) (ms_one (ms_ret (me_non))) (ms_nil)) (ms_one (ms_ret (me_if (mt_cmp om_gt (me_fld (c := .Trip) (f := .target) (Z.cls 33) (Z.noat 36) (me_var 0)) (me_fld (c := .Trip) (f := .source) (Z.cls 33) (Z.noat 35) (me_var 0))) (me_op om_add (me_fld (c := .Trip) (f := .source) (Z.cls 33) (Z.noat 35) (me_var 0)) (me_var 2)) (me_op om_sub (me_fld (c := .Trip) (f := .source) (Z.cls 33) (Z.noat 35) (me_var 0)) (me_var 2)))))))
def NX_Scene___init__ : List PySem.Str := ["self", "light", "presses", "dark"]
theorem sc_Scene___init__ : FnScope NX_Scene___init__ ["self", "light", "presses", "dark"] (defScope (inC (top 23) 0)) := ⟨rfl, rfl, rfl, by decide +kernel, rfl, by decide +kernel, by decide +kernel⟩
theorem ok_Scene___init__ {P : Program} {w : World} {K : PySem.W.Frag} {mg : PySem.Str → Option Value} {base : Heap} {lam : Lm} (Z : Sy FS DS K mg) : NewAt P w K mg base (caL K lam) .Scene "Scene" 1 m_Scene___init__ := by
  exact Z.new (N := NX_Scene___init__) (ps := ["self", "light", "presses", "dark"]) 14 61 62 rfl rfl rfl rfl sc_Scene___init__ rfl rfl (fun _ _ _ _ _ _ us hl => match us, hl with | [_, _, _, _], _ => rfl) (fun f cdv A outer s H E b => by
    have nd := sc_Scene___init__.nd
    exact ms_cons (ms_fldset (c := .Scene) (f := .burning) (Z.cls 57) (Z.noat 58) (me_var 0) (me_var 1)) (ms_cons (ms_fldset (c := .Scene) (f := .presses) (Z.cls 57) (Z.noat 59) (me_var 0) (me_var 2)) (ms_one (ms_fldset (c := .Scene) (f := .dark) (Z.cls 57) (Z.noat 60) (me_var 0) (me_var 3)))))
def NX_next_scene : List PySem.Str := ["stairs", "light", "tick", "now", "presses", "walking", "number", "trip", "ages", "age", "floor"]
theorem sc_next_scene : FnScope NX_next_scene ["stairs", "light", "tick"] (defScope (top 24)) := ⟨rfl, rfl, rfl, by decide +kernel, rfl, by decide +kernel, by decide +kernel⟩
theorem ok_next_scene {P : Program} {w : World} {K : PySem.W.Frag} {mg : PySem.Str → Option Value} {base : Heap} {lam : Lm} (Z : Sy FS DS K mg) : FnAt P w K mg base (caL K lam) "next_scene" 4 m_next_scene := by
  exact Z.fn (N := NX_next_scene) (ps := ["stairs", "light", "tick"]) 15 63 rfl rfl sc_next_scene rfl rfl (fun _ _ _ _ _ _ us hl => match us, hl with | [_, _, _], _ => rfl) (fun f cdv A outer s H E b => by
    have nd := sc_next_scene.nd
    exact ms_cons (ms_par3 3 4 5 b.calm nd (ma_cons (me_callB (bm_max b.calm) (Z.free 51) (ma_cons (me_int) (ma_cons (me_op om_sub (me_var 1) (me_int)) (ma_nil)))) (ma_cons (me_lstC (ma_nil)) (ma_cons (me_lstC (ma_nil)) (ma_nil))))) (ms_cons (ms_for (passes_of rfl) b.calm (mi_enum (Z.free 22) (me_fld (c := .Stairs) (f := .trips) (Z.cls 29) (Z.noat 41) (me_var 0))) (mg_tup b.calm (mgs_cons (mg_name 6 nd) (mgs_cons (mg_name 7 nd) (mgs_nil)))) (ms_cons (ms_set 8 nd (me_mt (ok_Stairs_ages Z) b (me_var 0) (ma_cons (me_var 6) (ma_cons (me_var 2) (ma_nil))))) (ms_cons (ms_if (mt_cmp (om_ne b.hr.units) (me_var 8) (me_lst (ma_nil))) (ms_one (ms_expr (me_bm PySem.F.plainAttrs_list PySem.F.slot_list_append PySem.F.type_list_append fm_append (me_var 5) (ma_cons (me_var 6) (ma_nil))))) (ms_nil)) (ms_one (ms_for (passes_of rfl) b.calm (mi_list (me_var 8)) (mg_name 9 nd) (ms_cons (ms_set 10 nd (me_mt (ok_Trip_floor_at Z) b (me_var 7) (ma_cons (me_var 9) (ma_nil)))) (ms_one (ms_if (mt_bool (mw_and (mt_cmp om_notN (me_var 10) (me_non)) (mw_and1 (mt_bool (mw_or (mt_cmp (om_eq b.hr.units) (me_fld (c := .Trip) (f := .habit) (Z.cls 33) (Z.noat 38) (me_var 7)) (me_gstr (Z.str 55))) (mw_or1 (mt_bool (mw_and (mt_cmp (om_eq b.hr.units) (me_fld (c := .Trip) (f := .habit) (Z.cls 33) (Z.noat 38) (me_var 7)) (me_gstr (Z.str 56))) (mw_and1 (mt_cmp (om_eq b.hr.units) (me_var 3) (me_int))))))))))) (ms_cons (ms_expr (me_bm PySem.F.plainAttrs_list PySem.F.slot_list_append PySem.F.type_list_append fm_append (me_var 4) (ma_cons (me_tup (ma_cons (me_var 6) (ma_cons (me_var 10) (ma_nil)))) (ma_nil)))) (ms_one (ms_set 3 nd (me_fld (c := .Stairs) (f := .time) (Z.cls 29) (Z.noat 32) (me_var 0))))) (ms_nil))))))))) (ms_one (ms_ret (me_nw (ok_Scene___init__ Z) b (ma_cons (me_var 3) (ma_cons (me_var 4) (ma_cons (me_if (mt_cmp (om_eq b.hr.units) (me_var 3) (me_int)) (me_var 5) (me_lst (ma_nil))) (ma_nil)))))))))
def NX_Story___init__ : List PySem.Str := ["self", "stairs", "longest", "light", "seen", "tick", "key", "trip"]
theorem sc_Story___init__ : FnScope NX_Story___init__ ["self", "stairs"] (defScope (inC (top 25) 0)) := ⟨rfl, rfl, rfl, by decide +kernel, rfl, by decide +kernel, by decide +kernel⟩
theorem ok_Story___init__ {P : Program} {w : World} {K : PySem.W.Frag} {mg : PySem.Str → Option Value} {base : Heap} {lam : Lm} (Z : Sy FS DS K mg) : NewAt P w K mg base (caL K lam) .Story "Story" 5 m_Story___init__ := by
  exact Z.new (N := NX_Story___init__) (ps := ["self", "stairs"]) 16 64 65 rfl rfl rfl rfl sc_Story___init__ rfl rfl (fun _ _ _ _ _ _ us hl => match us, hl with | [_, _], _ => rfl) (fun f cdv A outer s H E b => by
    have nd := sc_Story___init__.nd
    exact ms_cons (ms_fldset (c := .Story) (f := .scenes) (Z.cls 47) (Z.noat 48) (me_var 0) (me_lstC (ma_nil))) (ms_cons (ms_fldset (c := .Story) (f := .start) (Z.cls 47) (Z.noat 49) (me_var 0) (me_non)) (ms_cons (ms_set 2 nd (me_callB (bm_max b.calm) (Z.free 51) (ma_cons (me_op om_add (me_lst (ma_cons (me_int) (ma_nil))) (me_lcB [7] b nd (mi_list (me_fld (c := .Stairs) (f := .trips) (Z.cls 29) (Z.noat 41) (me_var 1))) (blkOk_by (own := [("trip", 7)]) (N := NX_Story___init__) (sc := defScope (inC (top 25) 0)) (by decide +kernel)) rfl (fun _ _ _ _ _ b => mg_name 7 nd) (fun _ _ _ _ _ b => mts_nil) (fun _ _ _ _ _ b => me_pr (ok_Trip_duration Z) b (me_var 7)))) (ma_nil)))) (ms_cons (ms_par2 3 4 b.calm nd (ma_cons (me_int) (ma_cons (me_dnewT) (ma_nil)))) (ms_one (ms_while (passes_of rfl) (mt_cmp om_isN (me_fld (c := .Story) (f := .start) (Z.cls 47) (Z.noat 49) (me_var 0)) (me_non)) (ms_cons (ms_set 5 nd (me_callB (bm_len) (Z.free 3) (ma_cons (me_fld (c := .Story) (f := .scenes) (Z.cls 47) (Z.noat 48) (me_var 0)) (ma_nil)))) (ms_cons (ms_set 6 nd (me_tup (ma_cons (me_op om_mod (me_var 5) (me_fld (c := .Stairs) (f := .length) (Z.cls 29) (Z.noat 31) (me_var 1))) (ma_cons (me_var 3) (ma_nil))))) (ms_one (ms_if (mt_bool (mw_and (mt_cmp om_ge (me_var 5) (me_var 2)) (mw_and1 (mt_din b.hr.units (me_var 6) (me_var 4))))) (ms_one (ms_fldset (c := .Story) (f := .start) (Z.cls 47) (Z.noat 49) (me_var 0) (me_dget b.hr.units (me_var 4) (me_var 6)))) (ms_cons (ms_if (mt_cmp om_ge (me_var 5) (me_var 2)) (ms_one (ms_dput b.hr.units (me_var 4) (me_var 6) (me_var 5))) (ms_nil)) (ms_cons (ms_expr (me_bm PySem.F.plainAttrs_list PySem.F.slot_list_append PySem.F.type_list_append fm_append (me_fld (c := .Story) (f := .scenes) (Z.cls 47) (Z.noat 48) (me_var 0)) (ma_cons (me_fn (ok_next_scene Z) b (ma_cons (me_var 1) (ma_cons (me_var 3) (ma_cons (me_var 5) (ma_nil))))) (ma_nil)))) (ms_one (ms_set 3 nd (me_fld (c := .Scene) (f := .burning) (Z.cls 57) (Z.noat 58) (me_ix (me_fld (c := .Story) (f := .scenes) (Z.cls 47) (Z.noat 48) (me_var 0)) (me_neg (me_int))))))))))))))))))
def NX_common_multiple : List PySem.Str := ["one", "other", "multiple"]
theorem sc_common_multiple : FnScope NX_common_multiple ["one", "other"] (defScope (top 31)) := ⟨rfl, rfl, rfl, by decide +kernel, rfl, by decide +kernel, by decide +kernel⟩
theorem ok_common_multiple {P : Program} {w : World} {K : PySem.W.Frag} {mg : PySem.Str → Option Value} {base : Heap} {lam : Lm} (Z : Sy FS DS K mg) : FnAt P w K mg base (caL K lam) "common_multiple" 1 m_common_multiple := by
  exact Z.fn (N := NX_common_multiple) (ps := ["one", "other"]) 17 66 rfl rfl sc_common_multiple rfl rfl (fun _ _ _ _ _ _ us hl => match us, hl with | [_, _], _ => rfl) (fun f cdv A outer s H E b => by
    have nd := sc_common_multiple.nd
    exact ms_cons (ms_set 2 nd (me_var 0)) (ms_cons (ms_while (passes_of rfl) (mt_cmp (om_ne b.hr.units) (me_op om_mul (me_op om_fdiv (me_var 2) (me_var 1)) (me_var 1)) (me_var 2)) (ms_one (ms_aug 2 nd (me_var 0)))) (ms_one (ms_ret (me_var 2)))))
def NX_Story_size : List PySem.Str := ["self"]
theorem sc_Story_size : FnScope NX_Story_size ["self"] (defScope (inC (top 25) 1)) := ⟨rfl, rfl, rfl, by decide +kernel, rfl, by decide +kernel, by decide +kernel⟩
theorem ok_Story_size {P : Program} {w : World} {K : PySem.W.Frag} {mg : PySem.Str → Option Value} {base : Heap} {lam : Lm} (Z : Sy FS DS K mg) : PropAt P w K mg base (caL K lam) .Story "size" 1 m_Story_size := by
  exact Z.prop (N := NX_Story_size) (C := "Story") 18 47 67 rfl rfl rfl rfl sc_Story_size rfl (fun _ _ _ _ _ _ us hl => match us, hl with | [_], _ => rfl) (fun f cdv A outer s H E b => by
    have nd := sc_Story_size.nd
    exact ms_one (ms_ret (me_op om_sub (me_callB (bm_len) (Z.free 3) (ma_cons (me_fld (c := .Story) (f := .scenes) (Z.cls 47) (Z.noat 48) (me_var 0)) (ma_nil))) (me_fld (c := .Story) (f := .start) (Z.cls 47) (Z.noat 49) (me_var 0)))))
def NX_Story_scene : List PySem.Str := ["self", "tick"]
theorem sc_Story_scene : FnScope NX_Story_scene ["self", "tick"] (defScope (inC (top 25) 2)) := ⟨rfl, rfl, rfl, by decide +kernel, rfl, by decide +kernel, by decide +kernel⟩
theorem ok_Story_scene {P : Program} {w : World} {K : PySem.W.Frag} {mg : PySem.Str → Option Value} {base : Heap} {lam : Lm} (Z : Sy FS DS K mg) : MethAt P w K mg base (caL K lam) .Story "scene" 3 m_Story_scene := by
  exact Z.meth (N := NX_Story_scene) (ps := ["self", "tick"]) (C := "Story") 19 47 68 rfl rfl rfl rfl sc_Story_scene rfl rfl (fun _ _ _ _ _ _ us hl => match us, hl with | [_, _], _ => rfl) (fun f cdv A outer s H E b => by
    have nd := sc_Story_scene.nd
    exact ms_one (ms_ret (me_ix (me_fld (c := .Story) (f := .scenes) (Z.cls 47) (Z.noat 48) (me_var 0)) (me_if (mt_cmp (om_lt b.hr.units0) (me_var 1) (me_callB (bm_len) (Z.free 3) (ma_cons (me_fld (c := .Story) (f := .scenes) (Z.cls 47) (Z.noat 48) (me_var 0)) (ma_nil)))) (me_var 1) (me_op om_add (me_fld (c := .Story) (f := .start) (Z.cls 47) (Z.noat 49) (me_var 0)) (me_op om_mod (me_op om_sub (me_var 1) (me_fld (c := .Story) (f := .start) (Z.cls 47) (Z.noat 49) (me_var 0))) (me_pr (ok_Story_size Z) b (me_var 0))))))))
def NX_first_difference : List PySem.Str := ["stairs", "other", "one", "two", "tick", "burns"]
theorem sc_first_difference : FnScope NX_first_difference ["stairs", "other"] (defScope (top 32)) := ⟨rfl, rfl, rfl, by decide +kernel, rfl, by decide +kernel, by decide +kernel⟩
theorem ok_first_difference {P : Program} {w : World} {K : PySem.W.Frag} {mg : PySem.Str → Option Value} {base : Heap} {lam : Lm} (Z : Sy FS DS K mg) : FnAt P w K mg base (caL K lam) "first_difference" 7 m_first_difference := by
  exact Z.fn (N := NX_first_difference) (ps := ["stairs", "other"]) 20 69 rfl rfl sc_first_difference rfl rfl (fun _ _ _ _ _ _ us hl => match us, hl with | [_, _], _ => rfl) (fun f cdv A outer s H E b => by
    have nd := sc_first_difference.nd
    exact ms_cons (ms_par2 2 3 b.calm nd (ma_cons (me_nw (ok_Story___init__ Z) b (ma_cons (me_var 0) (ma_nil))) (ma_cons (me_nw (ok_Story___init__ Z) b (ma_cons (me_var 1) (ma_nil))) (ma_nil)))) (ms_cons (ms_for (passes_of rfl) b.calm (mi_range1 (Z.free 5) (ma_cons (me_op om_add (me_callB (bm_max b.calm) (Z.free 51) (ma_cons (me_fld (c := .Story) (f := .start) (Z.cls 47) (Z.noat 49) (me_var 2)) (ma_cons (me_fld (c := .Story) (f := .start) (Z.cls 47) (Z.noat 49) (me_var 3)) (ma_nil)))) (me_fn (ok_common_multiple Z) b (ma_cons (me_pr (ok_Story_size Z) b (me_var 2)) (ma_cons (me_pr (ok_Story_size Z) b (me_var 3)) (ma_nil))))) (ma_nil))) (mg_name 4 nd) (ms_cons (ms_set 5 nd (me_cmp om_gt (me_fld (c := .Scene) (f := .burning) (Z.cls 57) (Z.noat 58) (me_mt (ok_Story_scene Z) b (me_var 2) (ma_cons (me_var 4) (ma_nil)))) (me_int))) (ms_one (ms_if (mt_cmp (om_ne b.hr.units) (me_var 5) (me_cmp om_gt (me_fld (c := .Scene) (f := .burning) (Z.cls 57) (Z.noat 58) (me_mt (ok_Story_scene Z) b (me_var 3) (ma_cons (me_var 4) (ma_nil)))) (me_int))) (ms_one (ms_ret (me_tup (ma_cons (me_var 4) (ma_cons (me_var 5) (ma_nil)))))) (ms_nil))))) (ms_one (ms_ret (me_non)))))
def NX_l_some_tick : List PySem.Str := ["_law_d"]
theorem sc_l_some_tick : FnScope NX_l_some_tick ["_law_d"] (defScope (top 45)) := ⟨rfl, rfl, rfl, by decide +kernel, rfl, by decide +kernel, by decide +kernel⟩
theorem ok_l_some_tick {P : Program} {w : World} {K : PySem.W.Frag} {mg : PySem.Str → Option Value} {base : Heap} {lam : Lm} (Z : Sy FS DS K mg) : FnAt P w K mg base (caL K lam) "_law_some_tick" 2 m_l_some_tick := by
  exact Z.fn (N := NX_l_some_tick) (ps := ["_law_d"]) 21 70 rfl rfl sc_l_some_tick rfl rfl (fun _ _ _ _ _ _ us hl => match us, hl with | [_], _ => rfl) (fun f cdv A outer s H E b => by
    have nd := sc_l_some_tick.nd
    exact ms_one (ms_ret (me_ix (me_lst (ma_cons (me_fn (ok_l_below Z) b (ma_cons (me_var 0) (ma_cons (me_int) (ma_nil)))) (ma_cons (me_op om_sub (me_op om_pow (me_int) (me_int)) (me_fn (ok_l_below Z) b (ma_cons (me_var 0) (ma_cons (me_op om_pow (me_int) (me_int)) (ma_nil))))) (ma_nil)))) (me_fn (ok_l_below Z) b (ma_cons (me_var 0) (ma_cons (me_int) (ma_nil)))))))
def NX_check_tick : List PySem.Str := ["tick"]
theorem sc_check_tick : FnScope NX_check_tick ["tick"] (defScope (top 20)) := ⟨rfl, rfl, rfl, by decide +kernel, rfl, by decide +kernel, by decide +kernel⟩
theorem ok_check_tick {P : Program} {w : World} {K : PySem.W.Frag} {mg : PySem.Str → Option Value} {base : Heap} {lam : Lm} (Z : Sy FS DS K mg) : FnAt P w K mg base (caL K lam) "check_tick" 2 m_check_tick := by
  exact Z.fn (N := NX_check_tick) (ps := ["tick"]) 22 74 rfl rfl sc_check_tick rfl rfl (fun _ _ _ _ _ _ us hl => match us, hl with | [_], _ => rfl) (fun f cdv A outer s H E b => by
    have nd := sc_check_tick.nd
    exact ms_one (ms_if (mt_not (mt_val (me_fn (ok_is_int_in Z) b (ma_cons (me_var 0) (ma_cons (me_int) (ma_cons (me_gint (Z.int 71)) (ma_nil))))))) (ms_one (ms_raise0 (Z.xa 72) (Z.glo 73) b.calm)) (ms_nil)))
def NX_light : List PySem.Str := ["stairs", "tick"]
theorem sc_light : FnScope NX_light ["stairs", "tick"] (defScope (top 26)) := ⟨rfl, rfl, rfl, by decide +kernel, rfl, by decide +kernel, by decide +kernel⟩
theorem ok_light {P : Program} {w : World} {K : PySem.W.Frag} {mg : PySem.Str → Option Value} {base : Heap} {lam : Lm} (Z : Sy FS DS K mg) : FnAt P w K mg base (caL K lam) "light" 7 m_light := by
  exact Z.fn (N := NX_light) (ps := ["stairs", "tick"]) 23 75 rfl rfl sc_light rfl rfl (fun _ _ _ _ _ _ us hl => match us, hl with | [_, _], _ => rfl) (fun f cdv A outer s H E b => by
    have nd := sc_light.nd
    exact ms_cons (ms_expr (me_fn (ok_check_tick Z) b (ma_cons (me_var 1) (ma_nil)))) (ms_one (ms_ret (me_fld (c := .Scene) (f := .burning) (Z.cls 57) (Z.noat 58) (me_mt (ok_Story_scene Z) b (me_nw (ok_Story___init__ Z) b (ma_cons (me_var 0) (ma_nil))) (ma_cons (me_var 1) (ma_nil)))))))
def NX_Story_count : List PySem.Str := ["self", "ticks", "measure", "known", "rounds", "rest", "scene"]
theorem sc_Story_count : FnScope NX_Story_count ["self", "ticks", "measure"] (defScope (inC (top 25) 3)) := ⟨rfl, rfl, rfl, by decide +kernel, rfl, by decide +kernel, by decide +kernel⟩
theorem ok_Story_count {P : Program} {w : World} {K : PySem.W.Frag} {mg : PySem.Str → Option Value} (Z : Sy FS DS K mg) : MethLB P w K mg .Story "count" 2 3 m_Story_count := by
  exact Z.methLB (c := .Story) (N := NX_Story_count) (ps := ["self", "ticks", "measure"]) 24 47 77 rfl rfl rfl sc_Story_count rfl rfl (fun _ _ _ _ _ _ us hl => match us, hl with | [_, _, _], _ => rfl) (fun base L n gam hl => fun f cdv A outer s H E b => by
    have nd := sc_Story_count.nd
    exact ms_cons (ms_setLcB 3 [6] b nd (mi_list (me_fld (c := .Story) (f := .scenes) (Z.cls 47) (Z.noat 48) (me_var 0))) (blkOk_by (own := [("scene", 6)]) (N := NX_Story_count) (sc := defScope (inC (top 25) 3)) (by decide +kernel)) rfl (fun _ _ _ _ _ b => mg_name 6 nd) (fun _ _ _ _ _ b => mts_nil) (fun _ _ _ _ _ b => me_callv (i := 2) hl b (ma_cons (me_var 6) (ma_nil)))) (ms_cons (ms_if (mt_cmp om_le (me_var 1) (me_callB (bm_len) (Z.free 3) (ma_cons (me_var 3) (ma_nil)))) (ms_one (ms_ret (me_callB (bm_sum b.calm) (Z.free 76) (ma_cons (me_cut (me_var 3) (mo_none) (mo_some (me_var 1))) (ma_nil))))) (ms_nil)) (ms_cons (ms_tg (.t [4, 5]) (mg_tup b.calm (mgs_cons (mg_name 4 nd) (mgs_cons (mg_name 5 nd) (mgs_nil)))) (me_callB (bm_divmod) (Z.free 53) (ma_cons (me_op om_sub (me_var 1) (me_fld (c := .Story) (f := .start) (Z.cls 47) (Z.noat 49) (me_var 0))) (ma_cons (me_pr (ok_Story_size Z) b (me_var 0)) (ma_nil))))) (ms_one (ms_ret (me_op om_add (me_callB (bm_sum b.calm) (Z.free 76) (ma_cons (me_cut (me_var 3) (mo_none) (mo_some (me_op om_add (me_fld (c := .Story) (f := .start) (Z.cls 47) (Z.noat 49) (me_var 0)) (me_var 5)))) (ma_nil))) (me_op om_mul (me_var 4) (me_callB (bm_sum b.calm) (Z.free 76) (ma_cons (me_cut (me_var 3) (mo_some (me_fld (c := .Story) (f := .start) (Z.cls 47) (Z.noat 49) (me_var 0))) (mo_none)) (ma_nil))))))))))
def NX_count_lit : List PySem.Str := ["stairs", "ticks"]
theorem sc_count_lit : FnScope NX_count_lit ["stairs", "ticks"] (defScope (top 29)) := ⟨rfl, rfl, rfl, by decide +kernel, rfl, by decide +kernel, by decide +kernel⟩
theorem ok_count_lit {P : Program} {w : World} {K : PySem.W.Frag} {mg : PySem.Str → Option Value} {base : Heap} {lam : Lm} (Z : Sy FS DS K mg) (T : Tb K mg base lam TF) : FnAt P w K mg base (caL K lam) "count_lit" 7 m_count_lit := by
  exact Z.fnC (N := NX_count_lit) (ps := ["stairs", "ticks"]) 25 78 rfl rfl sc_count_lit rfl rfl (fun _ _ _ _ _ _ us hl => match us, hl with | [_, _], _ => rfl) (fun f A outer s H E b => by
    have nd := sc_count_lit.nd
    exact ms_cons (ms_expr (me_fn (ok_check_tick Z) b (ma_cons (me_var 1) (ma_nil)))) (ms_one (ms_ret (me_mtLam (kk := 2) (q := lamQ "count_lit") (ok_Story_count Z).to (fun _ _ _ hp hc _ => lam_fm (N := ["scene"]) (ps := ["scene"]) (k := 1) hp hc (by exact ⟨rfl, rfl, rfl, by decide +kernel, rfl, by decide +kernel, by decide +kernel⟩) rfl rfl (fun _ _ _ us hl => match us, hl with | [_], _ => rfl) (fun A outer s H E b => me_callTy bm_int (Z.free 9) (ma_cons (me_cmp om_gt (me_fld (c := .Scene) (f := .burning) (Z.cls 57) (Z.noat 58) (me_var 0)) (me_int)) (ma_nil)))) (T.tb _ (List.mem_of_getElem? (i := 0) rfl)) rfl (T.tab _ (List.mem_of_getElem? (i := 0) rfl)) (T.un (List.mem_of_getElem? (i := 0) rfl)) rfl rfl rfl (by decide +kernel) b (me_nw (ok_Story___init__ Z) b (ma_cons (me_var 0) (ma_nil))) (me_var 1)))))
def NX_count_presses : List PySem.Str := ["stairs", "ticks"]
theorem sc_count_presses : FnScope NX_count_presses ["stairs", "ticks"] (defScope (top 28)) := ⟨rfl, rfl, rfl, by decide +kernel, rfl, by decide +kernel, by decide +kernel⟩
theorem ok_count_presses {P : Program} {w : World} {K : PySem.W.Frag} {mg : PySem.Str → Option Value} {base : Heap} {lam : Lm} (Z : Sy FS DS K mg) (T : Tb K mg base lam TF) : FnAt P w K mg base (caL K lam) "count_presses" 7 m_count_presses := by
  exact Z.fnC (N := NX_count_presses) (ps := ["stairs", "ticks"]) 26 79 rfl rfl sc_count_presses rfl rfl (fun _ _ _ _ _ _ us hl => match us, hl with | [_, _], _ => rfl) (fun f A outer s H E b => by
    have nd := sc_count_presses.nd
    exact ms_cons (ms_expr (me_fn (ok_check_tick Z) b (ma_cons (me_var 1) (ma_nil)))) (ms_one (ms_ret (me_mtLam (kk := 2) (q := lamQ "count_presses") (ok_Story_count Z).to (fun _ _ _ hp hc _ => lam_fm (N := ["scene"]) (ps := ["scene"]) (k := 1) hp hc (by exact ⟨rfl, rfl, rfl, by decide +kernel, rfl, by decide +kernel, by decide +kernel⟩) rfl rfl (fun _ _ _ us hl => match us, hl with | [_], _ => rfl) (fun A outer s H E b => me_callB (bm_len) (Z.free 3) (ma_cons (me_fld (c := .Scene) (f := .presses) (Z.cls 57) (Z.noat 59) (me_var 0)) (ma_nil)))) (T.tb _ (List.mem_of_getElem? (i := 1) rfl)) rfl (T.tab _ (List.mem_of_getElem? (i := 1) rfl)) (T.un (List.mem_of_getElem? (i := 1) rfl)) rfl rfl rfl (by decide +kernel) b (me_nw (ok_Story___init__ Z) b (ma_cons (me_var 0) (ma_nil))) (me_var 1)))))
def NX_in_dark : List PySem.Str := ["stairs", "tick"]
theorem sc_in_dark : FnScope NX_in_dark ["stairs", "tick"] (defScope (top 34)) := ⟨rfl, rfl, rfl, by decide +kernel, rfl, by decide +kernel, by decide +kernel⟩
theorem ok_in_dark {P : Program} {w : World} {K : PySem.W.Frag} {mg : PySem.Str → Option Value} {base : Heap} {lam : Lm} (Z : Sy FS DS K mg) : FnAt P w K mg base (caL K lam) "in_dark" 7 m_in_dark := by
  exact Z.fn (N := NX_in_dark) (ps := ["stairs", "tick"]) 27 80 rfl rfl sc_in_dark rfl rfl (fun _ _ _ _ _ _ us hl => match us, hl with | [_, _], _ => rfl) (fun f cdv A outer s H E b => by
    have nd := sc_in_dark.nd
    exact ms_cons (ms_expr (me_fn (ok_check_tick Z) b (ma_cons (me_var 1) (ma_nil)))) (ms_one (ms_ret (me_callTy bm_listC (Z.free 45) (ma_cons (me_fld (c := .Scene) (f := .dark) (Z.cls 57) (Z.noat 60) (me_mt (ok_Story_scene Z) b (me_nw (ok_Story___init__ Z) b (ma_cons (me_var 0) (ma_nil))) (ma_cons (me_var 1) (ma_nil)))) (ma_nil))))))
def NX_is_bright : List PySem.Str := ["stairs", "scene"]
theorem sc_is_bright : FnScope NX_is_bright ["stairs"] (defScope (top 37)) := ⟨rfl, rfl, rfl, by decide +kernel, rfl, by decide +kernel, by decide +kernel⟩
theorem ok_is_bright {P : Program} {w : World} {K : PySem.W.Frag} {mg : PySem.Str → Option Value} {base : Heap} {lam : Lm} (Z : Sy FS DS K mg) : FnAt P w K mg base (caL K lam) "is_bright" 7 m_is_bright := by
  exact Z.fn (N := NX_is_bright) (ps := ["stairs"]) 28 84 rfl rfl sc_is_bright rfl rfl (fun _ _ _ _ _ _ us hl => match us, hl with | [_], _ => rfl) (fun f cdv A outer s H E b => by
    have nd := sc_is_bright.nd
    exact ms_one (ms_ret (me_callB (bm_all b.calm) (Z.free 83) (ma_cons (me_lcB [1] b nd (mi_list (me_fld (c := .Story) (f := .scenes) (Z.cls 47) (Z.noat 48) (me_nw (ok_Story___init__ Z) b (ma_cons (me_var 0) (ma_nil))))) (blkOk_by (own := [("scene", 1)]) (N := NX_is_bright) (sc := defScope (top 37)) (by decide +kernel)) rfl (fun _ _ _ _ _ b => mg_name 1 nd) (fun _ _ _ _ _ b => mts_nil) (fun _ _ _ _ _ b => me_cmp (om_eq b.hr.units) (me_fld (c := .Scene) (f := .dark) (Z.cls 57) (Z.noat 60) (me_var 1)) (me_lst (ma_nil)))) (ma_nil)))))
def NX_Trip_parts : List PySem.Str := ["self"]
theorem sc_Trip_parts : FnScope NX_Trip_parts ["self"] (defScope (inC (top 17) 1)) := ⟨rfl, rfl, rfl, by decide +kernel, rfl, by decide +kernel, by decide +kernel⟩
theorem ok_Trip_parts {P : Program} {w : World} {K : PySem.W.Frag} {mg : PySem.Str → Option Value} {base : Heap} {lam : Lm} (Z : Sy FS DS K mg) : PropAt P w K mg base (caL K lam) .Trip "parts" 1 m_Trip_parts := by
  exact Z.prop (N := NX_Trip_parts) (C := "Trip") 29 33 85 rfl rfl rfl rfl sc_Trip_parts rfl (fun _ _ _ _ _ _ us hl => match us, hl with | [_], _ => rfl) (fun f cdv A outer s H E b => by
    have nd := sc_Trip_parts.nd
    exact ms_one (ms_ret (me_tup (ma_cons (me_fld (c := .Trip) (f := .start) (Z.cls 33) (Z.noat 34) (me_var 0)) (ma_cons (me_fld (c := .Trip) (f := .source) (Z.cls 33) (Z.noat 35) (me_var 0)) (ma_cons (me_fld (c := .Trip) (f := .target) (Z.cls 33) (Z.noat 36) (me_var 0)) (ma_cons (me_fld (c := .Trip) (f := .pace) (Z.cls 33) (Z.noat 37) (me_var 0)) (ma_cons (me_fld (c := .Trip) (f := .habit) (Z.cls 33) (Z.noat 38) (me_var 0)) (ma_nil)))))))))
def NX_Stairs_all_trips : List PySem.Str := ["self", "trip"]
theorem sc_Stairs_all_trips : FnScope NX_Stairs_all_trips ["self"] (defScope (inC (top 19) 3)) := ⟨rfl, rfl, rfl, by decide +kernel, rfl, by decide +kernel, by decide +kernel⟩
theorem ok_Stairs_all_trips {P : Program} {w : World} {K : PySem.W.Frag} {mg : PySem.Str → Option Value} {base : Heap} {lam : Lm} (Z : Sy FS DS K mg) : PropAt P w K mg base (caL K lam) .Stairs "all_trips" 3 m_Stairs_all_trips := by
  exact Z.prop (N := NX_Stairs_all_trips) (C := "Stairs") 30 29 86 rfl rfl rfl rfl sc_Stairs_all_trips rfl (fun _ _ _ _ _ _ us hl => match us, hl with | [_], _ => rfl) (fun f cdv A outer s H E b => by
    have nd := sc_Stairs_all_trips.nd
    exact ms_one (ms_ret (me_callTy bm_tuple (Z.free 7) (ma_cons (me_lcB [1] b nd (mi_list (me_fld (c := .Stairs) (f := .trips) (Z.cls 29) (Z.noat 41) (me_var 0))) (blkOk_by (own := [("trip", 1)]) (N := NX_Stairs_all_trips) (sc := defScope (inC (top 19) 3)) (by decide +kernel)) rfl (fun _ _ _ _ _ b => mg_name 1 nd) (fun _ _ _ _ _ b => mts_nil) (fun _ _ _ _ _ b => me_pr (ok_Trip_parts Z) b (me_var 1))) (ma_nil)))))
def NX_Stairs_with_time : List PySem.Str := ["self", "time", "trips"]
theorem sc_Stairs_with_time : FnScope NX_Stairs_with_time ["self", "time"] (defScope (inC (top 19) 4)) := ⟨rfl, rfl, rfl, by decide +kernel, rfl, by decide +kernel, by decide +kernel⟩
theorem ok_Stairs_with_time {P : Program} {w : World} {K : PySem.W.Frag} {mg : PySem.Str → Option Value} {base : Heap} {lam : Lm} (Z : Sy FS DS K mg) : MethAt P w K mg base (caL K lam) .Stairs "with_time" 5 m_Stairs_with_time := by
  exact Z.meth (N := NX_Stairs_with_time) (ps := ["self", "time"]) (C := "Stairs") 31 29 87 rfl rfl rfl rfl sc_Stairs_with_time rfl rfl (fun _ _ _ _ _ _ us hl => match us, hl with | [_, _], _ => rfl) (fun f cdv A outer s H E b => by
    have nd := sc_Stairs_with_time.nd
    exact ms_cons (ms_set 2 nd (me_pr (ok_Stairs_all_trips Z) b (me_var 0))) (ms_one (ms_ret (me_nwS (ok_Stairs___init__ Z) b (ma_cons (me_fld (c := .Stairs) (f := .top) (Z.cls 29) (Z.noat 30) (me_var 0)) (ma_cons (me_fld (c := .Stairs) (f := .length) (Z.cls 29) (Z.noat 31) (me_var 0)) (ma_cons (me_var 1) (ma_star (me_var 2) (ma_nil)))))))))
def NX_bright_times : List PySem.Str := ["stairs", "time"]
theorem sc_bright_times : FnScope NX_bright_times ["stairs"] (defScope (top 38)) := ⟨rfl, rfl, rfl, by decide +kernel, rfl, by decide +kernel, by decide +kernel⟩
theorem ok_bright_times {P : Program} {w : World} {K : PySem.W.Frag} {mg : PySem.Str → Option Value} {base : Heap} {lam : Lm} (Z : Sy FS DS K mg) : FnAt P w K mg base (caL K lam) "bright_times" 8 m_bright_times := by
  exact Z.fn (N := NX_bright_times) (ps := ["stairs"]) 32 88 rfl rfl sc_bright_times rfl rfl (fun _ _ _ _ _ _ us hl => match us, hl with | [_], _ => rfl) (fun f cdv A outer s H E b => by
    have nd := sc_bright_times.nd
    exact ms_one (ms_ret (me_lcCB [1] b nd (mi_range2 (Z.free 5) (ma_cons (me_int) (ma_cons (me_op om_add (me_gint (Z.int 21)) (me_int)) (ma_nil)))) (blkOk_by (own := [("time", 1)]) (N := NX_bright_times) (sc := defScope (top 38)) (by decide +kernel)) rfl (fun _ _ _ _ _ b => mg_name 1 nd) (fun _ _ _ _ _ b => mts_one (mt_val (me_fn (ok_is_bright Z) b (ma_cons (me_mt (ok_Stairs_with_time Z) b (me_var 0) (ma_cons (me_var 1) (ma_nil))) (ma_nil))))) (fun _ _ _ _ _ b => me_var 1))))
def NX_first_dark : List PySem.Str := ["stairs", "tick", "scene"]
theorem sc_first_dark : FnScope NX_first_dark ["stairs"] (defScope (top 35)) := ⟨rfl, rfl, rfl, by decide +kernel, rfl, by decide +kernel, by decide +kernel⟩
theorem ok_first_dark {P : Program} {w : World} {K : PySem.W.Frag} {mg : PySem.Str → Option Value} {base : Heap} {lam : Lm} (Z : Sy FS DS K mg) : FnAt P w K mg base (caL K lam) "first_dark" 7 m_first_dark := by
  exact Z.fn (N := NX_first_dark) (ps := ["stairs"]) 33 89 rfl rfl sc_first_dark rfl rfl (fun _ _ _ _ _ _ us hl => match us, hl with | [_], _ => rfl) (fun f cdv A outer s H E b => by
    have nd := sc_first_dark.nd
    exact ms_cons (ms_for (passes_of rfl) b.calm (mi_enum (Z.free 22) (me_fld (c := .Story) (f := .scenes) (Z.cls 47) (Z.noat 48) (me_nw (ok_Story___init__ Z) b (ma_cons (me_var 0) (ma_nil))))) (mg_tup b.calm (mgs_cons (mg_name 1 nd) (mgs_cons (mg_name 2 nd) (mgs_nil)))) (ms_one (ms_if (mt_cmp (om_ne b.hr.units) (me_fld (c := .Scene) (f := .dark) (Z.cls 57) (Z.noat 60) (me_var 2)) (me_lst (ma_nil))) (ms_one (ms_ret (me_tup (ma_cons (me_var 1) (ma_cons (me_callTy bm_listC (Z.free 45) (ma_cons (me_fld (c := .Scene) (f := .dark) (Z.cls 57) (Z.noat 60) (me_var 2)) (ma_nil))) (ma_nil)))))) (ms_nil)))) (ms_one (ms_ret (me_non))))
def NX_presses_betweenZ : List PySem.Str := ["stairs", "first", "last", "story", "tick", "number", "floor"]
theorem sc_presses_betweenZ : GScope NX_presses_betweenZ ["stairs", "first", "last"] (defScope (top 27)) := ⟨rfl, rfl, rfl, by decide +kernel, rfl, by decide +kernel, by decide +kernel⟩
theorem okz_presses_between {P : Program} {w : World} {K : PySem.W.Frag} {mg : PySem.Str → Option Value} {base : Heap} {lam : Lm} (Z : Sy FS DS K mg) : GzAt P w K mg base (caL K lam) "presses_between" 7 mz_presses_between := by
  exact Z.gz (N := NX_presses_betweenZ) (ps := ["stairs", "first", "last"]) 34 92 rfl rfl sc_presses_betweenZ (cells_none (by decide +kernel)) rfl rfl (fun _ _ _ _ _ _ us hl => match us, hl with | [_, _, _], _ => rfl) (fun f Sq zs cdv A outer s H pn b => by
    have nd := sc_presses_betweenZ.nd
    exact mz_cons (mz_pl (ms_expr (me_fn (ok_check_tick Z) b (ma_cons (me_var 1) (ma_nil))))) (mz_cons (mz_pl (ms_if (mt_not (mt_val (me_fn (ok_is_int_in Z) b (ma_cons (me_var 2) (ma_cons (me_op om_sub (me_var 1) (me_int)) (ma_cons (me_callB (bm_min b.calm) (Z.free 91) (ma_cons (me_gint (Z.int 71)) (ma_cons (me_op om_sub (me_op om_add (me_var 1) (me_gint (Z.int 90))) (me_int)) (ma_nil)))) (ma_nil))))))) (ms_one (ms_raise0 (Z.xa 72) (Z.glo 73) b.calm)) (ms_nil))) (mz_cons (mz_pl (ms_set 3 nd (me_nw (ok_Story___init__ Z) b (ma_cons (me_var 0) (ma_nil))))) (mz_one (mz_for owns_gcx b.calm (mi_range2 (Z.free 5) (ma_cons (me_var 1) (ma_cons (me_op om_add (me_var 2) (me_int)) (ma_nil)))) (mg_name 4 nd) (mz_one (mz_for owns_gcx b.calm (mi_list (me_fld (c := .Scene) (f := .presses) (Z.cls 57) (Z.noat 59) (me_mt (ok_Story_scene Z) b (me_var 3) (ma_cons (me_var 4) (ma_nil))))) (mg_tup b.calm (mgs_cons (mg_name 5 nd) (mgs_cons (mg_name 6 nd) (mgs_nil)))) (mz_one (mz_yd (me_tup (ma_cons (me_var 4) (ma_cons (me_var 5) (ma_cons (me_var 6) (ma_nil))))))))))))))
def NX_k37_law : List PySem.Str := ["_law_script", "_law_d", "_law_parts_here", "_law_top", "_law_length", "_law_time", "_law_trips", "_law_twice", "_law_trip_here", "_law_one", "_law_other", "_law_tick", "_law_presses", "_law_habits", "_law_stairs", "_law_number", "_law_floor"]
theorem sc_k37_law : FnScope NX_k37_law ["_law_script"] (defScope (top 46)) := ⟨rfl, rfl, rfl, by decide +kernel, rfl, by decide +kernel, by decide +kernel⟩
theorem ok_law {P : Program} {w : World} {K : PySem.W.Frag} {mg : PySem.Str → Option Value} (Z : Sy FS DS K mg) : ∃ fd, (∀ (s : Shared) (u : Value), BindsTo s fd ⟨[u], []⟩ [("_law_script", u)]) ∧ ∀ base : Heap, Tb K mg base ⟨fun _ => 0, TF.map fun d => ((He.cT K d.1).2, lamQ d.2), [], []⟩ TF → FnOk P w K mg base (L2.CX P w) 9 (He.ga K "law") fd ["_law_script"] (spM K (caT K TF) m_k37_law) := by
  exact Z.lawT (N := NX_k37_law) 35 rfl sc_k37_law rfl (fun _ _ _ _ _ _ us hl => match us, hl with | [_], _ => rfl) (fun base f T => fun cdv A outer s H E b => by
    have nd := sc_k37_law.nd
    exact ms_cons (ms_set 1 nd (me_fnK (ok_l_random Z) b (ma_cons (me_var 0) (ma_cons (me_int) (ma_nil))))) (ms_cons (ms_set 2 nd (me_fn (ok_l_parts Z) b (ma_cons (me_var 1) (ma_cons (me_int) (ma_nil))))) (ms_cons (ms_tg (.t [3, 4, 5, 6]) (mg_tup b.calm (mgs_cons (mg_name 3 nd) (mgs_cons (mg_name 4 nd) (mgs_cons (mg_name 5 nd) (mgs_cons (mg_name 6 nd) (mgs_nil)))))) (me_tup (ma_cons (me_ix (me_var 2) (me_int)) (ma_cons (me_op om_add (me_int) (me_op om_mod (me_callTy bm_int (Z.free 9) (ma_cons (me_ix (me_var 2) (me_int)) (ma_nil))) (me_int))) (ma_cons (me_ix (me_var 2) (me_int)) (ma_cons (me_ix (me_var 2) (me_int)) (ma_nil))))))) (ms_cons (ms_set 6 nd (me_callTy bm_tuple (Z.free 7) (ma_cons (me_lcB [8] b nd (mi_tup (me_var 6)) (blkOk_by (own := [("_law_trip_here", 8)]) (N := NX_k37_law) (sc := defScope (top 46)) (by decide +kernel)) rfl (fun _ _ _ _ _ b => mg_name 8 nd) (fun _ _ _ _ _ b => mts_nil) (fun _ _ _ _ _ b => me_op om_add (me_tup (ma_cons (me_op om_mod (me_callTy bm_int (Z.free 9) (ma_cons (me_ix (me_var 8) (me_int)) (ma_nil))) (me_var 4)) (ma_nil))) (me_cut (me_var 8) (mo_some (me_int)) (mo_none)))) (ma_nil)))) (ms_cons (ms_set 7 nd (me_lst (ma_nil))) (ms_cons (ms_for (passes_of rfl) b.calm (mi_tup (me_var 6)) (mg_name 8 nd) (ms_one (ms_set 7 nd (me_op om_add (me_var 7) (me_lst (ma_cons (me_var 8) (ma_cons (me_op om_add (me_tup (ma_cons (me_op om_add (me_ix (me_var 8) (me_int)) (me_var 4)) (ma_nil))) (me_cut (me_var 8) (mo_some (me_int)) (mo_none))) (ma_nil)))))))) (ms_cons (ms_par2 9 10 b.calm nd (ma_cons (me_fn (ok_l_made Z) b (ma_cons (me_tup (ma_cons (me_var 3) (ma_cons (me_var 4) (ma_cons (me_var 5) (ma_cons (me_var 6) (ma_nil)))))) (ma_nil))) (ma_cons (me_fn (ok_l_made Z) b (ma_cons (me_tup (ma_cons (me_var 3) (ma_cons (me_op om_mul (me_int) (me_var 4)) (ma_cons (me_var 5) (ma_cons (me_callTy bm_tuple (Z.free 7) (ma_cons (me_var 7) (ma_nil))) (ma_nil)))))) (ma_nil))) (ma_nil)))) (ms_cons (ms_if (mt_bool (mw_or (mt_cmp om_notN (me_fn (ok_first_difference Z) b (ma_cons (me_var 9) (ma_cons (me_var 10) (ma_nil)))) (me_non)) (mw_or1 (mt_cmp om_notN (me_fn (ok_first_difference Z) b (ma_cons (me_var 10) (ma_cons (me_var 9) (ma_nil)))) (me_non))))) (ms_one (ms_ret (me_bl))) (ms_nil)) (ms_cons (ms_for (passes_of rfl) b.calm (mi_list (me_lst (ma_cons (me_fn (ok_l_below Z) b (ma_cons (me_var 1) (ma_cons (me_int) (ma_nil)))) (ma_cons (me_fn (ok_l_below Z) b (ma_cons (me_var 1) (ma_cons (me_int) (ma_nil)))) (ma_cons (me_fn (ok_l_some_tick Z) b (ma_cons (me_var 1) (ma_nil))) (ma_nil)))))) (mg_name 11 nd) (ms_cons (ms_if (mt_bool (mw_or (mt_cmp (om_ne b.hr.units) (me_fn (ok_light Z) b (ma_cons (me_var 9) (ma_cons (me_var 11) (ma_nil)))) (me_fn (ok_light Z) b (ma_cons (me_var 10) (ma_cons (me_var 11) (ma_nil))))) (mw_or1 (mt_cmp (om_ne b.hr.units) (me_fn (ok_count_lit Z T) b (ma_cons (me_var 9) (ma_cons (me_var 11) (ma_nil)))) (me_fn (ok_count_lit Z T) b (ma_cons (me_var 10) (ma_cons (me_var 11) (ma_nil)))))))) (ms_one (ms_ret (me_bl))) (ms_nil)) (ms_cons (ms_if (mt_cmp (om_ne b.hr.units) (me_fn (ok_count_presses Z T) b (ma_cons (me_var 9) (ma_cons (me_var 11) (ma_nil)))) (me_fn (ok_count_presses Z T) b (ma_cons (me_var 10) (ma_cons (me_var 11) (ma_nil))))) (ms_one (ms_ret (me_bl))) (ms_nil)) (ms_one (ms_if (mt_cmp (om_ne b.hr.units) (me_sortset b.calm (Z.free 81) (Z.free 82) (me_lcB [15] b nd (mi_list (me_fn (ok_in_dark Z) b (ma_cons (me_var 10) (ma_cons (me_var 11) (ma_nil))))) (blkOk_by (own := [("_law_number", 15)]) (N := NX_k37_law) (sc := defScope (top 46)) (by decide +kernel)) rfl (fun _ _ _ _ _ b => mg_name 15 nd) (fun _ _ _ _ _ b => mts_nil) (fun _ _ _ _ _ b => me_op om_fdiv (me_var 15) (me_int)))) (me_fn (ok_in_dark Z) b (ma_cons (me_var 9) (ma_cons (me_var 11) (ma_nil))))) (ms_one (ms_ret (me_bl))) (ms_nil)))))) (ms_cons (ms_if (mt_bool (mw_or (mt_cmp (om_ne b.hr.units) (me_fn (ok_bright_times Z) b (ma_cons (me_var 9) (ma_nil))) (me_fn (ok_bright_times Z) b (ma_cons (me_var 10) (ma_nil)))) (mw_or1 (mt_cmp (om_ne b.hr.units) (me_cmp om_isN (me_fn (ok_first_dark Z) b (ma_cons (me_var 9) (ma_nil))) (me_non)) (me_cmp om_isN (me_fn (ok_first_dark Z) b (ma_cons (me_var 10) (ma_nil))) (me_non)))))) (ms_one (ms_ret (me_bl))) (ms_nil)) (ms_cons (ms_setLcB 12 [14] b nd (mi_tup (me_tup (ma_cons (me_var 9) (ma_cons (me_var 10) (ma_nil))))) (blkOk_by (own := [("_law_stairs", 14)]) (N := NX_k37_law) (sc := defScope (top 46)) (by decide +kernel)) rfl (fun _ _ _ _ _ b => mg_name 14 nd) (fun _ _ _ _ _ b => mts_nil) (fun _ _ _ _ _ b => me_lcZ [11, 15, 16] (okz_presses_between Z) b nd (ma_cons (me_var 14) (ma_cons (me_int) (ma_cons (me_int) (ma_nil)))) (blkOk_by (own := [("_law_tick", 11), ("_law_number", 15), ("_law_floor", 16)]) (N := NX_k37_law) (by rfl)) (by decide +kernel) rfl (fun _ _ _ _ _ => mqg_tup b.calm (mqgs_cons (mqg_name 11 nd) (mqgs_cons (mqg_name 15 nd) (mqgs_cons (mqg_name 16 nd) (mqgs_nil))))) (fun _ _ _ _ _ => mq_tup (mqa_cons (mq_var 11) (mqa_cons (mq_var 16) (mqa_nil)))))) (ms_cons (ms_setLcB 13 [8] b nd (mi_tup (me_var 6)) (blkOk_by (own := [("_law_trip_here", 8)]) (N := NX_k37_law) (sc := defScope (top 46)) (by decide +kernel)) rfl (fun _ _ _ _ _ b => mg_name 8 nd) (fun _ _ _ _ _ b => mts_nil) (fun _ _ _ _ _ b => me_ix (me_var 8) (me_int))) (ms_one (ms_ret (me_or (me_cmp om_inQ (me_str) (me_var 13)) (me_one (me_cmp (om_eq b.hr.units) (me_callB (bm_sortD b.hr.units) (Z.free 81) (ma_cons (me_ix (me_var 12) (me_int)) (ma_nil))) (me_callB (bm_sortD b.hr.units) (Z.free 81) (ma_cons (me_ix (me_var 12) (me_int)) (ma_nil))))))))))))))))))))
end SL
namespace SL
open PySem PySem.Spec PyProof.Rows L2
def nm0 : List PySem.Str := ["_wall", "LightError", "InvalidStairs", "InvalidTick", "MAX_TOP", "MAX_ROUND", "MAX_TIME", "MAX_TRIPS", "MAX_PACE", "MAX_TICK", "DARK", "ALWAYS", "NEVER", "HABITS", "is_int_in", "Trip", "is_trip", "Stairs", "check_tick", "MAX_LISTED", "Scene", "next_scene", "Story", "light", "presses_between", "count_presses", "count_lit", "common_multiple", "first_difference", "in_dark"]
def nm1 : List PySem.Str := ["first_dark", "is_bright", "bright_times", "_law_random", "_law_below", "_law_trip", "_law_parts", "_law_made", "_law_some_tick"]
def names : List PySem.Str := nm0 ++ nm1
abbrev RR : PySem.W.OpenRow := PySem.W.OpenLaw.row PySem.Challenge.rw_stairlights_k37_whole_doubled_rounds
abbrev hk : PySem.W.Hook := hookQ 8 FS DS TF
def ob (s : PySem.W.SharedT) : AlP × Bool := obsQ 8 FS DS TF (HandSHeadRun.getT s)
theorem ob_eq (s : PySem.W.SharedT) : ob s = hk.obs s.abs := obsQ_eq (HandSHeadRun.getT_eq s)
theorem run (w : World) : HandSHeadRun.RunEq RR (PySem.W.view RR.prog [46]) hk ob 20000 names w := by
  intro os
  kernel_rfl
end SL
open PySem PySem.W PySem.Calls PyProof.Rows
theorem PySem.Challenge.cw_stairlights_k37_whole_doubled_rounds_holds : PySem.Challenge.rw_stairlights_k37_whole_doubled_rounds.Holds := by
  w_on; o_law
  refine HandSHeadRun.head_any (r := OpenLaw.row PySem.Challenge.rw_stairlights_k37_whole_doubled_rounds) (q := view (OpenLaw.row PySem.Challenge.rw_stairlights_k37_whole_doubled_rounds).prog [46]) (H := SL.hk) (ob := SL.ob) (M := 20000) (loose := SL.names) (d := HandSHeadRun.topDef (OpenLaw.row PySem.Challenge.rw_stairlights_k37_whole_doubled_rounds).prog 46) (kwd := []) SL.ob_eq
    (by kernel_rfl) (fun s => by kernel_rfl) SL.run (by kernel_rfl) (by kernel_rfl) (by kernel_rfl) (by rfl) (by first | assumption | decide +kernel) (by decide +kernel) ⟨rfl, rfl, rfl, rfl, rfl, by decide +kernel⟩ ?hw ?hc
  case hw => w_witness2
  case hc =>
    refine SL.walk_slT (l := PySem.Challenge.rw_stairlights_k37_whole_doubled_rounds) (n := 63) (k := 9) (x := "_law_script") rfl (by decide) (by kernel_rfl) ⟨rfl, by decide, by decide⟩ ?F
    case F =>
      intro w mg fa h Y G hmg0
      obtain ⟨K, KX, c⟩ := Y
      have hmg : mg ("law" : PySem.Str) = some (.ref fa) := by
        have e : (HandSHeadRun.topDef (OpenLaw.row PySem.Challenge.rw_stairlights_k37_whole_doubled_rounds).prog 46).name = ("law" : PySem.Str) := by kernel_rfl
        rw [← e]
        exact hmg0
      have Z : SL.Sy SL.FS SL.DS K mg := ⟨⟨h, KX, G⟩, c.p⟩
      have e2 := hmg.symm.trans (Z.glo 0)
      cases e2
      obtain ⟨fd, hb, hF⟩ := SL.ok_law (P := (PySem.Challenge.rw_stairlights_k37_whole_doubled_rounds).prog) (w := w) Z
      refine ⟨K, fd, _, SL.TF.map fun d => He.cT K d.1, KX, fun p hp => ?_, fun p hp => ?_, fun p hp => ?_, hb, fun H a ns hl hT hS => ?_, fun base _ _ hB => hF base (SL.tb_start c fun d hd => hB _ (List.mem_map_of_mem hd))⟩
      · obtain ⟨d, hd, rfl⟩ := List.mem_map.mp hp
        exact c.empty d hd
      · obtain ⟨d, hd, rfl⟩ := List.mem_map.mp hp
        exact c.out d hd
      · obtain ⟨d, hd, rfl⟩ := List.mem_map.mp hp
        exact codeHd_of_K KX (c.hd d hd)
      · obtain ⟨S', e⟩ := SL.k37_law_is ns hl
        refine SL.law_spT (fun p hp => ?_) rfl hS e
        obtain ⟨d, hd, rfl⟩ := List.mem_map.mp hp
        exact hT _ (List.mem_map_of_mem hd)
